import PyProof.Rows.All
import Wide.All
import OpenK.AllK
import Wide.FinOn
import HandS.ExcCtx
import HandS.ForMost
import HandS.ForExc
import HandS.TupAny
import HandS.Rev
import HandS.RevRange
import HandS.Conv
import HandS.Zip
import HandS.IsInst
import HandS.Defaults
import HandS.CallSlots
import HandS.HeadEnd
import HandS.Head0
import HandS.Head1
import HandS.Head2
import HandS.HeadHook1
import HandS.HeadHook2
import HandS.EndBits
import KE.GoesMore
import KE.GoesZip
import HandS.RevTup
import PyProof.ListRange
import HandS.More
import HandS.HeadHook3
import HandS.ExcInit
import HandS.ExcOwn
import HandS.ExcField
import HandS.HotCalls
import HandS.ExcInitHot
import KE.KExcIs
import HandS.TupMul
import HandS.SortInts
import HandS.SortKw
import KE.DataMinMax
import Wide.Txt2
import HandS.MapObj
import PySem.Challenge.RW_loomarrays_k16_wanted_and_kept
set_option Elab.async false
set_option linter.all false
set_option maxRecDepth 100000
set_option maxHeartbeats 4000000
/-! What the run of the top asks. -/
namespace LM
open PySem L2 L2H
abbrev AlL : Type := He.AlT × Bool
def obsL (fa : List He.Fa) (fn : List He.DefD) (ts : List He.Tab) (ck : PySem.W.Frag → Bool) (K : PySem.W.Frag) : AlL := (He.obsT fa fn ts K, ck K)
def obsLG (n : Nat) (fa : List He.Fa) (fn : List He.DefD) (ts : List He.Tab) (ck : PySem.W.Frag → Bool) (g : Addr → Option Obj) : AlL := obsL fa fn ts ck (He.frG g (He.asD g n))
def SaysL (fa : List He.Fa) (fn : List He.DefD) (ts : List He.Tab) (ck : PySem.W.Frag → Bool) (w : World) (K : PySem.W.Frag) : Prop := obsL fa fn ts ck K = (He.valT fn ts w, true)
def hookL (n : Nat) (fa : List He.Fa) (fn : List He.DefD) (ts : List He.Tab) (ck : PySem.W.Frag → Bool) : PySem.W.Hook where
  α := AlL
  obs := fun s => obsLG n fa fn ts ck s.heap.get?
  val := fun w => (He.valT fn ts w, true)
  says := fun w h => ∃ K : PySem.W.Frag, K.In h ∧ SaysL fa fn ts ck w K
  of := fun _ _ e => ⟨_, He.frG_in, e⟩
  keeps := fun _ _ _ ⟨K, hK, c⟩ k => ⟨K, PySem.W.Frag.In.keeps hK k, c⟩
theorem obsLG_is {n : Nat} {fa : List He.Fa} {fn : List He.DefD} {ts : List He.Tab} {ck : PySem.W.Frag → Bool} {g : Addr → Option Obj} {s : Shared} (h : ∀ a, g a = s.heap.get? a) : obsLG n fa fn ts ck g = (hookL n fa fn ts ck).obs s := by
  have e : g = s.heap.get? := funext h
  rw [e]
  rfl
inductive Te where
  | fn (x : Str) (id : Nat)
  | tup (l : List Int)
  | int (i : Int)
def isInts : List Int → List Value → Bool
  | [], [] => true
  | i :: r, .int j _ :: s => decide (i = j) && isInts r s
  | _, _ => false
def Te.is (K : PySem.W.Frag) : Te → Value → Bool
  | .fn x _, .ref a => decide (a = He.ga K x)
  | .tup l, .ref a => (match K.lookup a with
    | some ⟨.type c, _, .seq its _, _⟩ => decide (c = "tuple") && (Nat.ble its.size 1000 && isInts l its.toList)
    | _ => false)
  | .int i, .int j _ => decide (i = j)
  | _, _ => false
def tabB (K : PySem.W.Frag) (a : Addr) (es : List (Str × Te)) : Bool := es.all fun q => match PySem.W.nsIn K a q.1 with
  | some (some u) => q.2.is K u
  | _ => false
def oexB (K : PySem.W.Frag) (C : Addr) : Bool := (match K.lookup C with
  | some ⟨.type t, _, .cls cd, sl⟩ => decide (t = "type") && (match cd.mro, sl.toList with
    | .ref C' :: bm, [_, _, _, _, some (.builtin n), _] => decide (C' = C) && (decide (n = "ValueError.__new__") && (!cd.hasDel && (cd.hasDict && PySem.HandSPX.refsVE bm)))
    | _, _ => false)
  | _ => false) && (decide (PySem.W.findIn K (.ref C) "__setattr__" = some (some (.builtin "object.__setattr__"))) && (decide (PySem.W.subIn K (.ref C) (.type "BaseException") = some true) && (decide (PySem.W.typeIn K (.ref C) = some (.type "type")) && PySem.W.keepIn K (.ref C))))
abbrev CkL := List (PySem.W.Frag → Bool)
def ckAll (l : CkL) (K : PySem.W.Frag) : Bool := l.all fun b => b K
def eoB (fs : List Str) (C : Addr) (K : PySem.W.Frag) : Bool := oexB K C && (decide (PySem.W.findIn K (.ref C) "__init__" = some (some (.ref (He.ma K C "__init__")))) && (decide (PySem.W.typeIn K (.ref (He.ma K C "__init__")) = some (.type "function")) && fs.all fun f => decide (PySem.W.findIn K (.ref C) f = some none)))
def xfKB (f : Str) (C : Addr) (K : PySem.W.Frag) : Bool := xfB K C && decide (PySem.W.findIn K (.ref C) f = some none)
def xiB (C : Addr) (cv : Value) (r : Bool) (K : PySem.W.Frag) : Bool := ((PySem.W.clsIn K C).isSome && (decide (PySem.W.findIn K (.ref C) "__getattribute__" = some (some (.builtin "BaseException.__getattribute__"))) && (decide (PySem.W.findIn K (.ref C) "__getattr__" = some none) && decide (PySem.W.subIn K (.ref C) (.type "BaseException") = some true)))) &&
  ((decide (PySem.W.findIn K (.ref C) "__class__" = some (some (.builtin "object.__class__"))) && (decide (PySem.W.specialIn K (.builtin "object.__class__") "__get__" = some (some (.builtin "getset_descriptor.__get__"))) && decide (PySem.W.takesIn K (.builtin "object.__class__") = some true))) &&
  (decide (PySem.W.mroIn K C (.type "object") = some true) && decide (PySem.W.kitOne K (.ref C) cv = some r)))
def ckB (cA : PySem.W.Frag → Nat → Addr) (cv : Nat) (tab : List (Nat × Bool)) (K : PySem.W.Frag) : Bool := tab.all fun q => decide (PySem.W.exmOne K (.ref (cA K q.1)) (.ref (cA K cv)) = some q.2)
def eo0B (C : Addr) (K : PySem.W.Frag) : Bool := PySem.W.excIn K C [.type "ValueError", .type "Exception", .type "BaseException", .type "object"] "ValueError.__new__" && (PySem.W.keepIn K (.ref C) && (decide (PySem.W.subIn K (.ref C) (.type "BaseException") = some true) && decide (PySem.W.typeIn K (.ref C) = some (.type "type"))))
def clsB (C : Addr) (K : PySem.W.Frag) : Bool := PySem.W.plainGet K C Str.empty && (PySem.W.hasDictIn K C && (PySem.W.plainOver K C && decide (PySem.W.findIn K (.ref C) "__setattr__" = some (some (.builtin "object.__setattr__")))))
def isB (c C : Addr) (r : Bool) (K : PySem.W.Frag) : Bool := clsB c K && (decide (PySem.W.findIn K (.ref c) "__class__" = some (some (.builtin "object.__class__"))) && (decide (PySem.W.specialIn K (.builtin "object.__class__") "__get__" = some (some (.builtin "getset_descriptor.__get__"))) && (decide (PySem.W.takesIn K (.builtin "object.__class__") = some true) &&
  (decide (PySem.W.mroIn K c (.type "object") = some true) && decide (PySem.W.kitOne K (.ref c) (.ref C) = some r)))))
def mayB (fs : List Str) (C : Addr) (K : PySem.W.Frag) : Bool := clsB C K && fs.all fun f => decide (PySem.W.findIn K (.ref C) f = some none)
def methB (C D : Addr) (m : Str) (K : PySem.W.Frag) : Bool := clsB C K && (decide (PySem.W.findIn K (.ref C) m = some (some (.ref (He.ma K D m)))) && (PySem.W.isFn K (.ref (He.ma K D m)) && PySem.W.keepIn K (.ref (He.ma K D m))))
def mkB (C D : Addr) (K : PySem.W.Frag) : Bool := PySem.W.makesIn K C && (decide (PySem.W.findIn K (.ref C) "__init__" = some (some (.ref (He.ma K D "__init__")))) && (PySem.W.isFn K (.ref (He.ma K D "__init__")) && PySem.W.keepIn K (.ref C)))
def isStrs : List Str → List Value → Bool
  | [], [] => true
  | i :: r, .str j _ :: s => decide (i = j) && isStrs r s
  | _, _ => false
def cstB (a : Addr) (l : List Str) (K : PySem.W.Frag) : Bool := match K.lookup a with
  | some ⟨.type c, _, .seq its _, _⟩ => decide (c = "tuple") && (Nat.ble its.size 1000 && isStrs l its.toList)
  | _ => false
end LM

namespace LM
open PySem L2
def topS (i : Nat) : Stmt := PySem.Challenge.pw_loomarrays_k16_wanted_and_kept.main.body.getD i (.Pass ⟨0, 0, 0, 0⟩)
def tab_READS : List (Str × Te) := [("given", .tup []), ("even", .tup []), ("turn", .tup [1]), ("cut", .tup [1]), ("drop", .tup [1]), ("wide", .tup [1]), ("spread", .tup [1]), ("shape", .tup [1]), ("shift", .tup [1]), ("one", .tup [2]), ("both", .tup [2, 3]), ("where", .tup [1, 2, 3]), ("fold", .tup [2]), ("run", .tup [2]), ("pick", .tup [1, 3]), ("join", .tup [1, 2])]
def dRec (x : Str) (i : Nat) : He.DefD := ⟨(x, none), x, x, defArgs (topS i), defBody (topS i), defScope (topS i), [], []⟩
def fns_0 : List He.DefD := [dRec "read_by" 2, dRec "wanted_lines" 5, dRec "times_read" 6, dRec "kept_lines" 7, dRec "_law_taken" 9, dRec "_law_cells" 10, dRec "_law_met" 11, dRec "_law_changed" 12, dRec "_law_view" 13, dRec "_law_sided" 14, dRec "_law_more" 15, dRec "_law_program" 16, dRec "_law_reads" 17, dRec "_law_wanted" 18, dRec "_law_kept" 19, dRec "_law_truths" 20, dRec "law" 21]
def fns_ : List He.DefD := fns_0
def fa_0 : List He.Fa := [.glo "read_by", .glo "wanted_lines", .glo "times_read", .glo "kept_lines", .glo "_law_taken", .glo "_law_cells", .glo "_law_met", .glo "_law_changed", .glo "_law_view", .glo "_law_sided", .glo "_law_more", .glo "_law_program", .glo "_law_reads", .glo "_law_wanted", .glo "_law_kept", .glo "_law_truths", .glo "law", .free "len", .free "range", .free "tuple"]
def fa_1 : List He.Fa := [.free "list", .free "int", .free "bool", .free "str", .free "isinstance", .free "max", .free "min", .free "sum", .free "zip", .free "reversed", .free "enumerate", .free "sorted", .free "set", .free "dict", .free "ValueError", .free "any", .free "all", .glo "READS", .glo "ALWAYS"]
def fa_ : List He.Fa := fa_0 ++ fa_1
def lo_0 : List Str := ["read_by", "wanted_lines", "times_read", "kept_lines", "_law_taken", "_law_cells", "_law_met", "_law_changed", "_law_view", "_law_sided", "_law_more", "_law_program", "_law_reads", "_law_wanted", "_law_kept", "_law_truths", "READS", "ALWAYS"]
abbrev lo_ : List Str := lo_0
abbrev R_ : PySem.W.OpenRow := PySem.W.OpenLaw.row PySem.Challenge.rw_loomarrays_k16_wanted_and_kept
def cnames : List Str := []
def cAd (K : PySem.W.Frag) (i : Nat) : Addr := He.ga K (cnames.getD i Str.empty)
def cfl (i : Nat) : List Str := ([] : List (List Str)).getD i []
def cks_ : CkL := [fun K => tabB K (He.ga K "READS") tab_READS, fun K => cstB (He.ga K "ALWAYS") [Str.ofString "given", Str.ofString "fold", Str.ofString "run", Str.ofString "pick"] K]
def ts_ : List He.Tab := [(fun K => He.ga K "READS", ["given", "even", "turn", "cut", "drop", "wide", "spread", "shape", "shift", "one", "both", "where", "fold", "run", "pick", "join"])]
def ck_ (K : PySem.W.Frag) : Bool := ckAll cks_ K
abbrev hk_ : PySem.W.Hook := hookL 4 fa_ fns_ ts_ ck_
def ob_ (s : PySem.W.SharedT) : AlL := obsLG 4 fa_ fns_ ts_ ck_ (HandSHeadRun.getT s)
theorem ob_is (s : PySem.W.SharedT) : ob_ s = hk_.obs s.abs := obsLG_is (HandSHeadRun.getT_eq s)
theorem run_a (w : World) : (fun w => HandSHeadRun.RunEq R_ (PySem.W.view R_.prog [21]) hk_ ob_ 1720 lo_ w) (w.withFollow "special-get-raises" false) := by
  intro os
  kernel_rfl
theorem run_b (w : World) : (fun w => HandSHeadRun.RunEq R_ (PySem.W.view R_.prog [21]) hk_ ob_ 1720 lo_ w) (w.withFollow "special-get-raises" true) := by
  intro os
  kernel_rfl
theorem run_ (w : World) : HandSHeadRun.RunEq R_ (PySem.W.view R_.prog [21]) hk_ ob_ 1720 lo_ w :=
  PySem.W.byRow2 "special-get-raises" (P := fun w => HandSHeadRun.RunEq R_ (PySem.W.view R_.prog [21]) hk_ ob_ 1720 lo_ w) run_a run_b w
end LM
/-! Data values, the machine of the mirror, and what stands for what. -/
namespace LM
open PySem L2

/-- a value told as data; lists and objects that are never changed again are data, too -/
inductive DV where
  | non | bl (b : Bool) | int (i : Int) | str (s : Str)
  | tup (l : List DV)
  | lst (l : List DV)
  | scr (l : List Int)
  | dct (ks : List Int) (l : List DV)
  | obj (c : Nat) (l : List DV)
  | fn (f : Nat)
  | ref (p : Nat)
  deriving Inhabited

/-- an object that may still be changed -/
inductive HObj where
  | lst (l : List DV)
  | obj (c : Nat) (l : List DV)
  deriving Inhabited

abbrev HP := List HObj
structure Ex where
  c : Nat
  l : List DV
  deriving Inhabited

inductive Res (α : Type) where
  | ok (a : α) (h : HP)
  | exc (e : Ex) (h : HP)
  | bad

def M (α : Type) : Type := HP → Res α
namespace M
@[inline] def pure {α : Type} (a : α) : M α := fun h => .ok a h
@[inline] def bind {α β : Type} (m : M α) (k : α → M β) : M β := fun h => match m h with
  | .ok a h' => k a h'
  | .exc e h' => .exc e h'
  | .bad => .bad
def bad {α : Type} : M α := fun _ => .bad
instance : Monad M where
  pure := M.pure
  bind := M.bind
theorem ext {α : Type} {m n : M α} (e : ∀ h, m h = n h) : m = n := funext e
theorem bind_def {α β : Type} (m : M α) (k : α → M β) (h : HP) : (m >>= k) h = (match m h with
  | .ok a h' => k a h'
  | .exc e h' => .exc e h'
  | .bad => .bad) := rfl
theorem pure_def {α : Type} (a : α) (h : HP) : (Pure.pure a : M α) h = .ok a h := rfl
theorem bad_def {α : Type} (h : HP) : (M.bad : M α) h = .bad := rfl
instance : LawfulMonad M := LawfulMonad.mk'
  (id_map := fun m => ext fun h => by
    show M.bind m (fun a => M.pure a) h = m h
    unfold M.bind M.pure
    cases m h <;> rfl)
  (pure_bind := fun a k => rfl)
  (bind_assoc := fun m k j => ext fun h => by
    show M.bind (M.bind m k) j h = M.bind m (fun a => M.bind (k a) j) h
    unfold M.bind
    cases m h <;> rfl)
theorem bad_bind {α β : Type} (k : α → M β) : ((M.bad : M α) >>= k) = M.bad := rfl
end M

/-! ### what stands for what -/
structure Glue where
  K : PySem.W.Frag
  fA : Nat → Addr
  cA : Nat → Addr
  flds : Nat → List Str
/-- the objects that stay for ever; where the changing ones lie -/
structure Wd where
  F : Addr → Prop
  r : List Addr

/-- the script: locked, or an object of the top -/
def SqS (K : PySem.W.Frag) (H : Hp) (a : Addr) (xs : List V) : Prop :=
  (∃ o, H a = some (.frz o (.lst xs))) ∨
    ∃ (o : Obj) (its : Array Value) (n : Nat), K.lookup a = some o ∧ o.cls = .type "list" ∧ o.dict = none ∧ o.data = .seq its n ∧ its.size ≤ sizeLine ∧ Vals xs its.toList
theorem SqS.l {K : PySem.W.Frag} {H : Hp} {a : Addr} {xs : List V} (h : SqS K H a xs) : SqL K H a xs := by
  rcases h with h | h
  · exact .inl (.inr h)
  · exact .inr h

mutual
def Rep (g : Glue) (W : Wd) (H : Hp) : DV → V → Prop
  | .non, v => v = .non
  | .bl b, v => v = .bl b
  | .int i, v => v = .int i
  | .str s, v => v = .str s
  | .tup l, v => ∃ a vs, v = .ref a ∧ SqT g.K H a vs ∧ Reps g W H l vs
  | .lst l, v => ∃ a vs, v = .ref a ∧ W.F a ∧ H a = some (.lst vs) ∧ Reps g W H l vs
  | .scr l, v => ∃ a, v = .ref a ∧ SqS g.K H a (l.map V.int)
  | .dct ks l, v => ∃ a vs, v = .ref a ∧ W.F a ∧ H a = some (.dK ((ks.map Sum.inl).zip vs)) ∧ ks.length = vs.length ∧ Reps g W H l vs
  | .obj c l, v => ∃ a dx vs, v = .ref a ∧ W.F a ∧ H a = some (.ins (g.cA c) dx ((g.flds c).zip vs)) ∧ vs.length ≤ (g.flds c).length ∧ Reps g W H l vs
  | .fn f, v => v = .ref (g.fA f)
  | .ref p, v => ∃ a, v = .ref a ∧ W.r[p]? = some a
def Reps (g : Glue) (W : Wd) (H : Hp) : List DV → List V → Prop
  | [], vs => vs = []
  | d :: ds, vs => ∃ v r, vs = v :: r ∧ Rep g W H d v ∧ Reps g W H ds r
end

/-- a later heap, all that is data being as it was -/
structure Per (W : Wd) (H : Hp) (W' : Wd) (H' : Hp) : Prop where
  f : ∀ a, W.F a → W'.F a
  r : ∀ (p : Nat) (a : Addr), W.r[p]? = some a → W'.r[p]? = some a
  h : ∀ a, W.F a → H' a = H a
  t : ∀ a xs, H a = some (.tup xs) → H' a = some (.tup xs)
  z : ∀ a o u, H a = some (.frz o u) → H' a = some (.frz o u)
theorem Per.refl (W : Wd) (H : Hp) : Per W H W H := ⟨fun _ h => h, fun _ _ h => h, fun _ _ => rfl, fun _ _ h => h, fun _ _ _ h => h⟩
theorem Per.trans {W W1 W2 : Wd} {H H1 H2 : Hp} (a : Per W H W1 H1) (b : Per W1 H1 W2 H2) : Per W H W2 H2 :=
  ⟨fun x h => b.f x (a.f x h), fun p x h => b.r p x (a.r p x h), fun x h => (b.h x (a.f x h)).trans (a.h x h), fun x xs h => b.t x xs (a.t x xs h), fun x o u h => b.z x o u (a.z x o u h)⟩
theorem Per.sqT {K : PySem.W.Frag} {W W' : Wd} {H H' : Hp} {a : Addr} {xs : List V} (p : Per W H W' H') (h : SqT K H a xs) : SqT K H' a xs := by
  rcases h with (h | ⟨o, h⟩) | h
  · exact .inl (.inl (p.t _ _ h))
  · exact .inl (.inr ⟨o, p.z _ _ _ h⟩)
  · exact .inr h
theorem Per.sqS {K : PySem.W.Frag} {W W' : Wd} {H H' : Hp} {a : Addr} {xs : List V} (p : Per W H W' H') (h : SqS K H a xs) : SqS K H' a xs := by
  rcases h with ⟨o, h⟩ | h
  · exact .inl ⟨o, p.z _ _ _ h⟩
  · exact .inr h
mutual
theorem Rep.per {g : Glue} {W W' : Wd} {H H' : Hp} (p : Per W H W' H') : ∀ (d : DV) (v : V), Rep g W H d v → Rep g W' H' d v
  | .non, _, h => by simpa only [Rep] using h
  | .bl _, _, h => by simpa only [Rep] using h
  | .int _, _, h => by simpa only [Rep] using h
  | .str _, _, h => by simpa only [Rep] using h
  | .tup l, v, h => by
    simp only [Rep] at h ⊢
    obtain ⟨a, vs, e, s, r⟩ := h
    exact ⟨a, vs, e, p.sqT s, Reps.per p l vs r⟩
  | .lst l, v, h => by
    simp only [Rep] at h ⊢
    obtain ⟨a, vs, e, f, s, r⟩ := h
    exact ⟨a, vs, e, p.f a f, (p.h a f).trans s, Reps.per p l vs r⟩
  | .scr l, v, h => by
    simp only [Rep] at h ⊢
    obtain ⟨a, e, s⟩ := h
    exact ⟨a, e, p.sqS s⟩
  | .dct ks l, v, h => by
    simp only [Rep] at h ⊢
    obtain ⟨a, vs, e, f, s, n, r⟩ := h
    exact ⟨a, vs, e, p.f a f, (p.h a f).trans s, n, Reps.per p l vs r⟩
  | .obj c l, v, h => by
    simp only [Rep] at h ⊢
    obtain ⟨a, dx, vs, e, f, s, n, r⟩ := h
    exact ⟨a, dx, vs, e, p.f a f, (p.h a f).trans s, n, Reps.per p l vs r⟩
  | .fn _, _, h => by simpa only [Rep] using h
  | .ref q, v, h => by
    simp only [Rep] at h ⊢
    obtain ⟨a, e, s⟩ := h
    exact ⟨a, e, p.r _ _ s⟩
theorem Reps.per {g : Glue} {W W' : Wd} {H H' : Hp} (p : Per W H W' H') : ∀ (l : List DV) (vs : List V), Reps g W H l vs → Reps g W' H' l vs
  | [], _, h => by simpa only [Reps] using h
  | d :: ds, vs, h => by
    simp only [Reps] at h ⊢
    obtain ⟨v, r, e, h1, h2⟩ := h
    exact ⟨v, r, e, Rep.per p d v h1, Reps.per p ds r h2⟩
end
theorem Reps.len {g : Glue} {W : Wd} {H : Hp} : ∀ {l : List DV} {vs : List V}, Reps g W H l vs → l.length = vs.length
  | [], _, h => by
    simp only [Reps] at h
    rw [h]
    rfl
  | d :: ds, vs, h => by
    simp only [Reps] at h
    obtain ⟨v, r, e, _, h2⟩ := h
    rw [e, List.length_cons, List.length_cons, Reps.len h2]
theorem Reps.get {g : Glue} {W : Wd} {H : Hp} : ∀ {l : List DV} {vs : List V} {i : Nat} {d : DV}, Reps g W H l vs → l[i]? = some d → ∃ v, vs[i]? = some v ∧ Rep g W H d v
  | [], _, _, _, _, e => by simp at e
  | x :: ds, vs, i, d, h, e => by
    simp only [Reps] at h
    obtain ⟨v, r, e1, h1, h2⟩ := h
    subst e1
    cases i with
    | zero =>
      have : x = d := by simpa using e
      subst this
      exact ⟨v, rfl, h1⟩
    | succ i => exact Reps.get (i := i) h2 (by simpa using e)
theorem Reps.getV {g : Glue} {W : Wd} {H : Hp} {l : List DV} {vs : List V} {i : Nat} {v : V} (h : Reps g W H l vs) (e : vs[i]? = some v) : ∃ d, l[i]? = some d ∧ Rep g W H d v := by
  have hi : i < l.length := by
    rw [h.len]
    exact (List.getElem?_eq_some_iff.mp e).1
  obtain ⟨w, e2, r⟩ := h.get (List.getElem?_eq_getElem hi)
  rw [e] at e2
  cases e2
  exact ⟨_, List.getElem?_eq_getElem hi, r⟩
theorem Reps.nil {g : Glue} {W : Wd} {H : Hp} : Reps g W H [] [] := by simp only [Reps]
theorem Reps.cons {g : Glue} {W : Wd} {H : Hp} {d : DV} {v : V} {l : List DV} {vs : List V} (a : Rep g W H d v) (b : Reps g W H l vs) : Reps g W H (d :: l) (v :: vs) := by
  simp only [Reps]
  exact ⟨v, vs, rfl, a, b⟩
theorem Reps.app {g : Glue} {W : Wd} {H : Hp} : ∀ {l m : List DV} {vs ws : List V}, Reps g W H l vs → Reps g W H m ws → Reps g W H (l ++ m) (vs ++ ws)
  | [], _, _, _, a, b => by
    simp only [Reps] at a
    subst a
    exact b
  | d :: ds, m, vs, ws, a, b => by
    simp only [Reps] at a
    obtain ⟨v, r, e, h1, h2⟩ := a
    subst e
    exact Reps.cons h1 (Reps.app h2 b)
theorem Reps.take {g : Glue} {W : Wd} {H : Hp} : ∀ (n : Nat) {l : List DV} {vs : List V}, Reps g W H l vs → Reps g W H (l.take n) (vs.take n)
  | 0, _, _, _ => by
    rw [List.take_zero, List.take_zero]
    exact .nil
  | n + 1, [], vs, a => by
    simp only [Reps] at a
    subst a
    exact .nil
  | n + 1, d :: ds, vs, a => by
    simp only [Reps] at a
    obtain ⟨v, r, e, h1, h2⟩ := a
    subst e
    exact Reps.cons h1 (Reps.take n h2)
theorem Reps.drop {g : Glue} {W : Wd} {H : Hp} : ∀ (n : Nat) {l : List DV} {vs : List V}, Reps g W H l vs → Reps g W H (l.drop n) (vs.drop n)
  | 0, _, _, a => by
    rw [List.drop_zero, List.drop_zero]
    exact a
  | n + 1, [], vs, a => by
    simp only [Reps] at a
    subst a
    exact .nil
  | n + 1, d :: ds, vs, a => by
    simp only [Reps] at a
    obtain ⟨v, r, e, h1, h2⟩ := a
    subst e
    exact Reps.drop n h2
theorem Reps.rev {g : Glue} {W : Wd} {H : Hp} : ∀ {l : List DV} {vs : List V}, Reps g W H l vs → Reps g W H l.reverse vs.reverse
  | [], vs, a => by
    simp only [Reps] at a
    subst a
    exact .nil
  | d :: ds, vs, a => by
    simp only [Reps] at a
    obtain ⟨v, r, e, h1, h2⟩ := a
    subst e
    rw [List.reverse_cons, List.reverse_cons]
    exact Reps.app (Reps.rev h2) (Reps.cons h1 .nil)
theorem Reps.set {g : Glue} {W : Wd} {H : Hp} {d : DV} {v : V} (q : Rep g W H d v) : ∀ (i : Nat) {l : List DV} {vs : List V}, Reps g W H l vs → Reps g W H (l.set i d) (vs.set i v)
  | _, [], vs, a => by
    simp only [Reps] at a
    subst a
    exact .nil
  | 0, x :: ds, vs, a => by
    simp only [Reps] at a
    obtain ⟨w, r, e, h1, h2⟩ := a
    subst e
    exact Reps.cons q h2
  | i + 1, x :: ds, vs, a => by
    simp only [Reps] at a
    obtain ⟨w, r, e, h1, h2⟩ := a
    subst e
    exact Reps.cons h1 (Reps.set q i h2)
theorem Reps.rep {g : Glue} {W : Wd} {H : Hp} {l : List DV} {vs : List V} (a : Reps g W H l vs) : ∀ k : Nat, Reps g W H (List.replicate k l).flatten (List.replicate k vs).flatten
  | 0 => .nil
  | k + 1 => by
    rw [List.replicate_succ, List.replicate_succ, List.flatten_cons, List.flatten_cons]
    exact Reps.app a (Reps.rep a k)

/-! ### the state -/
inductive Slot where
  | none
  | val (d : DV)
  | own (l : List DV)
  | dic (ks : List Int) (l : List DV)
  | exn (x : Ex)
  deriving Inhabited
abbrev En := List Slot

/-- behind a call or an expression: what was tracked stands, but for the changing objects -/
structure Step (W : Wd) (H : Hp) (W' : Wd) (H' : Hp) : Prop where
  f : ∀ a, W.F a → W'.F a
  r : ∀ (p : Nat) (a : Addr), W.r[p]? = some a → W'.r[p]? = some a
  k : ∀ a o, H a = some o → a ∉ W.r → H' a = some o
  th : ∀ a, H' a = none → H a = none
  nf : ∀ a, W'.F a → W.F a ∨ H a = none ∨ (a ∉ W.r ∧ ∃ fs, H a = some (.xd fs))
  nr : ∀ a, a ∈ W'.r → a ∈ W.r ∨ H a = none
theorem Step.refl (W : Wd) (H : Hp) : Step W H W H := ⟨fun _ h => h, fun _ _ h => h, fun _ _ h _ => h, fun _ h => h, fun _ h => .inl h, fun _ h => .inl h⟩
theorem Step.mem {W W' : Wd} {H H' : Hp} (s : Step W H W' H') {a : Addr} (h : a ∈ W.r) : a ∈ W'.r := by
  obtain ⟨p, hp, e⟩ := List.mem_iff_getElem.mp h
  exact List.mem_of_getElem? (s.r p a (by rw [List.getElem?_eq_getElem hp, e]))

def RepO (g : Glue) (W : Wd) (H : Hp) (o : HObj) (a : Addr) : Prop := match o with
  | .lst l => ∃ vs, H a = some (.lst vs) ∧ Reps g W H l vs
  | .obj c l => ∃ dx vs, H a = some (.ins (g.cA c) dx ((g.flds c).zip vs)) ∧ vs.length ≤ (g.flds c).length ∧ Reps g W H l vs
structure HSim (g : Glue) (W : Wd) (h : HP) (H : Hp) : Prop where
  len : W.r.length = h.length
  nd : W.r.Nodup
  o : ∀ (p : Nat) (o : HObj) (a : Addr), h[p]? = some o → W.r[p]? = some a → RepO g W H o a ∧ ¬ W.F a
  fs : ∀ a, W.F a → ∃ o, H a = some o
theorem HSim.mem {g : Glue} {W : Wd} {h : HP} {H : Hp} (s : HSim g W h H) {a : Addr} (m : a ∈ W.r) : ∃ (p : Nat) (o : HObj), h[p]? = some o ∧ W.r[p]? = some a ∧ RepO g W H o a ∧ ¬ W.F a := by
  obtain ⟨p, hp, e⟩ := List.mem_iff_getElem.mp m
  have hp' : p < h.length := by
    rw [← s.len]
    exact hp
  have e1 : W.r[p]? = some a := by rw [List.getElem?_eq_getElem hp, e]
  have e2 : h[p]? = some h[p] := List.getElem?_eq_getElem hp'
  obtain ⟨h1, h2⟩ := s.o p _ a e2 e1
  exact ⟨p, _, e2, e1, h1, h2⟩
theorem RepO.mut {g : Glue} {W : Wd} {H : Hp} {o : HObj} {a : Addr} (h : RepO g W H o a) : (∃ vs, H a = some (.lst vs)) ∨ ∃ C dx fs, H a = some (.ins C dx fs) := by
  cases o with
  | lst l =>
    obtain ⟨vs, e, _⟩ := h
    exact .inl ⟨vs, e⟩
  | obj c l =>
    obtain ⟨dx, vs, e, _⟩ := h
    exact .inr ⟨_, _, _, e⟩
theorem HSim.notF {g : Glue} {W : Wd} {h : HP} {H : Hp} (s : HSim g W h H) {a : Addr} (f : W.F a) : a ∉ W.r := fun m => by
  obtain ⟨_, _, _, _, _, n⟩ := s.mem m
  exact n f
theorem Step.per {g : Glue} {W W' : Wd} {h : HP} {H H' : Hp} (s : HSim g W h H) (st : Step W H W' H') : Per W H W' H' := by
  refine ⟨st.f, st.r, fun a f => ?_, fun a xs e => st.k a _ e fun m => ?_, fun a o u e => st.k a _ e fun m => ?_⟩
  · obtain ⟨o, e⟩ := s.fs a f
    rw [e]
    exact st.k a o e (s.notF f)
  · obtain ⟨_, _, _, _, r, _⟩ := s.mem m
    rcases r.mut with ⟨vs, e2⟩ | ⟨C, dx, fs, e2⟩ <;> rw [e] at e2 <;> cases e2
  · obtain ⟨_, _, _, _, r, _⟩ := s.mem m
    rcases r.mut with ⟨vs, e2⟩ | ⟨C, dx, fs, e2⟩ <;> rw [e] at e2 <;> cases e2
theorem Step.trans {W W1 W2 : Wd} {H H1 H2 : Hp} (a : Step W H W1 H1) (b : Step W1 H1 W2 H2) : Step W H W2 H2 := by
  refine ⟨fun x h => b.f x (a.f x h), fun p x h => b.r p x (a.r p x h), fun x o e n => b.k x o (a.k x o e n) fun m => ?_, fun x h => a.th x (b.th x h), fun x h => ?_, fun x h => ?_⟩
  · rcases a.nr x m with q | q
    · exact n q
    · rw [e] at q
      cases q
  · rcases b.nf x h with q | q | ⟨n, fs, q⟩
    · exact a.nf x q
    · exact .inr (.inl (a.th x q))
    · have n0 : x ∉ W.r := fun m => n (a.mem m)
      cases z : H x with
      | none => exact .inr (.inl rfl)
      | some o =>
        have z2 := a.k x o z n0
        rw [q] at z2
        exact .inr (.inr ⟨n0, fs, z2.symm⟩)
  · rcases b.nr x h with q | q
    · exact a.nr x q
    · exact .inr (a.th x q)
end LM

/-! The state, what a mirror's step promises. -/
namespace LM
open PySem L2

def Slot.isOwn : Slot → Bool
  | .own _ => true
  | .dic _ _ => true
  | _ => false

/-- where a body stands: what the call began with -/
structure Cn where
  g : Glue
  W0 : Wd
  H0 : Hp
  x : WX
  cur : Option (Addr × Value × Option Addr) := none
/-- a caught exception: its class; what its own dict holds, for ever -/
def XRepF (g : Glue) (W : Wd) (H : Hp) (x : Ex) (cls : Value) (dd : Option Addr) : Prop :=
  cls = .ref (g.cA x.c) ∧ ((x.l = [] ∧ dd = none) ∨ ∃ d vs, dd = some d ∧ W.F d ∧ H d = some (.xd ((g.flds x.c).zip vs)) ∧ vs.length = (g.flds x.c).length ∧ Reps g W H x.l vs)
theorem XRepF.per {g : Glue} {W W' : Wd} {H H' : Hp} {x : Ex} {cls : Value} {dd : Option Addr} (r : XRepF g W H x cls dd) (p : Per W H W' H') : XRepF g W' H' x cls dd := by
  obtain ⟨e, r⟩ := r
  refine ⟨e, ?_⟩
  rcases r with r | ⟨d, vs, e1, f, e2, e3, e4⟩
  · exact .inl r
  · exact .inr ⟨d, vs, e1, p.f d f, by rw [p.h d f]; exact e2, e3, e4.per p _ _⟩

structure Sim (c : Cn) (W : Wd) (e : En) (h : HP) (s : L2.St) (H : Hp) : Prop where
  hs : HSim c.g W h H
  st : Step c.W0 c.H0 W H
  len : e.length = s.length
  val : ∀ (i : Nat) (d : DV), e[i]? = some (.val d) → ∃ v, s[i]? = some (some v) ∧ Rep c.g W H d v
  own : ∀ (i : Nat) (l : List DV), e[i]? = some (.own l) → ∃ a vs, s[i]? = some (some (.ref a)) ∧ H a = some (.lst vs) ∧ Reps c.g W H l vs ∧ ¬ W.F a ∧ a ∉ W.r ∧ c.H0 a = none
  dic : ∀ (i : Nat) (ks : List Int) (l : List DV), e[i]? = some (.dic ks l) → ∃ a vs, s[i]? = some (some (.ref a)) ∧ H a = some (.dK ((ks.map Sum.inl).zip vs)) ∧ ks.length = vs.length ∧ Reps c.g W H l vs ∧ ¬ W.F a ∧ a ∉ W.r ∧ c.H0 a = none
  ne : ∀ (i j : Nat) (a : Addr) (x y : Slot), e[i]? = some x → x.isOwn = true → e[j]? = some y → y.isOwn = true → s[i]? = some (some (.ref a)) → s[j]? = some (some (.ref a)) → i = j
  exn : ∀ (i : Nat) (x : Ex), e[i]? = some (.exn x) → ∃ a cls dd, c.cur = some (a, cls, dd) ∧ s[i]? = some (some (.ref a)) ∧ XRepF c.g W H x cls dd

section
variable {c : Cn} {W W' : Wd} {e : En} {h h' : HP} {s : St} {H H' : Hp}
theorem Sim.per (S : Sim c W e h s H) (t : Step W H W' H') : Per W H W' H' := t.per S.hs
/-- behind a step -/
theorem Sim.step (S : Sim c W e h s H) (t : Step W H W' H') (hs : HSim c.g W' h' H') : Sim c W' e h' s H' := by
  have p := S.per t
  refine ⟨hs, S.st.trans t, S.len, fun i d e1 => ?_, fun i l e1 => ?_, fun i ks l e1 => ?_, S.ne, fun i x e1 => by
    obtain ⟨a, cls, dd, e2, e3, r⟩ := S.exn i x e1
    exact ⟨a, cls, dd, e2, e3, r.per p⟩⟩
  · obtain ⟨v, e2, r⟩ := S.val i d e1
    exact ⟨v, e2, r.per p _ _⟩
  · obtain ⟨a, vs, e2, e3, r, n1, n2, n3⟩ := S.own i l e1
    refine ⟨a, vs, e2, t.k a _ e3 n2, r.per p _ _, fun f => ?_, fun m => ?_, n3⟩
    · rcases t.nf a f with q | q | ⟨_, fs, q⟩
      · exact n1 q
      · rw [e3] at q
        cases q
      · rw [e3] at q
        cases q
    · rcases t.nr a m with q | q
      · exact n2 q
      · rw [e3] at q
        cases q
  · obtain ⟨a, vs, e2, e3, l1, r, n1, n2, n3⟩ := S.dic i ks l e1
    refine ⟨a, vs, e2, t.k a _ e3 n2, l1, r.per p _ _, fun f => ?_, fun m => ?_, n3⟩
    · rcases t.nf a f with q | q | ⟨_, fs, q⟩
      · exact n1 q
      · rw [e3] at q
        cases q
      · rw [e3] at q
        cases q
    · rcases t.nr a m with q | q
      · exact n2 q
      · rw [e3] at q
        cases q
/-- a slot is set to what is not owned -/
theorem Sim.put {i : Nat} {x : Slot} {o : Option V} (S : Sim c W e h s H) (hx : x.isOwn = false) (hn : ∀ y, x = .exn y → ∃ a cls dd, c.cur = some (a, cls, dd) ∧ o = some (.ref a) ∧ XRepF c.g W H y cls dd) (hv : ∀ d, x = .val d → ∃ v, o = some v ∧ Rep c.g W H d v) : Sim c W (e.set i x) h (s.set i o) H := by
  have back : ∀ (j : Nat) (y : Slot), (e.set i x)[j]? = some y → y.isOwn = true → i ≠ j ∧ e[j]? = some y := fun j y e1 oy => by
    by_cases hj : i = j
    · subst hj
      rw [List.getElem?_set_self'] at e1
      cases q : e[i]? with
      | none =>
        rw [q] at e1
        cases e1
      | some u =>
        rw [q] at e1
        have e2 : x = y := Option.some.inj e1
        rw [← e2, hx] at oy
        cases oy
    · rw [List.getElem?_set_ne hj] at e1
      exact ⟨hj, e1⟩
  refine ⟨S.hs, S.st, by rw [List.length_set, List.length_set]; exact S.len, fun j d e1 => ?_, fun j l e1 => ?_, fun j ks l e1 => ?_, fun j k a y z e1 o1 e2 o2 e3 e4 => ?_, fun j y e1 => ?_⟩
  · by_cases hj : i = j
    · subst hj
      have hi : i < e.length := by
        have q := (List.getElem?_eq_some_iff.mp e1).1
        rwa [List.length_set] at q
      rw [List.getElem?_set_self hi] at e1
      obtain ⟨v, ov, r⟩ := hv d (Option.some.inj e1)
      exact ⟨v, by rw [List.getElem?_set_self (by rw [← S.len]; exact hi), ov], r⟩
    · rw [List.getElem?_set_ne hj] at e1 ⊢
      exact S.val j d e1
  · obtain ⟨hj, b1⟩ := back j _ e1 rfl
    rw [List.getElem?_set_ne hj]
    exact S.own j l b1
  · obtain ⟨hj, b1⟩ := back j _ e1 rfl
    rw [List.getElem?_set_ne hj]
    exact S.dic j ks l b1
  · obtain ⟨hj, b1⟩ := back j _ e1 o1
    obtain ⟨hk, b2⟩ := back k _ e2 o2
    rw [List.getElem?_set_ne hj] at e3
    rw [List.getElem?_set_ne hk] at e4
    exact S.ne j k a y z b1 o1 b2 o2 e3 e4
  · by_cases hj : i = j
    · subst hj
      have hi : i < e.length := by
        have q := (List.getElem?_eq_some_iff.mp e1).1
        rwa [List.length_set] at q
      rw [List.getElem?_set_self hi] at e1
      obtain ⟨a, cls, dd, q1, q2, q3⟩ := hn y (Option.some.inj e1)
      exact ⟨a, cls, dd, q1, by rw [List.getElem?_set_self (by rw [← S.len]; exact hi), q2], q3⟩
    · rw [List.getElem?_set_ne hj] at e1 ⊢
      exact S.exn j y e1
theorem Sim.set {i : Nat} {d : DV} {v : V} (S : Sim c W e h s H) (r : Rep c.g W H d v) : Sim c W (e.set i (.val d)) h (s.set i (some v)) H :=
  S.put rfl (fun y z => by cases z) fun d' z => by
    cases z
    exact ⟨v, rfl, r⟩
/-- forgotten here, kept or forgotten there -/
theorem Sim.gone {i : Nat} {o : Option V} (S : Sim c W e h s H) : Sim c W (e.set i .none) h (s.set i o) H := S.put rfl (fun y z => by cases z) fun d' z => by cases z
theorem Sim.gone' {i : Nat} (S : Sim c W e h s H) : Sim c W (e.set i .none) h s H := by
  by_cases hi : i < s.length
  · have q := S.gone (i := i) (o := s[i])
    rwa [List.set_getElem_self] at q
  · have e1 : e.set i .none = e := List.set_eq_of_length_le (by rw [S.len]; omega)
    rw [e1]
    exact S
end

/-- a made exception: its class; what its own dict holds -/
def XRep (g : Glue) (W : Wd) (H : Hp) (x : Ex) (cls : Value) (dd : Option Addr) : Prop :=
  cls = .ref (g.cA x.c) ∧ ((x.l = [] ∧ dd = none) ∨ ∃ d vs, dd = some d ∧ H d = some (.xd ((g.flds x.c).zip vs)) ∧ vs.length = (g.flds x.c).length ∧ Reps g W H x.l vs ∧ d ∉ W.r)

abbrev Rl (A B : Type) := Hp → Wd → Hp → A → B → Prop
def Post {A B : Type} (c : Cn) (R : Wd → Hp → A → B → Prop) (e : En) (s : L2.St) (W : Wd) (H : Hp) (r : Res A) (Q : B → Hp → Prop) : Prop := match r with
  | .ok a h' => ∀ W' H' b, Step W H W' H' → Sim c W' e h' s H' → R W' H' a b → Q b H'
  | .exc x h' => ∀ W' H' cls dd, Step W H W' H' → Sim c W' e h' s H' → XRep c.g W' H' x cls dd → c.x cls dd s H'
  | .bad => False
def RX {A B : Type} (c : Cn) (R : Rl A B) (m : En → M A) : L2.St → Hp → (B → Hp → Prop) → Prop := fun s H Q => ∃ W e h, Sim c W e h s H ∧ Post c (R H) e s W H (m e h) Q
/-- may stand anywhere; may be read -/
abbrev rV (c : Cn) : Rl DV V := fun _ W H d v => Rep c.g W H d v
abbrev rVs (c : Cn) (n : Nat) : Rl (List DV) (List V) := fun _ W H d v => Reps c.g W H d v ∧ d.length = n
def RepB (g : Glue) (W : Wd) (H : Hp) (d : DV) (v : V) : Prop := Rep g W H d v ∨
  (∃ l a vs, d = .lst l ∧ v = .ref a ∧ H a = some (.lst vs) ∧ Reps g W H l vs ∧ a ∉ W.r) ∨
  (∃ ks l a vs, d = .dct ks l ∧ v = .ref a ∧ H a = some (.dK ((ks.map Sum.inl).zip vs)) ∧ ks.length = vs.length ∧ Reps g W H l vs ∧ a ∉ W.r)
abbrev rB (c : Cn) : Rl DV V := fun _ W H d v => RepB c.g W H d v
abbrev rT : Rl Bool Bool := fun _ _ _ a b => b = a
abbrev RE (c : Cn) (m : En → M DV) : TE := RX c (rV c) m
abbrev RB (c : Cn) (m : En → M DV) : TE := RX c (rB c) m
abbrev RA (c : Cn) (n : Nat) (m : En → M (List DV)) : TA := RX c (rVs c n) m
abbrev RT (c : Cn) (m : En → M Bool) : TT := RX c rT m
/-- a list that nobody else holds -/
abbrev rO (c : Cn) : Rl (List DV) V := fun Hs W H l v => ∃ a vs, v = .ref a ∧ H a = some (.lst vs) ∧ Reps c.g W H l vs ∧ ¬ W.F a ∧ a ∉ W.r ∧ Hs a = none
abbrev RO (c : Cn) (m : En → M (List DV)) : TE := RX c (rO c) m

section
variable {A B D : Type} {c : Cn} {R : Wd → Hp → A → B → Prop} {e : En} {s : St} {W W1 : Wd} {H H1 : Hp} {Q : B → Hp → Prop}
theorem Post.later {r : Res A} (p : Post c R e s W H r Q) (t : Step W H W1 H1) : Post c R e s W1 H1 r Q := by
  cases r with
  | ok a h' => exact fun W' H' b t' => p W' H' b (t.trans t')
  | exc x h' => exact fun W' H' cls dd t' => p W' H' cls dd (t.trans t')
  | bad => exact p
theorem Post.bind {A2 : Type} {m : M A2} {k : A2 → M A} {h : HP} (p : Post c R e s W H ((m >>= k) h) Q) {B2 : Type} {R2 : Wd → Hp → A2 → B2 → Prop} {K : B2 → Hp → Prop}
    (f : ∀ W1 H1 a b h1, Step W H W1 H1 → Sim c W1 e h1 s H1 → R2 W1 H1 a b → Post c R e s W1 H1 (k a h1) Q → K b H1) : Post c R2 e s W H (m h) K := by
  rw [M.bind_def] at p
  cases q : m h with
  | ok a h1 =>
    rw [q] at p
    exact fun W' H' b t S r => f W' H' a b h1 t S r (p.later t)
  | exc x h1 =>
    rw [q] at p
    exact p
  | bad =>
    rw [q] at p
    exact p
theorem Post.imp {r : Res A} (p : Post c R e s W H r Q) {R2 : Wd → Hp → A → B → Prop} {Q2 : B → Hp → Prop} (f : ∀ W' H' a b, R2 W' H' a b → R W' H' a b) (q : ∀ b H', Q b H' → Q2 b H') : Post c R2 e s W H r Q2 := by
  cases r with
  | ok a h' => exact fun W' H' b t S z => q _ _ (p W' H' b t S (f _ _ _ _ z))
  | exc x h' => exact p
  | bad => exact p
end
section
variable {A B : Type} {c : Cn} {R : Rl A B} {s : St} {H : Hp} {Q : B → Hp → Prop}
theorem RX.bind {A2 B2 : Type} {m : En → M A2} {k : En → A2 → M A} (p : RX c R (fun e => m e >>= k e) s H Q) {R2 : Rl A2 B2} {K : B2 → Hp → Prop}
    (f : ∀ W e W1 H1 a b h1, Step W H W1 H1 → Sim c W1 e h1 s H1 → R2 H W1 H1 a b → Post c (R H) e s W1 H1 (k e a h1) Q → K b H1) : RX c R2 m s H K := by
  obtain ⟨W, e, h, S, p⟩ := p
  exact ⟨W, e, h, S, p.bind fun W1 H1 a b h1 t S1 r q => f W e W1 H1 a b h1 t S1 r q⟩
theorem RX.of {W : Wd} {e : En} {h : HP} {m : En → M A} (S : Sim c W e h s H) (p : Post c (R H) e s W H (m e h) Q) : RX c R m s H Q := ⟨W, e, h, S, p⟩
end
section
variable {X : Cx} {ex : Expr} {t t' : TE}
theorem pe_imp (h : PE X ex t) (f : ∀ s H Q, t' s H Q → t s H Q) : PE X ex t' := ⟨fun pins s σ H Q I q => h.run pins s σ H Q I (f σ H Q q)⟩
theorem pa_imp {es : List Expr} {t t' : TA} (h : PA X es t) (f : ∀ s H Q, t' s H Q → t s H Q) : PA X es t' := ⟨fun pos pins s σ H Q I q => h.run pos pins s σ H Q I (f σ H Q q)⟩
theorem pt_imp {t t' : TT} (h : PT X ex t) (f : ∀ s H Q, t' s H Q → t s H Q) : PT X ex t' := ⟨fun pins s σ H Q I q => h.run pins s σ H Q I (f σ H Q q)⟩
theorem ps_imp {st : Stmt} {t t' : TS} (h : PS X st t) (f : ∀ D s H, t' D s H → t D s H) : PS X st t' := ⟨fun pins s σ H D I q => h.run pins s σ H D I (f D σ H q)⟩
theorem pss_imp {st : List Stmt} {t t' : TS} (h : PSs X st t) (f : ∀ D s H, t' D s H → t D s H) : PSs X st t' := ⟨fun pins s σ H D I q => h.run pins s σ H D I (f D σ H q)⟩
theorem pi_imp {tg : Expr} {t t' : TI} (h : PI X tg ex t) (f : ∀ s H Q, t' s H Q → t s H Q) : PI X tg ex t' := ⟨fun pins s σ H R I q => h.run pins s σ H R I (f σ H R q)⟩
end

/-! ### relations that stay -/
structure Stays (c : Cn) {A B : Type} (R : Wd → Hp → A → B → Prop) : Prop where
  go : ∀ {W W' : Wd} {H H' : Hp} {h : HP} {a : A} {b : B}, HSim c.g W h H → Step W H W' H' → R W H a b → R W' H' a b
theorem stays_V {c : Cn} : Stays c (fun W H d v => Rep c.g W H d v) := ⟨fun S t r => r.per (t.per S) _ _⟩
theorem stays_Vs {c : Cn} : Stays c (fun W H d v => Reps c.g W H d v) := ⟨fun S t r => r.per (t.per S) _ _⟩
theorem notR {W W' : Wd} {H H' : Hp} {a : Addr} {o : HO} (t : Step W H W' H') (e : H a = some o) (n : a ∉ W.r) : a ∉ W'.r := fun m => by
  rcases t.nr a m with q | q
  · exact n q
  · rw [e] at q
    cases q
theorem notF {W W' : Wd} {H H' : Hp} {a : Addr} {o : HO} (t : Step W H W' H') (e : H a = some o) (n : ¬ W.F a) (hx : ∀ fs, o ≠ .xd fs) : ¬ W'.F a := fun m => by
  rcases t.nf a m with q | q | ⟨_, fs, q⟩
  · exact n q
  · rw [e] at q
    cases q
  · rw [e] at q
    exact hx fs (Option.some.inj q)
theorem stays_B {c : Cn} : Stays c (fun W H d v => RepB c.g W H d v) := ⟨fun {W W' H H' h d v} S t r => by
  rcases r with r | ⟨l, a, vs, e1, e2, e3, r, n⟩ | ⟨ks, l, a, vs, e1, e2, e3, z, r, n⟩
  · exact .inl (r.per (t.per S) _ _)
  · exact .inr (.inl ⟨l, a, vs, e1, e2, t.k _ _ e3 n, r.per (t.per S) _ _, notR t e3 n⟩)
  · exact .inr (.inr ⟨ks, l, a, vs, e1, e2, t.k _ _ e3 n, z, r.per (t.per S) _ _, notR t e3 n⟩)⟩

/-! ### a new object -/
section
variable {c : Cn} {W : Wd} {e : En} {h : HP} {s : St} {H : Hp} {p : Addr} {o : HO}
theorem HSim.new {g : Glue} (S : HSim g W h H) (hp : H p = none) (hw : Per W H W (upd H p o)) : HSim g W h (upd H p o) := by
  refine ⟨S.len, S.nd, fun q ob a e1 e2 => ?_, fun a f => ?_⟩
  · obtain ⟨r, n⟩ := S.o q ob a e1 e2
    refine ⟨?_, n⟩
    have hne : a ≠ p := by
      rcases r.mut with ⟨vs, e3⟩ | ⟨C, dx, fs, e3⟩ <;> exact ne_of_none e3 hp
    cases ob with
    | lst l =>
      obtain ⟨vs, e3, r3⟩ := r
      exact ⟨vs, by rw [upd_ne hne]; exact e3, r3.per hw _ _⟩
    | obj c l =>
      obtain ⟨dx, vs, e3, e4, r3⟩ := r
      exact ⟨dx, vs, by rw [upd_ne hne]; exact e3, e4, r3.per hw _ _⟩
  · obtain ⟨u, e1⟩ := S.fs a f
    exact ⟨u, by rw [upd_ne (ne_of_none e1 hp)]; exact e1⟩
theorem Step.new (hp : H p = none) : Step W H W (upd H p o) :=
  ⟨fun _ f => f, fun _ _ e => e, fun a u e _ => by rw [upd_ne (ne_of_none e hp)]; exact e, fun a e => by
    by_cases z : a = p
    · rw [z]
      exact hp
    · rwa [upd_ne z] at e, fun _ f => .inl f, fun _ f => .inl f⟩
/-- a new object that nobody tells of -/
theorem Sim.new (S : Sim c W e h s H) (hp : H p = none) : Step W H W (upd H p o) ∧ Sim c W e h s (upd H p o) := by
  have t : Step W H W (upd H p o) := Step.new hp
  exact ⟨t, S.step t (S.hs.new hp (t.per S.hs))⟩
/-- frozen: for ever -/
def Wd.frz (W : Wd) (a : Addr) : Wd := ⟨fun b => W.F b ∨ b = a, W.r⟩
theorem HSim.frz {g : Glue} (S : HSim g W h H) (ha : H p = some o) (nr : p ∉ W.r) : HSim g (W.frz p) h H := by
  refine ⟨S.len, S.nd, fun q ob a e1 e2 => ?_, fun a f => ?_⟩
  · obtain ⟨r, n⟩ := S.o q ob a e1 e2
    have hne : a ≠ p := fun z => nr (z ▸ List.mem_of_getElem? e2)
    have pr : Per W H (W.frz p) H := ⟨fun _ f => .inl f, fun _ _ e => e, fun _ _ => rfl, fun _ _ e => e, fun _ _ _ e => e⟩
    refine ⟨?_, fun f => f.elim n hne⟩
    cases ob with
    | lst l =>
      obtain ⟨vs, e3, r3⟩ := r
      exact ⟨vs, e3, r3.per pr _ _⟩
    | obj c l =>
      obtain ⟨dx, vs, e3, e4, r3⟩ := r
      exact ⟨dx, vs, e3, e4, r3.per pr _ _⟩
  · rcases f with f | f
    · exact S.fs a f
    · rw [f]
      exact ⟨o, ha⟩
/-- from a heap H in which p was not: p is frozen in a later one -/
theorem Step.frz {W1 : Wd} {H1 : Hp} (t : Step W H W1 H1) (hp : H p = none) : Step W H (W1.frz p) H1 :=
  ⟨fun a f => .inl (t.f a f), t.r, t.k, t.th, fun a f => f.elim (t.nf a) fun z => .inr (.inl (z ▸ hp)), t.nr⟩
end
end LM

/-! Expressions. -/
namespace LM
open PySem L2

abbrev LN : Nat := 16777216
theorem line_LN : sizeLine = LN := PySem.sizeLine_eq

/-! ### endings -/
section
variable {c : Cn} {A B : Type} {R : Wd → Hp → A → B → Prop} {e : En} {s : L2.St} {W : Wd} {H : Hp} {h : HP} {Q : B → Hp → Prop}
theorem Post.ret {a : A} {b : B} (p : Post c R e s W H (Res.ok a h) Q) (S : Sim c W e h s H) (r : R W H a b) : Q b H := p W H b (Step.refl W H) S r
end
section
variable {c : Cn} {e : En} {s : L2.St} {W : Wd} {H : Hp} {h : HP}
theorem post_tup {l : List DV} {vs : List V} {p : Addr} {Q : V → Hp → Prop} (q : Post c (rV c H) e s W H (Res.ok (DV.tup l) h) Q) (S : Sim c W e h s H) (r : Reps c.g W H l vs) (hp : H p = none) : Q (.ref p) (upd H p (.tup vs)) := by
  obtain ⟨t, S2⟩ := S.new (o := .tup vs) hp
  refine q _ _ _ t S2 ?_
  simp only [Rep]
  exact ⟨p, vs, rfl, .inl (.inl upd_same), r.per (S.per t) _ _⟩
theorem not_r {g : Glue} (S : HSim g W h H) {p : Addr} (hp : H p = none) : p ∉ W.r := fun m => by
  obtain ⟨_, _, _, _, r, _⟩ := S.mem m
  rcases r.mut with ⟨vs, e2⟩ | ⟨C, dx, fs, e2⟩ <;> rw [hp] at e2 <;> cases e2
theorem not_F {g : Glue} (S : HSim g W h H) {p : Addr} (hp : H p = none) : ¬ W.F p := fun f => by
  obtain ⟨o, q⟩ := S.fs p f
  rw [hp] at q
  cases q
theorem new_own {l : List DV} {vs : List V} {p : Addr} {Hs : Hp} (S : Sim c W e h s H) (r : Reps c.g W H l vs) (hp : H p = none) (hs : Hs p = none) : Step W H W (upd H p (.lst vs)) ∧ Sim c W e h s (upd H p (.lst vs)) ∧ rO c Hs W (upd H p (.lst vs)) l (.ref p) := by
  obtain ⟨t, S2⟩ := S.new (o := .lst vs) hp
  exact ⟨t, S2, p, vs, rfl, upd_same, r.per (S.per t) _ _, not_F S.hs hp, not_r S.hs hp, hs⟩
theorem post_own {l : List DV} {vs : List V} {p : Addr} {Hs : Hp} {Q : V → Hp → Prop} (q : Post c (rO c Hs) e s W H (Res.ok l h) Q) (S : Sim c W e h s H) (r : Reps c.g W H l vs) (hp : H p = none) (hs : Hs p = none) : Q (.ref p) (upd H p (.lst vs)) := by
  obtain ⟨t, S2, z⟩ := new_own S r hp hs
  exact q _ _ _ t S2 z
end

/-! ### names, constants -/
section
variable {X : Cx} {c : Cn} {pos : Pos}
def eVar (i : Nat) : En → M DV := fun e h => match e[i]? with
  | some (.val d) => .ok d h
  | _ => .bad
/-- a name that is only read -/
def eBor (i : Nat) : En → M DV := fun e h => match e[i]? with
  | some (.val d) => .ok d h
  | some (.own l) => .ok (.lst l) h
  | some (.dic ks l) => .ok (.dct ks l) h
  | _ => .bad
def eC (d : DV) : En → M DV := fun _ h => .ok d h
theorem c_var {i : Nat} {x : Str} (hN : X.N[i]? = some x) (hv : Vis X.env.scope x) (hd : (x == ("__debug__" : Str)) = false := by decide) (hcd : (x == ("__classdict__" : Str)) = false := by decide) : PE X (.Name x pos) (RE c (eVar i)) :=
  pe_imp (pe_var hN hv hd hcd) fun s H Q q => by
    obtain ⟨W, e, h, S, q⟩ := q
    unfold eVar at q
    cases z : e[i]? with
    | none =>
      rw [z] at q
      exact q.elim
    | some u =>
      rw [z] at q
      cases u with
      | val d =>
        obtain ⟨v, e2, r⟩ := S.val i d z
        exact ⟨v, e2, q.ret S r⟩
      | _ => exact q.elim
theorem c_bor {i : Nat} {x : Str} (hN : X.N[i]? = some x) (hv : Vis X.env.scope x) (hd : (x == ("__debug__" : Str)) = false := by decide) (hcd : (x == ("__classdict__" : Str)) = false := by decide) : PE X (.Name x pos) (RB c (eBor i)) :=
  pe_imp (pe_var hN hv hd hcd) fun s H Q q => by
    obtain ⟨W, e, h, S, q⟩ := q
    unfold eBor at q
    cases z : e[i]? with
    | none =>
      rw [z] at q
      exact q.elim
    | some u =>
      rw [z] at q
      cases u with
      | none => exact q.elim
      | exn y => exact q.elim
      | val d =>
        obtain ⟨v, e2, r⟩ := S.val i d z
        exact ⟨v, e2, q.ret S (.inl r)⟩
      | own l =>
        obtain ⟨a, vs, e2, e3, r, _, n, _⟩ := S.own i l z
        exact ⟨_, e2, q.ret S (.inr (.inl ⟨l, a, vs, rfl, rfl, e3, r, n⟩))⟩
      | dic ks l =>
        obtain ⟨a, vs, e2, e3, w, r, _, n, _⟩ := S.dic i ks l z
        exact ⟨_, e2, q.ret S (.inr (.inr ⟨ks, l, a, vs, rfl, rfl, e3, w, r, n⟩))⟩
theorem c_toB {ex : Expr} {m : En → M DV} (h : PE X ex (RE c m)) : PE X ex (RB c m) := pe_imp h fun s H Q q => by
  obtain ⟨W, e, h, S, q⟩ := q
  exact ⟨W, e, h, S, q.imp (fun _ _ _ _ r => .inl r) fun _ _ z => z⟩
theorem const_imp {ex : Expr} {d : DV} {v : V} (h : PE X ex (tC v)) (r : ∀ W H, Rep c.g W H d v) : PE X ex (RE c (eC d)) := pe_imp h fun s H Q q => by
  obtain ⟨W, e, h, S, q⟩ := q
  exact q.ret S (r W H)
theorem c_int {i : Int} {j} : PE X (.Constant (.int i) j pos) (RE c (eC (.int i))) := const_imp pe_int fun _ _ => by simp only [Rep]
theorem c_bl {b : Bool} {j} : PE X (.Constant (.bool b) j pos) (RE c (eC (.bl b))) := const_imp pe_bl fun _ _ => by simp only [Rep]
theorem c_non {j} : PE X (.Constant .none j pos) (RE c (eC .non)) := const_imp pe_non fun _ _ => by simp only [Rep]
theorem c_str {x : Str} {j} : PE X (.Constant (.str x) j pos) (RE c (eC (.str x))) := const_imp pe_str fun _ _ => by simp only [Rep]
/-- a number or a text of the module -/
theorem c_glob {x : Str} {d : DV} (hg : Gl X x) (hm : ∃ u v, X.mg x = some u ∧ RelV v u ∧ ∀ W H, Rep c.g W H d v) (hd : (x == ("__debug__" : Str)) = false := by decide) : PE X (.Name x pos) (RE c (eC d)) := by
  obtain ⟨u, v, e1, r, z⟩ := hm
  exact const_imp (pe_glob hg e1 r hd) z
end

/-! ### two operands -/
abbrev e1 (p : DV → M DV) (a : En → M DV) : En → M DV := fun e => a e >>= fun x => p x
abbrev e2 (p : DV → DV → M DV) (a b : En → M DV) : En → M DV := fun e => a e >>= fun x => b e >>= fun y => p x y
structure Prim2 (c : Cn) (Ra Rb : Wd → Hp → DV → V → Prop) {A : Type} (R : Rl A V) (p : DV → DV → M A) (r : R2) : Prop where
  go : ∀ {W : Wd} {e : En} {h : HP} {s : L2.St} {H : Hp} {Hs : Hp} {x y : DV} {v w : V} {Q : V → Hp → Prop}, Sim c W e h s H → Ra W H x v → Rb W H y w → (∀ a, H a = none → Hs a = none) → Post c (R Hs) e s W H (p x y h) Q → r v w H Q
abbrev pV (c : Cn) : Wd → Hp → DV → V → Prop := fun W H d v => Rep c.g W H d v
abbrev pB (c : Cn) : Wd → Hp → DV → V → Prop := fun W H d v => RepB c.g W H d v
section
variable {X : Cx} {c : Cn} {pos : Pos} {a b : Expr} {ma mb : En → M DV} {Ra Rb : Wd → Hp → DV → V → Prop}
theorem two {A : Type} {R : Rl A V} {p : DV → DV → M A} {r : R2} (st : Stays c Ra) (hp : Prim2 c Ra Rb R p r) {s : L2.St} {H : Hp} {Q : V → Hp → Prop} (q : RX c R (fun e => ma e >>= fun x => mb e >>= fun y => p x y) s H Q) :
    tOp r (RX c (fun _ => Ra) ma) (RX c (fun _ => Rb) mb) s H Q :=
  q.bind fun W e W1 H1 x v h1 t S rx q2 => ⟨W1, e, h1, S, q2.bind fun W2 H2 y w h2 t2 S2 ry q3 => hp.go S2 (st.go S.hs t2 rx) ry (fun a z => t.th a (t2.th a z)) q3⟩
theorem c_bin {A : Type} {R : Rl A V} {op : Operator} {p : DV → DV → M A} {r : R2} (ho : OpR X (binaryOp op) r) (st : Stays c Ra) (hp : Prim2 c Ra Rb R p r) (ha : PE X a (RX c (fun _ => Ra) ma)) (hb : PE X b (RX c (fun _ => Rb) mb)) :
    PE X (.BinOp a op b pos) (RX c R (fun e => ma e >>= fun x => mb e >>= fun y => p x y)) := pe_imp (pe_op ho ha hb) fun s H Q q => two st hp q

def vAdd (x y : DV) : M DV := match x, y with
  | .int i, .int j => pure (.int (i + j))
  | .tup l, .tup m => if l.length + m.length ≤ LN then pure (.tup (l ++ m)) else M.bad
  | .str a, .str b => if a.length + b.length ≤ LN then pure (.str (a ++ b)) else M.bad
  | .lst l, .lst m => if l.length + m.length ≤ LN then pure (.lst (l ++ m)) else M.bad
  | _, _ => M.bad
def vSub (x y : DV) : M DV := match x, y with
  | .int i, .int j => pure (.int (i - j))
  | _, _ => M.bad
def mulOk (i j : Int) : Bool := (decide (-(2 ^ 64) < i) && decide (i < 2 ^ 64)) || (decide (-(2 ^ 64) < j) && decide (j < 2 ^ 64))
def vMul (x y : DV) : M DV := match x, y with
  | .int i, .int j => if mulOk i j then pure (.int (i * j)) else M.bad
  | _, _ => M.bad
def vDiv (x y : DV) : M DV := match x, y with
  | .int i, .int j => if decide (0 < j) && decide (j < 1073741824) then pure (.int (i / j)) else M.bad
  | _, _ => M.bad
def vMod (x y : DV) : M DV := match x, y with
  | .int i, .int j => if 0 < j then pure (.int (i % j)) else M.bad
  | _, _ => M.bad
theorem prim_sub : Prim2 c (pV c) (pV c) (rV c) vSub (rI0 fun i j => .int (i - j)) := by
  refine ⟨fun {W e h s H Hs x y v w Q} S rx ry nw q => ?_⟩
  unfold vSub at q
  split at q
  · simp only [pV, Rep] at rx ry
    exact ⟨_, _, rx, ry, q.ret S (by simp only [rV, Rep])⟩
  · exact q.elim
theorem prim_mul : Prim2 c (pV c) (pV c) (rV c) vMul (rI CMul fun i j => .int (i * j)) := by
  refine ⟨fun {W e h s H Hs x y v w Q} S rx ry nw q => ?_⟩
  unfold vMul at q
  split at q
  · simp only [pV, Rep] at rx ry
    split at q
    · rename_i hz
      refine ⟨_, _, rx, ry, ?_, q.ret S (by simp only [rV, Rep])⟩
      unfold mulOk at hz
      simp only [Bool.or_eq_true, Bool.and_eq_true, decide_eq_true_eq] at hz
      exact hz
    · exact q.elim
  · exact q.elim
theorem prim_div : Prim2 c (pV c) (pV c) (rV c) vDiv (rI CDiv fun i j => .int (i / j)) := by
  refine ⟨fun {W e h s H Hs x y v w Q} S rx ry nw q => ?_⟩
  unfold vDiv at q
  split at q
  · simp only [pV, Rep] at rx ry
    split at q
    · rename_i hz
      simp only [Bool.and_eq_true, decide_eq_true_eq] at hz
      exact ⟨_, _, rx, ry, hz, q.ret S (by simp only [rV, Rep])⟩
    · exact q.elim
  · exact q.elim
theorem prim_mod : Prim2 c (pV c) (pV c) (rV c) vMod (rI (fun _ j => 0 < j) fun i j => .int (i % j)) := by
  refine ⟨fun {W e h s H Hs x y v w Q} S rx ry nw q => ?_⟩
  unfold vMod at q
  split at q
  · simp only [pV, Rep] at rx ry
    split at q
    · rename_i hz
      exact ⟨_, _, rx, ry, hz, q.ret S (by simp only [rV, Rep])⟩
    · exact q.elim
  · exact q.elim
theorem c_sub (ha : PE X a (RE c ma)) (hb : PE X b (RE c mb)) : PE X (.BinOp a .Sub b pos) (RE c (e2 vSub ma mb)) := c_bin op_sub stays_V prim_sub ha hb
theorem c_mul (ha : PE X a (RE c ma)) (hb : PE X b (RE c mb)) : PE X (.BinOp a .Mult b pos) (RE c (e2 vMul ma mb)) := c_bin op_mul stays_V prim_mul ha hb
theorem c_div (ha : PE X a (RE c ma)) (hb : PE X b (RE c mb)) : PE X (.BinOp a .FloorDiv b pos) (RE c (e2 vDiv ma mb)) := c_bin op_fdiv stays_V prim_div ha hb
theorem c_mod (ha : PE X a (RE c ma)) (hb : PE X b (RE c mb)) : PE X (.BinOp a .Mod b pos) (RE c (e2 vMod ma mb)) := c_bin op_mod stays_V prim_mod ha hb
def vNeg (x : DV) : M DV := match x with
  | .int i => pure (.int (-i))
  | _ => M.bad
theorem c_neg (ha : PE X a (RE c ma)) : PE X (.UnaryOp .USub a pos) (RE c (e1 vNeg ma)) := pe_imp (pe_un un_neg ha) fun s H Q q =>
  q.bind fun W e W1 H1 x v h1 t S rx q2 => by
    unfold vNeg at q2
    split at q2
    · simp only [Rep] at rx
      exact ⟨_, rx, q2.ret S (by simp only [rV, Rep])⟩
    · exact q2.elim

/-! ### comparisons -/
def vLt (x y : DV) : M DV := match x, y with
  | .int i, .int j => pure (.bl (decide (i < j)))
  | _, _ => M.bad
def vLe (x y : DV) : M DV := match x, y with
  | .int i, .int j => pure (.bl (decide (i ≤ j)))
  | _, _ => M.bad
def vGt (x y : DV) : M DV := match x, y with
  | .int i, .int j => pure (.bl (decide (j < i)))
  | _, _ => M.bad
def vGe (x y : DV) : M DV := match x, y with
  | .int i, .int j => pure (.bl (decide (j ≤ i)))
  | _, _ => M.bad
theorem prim_lt : Prim2 c (pV c) (pV c) (rV c) vLt (rI0 fun i j => .bl (decide (i < j))) := by
  refine ⟨fun {W e h s H Hs x y v w Q} S rx ry nw q => ?_⟩
  unfold vLt at q
  split at q
  · simp only [pV, Rep] at rx ry
    exact ⟨_, _, rx, ry, q.ret S (by simp only [rV, Rep])⟩
  · exact q.elim
theorem prim_le : Prim2 c (pV c) (pV c) (rV c) vLe (rI0 fun i j => .bl (decide (i ≤ j))) := by
  refine ⟨fun {W e h s H Hs x y v w Q} S rx ry nw q => ?_⟩
  unfold vLe at q
  split at q
  · simp only [pV, Rep] at rx ry
    exact ⟨_, _, rx, ry, q.ret S (by simp only [rV, Rep])⟩
  · exact q.elim
theorem prim_gt : Prim2 c (pV c) (pV c) (rV c) vGt (rI0 fun i j => .bl (decide (j < i))) := by
  refine ⟨fun {W e h s H Hs x y v w Q} S rx ry nw q => ?_⟩
  unfold vGt at q
  split at q
  · simp only [pV, Rep] at rx ry
    exact ⟨_, _, rx, ry, q.ret S (by simp only [rV, Rep])⟩
  · exact q.elim
theorem prim_ge : Prim2 c (pV c) (pV c) (rV c) vGe (rI0 fun i j => .bl (decide (j ≤ i))) := by
  refine ⟨fun {W e h s H Hs x y v w Q} S rx ry nw q => ?_⟩
  unfold vGe at q
  split at q
  · simp only [pV, Rep] at rx ry
    exact ⟨_, _, rx, ry, q.ret S (by simp only [rV, Rep])⟩
  · exact q.elim
theorem c_cmp {op : CmpOp} {p : DV → DV → M DV} {r : R2} (ho : OpR X (compareOp op) r) (st : Stays c Ra) (hp : Prim2 c Ra Rb (rV c) p r) (ha : PE X a (RX c (fun _ => Ra) ma)) (hb : PE X b (RX c (fun _ => Rb) mb)) (hm : behindInMarks op b = false) :
    PE X (.Compare a [op] [b] pos) (RE c (e2 p ma mb)) := pe_imp (pe_cmpR ho ha hb hm) fun s H Q q => two st hp q
theorem c_lt (ha : PE X a (RE c ma)) (hb : PE X b (RE c mb)) : PE X (.Compare a [.Lt] [b] pos) (RE c (e2 vLt ma mb)) := c_cmp op_lt stays_V prim_lt ha hb (nomark _)
theorem c_le (ha : PE X a (RE c ma)) (hb : PE X b (RE c mb)) : PE X (.Compare a [.LtE] [b] pos) (RE c (e2 vLe ma mb)) := c_cmp op_le stays_V prim_le ha hb (nomark _)
theorem c_gt (ha : PE X a (RE c ma)) (hb : PE X b (RE c mb)) : PE X (.Compare a [.Gt] [b] pos) (RE c (e2 vGt ma mb)) := c_cmp op_gt stays_V prim_gt ha hb (nomark _)
theorem c_ge (ha : PE X a (RE c ma)) (hb : PE X b (RE c mb)) : PE X (.Compare a [.GtE] [b] pos) (RE c (e2 vGe ma mb)) := c_cmp op_ge stays_V prim_ge ha hb (nomark _)
/-- a < b < z: z is asked only where a < b -/
def e3c (p r : DV → DV → M DV) (a b z : En → M DV) : En → M DV := fun e => a e >>= fun x => b e >>= fun y => p x y >>= fun t => match t with
  | .bl true => z e >>= fun u => r y u
  | .bl false => pure (.bl false)
  | _ => M.bad
theorem chain_use {p p' : DV → DV → M DV} {r r' : R2} {mz : En → M DV} (hp : Prim2 c (pV c) (pV c) (rV c) p r) (hp' : Prim2 c (pV c) (pV c) (rV c) p' r') {s : L2.St} {H : Hp} {Q : VK} (q : RE c (e3c p p' ma mb mz) s H Q) :
    tChain r r' (RE c ma) (RE c mb) (RE c mz) s H Q := by
  refine RX.bind q fun W e W1 H1 x v h1 t S rx q2 => ⟨W1, e, h1, S, q2.bind fun W2 H2 y w h2 t2 S2 ry q3 => ?_⟩
  have rx2 := stays_V.go S.hs t2 rx
  refine hp.go S2 rx2 ry (fun a z => t.th a (t2.th a z)) (q3.bind fun W3 H3 tt u h3 t3 S3 rt q4 => ?_)
  split at q4
  · simp only [Rep] at rt
    refine ⟨true, rt, iteT ⟨W3, e, h3, S3, q4.bind fun W4 H4 z1 v4 h4 t4 S4 r4 q5 => ?_⟩⟩
    exact hp'.go S4 (stays_V.go S3.hs t4 (stays_V.go S2.hs t3 ry)) r4 (fun a z => t.th a (t2.th a (t3.th a (t4.th a z)))) q5
  · simp only [Rep] at rt
    exact ⟨false, rt, iteF (q4.ret S3 (by simp only [rV, Rep]))⟩
  · exact q4.elim
theorem c_chain {op op' : CmpOp} {p p' : DV → DV → M DV} {r r' : R2} {z : Expr} {mz : En → M DV} (ho : OpR X (compareOp op) r) (ho' : OpR X (compareOp op') r') (hp : Prim2 c (pV c) (pV c) (rV c) p r) (hp' : Prim2 c (pV c) (pV c) (rV c) p' r')
    (ha : PE X a (RE c ma)) (hb : PE X b (RE c mb)) (hz : PE X z (RE c mz)) (hm : lastMarks [op, op'] [b, z] = false) :
    PE X (.Compare a [op, op'] [b, z] pos) (RE c (e3c p p' ma mb mz)) := pe_imp (pe_chain ho ho' ha hb hz hm) fun s H Q q => chain_use hp hp' q
theorem c_lelt {z : Expr} {mz : En → M DV} (ha : PE X a (RE c ma)) (hb : PE X b (RE c mb)) (hz : PE X z (RE c mz)) : PE X (.Compare a [.LtE, .Lt] [b, z] pos) (RE c (e3c vLe vLt ma mb mz)) := c_chain op_le op_lt prim_le prim_lt ha hb hz (nomark z)
theorem c_lele {z : Expr} {mz : En → M DV} (ha : PE X a (RE c ma)) (hb : PE X b (RE c mb)) (hz : PE X z (RE c mz)) : PE X (.Compare a [.LtE, .LtE] [b, z] pos) (RE c (e3c vLe vLe ma mb mz)) := c_chain op_le op_le prim_le prim_le ha hb hz (nomark z)
theorem c_ltlt {z : Expr} {mz : En → M DV} (ha : PE X a (RE c ma)) (hb : PE X b (RE c mb)) (hz : PE X z (RE c mz)) : PE X (.Compare a [.Lt, .Lt] [b, z] pos) (RE c (e3c vLt vLt ma mb mz)) := c_chain op_lt op_lt prim_lt prim_lt ha hb hz (nomark z)
end
end LM

/-! Expressions: lists, places, equality, tests, calls. -/
namespace LM
open PySem L2

/-! ### argument lists, displays -/
section
variable {X : Cx} {c : Cn} {pos : Pos} {ex : Expr} {es : List Expr} {n : Nat}
def aNil : En → M (List DV) := fun _ => pure []
def aCons (m : En → M DV) (ms : En → M (List DV)) : En → M (List DV) := fun e => m e >>= fun x => ms e >>= fun xs => pure (x :: xs)
theorem c_nil : PA X [] (RA c 0 aNil) := pa_imp pa_nil fun s H Q q => by
  obtain ⟨W, e, h, S, q⟩ := q
  exact q.ret S ⟨.nil, rfl⟩
theorem c_cons {m : En → M DV} {ms : En → M (List DV)} (ha : PE X ex (RE c m)) (hr : PA X es (RA c n ms)) (hs : starEach (ex :: es) X.env = (false, eval ex X.env) :: starEach es X.env := by rfl) : PA X (ex :: es) (RA c (n + 1) (aCons m ms)) :=
  pa_imp (pa_cons ha hr hs) fun s H Q q => RX.bind q fun W e W1 H1 x v h1 t S rx q2 => ⟨W1, e, h1, S, q2.bind fun W2 H2 xs vs h2 t2 S2 rs q3 => by
    have r1 := stays_V.go S.hs t2 rx
    exact q3.ret S2 ⟨.cons r1 rs.1, by rw [List.length_cons, rs.2]⟩⟩
def eTup (ms : En → M (List DV)) : En → M DV := fun e => ms e >>= fun l => pure (.tup l)
theorem c_tup {k} {ms : En → M (List DV)} (h : PA X es (RA c n ms)) (hn : n ≤ LN := by decide) : PE X (.Tuple es k pos) (RE c (eTup ms)) :=
  pe_imp (pe_tup h) fun s H Q q => RX.bind q fun W e W1 H1 l vs h1 t S r q2 => ⟨by rw [← r.1.len, r.2, line_LN]; exact hn, fun p hp => post_tup q2 S r.1 hp⟩
theorem c_lst {ms : En → M (List DV)} (h : PA X es (RA c n ms)) (hn : n ≤ LN := by decide) : PE X (.List es pos) (RO c ms) :=
  pe_imp (pe_lst h) fun s H Q q => by
    obtain ⟨W, e, h, S0, q⟩ := q
    refine ⟨W, e, h, S0, ?_⟩
    cases z : ms e h with
    | ok l h1 =>
      rw [z] at q
      intro W1 H1 vs t S r
      refine ⟨by rw [← r.1.len, r.2, line_LN]; exact hn, fun p hp => ?_⟩
      obtain ⟨t2, S2, o⟩ := new_own S r.1 hp (t.th p hp)
      exact q _ _ _ (t.trans t2) S2 o
    | exc x h1 =>
      rw [z] at q
      exact q
    | bad =>
      rw [z] at q
      exact q
def eFrz (ms : En → M (List DV)) : En → M DV := fun e => ms e >>= fun l => pure (.lst l)
theorem frz_own {W W1 : Wd} {e : En} {h : HP} {s : L2.St} {H H1 : Hp} {l : List DV} {v : V} (t : Step W H W1 H1) (S : Sim c W1 e h s H1) (o : rO c H W1 H1 l v) (S0 : Sim c W e h s H ∨ ∃ h0, Sim c W e h0 s H) :
    ∃ W2, Step W H W2 H1 ∧ Sim c W2 e h s H1 ∧ Rep c.g W2 H1 (.lst l) v := by
  obtain ⟨a, vs, e1, e2, r, n1, n2, n3⟩ := o
  have t2 : Step W H (W1.frz a) H1 := t.frz n3
  have hs : HSim c.g (W1.frz a) h H1 := S.hs.frz e2 n2
  have pr : Per W1 H1 (W1.frz a) H1 := ⟨fun _ f => .inl f, fun _ _ e => e, fun _ _ => rfl, fun _ _ e => e, fun _ _ _ e => e⟩
  refine ⟨W1.frz a, t2, ?_, ?_⟩
  · rcases S0 with S0 | ⟨h0, S0⟩
    · exact S0.step t2 hs
    · exact S0.step t2 hs
  · simp only [Rep]
    exact ⟨a, vs, e1, .inr rfl, e2, r.per pr _ _⟩
theorem c_frz {ms : En → M (List DV)} (h : PE X ex (RO c ms)) : PE X ex (RE c (eFrz ms)) := pe_imp h fun s H Q q => by
  obtain ⟨W, e, h, S0, q⟩ := q
  refine ⟨W, e, h, S0, ?_⟩
  unfold eFrz at q
  rw [M.bind_def] at q
  cases z : ms e h with
  | ok l h1 =>
    rw [z] at q
    intro W1 H1 v t S o
    obtain ⟨W2, t2, S2, r2⟩ := frz_own t S o (.inr ⟨h, S0⟩)
    exact q _ _ _ t2 S2 r2
  | exc x h1 =>
    rw [z] at q
    exact q
  | bad =>
    rw [z] at q
    exact q
theorem post_frz {W : Wd} {e : En} {h : HP} {s : L2.St} {H Hs : Hp} {l : List DV} {vs : List V} {p : Addr} {Q : V → Hp → Prop} (q : Post c (rV c Hs) e s W H (Res.ok (DV.lst l) h) Q) (S : Sim c W e h s H) (r : Reps c.g W H l vs) (hp : H p = none) : Q (.ref p) (upd H p (.lst vs)) := by
  obtain ⟨t2, S2, o⟩ := new_own S r hp hp
  obtain ⟨W3, t3, S3, r3⟩ := frz_own t2 S2 o (.inl S)
  exact q _ _ _ t3 S3 r3
end

/-! ### what can be read as a list, as a tuple -/
def asL (h : HP) : DV → Option (List DV)
  | .lst l => some l
  | .scr l => some (l.map .int)
  | .ref p => match h[p]? with
    | some (.lst l) => some l
    | _ => none
  | _ => none
theorem reps_ints {g : Glue} {W : Wd} {H : Hp} : ∀ l : List Int, Reps g W H (l.map DV.int) (l.map V.int)
  | [] => .nil
  | x :: r => .cons (by simp only [Rep]) (reps_ints r)
theorem asL_ok {c : Cn} {W : Wd} {e : En} {h : HP} {s : L2.St} {H : Hp} {d : DV} {v : V} {l : List DV} (S : Sim c W e h s H) (r : RepB c.g W H d v) (a : asL h d = some l) : ∃ p vs, v = .ref p ∧ SqL c.g.K H p vs ∧ Reps c.g W H l vs := by
  cases d with
  | lst m =>
    have e1 : m = l := Option.some.inj a
    subst e1
    rcases r with r | ⟨l2, p, vs, e1, e2, e3, r, n⟩ | ⟨_, _, _, _, e1, _⟩
    · simp only [Rep] at r
      obtain ⟨p, vs, e1, _, e3, r⟩ := r
      exact ⟨p, vs, e1, .of e3, r⟩
    · cases e1
      exact ⟨p, vs, e2, .of e3, r⟩
    · cases e1
  | scr m =>
    have e1 : m.map DV.int = l := Option.some.inj a
    subst e1
    rcases r with r | ⟨l2, p, vs, e1, _⟩ | ⟨_, _, _, _, e1, _⟩
    · simp only [Rep] at r
      obtain ⟨p, e1, r⟩ := r
      exact ⟨p, _, e1, r.l, reps_ints m⟩
    · cases e1
    · cases e1
  | ref q =>
    rcases r with r | ⟨l2, p, vs, e1, _⟩ | ⟨_, _, _, _, e1, _⟩
    · simp only [Rep] at r
      obtain ⟨p, e1, r⟩ := r
      have a2 : (match h[q]? with
        | some (.lst l) => some l
        | _ => none) = some l := a
      cases z : h[q]? with
      | none =>
        rw [z] at a2
        cases a2
      | some o =>
        rw [z] at a2
        cases o with
        | lst m =>
          have e2 : m = l := Option.some.inj a2
          subst e2
          obtain ⟨⟨vs, e3, r3⟩, _⟩ := S.hs.o q _ p z r
          exact ⟨p, vs, e1, .of e3, r3⟩
        | obj c l => cases a2
    · cases e1
    · cases e1
  | _ => cases a
theorem tup_ok {c : Cn} {W : Wd} {H : Hp} {v : V} {l : List DV} (r : RepB c.g W H (.tup l) v) : ∃ p vs, v = .ref p ∧ SqT c.g.K H p vs ∧ Reps c.g W H l vs := by
  rcases r with r | ⟨l2, p, vs, e1, _⟩ | ⟨_, _, _, _, e1, _⟩
  · simp only [Rep] at r
    exact r
  · cases e1
  · cases e1
theorem str_ok {c : Cn} {W : Wd} {H : Hp} {v : V} {x : Str} (r : RepB c.g W H (.str x) v) : v = .str x := by
  rcases r with r | ⟨l2, p, vs, e1, _⟩ | ⟨_, _, _, _, e1, _⟩
  · simpa only [Rep] using r
  · cases e1
  · cases e1
theorem reps_at {g : Glue} {W : Wd} {H : Hp} {l : List DV} {vs : List V} {i : Int} {d : DV} (r : Reps g W H l vs) (a : atI l i = some d) : ∃ v, atI vs i = some v ∧ Rep g W H d v := by
  unfold atI at a ⊢
  rw [← r.len]
  cases z : ixN l.length i with
  | none =>
    rw [z] at a
    cases a
  | some j =>
    rw [z] at a
    exact r.get a

/-! ### a[i] -/
def getI (l : List DV) (i : Int) : M DV := match atI l i with
  | some d => pure d
  | none => M.bad
def vIdx (x y : DV) : M DV := fun h => match y with
  | .int i => (match x with
    | .tup l => getI l i h
    | .str z => if z.length ≤ LN then (match atI z.cps.toList i with
      | some c => .ok (.str ⟨#[c]⟩) h
      | none => .bad) else .bad
    | _ => (match asL h x with
      | some l => getI l i h
      | none => .bad))
  | _ => .bad
section
variable {X : Cx} {c : Cn} {pos : Pos} {a b : Expr} {ma mb : En → M DV}
theorem getI_post {W : Wd} {e : En} {h : HP} {s : L2.St} {H Hs : Hp} {l : List DV} {vs : List V} {i : Int} {Q : V → Hp → Prop} (S : Sim c W e h s H) (r : Reps c.g W H l vs) (q : Post c (rV c Hs) e s W H (getI l i h) Q) : ∃ v, atI vs i = some v ∧ Q v H := by
  unfold getI at q
  cases z : atI l i with
  | none =>
    rw [z] at q
    exact q.elim
  | some d =>
    rw [z] at q
    obtain ⟨v, e1, r1⟩ := reps_at r z
    exact ⟨v, e1, q.ret S r1⟩
theorem prim_idx {K : PySem.W.Frag} (hk : c.g.K = K) : Prim2 c (pB c) (pV c) (rV c) vIdx (rIx K) := by
  subst hk
  refine ⟨fun {W e h s H Hs x y v w Q} S rx ry nw q => ?_⟩
  cases y with
  | int i =>
    simp only [pV, Rep] at ry
    have fin : ∀ l, asL h x = some l → Post c (rV c Hs) e s W H (getI l i h) Q → rIx c.g.K v w H Q := fun l hl q => by
      obtain ⟨p, vs, e1, sq, r⟩ := asL_ok S rx hl
      obtain ⟨u, e2, q2⟩ := getI_post S r q
      exact .inl ⟨p, vs, i, u, e1, ry, sq, e2, q2⟩
    have fin2 : Post c (rV c Hs) e s W H (match asL h x with
      | some l => getI l i h
      | none => .bad) Q → rIx c.g.K v w H Q := fun q => by
      cases z : asL h x with
      | none =>
        rw [z] at q
        exact q.elim
      | some l =>
        rw [z] at q
        exact fin l z q
    cases x with
    | tup l =>
      obtain ⟨p, vs, e1, sq, r⟩ := tup_ok rx
      obtain ⟨u, e2, q2⟩ := getI_post S r q
      exact .inr (.inl ⟨p, vs, i, u, e1, ry, sq, e2, q2⟩)
    | str z =>
      have ez := str_ok rx
      have q1 : Post c (rV c Hs) e s W H (if z.length ≤ LN then (match atI z.cps.toList i with
        | some c => .ok (.str ⟨#[c]⟩) h
        | none => .bad) else .bad) Q := q
      split at q1
      · rename_i hz
        cases e2 : atI z.cps.toList i with
        | none =>
          rw [e2] at q1
          exact q1.elim
        | some k =>
          rw [e2] at q1
          exact .inr (.inr ⟨z, i, k, ez, ry, by rw [line_LN]; exact hz, e2, q1.ret S (by simp only [rV, Rep])⟩)
      · exact q1.elim
    | _ => exact fin2 q
  | _ => exact q.elim
theorem c_idx (hk : X.K = c.g.K) (ha : PE X a (RB c ma)) (hb : PE X b (RE c mb)) (hs : PlainIx b := by intro _ _; rfl) : PE X (.Subscript a b pos) (RE c (e2 vIdx ma mb)) :=
  pe_imp (pe_ix ix_seq ha hb hs) fun s H Q q => two stays_B (prim_idx hk.symm) q

/-! ### a[lo:hi] -/
def sx (n d : Nat) : Option Int → Nat
  | none => d
  | some v => if v < 0 then (v + n).toNat else min v.toNat n
theorem sx_eq (n d : Nat) (o : Option Int) : HT.sIx n d o = sx n d o := by
  cases o with
  | none => rfl
  | some v =>
    have q := HT.clip_eq v n d
    show HT.sIx n d (some v) = if v < 0 then (v + n).toNat else min v.toNat n
    by_cases hv : v < 0
    · rw [if_pos hv] at q ⊢
      omega
    · rw [if_neg hv] at q ⊢
      omega
def cutD {A : Type} (l : List A) (lo hi : Option Int) : List A := (l.drop (sx l.length 0 lo)).take (sx l.length l.length hi - sx l.length 0 lo)
theorem cutV_eq (l : List V) (lo hi : Option Int) : cutV l lo hi = cutD l lo hi := by
  unfold cutV cutD
  rw [sx_eq, sx_eq]
theorem reps_cut {g : Glue} {W : Wd} {H : Hp} {l : List DV} {vs : List V} (lo hi : Option Int) (r : Reps g W H l vs) : Reps g W H (cutD l lo hi) (cutD vs lo hi) := by
  unfold cutD
  rw [← r.len]
  exact (r.drop _).take _
def vCut (x : DV) (lo hi : Option Int) : M DV := fun h => match x with
  | .tup l => .ok (.tup (cutD l lo hi)) h
  | _ => (match asL h x with
    | some l => .ok (.lst (cutD l lo hi)) h
    | none => .bad)
def oNone : En → M (Option Int) := fun _ => pure none
def oSome (m : En → M DV) : En → M (Option Int) := fun e => m e >>= fun x => match x with
  | .int i => pure (some i)
  | _ => M.bad
def eCut (m : En → M DV) (lo hi : En → M (Option Int)) : En → M DV := fun e => m e >>= fun x => lo e >>= fun l => hi e >>= fun u => vCut x l u
def rOI : Rl (Option Int) (Option Int) := fun _ _ _ d o => o = d
abbrev RP (c : Cn) (m : En → M (Option Int)) : TO := RX c rOI m
theorem c_pn : PO X none (RP c oNone) := ⟨fun pins s σ H Q I q => po_none.run pins s σ H Q I (by
  obtain ⟨W, e, h, S, q⟩ := q
  exact q.ret S rfl)⟩
theorem c_ps {ex : Expr} {m : En → M DV} (h : PE X ex (RE c m)) : PO X (some ex) (RP c (oSome m)) := ⟨fun pins s σ H Q I q => (po_some h).run pins s σ H Q I (RX.bind q fun W e W1 H1 x v h1 t S r q2 => by
  split at q2
  · simp only [Rep] at r
    exact ⟨_, r, q2.ret S rfl⟩
  · exact q2.elim)⟩
def rSlQ (K : PySem.W.Frag) : V → Option Int → Option Int → Hp → VK → Prop := fun x lo hi H Q => rSlA K x lo hi H Q ∨ rSlL K x lo hi H Q
theorem sl_Q : SlR X (rSlQ X.K) := sl_tupA.or sl_list
theorem cut_whole {A : Type} {l : List A} {lo hi : Option Int} (h : sx l.length 0 lo = 0 ∧ sx l.length l.length hi = l.length) : cutD l lo hi = l := by
  unfold cutD
  rw [h.1, h.2, List.drop_zero, Nat.sub_zero, List.take_length]
theorem c_cut (hk : X.K = c.g.K) {ex : Expr} {m : En → M DV} {lo hi : Option Expr} {ml mh : En → M (Option Int)} {p2} (he : PE X ex (RB c m)) (hl : PO X lo (RP c ml)) (hu : PO X hi (RP c mh)) :
    PE X (.Subscript ex (.Slice lo hi none p2) pos) (RE c (eCut m ml mh)) := pe_imp (pe_slice sl_Q he hl hu) fun s H Q q => by
  refine RX.bind q fun W e W1 H1 x v h1 t S rx q2 => ⟨W1, e, h1, S, q2.bind fun W2 H2 lo l2 h2 t2 S2 rl q3 => ⟨W2, e, h2, S2, q3.bind fun W3 H3 hi u3 h3 t3 S3 ru q4 => ?_⟩⟩
  have rx3 := stays_B.go S2.hs t3 (stays_B.go S.hs t2 rx)
  have e1 : l2 = lo := rl
  have e2 : u3 = hi := ru
  subst e1 e2
  have fin2 : Post c (rV c H) e s W3 H3 (match asL h3 x with
      | some l => .ok (.lst (cutD l l2 u3)) h3
      | none => .bad) Q → rSlQ X.K v l2 u3 H3 Q := fun q => by
    cases z : asL h3 x with
    | none =>
      rw [z] at q
      exact q.elim
    | some l =>
      rw [z] at q
      obtain ⟨p, vs, e1, sq, r⟩ := asL_ok S3 rx3 z
      refine .inr ⟨p, vs, e1, hk ▸ sq, fun d hd => ?_⟩
      rw [cutV_eq]
      exact post_frz q S3 (reps_cut _ _ r) hd
  cases x with
  | tup l =>
    obtain ⟨p, vs, e1, sq, r⟩ := tup_ok rx3
    refine .inl ⟨p, vs, e1, hk ▸ sq, fun w => ?_, fun _ d hd => ?_⟩
    · rw [sx_eq, sx_eq] at w
      have w2 : sx l.length 0 l2 = 0 ∧ sx l.length l.length u3 = l.length := by
        rw [r.len]
        exact w
      rw [e1] at rx3
      refine q4.ret S3 ?_
      simp only [rV, Rep]
      rw [cut_whole w2]
      exact ⟨p, vs, rfl, sq, r⟩
    · rw [cutV_eq]
      exact post_tup q4 S3 (reps_cut _ _ r) hd
  | _ => exact fin2 q4
end
end LM

/-! Equality, tests, built-ins. -/
namespace LM
open PySem L2

/-! ### equality -/
mutual
def toPD : DV → Option PyData
  | .non => some .none
  | .bl b => some (.bool b)
  | .int i => some (.int i)
  | .str s => some (.str s)
  | .tup l => (match toPDs l with
    | some r => some (.tuple r)
    | none => none)
  | .lst l => (match toPDs l with
    | some r => some (.list r)
    | none => none)
  | .scr l => some (.list (l.map .int))
  | _ => none
def toPDs : List DV → Option (List PyData)
  | [] => some []
  | d :: ds => (match toPD d, toPDs ds with
    | some x, some r => some (x :: r)
    | _, _ => none)
end
theorem dpAll_ints {K : PySem.W.Frag} {H : Hp} : ∀ l : List Int, DpAll K H (l.map V.int) (l.map PyData.int)
  | [] => .nil
  | x :: r => .cons (.int x) (dpAll_ints r)
mutual
theorem dp_of {g : Glue} {W : Wd} {H : Hp} : ∀ (d : DV) (v : V) (p : PyData), Rep g W H d v → toPD d = some p → Dp g.K H v p
  | .non, v, p, r, e => by
    simp only [Rep] at r
    simp only [toPD, Option.some.injEq] at e
    subst r e
    exact .non
  | .bl b, v, p, r, e => by
    simp only [Rep] at r
    simp only [toPD, Option.some.injEq] at e
    subst r e
    exact .bl b
  | .int i, v, p, r, e => by
    simp only [Rep] at r
    simp only [toPD, Option.some.injEq] at e
    subst r e
    exact .int i
  | .str s, v, p, r, e => by
    simp only [Rep] at r
    simp only [toPD, Option.some.injEq] at e
    subst r e
    exact .str s
  | .tup l, v, p, r, e => by
    simp only [Rep] at r
    obtain ⟨a, vs, e1, sq, rs⟩ := r
    simp only [toPD] at e
    cases z : toPDs l with
    | none =>
      rw [z] at e
      cases e
    | some ps =>
      rw [z] at e
      cases e
      subst e1
      exact .tup sq (dps_of l vs ps rs z)
  | .lst l, v, p, r, e => by
    simp only [Rep] at r
    obtain ⟨a, vs, e1, _, sq, rs⟩ := r
    simp only [toPD] at e
    cases z : toPDs l with
    | none =>
      rw [z] at e
      cases e
    | some ps =>
      rw [z] at e
      cases e
      subst e1
      exact .lst (.of sq) (dps_of l vs ps rs z)
  | .scr l, v, p, r, e => by
    simp only [Rep] at r
    obtain ⟨a, e1, sq⟩ := r
    simp only [toPD, Option.some.injEq] at e
    subst e1 e
    exact .lst sq.l (dpAll_ints l)
  | .dct _ _, v, p, r, e => by simp only [toPD] at e; cases e
  | .obj _ _, v, p, r, e => by simp only [toPD] at e; cases e
  | .fn _, v, p, r, e => by simp only [toPD] at e; cases e
  | .ref _, v, p, r, e => by simp only [toPD] at e; cases e
theorem dps_of {g : Glue} {W : Wd} {H : Hp} : ∀ (l : List DV) (vs : List V) (ps : List PyData), Reps g W H l vs → toPDs l = some ps → DpAll g.K H vs ps
  | [], vs, ps, r, e => by
    simp only [Reps] at r
    simp only [toPDs, Option.some.injEq] at e
    subst r e
    exact .nil
  | d :: ds, vs, ps, r, e => by
    simp only [Reps] at r
    obtain ⟨v, r2, e1, h1, h2⟩ := r
    simp only [toPDs] at e
    cases z : toPD d with
    | none =>
      rw [z] at e
      cases e
    | some p =>
      cases z2 : toPDs ds with
      | none =>
        rw [z, z2] at e
        cases e
      | some q =>
        rw [z, z2] at e
        cases e
        subst e1
        exact .cons (dp_of d v p h1 z) (dps_of ds r2 q h2 z2)
end
theorem dpB_of {g : Glue} {W : Wd} {H : Hp} {d : DV} {v : V} {p : PyData} (r : RepB g W H d v) (e : toPD d = some p) : Dp g.K H v p := by
  rcases r with r | ⟨l, a, vs, e1, e2, e3, r, n⟩ | ⟨ks, l, a, vs, e1, e2, e3, z, r, n⟩
  · exact dp_of d v p r e
  · subst e1 e2
    simp only [toPD] at e
    cases z : toPDs l with
    | none =>
      rw [z] at e
      cases e
    | some ps =>
      rw [z] at e
      cases e
      exact .lst (.of e3) (dps_of l vs ps r z)
  · subst e1
    simp only [toPD] at e
    cases e
def eqD (x y : DV) : Option Bool := match toPD x, toPD y with
  | some d, some e => if SeqAt.shaped d && SeqAt.shaped e then some (PyData.eqv d e) else none
  | _, _ => none
def vEq (x y : DV) : M DV := match eqD x y with
  | some b => pure (.bl b)
  | none => M.bad
def vNe (x y : DV) : M DV := match eqD x y with
  | some b => pure (.bl (!b))
  | none => M.bad
theorem eqD_ok {x y : DV} {b : Bool} (h : eqD x y = some b) : ∃ d e, toPD x = some d ∧ toPD y = some e ∧ SeqAt.shaped d = true ∧ SeqAt.shaped e = true ∧ b = PyData.eqv d e := by
  unfold eqD at h
  cases z : toPD x with
  | none =>
    rw [z] at h
    cases h
  | some d =>
    cases z2 : toPD y with
    | none =>
      rw [z, z2] at h
      cases h
    | some e =>
      rw [z, z2] at h
      have h2 : (if SeqAt.shaped d && SeqAt.shaped e then some (PyData.eqv d e) else none) = some b := h
      split at h2
      · rename_i q
        simp only [Bool.and_eq_true] at q
        exact ⟨d, e, rfl, rfl, q.1, q.2, (Option.some.inj h2).symm⟩
      · cases h2
section
variable {X : Cx} {c : Cn} {pos : Pos} {a b : Expr} {ma mb : En → M DV}
theorem prim_eq {K : PySem.W.Frag} (hk : c.g.K = K) : Prim2 c (pB c) (pB c) (rV c) vEq (rEqD K) := by
  subst hk
  refine ⟨fun {W e h s H Hs x y v w Q} S rx ry nw q => ?_⟩
  unfold vEq at q
  cases z : eqD x y with
  | none =>
    rw [z] at q
    exact q.elim
  | some b =>
    rw [z] at q
    obtain ⟨d, f, h1, h2, h3, h4, h5⟩ := eqD_ok z
    exact ⟨d, f, dpB_of rx h1, dpB_of ry h2, h3, h4, by rw [← h5]; exact q.ret S (by simp only [rV, Rep])⟩
theorem prim_ne {K : PySem.W.Frag} (hk : c.g.K = K) : Prim2 c (pB c) (pB c) (rV c) vNe (rNeD K) := by
  subst hk
  refine ⟨fun {W e h s H Hs x y v w Q} S rx ry nw q => ?_⟩
  unfold vNe at q
  cases z : eqD x y with
  | none =>
    rw [z] at q
    exact q.elim
  | some b =>
    rw [z] at q
    obtain ⟨d, f, h1, h2, h3, h4, h5⟩ := eqD_ok z
    exact ⟨d, f, dpB_of rx h1, dpB_of ry h2, h3, h4, by rw [← h5]; exact q.ret S (by simp only [rV, Rep])⟩
theorem c_eq (hk : X.K = c.g.K) (hu : X.A.units + 64 < cLine) (ha : PE X a (RB c ma)) (hb : PE X b (RB c mb)) : PE X (.Compare a [.Eq] [b] pos) (RE c (e2 vEq ma mb)) := c_cmp (op_eqD hu) stays_B (prim_eq hk.symm) ha hb (nomark _)
theorem c_ne (hk : X.K = c.g.K) (hu : X.A.units + 64 < cLine) (ha : PE X a (RB c ma)) (hb : PE X b (RB c mb)) : PE X (.Compare a [.NotEq] [b] pos) (RE c (e2 vNe ma mb)) := c_cmp (op_neD hu) stays_B (prim_ne hk.symm) ha hb (nomark _)

/-! ### is None -/
def isNon : DV → Bool
  | .non => true
  | _ => false
def vIsN (x : DV) : M DV := pure (.bl (isNon x))
def vNotN (x : DV) : M DV := pure (.bl (!isNon x))
theorem non_iff {g : Glue} {W : Wd} {H : Hp} {d : DV} {v : V} (r : RepB g W H d v) : decide (v = .non) = isNon d := by
  have key : ∀ d v, Rep g W H d v → decide (v = .non) = isNon d := fun d v r => by
    cases d <;> simp only [Rep] at r <;> first
      | (subst r; rfl)
      | (obtain ⟨a, _, e, _⟩ := r; subst e; rfl)
      | (obtain ⟨a, _, _, e, _⟩ := r; subst e; rfl)
      | (obtain ⟨a, e, _⟩ := r; subst e; rfl)
  rcases r with r | ⟨l, a, vs, e1, e2, e3, r, n⟩ | ⟨ks, l, a, vs, e1, e2, e3, z, r, n⟩
  · exact key d v r
  · subst e1 e2
    rfl
  · subst e1 e2
    rfl
theorem c_isN {j pos'} (ha : PE X a (RB c ma)) : PE X (.Compare a [.Is] [.Constant .none j pos'] pos) (RE c (e1 vIsN ma)) := pe_imp (pe_cmp (pc_isN ha) rfl) fun s H Q q =>
  q.bind fun W e W1 H1 x v h1 t S r q2 => by
    rw [non_iff r]
    exact q2.ret S (by simp only [rV, Rep])
theorem c_notN {j pos'} (ha : PE X a (RB c ma)) : PE X (.Compare a [.IsNot] [.Constant .none j pos'] pos) (RE c (e1 vNotN ma)) := pe_imp (pe_cmp (pc_notN ha) rfl) fun s H Q q =>
  q.bind fun W e W1 H1 x v h1 t S r q2 => by
    rw [non_iff r]
    exact q2.ret S (by simp only [rV, Rep])

/-! ### in -/
def flatD : DV → Bool
  | .non => true
  | .bl _ => true
  | .int _ => true
  | .str _ => true
  | _ => false
def eqF : DV → DV → Bool
  | .non, .non => true
  | .bl a, .bl b => a == b
  | .bl a, .int b => (if a then 1 else 0) == b
  | .int a, .bl b => a == (if b then 1 else 0)
  | .int a, .int b => a == b
  | .str a, .str b => a == b
  | _, _ => false
def flV : DV → V
  | .bl b => .bl b
  | .int i => .int i
  | .str s => .str s
  | _ => .non
theorem flat_rep {g : Glue} {W : Wd} {H : Hp} {d : DV} {v : V} (r : Rep g W H d v) (f : flatD d = true) : v = flV d ∧ flatV v = true := by
  cases d <;> simp only [Rep] at r <;> first
    | (subst r; exact ⟨rfl, rfl⟩)
    | cases f
theorem eqF_V {a b : DV} (ha : flatD a = true) (hb : flatD b = true) : eqV (flV a) (flV b) = eqF a b := by
  cases a <;> first
    | (cases ha; done)
    | (cases b <;> first
      | (cases hb; done)
      | rfl)
theorem flats_rep {g : Glue} {W : Wd} {H : Hp} : ∀ {l : List DV} {vs : List V}, Reps g W H l vs → l.all flatD = true → vs = l.map flV ∧ vs.all flatV = true
  | [], vs, r, _ => by
    simp only [Reps] at r
    subst r
    exact ⟨rfl, rfl⟩
  | d :: ds, vs, r, f => by
    simp only [Reps] at r
    obtain ⟨v, r2, e1, h1, h2⟩ := r
    rw [List.all_cons, Bool.and_eq_true] at f
    obtain ⟨q1, q2⟩ := flat_rep h1 f.1
    obtain ⟨q3, q4⟩ := flats_rep h2 f.2
    subst e1 q1 q3
    exact ⟨rfl, by rw [List.all_cons, q2, q4]; rfl⟩
theorem inV_F {x : DV} (hx : flatD x = true) : ∀ {l : List DV}, l.all flatD = true → inV (flV x) (l.map flV) = l.any fun y => eqF y x
  | [], _ => rfl
  | d :: ds, f => by
    rw [List.all_cons, Bool.and_eq_true] at f
    have ih := inV_F hx f.2
    unfold inV at ih ⊢
    rw [List.map_cons, List.any_cons, List.any_cons, ih, eqF_V f.1 hx]
def asS (h : HP) : DV → Option (List DV)
  | .tup l => some l
  | d => asL h d
def vIn (neg : Bool) (x y : DV) : M DV := fun h => match asS h y with
  | some l => if flatD x && l.all flatD then .ok (.bl (if neg then !(l.any fun y => eqF y x) else l.any fun y => eqF y x)) h else .bad
  | none => .bad
theorem asS_ok {W : Wd} {e : En} {h : HP} {s : L2.St} {H : Hp} {d : DV} {v : V} {l : List DV} (S : Sim c W e h s H) (r : RepB c.g W H d v) (a : asS h d = some l) : ∃ p vs, v = .ref p ∧ (SqL c.g.K H p vs ∨ SqT c.g.K H p vs) ∧ Reps c.g W H l vs := by
  have fin : asL h d = some l → ∃ p vs, v = .ref p ∧ (SqL c.g.K H p vs ∨ SqT c.g.K H p vs) ∧ Reps c.g W H l vs := fun a => by
    obtain ⟨p, vs, e1, sq, rs⟩ := asL_ok S r a
    exact ⟨p, vs, e1, .inl sq, rs⟩
  cases d with
  | tup m =>
    have e1 : m = l := Option.some.inj a
    subst e1
    obtain ⟨p, vs, e1, sq, rs⟩ := tup_ok r
    exact ⟨p, vs, e1, .inr sq, rs⟩
  | _ => exact fin a
theorem prim_in {K : PySem.W.Frag} (hk : c.g.K = K) (neg : Bool) : Prim2 c (pV c) (pB c) (rV c) (vIn neg) (rIn K neg) := by
  subst hk
  refine ⟨fun {W e h s H Hs x y v w Q} S rx ry nw q => ?_⟩
  unfold vIn at q
  cases z : asS h y with
  | none =>
    rw [z] at q
    exact q.elim
  | some l =>
    rw [z] at q
    have q1 : Post c (rV c Hs) e s W H (if flatD x && l.all flatD then .ok (.bl (if neg then !(l.any fun y => eqF y x) else l.any fun y => eqF y x)) h else .bad) Q := q
    split at q1
    · rename_i f
      rw [Bool.and_eq_true] at f
      obtain ⟨p, vs, e1, sq, rs⟩ := asS_ok S ry z
      obtain ⟨g1, g2⟩ := flat_rep rx f.1
      obtain ⟨g3, g4⟩ := flats_rep rs f.2
      refine ⟨p, vs, e1, sq, g2, g4, ?_⟩
      rw [g1, g3, inV_F f.1 f.2]
      exact q1.ret S (by simp only [rV, Rep])
    · exact q1.elim
theorem c_in (hk : X.K = c.g.K) (ha : PE X a (RE c ma)) (hb : PE X b (RB c mb)) (hm : behindInMarks .In b = false := by rfl) : PE X (.Compare a [.In] [b] pos) (RE c (e2 (vIn false) ma mb)) := c_cmp op_in_seq stays_V (prim_in hk.symm false) ha hb hm
theorem c_notin (hk : X.K = c.g.K) (ha : PE X a (RE c ma)) (hb : PE X b (RB c mb)) (hm : behindInMarks .NotIn b = false := by rfl) : PE X (.Compare a [.NotIn] [b] pos) (RE c (e2 (vIn true) ma mb)) := c_cmp op_notIn_seq stays_V (prim_in hk.symm true) ha hb hm

/-! ### and, or, not; tests -/
def eAnd (a b : En → M DV) : En → M DV := fun e => a e >>= fun x => match x with
  | .bl true => b e
  | .bl false => pure (.bl false)
  | _ => M.bad
def eOr (a b : En → M DV) : En → M DV := fun e => a e >>= fun x => match x with
  | .bl true => pure (.bl true)
  | .bl false => b e
  | _ => M.bad
def vNot (x : DV) : M DV := match x with
  | .bl b => pure (.bl (!b))
  | _ => M.bad
variable {rest : List Expr}
theorem c_one {op} (h : PE X a (RE c ma)) : PE X (.BoolOp op [a] pos) (RE c ma) := pe_one h
theorem c_and (ha : PE X a (RE c ma)) (hb : PE X (.BoolOp .And (b :: rest) pos) (RE c mb)) : PE X (.BoolOp .And (a :: b :: rest) pos) (RE c (eAnd ma mb)) := pe_imp (pe_and ha hb) fun s H Q q =>
  q.bind fun W e W1 H1 x v h1 t S r q2 => by
    split at q2
    · simp only [Rep] at r
      exact ⟨true, r, iteT ⟨W1, e, h1, S, q2.later (Step.refl _ _)⟩⟩
    · simp only [Rep] at r
      exact ⟨false, r, iteF (q2.ret S (by simp only [rV, Rep]))⟩
    · exact q2.elim
theorem c_or (ha : PE X a (RE c ma)) (hb : PE X (.BoolOp .Or (b :: rest) pos) (RE c mb)) : PE X (.BoolOp .Or (a :: b :: rest) pos) (RE c (eOr ma mb)) := pe_imp (pe_or ha hb) fun s H Q q =>
  q.bind fun W e W1 H1 x v h1 t S r q2 => by
    split at q2
    · simp only [Rep] at r
      exact ⟨true, r, iteT (q2.ret S (by simp only [rV, Rep]))⟩
    · simp only [Rep] at r
      exact ⟨false, r, iteF ⟨W1, e, h1, S, q2.later (Step.refl _ _)⟩⟩
    · exact q2.elim
theorem c_not (ha : PE X a (RE c ma)) : PE X (.UnaryOp .Not a pos) (RE c (e1 vNot ma)) := pe_imp (pe_not ha) fun s H Q q =>
  q.bind fun W e W1 H1 x v h1 t S r q2 => by
    unfold vNot at q2
    split at q2
    · simp only [Rep] at r
      exact ⟨_, r, q2.ret S (by simp only [rV, Rep])⟩
    · exact q2.elim
/-- a truth value asked -/
def asB (x : DV) : M Bool := match x with
  | .bl b => pure b
  | _ => M.bad
def tb (m : En → M DV) : En → M Bool := fun e => m e >>= asB
theorem tb_use {s : L2.St} {H : Hp} {Q : Bool → Hp → Prop} {t : TE} (f : ∀ Q, RE c ma s H Q → t s H Q) (q : RT c (tb ma) s H Q) : t s H fun x H1 => ∃ k, x = .bl k ∧ Q k H1 := f _ (by
  obtain ⟨W, e, h, S0, q⟩ := q
  refine ⟨W, e, h, S0, ?_⟩
  unfold tb at q
  rw [M.bind_def] at q
  cases z : ma e h with
  | ok d h1 =>
    rw [z] at q
    intro W1 H1 v t S r
    have q2 : Post c (rT H) e s W H (asB d h1) Q := q
    unfold asB at q2
    split at q2
    · simp only [rV, Rep] at r
      exact ⟨_, r, q2 _ _ _ t S rfl⟩
    · exact q2.elim
  | exc x h1 =>
    rw [z] at q
    exact q
  | bad =>
    rw [z] at q
    exact q)
theorem t_val (h : PE X a (RE c ma)) (he : ∀ whole, isTrue a X.env whole = (do let v ← whole; standAt a.pos; holding [v] (truthy v)) := by intro _; rfl) : PT X a (RT c (tb ma)) := pt_imp (pt_val h he) fun s H Q q => tb_use (t := RE c ma) (fun _ z => z) q
theorem t_cmp {op : CmpOp} {p : DV → DV → M DV} {Ra Rb : Wd → Hp → DV → V → Prop} {r : R2} (ho : OpR X (compareOp op) r) (st : Stays c Ra) (hp : Prim2 c Ra Rb (rV c) p r) (ha : PE X a (RX c (fun _ => Ra) ma)) (hb : PE X b (RX c (fun _ => Rb) mb)) (hm : behindInMarks op b = false) :
    PT X (.Compare a [op] [b] pos) (RT c (tb (e2 p ma mb))) := pt_imp (pt_cmpR ho ha hb hm) fun s H Q q => tb_use (c := c) (ma := e2 p ma mb) (t := tOp r (RX c (fun _ => Ra) ma) (RX c (fun _ => Rb) mb)) (fun _ z => two st hp z) q
theorem t_lt (ha : PE X a (RE c ma)) (hb : PE X b (RE c mb)) : PT X (.Compare a [.Lt] [b] pos) (RT c (tb (e2 vLt ma mb))) := t_cmp op_lt stays_V prim_lt ha hb (nomark _)
theorem t_le (ha : PE X a (RE c ma)) (hb : PE X b (RE c mb)) : PT X (.Compare a [.LtE] [b] pos) (RT c (tb (e2 vLe ma mb))) := t_cmp op_le stays_V prim_le ha hb (nomark _)
theorem t_gt (ha : PE X a (RE c ma)) (hb : PE X b (RE c mb)) : PT X (.Compare a [.Gt] [b] pos) (RT c (tb (e2 vGt ma mb))) := t_cmp op_gt stays_V prim_gt ha hb (nomark _)
theorem t_ge (ha : PE X a (RE c ma)) (hb : PE X b (RE c mb)) : PT X (.Compare a [.GtE] [b] pos) (RT c (tb (e2 vGe ma mb))) := t_cmp op_ge stays_V prim_ge ha hb (nomark _)
theorem t_eq (hk : X.K = c.g.K) (hu : X.A.units + 64 < cLine) (ha : PE X a (RB c ma)) (hb : PE X b (RB c mb)) : PT X (.Compare a [.Eq] [b] pos) (RT c (tb (e2 vEq ma mb))) := t_cmp (op_eqD hu) stays_B (prim_eq hk.symm) ha hb (nomark _)
theorem t_ne (hk : X.K = c.g.K) (hu : X.A.units + 64 < cLine) (ha : PE X a (RB c ma)) (hb : PE X b (RB c mb)) : PT X (.Compare a [.NotEq] [b] pos) (RT c (tb (e2 vNe ma mb))) := t_cmp (op_neD hu) stays_B (prim_ne hk.symm) ha hb (nomark _)
theorem t_in (hk : X.K = c.g.K) (ha : PE X a (RE c ma)) (hb : PE X b (RB c mb)) (hm : behindInMarks .In b = false := by rfl) : PT X (.Compare a [.In] [b] pos) (RT c (tb (e2 (vIn false) ma mb))) := t_cmp op_in_seq stays_V (prim_in hk.symm false) ha hb hm
theorem t_notin (hk : X.K = c.g.K) (ha : PE X a (RE c ma)) (hb : PE X b (RB c mb)) (hm : behindInMarks .NotIn b = false := by rfl) : PT X (.Compare a [.NotIn] [b] pos) (RT c (tb (e2 (vIn true) ma mb))) := t_cmp op_notIn_seq stays_V (prim_in hk.symm true) ha hb hm
theorem t_isN {j pos'} (ha : PE X a (RB c ma)) : PT X (.Compare a [.Is] [.Constant .none j pos'] pos) (RT c (tb (e1 vIsN ma))) := pt_imp (pt_cmp (pc_isN ha) rfl) fun s H Q q =>
  tb_use (c := c) (ma := e1 vIsN ma) (t := tIsN (RB c ma)) (fun Q q => q.bind fun W e W1 H1 x v h1 t S r q2 => by
    rw [non_iff r]
    exact q2.ret S (by simp only [rV, Rep])) q
theorem t_notN {j pos'} (ha : PE X a (RB c ma)) : PT X (.Compare a [.IsNot] [.Constant .none j pos'] pos) (RT c (tb (e1 vNotN ma))) := pt_imp (pt_cmp (pc_notN ha) rfl) fun s H Q q =>
  tb_use (c := c) (ma := e1 vNotN ma) (t := tNotN (RB c ma)) (fun Q q => q.bind fun W e W1 H1 x v h1 t S r q2 => by
    rw [non_iff r]
    exact q2.ret S (by simp only [rV, Rep])) q
theorem t_chain {op op' : CmpOp} {p p' : DV → DV → M DV} {r r' : R2} {z : Expr} {mz : En → M DV} (ho : OpR X (compareOp op) r) (ho' : OpR X (compareOp op') r') (hp : Prim2 c (pV c) (pV c) (rV c) p r) (hp' : Prim2 c (pV c) (pV c) (rV c) p' r')
    (ha : PE X a (RE c ma)) (hb : PE X b (RE c mb)) (hz : PE X z (RE c mz)) (hm : lastMarks [op, op'] [b, z] = false) :
    PT X (.Compare a [op, op'] [b, z] pos) (RT c (tb (e3c p p' ma mb mz))) := pt_imp (L2.pt_chain ho ho' ha hb hz hm) fun s H Q q => by
  refine tb_use (c := c) (ma := e3c p p' ma mb mz) (t := tChain r r' (RE c ma) (RE c mb) (RE c mz)) (fun Q q => ?_) q
  exact chain_use hp hp' q
theorem t_lelt {z : Expr} {mz : En → M DV} (ha : PE X a (RE c ma)) (hb : PE X b (RE c mb)) (hz : PE X z (RE c mz)) : PT X (.Compare a [.LtE, .Lt] [b, z] pos) (RT c (tb (e3c vLe vLt ma mb mz))) := t_chain op_le op_lt prim_le prim_lt ha hb hz (nomark z)
theorem t_lele {z : Expr} {mz : En → M DV} (ha : PE X a (RE c ma)) (hb : PE X b (RE c mb)) (hz : PE X z (RE c mz)) : PT X (.Compare a [.LtE, .LtE] [b, z] pos) (RT c (tb (e3c vLe vLe ma mb mz))) := t_chain op_le op_le prim_le prim_le ha hb hz (nomark z)
theorem t_ltlt {z : Expr} {mz : En → M DV} (ha : PE X a (RE c ma)) (hb : PE X b (RE c mb)) (hz : PE X z (RE c mz)) : PT X (.Compare a [.Lt, .Lt] [b, z] pos) (RT c (tb (e3c vLt vLt ma mb mz))) := t_chain op_lt op_lt prim_lt prim_lt ha hb hz (nomark z)
def tAnd (a b : En → M Bool) : En → M Bool := fun e => a e >>= fun x => if x then b e else pure false
def tOr (a b : En → M Bool) : En → M Bool := fun e => a e >>= fun x => if x then pure true else b e
def tNot (a : En → M Bool) : En → M Bool := fun e => a e >>= fun x => pure (!x)
variable {ta tc : En → M Bool}
theorem t_and1 (ha : PT X a (RT c ta)) : PW X (.BoolOp .And [a] pos) (RT c ta) := pw_and1 ha
theorem t_or1 (ha : PT X a (RT c ta)) : PW X (.BoolOp .Or [a] pos) (RT c ta) := pw_or1 ha
theorem pw_imp {ex : Expr} {t t' : TT} (h : PW X ex t) (f : ∀ s H Q, t' s H Q → t s H Q) : PW X ex t' := ⟨fun wh pins s σ H Q I q => h.run wh pins s σ H Q I (f σ H Q q)⟩
theorem t_and (ha : PT X a (RT c ta)) (hb : PW X (.BoolOp .And (b :: rest) pos) (RT c tc)) : PW X (.BoolOp .And (a :: b :: rest) pos) (RT c (tAnd ta tc)) := pw_imp (pw_and ha hb) fun s H Q q =>
  q.bind fun W e W1 H1 x v h1 t S r q2 => by
    have r2 : v = x := r
    subst r2
    split at q2
    · rename_i hv
      rw [hv]
      exact iteT ⟨W1, e, h1, S, q2.later (Step.refl _ _)⟩
    · rename_i hv
      have hv : v = false := by simpa using hv
      rw [hv]
      exact iteF (q2.ret S rfl)
theorem t_or (ha : PT X a (RT c ta)) (hb : PW X (.BoolOp .Or (b :: rest) pos) (RT c tc)) : PW X (.BoolOp .Or (a :: b :: rest) pos) (RT c (tOr ta tc)) := pw_imp (pw_or ha hb) fun s H Q q =>
  q.bind fun W e W1 H1 x v h1 t S r q2 => by
    have r2 : v = x := r
    subst r2
    split at q2
    · rename_i hv
      rw [hv]
      exact iteT (q2.ret S rfl)
    · rename_i hv
      have hv : v = false := by simpa using hv
      rw [hv]
      exact iteF ⟨W1, e, h1, S, q2.later (Step.refl _ _)⟩
theorem t_not (ha : PT X a (RT c ta)) : PT X (.UnaryOp .Not a pos) (RT c (tNot ta)) := pt_imp (pt_not ha) fun s H Q q =>
  q.bind fun W e W1 H1 x v h1 t S r q2 => by
    have r2 : v = x := r
    subst r2
    exact q2.ret S rfl
end
end LM

/-! Calls of built-ins and of defs; what is walked; comprehensions. -/
namespace LM
open PySem L2

/-! ### one argument -/
structure Prim1 (c : Cn) (Ra : Wd → Hp → DV → V → Prop) {A : Type} (R : Rl A V) (p : DV → M A) (r : List V → Hp → VK → Prop) : Prop where
  go : ∀ {W : Wd} {e : En} {h : HP} {s : L2.St} {H : Hp} {Hs : Hp} {x : DV} {v : V} {Q : V → Hp → Prop}, Sim c W e h s H → Ra W H x v → (∀ a, H a = none → Hs a = none) → Post c (R Hs) e s W H (p x h) Q → r [v] H Q
section
variable {X : Cx} {c : Cn} {pos p1 : Pos} {a b : Expr} {ma mb : En → M DV} {x : Str} {id T : String} {r : List V → Hp → VK → Prop} {Ra : Wd → Hp → DV → V → Prop} {A : Type} {R : Rl A V} {p : DV → M A}
theorem one_use (hp : Prim1 c Ra R p r) {s : L2.St} {H : Hp} {Q : VK} (q : RX c R (fun e => ma e >>= p) s H Q) : tCB r (tCons (RX c (fun _ => Ra) ma) tNil) s H Q :=
  RX.bind (R2 := fun _ => Ra) (K := fun v H1 => r [v] H1 Q) q fun W e W1 H1 x v h1 t S rx q2 => hp.go S rx (fun a z => t.th a z) q2
theorem c_callB (hc : CallR X (.builtin id) r) (hp : Prim1 c Ra R p r) (hg : Gl X x) (hm : X.mg x = none) (hv : bootBuiltins x = some (.builtin id)) (ha : PE X a (RX c (fun _ => Ra) ma)) (hn : x ≠ "__name__" := by decide) (hdb : (x == ("__debug__" : Str)) = false := by decide)
    (he : starEach (a :: []) X.env = (false, eval a X.env) :: starEach [] X.env := by rfl) : PE X (.Call (.Name x p1) [a] [] pos) (RX c R (fun e => ma e >>= p)) :=
  pe_imp (pe_callB hc hg hm hv (pa_cons ha pa_nil he) hn hdb he rfl) fun s H Q q => one_use hp q
theorem c_callTy (hc : CallR X (.type T) r) (hp : Prim1 c Ra R p r) (hg : Gl X x) (hm : X.mg x = none) (hv : bootBuiltins x = some (.type T)) (ha : PE X a (RX c (fun _ => Ra) ma)) (hn : x ≠ "__name__" := by decide) (hdb : (x == ("__debug__" : Str)) = false := by decide)
    (he : starEach (a :: []) X.env = (false, eval a X.env) :: starEach [] X.env := by rfl) : PE X (.Call (.Name x p1) [a] [] pos) (RX c R (fun e => ma e >>= p)) :=
  pe_imp (pe_callTy hc hg hm hv (pa_cons ha pa_nil he) hn hdb he rfl) fun s H Q q => one_use hp q

/-! len, int, tuple, list, sum -/
def vLen (x : DV) : M DV := fun h => match x with
  | .str z => if z.length ≤ LN then .ok (.int z.length) h else .bad
  | _ => (match asS h x with
    | some l => .ok (.int l.length) h
    | none => .bad)
theorem prim_len {K : PySem.W.Frag} (hk : c.g.K = K) : Prim1 c (pB c) (rV c) vLen (fun xs H Q => ∃ x n, xs = [x] ∧ LenV K x H n ∧ Q (.int n) H) := by
  subst hk
  refine ⟨fun {W e h s H Hs x v Q} S rx nw q => ?_⟩
  have fin : Post c (rV c Hs) e s W H (match asS h x with
      | some l => .ok (.int l.length) h
      | none => .bad) Q → ∃ x n, [v] = [x] ∧ LenV c.g.K x H n ∧ Q (.int n) H := fun q => by
    cases z : asS h x with
    | none =>
      rw [z] at q
      exact q.elim
    | some l =>
      rw [z] at q
      obtain ⟨p, vs, e1, sq, rs⟩ := asS_ok S rx z
      refine ⟨v, vs.length, rfl, ?_, ?_⟩
      · subst e1
        rcases sq with sq | sq
        · exact .inl ⟨vs, sq, rfl⟩
        · exact .inr ⟨vs, sq, rfl⟩
      · rw [← rs.len]
        exact q.ret S (by simp only [rV, Rep])
  cases x with
  | str z =>
    have ez := str_ok rx
    have q1 : Post c (rV c Hs) e s W H (if z.length ≤ LN then .ok (.int z.length) h else .bad) Q := q
    split at q1
    · rename_i hz
      subst ez
      exact ⟨_, z.length, rfl, ⟨by rw [line_LN]; exact hz, rfl⟩, q1.ret S (by simp only [rV, Rep])⟩
    · exact q1.elim
  | _ => exact fin q
theorem c_len (hk : X.K = c.g.K) (hg : Gl X "len") (hm : X.mg "len" = none) (ha : PE X a (RB c ma)) (he : starEach (a :: []) X.env = (false, eval a X.env) :: starEach [] X.env := by rfl) : PE X (.Call (.Name "len" p1) [a] [] pos) (RE c (e1 vLen ma)) :=
  c_callB call_len (prim_len hk.symm) hg hm PySem.boot_len ha (by decide) (by decide) he
def vInt (x : DV) : M DV := match x with
  | .int i => pure (.int i)
  | .bl b => pure (.int (if b then 1 else 0))
  | _ => M.bad
theorem prim_int : Prim1 c (pV c) (rV c) vInt (fun xs H Q => (∃ i, xs = [.int i] ∧ Q (.int i) H) ∨ ∃ k, xs = [.bl k] ∧ Q (.int (if k then 1 else 0)) H) := by
  refine ⟨fun {W e h s H Hs x v Q} S rx nw q => ?_⟩
  unfold vInt at q
  split at q
  · simp only [pV, Rep] at rx
    subst rx
    exact .inl ⟨_, rfl, q.ret S (by simp only [rV, Rep])⟩
  · simp only [pV, Rep] at rx
    subst rx
    exact .inr ⟨_, rfl, q.ret S (by simp only [rV, Rep])⟩
  · exact q.elim
theorem c_intOf (hg : Gl X "int") (hm : X.mg "int" = none) (ha : PE X a (RE c ma)) (he : starEach (a :: []) X.env = (false, eval a X.env) :: starEach [] X.env := by rfl) : PE X (.Call (.Name "int" p1) [a] [] pos) (RE c (e1 vInt ma)) :=
  c_callTy call_int1 prim_int hg hm (by decide +kernel) ha (by decide) (by decide) he
def vTup (x : DV) : M DV := fun h => match asS h x with
  | some l => .ok (.tup l) h
  | none => .bad
theorem prim_tup {K : PySem.W.Frag} (hk : c.g.K = K) : Prim1 c (pB c) (rV c) vTup (fun xs H Q => ∃ p ys, xs = [.ref p] ∧ ((SqL K H p ys ∧ ∀ l, H l = none → Q (.ref l) (upd H l (.tup ys))) ∨ (SqT K H p ys ∧ Q (.ref p) H))) := by
  subst hk
  refine ⟨fun {W e h s H Hs x v Q} S rx nw q => ?_⟩
  unfold vTup at q
  cases z : asS h x with
  | none =>
    rw [z] at q
    exact q.elim
  | some l =>
    rw [z] at q
    obtain ⟨p, vs, e1, sq, rs⟩ := asS_ok S rx z
    subst e1
    rcases sq with sq | sq
    · exact ⟨p, vs, rfl, .inl ⟨sq, fun d hd => post_tup q S rs hd⟩⟩
    · refine ⟨p, vs, rfl, .inr ⟨sq, q.ret S ?_⟩⟩
      simp only [rV, Rep]
      exact ⟨p, vs, rfl, sq, rs⟩
theorem c_tupOf (hk : X.K = c.g.K) (hg : Gl X "tuple") (hm : X.mg "tuple" = none) (ha : PE X a (RB c ma)) (he : starEach (a :: []) X.env = (false, eval a X.env) :: starEach [] X.env := by rfl) : PE X (.Call (.Name "tuple" p1) [a] [] pos) (RE c (e1 vTup ma)) :=
  c_callTy call_tuple_of (prim_tup hk.symm) hg hm (by decide +kernel) ha (by decide) (by decide) he
def lLst (x : DV) : M (List DV) := fun h => match asS h x with
  | some l => .ok l h
  | none => .bad
theorem prim_lst {K : PySem.W.Frag} (hk : c.g.K = K) : Prim1 c (pB c) (rO c) lLst (fun xs H Q => ∃ p ys, xs = [.ref p] ∧ (SqL K H p ys ∨ SqT K H p ys) ∧ ∀ l, H l = none → Q (.ref l) (upd H l (.lst ys))) := by
  subst hk
  refine ⟨fun {W e h s H Hs x v Q} S rx nw q => ?_⟩
  unfold lLst at q
  cases z : asS h x with
  | none =>
    rw [z] at q
    exact q.elim
  | some l =>
    rw [z] at q
    obtain ⟨p, vs, e1, sq, rs⟩ := asS_ok S rx z
    subst e1
    exact ⟨p, vs, rfl, sq, fun d hd => post_own q S rs hd (nw d hd)⟩
theorem c_listOf (hk : X.K = c.g.K) (hg : Gl X "list") (hm : X.mg "list" = none) (ha : PE X a (RB c ma)) (he : starEach (a :: []) X.env = (false, eval a X.env) :: starEach [] X.env := by rfl) : PE X (.Call (.Name "list" p1) [a] [] pos) (RO c (fun e => ma e >>= lLst)) :=
  c_callTy call_list_of (prim_lst hk.symm) hg hm (by decide +kernel) ha (by decide) (by decide) he
def asInts : List DV → Option (List Int)
  | [] => some []
  | .int i :: r => (match asInts r with
    | some l => some (i :: l)
    | none => none)
  | _ => none
theorem asInts_map : ∀ {l : List DV} {ns : List Int}, asInts l = some ns → l = ns.map DV.int
  | [], ns, h => by
    have e : [] = ns := Option.some.inj h
    rw [← e]
    rfl
  | d :: r, ns, h => by
    cases d <;> first
      | (cases h; done)
      | (rename_i i
         have h2 : (match asInts r with
           | some l => some (i :: l)
           | none => none) = some ns := h
         cases z : asInts r with
         | none =>
           rw [z] at h2
           cases h2
         | some l =>
           rw [z] at h2
           have e : i :: l = ns := Option.some.inj h2
           rw [← e, asInts_map z]
           rfl)
theorem asInts_ints : ∀ ns : List Int, asInts (ns.map DV.int) = some ns
  | [] => rfl
  | n :: r => by
    show (match asInts (r.map DV.int) with
      | some l => some (n :: l)
      | none => none) = some (n :: r)
    rw [asInts_ints r]
theorem reps_ints_inv {g : Glue} {W : Wd} {H : Hp} : ∀ {ns : List Int} {vs : List V}, Reps g W H (ns.map DV.int) vs → vs = ns.map V.int
  | [], vs, r => by simpa only [List.map_nil, Reps] using r
  | n :: ns, vs, r => by
    simp only [List.map_cons, Reps] at r
    obtain ⟨v, r2, e1, h1, h2⟩ := r
    simp only [Rep] at h1
    rw [e1, h1, reps_ints_inv h2]
    rfl
def vSum (x : DV) : M DV := fun h => match asL h x with
  | some l => (match asInts l with
    | some ns => .ok (.int ns.sum) h
    | none => .bad)
  | none => .bad
theorem prim_sum {K : PySem.W.Frag} (hk : c.g.K = K) : Prim1 c (pB c) (rV c) vSum (rSum K) := by
  subst hk
  refine ⟨fun {W e h s H Hs x v Q} S rx nw q => ?_⟩
  unfold vSum at q
  cases z : asL h x with
  | none =>
    rw [z] at q
    exact q.elim
  | some l =>
    rw [z] at q
    have q1 : Post c (rV c Hs) e s W H (match asInts l with
      | some ns => .ok (.int ns.sum) h
      | none => .bad) Q := q
    cases z2 : asInts l with
    | none =>
      rw [z2] at q1
      exact q1.elim
    | some ns =>
      rw [z2] at q1
      obtain ⟨p, vs, e1, sq, rs⟩ := asL_ok S rx z
      rw [asInts_map z2] at rs
      have e2 := reps_ints_inv rs
      subst e1 e2
      exact ⟨p, ns, rfl, sq, q1.ret S (by simp only [rV, Rep])⟩
theorem c_sum (hk : X.K = c.g.K) (hc : X.calm = true) (hg : Gl X "sum") (hm : X.mg "sum" = none) (ha : PE X a (RB c ma)) (he : starEach (a :: []) X.env = (false, eval a X.env) :: starEach [] X.env := by rfl) : PE X (.Call (.Name "sum" p1) [a] [] pos) (RE c (e1 vSum ma)) :=
  c_callB (cr_sum hc) (prim_sum hk.symm) hg hm (by decide +kernel) ha (by decide) (by decide) he
/-- an own list, where it is only read -/
theorem c_oB {ms : En → M (List DV)} (h : PE X a (RO c ms)) : PE X a (RB c (eFrz ms)) := c_toB (c_frz h)

/-! ### two arguments: max, min -/
def vMax (x y : DV) : M DV := match x, y with
  | .int i, .int j => pure (.int (if j > i then j else i))
  | _, _ => M.bad
def vMin (x y : DV) : M DV := match x, y with
  | .int i, .int j => pure (.int (if j < i then j else i))
  | _, _ => M.bad
theorem c_max2 (hc : X.calm = true) (hg : Gl X "max") (hm : X.mg "max" = none) (ha : PE X a (RE c ma)) (hb : PE X b (RE c mb)) (he : starEach [a, b] X.env = (false, eval a X.env) :: starEach [b] X.env := by rfl) (he2 : starEach [b] X.env = (false, eval b X.env) :: starEach [] X.env := by rfl) (hpl : (backTo pos (starEach [b] X.env)).any (·.1) = false := by rfl) :
    PE X (.Call (.Name "max" p1) [a, b] [] pos) (RE c (e2 vMax ma mb)) := pe_imp (pe_callB (call_max2 hc) hg hm (by decide +kernel) (pa_cons ha (pa_cons hb pa_nil he2) he) (by decide) (by decide) he hpl) fun s H Q q =>
  RX.bind q fun W e W1 H1 x v h1 t S rx q2 => ⟨W1, e, h1, S, q2.bind fun W2 H2 y w h2 t2 S2 ry q3 => by
    have rx2 := stays_V.go S.hs t2 rx
    unfold vMax at q3
    split at q3
    · simp only [rV, Rep] at rx2 ry
      subst rx2 ry
      exact ⟨_, _, rfl, q3.ret S2 (by simp only [rV, Rep])⟩
    · exact q3.elim⟩
theorem c_min2 (hc : X.calm = true) (hg : Gl X "min") (hm : X.mg "min" = none) (ha : PE X a (RE c ma)) (hb : PE X b (RE c mb)) (he : starEach [a, b] X.env = (false, eval a X.env) :: starEach [b] X.env := by rfl) (he2 : starEach [b] X.env = (false, eval b X.env) :: starEach [] X.env := by rfl) (hpl : (backTo pos (starEach [b] X.env)).any (·.1) = false := by rfl) :
    PE X (.Call (.Name "min" p1) [a, b] [] pos) (RE c (e2 vMin ma mb)) := pe_imp (pe_callB (call_min2 hc) hg hm (by decide +kernel) (pa_cons ha (pa_cons hb pa_nil he2) he) (by decide) (by decide) he hpl) fun s H Q q =>
  RX.bind q fun W e W1 H1 x v h1 t S rx q2 => ⟨W1, e, h1, S, q2.bind fun W2 H2 y w h2 t2 S2 ry q3 => by
    have rx2 := stays_V.go S.hs t2 rx
    unfold vMin at q3
    split at q3
    · simp only [rV, Rep] at rx2 ry
      subst rx2 ry
      exact ⟨_, _, rfl, q3.ret S2 (by simp only [rV, Rep])⟩
    · exact q3.elim⟩

/-! ### isinstance of a built-in class -/
inductive Ty where
  | int | bool | str | none | tuple | list | dict
  deriving DecidableEq
def Ty.nm : Ty → String
  | .int => "int"
  | .bool => "bool"
  | .str => "str"
  | .none => "NoneType"
  | .tuple => "tuple"
  | .list => "list"
  | .dict => "dict"
def Ty.is (a b : Ty) : Bool := decide (a = b) || (decide (a = .bool) && decide (b = .int))
theorem kit_Ty (a b : Ty) : kitB a.nm b.nm = some (a.is b) := by
  cases a <;> cases b <;> decide +kernel
def tyD (h : HP) : DV → Option Ty
  | .non => some .none
  | .bl _ => some .bool
  | .int _ => some .int
  | .str _ => some .str
  | .tup _ => some .tuple
  | .lst _ => some .list
  | .scr _ => some .list
  | .dct _ _ => some .dict
  | .ref p => (match h[p]? with
    | some (.lst _) => some .list
    | _ => none)
  | _ => none
def vIsI (T : Ty) (x : DV) : M DV := fun h => match tyD h x with
  | some t => .ok (.bl (t.is T)) h
  | none => .bad
theorem tyX_of {W : Wd} {e : En} {h : HP} {s : L2.St} {H : Hp} {d : DV} {v : V} {t : Ty} (S : Sim c W e h s H) (r : RepB c.g W H d v) (a : tyD h d = some t) : TyX c.g.K H v (.type t.nm) := by
  rcases r with r | ⟨l, p, vs, e1, e2, e3, r, n⟩ | ⟨ks, l, p, vs, e1, e2, e3, z, r, n⟩
  · cases d with
    | non =>
      cases Option.some.inj a
      simp only [Rep] at r
      subst r
      exact .base .non
    | bl b =>
      cases Option.some.inj a
      simp only [Rep] at r
      subst r
      exact .base (.bl b)
    | int i =>
      cases Option.some.inj a
      simp only [Rep] at r
      subst r
      exact .base (.int i)
    | str z =>
      cases Option.some.inj a
      simp only [Rep] at r
      subst r
      exact .base (.str z)
    | tup l =>
      cases Option.some.inj a
      simp only [Rep] at r
      obtain ⟨p, vs, e1, sq, _⟩ := r
      subst e1
      rcases sq with (sq | ⟨o, sq⟩) | ⟨o, its, n, k1, k2, _⟩
      · exact .base (.tup sq)
      · exact .fTuple sq
      · exact .kTuple k1 k2
    | lst l =>
      cases Option.some.inj a
      simp only [Rep] at r
      obtain ⟨p, vs, e1, _, sq, _⟩ := r
      subst e1
      exact .base (.lst sq)
    | scr l =>
      cases Option.some.inj a
      simp only [Rep] at r
      obtain ⟨p, e1, sq⟩ := r
      subst e1
      rcases sq with ⟨o, sq⟩ | ⟨o, its, n, k1, k2, _⟩
      · exact .base (.frz sq)
      · exact .kList k1 k2
    | dct ks l =>
      cases Option.some.inj a
      simp only [Rep] at r
      obtain ⟨p, vs, e1, _, sq, _⟩ := r
      subst e1
      exact .base (.dK sq)
    | ref q =>
      have a2 : (match h[q]? with
        | some (.lst _) => some Ty.list
        | _ => none) = some t := a
      simp only [Rep] at r
      obtain ⟨p, e1, r⟩ := r
      cases z : h[q]? with
      | none =>
        rw [z] at a2
        cases a2
      | some o =>
        rw [z] at a2
        cases o with
        | lst m =>
          cases Option.some.inj a2
          obtain ⟨⟨vs, e3, _⟩, _⟩ := S.hs.o q _ p z r
          subst e1
          exact .base (.lst e3)
        | obj c l => cases a2
    | obj _ _ => cases a
    | fn _ => cases a
  · subst e1 e2
    cases Option.some.inj a
    exact .base (.lst e3)
  · subst e1 e2
    cases Option.some.inj a
    exact .base (.dK e3)
theorem c_isI (T : Ty) (hk : X.K = c.g.K) (hg : Gl X "isinstance") (hm : X.mg "isinstance" = none) {y : Str} {p2 : Pos} (hg2 : Gl X y) (hm2 : X.mg y = none) (hv2 : bootBuiltins y = some (.type T.nm)) (ha : PE X a (RB c ma))
    (he : starEach [a, .Name y p2] X.env = (false, eval a X.env) :: starEach [.Name y p2] X.env := by rfl) (hn : y ≠ "__name__" := by decide) (hd : (y == ("__debug__" : Str)) = false := by decide) :
    PE X (.Call (.Name "isinstance" p1) [a, .Name y p2] [] pos) (RE c (e1 (vIsI T) ma)) :=
  pe_imp (pe_callB call_isi hg hm (by decide +kernel) (pa_cons ha (pa_cons (pe_bltn (v := .ty T.nm) hg2 hm2 hv2 rfl hn hd) pa_nil) he) (by decide) (by decide) he rfl) fun s H Q q =>
    RX.bind q fun W e W1 H1 x v h1 t S rx q2 => by
      unfold vIsI at q2
      cases z : tyD h1 x with
      | none =>
        rw [z] at q2
        exact q2.elim
      | some u =>
        rw [z] at q2
        exact ⟨v, .ty T.nm, _, _, _, rfl, .ty _, hk ▸ tyX_of S rx z, kit_ty (kit_Ty u T), q2.ret S (by simp only [rV, Rep])⟩
end
end LM

/-! What is walked; targets; comprehensions. -/
namespace LM
open PySem L2

/-! ### what is walked -/
structure Wk (c : Cn) (W : Wd) (H : Hp) (J : It) (ds : List DV) : Prop where
  go : ∀ (W2 : Wd) (H2 : Hp), Per W H W2 H2 → ∀ (i : Nat) (d : DV), ds[i]? = some d → J.go i H2 ∧ ∀ x H3, J.yld i H2 x H3 →
    (H3 = H2 ∧ Rep c.g W2 H2 d x) ∨ (∃ T us l, d = .tup l ∧ x = .ref T ∧ H2 T = none ∧ H3 = upd H2 T (.tup us) ∧ Reps c.g W2 H2 l us)
  st : ∀ (W2 : Wd) (H2 : Hp), Per W H W2 H2 → J.stop ds.length H2
abbrev RI (c : Cn) (m : En → M (List DV)) : TI := RX c (fun _ W H ds J => Wk c W H J ds) m

section
variable {X : Cx} {c : Cn} {pos p1 : Pos} {a b tg : Expr} {ma mb : En → M DV}
theorem some_inj2 {A : Type} {x y : A} {o : Option A} (h : o = some x) (h2 : o = some y) : x = y := Option.some.inj (h.symm.trans h2)
theorem Per.sqL {K : PySem.W.Frag} {W W' : Wd} {H H' : Hp} {a : Addr} {xs : List V} (p : Per W H W' H') (f : (W.F a ∧ H a = some (.lst xs)) ∨ SqS K H a xs) : SqL K H' a xs := by
  rcases f with ⟨f, e⟩ | f
  · exact .of ((p.h a f).trans e)
  · exact (p.sqS f).l
/-- a list that stays -/
def LsF (K : PySem.W.Frag) (W : Wd) (H : Hp) (a : Addr) (xs : List V) : Prop := (W.F a ∧ H a = some (.lst xs)) ∨ SqS K H a xs
theorem wk_list {W : Wd} {H : Hp} {p : Addr} {vs : List V} {ds : List DV} (f : LsF c.g.K W H p vs) (r : Reps c.g W H ds vs) : Wk c W H (Itl c.g.K p) ds where
  go := fun W2 H2 pr i d e => by
    have sq : SqL c.g.K H2 p vs := pr.sqL f
    have r2 := r.per pr _ _
    obtain ⟨v, e2, rv⟩ := r2.get e
    refine ⟨⟨vs, v, sq, e2⟩, fun x H3 y => ?_⟩
    obtain ⟨h1, h2⟩ := y
    have : v = x := some_inj2 e2 (h2 vs sq)
    subst this
    exact .inl ⟨h1, rv⟩
  st := fun W2 H2 pr => ⟨vs, pr.sqL f, by rw [r.len]; exact Nat.le_refl _⟩
theorem wk_tup {W : Wd} {H : Hp} {p : Addr} {vs : List V} {ds : List DV} (f : SqT c.g.K H p vs) (r : Reps c.g W H ds vs) : Wk c W H (Itt c.g.K p) ds where
  go := fun W2 H2 pr i d e => by
    have sq : SqT c.g.K H2 p vs := pr.sqT f
    have r2 := r.per pr _ _
    obtain ⟨v, e2, rv⟩ := r2.get e
    refine ⟨⟨vs, v, sq, e2⟩, fun x H3 y => ?_⟩
    obtain ⟨h1, h2⟩ := y
    have : v = x := some_inj2 e2 (h2 vs sq)
    subst this
    exact .inl ⟨h1, rv⟩
  st := fun W2 H2 pr => ⟨vs, pr.sqT f, by rw [r.len]; exact Nat.le_refl _⟩
theorem rev_get {A : Type} (l : List A) {i : Nat} {d : A} (h : l.reverse[i]? = some d) : i < l.length ∧ l[l.length - 1 - i]? = some d := by
  have hi : i < l.length := by
    have q := (List.getElem?_eq_some_iff.mp h).1
    rwa [List.length_reverse] at q
  rw [List.getElem?_reverse hi] at h
  exact ⟨hi, h⟩
theorem wk_rev {W : Wd} {H : Hp} {p : Addr} {vs : List V} {ds : List DV} (f : LsF c.g.K W H p vs) (r : Reps c.g W H ds vs) : Wk c W H (Itv c.g.K p vs.length) ds.reverse where
  go := fun W2 H2 pr i d e => by
    have sq : SqL c.g.K H2 p vs := pr.sqL f
    obtain ⟨hi, e1⟩ := rev_get ds e
    have r2 := r.per pr _ _
    rw [r.len] at hi e1
    obtain ⟨v, e2, rv⟩ := r2.get e1
    refine ⟨⟨hi, vs, v, sq, e2⟩, fun x H3 y => ?_⟩
    obtain ⟨h1, h2⟩ := y
    have : v = x := some_inj2 e2 (h2 vs sq)
    subst this
    exact .inl ⟨h1, rv⟩
  st := fun W2 H2 pr => by
    show vs.length ≤ ds.reverse.length
    rw [List.length_reverse, r.len]
    exact Nat.le_refl _
theorem wk_revT {W : Wd} {H : Hp} {p : Addr} {vs : List V} {ds : List DV} (f : SqT c.g.K H p vs) (r : Reps c.g W H ds vs) : Wk c W H (RT.ItvT c.g.K p vs.length) ds.reverse where
  go := fun W2 H2 pr i d e => by
    have sq : SqT c.g.K H2 p vs := pr.sqT f
    obtain ⟨hi, e1⟩ := rev_get ds e
    have r2 := r.per pr _ _
    rw [r.len] at hi e1
    obtain ⟨v, e2, rv⟩ := r2.get e1
    refine ⟨⟨hi, vs, v, sq, e2⟩, fun x H3 y => ?_⟩
    obtain ⟨h1, h2⟩ := y
    have : v = x := some_inj2 e2 (h2 vs sq)
    subst this
    exact .inl ⟨h1, rv⟩
  st := fun W2 H2 pr => by
    show vs.length ≤ ds.reverse.length
    rw [List.length_reverse, r.len]
    exact Nat.le_refl _
def itS (d : DV) : M (List DV) := match d with
  | .tup l => pure l
  | .lst l => pure l
  | .scr l => pure (l.map .int)
  | _ => M.bad
theorem itS_ok {W : Wd} {e : En} {h : HP} {s : L2.St} {H : Hp} {d : DV} {v : V} {l : List DV} {h2 : HP} (S : Sim c W e h s H) (r : Rep c.g W H d v) (q : itS d h = .ok l h2) : h2 = h ∧ ∃ p vs, v = .ref p ∧ Reps c.g W H l vs ∧ ((∃ l2, d = .tup l2 ∧ SqT c.g.K H p vs) ∨ ((∀ l2, d ≠ .tup l2) ∧ LsF c.g.K W H p vs)) := by
  unfold itS at q
  split at q
  · cases q
    simp only [Rep] at r
    obtain ⟨p, vs, e1, sq, rs⟩ := r
    exact ⟨rfl, p, vs, e1, rs, .inl ⟨_, rfl, sq⟩⟩
  · cases q
    simp only [Rep] at r
    obtain ⟨p, vs, e1, f, sq, rs⟩ := r
    exact ⟨rfl, p, vs, e1, rs, .inr ⟨(fun _ z => by cases z), .inl ⟨f, sq⟩⟩⟩
  · cases q
    simp only [Rep] at r
    obtain ⟨p, e1, sq⟩ := r
    exact ⟨rfl, p, _, e1, reps_ints _, .inr ⟨(fun _ z => by cases z), .inr sq⟩⟩
  · cases q
def isTup : DV → Bool
  | .tup _ => true
  | _ => false
/-- what a value is tells which of two readings holds -/
theorem split_on {A B : Type} {R : Rl A B} {k : DV → M A} {s : L2.St} {H : Hp} {Q : B → Hp → Prop} {t1 t2 : Prop} (q : RX c R (fun e => ma e >>= k) s H Q)
    (f1 : ∀ W e h, Sim c W e h s H → (∀ d h1, ma e h = .ok d h1 → isTup d = true) → Post c (R H) e s W H ((ma e >>= k) h) Q → t1)
    (f2 : ∀ W e h, Sim c W e h s H → (∀ d h1, ma e h = .ok d h1 → isTup d = false) → Post c (R H) e s W H ((ma e >>= k) h) Q → t2) : t1 ∨ t2 := by
  obtain ⟨W, e, h, S, q⟩ := q
  cases z : ma e h with
  | ok d h1 =>
    cases z2 : isTup d with
    | true => exact .inl (f1 W e h S (fun d' h' e1 => by rw [z] at e1; cases e1; exact z2) q)
    | false => exact .inr (f2 W e h S (fun d' h' e1 => by rw [z] at e1; cases e1; exact z2) q)
  | exc x h1 => exact .inl (f1 W e h S (fun d' h' e1 => by rw [z] at e1; cases e1) q)
  | bad => exact .inl (f1 W e h S (fun d' h' e1 => by rw [z] at e1; cases e1) q)
theorem bind_at {A A2 B B2 : Type} {R : Wd → Hp → A → B → Prop} {m : M A2} {k : A2 → M A} {e : En} {s : L2.St} {W : Wd} {h : HP} {H : Hp} {Q : B → Hp → Prop} (p : Post c R e s W H ((m >>= k) h) Q) {R2 : Wd → Hp → A2 → B2 → Prop} {K : B2 → Hp → Prop}
    (f : ∀ W1 H1 a b h1, m h = .ok a h1 → Step W H W1 H1 → Sim c W1 e h1 s H1 → R2 W1 H1 a b → Post c R e s W1 H1 (k a h1) Q → K b H1) : Post c R2 e s W H (m h) K := by
  rw [M.bind_def] at p
  cases q : m h with
  | ok a h1 =>
    rw [q] at p
    exact fun W' H' b t S r => f W' H' a b h1 q t S r (p.later t)
  | exc x h1 =>
    rw [q] at p
    exact p
  | bad =>
    rw [q] at p
    exact p
theorem pi_or {ex : Expr} {w1 w2 : TI} (h1 : PI X tg ex w1) (h2 : PI X tg ex w2) : PI X tg ex (fun s H R => w1 s H R ∨ w2 s H R) := ⟨fun pins s σ H R I q => q.elim (h1.run pins s σ H R I) (h2.run pins s σ H R I)⟩
/-- a list or a tuple -/
theorem i_seq (hk : X.K = c.g.K) (ha : PE X a (RE c ma)) : PI X tg a (RI c (fun e => ma e >>= itS)) := pi_imp (pi_or (pi_tup ha) (pi_list ha)) fun s H R q => by
  refine split_on q (fun W e h S ht q => ⟨W, e, h, S, bind_at q fun W1 H1 d v h1 z t S1 r q2 => ?_⟩) (fun W e h S ht q => ⟨W, e, h, S, bind_at q fun W1 H1 d v h1 z t S1 r q2 => ?_⟩)
  · have hd := ht d h1 z
    cases d with
    | tup l =>
      simp only [Rep] at r
      obtain ⟨p, vs, e1, sq, rs⟩ := r
      refine ⟨p, e1, ⟨vs, hk ▸ sq⟩, ?_⟩
      rw [hk]
      exact q2.ret S1 (wk_tup sq rs)
    | _ => cases hd
  · have hd := ht d h1 z
    cases d with
    | lst l =>
      simp only [Rep] at r
      obtain ⟨p, vs, e1, f, sq, rs⟩ := r
      refine ⟨p, e1, ⟨vs, .of sq⟩, ?_⟩
      rw [hk]
      exact q2.ret S1 (wk_list (.inl ⟨f, sq⟩) rs)
    | scr l =>
      simp only [Rep] at r
      obtain ⟨p, e1, sq⟩ := r
      refine ⟨p, e1, ⟨_, hk ▸ sq.l⟩, ?_⟩
      rw [hk]
      exact q2.ret S1 (wk_list (.inr sq) (reps_ints l))
    | tup l => cases hd
    | _ => exact q2.elim
/-- reversed(a list or a tuple) -/
def itR (d : DV) : M (List DV) := itS d >>= fun l => pure l.reverse
theorem i_rev (hk : X.K = c.g.K) (hg : Gl X "reversed") (hm : X.mg "reversed" = none) (ha : PE X a (RE c ma)) (hs : starEach [a] X.env = (false, eval a X.env) :: starEach [] X.env := by rfl) : PI X tg (.Call (.Name "reversed" p1) [a] [] pos) (RI c (fun e => ma e >>= itR)) :=
  pi_imp (RT.pi_revA hg hm ha hs) fun s H R q => RX.bind q fun W e W1 H1 d v h1 t S1 r q2 => by
    cases d with
    | tup l =>
      simp only [Rep] at r
      obtain ⟨p, vs, e1, sq, rs⟩ := r
      refine ⟨p, vs, e1, .inr ⟨hk ▸ sq, ?_⟩⟩
      rw [hk]
      exact q2.ret S1 (wk_revT sq rs)
    | lst l =>
      simp only [Rep] at r
      obtain ⟨p, vs, e1, f, sq, rs⟩ := r
      refine ⟨p, vs, e1, .inl ⟨.of sq, ?_⟩⟩
      rw [hk]
      exact q2.ret S1 (wk_rev (.inl ⟨f, sq⟩) rs)
    | scr l =>
      simp only [Rep] at r
      obtain ⟨p, e1, sq⟩ := r
      refine ⟨p, _, e1, .inl ⟨hk ▸ sq.l, ?_⟩⟩
      rw [hk]
      exact q2.ret S1 (wk_rev (.inr sq) (reps_ints l))
    | _ => exact q2.elim
/-- range(n) -/
def rng (n : Nat) : List DV := (List.range n).map fun (k : Nat) => DV.int (k : Int)
def itN (d : DV) : M (List DV) := match d with
  | .int j => if decide (-16777216 ≤ j) && decide (j ≤ 16777216) then pure (rng j.toNat) else M.bad
  | _ => M.bad
theorem rng_get {n i : Nat} {d : DV} (h : (rng n)[i]? = some d) : i < n ∧ d = .int i := by
  unfold rng at h
  rw [List.getElem?_map] at h
  cases z : (List.range n)[i]? with
  | none =>
    rw [z] at h
    cases h
  | some k =>
    rw [z] at h
    have hi := (List.getElem?_eq_some_iff.mp z).1
    rw [List.length_range] at hi
    rw [List.getElem?_range hi] at z
    cases z
    exact ⟨hi, (Option.some.inj h).symm⟩
theorem rng_len (n : Nat) : (rng n).length = n := by
  unfold rng
  rw [List.length_map, List.length_range]
theorem wk_rng {W : Wd} {H : Hp} (n : Nat) : Wk c W H (Itr 0 n) (rng n) where
  go := fun W2 H2 pr i d e => by
    obtain ⟨h1, h2⟩ := rng_get e
    refine ⟨h1, fun x H3 y => ?_⟩
    obtain ⟨y1, y2⟩ := y
    subst h2 y2
    refine .inl ⟨y1, ?_⟩
    simp only [Rep, Int.zero_add]
  st := fun W2 H2 pr => by
    show n ≤ (rng n).length
    rw [rng_len]
    exact Nat.le_refl _
theorem i_rng (hg : Gl X "range") (hm : X.mg "range" = none) (ha : PE X a (RE c ma)) (hs : starEach [a] X.env = [(false, eval a X.env)] := by rfl) : PI X tg (.Call (.Name "range" p1) [a] [] pos) (RI c (fun e => ma e >>= itN)) :=
  pi_imp (pi_range1 hg hm (pa_cons ha pa_nil hs) hs) fun s H R q => RX.bind (K := fun v H1 => ∃ j : Int, [v] = [V.int j] ∧ -(2 ^ 62) ≤ j ∧ j < 2 ^ 62 ∧ R (Itr 0 j.toNat) H1) q fun W e W1 H1 d v h1 t S1 r q2 => by
    unfold itN at q2
    split at q2
    · rename_i j
      split at q2
      · rename_i hz
        simp only [Bool.and_eq_true, decide_eq_true_eq] at hz
        simp only [Rep] at r
        exact ⟨j, by rw [r], by omega, by omega, q2.ret S1 (wk_rng _)⟩
      · exact q2.elim
    · exact q2.elim
/-- zip of two lists, of two tuples -/
def zipD (l m : List DV) : List DV := List.zipWith (fun x y => .tup [x, y]) l m
def itZ (x y : DV) : M (List DV) := if isTup x == isTup y then itS x >>= fun l => itS y >>= fun m => pure (zipD l m) else M.bad
theorem zipD_get {l m : List DV} {i : Nat} {d : DV} (h : (zipD l m)[i]? = some d) : ∃ x y, l[i]? = some x ∧ m[i]? = some y ∧ d = .tup [x, y] := by
  unfold zipD at h
  rw [List.getElem?_zipWith] at h
  cases z : l[i]? with
  | none =>
    rw [z] at h
    cases h
  | some x =>
    cases z2 : m[i]? with
    | none =>
      rw [z, z2] at h
      cases h
    | some y =>
      rw [z, z2] at h
      exact ⟨x, y, rfl, rfl, (Option.some.inj h).symm⟩
theorem zipD_len (l m : List DV) : (zipD l m).length = min l.length m.length := by
  unfold zipD
  rw [List.length_zipWith]
theorem wk_zip {W : Wd} {H : Hp} {p q : Addr} {vs ws : List V} {ds es : List DV} (f : LsF c.g.K W H p vs) (f2 : LsF c.g.K W H q ws) (r : Reps c.g W H ds vs) (r2 : Reps c.g W H es ws) : Wk c W H (Itz c.g.K p q) (zipD ds es) where
  go := fun W2 H2 pr i d e => by
    have sq : SqL c.g.K H2 p vs := pr.sqL f
    have sq2 : SqL c.g.K H2 q ws := pr.sqL f2
    obtain ⟨x, y, e1, e2, e3⟩ := zipD_get e
    obtain ⟨v, g1, rv⟩ := (r.per pr _ _).get e1
    obtain ⟨w, g2, rw'⟩ := (r2.per pr _ _).get e2
    refine ⟨⟨vs, ws, v, w, sq, sq2, g1, g2⟩, fun z H3 yl => ?_⟩
    obtain ⟨T, x', y', h1, h2, h3, h4, h5⟩ := yl
    have q1 : v = x' := some_inj2 g1 (h4 vs sq)
    have q2 : w = y' := some_inj2 g2 (h5 ws sq2)
    subst q1 q2
    exact .inr ⟨T, _, _, e3, h1, h2, h3, .cons rv (.cons rw' .nil)⟩
  st := fun W2 H2 pr => by
    refine ⟨vs, ws, pr.sqL f, pr.sqL f2, ?_⟩
    rw [zipD_len, r.len, r2.len]
    omega
theorem wk_zipT {W : Wd} {H : Hp} {p q : Addr} {vs ws : List V} {ds es : List DV} (f : SqT c.g.K H p vs) (f2 : SqT c.g.K H q ws) (r : Reps c.g W H ds vs) (r2 : Reps c.g W H es ws) : Wk c W H (RZ.ItzT c.g.K p q) (zipD ds es) where
  go := fun W2 H2 pr i d e => by
    have sq : SqT c.g.K H2 p vs := pr.sqT f
    have sq2 : SqT c.g.K H2 q ws := pr.sqT f2
    obtain ⟨x, y, e1, e2, e3⟩ := zipD_get e
    obtain ⟨v, g1, rv⟩ := (r.per pr _ _).get e1
    obtain ⟨w, g2, rw'⟩ := (r2.per pr _ _).get e2
    refine ⟨⟨vs, ws, v, w, sq, sq2, g1, g2⟩, fun z H3 yl => ?_⟩
    obtain ⟨T, x', y', h1, h2, h3, h4, h5⟩ := yl
    have q1 : v = x' := some_inj2 g1 (h4 vs sq)
    have q2 : w = y' := some_inj2 g2 (h5 ws sq2)
    subst q1 q2
    exact .inr ⟨T, _, _, e3, h1, h2, h3, .cons rv (.cons rw' .nil)⟩
  st := fun W2 H2 pr => by
    refine ⟨vs, ws, pr.sqT f, pr.sqT f2, ?_⟩
    rw [zipD_len, r.len, r2.len]
    omega
theorem i_zip (hk : X.K = c.g.K) (hg : Gl X "zip") (hm : X.mg "zip" = none) {elts : List Expr} {kk : Nat} {tpos : Pos} (ha : PE X a (RE c ma)) (hb : PE X b (RE c mb)) (he : starEach [a, b] X.env = (false, eval a X.env) :: starEach [b] X.env := by rfl) (he2 : starEach [b] X.env = (false, eval b X.env) :: starEach [] X.env := by rfl) (hpl : (backTo pos (starEach [b] X.env)).any (·.1) = false := by rfl) :
    PI X (.Tuple elts kk tpos) (.Call (.Name "zip" p1) [a, b] [] pos) (RI c (fun e => ma e >>= fun x => mb e >>= fun y => itZ x y)) :=
  pi_imp (RZ.pi_zipA hg hm (pa_cons ha (pa_cons hb pa_nil he2) he) he hpl) fun s H R q => RX.bind q fun W e W1 H1 x v h1 t S rx q2 => ⟨W1, e, h1, S, q2.bind fun W2 H2 y w h2 t2 S2 ry q3 => by
    have rx2 := stays_V.go S.hs t2 rx
    unfold itZ at q3
    split at q3
    · rename_i hz
      rw [beq_iff_eq] at hz
      cases zx : itS x h2 with
      | bad =>
        rw [M.bind_def, zx] at q3
        exact q3.elim
      | exc z h3 =>
        unfold itS at zx
        split at zx <;> cases zx
      | ok l h3 =>
        rw [M.bind_def, zx] at q3
        obtain ⟨eh, p, vs, e1, rs, cx⟩ := itS_ok S2 rx2 zx
        subst eh
        have q4 : Post c (fun W H ds J => Wk c W H J ds) e s W2 H2 ((itS y >>= fun m => pure (zipD l m)) h3) R := q3
        cases zy : itS y h3 with
        | bad =>
          rw [M.bind_def, zy] at q4
          exact q4.elim
        | exc z h4 =>
          unfold itS at zy
          split at zy <;> cases zy
        | ok m h4 =>
          rw [M.bind_def, zy] at q4
          obtain ⟨eh, p2, ws, e2, rs2, cy⟩ := itS_ok S2 ry zy
          subst eh e1 e2
          rcases cx with ⟨l2, d1, sq⟩ | ⟨d1, sq⟩
          · rcases cy with ⟨l3, d2, sq2⟩ | ⟨d2, sq2⟩
            · refine ⟨p, p2, vs, ws, rfl, .inr ⟨hk ▸ sq, hk ▸ sq2, ?_⟩⟩
              rw [hk]
              exact q4.ret S2 (wk_zipT sq sq2 rs rs2)
            · exfalso
              subst d1
              cases y with
              | tup l => exact d2 l rfl
              | _ => cases hz
          · rcases cy with ⟨l3, d2, sq2⟩ | ⟨d2, sq2⟩
            · exfalso
              subst d2
              cases x with
              | tup l => exact d1 l rfl
              | _ => cases hz
            · have s1 : SqL c.g.K H2 p vs := Per.sqL (Per.refl W2 H2) sq
              have s2 : SqL c.g.K H2 p2 ws := Per.sqL (Per.refl W2 H2) sq2
              refine ⟨p, p2, vs, ws, rfl, .inl ⟨hk ▸ s1, hk ▸ s2, ?_⟩⟩
              rw [hk]
              exact q4.ret S2 (wk_zip sq sq2 rs rs2)
    · exact q3.elim⟩
end
end LM

/-! Targets; list comprehensions. -/
namespace LM
open PySem L2

def wipeE (e : En) : List Nat → En
  | [] => e
  | v :: vs => (wipeE e vs).set v .none
section
variable {c : Cn} {W : Wd} {e : En} {h : HP} {s : L2.St} {H : Hp}
theorem Sim.wipe (S : Sim c W e h s H) : ∀ vs : List Nat, Sim c W (wipeE e vs) h (wipe s vs) H
  | [] => S
  | v :: vs => (Sim.wipe S vs).gone
theorem Sim.wipe' (S : Sim c W e h s H) : ∀ vs : List Nat, Sim c W (wipeE e vs) h s H
  | [] => S
  | v :: vs => (Sim.wipe' S vs).gone'
def Cn.nx (c : Cn) : Cn := { c with x := fun _ _ _ _ => False }
def Cn.wx (c : Cn) (x : WX) : Cn := { c with x := x }
theorem Sim.wx {x : WX} (S : Sim c W e h s H) : Sim (c.wx x) W e h s H := ⟨S.hs, S.st, S.len, S.val, S.own, S.dic, S.ne, S.exn⟩
theorem Sim.ofWx {x : WX} (S : Sim (c.wx x) W e h s H) : Sim c W e h s H := ⟨S.hs, S.st, S.len, S.val, S.own, S.dic, S.ne, S.exn⟩
theorem Sim.nx (S : Sim c W e h s H) : Sim c.nx W e h s H := ⟨S.hs, S.st, S.len, S.val, S.own, S.dic, S.ne, S.exn⟩
theorem Sim.ofNx (S : Sim c.nx W e h s H) : Sim c W e h s H := ⟨S.hs, S.st, S.len, S.val, S.own, S.dic, S.ne, S.exn⟩
end
theorem wipe_get (s : L2.St) (k : Nat) : ∀ vs : List Nat, (wipe s vs)[k]? = if k ∈ vs then (if k < s.length then some none else none) else s[k]?
  | [] => by simp [wipe]
  | v :: vs => by
    unfold wipe
    by_cases hk : v = k
    · subst hk
      rw [List.getElem?_set_self', wipe_get s v vs, if_pos (List.mem_cons_self ..)]
      by_cases hl : v < s.length
      · rw [if_pos hl]
        by_cases hm : v ∈ vs
        · rw [if_pos hm]
          rfl
        · rw [if_neg hm, List.getElem?_eq_getElem hl]
          rfl
      · rw [if_neg hl]
        by_cases hm : v ∈ vs
        · rw [if_pos hm]
          rfl
        · rw [if_neg hm, List.getElem?_eq_none (by omega)]
          rfl
    · rw [List.getElem?_set_ne hk, wipe_get s k vs]
      have : (k ∈ v :: vs) = (k ∈ vs) := by
        rw [List.mem_cons, eq_iff_iff]
        exact ⟨fun q => q.elim (fun z => absurd z.symm hk) id, .inr⟩
      simp only [this]
theorem wipe_same {s s' : L2.St} {vs sl : List Nat} (hl : s'.length = (wipe s vs).length) (hf : ∀ k, k ∉ sl → s'[k]? = (wipe s vs)[k]?) (hs : ∀ k ∈ sl, k ∈ vs) : wipe s' vs = wipe s vs := by
  apply List.ext_getElem?
  intro k
  rw [wipe_length] at hl
  rw [wipe_get, wipe_get]
  by_cases hk : k ∈ vs
  · rw [if_pos hk, if_pos hk, hl]
  · rw [if_neg hk, if_neg hk, hf k fun z => hk (hs k z), wipe_get, if_neg hk]

/-! ### targets -/
abbrev RG (c : Cn) (t : DV → En → Option En) (sl : List Nat) : TG := fun v s H Q => ∃ W e h d, Sim c W e h s H ∧ Rep c.g W H d v ∧ match t d e with
  | some e' => ∀ s', Sim c W e' h s' H → s'.length = s.length → (∀ k, k ∉ sl → s'[k]? = s[k]?) → Q s' H
  | none => False
def tName (i : Nat) : DV → En → Option En := fun d e => some (e.set i (.val d))
def setAll : List Nat → List DV → En → En
  | i :: is, d :: ds, e => setAll is ds (e.set i (.val d))
  | _, _, e => e
def tTup (is : List Nat) : DV → En → Option En := fun d e => match d with
  | .tup l => if l.length = is.length then some (setAll is l e) else none
  | _ => none
section
variable {X : Cx} {c : Cn} {pos : Pos}
theorem pg_imp {tg : Expr} {t t' : TG} (h : PG X tg t) (f : ∀ v s H Q, t' v s H Q → t v s H Q) : PG X tg t' := ⟨fun pins s σ H v u Q I r q => h.run pins s σ H v u Q I r (f v σ H Q q)⟩
theorem pgs_imp {tg : List Expr} {t t' : TGs} (h : PGs X tg t) (f : ∀ v s H Q, t' v s H Q → t v s H Q) : PGs X tg t' := ⟨fun pins s σ H v u Q I r q => h.run pins s σ H v u Q I r (f v σ H Q q)⟩
theorem g_name {i : Nat} {x : Str} (hN : X.N.Nodup) (hi : X.N[i]? = some x) (hx : Loc X.env.scope x) (hf : X.fn x = true ∨ X.env.scope.names.lookup x = some .local := by first | exact .inl rfl | exact .inr rfl) : PG X (.Name x pos) (RG c (tName i) [i]) :=
  pg_imp (pg_name hN hi hx hf) fun v s H Q q => by
    obtain ⟨W, e, h, d, S, r, q⟩ := q
    exact q _ (S.set r) (List.length_set ..) fun k hk => List.getElem?_set_ne fun z => hk (by rw [z]; exact List.mem_cons_self ..)
abbrev RGs (c : Cn) (is : List Nat) : TGs := fun vs s H Q => ∃ W e h l, Sim c W e h s H ∧ Reps c.g W H l vs ∧ l.length = is.length ∧ ∀ s', Sim c W (setAll is l e) h s' H → s'.length = s.length → (∀ k, k ∉ is → s'[k]? = s[k]?) → Q s' H
theorem gs_nil : PGs X [] (RGs c []) := pgs_imp pgs_nil fun vs s H Q q => by
  obtain ⟨W, e, h, l, S, r, hl, q⟩ := q
  cases l with
  | nil =>
    simp only [Reps] at r
    exact ⟨r, q s S rfl fun _ _ => rfl⟩
  | cons d ds => cases hl
theorem gs_cons {i : Nat} {is : List Nat} {x : Str} {es : List Expr} (hN : X.N.Nodup) (hi : X.N[i]? = some x) (hx : Loc X.env.scope x) (h2 : PGs X es (RGs c is)) (hf : X.fn x = true ∨ X.env.scope.names.lookup x = some .local := by first | exact .inl rfl | exact .inr rfl)
    (hs : (assignEach (.Name x pos :: es) X.env).map (·.2) = assign (.Name x pos) X.env :: (assignEach es X.env).map (·.2) := by rfl) : PGs X (.Name x pos :: es) (RGs c (i :: is)) :=
  pgs_imp (pgs_cons (pg_name hN hi hx hf) h2 hs) fun vs s H Q q => by
    obtain ⟨W, e, h, l, S, r, hl, q⟩ := q
    cases l with
    | nil => cases hl
    | cons d ds =>
      simp only [Reps] at r
      obtain ⟨v, vr, e1, r1, r2⟩ := r
      refine ⟨v, vr, e1, W, _, h, ds, S.set r1, r2, Nat.succ.inj hl, fun s' S' h1 h2 => q s' S' ?_ fun k hk => ?_⟩
      · rw [h1, List.length_set]
      · rw [List.mem_cons, not_or] at hk
        rw [h2 k hk.2, List.getElem?_set_ne (Ne.symm hk.1)]
theorem g_tup {es : List Expr} {k : Nat} {is : List Nat} (hk : X.K = c.g.K) (hc : X.calm = true) (h : PGs X es (RGs c is)) (hn : (assignEach es X.env).length = is.length := by rfl) (hst : (assignEach es X.env).findIdx? (·.1) = none := by rfl) :
    PG X (.Tuple es k pos) (RG c (tTup is) is) := pg_imp (pg_tup hc h hn hst) fun v s H Q q => by
  obtain ⟨W, e, h, d, S, r, q⟩ := q
  cases d with
  | tup l =>
    simp only [Rep] at r
    obtain ⟨a, vs, e1, sq, rs⟩ := r
    have q1 : (match (if l.length = is.length then some (setAll is l e) else none) with
      | some e' => ∀ s', Sim c W e' h s' H → s'.length = s.length → (∀ k, k ∉ is → s'[k]? = s[k]?) → Q s' H
      | none => False) := q
    by_cases hl : l.length = is.length
    · rw [if_pos hl] at q1
      exact ⟨a, vs, e1, hk ▸ sq, by rw [← rs.len]; exact hl, W, e, h, l, S, rs, hl, q1⟩
    · rw [if_neg hl] at q1
      exact q1.elim
  | _ => exact q.elim
end

/-! ### [e for x in xs if t] -/
def noX {A : Type} (m : M A) : M A := fun h => match m h with
  | .ok a h' => .ok a h'
  | _ => .bad
def lcL (t : DV → En → Option En) (mt : En → M Bool) (me : En → M DV) (e : En) : List DV → M (List DV)
  | [] => pure []
  | d :: ds => match t d e with
    | none => M.bad
    | some e1 => mt e1 >>= fun b => if b then me e1 >>= fun x => lcL t mt me e ds >>= fun r => pure (x :: r) else lcL t mt me e ds
def mLc (vs : List Nat) (mi : En → M (List DV)) (t : DV → En → Option En) (mt : En → M Bool) (me : En → M DV) : En → M (List DV) := fun e => mi e >>= fun ds => if ds.length ≤ LN then noX (lcL t mt me (wipeE e vs) ds) else M.bad
def mYes : En → M Bool := fun _ => pure true
section
variable {X : Cx} {c : Cn} {pos : Pos}
theorem pts_imp {ifs : List Expr} {t t' : TT} (h : PTs X ifs t) (f : ∀ s H Q, t' s H Q → t s H Q) : PTs X ifs t' := ⟨fun pins s σ H Q I q => h.run pins s σ H Q I (f σ H Q q)⟩
theorem ts_nil : PTs X [] (RT c mYes) := pts_imp pts_nil fun s H Q q => by
  obtain ⟨W, e, h, S, q⟩ := q
  exact q.ret S rfl
theorem ts_one {e : Expr} {mt : En → M Bool} (h : PT X e (RT c mt)) : PTs X [e] (RT c mt) := pts_one h
theorem own_chg {g : Glue} {W : Wd} {h : HP} {H : Hp} {D : Addr} {o o' : HO} (S : HSim g W h H) (e : H D = some o) (n1 : ¬ W.F D) (n2 : D ∉ W.r) (k1 : ∀ xs, o ≠ .tup xs) (k2 : ∀ a u, o ≠ .frz a u) : Per W H W (upd H D o') ∧ HSim g W h (upd H D o') := by
  have pr : Per W H W (upd H D o') := ⟨fun _ f => f, fun _ _ e => e, fun a f => upd_ne fun z => n1 (z ▸ f), fun a xs q => by
    rw [upd_ne fun z => ?_]
    · exact q
    · subst z
      rw [e] at q
      exact k1 xs (Option.some.inj q), fun a u w q => by
    rw [upd_ne fun z => ?_]
    · exact q
    · subst z
      rw [e] at q
      exact k2 u w (Option.some.inj q)⟩
  refine ⟨pr, S.len, S.nd, fun p ob a e1 e2 => ?_, fun a f => ?_⟩
  · obtain ⟨r, n⟩ := S.o p ob a e1 e2
    have hne : a ≠ D := fun z => n2 (z ▸ List.mem_of_getElem? e2)
    refine ⟨?_, n⟩
    cases ob with
    | lst l =>
      obtain ⟨vs, e3, r3⟩ := r
      exact ⟨vs, by rw [upd_ne hne]; exact e3, r3.per pr _ _⟩
    | obj c l =>
      obtain ⟨dx, vs, e3, e4, r3⟩ := r
      exact ⟨dx, vs, by rw [upd_ne hne]; exact e3, e4, r3.per pr _ _⟩
  · obtain ⟨u, e1⟩ := S.fs a f
    by_cases z : a = D
    · exact ⟨o', by rw [z, upd_same]⟩
    · exact ⟨u, by rw [upd_ne z]; exact e1⟩
/-- the heap at the start had no D: D may be changed -/
theorem Step.chg {W1 W : Wd} {H1 H : Hp} {D : Addr} {o' : HO} (t : Step W1 H1 W H) (hD : H1 D = none) : Step W1 H1 W (upd H D o') :=
  ⟨t.f, t.r, fun a o e n => by rw [upd_ne (ne_of_none e hD)]; exact t.k a o e n, fun a e => by
    by_cases z : a = D
    · rw [z]
      exact hD
    · rw [upd_ne z] at e
      exact t.th a e, t.nf, t.nr⟩
theorem lc_use {mi : En → M (List DV)} {t : DV → En → Option En} {mt : En → M Bool} {me : En → M DV} {vs sl : List Nat} (hsl : ∀ k ∈ sl, k ∈ vs) {s : L2.St} {H : Hp} {Q : VK} (q : RO c (mLc vs mi t mt me) s H Q) :
    tLc (RI c mi) (RG c.nx t sl) (RT c.nx mt) (RE c.nx me) vs s H Q := by
  obtain ⟨W, e, h0, S0, q⟩ := q
  refine ⟨W, e, h0, S0, bind_at q fun W1 H1 ds J h1 z t1 S1 wk q2 D hD => ?_⟩
  by_cases hz : ds.length ≤ LN
  rotate_left
  · rw [if_neg hz] at q2
    exact q2.elim
  rw [if_pos hz] at q2
  -- what the rest of the walk gives
  let PL : HP → Nat → List DV → Prop := fun hc i acc => match lcL t mt me (wipeE e vs) (ds.drop i) hc with
    | .ok r h' => Post c (rO c H) e s W1 H1 (Res.ok (acc ++ r) h') Q
    | _ => False
  let In : Nat → Nat → Hp → Prop := fun i m Hc => m = ds.length - i ∧ i ≤ ds.length ∧ ∃ Wc hc acc av, Step W1 H1 Wc Hc ∧ HSim c.g Wc hc Hc ∧ Hc D = some (.lst av) ∧ Reps c.g Wc Hc acc av ∧ acc.length ≤ i ∧ ¬ Wc.F D ∧ D ∉ Wc.r ∧ PL hc i acc
  refine ⟨In, ⟨ds.length, rfl, Nat.zero_le _, W1, h1, [], [], ?_, ?_, upd_same, .nil, Nat.le_refl _, not_F S1.hs hD, not_r S1.hs hD, ?_⟩, ?_⟩
  · exact Step.new hD
  · exact S1.hs.new hD ((Step.new hD).per S1.hs)
  · show (match lcL t mt me (wipeE e vs) (ds.drop 0) h1 with
      | .ok r h' => Post c (rO c H) e s W1 H1 (Res.ok ([] ++ r) h') Q
      | _ => False)
    rw [List.drop_zero]
    have q3 : Post c (rO c H) e s W1 H1 (noX (lcL t mt me (wipeE e vs) ds) h1) Q := q2
    unfold noX at q3
    cases z2 : lcL t mt me (wipeE e vs) ds h1 with
    | ok r h' =>
      rw [z2] at q3
      exact q3
    | exc x h' =>
      rw [z2] at q3
      exact q3
    | bad =>
      rw [z2] at q3
      exact q3
  · rintro i m Hc ⟨em, hi, Wc, hc, acc, av, tc, sc, eD, ra, la, nF, nR, pl⟩
    have pc : Per W1 H1 Wc Hc := tc.per S1.hs
    by_cases hlt : i < ds.length
    rotate_left
    · have ei : i = ds.length := by omega
      subst ei
      left
      refine ⟨wk.st Wc Hc pc, ?_⟩
      have pl2 : (match lcL t mt me (wipeE e vs) (ds.drop ds.length) hc with
        | .ok r h' => Post c (rO c H) e s W1 H1 (Res.ok (acc ++ r) h') Q
        | _ => False) := pl
      rw [List.drop_length] at pl2
      have pl3 : Post c (rO c H) e s W1 H1 (Res.ok (acc ++ []) hc) Q := pl2
      rw [List.append_nil] at pl3
      exact pl3 Wc Hc (.ref D) tc (S1.step tc sc) ⟨D, av, rfl, eD, ra, nF, nR, t1.th D hD⟩
    · right
      obtain ⟨d, ed⟩ : ∃ d, ds[i]? = some d := ⟨_, List.getElem?_eq_getElem hlt⟩
      obtain ⟨g1, g2⟩ := wk.go Wc Hc pc i d ed
      refine ⟨g1, fun H' => In (i + 1) (ds.length - (i + 1)) H', fun H' z => ⟨_, by omega, z⟩, fun x H' y => ?_⟩
      -- the item, in the heap in which it comes
      have item : Step Wc Hc Wc H' ∧ HSim c.g Wc hc H' ∧ Rep c.g Wc H' d x ∧ H' D = some (.lst av) := by
        rcases g2 x H' y with ⟨e1, r⟩ | ⟨T, us, l, e1, e2, hT, e3, r⟩
        · subst e1
          exact ⟨Step.refl _ _, sc, r, eD⟩
        · subst e1 e2 e3
          have tn : Step Wc Hc Wc (upd Hc T (.tup us)) := Step.new hT
          have pn := tn.per sc
          refine ⟨tn, sc.new hT pn, ?_, ?_⟩
          · simp only [Rep]
            exact ⟨T, us, rfl, .inl (.inl upd_same), r.per pn _ _⟩
          · rw [upd_ne (ne_of_none eD hT)]
            exact eD
      obtain ⟨t2, s2, rd, eD2⟩ := item
      have S2 : Sim c Wc e hc s H' := S1.step (tc.trans t2) s2
      have pl2 : (match lcL t mt me (wipeE e vs) (ds.drop i) hc with
        | .ok r h' => Post c (rO c H) e s W1 H1 (Res.ok (acc ++ r) h') Q
        | _ => False) := pl
      have ed2 : ds.drop i = d :: ds.drop (i + 1) := by
        rw [List.drop_eq_getElem_cons hlt]
        congr 1
        rw [List.getElem?_eq_getElem hlt] at ed
        exact Option.some.inj ed
      rw [ed2] at pl2
      refine ⟨Wc, wipeE e vs, hc, d, (S2.wipe vs).nx, rd, ?_⟩
      cases zt : t d (wipeE e vs) with
      | none =>
        unfold lcL at pl2
        rw [zt] at pl2
        exact pl2.elim
      | some e1 =>
        unfold lcL at pl2
        rw [zt] at pl2
        intro s' S3 hl hf
        refine ⟨wipe_same hl hf hsl, Wc, e1, hc, S3, ?_⟩
        have pl3 : (match ((mt e1 >>= fun b => if b then me e1 >>= fun x => lcL t mt me (wipeE e vs) (ds.drop (i + 1)) >>= fun r => pure (x :: r) else lcL t mt me (wipeE e vs) (ds.drop (i + 1))) hc) with
          | .ok r h' => Post c (rO c H) e s W1 H1 (Res.ok (acc ++ r) h') Q
          | _ => False) := pl2
        rw [M.bind_def] at pl3
        cases zm : mt e1 hc with
        | bad =>
          rw [zm] at pl3
          exact pl3.elim
        | exc x h' =>
          rw [zm] at pl3
          exact pl3.elim
        | ok b h3 =>
          rw [zm] at pl3
          intro W3 H3 b' t3 S4 eb
          have eb : b' = b := eb
          subst eb
          have eD3 : H3 D = some (.lst av) := t3.k D _ eD2 nR
          have nF3 := notF t3 eD2 nF (fun fs w => by cases w)
          have nR3 := notR t3 eD2 nR
          have t13 : Step W1 H1 W3 H3 := (tc.trans t2).trans t3
          have ra3 : Reps c.g W3 H3 acc av := (ra.per (t2.per sc) _ _).per (t3.per s2) _ _
          cases b' with
          | false =>
            refine iteF ⟨rfl, by omega, W3, h3, acc, av, t13, S4.hs, eD3, ra3, by omega, nF3, nR3, ?_⟩
            exact pl3
          | true =>
            refine iteT ⟨W3, e1, h3, S4, ?_⟩
            have pl4 : (match ((me e1 >>= fun x => lcL t mt me (wipeE e vs) (ds.drop (i + 1)) >>= fun r => pure (x :: r)) h3) with
              | .ok r h' => Post c (rO c H) e s W1 H1 (Res.ok (acc ++ r) h') Q
              | _ => False) := pl3
            rw [M.bind_def] at pl4
            cases ze : me e1 h3 with
            | bad =>
              rw [ze] at pl4
              exact pl4.elim
            | exc x h' =>
              rw [ze] at pl4
              exact pl4.elim
            | ok dx h4 =>
              rw [ze] at pl4
              intro W4 H4 yv t4 S5 ry
              have eD4 : H4 D = some (.lst av) := t4.k D _ eD3 nR3
              have nF4 := notF t4 eD3 nF3 (fun fs w => by cases w)
              have nR4 := notR t4 eD3 nR3
              have ra4 : Reps c.g W4 H4 acc av := ra3.per (t4.per S4.hs) _ _
              obtain ⟨p5, s5⟩ := own_chg (o' := .lst (av ++ [yv])) S5.hs eD4 nF4 nR4 (fun _ z => by cases z) (fun _ _ z => by cases z)
              refine ⟨av, eD4, ?_, rfl, by omega, W4, h4, acc ++ [dx], av ++ [yv], (t13.trans t4).chg hD, s5, upd_same, (ra4.per p5 _ _).app (.cons (Rep.per p5 _ _ ry) .nil), ?_, nF4, nR4, ?_⟩
              · rw [← ra.len, line_LN]
                show acc.length < LN
                omega
              · rw [List.length_append]
                show acc.length + 1 ≤ i + 1
                omega
              · have pl5 : (match ((lcL t mt me (wipeE e vs) (ds.drop (i + 1)) >>= fun r => pure (dx :: r)) h4) with
                  | .ok r h' => Post c (rO c H) e s W1 H1 (Res.ok (acc ++ r) h') Q
                  | _ => False) := pl4
                rw [M.bind_def] at pl5
                show (match lcL t mt me (wipeE e vs) (ds.drop (i + 1)) h4 with
                  | .ok r h' => Post c (rO c H) e s W1 H1 (Res.ok ((acc ++ [dx]) ++ r) h') Q
                  | _ => False)
                cases zr : lcL t mt me (wipeE e vs) (ds.drop (i + 1)) h4 with
                | bad =>
                  rw [zr] at pl5
                  exact pl5
                | exc x h' =>
                  rw [zr] at pl5
                  exact pl5
                | ok r h5 =>
                  rw [zr] at pl5
                  have pl6 : Post c (rO c H) e s W1 H1 (Res.ok (acc ++ (dx :: r)) h5) Q := pl5
                  show Post c (rO c H) e s W1 H1 (Res.ok ((acc ++ [dx]) ++ r) h5) Q
                  rw [List.append_assoc]
                  exact pl6
theorem c_lc {elt tg iter : Expr} {ifs : List Expr} {scope : Scope} {own : List (Str × Nat)} {mi : En → M (List DV)} {t : DV → En → Option En} {mt : En → M Bool} {me : En → M DV} {sl : List Nat} (hc : X.calm = true) (hN : X.N.Nodup) (hi : PI X tg iter (RI c mi)) (ok : BlkOk X.N X.env.scope scope own)
    (hg : ∀ (s : Shared) (H : Hp) (C : Addr) (cl : List (Str × Addr)) (fp : List Addr), PG (X.blk s H scope (compEnvC scope cl C X.env) fp) tg (RG c.nx t sl)) (ht : ∀ (s : Shared) (H : Hp) (C : Addr) (cl : List (Str × Addr)) (fp : List Addr), PTs (X.blk s H scope (compEnvC scope cl C X.env) fp) ifs (RT c.nx mt))
    (he : ∀ (s : Shared) (H : Hp) (C : Addr) (cl : List (Str × Addr)) (fp : List Addr), PE (X.blk s H scope (compEnvC scope cl C X.env) fp) elt (RE c.nx me)) (hsl : ∀ k ∈ sl, k ∈ own.map (·.2) := by decide) (hs : ∀ x, foldedSetIterable iter X.env x = pure x := by intro _; rfl) :
    PE X (.ListComp elt [⟨tg, iter, ifs, 0⟩] scope pos) (RO c (mLc (own.map (·.2)) mi t mt me)) := pe_imp (pe_lc hc hN hi ok hg ht he hs) fun s H Q q => lc_use hsl q
end
end LM

/-! Statements; defs. -/
namespace LM
open PySem L2

inductive SRes where
  | nx (e : En) (h : HP)
  | rt (d : DV) (h : HP)
  | bk (e : En) (h : HP)
  | ct (e : En) (h : HP)
  | exc (x : Ex) (e : En) (h : HP)
  | bad
abbrev Stm := En → HP → SRes
def PostS (c : Cn) (W : Wd) (H : Hp) (r : SRes) (D : Ends) : Prop := match r with
  | .nx e' h' => ∀ W' s' H', Per W H W' H' → Sim c W' e' h' s' H' → D.nx s' H'
  | .bk e' h' => ∀ W' s' H', Per W H W' H' → Sim c W' e' h' s' H' → D.bk s' H'
  | .ct e' h' => ∀ W' s' H', Per W H W' H' → Sim c W' e' h' s' H' → D.ct s' H'
  | .rt d h' => ∀ W' H' v, Step c.W0 c.H0 W' H' → HSim c.g W' h' H' → Rep c.g W' H' d v → D.rt v H'
  | .exc x e' h' => ∀ W' s' H' cls dd, Per W H W' H' → Sim c W' e' h' s' H' → XRep c.g W' H' x cls dd → c.x cls dd s' H'
  | .bad => False
def RS (c : Cn) (m : Stm) : TS := fun D s H => ∃ W e h, Sim c W e h s H ∧ PostS c W H (m e h) D
theorem PostS.later {c : Cn} {W W1 : Wd} {H H1 : Hp} {r : SRes} {D : Ends} (q : PostS c W H r D) (p : Per W H W1 H1) : PostS c W1 H1 r D := by
  cases r with
  | nx e h => exact fun W' s' H' p' => q W' s' H' (p.trans p')
  | bk e h => exact fun W' s' H' p' => q W' s' H' (p.trans p')
  | ct e h => exact fun W' s' H' p' => q W' s' H' (p.trans p')
  | rt d h => exact q
  | exc x e h => exact fun W' s' H' cls dd p' => q W' s' H' cls dd (p.trans p')
  | bad => exact q
def sBind {A : Type} (m : En → M A) (k : A → Stm) : Stm := fun e h => match m e h with
  | .ok a h' => k a e h'
  | .exc x h' => .exc x e h'
  | .bad => .bad
theorem sb_at {A B : Type} {c : Cn} {m : En → M A} {k : A → Stm} {W : Wd} {e : En} {h : HP} {s : L2.St} {H : Hp} {D : Ends} (S : Sim c W e h s H) (q : PostS c W H (sBind m k e h) D) {R : Rl A B} {K : B → Hp → Prop}
    (f : ∀ W1 H1 a b h1, Step W H W1 H1 → Sim c W1 e h1 s H1 → R H W1 H1 a b → PostS c W1 H1 (k a e h1) D → K b H1) : Post c (R H) e s W H (m e h) K := by
  unfold sBind at q
  cases z : m e h with
  | ok a h1 =>
    rw [z] at q
    exact fun W' H' b t S' r => f W' H' a b h1 t S' r (q.later (t.per S.hs))
  | exc x h1 =>
    rw [z] at q
    exact fun W' H' cls dd t S' r => q W' s H' cls dd (t.per S.hs) S' r
  | bad =>
    rw [z] at q
    exact q
theorem sb_use {A B : Type} {c : Cn} {m : En → M A} {k : A → Stm} {s : L2.St} {H : Hp} {D : Ends} (q : RS c (sBind m k) D s H) {R : Rl A B} {K : B → Hp → Prop}
    (f : ∀ W e W1 H1 a b h1, Step W H W1 H1 → Sim c W1 e h1 s H1 → R H W1 H1 a b → PostS c W1 H1 (k a e h1) D → K b H1) : RX c R m s H K := by
  obtain ⟨W, e, h, S, q⟩ := q
  exact ⟨W, e, h, S, sb_at S q fun W1 H1 a b h1 t S1 r q2 => f W e W1 H1 a b h1 t S1 r q2⟩
theorem PostS.nx {c : Cn} {W : Wd} {e : En} {h : HP} {s : L2.St} {H : Hp} {D : Ends} (q : PostS c W H (.nx e h) D) (S : Sim c W e h s H) : D.nx s H := q W s H (Per.refl _ _) S

/-! ### own slots -/
section
variable {c : Cn} {W : Wd} {e : En} {h : HP} {s : L2.St} {H : Hp} {i : Nat} {a : Addr}
/-- what a slot owns, at a -/
def Own (c : Cn) (W : Wd) (H : Hp) (x : Slot) (a : Addr) : Prop := (match x with
  | .own l => ∃ vs, H a = some (.lst vs) ∧ Reps c.g W H l vs
  | .dic ks l => ∃ vs, H a = some (.dK ((ks.map Sum.inl).zip vs)) ∧ ks.length = vs.length ∧ Reps c.g W H l vs
  | _ => False) ∧ ¬ W.F a ∧ a ∉ W.r ∧ c.H0 a = none
theorem Sim.ownAt {x : Slot} (S : Sim c W e h s H) (e1 : e[i]? = some x) (o : x.isOwn = true) : ∃ a, s[i]? = some (some (.ref a)) ∧ Own c W H x a := by
  cases x with
  | own l =>
    obtain ⟨a, vs, e2, e3, r, n⟩ := S.own i l e1
    exact ⟨a, e2, ⟨vs, e3, r⟩, n⟩
  | dic ks l =>
    obtain ⟨a, vs, e2, e3, z, r, n⟩ := S.dic i ks l e1
    exact ⟨a, e2, ⟨vs, e3, z, r⟩, n⟩
  | none => cases o
  | exn y => cases o
  | val d => cases o
/-- slot i holds what it owns, all else as it was -/
theorem Sim.owned {W' : Wd} {H' : Hp} {x : Slot} {s' : L2.St} (S : Sim c W e h s H) (hs : HSim c.g W' h H') (st : Step c.W0 c.H0 W' H') (p : Per W H W' H') (ho : ∀ b o, H b = some o → b ≠ a → H' b = some o) (hf : ∀ b, W'.F b → W.F b) (hr : W'.r = W.r) (o : Own c W' H' x a) (hx : x.isOwn = true)
    (hn : ∀ (j : Nat) (y : Slot), j ≠ i → e[j]? = some y → y.isOwn = true → s[j]? ≠ some (some (.ref a))) (hl : s'.length = s.length) (h1 : i < s.length → s'[i]? = some (some (.ref a))) (h2 : ∀ j, j ≠ i → s'[j]? = s[j]?) : Sim c W' (e.set i x) h s' H' := by
  have at_i : ∀ y, (e.set i x)[i]? = some y → y = x ∧ s'[i]? = some (some (.ref a)) := fun y e1 => by
    have hi : i < e.length := by
      have q := (List.getElem?_eq_some_iff.mp e1).1
      rwa [List.length_set] at q
    rw [List.getElem?_set_self hi] at e1
    exact ⟨(Option.some.inj e1).symm, h1 (by rw [← S.len]; exact hi)⟩
  refine ⟨hs, st, by rw [List.length_set, hl]; exact S.len, fun j d e1 => ?_, fun j l e1 => ?_, fun j ks l e1 => ?_, fun j k b y z e1 o1 e2 o2 e3 e4 => ?_, fun j y e1 => ?_⟩
  · by_cases hj : j = i
    · subst hj
      obtain ⟨q, _⟩ := at_i _ e1
      rw [← q] at hx
      cases hx
    · rw [List.getElem?_set_ne (Ne.symm hj)] at e1
      obtain ⟨v, e2, r⟩ := S.val j d e1
      exact ⟨v, by rw [h2 j hj, e2], r.per p _ _⟩
  · by_cases hj : j = i
    · subst hj
      obtain ⟨q, q2⟩ := at_i _ e1
      subst q
      obtain ⟨⟨vs, o1, o2⟩, o3⟩ := o
      exact ⟨a, vs, q2, o1, o2, o3⟩
    · rw [List.getElem?_set_ne (Ne.symm hj)] at e1
      obtain ⟨b, vs, e2, e3, r, n1, n2, n3⟩ := S.own j l e1
      have hb : b ≠ a := fun z => hn j _ hj e1 rfl (z ▸ e2)
      exact ⟨b, vs, by rw [h2 j hj, e2], ho b _ e3 hb, r.per p _ _, fun f => n1 (hf b f), by rw [hr]; exact n2, n3⟩
  · by_cases hj : j = i
    · subst hj
      obtain ⟨q, q2⟩ := at_i _ e1
      subst q
      obtain ⟨⟨vs, o1, o2, o4⟩, o3⟩ := o
      exact ⟨a, vs, q2, o1, o2, o4, o3⟩
    · rw [List.getElem?_set_ne (Ne.symm hj)] at e1
      obtain ⟨b, vs, e2, e3, w, r, n1, n2, n3⟩ := S.dic j ks l e1
      have hb : b ≠ a := fun z => hn j _ hj e1 rfl (z ▸ e2)
      exact ⟨b, vs, by rw [h2 j hj, e2], ho b _ e3 hb, w, r.per p _ _, fun f => n1 (hf b f), by rw [hr]; exact n2, n3⟩
  · have key : ∀ (j : Nat) (y : Slot), (e.set i x)[j]? = some y → y.isOwn = true → s'[j]? = some (some (.ref b)) → (j = i ∧ b = a) ∨ (j ≠ i ∧ e[j]? = some y ∧ s[j]? = some (some (.ref b))) := fun j y e1 o1 e3 => by
      by_cases hj : j = i
      · subst hj
        obtain ⟨q, q2⟩ := at_i _ e1
        rw [q2] at e3
        left
        exact ⟨rfl, (V.ref.inj (Option.some.inj (Option.some.inj e3))).symm⟩
      · rw [List.getElem?_set_ne (Ne.symm hj)] at e1
        rw [h2 j hj] at e3
        exact .inr ⟨hj, e1, e3⟩
    rcases key j y e1 o1 e3 with ⟨k1, k2⟩ | ⟨k1, k2, k3⟩
    · rcases key k z e2 o2 e4 with ⟨l1, l2⟩ | ⟨l1, l2, l3⟩
      · rw [k1, l1]
      · rw [k2] at l3
        exact absurd l3 (hn k z l1 l2 o2)
    · rcases key k z e2 o2 e4 with ⟨l1, l2⟩ | ⟨l1, l2, l3⟩
      · rw [l2] at k3
        exact absurd k3 (hn j y k1 k2 o1)
      · exact S.ne j k b y z k2 o1 l2 o2 k3 l3
  · by_cases hj : j = i
    · subst hj
      obtain ⟨q, _⟩ := at_i _ e1
      rw [← q] at hx
      cases hx
    · rw [List.getElem?_set_ne (Ne.symm hj)] at e1
      obtain ⟨b, cls, dd, e2, e3, r⟩ := S.exn j y e1
      exact ⟨b, cls, dd, e2, by rw [h2 j hj, e3], r.per p⟩
/-- a new list into slot i -/
theorem Sim.setOwn {W1 : Wd} {H1 : Hp} {h1 : HP} {l : List DV} {v : V} (S : Sim c W e h s H) (t : Step W H W1 H1) (S1 : Sim c W1 e h1 s H1) (o : rO c H W1 H1 l v) : Sim c W1 (e.set i (.own l)) h1 (s.set i (some v)) H1 := by
  obtain ⟨a, vs, e1, e2, r, n1, n2, n3⟩ := o
  subst e1
  refine S1.owned (a := a) S1.hs S1.st (Per.refl _ _) (fun b o e _ => e) (fun b f => f) rfl ⟨⟨vs, e2, r⟩, n1, n2, S.st.th a n3⟩ rfl (fun j y hj e3 o z => ?_) (List.length_set ..) (fun hi => List.getElem?_set_self hi) fun j hj => List.getElem?_set_ne (Ne.symm hj)
  obtain ⟨b, e4, o2⟩ := S.ownAt e3 o
  rw [z] at e4
  have eb : a = b := V.ref.inj (Option.some.inj (Option.some.inj e4))
  subst eb
  cases y with
  | own l =>
    obtain ⟨⟨vs, q, _⟩, _⟩ := o2
    rw [n3] at q
    cases q
  | dic ks l =>
    obtain ⟨⟨vs, q, _⟩, _⟩ := o2
    rw [n3] at q
    cases q
  | none => cases o
  | exn y => cases o
  | val d => cases o
/-- what slot i owns is changed -/
theorem Sim.chgOwn {x y : Slot} {o o' : HO} (S : Sim c W e h s H) (e1 : e[i]? = some x) (hx : x.isOwn = true) (e2 : s[i]? = some (some (.ref a))) (ea : H a = some o) (k1 : ∀ xs, o ≠ .tup xs) (k2 : ∀ a u, o ≠ .frz a u) (n : ¬ W.F a ∧ a ∉ W.r ∧ c.H0 a = none) (hy : y.isOwn = true)
    (new : Per W H W (upd H a o') → Own c W (upd H a o') y a) : Sim c W (e.set i y) h s (upd H a o') ∧ Per W H W (upd H a o') := by
  obtain ⟨p, hs⟩ := own_chg (o' := o') S.hs ea n.1 n.2.1 k1 k2
  refine ⟨S.owned (a := a) hs (S.st.chg n.2.2) p (fun b u q hb => by rw [upd_ne hb]; exact q) (fun b f => f) rfl (new p) hy (fun j z hj e3 oz e4 => ?_) rfl (fun hi => e2) (fun j _ => rfl), p⟩
  exact hj (S.ne j i a z x e3 oz e1 hx e4 e2)
end

/-! ### small statements -/
def sNext : Stm := fun e h => .nx e h
def sSeq (a b : Stm) : Stm := fun e h => match a e h with
  | .nx e' h' => b e' h'
  | r => r
def sSet (i : Nat) (m : En → M DV) : Stm := sBind m fun d e h => .nx (e.set i (.val d)) h
def sSetO (i : Nat) (m : En → M (List DV)) : Stm := sBind m fun l e h => .nx (e.set i (.own l)) h
def sRet (m : En → M DV) : Stm := sBind m fun d _ h => .rt d h
def sRetN : Stm := fun _ h => .rt .non h
def sExpr (m : En → M DV) : Stm := sBind m fun _ e h => .nx e h
def sIf (t : En → M Bool) (a b : Stm) : Stm := sBind t fun x e h => if x then a e h else b e h
section
variable {X : Cx} {c : Cn} {pos : Pos} {st : Stmt} {rest : List Stmt} {a b : Stm} {ex : Expr} {m : En → M DV}
theorem s_nil : PSs X [] (RS c sNext) := pss_imp pss_nil fun D s H q => by
  obtain ⟨W, e, h, S, q⟩ := q
  exact q.nx S
theorem s_pass : PS X (.Pass pos) (RS c sNext) := ps_imp ps_pass fun D s H q => by
  obtain ⟨W, e, h, S, q⟩ := q
  exact q.nx S
theorem seq_use {D : Ends} {s : L2.St} {H : Hp} (q : RS c (sSeq a b) D s H) : RS c a { D with nx := RS c b D } s H := by
  obtain ⟨W, e, h, S, q⟩ := q
  refine ⟨W, e, h, S, ?_⟩
  unfold sSeq at q
  cases z : a e h with
  | nx e' h' =>
    rw [z] at q
    exact fun W' s' H' p S' => ⟨W', e', h', S', q.later p⟩
  | _ =>
    rw [z] at q
    exact q
theorem s_cons (h1 : PS X st (RS c a)) (h2 : PSs X rest (RS c b)) : PSs X (st :: rest) (RS c (sSeq a b)) := pss_imp (pss_cons h1 h2) fun D s H q => seq_use q
theorem s_one (h1 : PS X st (RS c a)) : PSs X [st] (RS c a) := pss_one h1
theorem s_set {i : Nat} {x : Str} {pos' : Pos} (hN : X.N.Nodup) (hi : X.N[i]? = some x) (hx : Loc X.env.scope x) (he : PE X ex (RE c m)) (hs : swapsWith ex (some (.Name x pos')) pos.line X.env = pure false := by rfl) (hf : X.fn x = true ∨ X.env.scope.names.lookup x = some .local := by first | exact .inl rfl | exact .inr rfl | assumption) :
    PS X (.Assign [.Name x pos'] ex pos) (RS c (sSet i m)) := ps_imp (ps_set hN hi hx he hs hf) fun D s H q =>
  sb_use q fun W e W1 H1 d v h1 t S r q2 => q2.nx (S.set r)
theorem s_setO {i : Nat} {x : Str} {pos' : Pos} {m : En → M (List DV)} (hN : X.N.Nodup) (hi : X.N[i]? = some x) (hx : Loc X.env.scope x) (he : PE X ex (RO c m)) (hs : swapsWith ex (some (.Name x pos')) pos.line X.env = pure false := by rfl) (hf : X.fn x = true ∨ X.env.scope.names.lookup x = some .local := by first | exact .inl rfl | exact .inr rfl | assumption) :
    PS X (.Assign [.Name x pos'] ex pos) (RS c (sSetO i m)) := ps_imp (ps_set hN hi hx he hs hf) fun D s H q => by
  obtain ⟨W, e, h, S0, q⟩ := q
  exact ⟨W, e, h, S0, sb_at S0 q fun W1 H1 l v h1 t S r q2 => q2.nx (S0.setOwn t S r)⟩
theorem s_ret (he : PE X ex (RE c m)) : PS X (.Return (some ex) pos) (RS c (sRet m)) := ps_imp (ps_ret he) fun D s H q =>
  sb_use q fun W e W1 H1 d v h1 t S r q2 => q2 W1 H1 v S.st S.hs r
theorem s_retN : PS X (.Return none pos) (RS c sRetN) := ps_imp ps_retN fun D s H q => by
  obtain ⟨W, e, h, S, q⟩ := q
  exact q W H .non S.st S.hs (by simp only [Rep])
theorem s_expr (he : PE X ex (RE c m)) (hs : swapsWith ex none pos.line X.env = pure false := by rfl) : PS X (.Expr ex pos) (RS c (sExpr m)) := ps_imp (ps_expr he hs) fun D s H q =>
  sb_use q fun W e W1 H1 d v h1 t S r q2 => q2.nx S
theorem s_if {t : En → M Bool} {sa sb : List Stmt} (ht : PT X ex (RT c t)) (ha : PSs X sa (RS c a)) (hb : PSs X sb (RS c b)) : PS X (.If ex sa sb pos) (RS c (sIf t a b)) := ps_imp (ps_if ht ha hb) fun D s H q =>
  sb_use q fun W e W1 H1 x y h1 t S r q2 => by
    have r : y = x := r
    subst r
    cases y with
    | true => exact iteT ⟨W1, e, h1, S, q2⟩
    | false => exact iteF ⟨W1, e, h1, S, q2⟩
/-- a slot's list is never changed again -/
def sFrz (i : Nat) : Stm := fun e h => match e[i]? with
  | some (.own l) => .nx (e.set i (.val (.lst l))) h
  | some (.val _) => .nx e h
  | _ => .bad
theorem frz_use {i : Nat} {D : Ends} {s : L2.St} {H : Hp} (q : RS c (sSeq (sFrz i) a) D s H) : RS c a D s H := by
  obtain ⟨W, e, h, S, q⟩ := q
  unfold sSeq sFrz at q
  cases z : e[i]? with
  | none =>
    rw [z] at q
    exact q.elim
  | some x =>
    rw [z] at q
    cases x with
    | none => exact q.elim
    | val d => exact ⟨W, e, h, S, q⟩
    | dic ks l => exact q.elim
    | exn y => exact q.elim
    | own l =>
      obtain ⟨p, vs, e2, e3, r, n1, n2, n3⟩ := S.own i l z
      have hs := S.hs.frz e3 n2
      have pr : Per W H (W.frz p) H := ⟨fun _ f => .inl f, fun _ _ e => e, fun _ _ => rfl, fun _ _ e => e, fun _ _ _ e => e⟩
      have rl : Rep c.g (W.frz p) H (.lst l) (.ref p) := by
        simp only [Rep]
        exact ⟨p, vs, rfl, .inr rfl, e3, r.per pr _ _⟩
      have nb : ∀ (j : Nat) (y : Slot), j ≠ i → e[j]? = some y → y.isOwn = true → s[j]? ≠ some (some (.ref p)) := fun j y hj e4 o e5 => hj (S.ne j i p y _ e4 o z rfl e5 e2)
      refine ⟨W.frz p, _, h, ⟨hs, S.st.frz n3, by rw [List.length_set]; exact S.len, fun j d e1 => ?_, fun j l2 e1 => ?_, fun j ks l2 e1 => ?_, fun j k b x y e1 o1 e4 o2 e5 e6 => ?_, fun j y e1 => ?_⟩, q.later pr⟩
      · by_cases hj : j = i
        · subst hj
          have hi : j < e.length := (List.getElem?_eq_some_iff.mp z).1
          rw [List.getElem?_set_self hi] at e1
          cases e1
          exact ⟨_, e2, rl⟩
        · rw [List.getElem?_set_ne (Ne.symm hj)] at e1
          obtain ⟨v, e4, r4⟩ := S.val j d e1
          exact ⟨v, e4, r4.per pr _ _⟩
      · by_cases hj : j = i
        · subst hj
          have hi : j < e.length := (List.getElem?_eq_some_iff.mp z).1
          rw [List.getElem?_set_self hi] at e1
          cases e1
        · rw [List.getElem?_set_ne (Ne.symm hj)] at e1
          obtain ⟨b, ws, e4, e5, r4, m1, m2, m3⟩ := S.own j l2 e1
          exact ⟨b, ws, e4, e5, r4.per pr _ _, fun f => f.elim m1 fun w => nb j _ hj e1 rfl (w ▸ e4), m2, m3⟩
      · by_cases hj : j = i
        · subst hj
          have hi : j < e.length := (List.getElem?_eq_some_iff.mp z).1
          rw [List.getElem?_set_self hi] at e1
          cases e1
        · rw [List.getElem?_set_ne (Ne.symm hj)] at e1
          obtain ⟨b, ws, e4, e5, w0, r4, m1, m2, m3⟩ := S.dic j ks l2 e1
          exact ⟨b, ws, e4, e5, w0, r4.per pr _ _, fun f => f.elim m1 fun w => nb j _ hj e1 rfl (w ▸ e4), m2, m3⟩
      · have back : ∀ (j : Nat) (y : Slot), (e.set i (.val (.lst l)))[j]? = some y → y.isOwn = true → e[j]? = some y := fun j y e1 oy => by
          by_cases hj : j = i
          · subst hj
            have hi : j < e.length := (List.getElem?_eq_some_iff.mp z).1
            rw [List.getElem?_set_self hi] at e1
            cases e1
            cases oy
          · rwa [List.getElem?_set_ne (Ne.symm hj)] at e1
        exact S.ne j k b x y (back j x e1 o1) o1 (back k y e4 o2) o2 e5 e6
      · by_cases hj : j = i
        · subst hj
          have hi : j < e.length := (List.getElem?_eq_some_iff.mp z).1
          rw [List.getElem?_set_self hi] at e1
          cases e1
        · rw [List.getElem?_set_ne (Ne.symm hj)] at e1
          obtain ⟨b, cls, dd, e4, e5, r4⟩ := S.exn j y e1
          exact ⟨b, cls, dd, e4, e5, r4.per pr⟩
theorem s_frz {i : Nat} (h : PS X st (RS c a)) : PS X st (RS c (sSeq (sFrz i) a)) := ps_imp h fun D s H q => frz_use q

/-! ### found.append(e), found[k] = e -/
def sApp (i : Nat) (m : En → M DV) : Stm := fun e h => match e[i]? with
  | some (.own l) => (match m e h with
    | .ok d h' => if l.length < LN then .nx (e.set i (.own (l ++ [d]))) h' else .bad
    | .exc x h' => .exc x e h'
    | .bad => .bad)
  | _ => .bad
theorem s_app {i : Nat} {x : Str} {p1 p2 p3 : Pos} (hN : X.N[i]? = some x) (hv : Vis X.env.scope x) (he : PE X ex (RE c m)) (hd : (x == ("__debug__" : Str)) = false := by decide) (hcd : (x == ("__classdict__" : Str)) = false := by decide)
    (hst : starEach (ex :: []) X.env = (false, eval ex X.env) :: starEach [] X.env := by rfl)
    (hw : PE X (.Call (.Attribute (.Name x p1) "append" p2) [ex] [] p3) (tBM X.K "list" rAppend (tVar i) (tCons (RE c m) tNil)))
    (hs : swapsWith (.Call (.Attribute (.Name x p1) "append" p2) [ex] [] p3) none pos.line X.env = pure false := by rfl) :
    PS X (.Expr (.Call (.Attribute (.Name x p1) "append" p2) [ex] [] p3) pos) (RS c (sApp i m)) := ps_imp (ps_expr hw hs) fun D s H q => by
  obtain ⟨W, e, h, S, q⟩ := q
  unfold sApp at q
  cases z : e[i]? with
  | none =>
    rw [z] at q
    exact q.elim
  | some y =>
    rw [z] at q
    cases y with
    | own l =>
      obtain ⟨a, vs, e2, e3, r, n⟩ := S.own i l z
      refine ⟨_, e2, .inl ⟨rfl, _, .inl (.inl e3)⟩, W, e, h, S, ?_⟩
      cases z2 : m e h with
      | bad =>
        rw [z2] at q
        exact q.elim
      | exc w h1 =>
        rw [z2] at q
        exact fun W' H' cls dd t S' r => q W' s H' cls dd (t.per S.hs) S' r
      | ok d h1 =>
        rw [z2] at q
        intro W1 H1 v t S1 rv
        by_cases hl : l.length < LN
        rotate_left
        · have q1 : PostS c W H (if l.length < LN then .nx (e.set i (.own (l ++ [d]))) h1 else .bad) D := q
          rw [if_neg hl] at q1
          exact q1.elim
        · have q1 : PostS c W H (if l.length < LN then .nx (e.set i (.own (l ++ [d]))) h1 else .bad) D := q
          rw [if_pos hl] at q1
          obtain ⟨a1, vs1, f2, f3, r1, n1⟩ := S1.own i l z
          rw [e2] at f2
          have ea : a = a1 := V.ref.inj (Option.some.inj (Option.some.inj f2))
          subst ea
          refine ⟨a, vs1, v, rfl, rfl, f3, by rw [← r1.len, line_LN]; exact hl, ?_⟩
          obtain ⟨S2, p2⟩ := S1.chgOwn (y := .own (l ++ [d])) (o' := .lst (vs1 ++ [v])) z rfl e2 f3 (fun _ w => by cases w) (fun _ _ w => by cases w) n1 rfl fun p => ⟨⟨_, upd_same, (r1.per p _ _).app (.cons (Rep.per p _ _ rv) .nil)⟩, n1⟩
          exact (q1.later ((t.per S.hs).trans p2)).nx S2
    | _ => exact q.elim
end
end LM

/-! Loops; defs and their calls. -/
namespace LM
open PySem L2

/-! ### for -/
def forL (t : DV → En → Option En) (body : Stm) (fg : List Nat) : List DV → Stm
  | [], e, h => .nx e h
  | d :: ds, e, h => match t d e with
    | none => .bad
    | some e1 => match body e1 h with
      | .nx e2 h2 => forL t body fg ds (wipeE e2 fg) h2
      | .ct e2 h2 => forL t body fg ds (wipeE e2 fg) h2
      | .bk e2 h2 => .nx (wipeE e2 fg) h2
      | .rt d h2 => .rt d h2
      | .exc x e2 h2 => .exc x e2 h2
      | .bad => .bad
def sFor (mi : En → M (List DV)) (t : DV → En → Option En) (fg : List Nat) (body : Stm) : Stm := sBind mi fun ds e h => forL t body fg ds (wipeE e fg) h
section
variable {X : Cx} {c : Cn} {pos : Pos}
theorem s_for {tg iter : Expr} {body : List Stmt} {mi : En → M (List DV)} {t : DV → En → Option En} {sl fg : List Nat} {b : Stm} (hp : PassesOwn (model X.prog X.w) X.A X.env X.xe) (hc : X.calm = true) (hi : PI X tg iter (RI c mi)) (hg : PG X tg (RG c t sl)) (hb : PSs X body (RS c b))
    (hs : ∀ x, foldedSetIterable iter X.env x = pure x := by intro _; rfl) : PS X (.For tg iter body [] pos) (RS c (sFor mi t fg b)) := ps_imp (ps_for hp hc hi hg hb hs) fun D s H q => by
  obtain ⟨W, e, h, S0, q⟩ := q
  refine ⟨W, e, h, S0, sb_at (R := fun _ W H ds J => Wk c W H J ds) S0 q fun W1 H1 ds J h1 t1 S1 wk q2 => ?_⟩
  refine ⟨fun i m s' Hc => m = ds.length - i ∧ i ≤ ds.length ∧ ∃ Wc ec hc, Per W1 H1 Wc Hc ∧ Sim c Wc ec hc s' Hc ∧ PostS c Wc Hc (forL t b fg (ds.drop i) ec hc) D,
    ⟨ds.length, rfl, Nat.zero_le _, W1, _, h1, Per.refl _ _, S1.wipe' fg, by rw [List.drop_zero]; exact q2⟩, ?_⟩
  rintro i m s' Hc ⟨em, hi, Wc, ec, hc, pc, Sc, q3⟩
  by_cases hlt : i < ds.length
  rotate_left
  · have ei : i = ds.length := by omega
    subst ei
    rw [List.drop_length] at q3
    exact .inl ⟨wk.st Wc Hc pc, q3.nx Sc⟩
  · right
    obtain ⟨d, ed⟩ : ∃ d, ds[i]? = some d := ⟨_, List.getElem?_eq_getElem hlt⟩
    obtain ⟨g1, g2⟩ := wk.go Wc Hc pc i d ed
    have ed2 : ds.drop i = d :: ds.drop (i + 1) := by
      rw [List.drop_eq_getElem_cons hlt]
      congr 1
      rw [List.getElem?_eq_getElem hlt] at ed
      exact Option.some.inj ed
    rw [ed2] at q3
    refine ⟨g1, fun s2 H2 => ∃ Wc ec hc, Per W1 H1 Wc H2 ∧ Sim c Wc ec hc s2 H2 ∧ PostS c Wc H2 (forL t b fg (ds.drop (i + 1)) ec hc) D, fun s2 H2 z => ⟨_, by omega, rfl, hlt, z⟩, fun x H' y => ?_⟩
    have item : Step Wc Hc Wc H' ∧ HSim c.g Wc hc H' ∧ Rep c.g Wc H' d x := by
      rcases g2 x H' y with ⟨e1, r⟩ | ⟨T, us, l, e1, e2, hT, e3, r⟩
      · subst e1
        exact ⟨Step.refl _ _, Sc.hs, r⟩
      · subst e1 e2 e3
        have tn : Step Wc Hc Wc (upd Hc T (.tup us)) := Step.new hT
        have pn := tn.per Sc.hs
        refine ⟨tn, Sc.hs.new hT pn, ?_⟩
        simp only [Rep]
        exact ⟨T, us, rfl, .inl (.inl upd_same), r.per pn _ _⟩
    obtain ⟨t2, s2, rd⟩ := item
    have p2 := t2.per Sc.hs
    refine ⟨Wc, ec, hc, d, Sc.step t2 s2, rd, ?_⟩
    unfold forL at q3
    cases zt : t d ec with
    | none =>
      rw [zt] at q3
      exact q3.elim
    | some e1 =>
      rw [zt] at q3
      intro s3 S3 _ _
      refine ⟨Wc, e1, hc, S3, ?_⟩
      have q4 : PostS c Wc H' (match b e1 hc with
        | .nx e2 h2 => forL t b fg (ds.drop (i + 1)) (wipeE e2 fg) h2
        | .ct e2 h2 => forL t b fg (ds.drop (i + 1)) (wipeE e2 fg) h2
        | .bk e2 h2 => .nx (wipeE e2 fg) h2
        | .rt d h2 => .rt d h2
        | .exc x e2 h2 => .exc x e2 h2
        | .bad => .bad) D := q3.later p2
      cases zb : b e1 hc with
      | nx e2 h2 =>
        rw [zb] at q4
        exact fun W' s' H2 p S' => ⟨W', _, h2, (pc.trans p2).trans p, S'.wipe' fg, q4.later p⟩
      | ct e2 h2 =>
        rw [zb] at q4
        exact fun W' s' H2 p S' => ⟨W', _, h2, (pc.trans p2).trans p, S'.wipe' fg, q4.later p⟩
      | bk e2 h2 =>
        rw [zb] at q4
        exact fun W' s' H2 p S' => q4 W' s' H2 p (S'.wipe' fg)
      | rt d h2 =>
        rw [zb] at q4
        exact q4
      | exc x e2 h2 =>
        rw [zb] at q4
        exact q4
      | bad =>
        rw [zb] at q4
        exact q4

/-! ### while -/
def whL (t : En → M Bool) (body : Stm) (fg : List Nat) : Nat → Stm
  | 0, _, _ => .bad
  | n + 1, e, h => match t e h with
    | .ok true h1 => (match body e h1 with
      | .nx e2 h2 => whL t body fg n (wipeE e2 fg) h2
      | .ct e2 h2 => whL t body fg n (wipeE e2 fg) h2
      | .bk e2 h2 => .nx (wipeE e2 fg) h2
      | .rt d h2 => .rt d h2
      | .exc x e2 h2 => .exc x e2 h2
      | .bad => .bad)
    | .ok false h1 => .nx e h1
    | .exc x h1 => .exc x e h1
    | .bad => .bad
def sWhile (n : Nat) (t : En → M Bool) (fg : List Nat) (body : Stm) : Stm := fun e h => whL t body fg n (wipeE e fg) h
theorem s_while {ex : Expr} {body : List Stmt} {t : En → M Bool} {b : Stm} {n : Nat} {fg : List Nat} (hp : PassesOwn (model X.prog X.w) X.A X.env X.xe) (hc : PT X ex (RT c t)) (hb : PSs X body (RS c b)) : PS X (.While ex body [] pos) (RS c (sWhile n t fg b)) := ps_imp (ps_while hp hc hb) fun D s H q => by
  obtain ⟨W, e, h, S0, q⟩ := q
  refine ⟨fun m s' Hc => ∃ Wc ec hc, Sim c Wc ec hc s' Hc ∧ PostS c Wc Hc (whL t b fg m ec hc) D, ⟨n, W, _, h, S0.wipe' fg, q⟩, ?_⟩
  rintro m s' Hc ⟨Wc, ec, hc, Sc, q3⟩
  cases m with
  | zero => exact q3.elim
  | succ m =>
    unfold whL at q3
    refine ⟨Wc, ec, hc, Sc, ?_⟩
    cases zt : t ec hc with
    | bad =>
      rw [zt] at q3
      exact q3.elim
    | exc x h1 =>
      rw [zt] at q3
      exact fun W' H' cls dd t1 S' r => q3 W' s' H' cls dd (t1.per Sc.hs) S' r
    | ok x h1 =>
      rw [zt] at q3
      intro W1 H1 y t1 S1 r
      have r : y = x := r
      subst r
      have p1 := t1.per Sc.hs
      cases y with
      | false => exact iteF ((q3.later p1).nx S1)
      | true =>
        refine iteT ⟨fun s2 H2 => ∃ Wc ec hc, Sim c Wc ec hc s2 H2 ∧ PostS c Wc H2 (whL t b fg m ec hc) D, fun s2 H2 z => ⟨m, Nat.lt_succ_self m, z⟩, W1, ec, h1, S1, ?_⟩
        have q4 : PostS c W1 H1 (match b ec h1 with
          | .nx e2 h2 => whL t b fg m (wipeE e2 fg) h2
          | .ct e2 h2 => whL t b fg m (wipeE e2 fg) h2
          | .bk e2 h2 => .nx (wipeE e2 fg) h2
          | .rt d h2 => .rt d h2
          | .exc x e2 h2 => .exc x e2 h2
          | .bad => .bad) D := q3.later p1
        cases zb : b ec h1 with
        | nx e2 h2 =>
          rw [zb] at q4
          exact fun W' s' H2 p S' => ⟨W', _, h2, S'.wipe' fg, q4.later p⟩
        | ct e2 h2 =>
          rw [zb] at q4
          exact fun W' s' H2 p S' => ⟨W', _, h2, S'.wipe' fg, q4.later p⟩
        | bk e2 h2 =>
          rw [zb] at q4
          exact fun W' s' H2 p S' => q4 W' s' H2 p (S'.wipe' fg)
        | rt d h2 =>
          rw [zb] at q4
          exact q4
        | exc x e2 h2 =>
          rw [zb] at q4
          exact q4
        | bad =>
          rw [zb] at q4
          exact q4
end

/-! ### defs -/
def PostF (g : Glue) (W : Wd) (H : Hp) (r : Res DV) (Q : VK) (E : XK) : Prop := match r with
  | .ok d h' => ∀ W' H' v, Step W H W' H' → HSim g W' h' H' → Rep g W' H' d v → Q v H'
  | .exc x h' => ∀ W' H' cls dd, Step W H W' H' → HSim g W' h' H' → XRep g W' H' x cls dd → E cls dd H'
  | .bad => False
/-- a def's promise by its mirror -/
def spF (g : Glue) (n : Nat) (m : List DV → M DV) : Sp := fun vs H Q E => ∃ W h ds, HSim g W h H ∧ Reps g W H ds vs ∧ ds.length = n ∧ PostF g W H (m ds h) Q E
def fnM (N : Nat) (body : Stm) : List DV → M DV := fun ds h => match body (ds.map .val ++ List.replicate (N - ds.length) .none) h with
  | .nx _ h' => .ok .non h'
  | .rt d h' => .ok d h'
  | .exc x _ h' => .exc x h'
  | _ => .bad
theorem sim_start {g : Glue} {W : Wd} {h : HP} {H : Hp} {ds : List DV} {vs : List V} {N : List Str} {x : WX} (hs : HSim g W h H) (r : Reps g W H ds vs) : Sim ⟨g, W, H, x, none⟩ W (ds.map .val ++ List.replicate (N.length - ds.length) .none) h (L2.start N vs) H := by
  have own0 : ∀ (i : Nat) (y : Slot), (ds.map Slot.val ++ List.replicate (N.length - ds.length) Slot.none)[i]? = some y → y.isOwn = false := fun i y e => by
    rw [List.getElem?_append] at e
    split at e
    · rw [List.getElem?_map] at e
      cases z : ds[i]? with
      | none =>
        rw [z] at e
        cases e
      | some d =>
        rw [z] at e
        cases e
        rfl
    · rw [List.getElem?_replicate] at e
      split at e
      · cases e
        rfl
      · cases e
  refine ⟨hs, Step.refl _ _, ?_, fun i d e => ?_, fun i l e => ?_, fun i ks l e => ?_, fun i j a y z e1 o1 => ?_, fun i x e => ?_⟩
  · unfold L2.start
    rw [List.length_append, List.length_append, List.length_map, List.length_map, List.length_replicate, List.length_replicate, r.len]
  · rw [List.getElem?_append] at e
    split at e
    · rename_i hi
      rw [List.length_map] at hi
      rw [List.getElem?_map] at e
      cases z : ds[i]? with
      | none =>
        rw [z] at e
        cases e
      | some d' =>
        rw [z] at e
        cases e
        obtain ⟨v, e2, rv⟩ := r.get z
        refine ⟨v, ?_, rv⟩
        unfold L2.start
        rw [List.getElem?_append_left (by rw [List.length_map, ← r.len]; exact hi), List.getElem?_map, e2]
        rfl
    · rw [List.getElem?_replicate] at e
      split at e <;> cases e
  · have := own0 i _ e
    cases this
  · have := own0 i _ e
    cases this
  · rw [own0 i y e1] at o1
    cases o1
  · exfalso
    rw [List.getElem?_append] at e
    split at e
    · rw [List.getElem?_map] at e
      cases z : ds[i]? with
      | none =>
        rw [z] at e
        cases e
      | some d =>
        rw [z] at e
        cases e
    · rw [List.getElem?_replicate] at e
      split at e <;> cases e

/-- the world of a law -/
structure Tp where
  P : Program
  w : World
  mg : Str → Option Value
  base : Heap
  g : Glue
/-- where an expression stands -/
structure XEx (T : Tp) (X : Cx) (c : Cn) (N : List Str) (k : Nat) (sc : Scope) : Prop where
  pp : X.prog = T.P
  pw : X.w = T.w
  pk : X.K = T.g.K
  pm : X.mg = T.mg
  pb : X.base = T.base
  pg : c.g = T.g
  nm : X.N = N
  nd : N.Nodup
  sc : X.env.scope = sc
  calm : X.calm = true
  room : Room k X.A
  tk : L2N.Takes X c.x
/-- where a statement stands -/
structure XSt (T : Tp) (X : Cx) (c : Cn) (N : List Str) (k : Nat) (sc : Scope) : Prop where
  e : XEx T X c N k sc
  pa : PassesOwn (model X.prog X.w) X.A X.env X.xe
  fn : X.fn = fun _ => true
  st : X.stack = X.env :: X.outer
  fr : X.env.frame = some X.env.locals
/-- .. within a comprehension's block -/
structure XBl (T : Tp) (X : Cx) (c : Cn) (N : List Str) (k : Nat) (sc bs : Scope) : Prop where
  e : XEx T X c N k sc
  fn : X.fn = fun x => bs.names.lookup x == some .cell
section
variable {T : Tp} {X : Cx} {c : Cn} {N : List Str} {k : Nat} {sc : Scope}
theorem XEx.u (h : XEx T X c N k sc) : X.A.units + 64 < cLine := h.room.units
theorem XEx.kk (h : XEx T X c N k sc) : X.K = c.g.K := by rw [h.pk, h.pg]
theorem XEx.blk (h : XEx T X c N k sc) (s : Shared) (H : Hp) (bs : Scope) (C : Addr) (cl : List (Str × Addr)) (fp : List Addr) : XBl T (X.blk s H bs (compEnvC bs cl C X.env) fp) c.nx N k (relS bs sc) bs :=
  ⟨⟨h.pp, h.pw, h.pk, h.pm, h.pb, h.pg, h.nm, h.nd, by rw [← h.sc]; rfl, h.calm, h.room, fun u s' x => by
    obtain ⟨_, _, _, _, _, _, _, _, _, _, _, _, _, _, _, _, z⟩ := x
    exact z.elim⟩, rfl⟩
end
/-- what is known of a def that is called -/
structure Fo (T : Tp) (x : Str) (id k n : Nat) (m : List DV → M DV) : Prop where
  gl : T.mg x = some (.ref (T.g.fA id))
  kp : PySem.W.keepIn T.g.K (.ref (T.g.fA id)) = true
  ex : ∃ fd ps, Binds T.g.K fd ps [] ∧ FnOk T.P T.w T.g.K T.mg T.base (L2N.CX T.P T.w) k (T.g.fA id) fd ps (spF T.g n m)
theorem Fo.mono {T : Tp} {x : Str} {id j k n : Nat} {m : List DV → M DV} (F : Fo T x id j n m) (h : j ≤ k) : Fo T x id k n m := by
  obtain ⟨fd, ps, b, f⟩ := F.ex
  exact ⟨F.gl, F.kp, fd, ps, b, f.mono h⟩
theorem fn_rule {T : Tp} {x qual : Str} {params : Arguments} {body : List Stmt} {scope : Scope} {kws : List (Str × V)} {f : Addr} {fd : FuncData} {N ps : List Str} {k : Nat} {m : Stm} (F : FunD T.g.K x qual params body scope [] kws f fd) (S : FnScope N ps scope)
    (hb : ∀ (X : Cx) (c : Cn), XSt T X c N k scope → PSs X body (RS c m)) : FnOk T.P T.w T.g.K T.mg T.base (L2N.CX T.P T.w) (k + 1) f fd ps (spF T.g ps.length (fnM N.length m)) := by
  refine F.ok S (fun vs H Q E h => ?_) fun cdv A outer s H vs Q E hr h => ?_
  · obtain ⟨W, hh, ds, _, r, e, _⟩ := h
    rw [← e, r.len]
  · obtain ⟨W, hh, ds, hs, r, e, q⟩ := h
    refine ⟨RS ⟨T.g, W, H, fun cls d _ H' => E cls d H', none⟩ m, hb _ ⟨T.g, W, H, fun cls d _ H' => E cls d H', none⟩ ⟨⟨rfl, rfl, rfl, rfl, rfl, rfl, rfl, S.nd, rfl, rfl, hr, L2N.takes_of rfl rfl rfl rfl⟩, passes_of rfl, rfl, rfl, rfl⟩, W, _, hh, sim_start hs r, ?_⟩
    unfold fnM at q
    generalize m (ds.map .val ++ List.replicate (N.length - ds.length) .none) hh = z at q ⊢
    cases z with
    | nx e' h' => exact fun W' s' H' _ S' => q W' H' .non S'.st S'.hs (by simp only [Rep])
    | rt d h' => exact q
    | bk e' h' => exact q.elim
    | ct e' h' => exact q.elim
    | exc x e' h' => exact fun W' s' H' cls dd _ S' r => q W' H' cls dd S'.st S'.hs r
    | bad => exact q
section
variable {T : Tp} {X : Cx} {c : Cn} {N : List Str} {k : Nat} {sc : Scope} {pos p1 : Pos} {ex : Expr} {es : List Expr} {n : Nat}
/-- f(e, ..) -/
def eCall (m : List DV → M DV) (ms : En → M (List DV)) : En → M DV := fun e => ms e >>= m
theorem Fo.at (hX : XEx T X c N k sc) {x : Str} {id j : Nat} {m : List DV → M DV} (F : Fo T x id j n m) : X.mg x = some (.ref (c.g.fA id)) ∧ PySem.W.keepIn X.K (.ref (c.g.fA id)) = true ∧ ∃ fd ps, Binds X.K fd ps [] ∧ FnOk X.prog X.w X.K X.mg X.base (L2N.CX X.prog X.w) j (c.g.fA id) fd ps (spF c.g n m) := by
  rw [hX.pp, hX.pw, hX.pk, hX.pm, hX.pb, hX.pg]
  exact ⟨F.gl, F.kp, F.ex⟩
theorem call_use {m : List DV → M DV} {ms : En → M (List DV)} {s : L2.St} {H : Hp} {Q : VK} (q : RE c (eCall m ms) s H Q) : RX c (rVs c n) ms s H fun vs H1 => spF c.g n m (vs ++ []) H1 Q (WE c.x s) := RX.bind q fun W e W1 H1 ds vs h1 t S r q2 => by
  rw [List.append_nil]
  refine ⟨W1, h1, ds, S.hs, r.1, r.2, ?_⟩
  generalize m ds h1 = z at q2 ⊢
  cases z with
  | ok d h' => exact fun W' H' v t' hs' r' => q2 W' H' v t' (S.step t' hs') r'
  | exc x h' => exact fun W' H' cls dd t' hs' r' => q2 W' H' cls dd t' (S.step t' hs') r'
  | bad => exact q2
theorem c_call {x : Str} {id j : Nat} {m : List DV → M DV} {ms : En → M (List DV)} (hX : XEx T X c N k sc) (F : Fo T x id j n m) (hj : j ≤ k) (hg : Gl X x) (ha : PA X (ex :: es) (RA c n ms))
    (hdb : (x == ("__debug__" : Str)) = false := by decide) (he : starEach (ex :: es) X.env = (false, eval ex X.env) :: starEach es X.env := by rfl) (hpl : (backTo pos (starEach es X.env)).any (·.1) = false := by rfl) :
    PE X (.Call (.Name x p1) (ex :: es) [] pos) (RE c (eCall m ms)) := by
  obtain ⟨gl, kp, fd, ps, b, f⟩ := F.at hX
  exact pe_imp (pe_callSD f (hX.room.mono hj) hg gl kp b .nil (fun s => L2N.passAt hX.tk s) ha hdb he hpl) fun s H Q q => call_use q
end
end LM

/-! Sums, products of lists; more statements; what is known of names. -/
namespace LM
open PySem L2

section
variable {T : Tp} {X : Cx} {c : Cn} {N : List Str} {k : Nat} {sc : Scope} {x : Str} {i : Nat}
theorem XEx.vis (h : XEx T X c N k sc) (v : Vis sc x) : Vis X.env.scope x := by
  rw [h.sc]
  exact v
theorem XEx.loc (h : XEx T X c N k sc) (v : Loc sc x) : Loc X.env.scope x := by
  rw [h.sc]
  exact v
theorem XEx.gl (h : XEx T X c N k sc) (v : sc.names.lookup x = some .globalImplicit) : Gl X x := by
  show X.env.scope.names.lookup x = _
  rw [h.sc]
  exact v
theorem XEx.at (h : XEx T X c N k sc) (v : N[i]? = some x) : X.N[i]? = some x := by
  rw [h.nm]
  exact v
theorem XEx.ndX (h : XEx T X c N k sc) : X.N.Nodup := by
  rw [h.nm]
  exact h.nd
theorem XSt.f (h : XSt T X c N k sc) : X.fn x = true ∨ X.env.scope.names.lookup x = some .local := .inl (by rw [h.fn])
end

/-! ### sums -/
section
variable {X : Cx} {c : Cn} {pos p1 p2 pos2 : Pos} {a b : Expr} {ma mb : En → M DV}
theorem int_ok {W : Wd} {H : Hp} {v : V} {i : Int} (r : RepB c.g W H (.int i) v) : v = .int i := by
  rcases r with r | ⟨l2, p, vs, e1, _⟩ | ⟨_, _, _, _, e1, _⟩
  · simpa only [Rep] using r
  · cases e1
  · cases e1
theorem lst_ok {W : Wd} {H : Hp} {v : V} {l : List DV} (r : RepB c.g W H (.lst l) v) : ∃ p vs, v = .ref p ∧ H p = some (.lst vs) ∧ Reps c.g W H l vs := by
  rcases r with r | ⟨l2, p, vs, e1, e2, e3, r, n⟩ | ⟨_, _, _, _, e1, _⟩
  · simp only [Rep] at r
    obtain ⟨p, vs, e1, _, e3, r⟩ := r
    exact ⟨p, vs, e1, e3, r⟩
  · cases e1
    exact ⟨p, vs, e2, e3, r⟩
  · cases e1
def rAddA (K : PySem.W.Frag) : R2 := fun x y H Q => (∃ i j, x = .int i ∧ y = .int j ∧ Q (.int (i + j)) H) ∨ rCatA K x y H Q ∨ (∃ i j, x = .str i ∧ y = .str j ∧ i.length + j.length ≤ sizeLine ∧ Q (.str (i ++ j)) H) ∨ rCat x y H Q
theorem op_addA : OpR X (binaryOp .Add) (rAddA X.K) := op_add.or (op_catA.or (op_add_str.or op_cat))
theorem nil_of {W : Wd} {H : Hp} {l : List DV} (r : Reps c.g W H l []) : l = [] := by
  cases l with
  | nil => rfl
  | cons x r2 =>
    have := r.len
    cases this
theorem prim_add {K : PySem.W.Frag} (hk : c.g.K = K) : Prim2 c (pB c) (pB c) (rV c) vAdd (rAddA K) := by
  subst hk
  refine ⟨fun {W e h s H Hs x y v w Q} S rx ry nw q => ?_⟩
  unfold vAdd at q
  split at q
  · exact .inl ⟨_, _, int_ok rx, int_ok ry, q.ret S (by simp only [rV, Rep])⟩
  · obtain ⟨a, vs, e1, s1, r1⟩ := tup_ok rx
    obtain ⟨b, ws, e2, s2, r2⟩ := tup_ok ry
    split at q
    · rename_i hz
      refine .inr (.inl ⟨a, b, vs, ws, e1, e2, s1, s2, by rw [← r1.len, ← r2.len, line_LN]; exact hz, fun z => ?_, fun z z2 => ?_, fun z z2 p hp => ?_⟩)
      · subst z
        have := nil_of r1
        subst this
        refine q.ret S ?_
        simp only [rV, Rep]
        exact ⟨b, ws, rfl, s2, r2⟩
      · subst z2
        have := nil_of r2
        subst this
        refine q.ret S ?_
        simp only [rV, Rep]
        refine ⟨a, vs, rfl, s1, ?_⟩
        rw [List.append_nil]
        exact r1
      · exact post_tup q S (r1.app r2) hp
    · exact q.elim
  · split at q
    · rename_i hz
      exact .inr (.inr (.inl ⟨_, _, str_ok rx, str_ok ry, by rw [line_LN]; exact hz, q.ret S (by simp only [rV, Rep])⟩))
    · exact q.elim
  · obtain ⟨a, vs, e1, s1, r1⟩ := lst_ok rx
    obtain ⟨b, ws, e2, s2, r2⟩ := lst_ok ry
    split at q
    · rename_i hz
      exact .inr (.inr (.inr ⟨a, b, vs, ws, e1, e2, s1, s2, by rw [← r1.len, ← r2.len, line_LN]; exact hz, fun p hp => post_frz q S (r1.app r2) hp⟩))
    · exact q.elim
  · exact q.elim
theorem c_add (hk : X.K = c.g.K) (ha : PE X a (RB c ma)) (hb : PE X b (RB c mb)) : PE X (.BinOp a .Add b pos) (RE c (e2 vAdd ma mb)) := c_bin op_addA stays_B (prim_add hk.symm) ha hb
/-- the same as a list of one's own -/
def lAdd (x y : DV) : M (List DV) := match x, y with
  | .lst l, .lst m => if l.length + m.length ≤ LN then pure (l ++ m) else M.bad
  | _, _ => M.bad
theorem c_addO (ha : PE X a (RB c ma)) (hb : PE X b (RB c mb)) : PE X (.BinOp a .Add b pos) (RO c (fun e => ma e >>= fun x => mb e >>= fun y => lAdd x y)) := c_bin op_cat stays_B (Ra := pB c) (Rb := pB c) ⟨fun {W e h s H Hs x y v w Q} S rx ry nw q => by
  unfold lAdd at q
  split at q
  · obtain ⟨a, vs, e1, s1, r1⟩ := lst_ok rx
    obtain ⟨b, ws, e2, s2, r2⟩ := lst_ok ry
    split at q
    · rename_i hz
      exact ⟨a, b, vs, ws, e1, e2, s1, s2, by rw [← r1.len, ← r2.len, line_LN]; exact hz, fun p hp => post_own q S (r1.app r2) hp (nw p hp)⟩
    · exact q.elim
  · exact q.elim⟩ ha hb
/-- a list, so many times -/
def lMul (x y : DV) : M (List DV) := match x, y with
  | .lst l, .int (.ofNat n) => if Nat.ble n 16777216 && Nat.ble (l.length * n) 16777216 then pure (List.replicate n l).flatten else M.bad
  | _, _ => M.bad
theorem c_mulO (ha : PE X a (RB c ma)) (hb : PE X b (RE c mb)) : PE X (.BinOp a .Mult b pos) (RO c (fun e => ma e >>= fun x => mb e >>= fun y => lMul x y)) := c_bin op_rep stays_B (Ra := pB c) (Rb := pV c) ⟨fun {W e h s H Hs x y v w Q} S rx ry nw q => by
  unfold lMul at q
  split at q
  · obtain ⟨a, vs, e1, s1, r1⟩ := lst_ok rx
    simp only [pV, Rep] at ry
    split at q
    · rename_i hz
      rw [Bool.and_eq_true, Nat.ble_eq, Nat.ble_eq] at hz
      rename_i n
      have en : Int.ofNat n = (n : Int) := rfl
      rw [en] at ry
      exact ⟨a, _, vs, e1, ry, s1, by omega, by omega, by rw [← r1.len, line_LN]; exact hz.2, fun p hp => post_own q S (r1.rep _) hp (nw p hp)⟩
    · exact q.elim
  · exact q.elim⟩ ha hb

/-! ### tuple(reversed(a list)) -/
def vTupRev (x : DV) : M DV := fun h => match asL h x with
  | some l => .ok (.tup l.reverse) h
  | none => .bad
theorem c_tupRev (hk : X.K = c.g.K) (hc : X.calm = true) (hg : Gl X "tuple") (hm : X.mg "tuple" = none) (hg2 : Gl X "reversed") (hm2 : X.mg "reversed" = none) (ha : PE X a (RB c ma)) (hs : starEach [a] X.env = (false, eval a X.env) :: starEach [] X.env := by rfl)
    (hs2 : starEach [.Call (.Name "reversed" p2) [a] [] pos2] X.env = (false, eval (.Call (.Name "reversed" p2) [a] [] pos2) X.env) :: starEach [] X.env := by rfl) :
    PE X (.Call (.Name "tuple" p1) [.Call (.Name "reversed" p2) [a] [] pos2] [] pos) (RE c (e1 vTupRev ma)) := pe_imp (RT.pe_tupRev hc hg hm hg2 hm2 ha hs hs2) fun s H Q q =>
  RX.bind q fun W e W1 H1 x v h1 t S rx q2 => by
    unfold vTupRev at q2
    cases z : asL h1 x with
    | none =>
      rw [z] at q2
      exact q2.elim
    | some l =>
      rw [z] at q2
      obtain ⟨p, vs, e1, sq, r⟩ := asL_ok S rx z
      exact ⟨p, vs, e1, hk ▸ sq, fun d hd => post_tup q2 S r.rev hd⟩
end

/-! ### x = [..] -/
section
variable {X : Cx} {c : Cn} {pos py spos : Pos}
theorem sw_no {elt : Expr} {gs : List Comprehension} {scope : Scope} {y : Str} {l : Nat} {env : PySem.Env} (hy : env.scope.names.lookup y = some .cell) : swapsWith (.ListComp elt gs scope pos) (some (.Name y py)) l env = pure false := by
  have ky : env.kindOf y = some .cell := hy
  unfold swapsWith
  simp only [ky]
  cases env.blockKind <;> rfl
/-- the new list is frozen, or owned -/
def sSetL (i : Nat) (m : En → M (List DV)) : Stm := sSet i (eFrz m)
theorem s_setLc {i : Nat} {y : Str} {elt tg iter : Expr} {ifs : List Expr} {scope : Scope} {own : List (Str × Nat)} {mi : En → M (List DV)} {t : DV → En → Option En} {mt : En → M Bool} {me : En → M DV} {sl : List Nat} (hc : X.calm = true) (hN : X.N.Nodup) (hy : X.N[i]? = some y) (hyl : X.env.scope.names.lookup y = some .local)
    (hsw : swapsWith (.ListComp elt [⟨tg, iter, ifs, 0⟩] scope pos) (some (.Name y py)) spos.line X.env = pure true) (hi : PI X tg iter (RI c mi)) (ok : BlkOk X.N X.env.scope scope own)
    (hg : ∀ (s : Shared) (H : Hp) (C : Addr) (cl : List (Str × Addr)) (fp : List Addr), PG (X.blk s H scope (compEnvC scope cl C X.env) fp) tg (RG c.nx t sl)) (ht : ∀ (s : Shared) (H : Hp) (C : Addr) (cl : List (Str × Addr)) (fp : List Addr), PTs (X.blk s H scope (compEnvC scope cl C X.env) fp) ifs (RT c.nx mt))
    (he : ∀ (s : Shared) (H : Hp) (C : Addr) (cl : List (Str × Addr)) (fp : List Addr), PE (X.blk s H scope (compEnvC scope cl C X.env) fp) elt (RE c.nx me)) (hsl : ∀ k ∈ sl, k ∈ own.map (·.2) := by decide) (hs : ∀ x, foldedSetIterable iter X.env x = pure x := by intro _; rfl) :
    PS X (.Assign [.Name y py] (.ListComp elt [⟨tg, iter, ifs, 0⟩] scope pos) spos) (RS c (sSetO i (mLc (own.map (·.2)) mi t mt me))) := ps_imp (ps_setLc hc hN hy hyl hsw hi ok hg ht he hs) fun D s H q => lc_use hsl (by
  obtain ⟨W, e, h, S0, q⟩ := q
  exact ⟨W, e, h, S0, sb_at S0 q fun W1 H1 l v h1 t S r q2 => q2.nx (S0.setOwn t S r)⟩)
/-- what a statement leaves in slot i is frozen at once -/
theorem s_after {st : Stmt} {i : Nat} {m : En → M (List DV)} (h : PS X st (RS c (sSetO i m))) : PS X st (RS c (sSetL i m)) := ps_imp h fun D s H q => by
  obtain ⟨W, e, h0, S0, q⟩ := q
  refine ⟨W, e, h0, S0, ?_⟩
  unfold sSetL sSet sBind eFrz at q
  unfold sSetO sBind
  rw [M.bind_def] at q
  cases z : m e h0 with
  | ok l h1 =>
    rw [z] at q
    have q2 : PostS c W H (.nx (e.set i (.val (.lst l))) h1) D := q
    intro W' s' H' p S'
    by_cases hi : i < e.length
    rotate_left
    · have e1 : e.set i (.own l) = e := List.set_eq_of_length_le (by omega)
      have e2 : e.set i (.val (.lst l)) = e := List.set_eq_of_length_le (by omega)
      rw [e1] at S'
      rw [e2] at q2
      exact (q2.later p).nx S'
    have fz : RS c (sSeq (sFrz i) sNext) D s' H' := by
      refine ⟨W', _, h1, S', ?_⟩
      unfold sSeq sFrz
      rw [List.getElem?_set_self hi]
      show PostS c W' H' (.nx ((e.set i (.own l)).set i (.val (.lst l))) h1) D
      rw [List.set_set]
      exact q2.later p
    obtain ⟨W2, e2, h2, S2, q3⟩ := frz_use fz
    exact q3.nx S2
  | exc x h1 =>
    rw [z] at q
    exact q
  | bad =>
    rw [z] at q
    exact q
end

/-! ### rules by the place -/
/-- the names of built-ins, not bound by the text -/
structure Blt (mg : Str → Option Value) : Prop where
  len : mg "len" = none
  range : mg "range" = none
  tuple : mg "tuple" = none
  list : mg "list" = none
  int : mg "int" = none
  bool : mg "bool" = none
  str : mg "str" = none
  isinstance : mg "isinstance" = none
  max : mg "max" = none
  min : mg "min" = none
  sum : mg "sum" = none
  zip : mg "zip" = none
  reversed : mg "reversed" = none
  enumerate : mg "enumerate" = none
  sorted : mg "sorted" = none
  set : mg "set" = none
  dict : mg "dict" = none
  ValueError : mg "ValueError" = none
  any : mg "any" = none
  all : mg "all" = none
section
variable {T : Tp} {X : Cx} {c : Cn} {N : List Str} {k : Nat} {sc : Scope} {x : Str} {pos p1 p2 pos2 : Pos} {a b tg : Expr} {ma mb : En → M DV}
theorem XEx.no (h : XEx T X c N k sc) (q : T.mg x = none) : X.mg x = none := by
  rw [h.pm]
  exact q
theorem k_var (h : XEx T X c N k sc) (i : Nat) (hi : N[i]? = some x) (hv : Vis sc x) (hd : (x == ("__debug__" : Str)) = false := by decide) (hcd : (x == ("__classdict__" : Str)) = false := by decide) : PE X (.Name x pos) (RE c (eVar i)) := c_var (h.at hi) (h.vis hv) hd hcd
theorem k_bor (h : XEx T X c N k sc) (i : Nat) (hi : N[i]? = some x) (hv : Vis sc x) (hd : (x == ("__debug__" : Str)) = false := by decide) (hcd : (x == ("__classdict__" : Str)) = false := by decide) : PE X (.Name x pos) (RB c (eBor i)) := c_bor (h.at hi) (h.vis hv) hd hcd
theorem k_set {i : Nat} {ex : Expr} {m : En → M DV} {pos' : Pos} (h : XSt T X c N k sc) (hi : N[i]? = some x) (hx : Loc sc x) (he : PE X ex (RE c m)) (hs : swapsWith ex (some (.Name x pos')) pos.line X.env = pure false := by rfl) : PS X (.Assign [.Name x pos'] ex pos) (RS c (sSet i m)) := s_set h.e.ndX (h.e.at hi) (h.e.loc hx) he hs h.f
theorem k_setO {i : Nat} {ex : Expr} {m : En → M (List DV)} {pos' : Pos} (h : XSt T X c N k sc) (hi : N[i]? = some x) (hx : Loc sc x) (he : PE X ex (RO c m)) (hs : swapsWith ex (some (.Name x pos')) pos.line X.env = pure false := by rfl) : PS X (.Assign [.Name x pos'] ex pos) (RS c (sSetO i m)) := s_setO h.e.ndX (h.e.at hi) (h.e.loc hx) he hs h.f
theorem k_gn {i : Nat} (h : XSt T X c N k sc) (hi : N[i]? = some x) (hx : Loc sc x) : PG X (.Name x pos) (RG c (tName i) [i]) := g_name h.e.ndX (h.e.at hi) (h.e.loc hx) h.f
theorem k_gs {i : Nat} {is : List Nat} {es : List Expr} (h : XSt T X c N k sc) (hi : N[i]? = some x) (hx : Loc sc x) (h2 : PGs X es (RGs c is))
    (hs : (assignEach (.Name x pos :: es) X.env).map (·.2) = assign (.Name x pos) X.env :: (assignEach es X.env).map (·.2) := by rfl) : PGs X (.Name x pos :: es) (RGs c (i :: is)) := gs_cons h.e.ndX (h.e.at hi) (h.e.loc hx) h2 h.f hs
variable {bs : Scope}
theorem XBl.f (h : XBl T X c N k sc bs) (q : bs.names.lookup x = some .cell ∨ sc.names.lookup x = some .local) : X.fn x = true ∨ X.env.scope.names.lookup x = some .local := by
  rw [h.fn, h.e.sc]
  rcases q with q | q
  · left
    show (bs.names.lookup x == some .cell) = true
    rw [q]
    rfl
  · exact .inr q
theorem k_gnB {i : Nat} (h : XBl T X c N k sc bs) (hi : N[i]? = some x) (hx : Loc sc x) (hf : bs.names.lookup x = some .cell ∨ sc.names.lookup x = some .local) : PG X (.Name x pos) (RG c (tName i) [i]) := g_name h.e.ndX (h.e.at hi) (h.e.loc hx) (h.f hf)
theorem k_gsB {i : Nat} {is : List Nat} {es : List Expr} (h : XBl T X c N k sc bs) (hi : N[i]? = some x) (hx : Loc sc x) (hf : bs.names.lookup x = some .cell ∨ sc.names.lookup x = some .local) (h2 : PGs X es (RGs c is))
    (hs : (assignEach (.Name x pos :: es) X.env).map (·.2) = assign (.Name x pos) X.env :: (assignEach es X.env).map (·.2) := by rfl) : PGs X (.Name x pos :: es) (RGs c (i :: is)) := gs_cons h.e.ndX (h.e.at hi) (h.e.loc hx) h2 (h.f hf) hs
theorem k_for {tg iter : Expr} {body : List Stmt} {mi : En → M (List DV)} {t : DV → En → Option En} {sl : List Nat} (fg : List Nat) {bo : Stm} (h : XSt T X c N k sc) (hi : PI X tg iter (RI c mi)) (hg : PG X tg (RG c t sl)) (hb : PSs X body (RS c bo))
    (hs : ∀ x, foldedSetIterable iter X.env x = pure x := by intro _; rfl) : PS X (.For tg iter body [] pos) (RS c (sFor mi t fg bo)) := s_for h.pa h.e.calm hi hg hb hs
theorem k_app {i : Nat} {ex : Expr} {m : En → M DV} {p3 : Pos} (h : XSt T X c N k sc) (hi : N[i]? = some x) (hv : Vis sc x) (he : PE X ex (RE c m)) (hd : (x == ("__debug__" : Str)) = false := by decide) (hcd : (x == ("__classdict__" : Str)) = false := by decide)
    (hst : starEach (ex :: []) X.env = (false, eval ex X.env) :: starEach [] X.env := by rfl)
    (hbase : attributeBase (.Name x p1) "append" X.env (eval (.Name x p1) X.env) = eval (.Name x p1) X.env := by rfl)
    (hfew : ((backTo p3 (starEach (ex :: []) X.env)).all (fun x => !x.1) && (backToKw p3 (keywordEach [] X.env)).all (fun x => x.1.isSome)
      && decide ((ex :: []).length + ([] : List Keyword).length + (if ([] : List Keyword).isEmpty then 0 else 1) < 30)) = true := by rfl)
    (hline : (p2.endLine == p3.line) = true := by rfl)
    (hs : swapsWith (.Call (.Attribute (.Name x p1) "append" p2) [ex] [] p3) none pos.line X.env = pure false := by rfl) :
    PS X (.Expr (.Call (.Attribute (.Name x p1) "append" p2) [ex] [] p3) pos) (RS c (sApp i m)) :=
  s_app (h.e.at hi) (h.e.vis hv) he hd hcd hst (pe_bm PySem.F.plainAttrs_list PySem.F.slot_list_append PySem.F.type_list_append mt_append (pe_var (h.e.at hi) (h.e.vis hv) hd hcd) (pa_cons he pa_nil hst) hbase hfew hline hst rfl) hs
variable {elt iter : Expr} {ifs : List Expr} {scope : Scope} {own : List (Str × Nat)} {mi : En → M (List DV)} {t : DV → En → Option En} {mt : En → M Bool} {me : En → M DV} {sl : List Nat}
theorem k_lc (hX : XEx T X c N k sc) (own : List (Str × Nat)) (hi : PI X tg iter (RI c mi)) (ok : blkC N sc scope own = true)
    (hg : ∀ X', XBl T X' c.nx N k (relS scope sc) scope → PG X' tg (RG c.nx t sl)) (ht : ∀ X', XBl T X' c.nx N k (relS scope sc) scope → PTs X' ifs (RT c.nx mt)) (he : ∀ X', XBl T X' c.nx N k (relS scope sc) scope → PE X' elt (RE c.nx me))
    (hsl : ∀ k ∈ sl, k ∈ own.map (·.2) := by decide) (hs : ∀ x, foldedSetIterable iter X.env x = pure x := by intro _; rfl) :
    PE X (.ListComp elt [⟨tg, iter, ifs, 0⟩] scope pos) (RO c (mLc (own.map (·.2)) mi t mt me)) :=
  c_lc hX.calm hX.ndX hi (by rw [hX.nm, hX.sc]; exact blkOk_by ok) (fun s H C cl fp => hg _ (hX.blk s H scope C cl fp)) (fun s H C cl fp => ht _ (hX.blk s H scope C cl fp)) (fun s H C cl fp => he _ (hX.blk s H scope C cl fp)) hsl hs
theorem k_setLc {i : Nat} {y : Str} {py spos : Pos} (hX : XSt T X c N k sc) (own : List (Str × Nat)) (hy : N[i]? = some y) (hyl : sc.names.lookup y = some .local) (hsw : (py.line == pos.line) = true) (ha : (scope.names.any fun (n, k) => n == y && (k == .local || k == .cell)) = false)
    (hkf : sc.kind = .function) (hi : PI X tg iter (RI c mi)) (ok : blkC N sc scope own = true)
    (hg : ∀ X', XBl T X' c.nx N k (relS scope sc) scope → PG X' tg (RG c.nx t sl)) (ht : ∀ X', XBl T X' c.nx N k (relS scope sc) scope → PTs X' ifs (RT c.nx mt)) (he : ∀ X', XBl T X' c.nx N k (relS scope sc) scope → PE X' elt (RE c.nx me))
    (hsl : ∀ k ∈ sl, k ∈ own.map (·.2) := by decide) (hs : ∀ x, foldedSetIterable iter X.env x = pure x := by intro _; rfl) :
    PS X (.Assign [.Name y py] (.ListComp elt [⟨tg, iter, ifs, 0⟩] scope pos) spos) (RS c (sSetO i (mLc (own.map (·.2)) mi t mt me))) :=
  s_setLc hX.e.calm hX.e.ndX (hX.e.at hy) (by rw [hX.e.sc]; exact hyl) (sw_true (by rw [hX.e.sc]; exact hkf) (by rw [hX.e.sc]; exact hyl) hsw ha) hi (by rw [hX.e.nm, hX.e.sc]; exact blkOk_by ok) (fun s H C cl fp => hg _ (hX.e.blk s H scope C cl fp)) (fun s H C cl fp => ht _ (hX.e.blk s H scope C cl fp)) (fun s H C cl fp => he _ (hX.e.blk s H scope C cl fp)) hsl hs
end
/-- what is walked, from one value, from two -/
def iB {A : Type} (a : En → M DV) (f : DV → M A) : En → M A := fun e => a e >>= f
def iB2 {A : Type} (a b : En → M DV) (f : DV → DV → M A) : En → M A := fun e => a e >>= fun x => b e >>= fun y => f x y
end LM

/-! The end of a law: what the mirror answers is what the law answers. -/
namespace LM
open PySem L2

theorem cx_no {P : Program} {w : World} {H : Hp} {s : Shared} {e : Value} {s' : Shared} (h : L2N.CX P w [] H s (fun _ _ _ => False) e s') : False := by
  obtain ⟨_, _, _, _, _, _, _, _, _, _, _, _, z⟩ := h
  exact z
theorem only_sqS {K : PySem.W.Frag} {H : Hp} {a : Addr} {xs : List V} (h : Only H) (q : SqL K H a xs) : SqS K H a xs := by
  rcases q with (q | q) | q
  · rcases h a with e | ⟨o, ys, e⟩
    · rw [q] at e
      cases e
    · rw [q] at e
      cases e
  · exact .inl q
  · exact .inr q
/-- the law's promise, from its mirror -/
theorem sp_good {g : Glue} {m : List DV → M DV} {H : Hp} {a : Addr} {ns : List Int} (hO : Only H) (hS : SqL g.K H a (ns.map V.int)) (good : ∃ h', m [.scr ns] [] = .ok (.bl true) h') :
    spF g 1 m [.ref a] H (fun v _ => v = .bl true) fun _ _ _ => False := by
  refine ⟨⟨fun _ => False, []⟩, [], [.scr ns], ⟨rfl, List.nodup_nil, fun p o a e => by simp at e, fun b z => z.elim⟩, ?_, rfl, ?_⟩
  · refine Reps.cons ?_ Reps.nil
    simp only [Rep]
    exact ⟨a, rfl, only_sqS hO hS⟩
  · obtain ⟨h', e⟩ := good
    unfold PostF
    rw [e]
    intro W' H' v _ _ r
    simpa only [Rep] using r
theorem end_of {l : PySem.W.OpenLaw} {k : Nat} {q : Program} {loose : List Str} {XP : (Str → Option Value) → Heap → Prop} {d : DefRec} {x : Str} {fa : List He.Fa} {fn : List He.DefD} {nb : Nat} {gl : PySem.W.Frag → Glue} {m : List DV → M DV}
    (hn : l.most = some 63) (hdf : d.params.defaults = []) (hd : d.name = ("law" : Str)) (hr : Room k callerA) (hK : ∀ K, (gl K).K = K)
    (hF : ∀ (w : World) (mg : Str → Option Value) (h : Heap) (K : PySem.W.Frag), K.In h → h.Ns mainGlobals mg → He.SaysD fa fn K → mg "law" = some (.ref (He.ga K "law")) ∧
      ∃ fd, (∀ (s : Shared) (u : Value), BindsTo s fd ⟨[u], []⟩ [(x, u)]) ∧ ∀ base : Heap, K.In base → base.Ns mainGlobals mg → FnOk l.prog w K mg base (L2N.CX l.prog w) k (He.ga K "law") fd [x] (spF (gl K) 1 m))
    (good : ∀ ns : List Int, ns.length ≤ 63 → (∀ k ∈ ns, Builtin.Int.intBits k ≤ 1048576) → ∃ h', m [.scr ns] [] = .ok (.bl true) h') :
    PySem.W.WalkO q loose XP (He.hookD nb fa fn).says l.row.toRowW d [] (fun f vs => PySem.call f vs) := by
  refine Att.attach_callB hn hdf fun w s₀ s₁ mg mb f o pm cd doc a vs ns G Y ho hd2 hcd hmg hobj hints hlen hbits hg => ?_
  obtain ⟨K, KX, c⟩ := Y
  rw [hd] at hmg
  obtain ⟨e, fd, hb, hf⟩ := hF w mg _ K KX G.T.g c
  rw [e] at hmg
  cases hmg
  refine law_call KX G.T.g G.T.b G.T.builtins G.T.nolimit hg hobj hints (Nat.le_trans hlen (by decide +kernel)) hr (fun base h1 h2 => hf base h1 h2) hb (fun H hO hS => ?_) fun H e2 s2 z => cx_no z
  exact sp_good hO (by rw [hK]; exact hS) (good ns hlen hbits)
end LM

/-! What the mirror answers, step by step: rules for simp. -/
namespace LM
open PySem L2

section
variable {A B : Type}
def bR (r : Res A) (k : A → HP → Res B) : Res B := match r with
  | .ok a h => k a h
  | .exc x h => .exc x h
  | .bad => .bad
@[simp] theorem bR_ok (a : A) (h : HP) (k : A → HP → Res B) : bR (.ok a h) k = k a h := rfl
@[simp] theorem bR_exc (x : Ex) (h : HP) (k : A → HP → Res B) : bR (.exc x h) k = .exc x h := rfl
@[simp] theorem bR_bad (k : A → HP → Res B) : bR .bad k = .bad := rfl
@[simp] theorem bR_ite {c : Prop} [Decidable c] (r s : Res A) (k : A → HP → Res B) : bR (if c then r else s) k = if c then bR r k else bR s k := by split <;> rfl
@[simp] theorem bind_app (m : M A) (k : A → M B) (h : HP) : (m >>= k) h = bR (m h) fun a h' => k a h' := rfl
@[simp] theorem pure_app (a : A) (h : HP) : (Pure.pure a : M A) h = .ok a h := rfl
@[simp] theorem bad_app (h : HP) : (M.bad : M A) h = .bad := rfl
@[simp] theorem ite_app {c : Prop} [Decidable c] (m n : M A) (h : HP) : (if c then m else n) h = if c then m h else n h := by split <;> rfl
def uR (r : Res A) (e : En) (k : A → Stm) : SRes := match r with
  | .ok a h => k a e h
  | .exc x h => .exc x e h
  | .bad => .bad
@[simp] theorem uR_ok (a : A) (h : HP) (e : En) (k : A → Stm) : uR (.ok a h) e k = k a e h := rfl
@[simp] theorem uR_exc (x : Ex) (h : HP) (e : En) (k : A → Stm) : uR (.exc x h) e k = .exc x e h := rfl
@[simp] theorem uR_bad (e : En) (k : A → Stm) : uR .bad e k = .bad := rfl
@[simp] theorem uR_ite {c : Prop} [Decidable c] (r s : Res A) (e : En) (k : A → Stm) : uR (if c then r else s) e k = if c then uR r e k else uR s e k := by split <;> rfl
@[simp] theorem sBind_app (m : En → M A) (k : A → Stm) (e : En) (h : HP) : sBind m k e h = uR (m e h) e k := rfl
end
def qR (r : SRes) (k : Stm) : SRes := match r with
  | .nx e h => k e h
  | r => r
@[simp] theorem qR_nx (e : En) (h : HP) (k : Stm) : qR (.nx e h) k = k e h := rfl
@[simp] theorem qR_rt (d : DV) (h : HP) (k : Stm) : qR (.rt d h) k = .rt d h := rfl
@[simp] theorem qR_bk (e : En) (h : HP) (k : Stm) : qR (.bk e h) k = .bk e h := rfl
@[simp] theorem qR_ct (e : En) (h : HP) (k : Stm) : qR (.ct e h) k = .ct e h := rfl
@[simp] theorem qR_exc (x : Ex) (e : En) (h : HP) (k : Stm) : qR (.exc x e h) k = .exc x e h := rfl
@[simp] theorem qR_bad (k : Stm) : qR .bad k = .bad := rfl
theorem qR_ite {c : Prop} [Decidable c] (r s : SRes) (k : Stm) : qR (if c then r else s) k = if c then qR r k else qR s k := by split <;> rfl
def fR : SRes → Res DV
  | .nx _ h' => .ok .non h'
  | .rt d h' => .ok d h'
  | .exc x _ h' => .exc x h'
  | _ => .bad
@[simp] theorem fR_nx (e : En) (h : HP) : fR (.nx e h) = .ok .non h := rfl
@[simp] theorem fR_rt (d : DV) (h : HP) : fR (.rt d h) = .ok d h := rfl
@[simp] theorem fR_exc (x : Ex) (e : En) (h : HP) : fR (.exc x e h) = .exc x h := rfl
@[simp] theorem fR_bad : fR .bad = .bad := rfl
theorem fR_ite {c : Prop} [Decidable c] (r s : SRes) : fR (if c then r else s) = if c then fR r else fR s := by split <;> rfl
theorem fnM_app (N : Nat) (b : Stm) (ds : List DV) (h : HP) : fnM N b ds h = fR (b (ds.map .val ++ List.replicate (N - ds.length) .none) h) := by
  unfold fnM fR
  rfl
@[simp] theorem sSeq_app (a b : Stm) (e : En) (h : HP) : sSeq a b e h = qR (a e h) b := by
  unfold sSeq qR
  rfl
@[simp] theorem sNext_app (e : En) (h : HP) : sNext e h = .nx e h := rfl
@[simp] theorem sSet_app (i : Nat) (m : En → M DV) (e : En) (h : HP) : sSet i m e h = uR (m e h) e fun d e h => .nx (e.set i (.val d)) h := rfl
@[simp] theorem sSetO_app (i : Nat) (m : En → M (List DV)) (e : En) (h : HP) : sSetO i m e h = uR (m e h) e fun d e h => .nx (e.set i (.own d)) h := rfl
@[simp] theorem sSetL_app (i : Nat) (m : En → M (List DV)) (e : En) (h : HP) : sSetL i m e h = uR (m e h) e fun d e h => .nx (e.set i (.val (.lst d))) h := by
  unfold sSetL sSet eFrz
  rw [sBind_app, bind_app]
  cases m e h <;> rfl
@[simp] theorem sRet_app (m : En → M DV) (e : En) (h : HP) : sRet m e h = uR (m e h) e fun d _ h => .rt d h := rfl
@[simp] theorem sRetN_app (e : En) (h : HP) : sRetN e h = .rt .non h := rfl
@[simp] theorem sExpr_app (m : En → M DV) (e : En) (h : HP) : sExpr m e h = uR (m e h) e fun _ e h => .nx e h := rfl
@[simp] theorem sIf_app (t : En → M Bool) (a b : Stm) (e : En) (h : HP) : sIf t a b e h = uR (t e h) e fun x e h => if x then a e h else b e h := rfl
@[simp] theorem sFor_app (mi : En → M (List DV)) (t : DV → En → Option En) (fg : List Nat) (b : Stm) (e : En) (h : HP) : sFor mi t fg b e h = uR (mi e h) e fun ds e h => forL t b fg ds (wipeE e fg) h := rfl
def slO (o : Option Slot) (k : List DV → SRes) : SRes := match o with
  | some (.own l) => k l
  | _ => .bad
@[simp] theorem slO_own (l : List DV) (k : List DV → SRes) : slO (some (.own l)) k = k l := rfl
@[simp] theorem sApp_app (i : Nat) (m : En → M DV) (e : En) (h : HP) : sApp i m e h = slO e[i]? fun l => uR (m e h) e fun d _ h' => if l.length < LN then .nx (e.set i (.own (l ++ [d]))) h' else .bad := by
  unfold sApp
  cases e[i]? with
  | none => rfl
  | some x =>
    cases x with
    | own l =>
      simp only [slO_own]
      cases m e h <;> rfl
    | _ => rfl
def slF (o : Option Slot) (e : En) (i : Nat) (h : HP) : SRes := match o with
  | some (.own l) => .nx (e.set i (.val (.lst l))) h
  | some (.val _) => .nx e h
  | _ => .bad
@[simp] theorem slF_own (l : List DV) (e : En) (i : Nat) (h : HP) : slF (some (.own l)) e i h = .nx (e.set i (.val (.lst l))) h := rfl
@[simp] theorem slF_val (d : DV) (e : En) (i : Nat) (h : HP) : slF (some (.val d)) e i h = .nx e h := rfl
@[simp] theorem sFrz_app (i : Nat) (e : En) (h : HP) : sFrz i e h = slF e[i]? e i h := rfl
/-! ### expressions -/
def slV (o : Option Slot) (h : HP) : Res DV := match o with
  | some (.val d) => .ok d h
  | _ => .bad
@[simp] theorem slV_val (d : DV) (h : HP) : slV (some (.val d)) h = .ok d h := rfl
@[simp] theorem eVar_app (i : Nat) (e : En) (h : HP) : eVar i e h = slV e[i]? h := rfl
def slB (o : Option Slot) (h : HP) : Res DV := match o with
  | some (.val d) => .ok d h
  | some (.own l) => .ok (.lst l) h
  | some (.dic ks l) => .ok (.dct ks l) h
  | _ => .bad
@[simp] theorem slB_val (d : DV) (h : HP) : slB (some (.val d)) h = .ok d h := rfl
@[simp] theorem slB_own (l : List DV) (h : HP) : slB (some (.own l)) h = .ok (.lst l) h := rfl
@[simp] theorem eBor_app (i : Nat) (e : En) (h : HP) : eBor i e h = slB e[i]? h := rfl
@[simp] theorem eC_app (d : DV) (e : En) (h : HP) : eC d e h = .ok d h := rfl
@[simp] theorem e1_app (p : DV → M DV) (a : En → M DV) (e : En) (h : HP) : e1 p a e h = bR (a e h) fun x h => p x h := rfl
@[simp] theorem e2_app (p : DV → DV → M DV) (a b : En → M DV) (e : En) (h : HP) : e2 p a b e h = bR (a e h) fun x h => bR (b e h) fun y h => p x y h := rfl
def b3 (d : DV) (h : HP) (m : Res DV) : Res DV := match d with
  | .bl true => m
  | .bl false => .ok (.bl false) h
  | _ => .bad
@[simp] theorem b3_t (h : HP) (m : Res DV) : b3 (.bl true) h m = m := rfl
@[simp] theorem b3_f (h : HP) (m : Res DV) : b3 (.bl false) h m = .ok (.bl false) h := rfl
@[simp] theorem b3_d {c : Prop} [Decidable c] (h : HP) (m : Res DV) : b3 (.bl (decide c)) h m = if c then m else .ok (.bl false) h := by
  by_cases z : c <;> simp [z]
@[simp] theorem e3c_app (p r : DV → DV → M DV) (a b z : En → M DV) (e : En) (h : HP) : e3c p r a b z e h = bR (a e h) fun x h => bR (b e h) fun y h => bR (p x y h) fun t h => b3 t h (bR (z e h) fun u h => r y u h) := by
  unfold e3c
  simp only [bind_app]
  congr 1
  funext x h
  congr 1
  funext y h
  congr 1
  funext t h
  cases t with
  | bl u => cases u <;> rfl
  | _ => rfl
@[simp] theorem aNil_app (e : En) (h : HP) : aNil e h = .ok [] h := rfl
@[simp] theorem aCons_app (m : En → M DV) (ms : En → M (List DV)) (e : En) (h : HP) : aCons m ms e h = bR (m e h) fun x h => bR (ms e h) fun xs h => .ok (x :: xs) h := rfl
@[simp] theorem iB_app {A : Type} (a : En → M DV) (f : DV → M A) (e : En) (h : HP) : iB a f e h = bR (a e h) fun x h => f x h := rfl
@[simp] theorem iB2_app {A : Type} (a b : En → M DV) (f : DV → DV → M A) (e : En) (h : HP) : iB2 a b f e h = bR (a e h) fun x h => bR (b e h) fun y h => f x y h := rfl
@[simp] theorem eTup_app (ms : En → M (List DV)) (e : En) (h : HP) : eTup ms e h = bR (ms e h) fun l h => .ok (.tup l) h := rfl
@[simp] theorem eFrz_app (ms : En → M (List DV)) (e : En) (h : HP) : eFrz ms e h = bR (ms e h) fun l h => .ok (.lst l) h := rfl
@[simp] theorem eCall_app (m : List DV → M DV) (ms : En → M (List DV)) (e : En) (h : HP) : eCall m ms e h = bR (ms e h) fun l h => m l h := rfl
@[simp] theorem eCut_app (m : En → M DV) (lo hi : En → M (Option Int)) (e : En) (h : HP) : eCut m lo hi e h = bR (m e h) fun x h => bR (lo e h) fun l h => bR (hi e h) fun u h => vCut x l u h := rfl
@[simp] theorem oNone_app (e : En) (h : HP) : oNone e h = .ok none h := rfl
def oI (d : DV) (h : HP) : Res (Option Int) := match d with
  | .int i => .ok (some i) h
  | _ => .bad
@[simp] theorem oI_int (i : Int) (h : HP) : oI (.int i) h = .ok (some i) h := rfl
@[simp] theorem oSome_app (m : En → M DV) (e : En) (h : HP) : oSome m e h = bR (m e h) fun d h => oI d h := by
  unfold oSome
  rw [bind_app]
  congr 1
  funext d h
  cases d <;> rfl
@[simp] theorem eAnd_app (a b : En → M DV) (e : En) (h : HP) : eAnd a b e h = bR (a e h) fun t h => b3 t h (b e h) := by
  unfold eAnd
  rw [bind_app]
  congr 1
  funext d h
  cases d with
  | bl u => cases u <;> rfl
  | _ => rfl
def b4 (d : DV) (h : HP) (m : Res DV) : Res DV := match d with
  | .bl true => .ok (.bl true) h
  | .bl false => m
  | _ => .bad
@[simp] theorem b4_t (h : HP) (m : Res DV) : b4 (.bl true) h m = .ok (.bl true) h := rfl
@[simp] theorem b4_f (h : HP) (m : Res DV) : b4 (.bl false) h m = m := rfl
@[simp] theorem b4_d {c : Prop} [Decidable c] (h : HP) (m : Res DV) : b4 (.bl (decide c)) h m = if c then .ok (.bl true) h else m := by
  by_cases z : c <;> simp [z]
@[simp] theorem eOr_app (a b : En → M DV) (e : En) (h : HP) : eOr a b e h = bR (a e h) fun t h => b4 t h (b e h) := by
  unfold eOr
  rw [bind_app]
  congr 1
  funext d h
  cases d with
  | bl u => cases u <;> rfl
  | _ => rfl
@[simp] theorem tb_app (m : En → M DV) (e : En) (h : HP) : tb m e h = bR (m e h) fun x h => asB x h := rfl
@[simp] theorem tAnd_app (a b : En → M Bool) (e : En) (h : HP) : tAnd a b e h = bR (a e h) fun x h => if x then b e h else .ok false h := by
  unfold tAnd
  rw [bind_app]
  congr 1
  funext d h
  cases d <;> rfl
@[simp] theorem tOr_app (a b : En → M Bool) (e : En) (h : HP) : tOr a b e h = bR (a e h) fun x h => if x then .ok true h else b e h := by
  unfold tOr
  rw [bind_app]
  congr 1
  funext d h
  cases d <;> rfl
@[simp] theorem tNot_app (a : En → M Bool) (e : En) (h : HP) : tNot a e h = bR (a e h) fun x h => .ok (!x) h := rfl
@[simp] theorem asB_bl (b : Bool) (h : HP) : asB (.bl b) h = .ok b h := rfl
/-! ### values -/
/-- numbers as data -/
def nums (l : List Int) : List DV := l.map DV.int
@[simp] theorem nums_nil : nums [] = [] := rfl
@[simp] theorem nums_cons (x : Int) (l : List Int) : nums (x :: l) = .int x :: nums l := rfl
@[simp] theorem nums_app (l m : List Int) : nums (l ++ m) = nums l ++ nums m := List.map_append
@[simp] theorem nums_len (l : List Int) : (nums l).length = l.length := List.length_map _
@[simp] theorem nums_rev (l : List Int) : (nums l).reverse = nums l.reverse := List.map_reverse.symm
@[simp] theorem nums_drop (l : List Int) (k : Nat) : (nums l).drop k = nums (l.drop k) := List.map_drop.symm
@[simp] theorem nums_take (l : List Int) (k : Nat) : (nums l).take k = nums (l.take k) := List.map_take.symm
@[simp] theorem nums_last (l : List Int) : (nums l).dropLast = nums l.dropLast := List.map_dropLast.symm
theorem nums_at {l : List Int} {k : Nat} (h : k < l.length) : (nums l)[k]? = some (.int (l.getD k 0)) := by
  unfold nums
  simp [h]
theorem nums_map {A : Type} (f : A → Int) (l : List A) : nums (l.map f) = l.map fun x => DV.int (f x) := by
  unfold nums
  rw [List.map_map]
  rfl
theorem nums_inj {l m : List Int} : nums l = nums m ↔ l = m := by
  constructor
  · exact fun h => (List.map_inj_right (fun _ _ e => by cases e; rfl)).mp h
  · exact fun h => by rw [h]
section
variable (h : HP) (i j : Int) (a b : Bool) (s t : Str) (l m : List DV)
@[simp] theorem vAdd_int : vAdd (.int i) (.int j) h = .ok (.int (i + j)) h := rfl
@[simp] theorem vAdd_tup (q : l.length + m.length ≤ LN) : vAdd (.tup l) (.tup m) h = .ok (.tup (l ++ m)) h := by
  simp only [vAdd]
  rw [if_pos q]
  rfl
@[simp] theorem vAdd_lst (q : l.length + m.length ≤ LN) : vAdd (.lst l) (.lst m) h = .ok (.lst (l ++ m)) h := by
  simp only [vAdd]
  rw [if_pos q]
  rfl
@[simp] theorem lAdd_lst (q : l.length + m.length ≤ LN) : lAdd (.lst l) (.lst m) h = .ok (l ++ m) h := by
  simp only [lAdd]
  rw [if_pos q]
  rfl
@[simp] theorem vSub_int : vSub (.int i) (.int j) h = .ok (.int (i - j)) h := rfl
@[simp] theorem vMul_int (q : mulOk i j = true) : vMul (.int i) (.int j) h = .ok (.int (i * j)) h := by
  simp only [vMul]
  rw [if_pos q]
  rfl
theorem mulOk_r (q1 : -1000000000000 ≤ j) (q2 : j ≤ 1000000000000) : mulOk i j = true := by
  unfold mulOk
  rw [decide_eq_true (show -(2 ^ 64) < j by omega), decide_eq_true (show j < 2 ^ 64 by omega)]
  simp
theorem mulOk_l (q1 : -1000000000000 ≤ i) (q2 : i ≤ 1000000000000) : mulOk i j = true := by
  unfold mulOk
  rw [decide_eq_true (show -(2 ^ 64) < i by omega), decide_eq_true (show i < 2 ^ 64 by omega)]
  simp
@[simp] theorem vDiv_int (q : 0 < j) (q2 : j < 1073741824) : vDiv (.int i) (.int j) h = .ok (.int (i / j)) h := by
  simp only [vDiv, decide_eq_true q, decide_eq_true q2]
  rfl
@[simp] theorem vMod_int (q : 0 < j) : vMod (.int i) (.int j) h = .ok (.int (i % j)) h := by
  simp only [vMod]
  rw [if_pos q]
  rfl
@[simp] theorem vNeg_int : vNeg (.int i) h = .ok (.int (-i)) h := rfl
@[simp] theorem vLt_int : vLt (.int i) (.int j) h = .ok (.bl (decide (i < j))) h := rfl
@[simp] theorem vLe_int : vLe (.int i) (.int j) h = .ok (.bl (decide (i ≤ j))) h := rfl
@[simp] theorem vGt_int : vGt (.int i) (.int j) h = .ok (.bl (decide (j < i))) h := rfl
@[simp] theorem vGe_int : vGe (.int i) (.int j) h = .ok (.bl (decide (j ≤ i))) h := rfl
@[simp] theorem vNot_bl : vNot (.bl a) h = .ok (.bl (!a)) h := rfl
@[simp] theorem vIsN_non : vIsN .non h = .ok (.bl true) h := rfl
@[simp] theorem vNotN_non : vNotN .non h = .ok (.bl false) h := rfl
@[simp] theorem vIsN_any (d : DV) : vIsN d h = .ok (.bl (isNon d)) h := rfl
@[simp] theorem vNotN_any (d : DV) : vNotN d h = .ok (.bl (!isNon d)) h := rfl
@[simp] theorem isNon_non : isNon .non = true := rfl
@[simp] theorem isNon_int : isNon (.int i) = false := rfl
@[simp] theorem isNon_tup : isNon (.tup l) = false := rfl
@[simp] theorem isNon_lst : isNon (.lst l) = false := rfl
@[simp] theorem isNon_str : isNon (.str s) = false := rfl
@[simp] theorem isNon_bl : isNon (.bl a) = false := rfl
@[simp] theorem vInt_int : vInt (.int i) h = .ok (.int i) h := rfl
@[simp] theorem vInt_bl : vInt (.bl a) h = .ok (.int (if a then 1 else 0)) h := rfl
@[simp] theorem vMax_int : vMax (.int i) (.int j) h = .ok (.int (if j > i then j else i)) h := rfl
@[simp] theorem vMin_int : vMin (.int i) (.int j) h = .ok (.int (if j < i then j else i)) h := rfl
@[simp] theorem vLen_tup : vLen (.tup l) h = .ok (.int l.length) h := rfl
@[simp] theorem vLen_lst : vLen (.lst l) h = .ok (.int l.length) h := rfl
@[simp] theorem vLen_scr (ns : List Int) : vLen (.scr ns) h = .ok (.int ns.length) h := by
  show Res.ok (DV.int ((nums ns).length : Nat)) h = _
  rw [nums_len]
@[simp] theorem vTup_tup : vTup (.tup l) h = .ok (.tup l) h := rfl
@[simp] theorem vTup_lst : vTup (.lst l) h = .ok (.tup l) h := rfl
@[simp] theorem lLst_tup : lLst (.tup l) h = .ok l h := rfl
@[simp] theorem lLst_lst : lLst (.lst l) h = .ok l h := rfl
@[simp] theorem vTupRev_lst : vTupRev (.lst l) h = .ok (.tup l.reverse) h := rfl
@[simp] theorem vSum_ints (ns : List Int) : vSum (.lst (nums ns)) h = .ok (.int ns.sum) h := by
  show (match asInts (ns.map DV.int) with
    | some ns => Res.ok (DV.int ns.sum) h
    | none => .bad) = _
  rw [asInts_ints]
@[simp] theorem vIsI_int : vIsI .int (.int i) h = .ok (.bl true) h := rfl
@[simp] theorem vIsI_intb : vIsI .bool (.int i) h = .ok (.bl false) h := rfl
@[simp] theorem vIsI_tup : vIsI .tuple (.tup l) h = .ok (.bl true) h := rfl
@[simp] theorem vIsI_lst : vIsI .list (.lst l) h = .ok (.bl true) h := rfl
@[simp] theorem vIsI_any (T : Ty) (d : DV) {t : Ty} (q : tyD h d = some t) : vIsI T d h = .ok (.bl (t.is T)) h := by
  unfold vIsI
  rw [q]
theorem atI_nat {A : Type} (l : List A) (k : Nat) : atI l (k : Int) = l[k]? := by
  unfold atI ixN
  rw [if_pos (Int.natCast_nonneg k)]
  by_cases z : k < l.length
  · rw [if_pos (by omega)]
    simp
  · rw [if_neg (by omega), List.getElem?_eq_none (by omega)]
    rfl
theorem getI_nat (k : Nat) {d : DV} (q : l[k]? = some d) : getI l (k : Int) h = .ok d h := by
  unfold getI
  rw [atI_nat, q]
  rfl
@[simp] theorem vIdx_tup : vIdx (.tup l) (.int i) h = getI l i h := rfl
@[simp] theorem vIdx_lst : vIdx (.lst l) (.int i) h = getI l i h := rfl
@[simp] theorem vIdx_scr (ns : List Int) : vIdx (.scr ns) (.int i) h = getI (nums ns) i h := rfl
@[simp] theorem vCut_tup (lo hi : Option Int) : vCut (.tup l) lo hi h = .ok (.tup (cutD l lo hi)) h := rfl
@[simp] theorem vCut_lst (lo hi : Option Int) : vCut (.lst l) lo hi h = .ok (.lst (cutD l lo hi)) h := rfl
@[simp] theorem itS_tup : itS (.tup l) h = .ok l h := rfl
@[simp] theorem itS_lst : itS (.lst l) h = .ok l h := rfl
@[simp] theorem itS_scr (ns : List Int) : itS (.scr ns) h = .ok (nums ns) h := rfl
@[simp] theorem itR_tup : itR (.tup l) h = .ok l.reverse h := rfl
@[simp] theorem itR_lst : itR (.lst l) h = .ok l.reverse h := rfl
@[simp] theorem itN_nat (n : Nat) (q : n ≤ 16777216) : itN (.int (n : Int)) h = .ok (rng n) h := by
  simp only [itN]
  rw [decide_eq_true (show (-16777216 : Int) ≤ n by omega), decide_eq_true (show (n : Int) ≤ 16777216 by omega)]
  rfl
theorem itN_int (q1 : 0 ≤ i) (q2 : i ≤ 16777216) : itN (.int i) h = .ok (rng i.toNat) h := by
  simp only [itN]
  rw [decide_eq_true (show (-16777216 : Int) ≤ i by omega), decide_eq_true q2]
  rfl
@[simp] theorem itZ_tup : itZ (.tup l) (.tup m) h = .ok (zipD l m) h := rfl
@[simp] theorem itZ_lst : itZ (.lst l) (.lst m) h = .ok (zipD l m) h := rfl
end
theorem sx_nat (n d k : Nat) : sx n d (some (k : Int)) = min k n := by
  show (if (k : Int) < 0 then ((k : Int) + n).toNat else min (k : Int).toNat n) = _
  rw [if_neg (by omega)]
  rfl
theorem cut_from (l : List DV) (k : Nat) : cutD l (some (k : Int)) none = l.drop k := by
  unfold cutD
  have e1 : sx l.length l.length none = l.length := rfl
  rw [e1, sx_nat]
  by_cases z : k ≤ l.length
  · rw [Nat.min_eq_left z]
    exact List.take_of_length_le (by rw [List.length_drop]; omega)
  · rw [Nat.min_eq_right (by omega), List.drop_eq_nil_of_le (Nat.le_refl _), List.drop_eq_nil_of_le (by omega : l.length ≤ k), List.take_nil]
theorem cut_to (l : List DV) (k : Nat) : cutD l none (some (k : Int)) = l.take k := by
  unfold cutD
  have e1 : sx l.length 0 none = 0 := rfl
  rw [e1, sx_nat, List.drop_zero, Nat.sub_zero]
  by_cases z : k ≤ l.length
  · rw [Nat.min_eq_left z]
  · rw [Nat.min_eq_right (by omega), List.take_of_length_le (Nat.le_refl _), List.take_of_length_le (by omega)]
theorem cut_last (l : List DV) : cutD l none (some (-1)) = l.dropLast := by
  unfold cutD
  have e1 : sx l.length 0 none = 0 := rfl
  have e2 : sx l.length l.length (some (-1)) = l.length - 1 := by
    show (if (-1 : Int) < 0 then ((-1 : Int) + (l.length : Nat)).toNat else min (-1 : Int).toNat l.length) = _
    rw [if_pos (by omega)]
    omega
  rw [e1, e2, List.drop_zero, Nat.sub_zero, List.dropLast_eq_take]
/-! ### equality -/
theorem toPDs_some : ∀ {l : List DV} {r : List PyData}, toPDs l = some r → r.length = l.length
  | [], _, e => by
    simp only [toPDs] at e
    cases e
    rfl
  | d :: ds, _, e => by
    unfold toPDs at e
    cases a : toPD d with
    | none =>
      rw [a] at e
      cases e
    | some x =>
      cases b : toPDs ds with
      | none =>
        rw [a, b] at e
        cases e
      | some r =>
        rw [a, b] at e
        cases e
        rw [List.length_cons, List.length_cons, toPDs_some b]
mutual
theorem eqv_self : ∀ {d : PyData}, d.canLay0 = true → PyData.eqv d d = true
  | .none, _ => rfl
  | .bool b, _ => by simp [PyData.eqv]
  | .int i, _ => by simp [PyData.eqv]
  | .str s, _ => by simp [PyData.eqv]
  | .list l, q => by
    unfold PyData.eqv
    exact eqvAll_self (by unfold PyData.canLay0 at q; exact q)
  | .tuple l, q => by
    unfold PyData.eqv
    exact eqvAll_self (by unfold PyData.canLay0 at q; exact q)
  | .dict _, q => by
    unfold PyData.canLay0 at q
    cases q
theorem eqvAll_self : ∀ {l : List PyData}, PyData.canLayAll0 l = true → PyData.eqvAll l l = true
  | [], _ => rfl
  | x :: r, q => by
    unfold PyData.eqvAll
    unfold PyData.canLayAll0 at q
    obtain ⟨a, b⟩ := Bool.and_eq_true_iff.mp q
    rw [eqv_self a, eqvAll_self b]
    rfl
end
/-- may be compared -/
def okD (d : DV) : Bool := match toPD d with
  | some x => SeqAt.shaped x
  | none => false
theorem eqD_self {d : DV} (q : okD d = true) : eqD d d = some true := by
  unfold okD at q
  unfold eqD
  cases z : toPD d with
  | none =>
    rw [z] at q
    cases q
  | some x =>
    rw [z] at q
    simp only [] at q
    simp only []
    rw [q, if_pos (by rfl), eqv_self (SeqAt.canLay_of_shaped q)]
theorem vEq_self {d : DV} (h : HP) (q : okD d = true) : vEq d d h = .ok (.bl true) h := by
  unfold vEq
  rw [eqD_self q]
  try rfl
theorem vNe_self {d : DV} (h : HP) (q : okD d = true) : vNe d d h = .ok (.bl false) h := by
  unfold vNe
  rw [eqD_self q]
  try rfl
@[simp] theorem vEq_int (h : HP) (i j : Int) : vEq (.int i) (.int j) h = .ok (.bl (decide (i = j))) h := by
  show Res.ok (DV.bl (i == j)) h = Res.ok (DV.bl (decide (i = j))) h
  congr 2
@[simp] theorem vNe_int (h : HP) (i j : Int) : vNe (.int i) (.int j) h = .ok (.bl (!decide (i = j))) h := by
  show Res.ok (DV.bl (!(i == j))) h = _
  congr 3
theorem toPDs_ints (l : List Int) : toPDs (nums l) = some (l.map PyData.int) := by
  induction l with
  | nil => rfl
  | cons x r ih =>
    show (match toPD (DV.int x), toPDs (nums r) with
      | some x, some r => some (x :: r)
      | _, _ => none) = _
    rw [ih]
    rfl
theorem lay_ints (l : List Int) : PyData.canLayAll0 (l.map PyData.int) = true := by
  induction l with
  | nil => rfl
  | cons x r ih =>
    rw [List.map_cons]
    unfold PyData.canLayAll0
    rw [ih]
    rfl
theorem dep_ints (l : List Int) : PyData.depthAll (l.map PyData.int) = 0 := by
  induction l with
  | nil => rfl
  | cons x r ih =>
    rw [List.map_cons]
    unfold PyData.depthAll
    rw [ih]
    rfl
theorem eqv_ints (l m : List Int) : PyData.eqvAll (l.map PyData.int) (m.map PyData.int) = decide (l = m) := by
  induction l generalizing m with
  | nil => cases m <;> rfl
  | cons x r ih =>
    cases m with
    | nil => rfl
    | cons y t =>
      rw [List.map_cons, List.map_cons]
      unfold PyData.eqvAll
      rw [ih]
      show ((x == y) && decide (r = t)) = decide (x :: r = y :: t)
      by_cases a : x = y
      · by_cases b : r = t
        · simp [a, b]
        · simp [a, b]
      · simp [a]
theorem sh_tup (l : List Int) : SeqAt.shaped (.tuple (l.map PyData.int)) = true := by
  unfold SeqAt.shaped PyData.canLay0 PyData.depth
  rw [lay_ints, dep_ints]
  rfl
theorem sh_lst (l : List Int) : SeqAt.shaped (.list (l.map PyData.int)) = true := by
  unfold SeqAt.shaped PyData.canLay0 PyData.depth
  rw [lay_ints, dep_ints]
  rfl
theorem toPD_tup (l : List Int) : toPD (.tup (nums l)) = some (.tuple (l.map PyData.int)) := by
  unfold toPD
  rw [toPDs_ints]
theorem toPD_lst (l : List Int) : toPD (.lst (nums l)) = some (.list (l.map PyData.int)) := by
  unfold toPD
  rw [toPDs_ints]
theorem okD_tup (l : List Int) : okD (.tup (nums l)) = true := by
  unfold okD
  rw [toPD_tup]
  exact sh_tup l
theorem okD_lst (l : List Int) : okD (.lst (nums l)) = true := by
  unfold okD
  rw [toPD_lst]
  exact sh_lst l
theorem eqD_tup (l m : List Int) : eqD (.tup (nums l)) (.tup (nums m)) = some (decide (l = m)) := by
  unfold eqD
  rw [toPD_tup, toPD_tup]
  show (if (SeqAt.shaped _ && SeqAt.shaped _) = true then _ else _) = _
  rw [sh_tup, sh_tup, if_pos (by rfl)]
  unfold PyData.eqv
  rw [eqv_ints]
theorem eqD_lst (l m : List Int) : eqD (.lst (nums l)) (.lst (nums m)) = some (decide (l = m)) := by
  unfold eqD
  rw [toPD_lst, toPD_lst]
  show (if (SeqAt.shaped _ && SeqAt.shaped _) = true then _ else _) = _
  rw [sh_lst, sh_lst, if_pos (by rfl)]
  unfold PyData.eqv
  rw [eqv_ints]
theorem vEq_tup (h : HP) (l m : List Int) : vEq (.tup (nums l)) (.tup (nums m)) h = .ok (.bl (decide (l = m))) h := by
  unfold vEq
  rw [eqD_tup]
  rfl
theorem vNe_tup (h : HP) (l m : List Int) : vNe (.tup (nums l)) (.tup (nums m)) h = .ok (.bl (!decide (l = m))) h := by
  unfold vNe
  rw [eqD_tup]
  rfl
theorem vNe_tup0 (h : HP) (l : List Int) : vNe (.tup (nums l)) (.tup []) h = .ok (.bl (!decide (l = []))) h := vNe_tup h l []
theorem vEq_lst (h : HP) (l m : List Int) : vEq (.lst (nums l)) (.lst (nums m)) h = .ok (.bl (decide (l = m))) h := by
  unfold vEq
  rw [eqD_lst]
  rfl
theorem vNe_lst (h : HP) (l m : List Int) : vNe (.lst (nums l)) (.lst (nums m)) h = .ok (.bl (!decide (l = m))) h := by
  unfold vNe
  rw [eqD_lst]
  rfl

/-! ### loops -/
/-- what one turn of a comprehension gives -/
def lcOne (t : DV → En → Option En) (mt : En → M Bool) (me : En → M DV) (e : En) (d : DV) (h : HP) : Res (Option DV) := match t d e with
  | none => .bad
  | some e1 => bR (mt e1 h) fun b h => if b then bR (me e1 h) fun x h => .ok (some x) h else .ok none h
theorem lcL_is (t : DV → En → Option En) (mt : En → M Bool) (me : En → M DV) (e : En) (d : DV) (ds : List DV) (h : HP) : lcL t mt me e (d :: ds) h = bR (lcOne t mt me e d h) fun o h => bR (lcL t mt me e ds h) fun r h => .ok (match o with
    | some x => x :: r
    | none => r) h := by
  show (match t d e with
    | none => M.bad
    | some e1 => mt e1 >>= fun b => if b then me e1 >>= fun x => lcL t mt me e ds >>= fun r => pure (x :: r) else lcL t mt me e ds) h = _
  unfold lcOne
  cases t d e with
  | none => rfl
  | some e1 =>
    simp only [bind_app]
    cases mt e1 h with
    | exc x h => rfl
    | bad => rfl
    | ok b h =>
      cases b with
      | false =>
        simp only [bR_ok, if_false, Bool.false_eq_true]
        cases lcL t mt me e ds h <;> rfl
      | true =>
        simp only [bR_ok, if_true, bind_app]
        cases me e1 h with
        | exc x h => rfl
        | bad => rfl
        | ok a h =>
          simp only [bR_ok]
          cases lcL t mt me e ds h <;> rfl
theorem lcL_filter (t : DV → En → Option En) (mt : En → M Bool) (me : En → M DV) (e : En) (h : HP) (f : DV → Option DV) : ∀ ds : List DV, (∀ d ∈ ds, lcOne t mt me e d h = .ok (f d) h) → lcL t mt me e ds h = .ok (ds.filterMap f) h
  | [], _ => rfl
  | d :: ds, q => by
    rw [lcL_is, q d (List.mem_cons_self), bR_ok, lcL_filter t mt me e h f ds fun x z => q x (List.mem_cons_of_mem _ z), bR_ok, List.filterMap_cons]
    cases f d <;> rfl
theorem mLc_filter {vs : List Nat} {mi : En → M (List DV)} {t : DV → En → Option En} {mt : En → M Bool} {me : En → M DV} {e : En} {h : HP} {ds : List DV} (f : DV → Option DV) (hi : mi e h = .ok ds h) (hl : ds.length ≤ LN) (q : ∀ d ∈ ds, lcOne t mt me (wipeE e vs) d h = .ok (f d) h) :
    mLc vs mi t mt me e h = .ok (ds.filterMap f) h := by
  unfold mLc
  rw [bind_app, hi, bR_ok, if_pos hl]
  unfold noX
  rw [lcL_filter t mt me _ h f ds q]
theorem mLc_map {vs : List Nat} {mi : En → M (List DV)} {t : DV → En → Option En} {me : En → M DV} {e : En} {h : HP} {ds : List DV} (f : DV → DV) (hi : mi e h = .ok ds h) (hl : ds.length ≤ LN) (q : ∀ d ∈ ds, ∃ e1, t d (wipeE e vs) = some e1 ∧ me e1 h = .ok (f d) h) :
    mLc vs mi t mYes me e h = .ok (ds.map f) h := by
  rw [mLc_filter (fun d => some (f d)) hi hl fun d z => ?_, List.filterMap_eq_map']
  obtain ⟨e1, a, b⟩ := q d z
  unfold lcOne
  rw [a]
  show bR (me e1 h) _ = _
  rw [b]
  rfl
/-- .. over numbers -/
theorem mLc_ints {A : Type} {vs : List Nat} {mi : En → M (List DV)} {t : DV → En → Option En} {me : En → M DV} {e : En} {h : HP} {l : List A} (g : A → DV) (f : A → DV) (hi : mi e h = .ok (l.map g) h) (hl : l.length ≤ 16777216) (q : ∀ d ∈ l, ∃ e1, t (g d) (wipeE e vs) = some e1 ∧ me e1 h = .ok (f d) h) :
    mLc vs mi t mYes me e h = .ok (l.map f) h := by
  unfold mLc
  rw [bind_app, hi, bR_ok, if_pos (by rw [List.length_map]; exact hl)]
  unfold noX
  have z : ∀ l : List A, (∀ d ∈ l, ∃ e1, t (g d) (wipeE e vs) = some e1 ∧ me e1 h = .ok (f d) h) → lcL t mYes me (wipeE e vs) (l.map g) h = .ok (l.map f) h := by
    intro l
    induction l with
    | nil => exact fun _ => rfl
    | cons x r ih =>
      intro q
      obtain ⟨e1, a, b⟩ := q x List.mem_cons_self
      rw [List.map_cons, List.map_cons, lcL_is]
      unfold lcOne
      rw [a]
      show bR (bR (me e1 h) _) _ = _
      rw [b, bR_ok, bR_ok, ih fun d z => q d (List.mem_cons_of_mem _ z), bR_ok]
  rw [z l q]
/-- one turn of a loop -/
def wR (fg : List Nat) : SRes → SRes
  | .nx e h => .nx (wipeE e fg) h
  | .ct e h => .nx (wipeE e fg) h
  | .bk e h => .bk (wipeE e fg) h
  | r => r
@[simp] theorem wR_nx (fg : List Nat) (e : En) (h : HP) : wR fg (.nx e h) = .nx (wipeE e fg) h := rfl
@[simp] theorem wR_ct (fg : List Nat) (e : En) (h : HP) : wR fg (.ct e h) = .nx (wipeE e fg) h := rfl
@[simp] theorem wR_bk (fg : List Nat) (e : En) (h : HP) : wR fg (.bk e h) = .bk (wipeE e fg) h := rfl
@[simp] theorem wR_rt (fg : List Nat) (d : DV) (h : HP) : wR fg (.rt d h) = .rt d h := rfl
@[simp] theorem wR_exc (fg : List Nat) (x : Ex) (e : En) (h : HP) : wR fg (.exc x e h) = .exc x e h := rfl
def oR (o : Option En) (k : En → SRes) : SRes := match o with
  | some e => k e
  | none => .bad
@[simp] theorem oR_some (e : En) (k : En → SRes) : oR (some e) k = k e := rfl
def turn (t : DV → En → Option En) (b : Stm) (fg : List Nat) (d : DV) (e : En) (h : HP) : SRes := wR fg (oR (t d e) fun e1 => b e1 h)
@[simp] theorem turn_app (t : DV → En → Option En) (b : Stm) (fg : List Nat) (d : DV) (e : En) (h : HP) : turn t b fg d e h = wR fg (oR (t d e) fun e1 => b e1 h) := rfl
def lR (r : SRes) (k : Stm) : SRes := match r with
  | .nx e h => k e h
  | .bk e h => .nx e h
  | r => r
@[simp] theorem lR_nx (e : En) (h : HP) (k : Stm) : lR (.nx e h) k = k e h := rfl
@[simp] theorem lR_bk (e : En) (h : HP) (k : Stm) : lR (.bk e h) k = .nx e h := rfl
@[simp] theorem lR_rt (d : DV) (h : HP) (k : Stm) : lR (.rt d h) k = .rt d h := rfl
@[simp] theorem lR_exc (x : Ex) (e : En) (h : HP) (k : Stm) : lR (.exc x e h) k = .exc x e h := rfl
@[simp] theorem forL_nil (t : DV → En → Option En) (b : Stm) (fg : List Nat) (e : En) (h : HP) : forL t b fg [] e h = .nx e h := rfl
theorem forL_cons (t : DV → En → Option En) (b : Stm) (fg : List Nat) (d : DV) (ds : List DV) (e : En) (h : HP) : forL t b fg (d :: ds) e h = lR (turn t b fg d e h) (forL t b fg ds) := by
  conv => lhs; unfold forL
  unfold turn lR wR oR
  cases t d e with
  | none => rfl
  | some e1 =>
    simp only []
    cases b e1 h <;> rfl
/-- a loop of plain turns -/
theorem forL_fold {A S : Type} (g : A → DV) (E : S → En) (f : S → A → S) {t : DV → En → Option En} {b : Stm} {fg : List Nat} {h : HP} (P : S → List A → Prop) : ∀ (l : List A) (s : S), P s l → (∀ s x r, P s (x :: r) → P (f s x) r ∧ turn t b fg (g x) (E s) h = .nx (E (f s x)) h) →
    forL t b fg (l.map g) (E s) h = .nx (E (l.foldl f s)) h
  | [], s, _, _ => rfl
  | x :: r, s, p, q => by
    obtain ⟨p2, a⟩ := q s x r p
    rw [List.map_cons, forL_cons, a, lR_nx, forL_fold g E f P r (f s x) p2 q, List.foldl_cons]
@[simp] theorem setAll_cons (i : Nat) (is : List Nat) (d : DV) (ds : List DV) (e : En) : setAll (i :: is) (d :: ds) e = setAll is ds (e.set i (.val d)) := rfl
@[simp] theorem setAll_nil (ds : List DV) (e : En) : setAll [] ds e = e := rfl
@[simp] theorem wipeE_nil (e : En) : wipeE e [] = e := rfl
@[simp] theorem wipeE_cons (e : En) (v : Nat) (vs : List Nat) : wipeE e (v :: vs) = (wipeE e vs).set v .none := rfl
@[simp] theorem tName_app (i : Nat) (d : DV) (e : En) : tName i d e = some (e.set i (.val d)) := rfl
@[simp] theorem tTup_app2 (i j : Nat) (a b : DV) (e : En) : tTup [i, j] (.tup [a, b]) e = some ((e.set i (.val a)).set j (.val b)) := rfl
theorem rng_map (n : Nat) : rng n = (List.range n).map fun (k : Nat) => DV.int (k : Int) := rfl
@[simp] theorem zipD_nil (m : List DV) : zipD [] m = [] := rfl
@[simp] theorem zipD_nil2 (l : List DV) : zipD l [] = [] := by cases l <;> rfl
@[simp] theorem zipD_cons (x y : DV) (l m : List DV) : zipD (x :: l) (y :: m) = .tup [x, y] :: zipD l m := rfl
/-- a loop whose turns may return -/
def xR {S : Type} (E : S → En) (h : HP) : Except DV S → SRes
  | .ok s => .nx (E s) h
  | .error d => .rt d h
def runE {A S : Type} (f : S → A → Except DV S) : List A → S → Except DV S
  | [], s => .ok s
  | x :: r, s => match f s x with
    | .ok s2 => runE f r s2
    | .error d => .error d
theorem forL_run {A S : Type} (g : A → DV) (E : S → En) (f : S → A → Except DV S) {t : DV → En → Option En} {b : Stm} {fg : List Nat} {h : HP} (P : S → List A → Prop) : ∀ (l : List A) (s : S), P s l → (∀ s x r, P s (x :: r) → (∀ s2, f s x = .ok s2 → P s2 r) ∧ turn t b fg (g x) (E s) h = xR E h (f s x)) →
    forL t b fg (l.map g) (E s) h = xR E h (runE f l s)
  | [], s, _, _ => rfl
  | x :: r, s, p, q => by
    obtain ⟨p2, a⟩ := q s x r p
    rw [List.map_cons, forL_cons, a]
    unfold runE
    cases z : f s x with
    | error d => rfl
    | ok s2 =>
      show lR (.nx (E s2) h) _ = _
      rw [lR_nx, forL_run g E f P r s2 (p2 s2 z) q]
/-- turns that gather, or end -/
theorem runE_app {A B : Type} (ok : A → Bool) (f : A → B) (d : DV) (l : List A) (s : List B) : runE (fun s x => if ok x then .ok (s ++ [f x]) else .error d) l s = if l.all ok then .ok (s ++ l.map f) else .error d := by
  induction l generalizing s with
  | nil => simp [runE]
  | cons x r ih =>
    unfold runE
    cases z : ok x with
    | false => simp [z]
    | true => simp [z, ih]
theorem runE_pre {A B : Type} (ok : A → Bool) (f : A → B) (d : DV) (l : List A) (s : List B) : runE (fun s x => if ok x then .ok (f x :: s) else .error d) l s = if l.all ok then .ok ((l.map f).reverse ++ s) else .error d := by
  induction l generalizing s with
  | nil => simp [runE]
  | cons x r ih =>
    unfold runE
    cases z : ok x with
    | false => simp [z]
    | true => simp [z, ih]
theorem range_rev (n : Nat) : (List.range n).reverse = (List.range n).map fun j => n - 1 - j := by
  apply List.ext_getElem
  · simp
  · intro i h1 h2
    simp at h1 h2 ⊢
end LM

/-! Lists that change: a new one that is handed on, its items set; an own one's items set. -/
namespace LM
open PySem L2

theorem nodup_at : ∀ {l : List Addr} {i j : Nat}, l.Nodup → (hi : i < l.length) → (hj : j < l.length) → l[i] = l[j] → i = j
  | [], _, _, _, hi, _, _ => by cases hi
  | x :: r, 0, 0, _, _, _, _ => rfl
  | x :: r, 0, j + 1, n, _, hj, e => by
    have e : x = r[j]'(by simpa using hj) := e
    exact absurd (e ▸ List.getElem_mem _) (List.nodup_cons.mp n).1
  | x :: r, i + 1, 0, n, hi, _, e => by
    have e : r[i]'(by simpa using hi) = x := e
    exact absurd (e ▸ List.getElem_mem _) (List.nodup_cons.mp n).1
  | x :: r, i + 1, j + 1, n, hi, hj, e => by
    have e : r[i]'(by simpa using hi) = r[j]'(by simpa using hj) := e
    rw [nodup_at (List.nodup_cons.mp n).2 (by simpa using hi) (by simpa using hj) e]
section
variable {c : Cn} {W : Wd} {e : En} {h : HP} {s : L2.St} {H : Hp}
/-- an object on the changing heap is changed -/
theorem HSim.write {g : Glue} {p : Nat} {o o' : HObj} {a : Addr} {u u' : HO} (S : HSim g W h H) (e1 : h[p]? = some o) (e2 : W.r[p]? = some a) (eu : H a = some u) (new : Per W H W (upd H a u') → RepO g W (upd H a u') o' a) :
    Step W H W (upd H a u') ∧ HSim g W (h.set p o') (upd H a u') := by
  have st : Step W H W (upd H a u') := ⟨fun _ f => f, fun _ _ f => f, fun b w q n => by
    have hne : b ≠ a := fun z => by
      subst z
      exact n (List.mem_of_getElem? e2)
    rw [upd_ne hne]
    exact q, fun b q => by
    by_cases z : b = a
    · rw [z, upd_same] at q
      cases q
    · rw [upd_ne z] at q
      exact q, fun _ f => .inl f, fun _ f => .inl f⟩
  have pr := st.per S
  refine ⟨st, by rw [List.length_set]; exact S.len, S.nd, fun q ob b q1 q2 => ?_, fun b f => ?_⟩
  · by_cases z : q = p
    · subst z
      rw [e2] at q2
      cases q2
      have hp : q < h.length := (List.getElem?_eq_some_iff.mp e1).1
      rw [List.getElem?_set_self hp] at q1
      cases q1
      exact ⟨new pr, (S.o q o a e1 e2).2⟩
    · rw [List.getElem?_set_ne (Ne.symm z)] at q1
      obtain ⟨r, n⟩ := S.o q ob b q1 q2
      have hne : b ≠ a := fun w => by
        subst w
        have h1 := (List.getElem?_eq_some_iff.mp q2)
        have h2 := (List.getElem?_eq_some_iff.mp e2)
        obtain ⟨l1, g1⟩ := h1
        obtain ⟨l2, g2⟩ := h2
        exact z (nodup_at S.nd l1 l2 (g1.trans g2.symm))
      refine ⟨?_, n⟩
      cases ob with
      | lst l =>
        obtain ⟨vs, e3, r3⟩ := r
        exact ⟨vs, by rw [upd_ne hne]; exact e3, r3.per pr _ _⟩
      | obj k l =>
        obtain ⟨dx, vs, e3, e4, r3⟩ := r
        exact ⟨dx, vs, by rw [upd_ne hne]; exact e3, e4, r3.per pr _ _⟩
  · obtain ⟨w, q⟩ := S.fs b f
    have hne : b ≠ a := fun z => (S.o p o a e1 e2).2 (z ▸ f)
    exact ⟨w, by rw [upd_ne hne]; exact q⟩
/-- a new object comes onto the changing heap -/
theorem HSim.add {g : Glue} {a : Addr} {o : HObj} (S : HSim g W h H) (n1 : ¬ W.F a) (n2 : a ∉ W.r) (r : RepO g W H o a) : HSim g ⟨W.F, W.r ++ [a]⟩ (h ++ [o]) H := by
  have pr : Per W H ⟨W.F, W.r ++ [a]⟩ H := ⟨fun _ f => f, fun p b q => by
    show (W.r ++ [a])[p]? = some b
    rw [List.getElem?_append_left (List.getElem?_eq_some_iff.mp q).1]
    exact q, fun _ _ => rfl, fun _ _ q => q, fun _ _ _ q => q⟩
  have rp : ∀ (o : HObj) (b : Addr), RepO g W H o b → RepO g ⟨W.F, W.r ++ [a]⟩ H o b := fun o b r => by
    cases o with
    | lst l =>
      obtain ⟨vs, e3, r3⟩ := r
      exact ⟨vs, e3, r3.per pr _ _⟩
    | obj k l =>
      obtain ⟨dx, vs, e3, e4, r3⟩ := r
      exact ⟨dx, vs, e3, e4, r3.per pr _ _⟩
  refine ⟨by rw [List.length_append, List.length_append, S.len]; rfl, ?_, fun p ob b q1 q2 => ?_, S.fs⟩
  · show (W.r ++ [a]).Nodup
    rw [List.nodup_append]
    refine ⟨S.nd, by simp, fun x hx y hy z => ?_⟩
    rw [List.mem_singleton.mp hy] at z
    exact n2 (z ▸ hx)
  · have q2 : (W.r ++ [a])[p]? = some b := q2
    by_cases hp : p < h.length
    · rw [List.getElem?_append_left hp] at q1
      rw [List.getElem?_append_left (by rw [S.len]; exact hp)] at q2
      obtain ⟨r1, n⟩ := S.o p ob b q1 q2
      exact ⟨rp _ _ r1, n⟩
    · have l1 : p < (h ++ [o]).length := (List.getElem?_eq_some_iff.mp q1).1
      rw [List.length_append] at l1
      have e1 : p = h.length := by
        simp at l1
        omega
      subst e1
      rw [List.getElem?_append_right (Nat.le_refl _), Nat.sub_self] at q1
      rw [List.getElem?_append_right (by rw [S.len]; exact Nat.le_refl _), S.len, Nat.sub_self] at q2
      cases q1
      cases q2
      exact ⟨rp _ _ r, n1⟩
end

/-- a new list, handed on -/
def eNew (m : En → M (List DV)) : En → M DV := fun e h => match m e h with
  | .ok l h1 => .ok (.ref h1.length) (h1 ++ [.lst l])
  | .exc x h1 => .exc x h1
  | .bad => .bad
section
variable {X : Cx} {c : Cn} {pos : Pos} {ex : Expr} {m : En → M (List DV)}
theorem new_use {s : L2.St} {H : Hp} {Q : VK} (q : RE c (eNew m) s H Q) : RO c m s H Q := by
  obtain ⟨W, e, h, S0, q⟩ := q
  refine ⟨W, e, h, S0, ?_⟩
  unfold eNew at q
  cases z : m e h with
  | bad =>
    rw [z] at q
    exact q.elim
  | exc x h1 =>
    rw [z] at q
    exact q
  | ok l h1 =>
    rw [z] at q
    intro W1 H1 v t S1 o
    obtain ⟨a, vs, e1, e2, r, n1, n2, n3⟩ := o
    have hs := S1.hs.add n1 n2 (o := .lst l) ⟨vs, e2, r⟩
    have st : Step W H ⟨W1.F, W1.r ++ [a]⟩ H1 := ⟨t.f, fun p b q => by
      show (W1.r ++ [a])[p]? = some b
      have q1 := t.r p b q
      rw [List.getElem?_append_left (List.getElem?_eq_some_iff.mp q1).1]
      exact q1, t.k, t.th, t.nf, fun b hb => by
      rcases List.mem_append.mp hb with y | y
      · exact t.nr b y
      · rw [List.mem_singleton.mp y]
        exact .inr n3⟩
    refine q ⟨W1.F, W1.r ++ [a]⟩ H1 v st (S0.step st hs) ?_
    subst e1
    simp only [Rep]
    refine ⟨a, rfl, ?_⟩
    show (W1.r ++ [a])[h1.length]? = some a
    rw [List.getElem?_append_right (by rw [S1.hs.len]; exact Nat.le_refl _), S1.hs.len, Nat.sub_self]
    rfl
theorem c_new (h : PE X ex (RO c m)) : PE X ex (RE c (eNew m)) := pe_imp h fun s H Q q => new_use q
end

/-! ### a list's items are set -/
def putAt (l : List DV) (d : DV) : DV → Option (List DV)
  | .int k => (match ixN l.length k with
    | some j => some (l.set j d)
    | none => none)
  | _ => none
def hSet (h : HP) (o i d : DV) : Option HP := match o with
  | .ref p => (match h[p]? with
    | some (.lst l) => (match putAt l d i with
      | some l2 => some (h.set p (.lst l2))
      | none => none)
    | _ => none)
  | _ => none
def hNx (o : Option HP) (e : En) : SRes := match o with
  | some h => .nx e h
  | none => .bad
def sSetH (mv mo mi : En → M DV) : Stm := sBind mv fun d => sBind mo fun o => sBind mi fun i e h => hNx (hSet h o i d) e
def sPut (s : Nat) (d i : DV) : Stm := fun e h => match e[s]? with
  | some (.own l) => (match putAt l d i with
    | some l2 => .nx (e.set s (.own l2)) h
    | none => .bad)
  | _ => .bad
def ownAt (o : Option Slot) : Bool := match o with
  | some (.own _) => true
  | _ => false
def sSetI (s : Nat) (mv mi : En → M DV) : Stm := fun e h => if ownAt e[s]? then sBind mv (fun d => sBind mi fun i => sPut s d i) e h else .bad
theorem putAt_ok {l l2 : List DV} {d i : DV} (h : putAt l d i = some l2) : ∃ k j, i = .int k ∧ ixN l.length k = some j ∧ l2 = l.set j d := by
  unfold putAt at h
  split at h
  · rename_i k
    split at h
    · rename_i j e
      cases h
      exact ⟨k, j, rfl, e, rfl⟩
    · cases h
  · cases h
section
variable {X : Cx} {c : Cn} {pos p1 : Pos} {ex o i : Expr} {mv mo mi : En → M DV}
theorem s_setH (hv : PE X ex (RE c mv)) (ho : PE X o (RE c mo)) (hi : PE X i (RE c mi)) (hs : swapsWithSole [.Subscript o i p1] ex pos.line X.env = pure false := by rfl) (hw : swappedStores [.Subscript o i p1] ex X.env = pure none := by rfl)
    (h1 : (assignEach [.Subscript o i p1] X.env).map (·.2) = [assign (.Subscript o i p1) X.env] := by rfl)
    (ha : ∀ v, assign (.Subscript o i p1) X.env v = (do
      let ov ← holding [v] (eval o X.env)
      let iv ← holding [v, ov] (eval i X.env)
      standAt p1
      holding [v, ov, iv] (setItem ov iv v)
      release [v, ov, iv] []) := by intro _; rfl) : PS X (.Assign [.Subscript o i p1] ex pos) (RS c (sSetH mv mo mi)) :=
  ps_imp (ps_asg hv (pg_sub ho hi set_list ha) hs hw h1) fun D s H q => by
    unfold sSetH at q
    refine sb_use q fun W e W1 H1 d v h1 t1 S1 r1 q1 => ⟨W1, e, h1, S1, sb_at S1 q1 fun W2 H2 o w h2 t2 S2 r2 q2 => ⟨W2, e, h2, S2, sb_at S2 q2 fun W3 H3 i u h3 t3 S3 r3 q3 => ?_⟩⟩
    have rd := stays_V.go S2.hs t3 (stays_V.go S1.hs t2 r1)
    have ro := stays_V.go S2.hs t3 r2
    have q4 : PostS c W3 H3 (hNx (hSet h3 o i d) e) D := q3
    unfold hSet at q4
    cases o with
    | ref p =>
      simp only [] at q4
      cases z : h3[p]? with
      | none =>
        rw [z] at q4
        exact q4.elim
      | some ob =>
        rw [z] at q4
        cases ob with
        | obj k l => exact q4.elim
        | lst l =>
          simp only [] at q4
          cases z2 : putAt l d i with
          | none =>
            rw [z2] at q4
            exact q4.elim
          | some l2 =>
            rw [z2] at q4
            have q5 : PostS c W3 H3 (.nx e (h3.set p (.lst l2))) D := q4
            obtain ⟨k, j, ei, ej, el⟩ := putAt_ok z2
            subst ei el
            simp only [Rep] at ro r3
            obtain ⟨a, ew, ea⟩ := ro
            subst ew r3
            obtain ⟨⟨vs, e4, rs⟩, nF⟩ := S3.hs.o p _ a z ea
            obtain ⟨st, hs⟩ := S3.hs.write (o' := .lst (l.set j d)) (u' := .lst (vs.set j v)) z ea e4 fun pr => ⟨_, upd_same, (rs.per pr _ _).set (Rep.per pr _ _ rd) j⟩
            exact ⟨a, vs, k, j, rfl, rfl, e4, by rw [← rs.len]; exact ej, (q5.later (st.per S3.hs)).nx (S3.step st hs)⟩
    | _ => exact q4.elim
theorem s_setI {s0 : Nat} {x : Str} {p2 : Pos} (hN : X.N[s0]? = some x) (hvis : Vis X.env.scope x) (hv : PE X ex (RE c mv)) (hi : PE X i (RE c mi)) (hd : (x == ("__debug__" : Str)) = false := by decide) (hcd : (x == ("__classdict__" : Str)) = false := by decide)
    (hs : swapsWithSole [.Subscript (.Name x p2) i p1] ex pos.line X.env = pure false := by rfl) (hw : swappedStores [.Subscript (.Name x p2) i p1] ex X.env = pure none := by rfl)
    (h1 : (assignEach [.Subscript (.Name x p2) i p1] X.env).map (·.2) = [assign (.Subscript (.Name x p2) i p1) X.env] := by rfl)
    (ha : ∀ v, assign (.Subscript (.Name x p2) i p1) X.env v = (do
      let ov ← holding [v] (eval (.Name x p2) X.env)
      let iv ← holding [v, ov] (eval i X.env)
      standAt p1
      holding [v, ov, iv] (setItem ov iv v)
      release [v, ov, iv] []) := by intro _; rfl) : PS X (.Assign [.Subscript (.Name x p2) i p1] ex pos) (RS c (sSetI s0 mv mi)) :=
  ps_imp (ps_asg hv (pg_sub (pe_var hN hvis hd hcd) hi set_list ha) hs hw h1) fun D s H q => by
    obtain ⟨W, e, h, S0, q⟩ := q
    unfold sSetI at q
    by_cases z0 : ownAt e[s0]? = true
    · rw [if_pos z0] at q
      obtain ⟨l, z⟩ : ∃ l, e[s0]? = some (.own l) := by
        unfold ownAt at z0
        split at z0
        · rename_i l y
          exact ⟨l, y⟩
        · cases z0
      refine ⟨W, e, h, S0, sb_at S0 q fun W1 H1 d v h1 t1 S1 r1 q1 => ?_⟩
      obtain ⟨a, vs, e2, e3, rs, nn⟩ := S1.own s0 l z
      refine ⟨.ref a, e2, W1, e, h1, S1, sb_at S1 q1 fun W3 H3 i u h3 t3 S3 r3 q3 => ?_⟩
      have rd := stays_V.go S1.hs t3 r1
      have q4 : PostS c W3 H3 (sPut s0 d i e h3) D := q3
      unfold sPut at q4
      rw [z] at q4
      simp only [] at q4
      cases z2 : putAt l d i with
      | none =>
        rw [z2] at q4
        exact q4.elim
      | some l2 =>
        rw [z2] at q4
        have q5 : PostS c W3 H3 (.nx (e.set s0 (.own l2)) h3) D := q4
        obtain ⟨k, j, ei, ej, el⟩ := putAt_ok z2
        subst ei el
        simp only [Rep] at r3
        subst r3
        obtain ⟨a1, vs1, f2, f3, rr, n1⟩ := S3.own s0 l z
        rw [e2] at f2
        have ea : a = a1 := V.ref.inj (Option.some.inj (Option.some.inj f2))
        subst ea
        obtain ⟨S4, p4⟩ := S3.chgOwn (y := .own (l.set j d)) (o' := .lst (vs1.set j v)) z rfl e2 f3 (fun _ w => by cases w) (fun _ _ w => by cases w) n1 rfl fun p => ⟨⟨_, upd_same, (rr.per p _ _).set (Rep.per p _ _ rd) j⟩, n1⟩
        exact ⟨a, vs1, k, j, rfl, rfl, f3, by rw [← rr.len]; exact ej, (q5.later p4).nx S4⟩
    · rw [if_neg z0] at q
      exact q.elim
end
section
variable {T : Tp} {X : Cx} {c : Cn} {N : List Str} {k : Nat} {sc : Scope} {x : Str} {pos p1 p2 : Pos} {ex i : Expr} {mv mi : En → M DV}
theorem k_setI {s0 : Nat} (h : XSt T X c N k sc) (hN : N[s0]? = some x) (hvis : Vis sc x) (hv : PE X ex (RE c mv)) (hi : PE X i (RE c mi)) (hd : (x == ("__debug__" : Str)) = false := by decide) (hcd : (x == ("__classdict__" : Str)) = false := by decide)
    (hs : swapsWithSole [.Subscript (.Name x p2) i p1] ex pos.line X.env = pure false := by rfl) (hw : swappedStores [.Subscript (.Name x p2) i p1] ex X.env = pure none := by rfl)
    (h1 : (assignEach [.Subscript (.Name x p2) i p1] X.env).map (·.2) = [assign (.Subscript (.Name x p2) i p1) X.env] := by rfl)
    (ha : ∀ v, assign (.Subscript (.Name x p2) i p1) X.env v = (do
      let ov ← holding [v] (eval (.Name x p2) X.env)
      let iv ← holding [v, ov] (eval i X.env)
      standAt p1
      holding [v, ov, iv] (setItem ov iv v)
      release [v, ov, iv] []) := by intro _; rfl) : PS X (.Assign [.Subscript (.Name x p2) i p1] ex pos) (RS c (sSetI s0 mv mi)) :=
  s_setI (h.e.at hN) (h.e.vis hvis) hv hi hd hcd hs hw h1 ha
end
/-! ### what these answer -/
@[simp] theorem eNew_app (m : En → M (List DV)) (e : En) (h : HP) : eNew m e h = bR (m e h) fun l h1 => .ok (.ref h1.length) (h1 ++ [.lst l]) := by
  unfold eNew
  cases m e h <;> rfl
@[simp] theorem sSetH_app (mv mo mi : En → M DV) (e : En) (h : HP) : sSetH mv mo mi e h = uR (mv e h) e fun d e h => uR (mo e h) e fun o e h => uR (mi e h) e fun i e h => hNx (hSet h o i d) e := rfl
@[simp] theorem hNx_some (h : HP) (e : En) : hNx (some h) e = .nx e h := rfl
def putR (o : Option (List DV)) (s : Nat) (e : En) (h : HP) : SRes := match o with
  | some l => .nx (e.set s (.own l)) h
  | none => .bad
@[simp] theorem putR_some (l : List DV) (s : Nat) (e : En) (h : HP) : putR (some l) s e h = .nx (e.set s (.own l)) h := rfl
@[simp] theorem sPut_app (s : Nat) (d i : DV) (e : En) (h : HP) : sPut s d i e h = slO e[s]? fun l => putR (putAt l d i) s e h := by
  unfold sPut
  cases e[s]? with
  | none => rfl
  | some x =>
    cases x with
    | own l =>
      simp only [slO_own]
      cases putAt l d i <;> rfl
    | _ => rfl
@[simp] theorem ownAt_own (l : List DV) : ownAt (some (.own l)) = true := rfl
@[simp] theorem sSetI_app (s : Nat) (mv mi : En → M DV) (e : En) (h : HP) : sSetI s mv mi e h = if ownAt e[s]? then uR (mv e h) e fun d e h => uR (mi e h) e fun i e h => sPut s d i e h else .bad := rfl
theorem putAt_nat (l : List DV) (d : DV) (k : Nat) (hk : k < l.length) : putAt l d (.int (k : Int)) = some (l.set k d) := by
  have e : ixN l.length (k : Int) = some k := by
    unfold ixN
    rw [if_pos (Int.natCast_nonneg k), if_pos (by omega)]
    rfl
  show (match ixN l.length (k : Int) with
    | some j => some (l.set j d)
    | none => none) = _
  rw [e]
end LM

/-! zip and enumerate over lists and tuples in any mix. -/
namespace LM
open PySem L2

/-- a list (false) or a tuple (true) -/
def SqB (b : Bool) (K : PySem.W.Frag) (H : Hp) (a : Addr) (xs : List V) : Prop := match b with
  | true => SqT K H a xs
  | false => SqL K H a xs
def IsB (b : Bool) (h : Heap) (a : Addr) (items : Array Value) : Prop := match b with
  | true => h.IsTuple a items
  | false => h.IsList a items
def ItB (b : Bool) (h : Heap) (it a : Addr) (i : Nat) : Prop := match b with
  | true => h.IsTupleIter it a i
  | false => h.IsListIter it a i
theorem ItB.obj {b : Bool} {h : Heap} {it a : Addr} {i : Nat} (x : ItB b h it a i) : ∃ o vs, h.get? it = some o ∧ o.data = .fields vs := by
  cases b with
  | true =>
    obtain ⟨o, e, _, d⟩ := x
    exact ⟨o, _, e, d⟩
  | false =>
    obtain ⟨o, e, _, d⟩ := x
    exact ⟨o, _, e, d⟩
theorem ItB.keep {b : Bool} {h h' : Heap} {it a : Addr} {i : Nat} (x : ItB b h it a i) (k : ∀ o, h.get? it = some o → h'.get? it = some o) : ItB b h' it a i := by
  cases b with
  | true => exact Heap.IsTupleIter.at x k
  | false => exact Heap.IsListIter.at x k
theorem IsB.lt {b : Bool} {h : Heap} {a : Addr} {items : Array Value} (x : IsB b h a items) : a < h.objs.size := by
  cases b with
  | true =>
    obtain ⟨o, e, _⟩ := x
    exact Heap.lt_size e
  | false =>
    obtain ⟨o, e, _⟩ := x
    exact Heap.lt_size e
theorem sqB_is {X : Cx} {pins : List (Addr × Obj)} {σ : L2.St} {H : Hp} {s : Shared} {b : Bool} {a : Addr} {xs : List V} (I : Inv X pins σ H s) (q : SqB b X.K H a xs) : ∃ its : List Value, Vals xs its ∧ IsB b s.heap a its.toArray := by
  cases b with
  | true =>
    obtain ⟨its, rv, p, _⟩ := I.tuple q
    exact ⟨its, rv, p⟩
  | false =>
    obtain ⟨its, rv, p, _⟩ := I.list q
    exact ⟨its, rv, p.isList⟩
theorem sqB_inj {X : Cx} {pins : List (Addr × Obj)} {σ : L2.St} {H : Hp} {s : Shared} {b : Bool} {a : Addr} {xs ys : List V} (I : Inv X pins σ H s) (q : SqB b X.K H a xs) (r : SqB b X.K H a ys) : xs = ys := by
  cases b with
  | true => exact I.tuple_inj q r
  | false => exact I.list_inj q r
theorem drawsB {prog : Program} {w : World} {A : Around} (hh : A.handled = none) (b : Bool) (it a : Addr) (hne : a ≠ it) (items : Array Value) :
    Draws prog w A it [it, a] items.size (fun i v => items[i]? = some v) (fun i h => ItB b h it a i ∧ IsB b h a items) := by
  cases b with
  | true => exact Draws.tuple hh it a hne items
  | false => exact Draws.list hh it a hne items
def iterObj (b : Bool) (a : Addr) : Obj := match b with
  | true => { cls := .type "tuple_iterator", data := .fields #[.ref a, .int 0 0] }
  | false => { cls := .type "list_iterator", data := .fields #[.ref a, .int 0 0] }
theorem beginsB (b : Bool) (a : Addr) (items : Array Value) : Begins (.ref a) (iterObj b a) fun h => IsB b h a items := by
  cases b with
  | true => exact begins_tuple a items
  | false => exact begins_list a items
theorem itB_new {b : Bool} {h : Heap} {it a : Addr} (e : h.get? it = some (iterObj b a)) : ItB b h it a 0 := by
  cases b with
  | true => exact ⟨_, e, rfl, rfl⟩
  | false => exact ⟨_, e, rfl, rfl⟩

theorem isB_ne {b : Bool} {h : Heap} {a it : Addr} {i : Nat} {items : Array Value} (p : IsB b h a items) (x : ItB b h it a i) : a ≠ it := fun q => by
  obtain ⟨o, v, e, d⟩ := x.obj
  cases b with
  | true =>
    obtain ⟨o', e', _, n, d'⟩ := p
    rw [q, e] at e'
    cases e'
    rw [d] at d'
    cases d'
  | false =>
    obtain ⟨o', e', _, n, d'⟩ := p
    rw [q, e] at e'
    cases e'
    rw [d] at d'
    cases d'
/-! ### zip -/
def ItzB (b1 b2 : Bool) (K : PySem.W.Frag) (a b : Addr) : It :=
  ⟨fun i H => ∃ (xs ys : List V) (x y : V), SqB b1 K H a xs ∧ SqB b2 K H b ys ∧ xs[i]? = some x ∧ ys[i]? = some y,
    fun i H v H' => ∃ T x y, v = .ref T ∧ H T = none ∧ H' = upd H T (.tup [x, y]) ∧ (∀ xs, SqB b1 K H a xs → xs[i]? = some x) ∧ (∀ ys, SqB b2 K H b ys → ys[i]? = some y),
    fun i H => ∃ xs ys : List V, SqB b1 K H a xs ∧ SqB b2 K H b ys ∧ i ≤ xs.length ∧ i ≤ ys.length ∧ (i = xs.length ∨ i = ys.length)⟩
theorem five {c z TI TO i1 i2 : Addr} : c ∈ [z, TI, TO, i1, i2] ↔ c = z ∨ c = TI ∨ c = TO ∨ c = i1 ∨ c = i2 := by simp
theorem turn_zipB {P : Program} {w : World} {K : PySem.W.Frag} {elts : List Expr} {kk : Nat} {tpos : Pos} (b1 b2 : Bool) {a b z TI TO i1 i2 : Addr} (D : ZipSep2 z TI TO i1 i2 [i1, a] [i2, b]) :
    Turn P w K (.Tuple elts kk tpos) (ItzB b1 b2 K a b) [z, TI, TO, i1, i2] z
      (fun i h => IsZip h z TI TO .none ∧ IsTupOf2 h TI (.ref i1) (.ref i2) ∧ (∃ x y, IsTupOf2 h TO x y) ∧ ItB b1 h i1 a i ∧ ItB b2 h i2 b i) where
  mem := five.mpr (.inl rfl)
  obj := fun i h st c hc => by
    obtain ⟨hz, hTI, ⟨x, y, hTO⟩, h1, h2⟩ := st
    obtain ⟨o1, v1, e1, d1⟩ := h1.obj
    obtain ⟨o2, v2, e2, d2⟩ := h2.obj
    rcases five.mp hc with q | q | q | q | q <;> subst q
    · exact ⟨_, hz, fun v q => by cases q⟩
    · exact ⟨_, hTI, fun v q => by cases q⟩
    · exact ⟨_, hTO, fun v q => by cases q⟩
    · exact ⟨_, e1, fun v q => by rw [d1] at q; cases q⟩
    · exact ⟨_, e2, fun v q => by rw [d2] at q; cases q⟩
  keep := fun i h h' st k => by
    obtain ⟨hz, hTI, ⟨x, y, hTO⟩, h1, h2⟩ := st
    have kk := fun c (m : c = z ∨ c = TI ∨ c = TO ∨ c = i1 ∨ c = i2) => k c (five.mpr m)
    exact ⟨kk z (.inl rfl) _ hz, kk TI (.inr (.inl rfl)) _ hTI, ⟨x, y, kk TO (.inr (.inr (.inl rfl))) _ hTO⟩, h1.keep (kk i1 (.inr (.inr (.inr (.inl rfl))))), h2.keep (kk i2 (.inr (.inr (.inr (.inr rfl)))))⟩
  item := by
    intro X hP hw hK hc i pins s σ H E I hf st hg
    subst hP hw hK
    obtain ⟨hz, hTI, ⟨x0, y0, hTO⟩, h1, h2⟩ := st
    obtain ⟨xs, ys, x, y, qx, qy, ex, ey⟩ := hg
    obtain ⟨its, rv, p⟩ := sqB_is I qx
    obtain ⟨its2, rv2, p2⟩ := sqB_is I qy
    obtain ⟨u, hu, ru⟩ := rv.get ex
    obtain ⟨u2, hu2, ru2⟩ := rv2.get ey
    have lz : z < s.heap.objs.size := Heap.lt_size hz
    have lt1 : i < its.toArray.size := by
      have q := (List.getElem?_eq_some_iff.mp hu).1
      simpa using q
    have lt2 : i < its2.toArray.size := by
      have q := (List.getElem?_eq_some_iff.mp hu2).1
      simpa using q
    have na : a ≠ i1 := isB_ne p h1
    have nb : b ≠ i2 := isB_ne p2 h2
    have hh : X.A.in1.handled = none := I.ok.hd hc
    refine wpAny_pyNext_zipD2_item D (drawsB hh b1 i1 a na its.toArray) (drawsB hh b2 i2 b nb its2.toArray) hz hTI hTO ⟨h1, p⟩ ⟨h2, p2⟩ lt1 lt2 fun x1 x2 h' tk P1 P2 z' TO' s1' s2' hT sz k => ?_
    have e1 : x1 = u := by
      have q : its[i]? = some x1 := by simpa using P1
      exact Option.some.inj (q.symm.trans hu)
    have e2 : x2 = u2 := by
      have q : its2[i]? = some x2 := by simpa using P2
      exact Option.some.inj (q.symm.trans hu2)
    subst e1 e2
    refine ⟨_, rfl, wpAny_letOwnedTupleGo_zip (s := { s with heap := h', toks := tk }) z' fun h'' z'' sb => ?_⟩
    have hT2 : h''.get? s.heap.objs.size = some { cls := .type "tuple", data := .seq #[x1, x2] } := (sb.2 _ (Nat.ne_of_gt lz)).trans hT
    have new : ObjOk X.prog X.w (upd H s.heap.objs.size (.tup [x, y])) h'' s.heap.objs.size (.tup [x, y]) := ⟨by show 2 ≤ sizeLine; decide +kernel, [x1, x2], .cons ru (.cons ru2 .nil), ⟨_, hT2, rfl, _, rfl⟩⟩
    have I1 : Inv X pins σ (upd H s.heap.objs.size (.tup [x, y])) { s with heap := h'', toks := tk } := I.turnedNew (ch := [z, TI, TO, i1, i2]) (fun c o hb q => by
      have hb : ¬ (c = z ∨ c = TI ∨ c = TO ∨ c = i1 ∨ c = i2) := fun w => hb (five.mpr w)
      exact (sb.2 c fun w => hb (.inl w)).trans (k c o (fun w => hb (.inl w)) (fun w => hb (.inr (.inr (.inl w)))) (fun w => hb (.inr (.inr (.inr (.inl w))))) (fun w => hb (.inr (.inr (.inr (.inr w))))) q)) hf (Nat.le_refl _) new
    refine ⟨.ref s.heap.objs.size, _, I1, rfl, ⟨_, x, y, rfl, I.hok.fresh (Nat.le_refl _), rfl, fun l q => by rw [sqB_inj I q qx]; exact ex, fun l q => by rw [sqB_inj I q qy]; exact ey⟩, ⟨z'', ?_, ⟨x1, x2, ?_⟩, ?_, ?_⟩, fun c hcm => ?_⟩
    · exact (sb.2 _ D.TIz).trans (k _ _ D.TIz D.TITO D.TIi1 D.TIi2 hTI)
    · exact (sb.2 _ D.TOz).trans TO'
    · exact s1'.1.keep fun o q => (sb.2 _ (Ne.symm D.zi1)).trans q
    · exact s2'.1.keep fun o q => (sb.2 _ (Ne.symm D.zi2)).trans q
    · obtain ⟨o1, v1, g1, _⟩ := h1.obj
      obtain ⟨o2, v2, g2, _⟩ := h2.obj
      have lt : c < s.heap.objs.size := by
        rcases five.mp hcm with q | q | q | q | q <;> subst q
        · exact lz
        · exact Heap.lt_size hTI
        · exact Heap.lt_size hTO
        · exact Heap.lt_size g1
        · exact Heap.lt_size g2
      rw [upd_ne (Nat.ne_of_lt lt)]
      exact (hf c hcm).1
  done := by
    intro X hP hw hK hc i pins s σ H E I hf st hg
    subst hP hw hK
    obtain ⟨hz, hTI, ⟨x0, y0, hTO⟩, h1, h2⟩ := st
    obtain ⟨xs, ys, qx, qy, l1, l2, hend⟩ := hg
    obtain ⟨its, rv, p⟩ := sqB_is I qx
    obtain ⟨its2, rv2, p2⟩ := sqB_is I qy
    have m1 := rv.length
    have m2 := rv2.length
    have hh : X.A.in1.handled = none := I.ok.hd hc
    exact wpAny_pyNext_zipD2_end D (drawsB hh b1 i1 a (isB_ne p h1) its.toArray) (drawsB hh b2 i2 b (isB_ne p2 h2) its2.toArray) hz hTI hTO ⟨h1, p⟩ ⟨h2, p2⟩ (by simp; omega) (by simp; omega) (by
      rcases hend with q | q
      · left
        simp
        omega
      · right
        simp
        omega) fun h' tk k => ⟨rfl, I.turnedL (t' := tk) (ch := [z, TI, TO, i1, i2]) (fun c o hb q => by
      have hb : ¬ (c = z ∨ c = TI ∨ c = TO ∨ c = i1 ∨ c = i2) := fun w => hb (five.mpr w)
      exact k c o (fun w => hb (.inl w)) (fun w => hb (.inr (.inr (.inl w)))) (fun w => hb (.inr (.inr (.inr (.inl w))))) (fun w => hb (.inr (.inr (.inr (.inr w))))) q) hf⟩
  self := fun A i s Q E st h => wpAny_pyIter_zip st.1 h
theorem pairE {b e it : Addr} : b ∈ [e, it] ↔ b = e ∨ b = it := by simp
theorem sep_new (n a b : Nat) (la : a < n) (lb : b < n) : ZipSep2 (n + 4) (n + 2) (n + 3) n (n + 1) [n, a] [n + 1, b] := by
  have two : ∀ {x y z : Nat}, x ≠ y → x ≠ z → x ∉ [y, z] := fun h1 h2 m => (pairE.mp m).elim h1 h2
  have one : ∀ {x y : Nat}, x ≠ y → x ≠ y := id
  exact ⟨one (by omega), one (by omega), one (by omega), one (by omega), by simp, two (by omega) (by omega), two (by omega) (by omega), one (by omega), by simp, two (by omega) (by omega), two (by omega) (by omega), two (by omega) (by omega), two (by omega) (by omega)⟩
def iZipB (K : PySem.W.Frag) (ta : TA) : TI := fun σ H R => ta σ H fun vs H1 => ∃ b1 b2 a b xs ys, vs = [.ref a, .ref b] ∧ SqB b1 K H1 a xs ∧ SqB b2 K H1 b ys ∧ R (ItzB b1 b2 K a b) H1
theorem pi_zipB {X : Cx} {e e2 : Expr} {ta : TA} {p pos tpos : Pos} {elts : List Expr} {kk : Nat} (hg : Gl X "zip") (hm : X.mg "zip" = none) (ha : PA X [e, e2] ta)
    (hs : starEach [e, e2] X.env = (false, eval e X.env) :: starEach [e2] X.env := by rfl) (hpl : (backTo pos (starEach [e2] X.env)).any (·.1) = false := by rfl) : PI X (.Tuple elts kk tpos) (.Call (.Name "zip" p) [e, e2] [] pos) (iZipB X.K ta) := by
  refine ⟨fun pins s σ H R I h => ?_⟩
  refine PyProof.Rows.Call_ (ld_blt I hg hm PyProof.Rows.boot_zip (PyProof.Rows.callWith_type1 (thn (ha.run pos pins s σ H _ I h) fun us s1 ⟨vs, H1, I1, r1, q1⟩ => ?_) hs hpl))
  obtain ⟨b1, b2, a, b, xs, ys, ev, qx, qy, q⟩ := q1
  subst ev
  cases r1 with
  | cons r rr =>
    cases rr with
    | cons r' rr =>
      cases rr
      cases r
      cases r'
      obtain ⟨its, rv, p1⟩ := sqB_is I1 qx
      obtain ⟨its2, rv2, p2⟩ := sqB_is I1 qy
      have la := p1.lt
      have lb := p2.lt
      refine zip_begins2 (beginsB b1 a its.toArray) (beginsB b2 b its2.toArray) p1 p2 fun h' hz hTI hTO h1 h2 hsz hk => wpAny_pyIter_zip hz ?_
      have I2 : Inv X pins σ H1 { s1 with heap := h' } := I1.kept (t' := s1.toks) hk
      refine ⟨s1.heap.objs.size + 4, [s1.heap.objs.size + 4, s1.heap.objs.size + 2, s1.heap.objs.size + 3, s1.heap.objs.size, s1.heap.objs.size + 1], _, _, H1, rfl, I2, turn_zipB b1 b2 (a := a) (b := b) ?_, ⟨hz, hTI, ⟨_, _, hTO⟩, itB_new h1, itB_new h2⟩, fun c hcm => ?_, q⟩
      · exact sep_new _ _ _ la lb
      · have hle : s1.heap.objs.size ≤ c := by
          rcases five.mp hcm with w | w | w | w | w <;> rw [w] <;> first
            | exact Nat.le_add_right _ _
            | exact Nat.le_refl _
        exact I1.fpOk hle (I1.hok.fresh hle)
/-- zip of two sequences -/
def itZM (x y : DV) : M (List DV) := itS x >>= fun l => itS y >>= fun m => pure (zipD l m)
theorem LsF.per {K : PySem.W.Frag} {W W2 : Wd} {H H2 : Hp} {a : Addr} {xs : List V} (p : Per W H W2 H2) (f : LsF K W H a xs) : SqL K H2 a xs := p.sqL f
/-- .. of whatever kind, behind a step -/
def SB (K : PySem.W.Frag) (W : Wd) (H : Hp) (b : Bool) (a : Addr) (vs : List V) : Prop := match b with
  | true => SqT K H a vs
  | false => LsF K W H a vs
theorem SB.per {K : PySem.W.Frag} {W W2 : Wd} {H H2 : Hp} {b : Bool} {a : Addr} {xs : List V} (p : Per W H W2 H2) (f : SB K W H b a xs) : SqB b K H2 a xs := by
  cases b with
  | true => exact p.sqT f
  | false => exact p.sqL f
theorem SB.now {K : PySem.W.Frag} {W : Wd} {H : Hp} {b : Bool} {a : Addr} {xs : List V} (f : SB K W H b a xs) : SqB b K H a xs := SB.per (Per.refl _ _) f
section
variable {X : Cx} {c : Cn} {pos p1 : Pos} {a b tg : Expr} {ma mb : En → M DV}
theorem wk_zipB {W : Wd} {H : Hp} {b1 b2 : Bool} {p q : Addr} {vs ws : List V} {ds es : List DV} (f : SB c.g.K W H b1 p vs) (f2 : SB c.g.K W H b2 q ws) (r : Reps c.g W H ds vs) (r2 : Reps c.g W H es ws) : Wk c W H (ItzB b1 b2 c.g.K p q) (zipD ds es) where
  go := fun W2 H2 pr i d e => by
    have sq := f.per pr
    have sq2 := f2.per pr
    obtain ⟨x, y, e1, e2, e3⟩ := zipD_get e
    obtain ⟨v, g1, rv⟩ := (r.per pr _ _).get e1
    obtain ⟨w, g2, rw'⟩ := (r2.per pr _ _).get e2
    refine ⟨⟨vs, ws, v, w, sq, sq2, g1, g2⟩, fun z H3 yl => ?_⟩
    obtain ⟨T, x', y', h1, h2, h3, h4, h5⟩ := yl
    have q1 : v = x' := some_inj2 g1 (h4 vs sq)
    have q2 : w = y' := some_inj2 g2 (h5 ws sq2)
    subst q1 q2
    exact .inr ⟨T, _, _, e3, h1, h2, h3, .cons rv (.cons rw' .nil)⟩
  st := fun W2 H2 pr => by
    refine ⟨vs, ws, f.per pr, f2.per pr, ?_⟩
    rw [zipD_len, r.len, r2.len]
    omega
/-- what an iterable is -/
theorem itS_src {W : Wd} {e : En} {h h' : HP} {s : L2.St} {H : Hp} {d : DV} {v : V} {l : List DV} (S : Sim c W e h s H) (r : Rep c.g W H d v) (z : itS d h = .ok l h') : h' = h ∧ ∃ b p vs, v = .ref p ∧ Reps c.g W H l vs ∧ SB c.g.K W H b p vs := by
  cases d with
  | tup l2 =>
    simp only [Rep] at r
    obtain ⟨p, vs, e1, sq, rs⟩ := r
    cases z
    exact ⟨rfl, true, p, vs, e1, rs, sq⟩
  | lst l2 =>
    simp only [Rep] at r
    obtain ⟨p, vs, e1, f, sq, rs⟩ := r
    cases z
    exact ⟨rfl, false, p, vs, e1, rs, .inl ⟨f, sq⟩⟩
  | scr l2 =>
    simp only [Rep] at r
    obtain ⟨p, e1, sq⟩ := r
    cases z
    exact ⟨rfl, false, p, _, e1, reps_ints l2, .inr sq⟩
  | _ => cases z
theorem itS_exc {d : DV} {h h' : HP} {x : Ex} (z : itS d h = .exc x h') : False := by
  unfold itS at z
  split at z <;> cases z
theorem i_zipM (hk : X.K = c.g.K) (hg : Gl X "zip") (hm : X.mg "zip" = none) {elts : List Expr} {kk : Nat} {tpos : Pos} (ha : PE X a (RE c ma)) (hb : PE X b (RE c mb)) (he : starEach [a, b] X.env = (false, eval a X.env) :: starEach [b] X.env := by rfl) (he2 : starEach [b] X.env = (false, eval b X.env) :: starEach [] X.env := by rfl)
    (hpl : (backTo pos (starEach [b] X.env)).any (·.1) = false := by rfl) : PI X (.Tuple elts kk tpos) (.Call (.Name "zip" p1) [a, b] [] pos) (RI c (iB2 ma mb itZM)) :=
  pi_imp (pi_zipB hg hm (pa_cons ha (pa_cons hb pa_nil he2) he) he hpl) fun s H R q => by
    unfold iB2 at q
    exact RX.bind q fun W e W1 H1 x v h1 t S rx q2 => ⟨W1, e, h1, S, q2.bind fun W2 H2 y w h2 t2 S2 ry q3 => by
      have rx2 := stays_V.go S.hs t2 rx
      unfold itZM at q3
      cases zx : itS x h2 with
      | bad =>
        rw [M.bind_def, zx] at q3
        exact q3.elim
      | exc z h3 => exact (itS_exc zx).elim
      | ok l h3 =>
        rw [M.bind_def, zx] at q3
        obtain ⟨eh, b1, p, vs, e1, rs, cx⟩ := itS_src S2 rx2 zx
        subst eh
        have q4 : Post c (fun W H ds J => Wk c W H J ds) e s W2 H2 ((itS y >>= fun m => pure (zipD l m)) h3) R := q3
        cases zy : itS y h3 with
        | bad =>
          rw [M.bind_def, zy] at q4
          exact q4.elim
        | exc z h4 => exact (itS_exc zy).elim
        | ok m h4 =>
          rw [M.bind_def, zy] at q4
          obtain ⟨eh, b2, p2, ws, e2, rs2, cy⟩ := itS_src S2 ry zy
          subst eh e1 e2
          refine ⟨b1, b2, p, p2, vs, ws, rfl, by rw [hk]; exact cx.now, by rw [hk]; exact cy.now, ?_⟩
          rw [hk]
          exact q4.ret S2 (wk_zipB cx cy rs rs2)⟩
end
@[simp] theorem itZM_app (x y : DV) (h : HP) : itZM x y h = bR (itS x h) fun l h => bR (itS y h) fun m h => .ok (zipD l m) h := rfl
/-! ### enumerate -/
theorem meets_enumT (l : Addr) (items : Array Value) (n : Nat) (dct : Option Addr) (sl : Array (Option Value)) :
    Meets (Builtin.«enumerate.__new__» ⟨[.type "enumerate", .ref l], []⟩) (fun _ R s => s.heap.get? l = some { cls := .type "tuple", dict := dct, data := .seq items n, slots := sl } ∧
      R (.ok (.ret (.ref (s.heap.push { cls := .type "tuple_iterator", data := .fields #[.ref l, .int 0 0] }).objs.size)))
        { s with heap := (s.heap.push { cls := .type "tuple_iterator", data := .fields #[.ref l, .int 0 0] }).push { cls := .type "enumerate", data := .fields #[.none, .bool false, .ref s.heap.objs.size, rawInt 0, .none, .none] } }) :=
  .of_wp fun prog w A R s h => by
    obtain ⟨hp, g, d, tk, os⟩ := s
    obtain ⟨hl, h⟩ := h
    have hsub := sub_enumerate
    have hT : Heap.IsTuple (Shared.heap ⟨hp, g, d, tk, os⟩) l items := ⟨_, hl, rfl, n, rfl⟩
    wp_walk using AutoSeq1.wpAny_loadPart' hl
    refine wpAny_stack_any fun st => wpAny_pure ?_
    split
    · rename_i cc _ _ _ _ _
      cases (cc == Value.type "enumerate")
      · wp_walk using AutoSeq1.wpAny_loadPart' hl, wpAny_pyIter_tuple hT
        exact ⟨_, rfl, h⟩
      · wp_walk using AutoSeq1.wpAny_loadPart' hl, wpAny_pyIter_tuple hT
        exact ⟨_, rfl, h⟩
    · wp_walk using AutoSeq1.wpAny_loadPart' hl, wpAny_pyIter_tuple hT
      exact ⟨_, rfl, h⟩
theorem call_enumT {prog : Program} {w : World} {A : Around} {E : Value → Shared → Prop} {s : Shared} {l : Addr} {items : Array Value} {Q : Value → Shared → Prop} (hL : s.heap.IsTuple l items)
    (h : ∀ h', IsEnum h' (s.heap.objs.size + 1) s.heap.objs.size 0 .none → h'.IsTupleIter s.heap.objs.size l 0 → h'.objs.size = s.heap.objs.size + 2 → (∀ b o, s.heap.get? b = some o → h'.get? b = some o) → Q (.ref (s.heap.objs.size + 1)) { s with heap := h' }) :
    wpAny (model prog w) A (call (.type "enumerate") [.ref l]) Q E s := by
  obtain ⟨⟨cc, dct, dt, sl⟩, hl, hc, n, hd⟩ := hL
  have hc : cc = .type "tuple" := hc
  have hd : dt = .seq items n := hd
  subst hc hd
  refine callType_new F.called_enumerate (by decide) (F.typeCall_enumerate_1 _) (F.newCall_enumerate_1 _) (fun obj => F.args_object_init_2 obj _) F.entry_enumerate_new (meets_enumT l items n dct sl) ⟨hl, ?_⟩
  have hz : (s.heap.push { cls := .type "tuple_iterator", data := .fields #[.ref l, .int 0 0] }).objs.size = s.heap.objs.size + 1 := Heap.size_push ..
  show _ ∧ _
  rw [hz]
  have he := Heap.get?_push_size (s.heap.push { cls := .type "tuple_iterator", data := .fields #[.ref l, .int 0 0] }) (o := { cls := .type "enumerate", data := .fields #[.none, .bool false, .ref s.heap.objs.size, rawInt 0, .none, .none] }) rfl
  rw [hz] at he
  exact ⟨⟨_, he, rfl⟩, h _ he ⟨_, Heap.get?_push_of_some _ (Heap.get?_push_size _ rfl), rfl, rfl⟩ (by rw [Heap.size_push, hz]) fun b o x => Heap.get?_push_of_some _ (Heap.get?_push_of_some _ x)⟩
theorem call_enumB {prog : Program} {w : World} {A : Around} {E : Value → Shared → Prop} {s : Shared} {b : Bool} {l : Addr} {items : Array Value} {Q : Value → Shared → Prop} (hL : IsB b s.heap l items)
    (h : ∀ h', IsEnum h' (s.heap.objs.size + 1) s.heap.objs.size 0 .none → ItB b h' s.heap.objs.size l 0 → h'.objs.size = s.heap.objs.size + 2 → (∀ b o, s.heap.get? b = some o → h'.get? b = some o) → Q (.ref (s.heap.objs.size + 1)) { s with heap := h' }) :
    wpAny (model prog w) A (call (.type "enumerate") [.ref l]) Q E s := by
  cases b with
  | true => exact call_enumT hL h
  | false => exact call_enumerate_list hL h
def IteB (b : Bool) (K : PySem.W.Frag) (a : Addr) : It :=
  ⟨fun i H => ∃ (xs : List V) (x : V), SqB b K H a xs ∧ xs[i]? = some x, fun i H v H' => ∃ T x, v = .ref T ∧ H T = none ∧ H' = upd H T (.tup [.int (i : Nat), x]) ∧ (∀ xs, SqB b K H a xs → xs[i]? = some x), fun i H => ∃ xs : List V, SqB b K H a xs ∧ xs.length = i⟩
theorem turn_enumB {P : Program} {w : World} {K : PySem.W.Frag} {elts : List Expr} {kk : Nat} {tpos : Pos} (b : Bool) (a e it : Addr) :
    Turn P w K (.Tuple elts kk tpos) (IteB b K a) [e, it] e (fun i h => (∃ old, IsEnum h e it ((i : Nat) : Int) old) ∧ ItB b h it a i ∧ e ≠ it ∧ e ≠ a) where
  mem := pairE.mpr (.inl rfl)
  obj := fun i h st c hc => by
    obtain ⟨⟨old, he⟩, hi, _⟩ := st
    obtain ⟨o, v, g, d⟩ := hi.obj
    rcases pairE.mp hc with q | q <;> subst q
    · exact ⟨_, he, fun v q => by cases q⟩
    · exact ⟨_, g, fun v q => by rw [d] at q; cases q⟩
  keep := fun i h h' st k => by
    obtain ⟨⟨old, he⟩, hi, ne⟩ := st
    exact ⟨⟨old, k e (pairE.mpr (.inl rfl)) _ he⟩, hi.keep (k it (pairE.mpr (.inr rfl))), ne⟩
  item := by
    intro X hP hw hK hc i pins s σ H E I hf st hg
    subst hP hw hK
    obtain ⟨⟨old, he⟩, hit, hne, hna⟩ := st
    obtain ⟨xs, x, hq, hx⟩ := hg
    obtain ⟨its, rv, p⟩ := sqB_is I hq
    obtain ⟨u, hu, ru⟩ := rv.get hx
    have lt1 : i < its.toArray.size := by
      have q := (List.getElem?_eq_some_iff.mp hu).1
      simpa using q
    have hel : e < s.heap.objs.size := Heap.lt_size he
    have hh : X.A.in1.handled = none := I.ok.hd hc
    refine wpAny_pyNext_enum_itemD (drawsB hh b it a (isB_ne p hit) its.toArray) he ⟨hit, p⟩ lt1 hne (by simp [hne, hna]) fun x1 h' tk P1 ho st' hT hsz hk => ?_
    have e1 : x1 = u := by
      have q : its[i]? = some x1 := by simpa using P1
      exact Option.some.inj (q.symm.trans hu)
    subst e1
    refine ⟨_, rfl, wpAny_letOwnedTupleGo_enum (s := { s with heap := h', toks := tk + 1 }) ho fun h'' he' sb => ?_⟩
    have hT2 : h''.get? s.heap.objs.size = some { cls := .type "tuple", data := .seq #[.int i tk, x1] } := (sb.2 _ (Nat.ne_of_gt hel)).trans hT
    have new : ObjOk X.prog X.w (upd H s.heap.objs.size (.tup [.int (i : Nat), x])) h'' s.heap.objs.size (.tup [.int (i : Nat), x]) := ⟨by show 2 ≤ sizeLine; decide +kernel, [.int i tk, x1], .cons ⟨_, rfl⟩ (.cons ru .nil), ⟨_, hT2, rfl, _, rfl⟩⟩
    have I1 : Inv X pins σ (upd H s.heap.objs.size (.tup [.int (i : Nat), x])) { s with heap := h'', toks := tk + 1 } := I.turnedNew (ch := [e, it]) (fun c ob hb q => by
      have hb : ¬ (c = e ∨ c = it) := fun w => hb (pairE.mpr w)
      exact (sb.2 c fun w => hb (.inl w)).trans (hk c ob (fun w => hb (.inl w)) (fun w => hb (.inr w)) q)) hf (Nat.le_refl _) new
    refine ⟨.ref s.heap.objs.size, _, I1, rfl, ⟨_, x, rfl, I.hok.fresh (Nat.le_refl _), rfl, fun l q => by rw [sqB_inj I q hq]; exact hx⟩, ⟨⟨x1, ?_⟩, st'.1.keep fun o q => (sb.2 it (Ne.symm hne)).trans q, hne, hna⟩, fun c hcm => ?_⟩
    · have e1 : ((i + 1 : Nat) : Int) = (i : Int) + 1 := by omega
      rw [e1]
      exact he'
    · obtain ⟨o, v, g, _⟩ := hit.obj
      have lt : c < s.heap.objs.size := by
        rcases pairE.mp hcm with q | q <;> subst q
        · exact hel
        · exact Heap.lt_size g
      rw [upd_ne (Nat.ne_of_lt lt)]
      exact (hf c hcm).1
  done := by
    intro X hP hw hK hc i pins s σ H E I hf st hg
    subst hP hw hK
    obtain ⟨⟨old, he⟩, hit, hne, hna⟩ := st
    obtain ⟨xs, hq, hl⟩ := hg
    obtain ⟨its, rv, p⟩ := sqB_is I hq
    have m := rv.length
    have hh : X.A.in1.handled = none := I.ok.hd hc
    have ei : its.toArray.size = i := by
      simp
      omega
    refine wpAny_pyNext_enum_endD (drawsB hh b it a (isB_ne p hit) its.toArray) he (by rw [ei]; exact ⟨hit, p⟩) fun h' k => ⟨rfl, I.turnedL (t' := s.toks) (ch := [e, it]) (fun c o hb q => ?_) hf⟩
    exact k c o (fun w => hb (pairE.mpr (.inr w))) q
  self := fun A i s Q E st h => by
    obtain ⟨⟨_, he⟩, _⟩ := st
    exact wpAny_pyIter_enum he h
def iEnumB (K : PySem.W.Frag) (ta : TA) : TI := fun σ H R => ta σ H fun vs H1 => ∃ b a xs, vs = [.ref a] ∧ SqB b K H1 a xs ∧ R (IteB b K a) H1
theorem pi_enumB {X : Cx} {e : Expr} {ta : TA} {p pos tpos : Pos} {elts : List Expr} {kk : Nat} (hg : Gl X "enumerate") (hm : X.mg "enumerate" = none) (ha : PA X [e] ta) (hs : starEach [e] X.env = [(false, eval e X.env)] := by rfl) :
    PI X (.Tuple elts kk tpos) (.Call (.Name "enumerate" p) [e] [] pos) (iEnumB X.K ta) := by
  refine ⟨fun pins s σ H R I h => ?_⟩
  refine PyProof.Rows.Call_ (ld_blt I hg hm PyProof.Rows.boot_enumerate (PyProof.Rows.callWith_type1 (thn (ha.run pos pins s σ H _ I h) fun us s1 ⟨vs, H1, I1, r1, q1⟩ => ?_) hs rfl))
  obtain ⟨b, a, xs, ev, hq, q⟩ := q1
  subst ev
  cases r1 with
  | cons r rr =>
    cases rr
    cases r
    obtain ⟨its, rv, p'⟩ := sqB_is I1 hq
    have la := p'.lt
    refine call_enumB p' fun h' he hit hsz hk => wpAny_pyIter_enum he ?_
    have I2 : Inv X pins σ H1 { s1 with heap := h' } := I1.kept (t' := s1.toks) hk
    refine ⟨s1.heap.objs.size + 1, [s1.heap.objs.size + 1, s1.heap.objs.size], _, _, H1, rfl, I2, turn_enumB b a (s1.heap.objs.size + 1) s1.heap.objs.size, ⟨⟨.none, he⟩, hit, Nat.succ_ne_self _, Nat.ne_of_gt (Nat.lt_succ_of_lt la)⟩, fun c hc => ?_, q⟩
    have hle : s1.heap.objs.size ≤ c := by
      rcases pairE.mp hc with w | w <;> rw [w] <;> first
        | exact Nat.le_add_right _ _
        | exact Nat.le_refl _
    exact I1.fpOk hle (I1.hok.fresh hle)
/-- the items with their places -/
def enD : Nat → List DV → List DV
  | _, [] => []
  | k, d :: ds => .tup [.int (k : Nat), d] :: enD (k + 1) ds
theorem enD_len (l : List DV) (k : Nat) : (enD k l).length = l.length := by
  induction l generalizing k with
  | nil => rfl
  | cons d ds ih => simp [enD, ih]
theorem enD_get {l : List DV} {k i : Nat} {d : DV} (h : (enD k l)[i]? = some d) : ∃ x, l[i]? = some x ∧ d = .tup [.int ((k + i : Nat) : Int), x] := by
  induction l generalizing k i with
  | nil => cases h
  | cons x r ih =>
    cases i with
    | zero =>
      have h : some (DV.tup [.int (k : Nat), x]) = some d := h
      cases h
      exact ⟨x, rfl, rfl⟩
    | succ i =>
      have h : (enD (k + 1) r)[i]? = some d := h
      obtain ⟨y, e1, e2⟩ := ih h
      refine ⟨y, e1, ?_⟩
      rw [e2, show k + 1 + i = k + (i + 1) by omega]
def itE (x : DV) : M (List DV) := itS x >>= fun l => pure (enD 0 l)
section
variable {X : Cx} {c : Cn} {pos p1 : Pos} {a tg : Expr} {ma : En → M DV}
theorem wk_enumB {W : Wd} {H : Hp} {b : Bool} {p : Addr} {vs : List V} {ds : List DV} (f : SB c.g.K W H b p vs) (r : Reps c.g W H ds vs) : Wk c W H (IteB b c.g.K p) (enD 0 ds) where
  go := fun W2 H2 pr i d e => by
    have sq := f.per pr
    obtain ⟨x, e1, e3⟩ := enD_get e
    obtain ⟨v, g1, rv⟩ := (r.per pr _ _).get e1
    refine ⟨⟨vs, v, sq, g1⟩, fun z H3 yl => ?_⟩
    obtain ⟨T, x', h1, h2, h3, h4⟩ := yl
    have q1 : v = x' := some_inj2 g1 (h4 vs sq)
    subst q1
    rw [Nat.zero_add] at e3
    exact .inr ⟨T, _, _, e3, h1, h2, h3, .cons (by simp only [Rep]) (.cons rv .nil)⟩
  st := fun W2 H2 pr => ⟨vs, f.per pr, by rw [enD_len, r.len]⟩
theorem i_enum (hk : X.K = c.g.K) (hg : Gl X "enumerate") (hm : X.mg "enumerate" = none) {elts : List Expr} {kk : Nat} {tpos : Pos} (ha : PE X a (RE c ma)) (he : starEach [a] X.env = (false, eval a X.env) :: starEach [] X.env := by rfl) (hs : starEach [a] X.env = [(false, eval a X.env)] := by rfl) :
    PI X (.Tuple elts kk tpos) (.Call (.Name "enumerate" p1) [a] [] pos) (RI c (iB ma itE)) :=
  pi_imp (pi_enumB hg hm (pa_cons ha pa_nil he) hs) fun s H R q => by
    unfold iB at q
    exact RX.bind (K := fun v H1 => ∃ b a xs, [v] = [V.ref a] ∧ SqB b X.K H1 a xs ∧ R (IteB b X.K a) H1) q fun W e W1 H1 x v h1 t S rx q2 => by
      unfold itE at q2
      cases zx : itS x h1 with
      | bad =>
        rw [M.bind_def, zx] at q2
        exact q2.elim
      | exc z h3 => exact (itS_exc zx).elim
      | ok l h3 =>
        rw [M.bind_def, zx] at q2
        obtain ⟨eh, b1, p, vs, e1, rs, cx⟩ := itS_src S rx zx
        subst eh e1
        refine ⟨b1, p, vs, rfl, by rw [hk]; exact cx.now, ?_⟩
        rw [hk]
        exact q2.ret S (wk_enumB cx rs)
end
@[simp] theorem itE_app (x : DV) (h : HP) : itE x h = bR (itS x h) fun l h => .ok (enD 0 l) h := rfl
end LM

/-! More plain laws of the mirror. -/
namespace LM
open PySem L2

/-! ### what may be compared -/
def okd (n : Nat) (d : DV) : Prop := ∃ x, toPD d = some x ∧ x.canLay0 = true ∧ x.depth ≤ n
theorem okd_int {n : Nat} (i : Int) : okd n (.int i) := ⟨.int i, rfl, rfl, Nat.zero_le _⟩
theorem okd_bl {n : Nat} (b : Bool) : okd n (.bl b) := ⟨.bool b, rfl, rfl, Nat.zero_le _⟩
theorem okd_non {n : Nat} : okd n .non := ⟨.none, rfl, rfl, Nat.zero_le _⟩
theorem okd_str {n : Nat} (s : Str) (h : (PyData.str s).canLay0 = true) : okd n (.str s) := ⟨.str s, rfl, h, Nat.zero_le _⟩
theorem okd_all {n : Nat} : ∀ {l : List DV}, (∀ d ∈ l, okd n d) → ∃ r, toPDs l = some r ∧ PyData.canLayAll0 r = true ∧ PyData.depthAll r ≤ n
  | [], _ => ⟨[], rfl, rfl, Nat.zero_le _⟩
  | d :: ds, h => by
    obtain ⟨x, e1, c1, n1⟩ := h d List.mem_cons_self
    obtain ⟨r, e2, c2, n2⟩ := okd_all fun y hy => h y (List.mem_cons_of_mem _ hy)
    refine ⟨x :: r, ?_, ?_, ?_⟩
    · show (match toPD d, toPDs ds with
        | some x, some r => some (x :: r)
        | _, _ => none) = _
      rw [e1, e2]
    · unfold PyData.canLayAll0
      rw [c1, c2]
      rfl
    · unfold PyData.depthAll
      exact Nat.max_le.mpr ⟨n1, n2⟩
theorem okd_tup {n : Nat} {l : List DV} (h : ∀ d ∈ l, okd n d) : okd (n + 1) (.tup l) := by
  obtain ⟨r, e, c, d⟩ := okd_all h
  refine ⟨.tuple r, ?_, ?_, ?_⟩
  · show (match toPDs l with
      | some r => some (PyData.tuple r)
      | none => none) = _
    rw [e]
  · unfold PyData.canLay0
    exact c
  · unfold PyData.depth
    omega
theorem okd_lst {n : Nat} {l : List DV} (h : ∀ d ∈ l, okd n d) : okd (n + 1) (.lst l) := by
  obtain ⟨r, e, c, d⟩ := okd_all h
  refine ⟨.list r, ?_, ?_, ?_⟩
  · show (match toPDs l with
      | some r => some (PyData.list r)
      | none => none) = _
    rw [e]
  · unfold PyData.canLay0
    exact c
  · unfold PyData.depth
    omega
theorem okd_ok {d : DV} (h : okd 64 d) : okD d = true := by
  obtain ⟨x, e, c, n⟩ := h
  unfold okD
  rw [e]
  show SeqAt.shaped x = true
  unfold SeqAt.shaped
  rw [c, decide_eq_true n]
  rfl
theorem okd_mono {m n : Nat} {d : DV} (h : okd m d) (q : m ≤ n) : okd n d := by
  obtain ⟨x, e, c, k⟩ := h
  exact ⟨x, e, c, Nat.le_trans k q⟩
theorem okd_nums {n : Nat} (l : List Int) : ∀ d ∈ nums l, okd n d := fun d hd => by
  obtain ⟨i, _, e⟩ := List.mem_map.mp hd
  rw [← e]
  exact okd_int i

/-! ### walks that are told by what stays -/
theorem forL_inv {A : Type} (g : A → DV) {t : DV → En → Option En} {b : Stm} {fg : List Nat} (I : List A → En → HP → Prop) : ∀ (l : List A) (e : En) (h : HP), I l e h → (∀ x r e h, I (x :: r) e h → ∃ e' h', turn t b fg (g x) e h = .nx e' h' ∧ I r e' h') →
    ∃ e' h', forL t b fg (l.map g) e h = .nx e' h' ∧ I [] e' h'
  | [], e, h, i, _ => ⟨e, h, rfl, i⟩
  | x :: r, e, h, i, q => by
    obtain ⟨e1, h1, a, i1⟩ := q x r e h i
    obtain ⟨e2, h2, b2, i2⟩ := forL_inv g I r e1 h1 i1 q
    exact ⟨e2, h2, by rw [List.map_cons, forL_cons, a, lR_nx, b2], i2⟩
theorem lcL_some {A B : Type} (g : A → DV) (f : B → DV) {t : DV → En → Option En} {me : En → M DV} {e : En} (R : HP → Prop) (P : A → B → Prop) : ∀ (l : List A) (h : HP), R h → (∀ x ∈ l, ∀ h, R h → ∃ (e1 : En) (v : B) (h' : HP), t (g x) e = some e1 ∧ me e1 h = .ok (f v) h' ∧ P x v ∧ R h') →
    ∃ (vs : List B) (h' : HP), lcL t mYes me e (l.map g) h = .ok (vs.map f) h' ∧ vs.length = l.length ∧ (∀ v ∈ vs, ∃ x ∈ l, P x v) ∧ R h'
  | [], h, r, _ => ⟨[], h, rfl, rfl, (fun v (m : v ∈ []) => nomatch m), r⟩
  | x :: l, h, r, q => by
    obtain ⟨e1, v, h1, a, b, p, r1⟩ := q x List.mem_cons_self h r
    obtain ⟨vs, h2, c, d, p2, r2⟩ := lcL_some g f R P l h1 r1 fun y hy => q y (List.mem_cons_of_mem _ hy)
    refine ⟨v :: vs, h2, ?_, by rw [List.length_cons, List.length_cons, d], fun w hw => ?_, r2⟩
    · rw [List.map_cons, lcL_is]
      unfold lcOne
      rw [a]
      show bR (bR (me e1 h) _) _ = _
      rw [b, bR_ok, bR_ok, c, bR_ok]
      rfl
    · rcases List.mem_cons.mp hw with z | z
      · rw [z]
        exact ⟨x, List.mem_cons_self, p⟩
      · obtain ⟨y, hy, py⟩ := p2 w z
        exact ⟨y, List.mem_cons_of_mem _ hy, py⟩
theorem mLc_some {A B : Type} (g : A → DV) (f : B → DV) {vs : List Nat} {mi : En → M (List DV)} {t : DV → En → Option En} {me : En → M DV} {e : En} {h h1 : HP} {l : List A} (R : HP → Prop) (P : A → B → Prop) (hi : mi e h = .ok (l.map g) h1) (hl : l.length ≤ 16777216) (r : R h1)
    (q : ∀ x ∈ l, ∀ h, R h → ∃ (e1 : En) (v : B) (h' : HP), t (g x) (wipeE e vs) = some e1 ∧ me e1 h = .ok (f v) h' ∧ P x v ∧ R h') : ∃ (ws : List B) (h' : HP), mLc vs mi t mYes me e h = .ok (ws.map f) h' ∧ ws.length = l.length ∧ (∀ v ∈ ws, ∃ x ∈ l, P x v) ∧ R h' := by
  obtain ⟨ws, h2, a, b, c, d⟩ := lcL_some g f R P l h1 r q
  refine ⟨ws, h2, ?_, b, c, d⟩
  unfold mLc
  rw [bind_app, hi, bR_ok, if_pos (by rw [List.length_map]; exact hl)]
  unfold noX
  rw [a]
@[simp] theorem tTup_app3 (i j k : Nat) (a b c : DV) (e : En) : tTup [i, j, k] (.tup [a, b, c]) e = some (((e.set i (.val a)).set j (.val b)).set k (.val c)) := rfl
theorem getI0 (a : DV) (l : List DV) (h : HP) : getI (a :: l) 0 h = .ok a h := by
  exact getI_nat h _ 0 rfl
theorem getI1 (a b : DV) (l : List DV) (h : HP) : getI (a :: b :: l) 1 h = .ok b h := by
  exact getI_nat h _ 1 rfl
theorem getI2 (a b c : DV) (l : List DV) (h : HP) : getI (a :: b :: c :: l) 2 h = .ok c h := by
  exact getI_nat h _ 2 rfl
theorem getI3 (a b c d : DV) (l : List DV) (h : HP) : getI (a :: b :: c :: d :: l) 3 h = .ok d h := by
  exact getI_nat h _ 3 rfl
/-! ### the drawn numbers: a row of a script and a place -/
def Row (ns : List Int) (h : HP) : Prop := ∃ (k : Nat) (r : List HObj), h = .lst [.scr ns, .int (k : Int)] :: r
theorem vIdx_ref (p : Nat) (i : Int) (h : HP) (l : List DV) (e : h[p]? = some (.lst l)) : vIdx (.ref p) (.int i) h = getI l i h := by
  show (match asL h (.ref p) with
    | some l => getI l i h
    | none => .bad) = _
  have q : asL h (.ref p) = some l := by
    show (match h[p]? with
      | some (.lst l) => some l
      | _ => none) = _
    rw [e]
  rw [q]
theorem zipD_map {A B : Type} (f : A → DV) (g : B → DV) (l : List A) (m : List B) : zipD (l.map f) (m.map g) = (l.zip m).map fun q => .tup [f q.1, g q.2] := by
  induction l generalizing m with
  | nil => rfl
  | cons x r ih =>
    cases m with
    | nil => rfl
    | cons y t =>
      simp [zipD_cons, ih]
theorem zipD_nums {A : Type} (f : A → DV) (l : List A) (m : List Int) : zipD (l.map f) (nums m) = (l.zip m).map fun q => .tup [f q.1, .int q.2] := zipD_map f DV.int l m
theorem zipD_nums2 (l m : List Int) : zipD (nums l) (nums m) = (l.zip m).map fun q => .tup [.int q.1, .int q.2] := zipD_map DV.int DV.int l m
theorem lMul_one (d : DV) (n : Nat) (hn : n ≤ 16777216) (h : HP) : lMul (.lst [d]) (.int (n : Int)) h = .ok (List.replicate n d) h := by
  have e : (List.replicate n [d]).flatten = List.replicate n d := by
    induction n with
    | zero => rfl
    | succ k ih => simp [List.replicate_succ, ih (by omega)]
  show (if (Nat.ble n 16777216 && Nat.ble ([d].length * n) 16777216) = true then (pure (List.replicate n [d]).flatten : M (List DV)) else M.bad) h = _
  rw [if_pos (by
    rw [Bool.and_eq_true, Nat.ble_eq, Nat.ble_eq]
    exact ⟨hn, by simpa using hn⟩), e]
  rfl
theorem lMulE (a b : En → M DV) (e : En) (h : HP) (d : DV) (n : Nat) (ha : a e h = .ok (.lst [d]) h) (hb : b e h = .ok (.int (n : Int)) h) (hn : n ≤ 16777216) : iB2 a b lMul e h = .ok (List.replicate n d) h := by
  unfold iB2
  rw [bind_app, ha, bR_ok, bind_app, hb, bR_ok, lMul_one d n hn]
theorem nums_rep (n : Nat) (i : Int) : List.replicate n (DV.int i) = nums (List.replicate n i) := by
  unfold nums
  rw [List.map_replicate]
theorem nums_set (l : List Int) (k : Nat) (i : Int) : (nums l).set k (.int i) = nums (l.set k i) := by
  unfold nums
  rw [List.map_set]
/-- a list as data, each a number -/
theorem mLc_nums {A : Type} (g : A → DV) {vs : List Nat} {mi : En → M (List DV)} {t : DV → En → Option En} {me : En → M DV} {e : En} {h h1 : HP} {l : List A} (R : HP → Prop) (P : A → Int → Prop) (hi : mi e h = .ok (l.map g) h1) (hl : l.length ≤ 16777216) (r : R h1)
    (q : ∀ x ∈ l, ∀ h, R h → ∃ (e1 : En) (v : Int) (h' : HP), t (g x) (wipeE e vs) = some e1 ∧ me e1 h = .ok (.int v) h' ∧ P x v ∧ R h') : ∃ (ws : List Int) (h' : HP), mLc vs mi t mYes me e h = .ok (nums ws) h' ∧ ws.length = l.length ∧ (∀ v ∈ ws, ∃ x ∈ l, P x v) ∧ R h' :=
  mLc_some g DV.int R P hi hl r q
/-- the sum of products -/
def dot (l m : List Int) : Int := (List.zipWith (· * ·) l m).sum
@[simp] theorem dot_nil (m : List Int) : dot [] m = 0 := rfl
@[simp] theorem dot_cons (x y : Int) (l m : List Int) : dot (x :: l) (y :: m) = x * y + dot l m := rfl
theorem dot_set : ∀ (l s : List Int) (k : Nat) (v : Int), k < l.length → k < s.length → dot l (s.set k v) = dot l s + l.getD k 0 * (v - s.getD k 0)
  | [], _, _, _, h, _ => by cases h
  | _ :: _, [], _, _, _, h => by cases h
  | x :: l, y :: s, 0, v, _, _ => by
    simp [Int.mul_sub]
    omega
  | x :: l, y :: s, k + 1, v, h1, h2 => by
    have e := dot_set l s k v (by simpa using h1) (by simpa using h2)
    rw [List.set_cons_succ, dot_cons, dot_cons, e, List.getD_cons_succ, List.getD_cons_succ]
    omega
theorem dot_zero (l : List Int) (n : Nat) : dot l (List.replicate n 0) = 0 := by
  induction l generalizing n with
  | nil => rfl
  | cons x r ih =>
    cases n with
    | zero => rfl
    | succ k => simp [List.replicate_succ, ih]
/-- products of two rows, as a comprehension makes them -/
theorem mLc_dot {vs : List Nat} {mi : En → M (List DV)} {t : DV → En → Option En} {me : En → M DV} {e : En} {h : HP} (l m : List Int) (hi : mi e h = .ok (zipD (nums l) (nums m)) h) (hl : l.length ≤ 16777216)
    (q : ∀ a b, a ∈ l → b ∈ m → ∃ e1, t (.tup [.int a, .int b]) (wipeE e vs) = some e1 ∧ me e1 h = .ok (.int (a * b)) h) : mLc vs mi t mYes me e h = .ok (nums (List.zipWith (· * ·) l m)) h := by
  rw [zipD_nums2] at hi
  rw [mLc_ints (A := Int × Int) (l := l.zip m) (fun q => .tup [.int q.1, .int q.2]) (fun q => .int (q.1 * q.2)) hi (by rw [List.length_zip]; omega) fun p hp => q p.1 p.2 (List.of_mem_zip hp).1 (List.of_mem_zip hp).2]
  rw [← nums_map (fun q : Int × Int => q.1 * q.2), List.zip, List.map_zipWith]
theorem foldl_app2 {A B : Type} (f : A → B) (l : List A) (s : List B) : l.foldl (fun s k => s ++ [f k]) s = s ++ l.map f := by
  induction l generalizing s with
  | nil => simp
  | cons x r ih => simp [ih]
end LM

/-! list(reversed(a list)). -/
namespace LM
open PySem L2
section
variable {prog : Program} {w : World} {A : Around} {E : Value → Shared → Prop} {s : Shared}
theorem list_init_rev {R : Result → Shared → Prop} {it l : Addr} {items : Array Value} (hh : A.handled = none) (hit : s.heap.IsRevIter it l ((items.size : Int) - 1)) (hl : s.heap.IsList l items) (hne : l ≠ it) (hn : items.size ≤ sizeLine) (S : Addr) (hS : s.heap.get? S = some { cls := .type "list", data := .seq #[] }) (n1 : S ≠ it) (n2 : S ≠ l)
    (hR : ∀ (h' : Heap) (tk : Nat) (acc : Array Value) (c : Nat), (∀ b o, b ≠ S → b ≠ it → s.heap.get? b = some o → h'.get? b = some o) → h'.get? S = some { cls := .type "list", dict := none, data := .seq acc c, slots := #[] } → ItemsOf (fun i v => items[items.size - 1 - i]? = some v) acc items.size → R (.ok (.ret .none)) { s with heap := h', toks := tk }) :
    wpAny (model prog w) A.in1 (Builtin.«list.__init__» ⟨[.ref S, .ref it], []⟩)
      (fun fin s' => match fin with | .done f => R (.ok f) s' | .again c' => c'.quiet = true ∧ codeAny (model prog w) A c' R s') (fun e s' => R (.error e) s') s := by
  have W := (Walks.listRev (prog := prog) (w := w) (A := A.in1) hh it l hne items).toS
  have hSf : S ∉ [it, l] := fun m => (pairE.mp m).elim n1 n2
  show wpAny _ _ (do
    let old ← Builtin.List.listItems (.ref S)
    Builtin.List.listUpdate (.ref S) (fun _ => #[])
    letGo old.toList.reverse
    Builtin.List.listExtendWith (.ref S) (.ref it) .none) _ _ s
  refine wpAny_bind ?_
  unfold Builtin.List.listItems
  refine wpAny_bind (wpAny_seqItems hS rfl (wpAny_pure ?_))
  show wpAny _ _ (updateSeq S (fun _ => #[]) >>= fun _ => letGo (#[] : Array Value).toList.reverse >>= fun _ => Builtin.List.listExtendWith (.ref S) (.ref it) .none) _ _ s
  refine wpAny_bind (wpAny_updateSeq hS rfl ?_)
  have hS2 := Heap.get?_update_self (Obj.mapSeq (fun _ => (#[] : Array Value))) hS rfl
  have oth : ∀ b o, b ≠ S → s.heap.get? b = some o → (s.heap.update S (Obj.mapSeq (fun _ => (#[] : Array Value)))).get? b = some o := fun b o hb e => (Heap.get?_update_other _ _ (Ne.symm hb)).trans e
  refine wpAny_bind (wpAny_letGo ?_)
  have hit1 := hit.at fun o e => oth it o (Ne.symm n1) e
  have hl1 := hl.at fun o e => oth l o (Ne.symm n2) e
  have hT : ({ s with heap := s.heap.update S (Obj.mapSeq (fun _ => (#[] : Array Value))) } : Shared).TypeIs (.ref it) "list_reverseiterator" := Heap.IsRevIter.typeIs (s := { s with heap := s.heap.update S (Obj.mapSeq (fun _ => (#[] : Array Value))) }) hit1
  have h1 : Builtin.List.listSameRef (.ref S) (.ref it) = false := by simp [Builtin.List.listSameRef, n1]
  unfold Builtin.List.listExtendWith
  refine wpAny_bind (wpAny_typeOf hT ?_)
  rw [if_neg (by rw [h1]; decide)]
  refine wpAny_bind (wpAny_pyIter_revIter (s := { s with heap := s.heap.update S (Obj.mapSeq (fun _ => (#[] : Array Value))) }) hit1 ?_)
  refine wpAny_bind (wpAny_holding ?_)
  unfold Builtin.List.listLengthHint
  refine wpAny_bind (wpAny_specialOf hT RT.nolen_lri ?_)
  show wpAny _ A.in1 (specialOf (Value.ref it) (Str.ofString "__length_hint__") >>= _) _ _ _
  refine wpAny_bind (wpAny_specialOf hT RT.hint_lri ?_)
  generalize hid : ("list_reverseiterator.__length_hint__" : String) = id0
  wp_delta
  rw [show splitId id0 = some ("list_reverseiterator", "__length_hint__") from by subst hid; decide +kernel]
  subst hid
  refine wpAny_bind (wpAny_isInstance (b := true) hT (by rw [isSubtype_type]; kernel_rfl) ?_)
  refine wpAny_pure ?_
  rw [if_neg (by decide)]
  have e0 : ((items.size : Nat) : Int) - 1 - ((0 : Nat) : Int) = (items.size : Int) - 1 := by omega
  refine wpAny_pure ⟨plainId_quiet F.plain_extend_loop _, codeAny_extend_loopS W hn _ hSf _ items.size 0 _ _ _ rfl (Nat.zero_le _) ⟨Nat.zero_le _, by rw [e0]; exact hit1, hl1⟩ hS2 (ItemsOf.nil _) fun s' acc' c' hm hS' hacc => ?_⟩
  rw [Moved.eq_with hm]
  refine hR s'.heap s'.toks acc' c' (fun b o hb hbi e => hm.heap b o (fun hmem => ?_) (oth b o hb e)) hS' hacc
  rcases List.mem_cons.mp hmem with e' | hmem
  · exact hb e'
  · exact hbi (List.mem_singleton.mp hmem)
theorem call_list_rev {Q : Value → Shared → Prop} {it l : Addr} {items : Array Value} (hh : A.handled = none) (hit : s.heap.IsRevIter it l ((items.size : Int) - 1)) (hl : s.heap.IsList l items) (hne : l ≠ it) (hn : items.size ≤ sizeLine)
    (hQ : ∀ (h' : Heap) (tk : Nat) (acc : Array Value) (c : Nat), (∀ b o, b ≠ it → s.heap.get? b = some o → h'.get? b = some o) → h'.get? s.heap.objs.size = some { cls := .type "list", dict := none, data := .seq acc c, slots := #[] } → ItemsOf (fun i v => items[items.size - 1 - i]? = some v) acc items.size → Q (.ref s.heap.objs.size) { s with heap := h', toks := tk }) :
    wpAny (model prog w) A (call (.type "list") [.ref it]) Q E s := by
  refine callType_codes (Q₁ := fun obj s₁ => obj = .ref s.heap.objs.size ∧ s₁ = { s with heap := s.heap.push { cls := .type "list", data := .seq #[] } }) F.called_list (F.typeCall_list_1 _) F.entry_list_init (code_list_new _ ⟨rfl, rfl⟩) fun obj s₁ h₁ => ?_
  obtain ⟨e1, e2⟩ := h₁
  subst e1 e2
  have hS : (s.heap.push { cls := .type "list", data := .seq #[] }).get? s.heap.objs.size = some { cls := .type "list", data := .seq #[] } := Heap.get?_push_size _ rfl
  obtain ⟨oi, hoi, _⟩ := id hit
  obtain ⟨ol, hol, _⟩ := id hl
  refine ⟨⟨_, hS, rfl⟩, F.args_list_init_2 _ _, list_init_rev (A := A.in1) (s := { s with heap := s.heap.push { cls := .type "list", data := .seq #[] } }) hh (hit.at fun o e => Heap.get?_push_of_some _ e) (hl.push _) hne hn _ hS (Nat.ne_of_gt (Heap.lt_size hoi)) (Nat.ne_of_gt (Heap.lt_size hol)) fun h' tk acc c hk hS' hacc => ?_⟩
  exact ⟨rfl, hQ h' tk acc c (fun b o hb e => hk b o (Nat.ne_of_lt (Heap.lt_size e)) hb (Heap.get?_push_of_some _ e)) hS' hacc⟩
end
section
variable {X : Cx}
def tLstRev (K : PySem.W.Frag) (te : TE) : TE := fun σ H Q => te σ H fun v H1 => ∃ (a : Addr) (xs : List V), v = .ref a ∧ SqL K H1 a xs ∧ ∀ q, H1 q = none → Q (.ref q) (upd H1 q (.lst xs.reverse))
theorem pe_listRev {e : Expr} {te : TE} {p p2 pos pos2 : Pos} (hc : X.calm = true) (hg : Gl X "list") (hm : X.mg "list" = none) (hg2 : Gl X "reversed") (hm2 : X.mg "reversed" = none) (he : PE X e te) (hs : starEach [e] X.env = (false, eval e X.env) :: starEach [] X.env := by rfl)
    (hs2 : starEach [.Call (.Name "reversed" p2) [e] [] pos2] X.env = (false, eval (.Call (.Name "reversed" p2) [e] [] pos2) X.env) :: starEach [] X.env := by rfl) : PE X (.Call (.Name "list" p) [.Call (.Name "reversed" p2) [e] [] pos2] [] pos) (tLstRev X.K te) := by
  refine ⟨fun pins s σ H Q I h => ?_⟩
  refine PyProof.Rows.Call_ (ld_blt I hg hm PyProof.Rows.boot_list (PyProof.Rows.callWith_type1 (PyProof.Rows.args_cons (PyProof.Rows.Call_ (ld_blt I hg2 hm2 PyProof.Rows.boot_reversed (PyProof.Rows.callWith_type1 (PyProof.Rows.args_cons (thn (he.run pins s σ H _ I h) fun u s1 ⟨v, H1, I1, r1, q1⟩ => PyProof.Rows.args_nil ?_) hs) hs rfl))) hs2) hs2 rfl))
  obtain ⟨a, xs, ev, hq, q⟩ := q1
  subst ev
  obtain rfl : u = Value.ref a := r1
  obtain ⟨its, rv, p', hz⟩ := I1.list hq
  refine call_reversed_list p'.isList (PyProof.Rows.args_nil ?_)
  have k0 : ∀ b o, s1.heap.get? b = some o → (s1.heap.push (revObj a ((its.toArray.size : Int) - 1))).get? b = some o := fun b o e => Heap.get?_push_of_some _ e
  have I2 : Inv X pins σ H1 { s1 with heap := s1.heap.push (revObj a ((its.toArray.size : Int) - 1)) } := I1.kept (t' := s1.toks) k0
  obtain ⟨f0, f1, f2, f3, f4, f5⟩ := I1.fpOk (H' := H1) (b := s1.heap.objs.size) (Nat.le_refl _) (I1.hok.fresh (Nat.le_refl _))
  have hl := p'.isList
  obtain ⟨ol, hol, _⟩ := id hl
  have hne : a ≠ s1.heap.objs.size := Nat.ne_of_lt (Heap.lt_size hol)
  have hn : its.toArray.size ≤ sizeLine := by rw [List.size_toArray, ← rv.length]; exact hz
  refine call_list_rev (s := { s1 with heap := s1.heap.push (revObj a ((its.toArray.size : Int) - 1)) }) (I1.ok.hd hc) ⟨_, Heap.get?_push_size _ rfl, rfl, rfl⟩ (hl.push _) hne hn fun h' tk acc c hk hS' hi => ?_
  have hz1 : (s1.heap.push (revObj a ((its.toArray.size : Int) - 1))).objs.size = s1.heap.objs.size + 1 := Heap.size_push ..
  have new : ObjOk X.prog X.w (upd H1 (s1.heap.push (revObj a ((its.toArray.size : Int) - 1))).objs.size (.lst xs.reverse)) h' (s1.heap.push (revObj a ((its.toArray.size : Int) - 1))).objs.size (.lst xs.reverse) := ⟨by rw [List.length_reverse]; exact hz, acc.toList, c, RT.vals_rev rv hi, by rw [Array.toArray_toList]; exact hS'⟩
  have I3 := I2.turnedNew (t' := tk) (ch := [s1.heap.objs.size]) (fun b o hb e => hk b o (fun z => hb (List.mem_singleton.mpr z)) e) (fun b hb => by
    rw [List.mem_singleton.mp hb]
    exact ⟨f0, f1, f2, f3, f4, f5⟩) (Nat.le_refl _) new
  exact ⟨.ref (s1.heap.push (revObj a ((its.toArray.size : Int) - 1))).objs.size, _, I3, rfl, q _ (I2.hok.fresh (Nat.le_refl _))⟩
/-- list(reversed(a list)) -/
def lLstRev (x : DV) : M (List DV) := fun h => match asL h x with
  | some l => .ok l.reverse h
  | none => .bad
theorem c_listRev {c : Cn} {a : Expr} {ma : En → M DV} {p1 p2 pos pos2 : Pos} (hk : X.K = c.g.K) (hc : X.calm = true) (hg : Gl X "list") (hm : X.mg "list" = none) (hg2 : Gl X "reversed") (hm2 : X.mg "reversed" = none) (ha : PE X a (RB c ma)) (hs : starEach [a] X.env = (false, eval a X.env) :: starEach [] X.env := by rfl)
    (hs2 : starEach [.Call (.Name "reversed" p2) [a] [] pos2] X.env = (false, eval (.Call (.Name "reversed" p2) [a] [] pos2) X.env) :: starEach [] X.env := by rfl) :
    PE X (.Call (.Name "list" p1) [.Call (.Name "reversed" p2) [a] [] pos2] [] pos) (RO c (iB ma lLstRev)) := pe_imp (pe_listRev hc hg hm hg2 hm2 ha hs hs2) fun s H Q q => by
  unfold iB at q
  obtain ⟨W, e, h, S0, q⟩ := q
  refine ⟨W, e, h, S0, ?_⟩
  have q : Post c (rO c H) e s W H ((ma e >>= lLstRev) h) Q := q
  rw [bind_app] at q
  cases z0 : ma e h with
  | bad =>
    rw [z0] at q
    exact q.elim
  | exc x h1 =>
    rw [z0] at q
    exact q
  | ok x h1 =>
    rw [z0] at q
    intro W1 H1 v t S rx
    have q2 : Post c (rO c H) e s W H (lLstRev x h1) Q := q
    unfold lLstRev at q2
    cases z : asL h1 x with
    | none =>
      rw [z] at q2
      exact q2.elim
    | some l =>
      rw [z] at q2
      obtain ⟨p, vs, e1, sq, r⟩ := asL_ok S rx z
      refine ⟨p, vs, e1, hk ▸ sq, fun d hd => ?_⟩
      exact post_own (q2.later t) S r.rev hd (t.th d hd)
end
@[simp] theorem lLstRev_lst (l : List DV) (h : HP) : lLstRev (.lst l) h = .ok l.reverse h := rfl
end LM

/-! Tables of the module, calls of what they hold; a wider look at the top. -/
namespace LM
open PySem L2

/-! ### the hook -/
section
variable {fa : List He.Fa} {fn : List He.DefD} {ts : List He.Tab} {ck : PySem.W.Frag → Bool} {w : World} {K : PySem.W.Frag}
theorem SaysL.t (c : SaysL fa fn ts ck w K) : He.SaysT fa fn ts w K := congrArg (fun z : AlL => z.1) c
theorem SaysL.d (c : SaysL fa fn ts ck w K) : He.SaysD fa fn K := c.t.d
theorem SaysL.c (c : SaysL fa fn ts ck w K) : ck K = true := congrArg (fun z : AlL => z.2) c
end
theorem end_ofL {l : PySem.W.OpenLaw} {k : Nat} {q : Program} {loose : List Str} {XP : (Str → Option Value) → Heap → Prop} {d : DefRec} {x : Str} {fa : List He.Fa} {fn : List He.DefD} {ts : List He.Tab} {ck : PySem.W.Frag → Bool} {nb : Nat} {gl : PySem.W.Frag → Glue} {m : List DV → M DV}
    (hn : l.most = some 63) (hdf : d.params.defaults = []) (hd : d.name = ("law" : Str)) (hr : Room k callerA) (hK : ∀ K, (gl K).K = K)
    (hF : ∀ (w : World) (mg : Str → Option Value) (h : Heap) (K : PySem.W.Frag), K.In h → h.Ns mainGlobals mg → SaysL fa fn ts ck w K → mg "law" = some (.ref (He.ga K "law")) ∧
      ∃ fd, (∀ (s : Shared) (u : Value), BindsTo s fd ⟨[u], []⟩ [(x, u)]) ∧ ∀ base : Heap, K.In base → base.Ns mainGlobals mg → FnOk l.prog w K mg base (L2N.CX l.prog w) k (He.ga K "law") fd [x] (spF (gl K) 1 m))
    (good : ∀ ns : List Int, ns.length ≤ 63 → (∀ k ∈ ns, Builtin.Int.intBits k ≤ 1048576) → ∃ h', m [.scr ns] [] = .ok (.bl true) h') :
    PySem.W.WalkO q loose XP (hookL nb fa fn ts ck).says l.row.toRowW d [] (fun f vs => PySem.call f vs) := by
  refine Att.attach_callB hn hdf fun w s₀ s₁ mg mb f o pm cd doc a vs ns G Y ho hd2 hcd hmg hobj hints hlen hbits hg => ?_
  obtain ⟨K, KX, c⟩ := Y
  rw [hd] at hmg
  obtain ⟨e, fd, hb, hf⟩ := hF w mg _ K KX G.T.g c
  rw [e] at hmg
  cases hmg
  refine law_call KX G.T.g G.T.b G.T.builtins G.T.nolimit hg hobj hints (Nat.le_trans hlen (by decide +kernel)) hr (fun base h1 h2 => hf base h1 h2) hb (fun H hO hS => ?_) fun H e2 s2 z => cx_no z
  exact sp_good hO (by rw [hK]; exact hS) (good ns hlen hbits)

/-! ### tables -/
/-- what a table's entry holds: a def, by name and number; a tuple of numbers -/
def Te.dv : Te → DV
  | .fn _ id => .fn id
  | .tup l => .tup (nums l)
  | .int i => .int i
theorem isInts_ok : ∀ {l : List Int} {vs : List Value}, isInts l vs = true → Vals (l.map V.int) vs
  | [], [], _ => .nil
  | [], _ :: _, h => by cases h
  | i :: r, v :: s, h => by
    cases v with
    | int j t =>
      obtain ⟨a, b⟩ := He.ba (show (decide (i = j) && isInts r s) = true from h)
      have e : i = j := of_decide_eq_true a
      subst e
      exact .cons ⟨t, rfl⟩ (isInts_ok b)
    | _ => cases h
  | _ :: _, [], h => by cases h
/-- the table at a -/
theorem reps_nums {g : Glue} {W : Wd} {H : Hp} (l : List Int) : Reps g W H (nums l) (l.map V.int) := reps_ints l
theorem Te.rep {g : Glue} {t : Te} {u : Value} (hf : ∀ x id, t = .fn x id → He.ga g.K x = g.fA id) (h : t.is g.K u = true) : ∃ v, RelV v u ∧ ∀ W H, Rep g W H t.dv v := by
  cases t with
  | fn x id =>
    cases u with
    | ref a =>
      have e : a = He.ga g.K x := of_decide_eq_true h
      refine ⟨.ref a, rfl, fun W H => ?_⟩
      simp only [Te.dv, Rep]
      rw [e, hf x id rfl]
    | _ => cases h
  | int i =>
    cases u with
    | int j t =>
      have e : i = j := of_decide_eq_true h
      subst e
      refine ⟨.int i, ⟨t, rfl⟩, fun W H => ?_⟩
      simp only [Te.dv, Rep]
    | _ => cases h
  | tup l =>
    cases u with
    | ref a =>
      have h1 : (match g.K.lookup a with
        | some ⟨.type c, _, .seq its _, _⟩ => decide (c = "tuple") && (Nat.ble its.size 1000 && isInts l its.toList)
        | _ => false) = true := h
      cases q : g.K.lookup a with
      | none =>
        rw [q] at h1
        cases h1
      | some o =>
        obtain ⟨oc, od, dt, osl⟩ := o
        rw [q] at h1
        cases oc with
        | type c =>
          cases dt with
          | seq its n =>
            obtain ⟨h2, h3⟩ := He.ba (show (decide (c = "tuple") && (Nat.ble its.size 1000 && isInts l its.toList)) = true from h1)
            obtain ⟨h4, h5⟩ := He.ba h3
            have ec : c = "tuple" := of_decide_eq_true h2
            have sz : its.size ≤ 1000 := Nat.le_of_ble_eq_true h4
            refine ⟨.ref a, rfl, fun W H => ?_⟩
            simp only [Te.dv, Rep]
            refine ⟨a, l.map V.int, rfl, .inr ⟨_, its, n, q, by rw [ec], rfl, ?_, isInts_ok h5⟩, reps_nums l⟩
            rw [line_LN]
            show its.size ≤ 16777216
            omega
          | _ => cases h1
        | _ => cases dt <;> cases h1
    | _ => cases h
/-- the module's name x is such a table -/
structure TabOk (T : Tp) (x : Str) (es : List (Str × Te)) : Prop where
  ex : ∃ d, T.mg x = some (.ref d) ∧ ∀ z t, es.lookup z = some t → ∃ v, KDct T.g.K T.w d z v ∧ ∀ W H, Rep T.g W H t.dv v
theorem mem_of_lookup {A : Type} : ∀ {es : List (Str × A)} {z : Str} {t : A}, es.lookup z = some t → (z, t) ∈ es
  | [], _, _, h => by cases h
  | (y, u) :: r, z, t, h => by
    rw [List.lookup_cons] at h
    cases q : (z == y) with
    | true =>
      rw [q] at h
      have e1 : z = y := eq_of_beq q
      have e2 : u = t := Option.some.inj h
      subst e1 e2
      exact List.mem_cons_self
    | false =>
      rw [q] at h
      exact List.mem_cons_of_mem _ (mem_of_lookup h)
theorem tab_of {T : Tp} {x : Str} {es : List (Str × Te)} {d : Addr} {en : Array DictEntry} {n : Nat} (hm : T.mg x = some (.ref d)) (D : KDict T.g.K T.w d en n) (b : tabB T.g.K d es = true) (hf : ∀ q ∈ es, ∀ x id, q.2 = .fn x id → He.ga T.g.K x = T.g.fA id) : TabOk T x es := by
  refine ⟨d, hm, fun z t e => ?_⟩
  have m := mem_of_lookup e
  have b1 := List.all_eq_true.mp b (z, t) m
  cases q : PySem.W.nsIn T.g.K d z with
  | none =>
    simp only [q] at b1
    cases b1
  | some r =>
    cases r with
    | none =>
      simp only [q] at b1
      cases b1
    | some u =>
      simp only [q] at b1
      obtain ⟨v, rv, rp⟩ := Te.rep (hf (z, t) m) b1
      exact ⟨v, ⟨en, n, u, D.at_, D.lit, q, rv⟩, rp⟩
def vTab (es : List (Str × Te)) (x : DV) : M DV := match x with
  | .str z => (match es.lookup z with
    | some t => pure t.dv
    | none => M.bad)
  | _ => M.bad
section
variable {T : Tp} {X : Cx} {c : Cn} {N : List Str} {k : Nat} {sc : Scope} {x : Str} {pos p1 : Pos} {b : Expr} {mb : En → M DV}
theorem k_tab {es : List (Str × Te)} (hX : XEx T X c N k sc) (t : TabOk T x es) (hg : Gl X x) (hb : PE X b (RE c mb)) (hs : PlainIx b := by intro _ _; rfl) (hd : (x == ("__debug__" : Str)) = false := by decide) : PE X (.Subscript (.Name x p1) b pos) (RE c (e1 (vTab es) mb)) := by
  obtain ⟨d, hm, H⟩ := t.ex
  refine pe_imp (pe_ix ix_kdict (pe_glob (v := .ref d) hg (by rw [hX.pm]; exact hm) rfl hd) hb hs) fun s Hh Q q => ?_
  show RE c mb s Hh fun v H1 => rIxD X.K X.w (.ref d) v H1 Q
  refine RX.bind (K := fun v H1 => ∃ p z v2, V.ref d = .ref p ∧ v = V.str z ∧ KDct X.K X.w p z v2 ∧ Q v2 H1) q fun W e W1 H1 y v h1 t S r q2 => ?_
  unfold vTab at q2
  cases y with
  | str z =>
    simp only [] at q2
    cases z2 : es.lookup z with
    | none =>
      rw [z2] at q2
      exact q2.elim
    | some t =>
      rw [z2] at q2
      obtain ⟨v2, kd, rp⟩ := H z t z2
      simp only [Rep] at r
      subst r
      refine ⟨d, z, v2, rfl, rfl, by rw [hX.pk, hX.pw]; exact kd, q2.ret S ?_⟩
      show Rep c.g _ _ _ _
      rw [hX.pg]
      exact rp _ _
  | _ => exact q2.elim
end
@[simp] theorem vTab_app (es : List (Str × Te)) (z : Str) (h : HP) {t : Te} (q : es.lookup z = some t) : vTab es (.str z) h = .ok t.dv h := by
  unfold vTab
  simp only [q]
  rfl

/-! ### calls of what an expression gives -/
/-- the defs that may be called -/
abbrev Fns := List (Nat × (List DV → M DV))
def fnOf (fs : Fns) (f : DV) : Option (List DV → M DV) := match f with
  | .fn i => fs.lookup i
  | _ => none
def orBad (o : Option (List DV → M DV)) (ms : M (List DV)) : M DV := match o with
  | some m => ms >>= m
  | none => M.bad
def eCallF (fs : Fns) (mf : En → M DV) (ms : En → M (List DV)) : En → M DV := fun e => mf e >>= fun f => orBad (fnOf fs f) (ms e)
/-- what is known of each -/
structure FoL (T : Tp) (k n : Nat) (fs : Fns) : Prop where
  at_ : ∀ (i : Nat) (m : List DV → M DV), (i, m) ∈ fs → ∃ x, Fo T x i k n m
theorem FoL.nil {T : Tp} {k n : Nat} : FoL T k n [] := ⟨fun _ _ h => by cases h⟩
theorem FoL.cons {T : Tp} {x : Str} {j k n i : Nat} {m : List DV → M DV} {fs : Fns} (F : Fo T x i j n m) (hj : j ≤ k) (L : FoL T k n fs) : FoL T k n ((i, m) :: fs) := ⟨fun i2 m2 h => by
  rcases List.mem_cons.mp h with e | e
  · cases e
    exact ⟨x, F.mono hj⟩
  · exact L.at_ i2 m2 e⟩
theorem mem_of_lookupN {A : Type} : ∀ {es : List (Nat × A)} {z : Nat} {t : A}, es.lookup z = some t → (z, t) ∈ es
  | [], _, _, h => by cases h
  | (y, u) :: r, z, t, h => by
    rw [List.lookup_cons] at h
    cases q : (z == y) with
    | true =>
      rw [q] at h
      have e1 : z = y := eq_of_beq q
      have e2 : u = t := Option.some.inj h
      subst e1 e2
      exact List.mem_cons_self
    | false =>
      rw [q] at h
      exact List.mem_cons_of_mem _ (mem_of_lookupN h)
section
variable {T : Tp} {X : Cx} {c : Cn} {N : List Str} {k n : Nat} {sc : Scope} {pos : Pos} {fe ex : Expr} {es : List Expr} {mf : En → M DV} {ms : En → M (List DV)} {fs : Fns}
theorem c_callF (hX : XEx T X c N k sc) (L : FoL T k n fs) (hf : PE X fe (RE c mf)) (ha : PA X (ex :: es) (RA c n ms))
    (ht : eval (.Call fe (ex :: es) [] pos) X.env = (do callWith pos (← eval fe X.env) [] (backTo pos (starEach (ex :: es) X.env)) (backToKw pos (keywordEach [] X.env))) := by rfl)
    (he : starEach (ex :: es) X.env = (false, eval ex X.env) :: starEach es X.env := by rfl) (hpl : (backTo pos (starEach es X.env)).any (·.1) = false := by rfl) :
    PE X (.Call fe (ex :: es) [] pos) (RE c (eCallF fs mf ms)) := by
  refine ⟨fun pins s σ H Q I q => ?_⟩
  have q1 : RX c (rV c) mf σ H fun y H1 => ∃ f id m, y = V.ref f ∧ f = c.g.fA id ∧ (id, m) ∈ fs ∧ RX c (rVs c n) ms σ H1 fun vs H2 => spF c.g n m (vs ++ []) H2 Q (WE c.x σ) := by
    refine RX.bind (k := fun e f => orBad (fnOf fs f) (ms e)) q fun W e W1 H1 f v h1 t S r q2 => ?_
    cases z : fnOf fs f with
    | none =>
      rw [z] at q2
      exact q2.elim
    | some m =>
      rw [z] at q2
      unfold fnOf at z
      cases f with
      | fn id =>
        simp only [Rep] at r
        exact ⟨_, id, m, r, rfl, mem_of_lookupN z, call_use (m := m) ⟨W1, e, h1, S, q2⟩⟩
      | _ => cases z
  refine PyProof.Rows.Call_ (thn (hf.run pins s σ H _ I q1) fun u s1 ⟨y, H1, I1, ry, f, id, m, ey, ef, mem, q2⟩ => ?_) ht
  subst ey ef
  obtain rfl : u = Value.ref (c.g.fA id) := ry
  obtain ⟨x, F⟩ := L.at_ id m mem
  obtain ⟨gl, kp, fd, ps, b, fo⟩ := F.at hX
  refine PySem.W.callWith_K (h₀ := X.base) I1.ok.mod.kin kp (thn (ha.run pos pins s1 σ H1 _ I1 q2) fun us s2 ⟨vs, H2, I2, r, q3⟩ => ⟨I2.kIn, ?_⟩) he hpl
  exact run_fnSD fo hX.room b .nil (L2N.passAt hX.tk σ) I2 r q3
theorem c_callFN {x : Str} {p1 : Pos} (hX : XEx T X c N k sc) (L : FoL T k n fs) (hf : PE X (.Name x p1) (RE c mf)) (ha : PA X (ex :: es) (RA c n ms))
    (he : starEach (ex :: es) X.env = (false, eval ex X.env) :: starEach es X.env := by rfl) (hpl : (backTo pos (starEach es X.env)).any (·.1) = false := by rfl) :
    PE X (.Call (.Name x p1) (ex :: es) [] pos) (RE c (eCallF fs mf ms)) := by
  refine ⟨fun pins s σ H Q I q => ?_⟩
  have q1 : RX c (rV c) mf σ H fun y H1 => ∃ f id m, y = V.ref f ∧ f = c.g.fA id ∧ (id, m) ∈ fs ∧ RX c (rVs c n) ms σ H1 fun vs H2 => spF c.g n m (vs ++ []) H2 Q (WE c.x σ) := by
    refine RX.bind (k := fun e f => orBad (fnOf fs f) (ms e)) q fun W e W1 H1 f v h1 t S r q2 => ?_
    cases z : fnOf fs f with
    | none =>
      rw [z] at q2
      exact q2.elim
    | some m =>
      rw [z] at q2
      unfold fnOf at z
      cases f with
      | fn id =>
        simp only [Rep] at r
        exact ⟨_, id, m, r, rfl, mem_of_lookupN z, call_use (m := m) ⟨W1, e, h1, S, q2⟩⟩
      | _ => cases z
  refine wpAny_Call_Name_kw (thn (hf.run pins s σ H _ I q1) fun u s1 ⟨y, H1, I1, ry, f, id, m, ey, ef, mem, q2⟩ => ?_)
  subst ey ef
  obtain rfl : u = Value.ref (c.g.fA id) := ry
  obtain ⟨xf, F⟩ := L.at_ id m mem
  obtain ⟨gl, kp, fd, ps, b, fo⟩ := F.at hX
  refine PySem.W.callWith_K (h₀ := X.base) I1.ok.mod.kin kp (thn (ha.run pos pins s1 σ H1 _ I1 q2) fun us s2 ⟨vs, H2, I2, r, q3⟩ => ⟨I2.kIn, ?_⟩) he hpl
  exact run_fnSD fo hX.room b .nil (L2N.passAt hX.tk σ) I2 r q3
end
@[simp] theorem eCallF_app (fs : Fns) (mf : En → M DV) (ms : En → M (List DV)) (e : En) (h : HP) : eCallF fs mf ms e h = bR (mf e h) fun f h => orBad (fnOf fs f) (ms e) h := rfl
theorem orBad_some (m : List DV → M DV) (ms : M (List DV)) (h : HP) : orBad (some m) ms h = bR (ms h) fun l h => m l h := rfl
/-! ### texts -/
@[simp] theorem vEq_str (h : HP) (a b : Str) (ha : (PyData.str a).canLay0 = true) (hb : (PyData.str b).canLay0 = true) : vEq (.str a) (.str b) h = .ok (.bl (decide (a = b))) h := by
  have sh : ∀ a : Str, (PyData.str a).canLay0 = true → SeqAt.shaped (.str a) = true := fun a h => by
    unfold SeqAt.shaped
    rw [h]
    rfl
  have e : eqD (.str a) (.str b) = some (decide (a = b)) := by
    show (if (SeqAt.shaped (.str a) && SeqAt.shaped (.str b)) = true then some (PyData.eqv (.str a) (.str b)) else none) = _
    rw [sh a ha, sh b hb, if_pos (by rfl)]
    show some (a == b) = _
    congr 1
  unfold vEq
  rw [e]
  rfl
theorem k_cint {T : Tp} {X : Cx} {c : Cn} {N : List Str} {k : Nat} {sc : Scope} {x : Str} {pos : Pos} {i : Int} (h : XEx T X c N k sc) (hg : Gl X x) (hm : ∃ t, T.mg x = some (.int i t)) (hd : (x == ("__debug__" : Str)) = false := by decide) : PE X (.Name x pos) (RE c (eC (.int i))) := by
  obtain ⟨t, e⟩ := hm
  exact c_glob hg ⟨_, .int i, by rw [h.pm]; exact e, ⟨t, rfl⟩, fun W H => by simp only [Rep]⟩ hd
end LM

/-! A list of one's own is lent to a call that does not keep it. -/
namespace LM
open PySem L2

mutual
/-- names no list, dict or object -/
def flatR : DV → Bool
  | .non => true
  | .bl _ => true
  | .int _ => true
  | .str _ => true
  | .tup l => flatRs l
  | .scr _ => true
  | .fn _ => true
  | .ref _ => true
  | _ => false
def flatRs : List DV → Bool
  | [] => true
  | d :: ds => flatR d && flatRs ds
end
def flatO : HObj → Bool
  | .lst l => flatRs l
  | .obj _ l => flatRs l
mutual
theorem Rep.flat {g : Glue} {W W' : Wd} {H : Hp} (hr : W'.r = W.r) : ∀ (d : DV) (v : V), flatR d = true → Rep g W H d v → Rep g W' H d v
  | .non, v, _, r => by simpa only [Rep] using r
  | .bl b, v, _, r => by simpa only [Rep] using r
  | .int i, v, _, r => by simpa only [Rep] using r
  | .str s, v, _, r => by simpa only [Rep] using r
  | .tup l, v, q, r => by
    simp only [Rep] at r ⊢
    obtain ⟨a, vs, e, s, rs⟩ := r
    exact ⟨a, vs, e, s, Reps.flat hr l vs (by unfold flatR at q; exact q) rs⟩
  | .scr l, v, _, r => by simpa only [Rep] using r
  | .fn f, v, _, r => by simpa only [Rep] using r
  | .ref p, v, _, r => by
    simp only [Rep] at r ⊢
    rw [hr]
    exact r
  | .lst l, v, q, r => by
    unfold flatR at q
    cases q
  | .dct ks l, v, q, r => by
    unfold flatR at q
    cases q
  | .obj k l, v, q, r => by
    unfold flatR at q
    cases q
theorem Reps.flat {g : Glue} {W W' : Wd} {H : Hp} (hr : W'.r = W.r) : ∀ (l : List DV) (vs : List V), flatRs l = true → Reps g W H l vs → Reps g W' H l vs
  | [], vs, _, r => by simpa only [Reps] using r
  | d :: ds, vs, q, r => by
    simp only [Reps] at r ⊢
    obtain ⟨v, t, e, r1, r2⟩ := r
    unfold flatRs at q
    obtain ⟨q1, q2⟩ := Bool.and_eq_true_iff.mp q
    exact ⟨v, t, e, Rep.flat hr d v q1 r1, Reps.flat hr ds t q2 r2⟩
end
/-- the world in which these are frozen -/
def Wd.frzs (W : Wd) (A : List Addr) : Wd := ⟨fun b => W.F b ∨ b ∈ A, W.r⟩
def Wd.thaw (W' W : Wd) (A : List Addr) : Wd := ⟨fun b => W'.F b ∧ (W.F b ∨ b ∉ A), W'.r⟩
section
variable {g : Glue} {W W' : Wd} {h h' : HP} {H H' : Hp} {A : List Addr}
theorem frzs_per : Per W H (W.frzs A) H := ⟨fun _ f => .inl f, fun _ _ e => e, fun _ _ => rfl, fun _ _ e => e, fun _ _ _ e => e⟩
theorem HSim.frzs (S : HSim g W h H) (ha : ∀ a ∈ A, (∃ o, H a = some o) ∧ a ∉ W.r) : HSim g (W.frzs A) h H := by
  refine ⟨S.len, S.nd, fun p o a e1 e2 => ?_, fun a f => ?_⟩
  · obtain ⟨r, n⟩ := S.o p o a e1 e2
    refine ⟨?_, fun f => f.elim n fun m => (ha a m).2 (List.mem_of_getElem? e2)⟩
    cases o with
    | lst l =>
      obtain ⟨vs, e3, r3⟩ := r
      exact ⟨vs, e3, r3.per frzs_per _ _⟩
    | obj k l =>
      obtain ⟨dx, vs, e3, e4, r3⟩ := r
      exact ⟨dx, vs, e3, e4, r3.per frzs_per _ _⟩
  · rcases f with f | f
    · exact S.fs a f
    · exact (ha a f).1
theorem Step.thaw (t : Step (W.frzs A) H W' H') : Step W H (W'.thaw W A) H' :=
  ⟨fun a f => ⟨t.f a (.inl f), .inl f⟩, t.r, t.k, t.th, fun a f => by
    rcases t.nf a f.1 with q | q | q
    · rcases q with q | q
      · exact .inl q
      · rcases f.2 with f2 | f2
        · exact .inl f2
        · exact (f2 q).elim
    · exact .inr (.inl q)
    · exact .inr (.inr q), t.nr⟩
theorem HSim.thaw (S : HSim g W' h' H') (fl : h'.all flatO = true) : HSim g (W'.thaw W A) h' H' := by
  refine ⟨S.len, S.nd, fun p o a e1 e2 => ?_, fun a f => S.fs a f.1⟩
  obtain ⟨r, n⟩ := S.o p o a e1 e2
  refine ⟨?_, fun f => n f.1⟩
  have fo := List.all_eq_true.mp fl o (List.mem_of_getElem? e1)
  cases o with
  | lst l =>
    obtain ⟨vs, e3, r3⟩ := r
    exact ⟨vs, e3, Reps.flat (W := W') (W' := W'.thaw W A) rfl _ _ fo r3⟩
  | obj k l =>
    obtain ⟨dx, vs, e3, e4, r3⟩ := r
    exact ⟨dx, vs, e3, e4, Reps.flat (W := W') (W' := W'.thaw W A) rfl _ _ fo r3⟩
end
def RepsB (g : Glue) (W : Wd) (H : Hp) : List DV → List V → Prop
  | [], vs => vs = []
  | d :: ds, vs => ∃ v r, vs = v :: r ∧ RepB g W H d v ∧ RepsB g W H ds r
abbrev rVsB (c : Cn) (n : Nat) : Rl (List DV) (List V) := fun _ W H d v => RepsB c.g W H d v ∧ d.length = n
abbrev RAB (c : Cn) (n : Nat) (m : En → M (List DV)) : TA := RX c (rVsB c n) m
/-- the addresses that are lent -/
theorem RepsB.frz {g : Glue} {W : Wd} {H : Hp} : ∀ {ds : List DV} {vs : List V}, RepsB g W H ds vs → ∃ A : List Addr, (∀ a ∈ A, (∃ o, H a = some o) ∧ a ∉ W.r) ∧ ∀ B, (∀ a ∈ A, a ∈ B) → Reps g (W.frzs B) H ds vs
  | [], vs, r => by
    have e : vs = [] := r
    rw [e]
    exact ⟨[], (fun a (m : a ∈ []) => nomatch m), fun B _ => Reps.nil⟩
  | d :: ds, vs, r => by
    obtain ⟨v, t, e, r1, r2⟩ := r
    subst e
    obtain ⟨A, h1, h2⟩ := RepsB.frz r2
    rcases r1 with r1 | ⟨l, a, us, e1, e2, e3, r3, n⟩ | ⟨ks, l, a, us, e1, e2, e3, e4, r3, n⟩
    · exact ⟨A, h1, fun B hB => .cons (r1.per frzs_per _ _) (h2 B hB)⟩
    · subst e1 e2
      refine ⟨a :: A, fun b hb => ?_, fun B hB => .cons ?_ (h2 B fun b hb => hB b (List.mem_cons_of_mem _ hb))⟩
      · rcases List.mem_cons.mp hb with z | z
        · rw [z]
          exact ⟨⟨_, e3⟩, n⟩
        · exact h1 b z
      · simp only [Rep]
        exact ⟨a, us, rfl, .inr (hB a List.mem_cons_self), e3, r3.per frzs_per _ _⟩
    · subst e1 e2
      refine ⟨a :: A, fun b hb => ?_, fun B hB => .cons ?_ (h2 B fun b hb => hB b (List.mem_cons_of_mem _ hb))⟩
      · rcases List.mem_cons.mp hb with z | z
        · rw [z]
          exact ⟨⟨_, e3⟩, n⟩
        · exact h1 b z
      · simp only [Rep]
        exact ⟨a, us, rfl, .inr (hB a List.mem_cons_self), e3, e4, r3.per frzs_per _ _⟩
def flatM (m : M DV) : M DV := fun h => match m h with
  | .ok d h' => if flatR d && h'.all flatO then .ok d h' else .bad
  | .exc x h' => if flatRs x.l && h'.all flatO then .exc x h' else .bad
  | .bad => .bad
/-- f(e, ..), some of these lent -/
def eCallL (m : List DV → M DV) (ms : En → M (List DV)) : En → M DV := fun e => ms e >>= fun l => flatM (m l)
section
variable {T : Tp} {X : Cx} {c : Cn} {N : List Str} {k n : Nat} {sc : Scope} {pos p1 : Pos} {ex : Expr} {es : List Expr} {m1 : En → M DV} {ms : En → M (List DV)}
theorem stays_Bs {c : Cn} : Stays c (fun W H d v => RepsB c.g W H d v) := ⟨fun {W W' H H' h d v} S t r => by
  induction d generalizing v with
  | nil => exact r
  | cons x l ih =>
    obtain ⟨u, w, e, r1, r2⟩ := r
    exact ⟨u, w, e, stays_B.go S t r1, ih r2⟩⟩
theorem cb_nil : PA X [] (RAB c 0 aNil) := pa_imp pa_nil fun s H Q q => by
  obtain ⟨W, e, h, S, q⟩ := q
  exact q.ret S ⟨rfl, rfl⟩
theorem cb_cons (ha : PE X ex (RB c m1)) (hr : PA X es (RAB c n ms)) (hs : starEach (ex :: es) X.env = (false, eval ex X.env) :: starEach es X.env := by rfl) : PA X (ex :: es) (RAB c (n + 1) (aCons m1 ms)) :=
  pa_imp (pa_cons ha hr hs) fun s H Q q => RX.bind q fun W e W1 H1 x v h1 t S rx q2 => ⟨W1, e, h1, S, q2.bind fun W2 H2 xs vs h2 t2 S2 rs q3 => by
    have r1 := stays_B.go S.hs t2 rx
    exact q3.ret S2 ⟨⟨v, vs, rfl, r1, rs.1⟩, by rw [List.length_cons, rs.2]⟩⟩
theorem callL_use {m : List DV → M DV} {s : L2.St} {H : Hp} {Q : VK} (q : RE c (eCallL m ms) s H Q) : RX c (rVsB c n) ms s H fun vs H1 => spF c.g n m (vs ++ []) H1 Q (WE c.x s) := RX.bind (k := fun _ l => flatM (m l)) q fun W e W1 H1 ds vs h1 t S r q2 => by
  rw [List.append_nil]
  obtain ⟨A, hA, rA⟩ := r.1.frz
  refine ⟨W1.frzs A, h1, ds, S.hs.frzs hA, rA A fun _ h => h, r.2, ?_⟩
  unfold flatM at q2
  generalize m ds h1 = z at q2 ⊢
  cases z with
  | ok d h' =>
    intro W' H' v t' hs' r'
    by_cases fl : (flatR d && h'.all flatO) = true
    · have q3 : Post c (rV c H1) e s W1 H1 (if (flatR d && h'.all flatO) = true then .ok d h' else .bad) Q := q2
      rw [if_pos fl] at q3
      obtain ⟨f1, f2⟩ := Bool.and_eq_true_iff.mp fl
      exact q3 _ H' v t'.thaw (S.step t'.thaw (hs'.thaw f2)) (Rep.flat (W := W') (W' := W'.thaw W1 A) rfl d v f1 r')
    · have q3 : Post c (rV c H1) e s W1 H1 (if (flatR d && h'.all flatO) = true then .ok d h' else .bad) Q := q2
      rw [if_neg fl] at q3
      exact q3.elim
  | exc x h' =>
    intro W' H' cls dd t' hs' r'
    by_cases fl : (flatRs x.l && h'.all flatO) = true
    · have q3 : Post c (rV c H1) e s W1 H1 (if (flatRs x.l && h'.all flatO) = true then .exc x h' else .bad) Q := q2
      rw [if_pos fl] at q3
      obtain ⟨f1, f2⟩ := Bool.and_eq_true_iff.mp fl
      refine q3 _ H' cls dd t'.thaw (S.step t'.thaw (hs'.thaw f2)) ?_
      obtain ⟨ec, r2⟩ := r'
      refine ⟨ec, ?_⟩
      rcases r2 with r2 | ⟨d, us, e1, e2, e3, e4, e5⟩
      · exact .inl r2
      · exact .inr ⟨d, us, e1, e2, e3, Reps.flat (W := W') (W' := W'.thaw W1 A) rfl _ _ f1 e4, e5⟩
    · have q3 : Post c (rV c H1) e s W1 H1 (if (flatRs x.l && h'.all flatO) = true then .exc x h' else .bad) Q := q2
      rw [if_neg fl] at q3
      exact q3.elim
  | bad => exact q2
theorem c_callL {x : Str} {id j : Nat} {m : List DV → M DV} (hX : XEx T X c N k sc) (F : Fo T x id j n m) (hj : j ≤ k) (hg : Gl X x) (ha : PA X (ex :: es) (RAB c n ms))
    (hdb : (x == ("__debug__" : Str)) = false := by decide) (he : starEach (ex :: es) X.env = (false, eval ex X.env) :: starEach es X.env := by rfl) (hpl : (backTo pos (starEach es X.env)).any (·.1) = false := by rfl) :
    PE X (.Call (.Name x p1) (ex :: es) [] pos) (RE c (eCallL m ms)) := by
  obtain ⟨gl, kp, fd, ps, b, f⟩ := F.at hX
  exact pe_imp (pe_callSD f (hX.room.mono hj) hg gl kp b .nil (fun s => L2N.passAt hX.tk s) ha hdb he hpl) fun s H Q q => callL_use q
end
def flR (r : Res DV) : Res DV := match r with
  | .ok d h' => if flatR d && h'.all flatO then .ok d h' else .bad
  | .exc x h' => if flatRs x.l && h'.all flatO then .exc x h' else .bad
  | .bad => .bad
@[simp] theorem eCallL_app (m : List DV → M DV) (ms : En → M (List DV)) (e : En) (h : HP) : eCallL m ms e h = bR (ms e h) fun l h => flR (m l h) := rfl
theorem flR_ok {d : DV} {h : HP} (q : (flatR d && h.all flatO) = true) : flR (.ok d h) = .ok d h := by
  unfold flR
  simp only []
  rw [if_pos q]
theorem flR_exc {x : Ex} {h : HP} (q : (flatRs x.l && h.all flatO) = true) : flR (.exc x h) = .exc x h := by
  unfold flR
  simp only []
  rw [if_pos q]
end LM

/-! raise of own exceptions. -/
namespace LM
open PySem L2

/-- what __init__(self, x, y): self.f = x; self.g = y keeps -/
def spI2 (K : PySem.W.Frag) (f1 f2 : Str) : Sp := fun vs H Q E => ∃ (a C : Addr) (y1 y2 : V), vs = [.ref a, y1, y2] ∧ OexC K C ∧ PySem.W.findIn K (.ref C) f1 = some none ∧ PySem.W.findIn K (.ref C) f2 = some none ∧ H a = some (exo a C none) ∧
  ∀ dx, H dx = none → dx ≠ a → Q .non (upd (upd (upd H dx (exd dx [(f1, y1)])) a (exo a C (some dx))) dx (exd dx [(f2, y2), (f1, y1)]))
def spI1 (K : PySem.W.Frag) (f1 : Str) : Sp := fun vs H Q E => ∃ (a C : Addr) (y1 : V), vs = [.ref a, y1] ∧ OexC K C ∧ PySem.W.findIn K (.ref C) f1 = some none ∧ H a = some (exo a C none) ∧
  ∀ dx, H dx = none → dx ≠ a → Q .non (upd (upd H dx (exd dx [(f1, y1)])) a (exo a C (some dx)))
theorem init2_ok {P : Program} {w : World} {K : PySem.W.Frag} {mg : Str → Option Value} {base : Heap} {CX : CXT} {qual : Str} {params : Arguments} {scope : Scope} {kws : List (Str × V)} {f : Addr} {fd : FuncData} {x1 x2 f1 f2 : Str} {a1 a2 a3 a4 b1 b2 b3 b4 : Pos}
    (F : FunD K "__init__" qual params [.Assign [.Attribute (.Name "self" a1) f1 a2] (.Name x1 a3) a4, .Assign [.Attribute (.Name "self" b1) f2 b2] (.Name x2 b3) b4] scope [] kws f fd) (S : FnScope ["self", x1, x2] ["self", x1, x2] scope)
    (v0 : Vis scope "self") (v1 : Vis scope x1) (v2 : Vis scope x2) (d1 : (x1 == ("__debug__" : Str)) = false) (d2 : (x2 == ("__debug__" : Str)) = false) (c1 : (x1 == ("__classdict__" : Str)) = false) (c2 : (x2 == ("__classdict__" : Str)) = false) :
    FnOk P w K mg base CX 1 f fd ["self", x1, x2] (spI2 K f1 f2) := by
  refine F.ok S (fun vs H Q E h => ?_) (fun cdv A outer s H vs Q E hr h => ⟨_, PSs.nox (pss_cons (ps_ost (pe_var (i := 0) rfl v0) (pe_var (i := 1) rfl v1 d1 c1)) (pss_one (ps_ost (pe_var (i := 0) rfl v0) (pe_var (i := 2) rfl v2 d2 c2)))), ?_⟩)
  · obtain ⟨a, C, y1, y2, rfl, _⟩ := h
    rfl
  · obtain ⟨a, C, y1, y2, rfl, T, n1, n2, ha, q⟩ := h
    refine ⟨y1, rfl, .ref a, rfl, a, C, rfl, T, n1, .inl ⟨ha, fun dx hd hne => ?_⟩⟩
    refine ⟨y2, rfl, .ref a, rfl, a, C, rfl, T, n2, .inr ⟨dx, [(f1, y1)], upd_same, ?_, (by show 1 ≤ 900; decide), q dx hd hne⟩⟩
    rw [upd_ne hne]
    exact upd_same
theorem init1_ok {P : Program} {w : World} {K : PySem.W.Frag} {mg : Str → Option Value} {base : Heap} {CX : CXT} {qual : Str} {params : Arguments} {scope : Scope} {kws : List (Str × V)} {f : Addr} {fd : FuncData} {x1 f1 : Str} {a1 a2 a3 a4 : Pos}
    (F : FunD K "__init__" qual params [.Assign [.Attribute (.Name "self" a1) f1 a2] (.Name x1 a3) a4] scope [] kws f fd) (S : FnScope ["self", x1] ["self", x1] scope)
    (v0 : Vis scope "self") (v1 : Vis scope x1) (d1 : (x1 == ("__debug__" : Str)) = false) (c1 : (x1 == ("__classdict__" : Str)) = false) : FnOk P w K mg base CX 1 f fd ["self", x1] (spI1 K f1) := by
  refine F.ok S (fun vs H Q E h => ?_) (fun cdv A outer s H vs Q E hr h => ⟨_, PSs.nox (pss_one (ps_ost (pe_var (i := 0) rfl v0) (pe_var (i := 1) rfl v1 d1 c1))), ?_⟩)
  · obtain ⟨a, C, y1, rfl, _⟩ := h
    rfl
  · obtain ⟨a, C, y1, rfl, T, n1, ha, q⟩ := h
    exact ⟨y1, rfl, .ref a, rfl, a, C, rfl, T, n1, .inl ⟨ha, fun dx hd hne => q dx hd hne⟩⟩

/-- what is known of an own exception's class, number cid; two fields -/
structure Eo2 (T : Tp) (x : Str) (cid : Nat) (f1 f2 : Str) : Prop where
  gl : T.mg x = some (.ref (T.g.cA cid))
  fl : T.g.flds cid = [f2, f1]
  oc : OexC T.g.K (T.g.cA cid)
  n1 : PySem.W.findIn T.g.K (.ref (T.g.cA cid)) f1 = some none
  n2 : PySem.W.findIn T.g.K (.ref (T.g.cA cid)) f2 = some none
  ini : ∃ fI fd ps, PySem.W.findIn T.g.K (.ref (T.g.cA cid)) "__init__" = some (some (.ref fI)) ∧ PySem.W.typeIn T.g.K (.ref fI) = some (.type "function") ∧ Binds T.g.K fd ps [] ∧ FnOk T.P T.w T.g.K T.mg T.base (L2N.CX T.P T.w) 1 fI fd ps (spI2 T.g.K f1 f2)
structure Eo1 (T : Tp) (x : Str) (cid : Nat) (f1 : Str) : Prop where
  gl : T.mg x = some (.ref (T.g.cA cid))
  fl : T.g.flds cid = [f1]
  oc : OexC T.g.K (T.g.cA cid)
  n1 : PySem.W.findIn T.g.K (.ref (T.g.cA cid)) f1 = some none
  ini : ∃ fI fd ps, PySem.W.findIn T.g.K (.ref (T.g.cA cid)) "__init__" = some (some (.ref fI)) ∧ PySem.W.typeIn T.g.K (.ref fI) = some (.type "function") ∧ Binds T.g.K fd ps [] ∧ FnOk T.P T.w T.g.K T.mg T.base (L2N.CX T.P T.w) 1 fI fd ps (spI1 T.g.K f1)
def sRaise (cid : Nat) (ms : En → M (List DV)) : Stm := sBind ms fun l e h => .exc ⟨cid, l.reverse⟩ e h
theorem no_pass {P : Program} {w : World} {X : Cx} : Passes (L2N.CX P w) X (fun _ _ _ => False) := fun _ _ _ _ _ _ _ h => by
  obtain ⟨_, _, _, _, _, _, _, _, _, _, _, _, z⟩ := h
  exact z.elim
/-- C(e, ..) of an own class whose __init__ keeps sp; its context is None -/
theorem pmkN_oex {Y : Cx} {CY : CXT} {xn : Str} {ce : Expr} {ces : List Expr} {np cp : Pos} {ta : TA} {C fI : Addr} {kk : Nat} {fd : FuncData} {qs : List Str} {sp : Sp} {us0 : List Value} {vs0 : List V} (T : OexC Y.K C) (iC : PySem.W.findIn Y.K (.ref C) "__init__" = some (some (.ref fI))) (tI : PySem.W.typeIn Y.K (.ref fI) = some (.type "function"))
    (F1 : FnOk Y.prog Y.w Y.K Y.mg Y.base CY kk fI fd qs sp) (rm : Room (kk + 1) Y.A) (bd : Binds Y.K fd qs us0) (vd : Vals vs0 us0) (px : Passes CY Y (fun _ _ _ => False)) (gx : Gl Y xn) (mx : Y.mg xn = some (.ref C)) (pa : PA Y (ce :: ces) ta)
    (nb : (xn == ("__debug__" : Str)) = false := by decide) (se : starEach (ce :: ces) Y.env = (false, eval ce Y.env) :: starEach ces Y.env := by rfl) (ns : (backTo cp (starEach ces Y.env)).any (·.1) = false := by rfl) :
    L2N.PMk Y (.Call (.Name xn np) (ce :: ces) [] cp) (tMkO C sp vs0 ta) := by
  intro pins s σ H Q I0 w0
  obtain ⟨nm, q, N, bs, bm, sn, sub, ab, col, dd, k0, k1, k2, k3, k5, cC, rbm⟩ := T.cls
  refine wpAny_Call_Name_kw (ld_glob I0 gx mx ?_ nb)
  refine PySem.W.callWith_K (h₀ := Y.base) I0.ok.mod.kin T.kC (thn (pa.run cp pins s σ H _ I0 w0) fun us s1 ⟨vs, H1, I1, r1, lz, w1⟩ => ⟨I1.kIn, ?_⟩) se ns
  show wpAny _ _ (call (.ref C) us) _ _ _
  obtain ⟨hh, gg, dr, tk, os⟩ := s1
  have up1 : hh.objs.size ≤ hh.objs.size + 1 := Nat.le_succ _
  have fr1 : H1 (hh.objs.size + 1) = none := I1.hok.fresh up1
  have w2 := w1 (hh.objs.size + 1) fr1
  have old : ∀ b o, hh.get? b = some o → ((hh.push (PySem.W.kdv_tup us)).push (PySem.HandSPX.excO C hh.objs.size)).get? b = some o := fun b o z => Heap.get?_push_of_some _ (Heap.get?_push_of_some _ z)
  have mine : ((hh.push (PySem.W.kdv_tup us)).push (PySem.HandSPX.excO C hh.objs.size)).get? (hh.objs.size + 1) = some (PySem.HandSPX.excO C hh.objs.size) := by heap_get
  have I2 : Inv Y pins σ (upd H1 (hh.objs.size + 1) (exo (hh.objs.size + 1) C none)) ⟨(hh.push (PySem.W.kdv_tup us)).push (PySem.HandSPX.excO C hh.objs.size), gg, dr, tk, os⟩ :=
    I1.laid (t' := tk) (a := hh.objs.size + 1) (o := exo (hh.objs.size + 1) C none) (h' := (hh.push (PySem.W.kdv_tup us)).push (PySem.HandSPX.excO C hh.objs.size)) old up1 (exo_ok mine)
  have r2 : Vals (V.ref (hh.objs.size + 1) :: (vs ++ vs0)) (Value.ref (hh.objs.size + 1) :: (us ++ us0)) := .cons rfl (r1.append vd)
  have len : (Value.ref (hh.objs.size + 1) :: us ++ us0).length = qs.length := by
    have z := r2.length
    rw [F1.len _ _ _ _ w2] at z
    exact z.symm
  have few : us.length ≤ sizeLine := by
    rw [← Paired.length r1, sizeLine_eq]
    omega
  refine wpAny_call (PySem.HandSPX.call_own F.excBase_ValueError (fun Z => PySem.HandSPX.refsVE_contains Z bm rbm) (I1.kIn _ _ cC) (PySem.W.looks_findIn I1.kIn iC) (fun me => PySem.W.bind_fn I1.kIn me tI) few
    (codeAny_mono (F1.run _ Y.stack _ _ ⟨Value.ref (hh.objs.size + 1) :: us, []⟩ (Value.ref (hh.objs.size + 1) :: (us ++ us0)) _ _ (fun _ _ _ => False) (rm.make C us []) (I2.env0.make C us []) (bd _ (Value.ref (hh.objs.size + 1) :: us) I2.kIn len) r2 w2) fun r s' w3 => ?_))
  cases r with
  | error er => exact px pins σ _ _ er s' I2 w3
  | ok fl =>
    cases fl with
    | ret u =>
      obtain ⟨v, H2, o2, b2, un2, ok2, rv, ev, d, fs, ea, ed, hd1, w4⟩ := w3
      subst ev
      obtain ⟨h2, g2, d2, t2, os'⟩ := s'
      obtain ⟨t0, G, J, kG, ge, me, na⟩ := mk_end0 (d2 := d2) (t2 := t2) I1 up1 old un2 ok2 o2 b2 ea ed hd1
      exact ⟨rv, hh.objs.size + 1, _, _, ⟨G, g2, d2, t2, os'⟩, _, .ref C, some d, rfl, J, kG, ge, me, ⟨rfl, rfl, fun vs z => by
        cases z
        rfl⟩, rfl, rfl, na, rfl, b2, raises_own T.exC T.tyC, w4⟩
    | next => exact w3.elim
    | brk => exact w3.elim
    | cont => exact w3.elim
section
variable {T : Tp} {X : Cx} {c : Cn} {N : List Str} {k : Nat} {sc : Scope} {x : Str} {pos p p1 : Pos} {e1 e2 : Expr} {ms : En → M (List DV)} {cid : Nat} {f1 f2 : Str}
/-- the exception's dict stands -/
theorem raise_end {C : Addr} {W1 : Wd} {e : En} {h1 : HP} {s : L2.St} {H1 H2 : Hp} {D : Ends} {l : List DV} {vs : List V} {dx : Addr} (S1 : Sim c W1 e h1 s H1) (q : PostS c W1 H1 (.exc ⟨cid, l⟩ e h1) D) (hC : C = c.g.cA cid) (hd : H1 dx = none)
    (eH : H2 = upd H1 dx (.xd ((c.g.flds cid).zip vs))) (hl : vs.length = (c.g.flds cid).length) (r : Reps c.g W1 H1 l vs) : c.x (.ref C) (some dx) s H2 := by
  subst eH
  obtain ⟨t, S2⟩ := S1.new (o := .xd ((c.g.flds cid).zip vs)) hd
  have pr := t.per S1.hs
  refine q W1 s _ (.ref C) (some dx) pr S2 ⟨by rw [hC], .inr ⟨dx, vs, rfl, upd_same, hl, r.per pr _ _, not_r S1.hs hd⟩⟩
theorem s_raise2 (hX : XSt T X c N k sc) (o : Eo2 T x cid f1 f2) (hk : 2 ≤ k) (hg : Gl X x) (ha : PA X [e1, e2] (RA c 2 ms)) (hdb : (x == ("__debug__" : Str)) = false := by decide) (he : starEach [e1, e2] X.env = (false, eval e1 X.env) :: starEach [e2] X.env := by rfl)
    (hpl : (backTo p (starEach [e2] X.env)).any (·.1) = false := by rfl) : PS X (.Raise (some (.Call (.Name x p1) [e1, e2] [] p)) none pos) (RS c (sRaise cid ms)) := by
  have eg := hX.e.pg
  obtain ⟨fI, fd, ps, i1, i2, b, fo⟩ := o.ini
  have room : Room 2 X.A := hX.e.room.mono hk
  refine ps_imp (L2N.ps_raise hX.e.calm hX.e.tk (pmkN_oex (Y := X) (C := T.g.cA cid) (fI := fI) (kk := 1) (sp := spI2 T.g.K f1 f2) (by rw [hX.e.pk]; exact o.oc) (by rw [hX.e.pk]; exact i1) (by rw [hX.e.pk]; exact i2) (by rw [hX.e.pp, hX.e.pw, hX.e.pk, hX.e.pm, hX.e.pb]; exact fo) room (by rw [hX.e.pk]; exact b) .nil no_pass hg (by rw [hX.e.pm]; exact o.gl) ha hdb he hpl)) fun D s H q => ?_
  refine sb_use q fun W e W1 H1 l vs h1 t S r q1 => ?_
  obtain ⟨r, rl⟩ := r
  obtain ⟨d1, d2, el⟩ : ∃ d1 d2, l = [d1, d2] := by
    match l, rl with
    | [a, b], _ => exact ⟨a, b, rfl⟩
  subst el
  obtain ⟨y1, t1, ev, r1, r2⟩ := (show ∃ v r, vs = v :: r ∧ Rep c.g W1 H1 d1 v ∧ Reps c.g W1 H1 [d2] r by simpa only [Reps] using r)
  obtain ⟨y2, t2, ev2, r3, r4⟩ := (show ∃ v r, t1 = v :: r ∧ Rep c.g W1 H1 d2 v ∧ Reps c.g W1 H1 [] r by simpa only [Reps] using r2)
  have et : t2 = [] := by simpa only [Reps] using r4
  subst ev ev2 et
  refine ⟨by simp, fun a hna => ⟨a, T.g.cA cid, y1, y2, rfl, o.oc, o.n1, o.n2, upd_same, fun dx hd hne => ⟨rfl, dx, [(f2, y2), (f1, y1)], ?_, upd_same, ?_, ?_⟩⟩⟩
  · rw [upd_ne (Ne.symm hne)]
    exact upd_same
  · rw [upd_ne hne] at hd
    exact hd
  · rw [upd_ne hne] at hd
    have q2 : PostS c W1 H1 (.exc ⟨cid, [d2, d1]⟩ e h1) D := q1
    refine raise_end (l := [d2, d1]) (vs := [y2, y1]) (dx := dx) S q2 (by rw [eg]) hd ?_ (by rw [eg, o.fl]; rfl) (.cons r3 (.cons r1 .nil))
    rw [eg, o.fl]
    funext z
    by_cases z1 : z = dx
    · rw [z1, upd_same, upd_same]
      rfl
    · rw [upd_ne z1, upd_ne z1]
      by_cases z2 : z = a
      · rw [z2, del_same, hna]
      · rw [del_ne z2, upd_ne z1, upd_ne z2, upd_ne z1, upd_ne z2]
theorem s_raise1 (hX : XSt T X c N k sc) (o : Eo1 T x cid f1) (hk : 2 ≤ k) (hg : Gl X x) (ha : PA X [e1] (RA c 1 ms)) (hdb : (x == ("__debug__" : Str)) = false := by decide) (he : starEach [e1] X.env = (false, eval e1 X.env) :: starEach [] X.env := by rfl)
    (hpl : (backTo p (starEach [] X.env)).any (·.1) = false := by rfl) : PS X (.Raise (some (.Call (.Name x p1) [e1] [] p)) none pos) (RS c (sRaise cid ms)) := by
  have eg := hX.e.pg
  obtain ⟨fI, fd, ps, i1, i2, b, fo⟩ := o.ini
  have room : Room 2 X.A := hX.e.room.mono hk
  refine ps_imp (L2N.ps_raise hX.e.calm hX.e.tk (pmkN_oex (Y := X) (C := T.g.cA cid) (fI := fI) (kk := 1) (sp := spI1 T.g.K f1) (by rw [hX.e.pk]; exact o.oc) (by rw [hX.e.pk]; exact i1) (by rw [hX.e.pk]; exact i2) (by rw [hX.e.pp, hX.e.pw, hX.e.pk, hX.e.pm, hX.e.pb]; exact fo) room (by rw [hX.e.pk]; exact b) .nil no_pass hg (by rw [hX.e.pm]; exact o.gl) ha hdb he hpl)) fun D s H q => ?_
  refine sb_use q fun W e W1 H1 l vs h1 t S r q1 => ?_
  obtain ⟨r, rl⟩ := r
  obtain ⟨d1, el⟩ : ∃ d1, l = [d1] := by
    match l, rl with
    | [a], _ => exact ⟨a, rfl⟩
  subst el
  obtain ⟨y1, t1, ev, r1, r2⟩ := (show ∃ v r, vs = v :: r ∧ Rep c.g W1 H1 d1 v ∧ Reps c.g W1 H1 [] r by simpa only [Reps] using r)
  have et : t1 = [] := by simpa only [Reps] using r2
  subst ev et
  refine ⟨by simp, fun a hna => ⟨a, T.g.cA cid, y1, rfl, o.oc, o.n1, upd_same, fun dx hd hne => ⟨rfl, dx, [(f1, y1)], upd_same, ?_, ?_, ?_⟩⟩⟩
  · rw [upd_ne hne]
    exact upd_same
  · rw [upd_ne hne] at hd
    exact hd
  · rw [upd_ne hne] at hd
    have q2 : PostS c W1 H1 (.exc ⟨cid, [d1]⟩ e h1) D := q1
    refine raise_end (l := [d1]) (vs := [y1]) (dx := dx) S q2 (by rw [eg]) hd ?_ (by rw [eg, o.fl]; rfl) (.cons r1 .nil)
    rw [eg, o.fl]
    funext z
    by_cases z1 : z = dx
    · rw [z1, upd_same, upd_same]
      rfl
    · rw [upd_ne z1, upd_ne z1]
      by_cases z2 : z = a
      · rw [z2, del_same, hna]
      · rw [del_ne z2, upd_ne z2, upd_ne z1, upd_ne z2]
end
@[simp] theorem sRaise_app (cid : Nat) (ms : En → M (List DV)) (e : En) (h : HP) : sRaise cid ms e h = uR (ms e h) e fun l e h => .exc ⟨cid, l.reverse⟩ e h := rfl
end LM

/-! try .. except X as n: .. -/
namespace LM
open PySem L2 L2H

/-! ### slots without exceptions -/
def unX : Slot → Slot
  | .exn _ => .none
  | x => x
def noExn (e : En) : En := e.map unX
theorem unX_val {x : Slot} {d : DV} (h : unX x = .val d) : x = .val d := by
  cases x <;> first | exact h | cases h
theorem unX_own {x : Slot} {l : List DV} (h : unX x = .own l) : x = .own l := by
  cases x <;> first | exact h | cases h
theorem unX_dic {x : Slot} {ks : List Int} {l : List DV} (h : unX x = .dic ks l) : x = .dic ks l := by
  cases x <;> first | exact h | cases h
theorem unX_isOwn (x : Slot) : (unX x).isOwn = x.isOwn := by cases x <;> rfl
theorem noExn_at {e : En} {i : Nat} {y : Slot} (h : (noExn e)[i]? = some y) : ∃ x, e[i]? = some x ∧ unX x = y := by
  unfold noExn at h
  rw [List.getElem?_map] at h
  cases z : e[i]? with
  | none =>
    rw [z] at h
    cases h
  | some x =>
    rw [z] at h
    exact ⟨x, rfl, Option.some.inj h⟩
theorem Sim.noExn {c c' : Cn} {W : Wd} {e : En} {h : HP} {s : L2.St} {H : Hp} (S : Sim c W e h s H) (eg : c'.g = c.g) (e0 : c'.W0 = c.W0) (e1 : c'.H0 = c.H0) : Sim c' W (noExn e) h s H := by
  refine ⟨by rw [eg]; exact S.hs, by rw [e0, e1]; exact S.st, by unfold LM.noExn; rw [List.length_map]; exact S.len, fun i d q => ?_, fun i l q => ?_, fun i ks l q => ?_, fun i j a x y q1 o1 q2 o2 q3 q4 => ?_, fun i x q => ?_⟩
  · obtain ⟨x, q1, q2⟩ := noExn_at q
    rw [unX_val q2] at q1
    rw [eg]
    exact S.val i d q1
  · obtain ⟨x, q1, q2⟩ := noExn_at q
    rw [unX_own q2] at q1
    rw [eg, e1]
    exact S.own i l q1
  · obtain ⟨x, q1, q2⟩ := noExn_at q
    rw [unX_dic q2] at q1
    rw [eg, e1]
    exact S.dic i ks l q1
  · obtain ⟨x1, r1, r2⟩ := noExn_at q1
    obtain ⟨y1, r3, r4⟩ := noExn_at q2
    refine S.ne i j a x1 y1 r1 ?_ r3 ?_ q3 q4
    · rw [← unX_isOwn, r2]
      exact o1
    · rw [← unX_isOwn, r4]
      exact o2
  · obtain ⟨y, q1, q2⟩ := noExn_at q
    cases y <;> cases q2
/-! ### the statement -/
def tryR (r : SRes) (i : Nat) : SRes := match r with
  | .nx e h => .nx ((noExn e).set i .none) h
  | .rt d h => .rt d h
  | _ => .bad
def sTry (ck : Nat → Option Bool) (i : Nat) (body hd : Stm) : Stm := fun e h => match body e h with
  | .exc x e' h' => (match ck x.c with
    | some true => tryR (hd ((noExn e').set i (.exn x)) h') i
    | some false => .exc x e' h'
    | none => .bad)
  | r => r
/-- where an except suite stands -/
structure XHo (T : Tp) (X : Cx) (c : Cn) (N : List Str) (k : Nat) (sc : Scope) : Prop where
  pp : X.prog = T.P
  pw : X.w = T.w
  pk : X.K = T.g.K
  pm : X.mg = T.mg
  pb : X.base = T.base
  pg : c.g = T.g
  nm : X.N = N
  nd : N.Nodup
  sc : X.env.scope = sc
  room : RoomH k X.A
  cx : c.x = fun _ _ _ _ => False
  cur : ∃ (X0 : Cx) (a : Addr) (oe : Obj) (cls : Value) (dd : Option Addr) (pn : List (Addr × Obj)), X = X0.suite a ((a, oe) :: pn) ∧ c.cur = some (a, cls, dd) ∧ L2N.Zn cls dd oe ∧ ∃ vs, oe.data = .fields vs
section
variable {T : Tp} {X : Cx} {c : Cn} {N : List Str} {k : Nat} {sc : Scope} {x : Str}
theorem XHo.kk (h : XHo T X c N k sc) : X.K = c.g.K := by rw [h.pk, h.pg]
theorem XHo.gl (h : XHo T X c N k sc) (v : sc.names.lookup x = some .globalImplicit) : Gl X x := by
  show X.env.scope.names.lookup x = _
  rw [h.sc]
  exact v
theorem XHo.no (h : XHo T X c N k sc) (q : T.mg x = none) : X.mg x = none := by
  rw [h.pm]
  exact q
theorem XHo.hot (h : XHo T X c N k sc) : HotC X := by
  obtain ⟨X0, a, oe, cls, dd, pn, e, _, z, vs, f⟩ := h.cur
  subst e
  exact ⟨(a, oe), ⟨rfl, vs, f, z.2.2 vs f⟩, List.mem_cons_self⟩
end
/-- the classes that a clause takes -/
structure CkOk (T : Tp) (cv : Value) (ck : Nat → Option Bool) : Prop where
  ok : ∀ (i : Nat) (b : Bool), ck i = some b → PySem.W.exmOne T.g.K (.ref (T.g.cA i)) cv = some b
section
variable {T : Tp} {X : Cx} {c : Cn} {N : List Str} {k : Nat} {sc : Scope} {x n : Str} {cv : Value} {ck : Nat → Option Bool} {i : Nat} {body suite : List Stmt} {b0 : Stmt} {np pos pos' : Pos} {mb mh : Stm}
theorem s_try (hX : XSt T X c N k sc) (hi : N[i]? = some n) (hln : sc.names.lookup n = some .local) (hg : Gl X x) (hm : T.mg x = some cv) (kc : CkOk T cv ck) (hb : ∀ (X' : Cx) (c' : Cn), XSt T X' c' N k sc → PSs X' body (RS c' mb)) (hh : ∀ (X' : Cx) (c' : Cn), XHo T X' c' N k sc → PSs X' (b0 :: suite) (RS c' mh))
    (hdb : (x == ("__debug__" : Str)) = false := by decide) : PS X (.Try body [.ExceptHandler (some (.Name x np)) (some n) (b0 :: suite) pos'] [] [] pos) (RS c (sTry ck i mb mh)) := by
  have eN : X.N[i]? = some n := hX.e.at hi
  let c' : Addr → Value → Option Addr → Cn := fun a cls dd => { c with x := fun _ _ _ _ => False, cur := some (a, cls, dd) }
  refine ps_imp (L2N.ps_try_as (tb := fun W => RS (c.wx W) mb) (ts := fun a cls d => RS (c' a cls d) mh) (Wout := c.x) hX.st hX.fr hX.e.ndX eN (by
    show X.env.scope.names.lookup n = _
    rw [hX.e.sc]
    exact hln) ⟨hg, hdb, .inl (by rw [hX.e.pm]; exact hm)⟩ hX.e.tk (fun W pn xe tk pa => hb _ _ ⟨⟨hX.e.pp, hX.e.pw, hX.e.pk, hX.e.pm, hX.e.pb, hX.e.pg, hX.e.nm, hX.e.nd, hX.e.sc, hX.e.calm, hX.e.room, tk⟩, pa, hX.fn, hX.st, hX.fr⟩)
    fun a oe cls d pn hz hf => hh _ _ ⟨hX.e.pp, hX.e.pw, hX.e.pk, hX.e.pm, hX.e.pb, hX.e.pg, hX.e.nm, hX.e.nd, hX.e.sc, roomH_mark hX.e.room _, rfl, X, a, oe, cls, d, pn, rfl, rfl, hz, hf⟩) fun D s H q => ?_
  obtain ⟨W, e, h, S, q⟩ := q
  refine ⟨W, e, h, S.wx, ?_⟩
  unfold sTry at q
  cases z : mb e h with
  | nx e' h' =>
    rw [z] at q
    exact fun W' s' H' p S' => q W' s' H' p S'.ofWx
  | bk e' h' =>
    rw [z] at q
    exact fun W' s' H' p S' => q W' s' H' p S'.ofWx
  | ct e' h' =>
    rw [z] at q
    exact fun W' s' H' p S' => q W' s' H' p S'.ofWx
  | rt d h' =>
    rw [z] at q
    exact q
  | bad =>
    rw [z] at q
    exact q.elim
  | exc y e' h' =>
    rw [z] at q
    simp only [] at q
    intro W' s' H' cls dd p S' r
    have S1 := S'.ofWx
    obtain ⟨ec, rr⟩ := r
    have ec : cls = .ref (c.g.cA y.c) := ec
    cases zc : ck y.c with
    | none =>
      rw [zc] at q
      exact q.elim
    | some b =>
      rw [zc] at q
      refine ⟨b, ?_, fun hb2 a na => ?_, fun hb2 => ?_⟩
      · rw [ec, hX.e.pk, hX.e.pg]
        exact kc.ok _ _ zc
      · subst hb2
        have q1 : PostS c W H (tryR (mh ((noExn e').set i (.exn y)) h') i) D := q
        -- the exception's dict is frozen
        obtain ⟨W2, p2, hs2, t2, rF⟩ : ∃ W2, Per W' H' W2 H' ∧ HSim c.g W2 h' H' ∧ Step W' H' W2 H' ∧ XRepF c.g W2 H' y cls dd := by
          rcases rr with ⟨r1, r2⟩ | ⟨d, vs, r1, r2, r3, r4, r5⟩
          · exact ⟨W', Per.refl _ _, S1.hs, Step.refl _ _, ec, .inl ⟨r1, r2⟩⟩
          · have t : Step W' H' (W'.frz d) H' := ⟨fun _ f => .inl f, fun _ _ z => z, fun _ _ z _ => z, fun _ z => z, fun b f => f.elim .inl fun z => .inr (.inr (by
              rw [z]
              exact ⟨r5, _, r2⟩)), fun _ m => .inl m⟩
            have pr := t.per S1.hs
            exact ⟨W'.frz d, pr, S1.hs.frz r2 r5, t, ec, .inr ⟨d, vs, r1, .inr rfl, r2, r3, r4.per pr _ _⟩⟩
        have S2 := S1.step t2 hs2
        have S3 : Sim (c' a cls dd) W2 ((noExn e').set i (.exn y)) h' (s'.set i (some (.ref a))) H' := (S2.noExn (c' := c' a cls dd) rfl rfl rfl).put rfl (fun z ez => by
          cases ez
          exact ⟨a, cls, dd, rfl, rfl, rF⟩) fun d z => by cases z
        refine ⟨W2, _, h', S3, ?_⟩
        have q2 := q1.later (p.trans p2)
        cases zr : mh ((noExn e').set i (.exn y)) h' with
        | nx e3 h3 =>
          rw [zr] at q2
          have q3 : PostS c W2 H' (.nx ((noExn e3).set i .none) h3) D := q2
          exact fun W3 s3 H3 p3 S4 => q3 W3 _ H3 p3 ((S4.noExn (c' := c) rfl rfl rfl).gone)
        | rt d h3 =>
          rw [zr] at q2
          exact q2
        | bk e3 h3 =>
          rw [zr] at q2
          exact q2.elim
        | ct e3 h3 =>
          rw [zr] at q2
          exact q2.elim
        | exc x3 e3 h3 =>
          rw [zr] at q2
          exact q2.elim
        | bad =>
          rw [zr] at q2
          exact q2.elim
      · subst hb2
        exact q W' s' H' cls dd p S1 ⟨ec, rr⟩
end
end LM

/-! What an except suite says. -/
namespace LM
open PySem L2 L2H

/-- the caught exception in slot i: its field -/
def exFld (o : Option Slot) (cid j : Nat) : Option DV := match o with
  | some (.exn x) => if x.c = cid then x.l[j]? else none
  | _ => none
def ofO (o : Option DV) : M DV := match o with
  | some d => pure d
  | none => M.bad
def eXf (i cid j : Nat) : En → M DV := fun e => ofO (exFld e[i]? cid j)
def exIs (o : Option Slot) (tab : List (Nat × Bool)) : Option DV := match o with
  | some (.exn x) => (match tab.lookup x.c with
    | some b => some (.bl b)
    | none => none)
  | _ => none
def eXis (i : Nat) (tab : List (Nat × Bool)) : En → M DV := fun e => ofO (exIs e[i]? tab)
/-- a class whose instances' field f is asked -/
structure Xf (T : Tp) (cid : Nat) (f : Str) (j : Nat) : Prop where
  xf : XfC T.g.K (T.g.cA cid)
  no : PySem.W.findIn T.g.K (.ref (T.g.cA cid)) f = some none
  lk : ∀ vs : List V, vs.length = (T.g.flds cid).length → ∃ v, vs[j]? = some v ∧ ((T.g.flds cid).zip vs).lookup f = some v
/-- a class as isinstance asks it -/
structure Xi (T : Tp) (cid : Nat) (cv : Value) (b : Bool) : Prop where
  cl : (PySem.W.clsIn T.g.K (T.g.cA cid)).isSome = true
  ga : PySem.W.findIn T.g.K (.ref (T.g.cA cid)) "__getattribute__" = some (some (.builtin "BaseException.__getattribute__"))
  gt : ∃ gt, PySem.W.findIn T.g.K (.ref (T.g.cA cid)) "__getattr__" = some gt
  su : PySem.W.subIn T.g.K (.ref (T.g.cA cid)) (.type "BaseException") = some true
  ha : PySem.W.findIn T.g.K (.ref (T.g.cA cid)) "__class__" = some (some (.builtin "object.__class__"))
  hn : PySem.W.specialIn T.g.K (.builtin "object.__class__") "__get__" = some (some (.builtin "getset_descriptor.__get__"))
  tk : PySem.W.takesIn T.g.K (.builtin "object.__class__") = some true
  mr : PySem.W.mroIn T.g.K (T.g.cA cid) (.type "object") = some true
  is : PySem.W.kitOne T.g.K (.ref (T.g.cA cid)) cv = some b
def XiL (T : Tp) (tab : List (Nat × Bool)) (cv : Value) : Prop := ∀ i b, (i, b) ∈ tab → Xi T i cv b
section
variable {T : Tp} {X : Cx} {c : Cn} {N : List Str} {k : Nat} {sc : Scope} {n f x : Str} {i j cid : Nat} {pos p1 p2 p3 : Pos}
theorem suite_cur {S : L2.St} {W : Wd} {e : En} {h : HP} {H : Hp} {y : Ex} {a : Addr} {cls : Value} {dd : Option Addr} (Sm : Sim c W e h S H) (hc : c.cur = some (a, cls, dd)) (z : e[i]? = some (.exn y)) : S[i]? = some (some (.ref a)) ∧ XRepF c.g W H y cls dd := by
  obtain ⟨a2, c2, d2, e1, e2, r⟩ := Sm.exn i y z
  rw [hc] at e1
  cases e1
  exact ⟨e2, r⟩
theorem k_xf (hX : XHo T X c N k sc) (i : Nat) (hi : N[i]? = some n) (hv : Vis sc n) (xf : Xf T cid f j) (hd : (n == ("__debug__" : Str)) = false := by decide) (hcd : (n == ("__classdict__" : Str)) = false := by decide)
    (hb : attributeBase (.Name n p1) f X.env (eval (.Name n p1) X.env) = eval (.Name n p1) X.env := by rfl) : PE X (.Attribute (.Name n p1) f pos) (RE c (eXf i cid j)) := by
  obtain ⟨X0, a, oe, cls, dd, pn, eX, hc, hz, hf⟩ := hX.cur
  have pg := hX.pg
  have pv : PE X (.Name n p1) (tVar i) := pe_var (by rw [hX.nm]; exact hi) (by rw [hX.sc]; exact hv) hd hcd
  have pk := hX.pk
  subst eX
  refine pe_imp (pe_xf (X := X0) (a := a) (C := T.g.cA cid) (oe := oe) (cls := cls) (d := dd) (pn := pn) (by
    have z : X0.K = T.g.K := pk
    rw [z]
    exact xf.xf) (by
    have z : X0.K = T.g.K := pk
    rw [z]
    exact xf.no) hz.zc hf pv hb) fun s H Q q => ?_
  obtain ⟨W, e, h, S, q⟩ := q
  unfold eXf exFld at q
  cases z : e[i]? with
  | none =>
    rw [z] at q
    exact q.elim
  | some sl =>
    rw [z] at q
    cases sl with
    | exn y =>
      simp only [] at q
      by_cases ec : y.c = cid
      rotate_left
      · rw [if_neg ec] at q
        exact q.elim
      rw [if_pos ec] at q
      obtain ⟨e1, rf⟩ := suite_cur S hc z
      obtain ⟨ecl, rf⟩ := rf
      cases zl : y.l[j]? with
      | none =>
        rw [zl] at q
        exact q.elim
      | some d =>
        rw [zl] at q
        rcases rf with ⟨r1, _⟩ | ⟨dx, vs, r1, r2, r3, r4, r5⟩
        · rw [r1] at zl
          cases zl
        · rw [ec, pg] at r3 r4
          obtain ⟨v, l1, l2⟩ := xf.lk vs r4
          obtain ⟨v2, l3, rv⟩ := r5.get zl
          rw [l1] at l3
          cases l3
          exact ⟨_, e1, rfl, by rw [ecl, ec, pg], dx, _, v, r1, r3, l2, q.ret S rv⟩
    | _ => exact q.elim
/-- isinstance of what the suite holds -/
theorem call_isX {Y : Cx} {a D : Addr} {oe : Obj} {d : Option Addr} {pn : List (Addr × Obj)} {gt : Option Value} (cl : (PySem.W.clsIn Y.K D).isSome = true) (ga : PySem.W.findIn Y.K (.ref D) "__getattribute__" = some (some (.builtin "BaseException.__getattribute__"))) (gg : PySem.W.findIn Y.K (.ref D) "__getattr__" = some gt)
    (su : PySem.W.subIn Y.K (.ref D) (.type "BaseException") = some true) (ha : PySem.W.findIn Y.K (.ref D) "__class__" = some (some (.builtin "object.__class__"))) (hn : PySem.W.specialIn Y.K (.builtin "object.__class__") "__get__" = some (some (.builtin "getset_descriptor.__get__"))) (tk : PySem.W.takesIn Y.K (.builtin "object.__class__") = some true)
    (mr : PySem.W.mroIn Y.K D (.type "object") = some true) (hz : L2N.Zn (.ref D) d oe) (hf : ∃ vs, oe.data = .fields vs) :
    CallR (Y.suite a ((a, oe) :: pn)) (.builtin "isinstance") (fun xs H Q => ∃ (c : V) (cv : Value) (b : Bool), xs = [.ref a, c] ∧ (∀ u, RelV c u → u = cv) ∧ PySem.W.kitOne Y.K (.ref D) cv = some b ∧ (d = none ∨ ∃ dd fs, d = some dd ∧ H dd = some (.xd fs)) ∧ Q (.bl b) H) := by
  intro pins s σ H xs us Q I r h
  obtain ⟨cc, cv, b, ex, hcv, e, hd, q⟩ := h
  subst ex
  obtain ⟨u1, u2, eu, r1, r2⟩ := vals2 r
  subst eu
  obtain rfl : u1 = Value.ref a := r1
  have ec := hcv _ r2
  subst ec
  obtain ⟨hget, _⟩ := I.pin (a, oe) (List.mem_append_left _ List.mem_cons_self)
  obtain ⟨vs, hv⟩ := hf
  have key : ∃ od, PySem.W.InstAt s.heap a oe D od := by
    rcases hd with hd | ⟨dd, fs, hd, hx⟩
    · refine ⟨none, hget, hz.1, ?_, ?_⟩
      · unfold PySem.W.notCls
        rw [hv]
      · rw [hz.2.1, hd]
        trivial
    · have hx2 : ObjOk Y.prog Y.w H s.heap dd (.xd fs) := I.hok dd _ hx
      obtain ⟨mA, hns, hr⟩ := hx2
      obtain ⟨od, ho, hl⟩ := lookIn_ns hns
      refine ⟨some od, hget, hz.1, ?_, ?_⟩
      · unfold PySem.W.notCls
        rw [hv]
      · rw [hz.2.1, hd]
        exact ho
  obtain ⟨od, J⟩ := key
  exact PySem.W.kia_one (PySem.W.kitx_exc (od := od) cl ga gg su ha hn tk mr) I.kIn J e (fun z => nomatch z) fun tk => ⟨.bl b, H, I.kept (t' := tk) fun _ _ z => z, rfl, q⟩
theorem k_xis {C : Str} {cv : Value} {cc : V} {tab : List (Nat × Bool)} (hX : XHo T X c N k sc) (i : Nat) (hi : N[i]? = some n) (hv : Vis sc n) (gi : Gl X "isinstance") (mi : X.mg "isinstance" = none) (hc : PE X (.Name C p3) (tC cc)) (rc : ∀ u, RelV cc u → u = cv) (L : XiL T tab cv)
    (hd : (n == ("__debug__" : Str)) = false := by decide) (hcd : (n == ("__classdict__" : Str)) = false := by decide)
    (s1 : starEach [.Name n p2, .Name C p3] X.env = (false, eval (.Name n p2) X.env) :: starEach [.Name C p3] X.env := by rfl) (s2 : starEach [.Name C p3] X.env = (false, eval (.Name C p3) X.env) :: starEach [] X.env := by rfl)
    (hpl : (backTo pos (starEach [.Name C p3] X.env)).any (·.1) = false := by rfl) : PE X (.Call (.Name "isinstance" p1) [.Name n p2, .Name C p3] [] pos) (RE c (eXis i tab)) := by
  obtain ⟨X0, a, oe, cls, dd, pn, eX, hcu, hz, hf⟩ := hX.cur
  have pg := hX.pg
  have pv : PE X (.Name n p2) (tVar i) := pe_var (by rw [hX.nm]; exact hi) (by rw [hX.sc]; exact hv) hd hcd
  have pk := hX.pk
  refine ⟨fun pins s σ H Q I q => ?_⟩
  obtain ⟨W, e, h, S, q⟩ := q
  unfold eXis exIs at q
  cases z : e[i]? with
  | none =>
    rw [z] at q
    exact q.elim
  | some sl =>
    rw [z] at q
    cases sl with
    | exn y =>
      simp only [] at q
      cases zt : tab.lookup y.c with
      | none =>
        rw [zt] at q
        exact q.elim
      | some b =>
        rw [zt] at q
        obtain ⟨e1, rf⟩ := suite_cur S hcu z
        obtain ⟨ecl, rf⟩ := rf
        have xi := L y.c b (mem_of_lookupN zt)
        obtain ⟨gt, hgt⟩ := xi.gt
        rw [ecl, pg] at hz
        subst eX
        have zk : X0.K = T.g.K := pk
        refine (pe_callB (call_isX (Y := X0) (a := a) (D := T.g.cA y.c) (oe := oe) (d := dd) (pn := pn) (gt := gt) (by rw [zk]; exact xi.cl) (by rw [zk]; exact xi.ga) (by rw [zk]; exact hgt) (by rw [zk]; exact xi.su) (by rw [zk]; exact xi.ha) (by rw [zk]; exact xi.hn) (by rw [zk]; exact xi.tk) (by rw [zk]; exact xi.mr) hz hf) gi mi (by first | exact PyProof.Rows.boot_isinstance | decide +kernel) (pa_cons pv (pa_cons hc pa_nil s2) s1)).run pins s σ H Q I ?_
        refine ⟨_, e1, cc, cv, b, rfl, rc, by rw [zk]; exact xi.is, ?_, q.ret S (by simp only [rV, Rep])⟩
        rcases rf with ⟨_, r2⟩ | ⟨dx, vs, r1, r2, r3, _⟩
        · exact .inl r2
        · exact .inr ⟨dx, _, r1, r3⟩
    | _ => exact q.elim
end
@[simp] theorem ofO_some (d : DV) (h : HP) : ofO (some d) h = .ok d h := rfl
@[simp] theorem eXf_app (i cid j : Nat) (e : En) (h : HP) : eXf i cid j e h = ofO (exFld e[i]? cid j) h := rfl
@[simp] theorem eXis_app (i : Nat) (tab : List (Nat × Bool)) (e : En) (h : HP) : eXis i tab e h = ofO (exIs e[i]? tab) h := rfl
end LM

/-! Defs called within an except suite. -/
namespace LM
open PySem L2 L2H

/-- where the body of such a def stands -/
structure XHb (T : Tp) (X : Cx) (c : Cn) (N : List Str) (k : Nat) (sc : Scope) : Prop where
  pk : X.K = T.g.K
  pm : X.mg = T.mg
  pg : c.g = T.g
  nm : X.N = N
  nd : N.Nodup
  sc : X.env.scope = sc
section
variable {T : Tp} {X : Cx} {c : Cn} {N : List Str} {k : Nat} {sc : Scope} {x : Str}
theorem XHb.kk (h : XHb T X c N k sc) : X.K = c.g.K := by rw [h.pk, h.pg]
theorem XHb.gl (h : XHb T X c N k sc) (v : sc.names.lookup x = some .globalImplicit) : Gl X x := by
  show X.env.scope.names.lookup x = _
  rw [h.sc]
  exact v
theorem XHb.no (h : XHb T X c N k sc) (q : T.mg x = none) : X.mg x = none := by
  rw [h.pm]
  exact q
theorem kh_var {pos : Pos} (h : XHb T X c N k sc) (i : Nat) (hi : N[i]? = some x) (hv : Vis sc x) (hd : (x == ("__debug__" : Str)) = false := by decide) (hcd : (x == ("__classdict__" : Str)) = false := by decide) : PE X (.Name x pos) (RE c (eVar i)) := c_var (by rw [h.nm]; exact hi) (by rw [h.sc]; exact hv) hd hcd
end
/-- a def's promise by its mirror, no exception among it -/
def spN (g : Glue) (n : Nat) (m : List DV → M DV) : Sp := fun vs H Q E => ∃ W h ds, HSim g W h H ∧ Reps g W H ds vs ∧ ds.length = n ∧ match m ds h with
  | .ok d h' => ∀ W' H' v, Step W H W' H' → HSim g W' h' H' → Rep g W' H' d v → Q v H'
  | _ => False
structure FoH (T : Tp) (x : Str) (id k n : Nat) (m : List DV → M DV) : Prop where
  gl : T.mg x = some (.ref (T.g.fA id))
  kp : PySem.W.keepIn T.g.K (.ref (T.g.fA id)) = true
  ex : ∃ fd ps, Binds T.g.K fd ps [] ∧ FnH T.P T.w T.g.K T.mg T.base (L2N.CX T.P T.w) k (T.g.fA id) fd ps (spN T.g n m)
theorem fn_ruleH {T : Tp} {x qual : Str} {params : Arguments} {body : List Stmt} {scope : Scope} {kws : List (Str × V)} {f : Addr} {fd : FuncData} {N ps : List Str} {k : Nat} {m : Stm} (F : FunD T.g.K x qual params body scope [] kws f fd) (S : FnScope N ps scope)
    (hb : ∀ (X : Cx) (c : Cn), XHb T X c N k scope → PSs X body (RS c m)) : FnH T.P T.w T.g.K T.mg T.base (L2N.CX T.P T.w) (k + 1) f fd ps (spN T.g ps.length (fnM N.length m)) := by
  obtain ⟨oc, od, dV, kV, doc, pm, an, cdv, ct, osl, rfl, lk, hcd, _, _⟩ := F.ex
  refine fn_ofH lk hcd S (fun vs H Q E h => ?_) fun A outer s H vs Q E p hot hr h => ?_
  · obtain ⟨W, hh, ds, _, r, e, _⟩ := h
    rw [← e, r.len]
  · obtain ⟨W, hh, ds, hs, r, e, q⟩ := h
    refine ⟨RS ⟨T.g, W, H, fun _ _ _ _ => False, none⟩ m, hb _ ⟨T.g, W, H, fun _ _ _ _ => False, none⟩ ⟨rfl, rfl, rfl, rfl, S.nd, rfl⟩, W, _, hh, sim_start hs r, ?_⟩
    unfold fnM at q
    generalize m (ds.map .val ++ List.replicate (N.length - ds.length) .none) hh = z at q ⊢
    cases z with
    | nx e' h' => exact fun W' s' H' _ S' => q W' H' .non S'.st S'.hs (by simp only [Rep])
    | rt d h' => exact q
    | bk e' h' => exact q.elim
    | ct e' h' => exact q.elim
    | exc x e' h' => exact q.elim
    | bad => exact q.elim
def eCallH (m : List DV → M DV) (ms : En → M (List DV)) : En → M DV := fun e => ms e >>= fun l => noX (m l)
section
variable {T : Tp} {X : Cx} {c : Cn} {N : List Str} {k n : Nat} {sc : Scope} {pos p1 : Pos} {ex : Expr} {es : List Expr} {ms : En → M (List DV)}
theorem callH_use {m : List DV → M DV} {s : L2.St} {H : Hp} {Q : VK} {E : XK} (q : RE c (eCallH m ms) s H Q) : RX c (rVs c n) ms s H fun vs H1 => spN c.g n m vs H1 Q E := RX.bind (k := fun _ l => noX (m l)) q fun W e W1 H1 ds vs h1 t S r q2 => by
  refine ⟨W1, h1, ds, S.hs, r.1, r.2, ?_⟩
  unfold noX at q2
  generalize m ds h1 = z at q2 ⊢
  cases z with
  | ok d h' => exact fun W' H' v t' hs' r' => q2 W' H' v t' (S.step t' hs') r'
  | exc x h' => exact q2.elim
  | bad => exact q2.elim
theorem c_callH {x : Str} {id j : Nat} {m : List DV → M DV} (hX : XHo T X c N k sc) (F : FoH T x id j n m) (hj : j ≤ k) (hg : Gl X x) (ha : PA X (ex :: es) (RA c n ms))
    (hdb : (x == ("__debug__" : Str)) = false := by decide) (he : starEach (ex :: es) X.env = (false, eval ex X.env) :: starEach es X.env := by rfl) (hpl : (backTo pos (starEach es X.env)).any (·.1) = false := by rfl) :
    PE X (.Call (.Name x p1) (ex :: es) [] pos) (RE c (eCallH m ms)) := by
  obtain ⟨fd, ps, b, f⟩ := F.ex
  have pg := hX.pg
  have f2 : FnH X.prog X.w X.K X.mg X.base (L2N.CX X.prog X.w) j (T.g.fA id) fd ps (spN c.g n m) := by
    rw [hX.pp, hX.pw, hX.pk, hX.pm, hX.pb, pg]
    exact f
  refine pe_imp (pe_callH (E := fun _ => fun _ _ _ => False) f2 (hX.room.mono hj) hX.hot hg (by rw [hX.pm]; exact F.gl) (by rw [hX.pk]; exact F.kp) (by rw [hX.pk]; exact b) (fun σ pins H s e s' I z => by
    obtain ⟨_, _, _, _, _, _, _, _, _, _, _, _, y⟩ := z
    exact y.elim) ha hdb he hpl) fun s H Q q => callH_use q
end
@[simp] theorem eCallH_app (m : List DV → M DV) (ms : En → M (List DV)) (e : En) (h : HP) : eCallH m ms e h = bR (ms e h) fun l h => noX (m l) h := rfl
theorem noX_ok {A : Type} {m : M A} {h h' : HP} {a : A} (q : m h = .ok a h') : noX m h = .ok a h' := by
  unfold noX
  rw [q]
/-! ### looks at classes -/
theorem oexB_ok {K : PySem.W.Frag} {C : Addr} (h : oexB K C = true) : OexC K C := by
  obtain ⟨h1, h2⟩ := He.ba h
  obtain ⟨h3, h4⟩ := He.ba h2
  obtain ⟨h5, h6⟩ := He.ba h4
  obtain ⟨h7, h8⟩ := He.ba h6
  refine ⟨?_, of_decide_eq_true h3, of_decide_eq_true h5, of_decide_eq_true h7, h8⟩
  cases q : K.lookup C with
  | none =>
    rw [q] at h1
    cases h1
  | some o =>
    obtain ⟨oc, od, dt, sl⟩ := o
    rw [q] at h1
    cases oc with
    | type t =>
      cases dt with
      | cls cd =>
        obtain ⟨a1, a2⟩ := He.ba (show (decide (t = "type") && (match cd.mro, sl.toList with
          | .ref C' :: bm, [_, _, _, _, some (.builtin n), _] => decide (C' = C) && (decide (n = "ValueError.__new__") && (!cd.hasDel && (cd.hasDict && PySem.HandSPX.refsVE bm)))
          | _, _ => false)) = true from h1)
        have et : t = "type" := of_decide_eq_true a1
        split at a2
        · rename_i C' bm k0 k1 k2 k3 n k5 hm hs
          obtain ⟨b1, b2⟩ := He.ba a2
          obtain ⟨b3, b4⟩ := He.ba b2
          obtain ⟨b5, b6⟩ := He.ba b4
          obtain ⟨b7, b8⟩ := He.ba b6
          have e1 : C' = C := of_decide_eq_true b1
          have e2 : n = "ValueError.__new__" := of_decide_eq_true b3
          obtain ⟨nm, bs, mro, ns, qn, hd, sn, sub, ab, col, del⟩ := cd
          simp only [Bool.not_eq_true'] at hm b5 b7
          have hsl : sl = #[k0, k1, k2, k3, some (.builtin n), k5] := by
            obtain ⟨l⟩ := sl
            have : l = _ := hs
            rw [this]
          subst et e1 e2 hm b5 b7 hsl
          exact ⟨nm, qn, ns, bs, bm, sn, sub, ab, col, od, k0, k1, k2, k3, k5, rfl, b8⟩
        · cases a2
      | _ => cases h1
    | _ => cases dt <;> cases h1
end LM

/-! What a law never comes to. -/
namespace LM
open PySem L2
def eBad : En → M DV := fun _ _ => .bad
/-- an expression that is never evaluated -/
theorem c_bad {X : Cx} {c : Cn} {e : Expr} : PE X e (RE c eBad) := ⟨fun _ _ _ _ _ _ q => by
  obtain ⟨_, _, _, _, q⟩ := q
  exact q.elim⟩
end LM

/-! Looks at the top of a law with own exceptions. -/
namespace LM
open PySem L2 L2H

theorem ckAll_at {l : CkL} {K : PySem.W.Frag} (h : ckAll l K = true) (i : Nat) {b : PySem.W.Frag → Bool} (e : l[i]? = some b) : b K = true := List.all_eq_true.mp h b (List.mem_of_getElem? e)
/-- such an exception's class at C; its fields -/
theorem eo2_of {T : Tp} {x : Str} {cid : Nat} {f1 f2 : Str} (hm : T.mg x = some (.ref (T.g.cA cid))) (fl : T.g.flds cid = [f2, f1]) (b : eoB [f1, f2] (T.g.cA cid) T.g.K = true)
    (hf : ∃ fd ps, Binds T.g.K fd ps [] ∧ FnOk T.P T.w T.g.K T.mg T.base (L2N.CX T.P T.w) 1 (He.ma T.g.K (T.g.cA cid) "__init__") fd ps (spI2 T.g.K f1 f2)) : Eo2 T x cid f1 f2 := by
  obtain ⟨b1, b2⟩ := He.ba b
  obtain ⟨b3, b4⟩ := He.ba b2
  obtain ⟨b5, b6⟩ := He.ba b4
  obtain ⟨fd, ps, h1, h2⟩ := hf
  exact ⟨hm, fl, oexB_ok b1, of_decide_eq_true (List.all_eq_true.mp b6 f1 (by simp)), of_decide_eq_true (List.all_eq_true.mp b6 f2 (by simp)), _, fd, ps, of_decide_eq_true b3, of_decide_eq_true b5, h1, h2⟩
theorem eo1_of {T : Tp} {x : Str} {cid : Nat} {f1 : Str} (hm : T.mg x = some (.ref (T.g.cA cid))) (fl : T.g.flds cid = [f1]) (b : eoB [f1] (T.g.cA cid) T.g.K = true)
    (hf : ∃ fd ps, Binds T.g.K fd ps [] ∧ FnOk T.P T.w T.g.K T.mg T.base (L2N.CX T.P T.w) 1 (He.ma T.g.K (T.g.cA cid) "__init__") fd ps (spI1 T.g.K f1)) : Eo1 T x cid f1 := by
  obtain ⟨b1, b2⟩ := He.ba b
  obtain ⟨b3, b4⟩ := He.ba b2
  obtain ⟨b5, b6⟩ := He.ba b4
  obtain ⟨fd, ps, h1, h2⟩ := hf
  exact ⟨hm, fl, oexB_ok b1, of_decide_eq_true (List.all_eq_true.mp b6 f1 (by simp)), _, fd, ps, of_decide_eq_true b3, of_decide_eq_true b5, h1, h2⟩
theorem xf_of {T : Tp} {cid j : Nat} {f : Str} (b : xfKB f (T.g.cA cid) T.g.K = true) (lk : ∀ vs : List V, vs.length = (T.g.flds cid).length → ∃ v, vs[j]? = some v ∧ ((T.g.flds cid).zip vs).lookup f = some v) : Xf T cid f j :=
  ⟨xfB_ok (He.ba b).1, of_decide_eq_true (He.ba b).2, lk⟩
theorem xi_of {T : Tp} {cid : Nat} {cv : Value} {r : Bool} (b : xiB (T.g.cA cid) cv r T.g.K = true) : Xi T cid cv r := by
  obtain ⟨a, b⟩ := He.ba b
  obtain ⟨a1, a⟩ := He.ba a
  obtain ⟨a2, a⟩ := He.ba a
  obtain ⟨a3, a4⟩ := He.ba a
  obtain ⟨b1, b2⟩ := He.ba b
  obtain ⟨b3, b4⟩ := He.ba b1
  obtain ⟨b5, b6⟩ := He.ba b4
  obtain ⟨b7, b8⟩ := He.ba b2
  exact ⟨a1, of_decide_eq_true a2, ⟨none, of_decide_eq_true a3⟩, of_decide_eq_true a4, of_decide_eq_true b3, of_decide_eq_true b5, of_decide_eq_true b6, of_decide_eq_true b7, of_decide_eq_true b8⟩
theorem xiL_nil {T : Tp} {cv : Value} : XiL T [] cv := fun _ _ h => by cases h
theorem xiL_cons {T : Tp} {cid : Nat} {r : Bool} {tab : List (Nat × Bool)} {cv : Value} (x : Xi T cid cv r) (L : XiL T tab cv) : XiL T ((cid, r) :: tab) cv := fun i b h => by
  rcases List.mem_cons.mp h with e | e
  · cases e
    exact x
  · exact L i b e
/-- a clause's classes -/
theorem ck_of {T : Tp} {cA : PySem.W.Frag → Nat → Addr} {cv : Nat} {tab : List (Nat × Bool)} (b : ckB cA cv tab T.g.K = true) (hc : ∀ i, T.g.cA i = cA T.g.K i) : CkOk T (.ref (T.g.cA cv)) fun i => tab.lookup i := ⟨fun i r h => by
  have m := mem_of_lookupN h
  rw [hc i, hc cv]
  exact of_decide_eq_true (List.all_eq_true.mp b (i, r) m)⟩
end LM

/-! A tuple, any number of times. -/
namespace LM
open PySem L2 PySem.Spec PyProof.Rows
/-- not at all -/
theorem mulT_none (l : Addr) (its : Array Value) (n : Nat) (dd : Option Addr) (sl : Array (Option Value)) (x : Int) (u : Tok) (c0 : (decide (x < -(2 ^ 63)) || decide (x ≥ 2 ^ 63)) = false) (c1 : (its.isEmpty || x == 1) = false) (c2 : (decide (x ≤ 0) || its.isEmpty) = true) :
    Meets (Builtin.«tuple.__mul__» ⟨[.ref l, .int x u], []⟩) (fun _ R s => s.heap.get? l = some { cls := .type "tuple", dict := dd, data := .seq its n, slots := sl } ∧
      R (.ok (.ret (Value.ref s.heap.objs.size))) { s with heap := s.heap.push { cls := Value.type "tuple", data := Data.seq #[] }, toks := s.toks }) :=
  .of_wp fun P v A R s q => by
    obtain ⟨hp, gg, dr, tk, os⟩ := s
    obtain ⟨hl, q⟩ := q
    have f1 := AutoSeq1.idx_int
    wp_walk using wpAny_loadPart' hl
    repeat (first
      | (refine wpAny_ite_false (decide_eq_false (by rw [c0]; exact Bool.false_ne_true)) ?_; wp_walk using wpAny_loadPart' hl)
      | (refine wpAny_ite_false (decide_eq_false (by rw [c1]; exact Bool.false_ne_true)) ?_; wp_walk using wpAny_loadPart' hl)
      | (refine wpAny_ite_true (decide_eq_true (by rw [c2])) ?_; wp_walk using wpAny_loadPart' hl))
    exact ⟨_, rfl, q⟩
/-- once -/
theorem mulT_once (l : Addr) (its : Array Value) (n : Nat) (dd : Option Addr) (sl : Array (Option Value)) (x : Int) (u : Tok) (c0 : (decide (x < -(2 ^ 63)) || decide (x ≥ 2 ^ 63)) = false) (c1 : (its.isEmpty || x == 1) = true) :
    Meets (Builtin.«tuple.__mul__» ⟨[.ref l, .int x u], []⟩) (fun _ R s => s.heap.get? l = some { cls := .type "tuple", dict := dd, data := .seq its n, slots := sl } ∧ R (.ok (.ret (Value.ref l))) s) :=
  .of_wp fun P v A R s q => by
    obtain ⟨hp, gg, dr, tk, os⟩ := s
    obtain ⟨hl, q⟩ := q
    have f1 := AutoSeq1.idx_int
    wp_walk using wpAny_loadPart' hl
    repeat (first
      | (refine wpAny_ite_false (decide_eq_false (by rw [c0]; exact Bool.false_ne_true)) ?_; wp_walk using wpAny_loadPart' hl)
      | (refine wpAny_ite_true (decide_eq_true (by rw [c1])) ?_; wp_walk using wpAny_loadPart' hl))
    exact ⟨_, rfl, q⟩
def rMulT (K : PySem.W.Frag) : R2 := fun x y H Q => ∃ l k xs, x = .ref l ∧ y = .int k ∧ SqT K H l xs ∧ xs ≠ [] ∧ -1000 ≤ k ∧ k ≤ 1000 ∧ xs.length ≤ 1000 ∧ (k = 1 → Q (.ref l) H) ∧ (k ≠ 1 → ∀ p, H p = none → Q (.ref p) (upd H p (.tup (List.replicate k.toNat xs).flatten)))
theorem op_mulT {X : Cx} : OpR X (binaryOp .Mult) (rMulT X.K) := by
  intro pins s σ H x y v u Q I rx ry h
  obtain ⟨l, k, xs, ex, ey, hT, hne, h1, h2, hz, q1, q2⟩ := h
  by_cases big : 2 ≤ k
  · exact op_repT pins s σ H x y v u Q I rx ry ⟨l, k, xs, ex, ey, hT, hne, big, h2, hz, q2 (by omega)⟩
  subst ex ey
  cases rx
  obtain ⟨t, rfl⟩ := ry
  obtain ⟨its, r, ⟨⟨cls, dd, data, sl⟩, ho, hc, n, hd⟩, hs⟩ := I.tuple hT
  simp only at hc hd
  subst hc hd
  have hn : its ≠ [] := fun e => hne (by
    have := r.length
    rw [e] at this
    exact List.eq_nil_of_length_eq_zero this)
  have hi : its.toArray.isEmpty = false := by
    cases its with
    | nil => exact absurd rfl hn
    | cons a b => rfl
  have c0 : (decide (k < -(2 ^ 63)) || decide (k ≥ 2 ^ 63)) = false := by
    rw [decide_eq_false (by omega), decide_eq_false (by omega)] <;> rfl
  by_cases one : k = 1
  · have c1 : (its.toArray.isEmpty || k == 1) = true := by
      rw [hi, Bool.false_or]
      exact beq_iff_eq.mpr one
    refine wpAny_binaryOp_repeat_ref (T := "tuple") (U := "int") (by decide) ⟨_, ho, rfl⟩ (fun s' => typeIs_int s' k t) noFill_tuple_mul F.fills_int_mul F.slot_int_rmul repeat_tuple F.slot_int_index.lookup
      (call_meets F.slot_int_rmul (typeIs_int s k t) F.entry_int_rmul (F.args_int_rmul_2 _ _) (int_rmul_tuple k t l its.toArray n dd sl)
        ⟨ho, rfl, ⟨_, ho, rfl⟩, call_meets F.slot_tuple_mul ⟨_, ho, rfl⟩ F.entry_tuple_mul (F.args_tuple_mul_2 _ _) (mulT_once l its.toArray n dd sl k t c0 c1) ⟨ho, ?_⟩⟩)
    exact ⟨.ref l, H, I, rfl, q1 one⟩
  · have c1 : (its.toArray.isEmpty || k == 1) = false := by
      rw [hi, Bool.false_or]
      exact beq_eq_false_iff_ne.mpr one
    have c2 : (decide (k ≤ 0) || its.toArray.isEmpty) = true := by
      rw [decide_eq_true (by omega)]
      rfl
    have e0 : (List.replicate k.toNat xs).flatten = [] := by
      rw [show k.toNat = 0 by omega]
      rfl
    have q3 := q2 one
    rw [e0] at q3
    refine wpAny_binaryOp_repeat_ref (T := "tuple") (U := "int") (by decide) ⟨_, ho, rfl⟩ (fun s' => typeIs_int s' k t) noFill_tuple_mul F.fills_int_mul F.slot_int_rmul repeat_tuple F.slot_int_index.lookup
      (call_meets F.slot_int_rmul (typeIs_int s k t) F.entry_int_rmul (F.args_int_rmul_2 _ _) (int_rmul_tuple k t l its.toArray n dd sl)
        ⟨ho, rfl, ⟨_, ho, rfl⟩, call_meets F.slot_tuple_mul ⟨_, ho, rfl⟩ F.entry_tuple_mul (F.args_tuple_mul_2 _ _) (mulT_none l its.toArray n dd sl k t c0 c1 c2) ⟨ho, ?_⟩⟩)
    refine ⟨.ref s.heap.objs.size, _, I.laid (t' := s.toks) (o := .tup []) (fun b ob z => Heap.get?_push_of_some _ z) (Nat.le_refl _) ?_, rfl, q3 _ (I.hok.fresh (Nat.le_refl _))⟩
    exact ⟨by rw [sizeLine_eq]; decide, [], .nil, IsTup.new _ _⟩
/-- a tuple, so many times -/
def vMulT (x y : DV) : M DV := match x, y with
  | .tup l, .int k => if Nat.ble 1 l.length && (Nat.ble l.length 1000 && (decide (-1000 ≤ k) && decide (k ≤ 1000))) then pure (.tup (List.replicate k.toNat l).flatten) else M.bad
  | _, _ => M.bad
section
variable {X : Cx} {c : Cn} {pos : Pos} {a b : Expr} {ma mb : En → M DV}
theorem prim_mulT {K : PySem.W.Frag} (hk : c.g.K = K) : Prim2 c (pB c) (pV c) (rV c) vMulT (rMulT K) := by
  subst hk
  refine ⟨fun {W e h s H Hs x y v w Q} S rx ry nw q => ?_⟩
  unfold vMulT at q
  split at q
  · obtain ⟨a, vs, e1, s1, r1⟩ := tup_ok rx
    simp only [pV, Rep] at ry
    split at q
    · rename_i l k hz
      simp only [Bool.and_eq_true, Nat.ble_eq, decide_eq_true_eq] at hz
      obtain ⟨z1, z2, z3, z4⟩ := hz
      refine ⟨a, k, vs, e1, ry, s1, fun z => ?_, z3, z4, by rw [← r1.len]; exact z2, fun one => ?_, fun _ p hp => post_tup q S (r1.rep _) hp⟩
      · subst z
        have := r1.len
        rw [List.length_nil] at this
        omega
      · subst one e1
        refine q.ret S ?_
        simp only [rV, Rep]
        exact ⟨a, vs, rfl, s1, by simpa using r1⟩
    · exact q.elim
  · exact q.elim
theorem c_mulT (hk : X.K = c.g.K) (ha : PE X a (RB c ma)) (hb : PE X b (RE c mb)) : PE X (.BinOp a .Mult b pos) (RE c (e2 vMulT ma mb)) := c_bin op_mulT stays_B (prim_mulT hk.symm) ha hb
end
@[simp] theorem vMulT_one (d : DV) (k : Nat) (h : HP) (hk : (k : Int) ≤ 1000) : vMulT (.tup [d]) (.int (k : Int)) h = .ok (.tup (List.replicate k d)) h := by
  have e : ∀ n : Nat, (List.replicate n [d]).flatten = List.replicate n d := by
    intro n
    induction n with
    | zero => rfl
    | succ k ih => simp [List.replicate_succ, ih]
  show (if (Nat.ble 1 [d].length && (Nat.ble [d].length 1000 && (decide (-1000 ≤ (k : Int)) && decide ((k : Int) ≤ 1000)))) = true then (pure (.tup (List.replicate (k : Int).toNat [d]).flatten) : M DV) else M.bad) h = _
  rw [if_pos (by simp; omega), Int.toNat_natCast, e]
  rfl
end LM

/-! A for in an except suite. -/
namespace LM
open PySem L2 L2H
section
open HotX PyProof.Rows PySem.Spec
variable {prog : Program} {w : World} {A : Around} {E : Value → Shared → Prop} {s : Shared}
theorem pyNext_list_end_hot {it l x1 : Addr} {i : Nat} {items : Array Value} {Q : Option Value → Shared → Prop} (hot : HotAt A x1 s.heap) (nx : x1 ≠ it)
    (hit : s.heap.IsListIter it l i) (hl : s.heap.IsList l items) (hx : items[i]? = none)
    (hQ : ∀ h', Heap.ExtBut it s.heap h' → Q none { s with heap := h' }) : wpAny (model prog w) A (pyNext (.ref it)) Q E s := by
  obtain ⟨o, ho, hc, hd⟩ := id hit
  obtain ⟨ol, hol, _, nl, hdl⟩ := hl
  obtain ⟨hh, o1, vs1, h1, d1, c1⟩ := hot
  unfold pyNext
  refine wpAny_bind (wpAny_attempt (wpAny_callSpecial?_slot (name := Str.ofString "__next__") hit.typeIs slot_listiter_next
    (wpAny_call_entry slot_listiter_next hit.typeIs entry_listiter_next ?_ (args_listiter_next _))))
  show wpAny _ _ (field (.ref it) 0 >>= _) _ _ s
  refine wpAny_bind (wpAny_field ho hd (x := .ref l) rfl ?_)
  show wpAny _ _ (if (Value.ref l == Value.none) = true then _ else _) _ _ s
  rw [if_neg (show ¬ ((Value.ref l == Value.none) = true) from Bool.false_ne_true)]
  show wpAny _ _ (field (.ref it) 1 >>= _) _ _ s
  refine wpAny_bind (wpAny_field ho hd (x := .int i 0) rfl ?_)
  show wpAny _ _ (seqItems? (.ref l) >>= _) _ _ s
  refine wpAny_bind (wpAny_seqItems hol hdl ?_)
  simp only [Int.toNat_natCast, hx]
  refine wpAny_bind (wpAny_rule (wpAny_bind (wpAny_setField ho hd (by simp) ?_)))
  have h2 : ∀ f : Obj → Obj, (s.heap.update it f).get? x1 = some o1 := fun f => by
    rw [Heap.get?_update_other _ _ (Ne.symm nx)]
    exact h1
  show wpAny _ _ (newExc (.type "StopIteration") [] >>= _) _ _ _
  refine wpAny_bind ?_
  simp only [newExc, newTuple]
  refine wpAny_bind (wpAny_newObj_type ?_ (by size_fits))
  refine wpAny_bind (m := firstArgMember _ _) (wpAny_of_eq (a := Value.none) (by first | rfl | (simp only [firstArgMember]; rfl)) ?_)
  refine wpAny_newObj_type ?_ (by size_fits)
  refine raiseNew_hot ⟨hh, o1, vs1, Heap.get?_push_of_some _ (Heap.get?_push_of_some _ (h2 _)), d1, c1⟩ (Nat.ne_of_lt (Heap.lt_size (Heap.get?_push_of_some _ (h2 _)))) (Heap.get?_push_size _ rfl) rfl (by first | (simp; done) | (simp; omega) | (simp only [Array.size_append]; simp; omega)) ?_
  refine wpAny_bind (wpAny_isInstance (T := "StopIteration") (b := true) ⟨_, Heap.get?_update_self _ (Heap.get?_push_size _ rfl) rfl, rfl⟩ isSubtype_stop ?_)
  refine wpAny_pure (hQ _ fun b o hb e => ?_)
  have e1 : (s.heap.update it (Obj.mapFields fun x => x.setIfInBounds 0 Value.none)).get? b = some o := (Heap.get?_update_other _ _ (Ne.symm hb)).trans e
  rw [Heap.get?_update_other _ _ (Nat.ne_of_gt (Heap.lt_size (Heap.get?_push_of_some _ e1)))]
  exact Heap.get?_push_of_some _ (Heap.get?_push_of_some _ e1)
end
theorem turn_listH {P : Program} {w : World} {K : PySem.W.Frag} {tg : Expr} (a it : Addr) : TurnH P w K tg (Itl K a) [it] it (fun i h => h.IsListIter it a i) where
  mem := by simp
  obj := (turn_list (P := P) (w := w) (K := K) (tg := tg) a it).obj
  keep := (turn_list (P := P) (w := w) (K := K) (tg := tg) a it).keep
  item := by
    intro X hP hw hK hc i pins s σ H E I hf st hg
    subst hP hw hK
    obtain ⟨xs, x, hq, hx⟩ := hg
    obtain ⟨its, rv, p, hz⟩ := I.list hq
    obtain ⟨u, hu, ru⟩ := rv.get hx
    obtain ⟨f0, f1, f2, f3, f4, f5⟩ := hf it (by simp)
    refine wpAny_pyNext_list_item st p.isList (x := u) (by simpa using hu) fun h' st' sb => ?_
    have I1 : Inv X pins σ H { s with heap := h' } := I.turned (t' := s.toks) (fun b o hb e => (sb.2 b hb).trans e) f0 f1 f3 f4 f5
    obtain ⟨o, e, c, d⟩ := id st'
    exact ⟨u, rfl, go_of (s := { s with heap := h' }) e c d (by decide) ⟨x, H, I1, ru, ⟨rfl, fun ys hy => by rw [I.list_inj hy hq]; exact hx⟩, st', fun b hb => (hf b hb).1⟩⟩
  done := by
    intro X hP hw hK hc i pins s σ H E I hf st hg
    subst hP hw hK
    obtain ⟨xs, hq, hx⟩ := hg
    obtain ⟨its, rv, p, hz⟩ := I.list hq
    obtain ⟨f0, f1, f2, f3, f4, f5⟩ := hf it (by simp)
    have hl := rv.length
    obtain ⟨x1, hot⟩ := hc.at I
    obtain ⟨oi, ei, ci, di⟩ := id st
    have nx : x1 ≠ it := fun z => by
      obtain ⟨_, o1, vs1, h1, d1, c1⟩ := hot
      rw [z, ei] at h1
      cases h1
      rw [di] at d1
      cases d1
      simp at c1
    exact pyNext_list_end_hot hot nx st p.isList (by simp; omega) fun h' eb => ⟨rfl, I.turned (t' := s.toks) (fun b o hb e => eb b o hb e) f0 f1 f3 f4 f5⟩
  self := fun _ _ _ _ _ st h => wpAny_pyIter_listiter st h
section
variable {X : Cx} {tg : Expr}
theorem pi_listH {l : Expr} {tl : TE} (hl : PE X l tl) : PIH X tg l (iList X.K tl) := by
  refine ⟨fun pins s σ H R I h => ?_⟩
  refine thn (hl.run pins s σ H _ I h) fun v s1 ⟨x, H1, I1, r1, q1⟩ => ?_
  obtain ⟨a, e, ⟨xs, hq⟩, q⟩ := q1
  subst e
  cases r1
  obtain ⟨its, rv, p, hz⟩ := I1.list hq
  refine wpAny_pyIter_list p.isList ?_
  refine ⟨s1.heap.objs.size, [s1.heap.objs.size], _, _, H1, rfl, I1.kept (t' := s1.toks) fun b o e => Heap.get?_push_of_some _ e, turn_listH a _, ⟨_, Heap.get?_push_size _ rfl, rfl, rfl⟩, fun b hb => ?_, q⟩
  have e : b = s1.heap.objs.size := by simpa using hb
  subst e
  exact I1.fpOk (Nat.le_refl _) (I1.hok.fresh (Nat.le_refl _))
end
/-- a list -/
def itL (x : DV) : M (List DV) := match x with
  | .lst l => pure l
  | _ => M.bad
section
variable {X : Cx} {c : Cn} {tg : Expr} {a : Expr} {ma : En → M DV}
theorem pih_imp {ex : Expr} {t t' : TI} (h : PIH X tg ex t) (f : ∀ s H Q, t' s H Q → t s H Q) : PIH X tg ex t' := ⟨fun pins s σ H R I q => h.run pins s σ H R I (f σ H R q)⟩
theorem i_lstH (hk : X.K = c.g.K) (ha : PE X a (RE c ma)) : PIH X tg a (RI c (iB ma itL)) := pih_imp (pi_listH ha) fun s H R q => by
  obtain ⟨W, e, h, S, q⟩ := q
  refine ⟨W, e, h, S, bind_at q fun W1 H1 d v h1 z t S1 r q2 => ?_⟩
  cases d with
  | lst l =>
    simp only [rV, Rep] at r
    obtain ⟨p, vs, e1, f, sq, rs⟩ := r
    refine ⟨p, e1, ⟨vs, .of sq⟩, ?_⟩
    rw [hk]
    exact q2.ret S1 (wk_list (.inl ⟨f, sq⟩) rs)
  | _ => exact q2.elim
theorem for_use {mi : En → M (List DV)} {t : DV → En → Option En} {sl fg : List Nat} {b : Stm} {D : Ends} {s : L2.St} {H : Hp} (q : RS c (sFor mi t fg b) D s H) : tFor (RI c mi) (RG c t sl) (RS c b) D s H := by
  obtain ⟨W, e, h, S0, q⟩ := q
  refine ⟨W, e, h, S0, sb_at (R := fun _ W H ds J => Wk c W H J ds) S0 q fun W1 H1 ds J h1 t1 S1 wk q2 => ?_⟩
  refine ⟨fun i m s' Hc => m = ds.length - i ∧ i ≤ ds.length ∧ ∃ Wc ec hc, Per W1 H1 Wc Hc ∧ Sim c Wc ec hc s' Hc ∧ PostS c Wc Hc (forL t b fg (ds.drop i) ec hc) D,
    ⟨ds.length, rfl, Nat.zero_le _, W1, _, h1, Per.refl _ _, S1.wipe' fg, by rw [List.drop_zero]; exact q2⟩, ?_⟩
  rintro i m s' Hc ⟨em, hi, Wc, ec, hc, pc, Sc, q3⟩
  by_cases hlt : i < ds.length
  rotate_left
  · have ei : i = ds.length := by omega
    subst ei
    rw [List.drop_length] at q3
    exact .inl ⟨wk.st Wc Hc pc, q3.nx Sc⟩
  · right
    obtain ⟨d, ed⟩ : ∃ d, ds[i]? = some d := ⟨_, List.getElem?_eq_getElem hlt⟩
    obtain ⟨g1, g2⟩ := wk.go Wc Hc pc i d ed
    have ed2 : ds.drop i = d :: ds.drop (i + 1) := by
      rw [List.drop_eq_getElem_cons hlt]
      congr 1
      rw [List.getElem?_eq_getElem hlt] at ed
      exact Option.some.inj ed
    rw [ed2] at q3
    refine ⟨g1, fun s2 H2 => ∃ Wc ec hc, Per W1 H1 Wc H2 ∧ Sim c Wc ec hc s2 H2 ∧ PostS c Wc H2 (forL t b fg (ds.drop (i + 1)) ec hc) D, fun s2 H2 z => ⟨_, by omega, rfl, hlt, z⟩, fun x H' y => ?_⟩
    have item : Step Wc Hc Wc H' ∧ HSim c.g Wc hc H' ∧ Rep c.g Wc H' d x := by
      rcases g2 x H' y with ⟨e1, r⟩ | ⟨T, us, l, e1, e2, hT, e3, r⟩
      · subst e1
        exact ⟨Step.refl _ _, Sc.hs, r⟩
      · subst e1 e2 e3
        have tn : Step Wc Hc Wc (upd Hc T (.tup us)) := Step.new hT
        have pn := tn.per Sc.hs
        refine ⟨tn, Sc.hs.new hT pn, ?_⟩
        simp only [Rep]
        exact ⟨T, us, rfl, .inl (.inl upd_same), r.per pn _ _⟩
    obtain ⟨t2, s2, rd⟩ := item
    have p2 := t2.per Sc.hs
    refine ⟨Wc, ec, hc, d, Sc.step t2 s2, rd, ?_⟩
    unfold forL at q3
    cases zt : t d ec with
    | none =>
      rw [zt] at q3
      exact q3.elim
    | some e1 =>
      rw [zt] at q3
      intro s3 S3 _ _
      refine ⟨Wc, e1, hc, S3, ?_⟩
      have q4 : PostS c Wc H' (match b e1 hc with
        | .nx e2 h2 => forL t b fg (ds.drop (i + 1)) (wipeE e2 fg) h2
        | .ct e2 h2 => forL t b fg (ds.drop (i + 1)) (wipeE e2 fg) h2
        | .bk e2 h2 => .nx (wipeE e2 fg) h2
        | .rt d h2 => .rt d h2
        | .exc x e2 h2 => .exc x e2 h2
        | .bad => .bad) D := q3.later p2
      cases zb : b e1 hc with
      | nx e2 h2 =>
        rw [zb] at q4
        exact fun W' s' H2 p S' => ⟨W', _, h2, (pc.trans p2).trans p, S'.wipe' fg, q4.later p⟩
      | ct e2 h2 =>
        rw [zb] at q4
        exact fun W' s' H2 p S' => ⟨W', _, h2, (pc.trans p2).trans p, S'.wipe' fg, q4.later p⟩
      | bk e2 h2 =>
        rw [zb] at q4
        exact fun W' s' H2 p S' => q4 W' s' H2 p (S'.wipe' fg)
      | rt d h2 =>
        rw [zb] at q4
        exact q4
      | exc x e2 h2 =>
        rw [zb] at q4
        exact q4
      | bad =>
        rw [zb] at q4
        exact q4
end
section
variable {T : Tp} {X : Cx} {c : Cn} {N : List Str} {k : Nat} {sc : Scope} {x : Str} {pos : Pos}
theorem ko_for {tg iter : Expr} {body : List Stmt} {mi : En → M (List DV)} {t : DV → En → Option En} {sl : List Nat} (fg : List Nat) {bo : Stm} (h : XHo T X c N k sc) (hi : PIH X tg iter (RI c mi)) (hg : PG X tg (RG c t sl)) (hb : PSs X body (RS c bo))
    (hs : ∀ x, foldedSetIterable iter X.env x = pure x := by intro _; rfl) : PS X (.For tg iter body [] pos) (RS c (sFor mi t fg bo)) := ps_imp (ps_forH (by
      obtain ⟨X0, a, oe, cls, dd, pn, e, _⟩ := h.cur
      subst e
      exact PassesOwn.never) h.hot hi hg hb hs) fun D s H q => for_use q
theorem ko_gn {i : Nat} (h : XHo T X c N k sc) (hi : N[i]? = some x) (hx : sc.names.lookup x = some .local) : PG X (.Name x pos) (RG c (tName i) [i]) := g_name (by rw [h.nm]; exact h.nd) (by rw [h.nm]; exact hi) (by rw [h.sc]; exact .inl hx) (.inr (by rw [h.sc]; exact hx))
theorem ko_var (h : XHo T X c N k sc) (i : Nat) (hi : N[i]? = some x) (hv : Vis sc x) (hd : (x == ("__debug__" : Str)) = false := by decide) (hcd : (x == ("__classdict__" : Str)) = false := by decide) : PE X (.Name x pos) (RE c (eVar i)) := c_var (by rw [h.nm]; exact hi) (by rw [h.sc]; exact hv) hd hcd
end
@[simp] theorem itL_lst (l : List DV) (h : HP) : itL (.lst l) h = .ok l h := rfl
end LM

/-! sorted, list(range), reversed(range), max of a list or a tuple. -/
namespace LM
open PySem L2

/-! ### sorted of a tuple, at the library's level -/
section
open PyProof.Rows SrtO Calls
variable {prog : Program} {w : World} {A : Around} {E : Value → Shared → Prop} {s : Shared}
theorem collect_tuple {l : Addr} {vs : List Value} {Q : List Value → Shared → Prop} (hl : s.heap.IsTuple l vs.toArray)
    (h : Q vs { s with heap := (s.heap.push (seqObj "list" #[] 0)).update s.heap.objs.size (Obj.mapSeq (· ++ vs.toArray)) }) (hsz : vs.length ≤ sizeLine := by size_fits) :
    wpAny (model prog w) A (collect (.ref l)) Q E s := by
  obtain ⟨o, ho, hc, n, hd⟩ := id hl
  unfold collect
  refine wpAny_bind (wpAny_runValue (codeAny_builtin entry_proto_collect' ?_))
  show wpAny _ _ (do again (.builtin "list.__iadd__" ⟨[← newList [], .ref l], []⟩)) _ _ s
  refine wpAny_bind (wpAny_newList (wpAny_pure ⟨Code.quiet_builtin _ (by decide +kernel), codeAny_builtin entry_list_iadd' ?_⟩))
  show wpAny _ _ (Builtin.List.listExtendWith (.ref s.heap.objs.size) (.ref l) (.ref s.heap.objs.size)) _ _ { s with heap := s.heap.push (seqObj "list" #[] 0) }
  unfold Builtin.List.listExtendWith
  have ho' : (s.heap.push (seqObj "list" #[] 0)).get? l = some o := Heap.get?_push_of_some _ ho
  refine wpAny_bind (wpAny_typeOf (T := "tuple") ⟨o, ho', hc⟩ ?_)
  have ht : (Value.type "tuple" == Value.type "tuple") = true := by rfl
  rw [if_pos (by rw [ht]; simp)]
  refine wpAny_bind (listItems_at ho' hd ?_)
  refine wpAny_bind (listItems_at (xs := #[]) (n := 0) (Heap.get?_push_size _ rfl) rfl ?_)
  rw [if_neg (by simp)]
  refine wpAny_bind (listUpdate_at (xs := #[]) (n := 0) (Heap.get?_push_size _ rfl) rfl ?_ (Nat.zero_le _) (by show (#[] ++ vs.toArray).size ≤ sizeLine + 1; simp only [Array.size_append, List.size_toArray, List.length_nil]; omega))
  refine wpAny_pure ?_
  show wpAny (model prog w) A (do
      let o ← load s.heap.objs.size
      match o.data with
      | .seq xs _ => pure xs.toList
      | _ => unsupported "internal:collect") Q E { s with heap := (s.heap.push (seqObj "list" #[] 0)).update s.heap.objs.size (Obj.mapSeq (· ++ vs.toArray)) }
  refine wpAny_bind (wpAny_load (get?_update_seq (Heap.get?_push_size _ rfl) _) ?_)
  show wpAny _ _ (pure ((#[] : Array Value) ++ vs.toArray).toList) Q E _
  rw [show ((#[] : Array Value) ++ vs.toArray).toList = vs by simp]
  exact wpAny_pure h
theorem sorted_ordT {l : Addr} {vs : List Value} {ltv : Value → Value → Bool} {Q : Value → Shared → Prop} (O : Swo ltv) (hl : s.heap.IsTuple l vs.toArray) (hz : vs.length ≤ sizeLine)
    (hS : 2 ≤ vs.length → ∀ (h₁ : Heap) (a : Addr), h₁.get? a = some (seqObj "list" vs.toArray 0) → (∀ b o, s.heap.get? b = some o → b ≠ a ∧ h₁.get? b = some o) → SortableO prog w A.in1.in1 { s with heap := h₁ } a vs ltv)
    (h : ∀ out : List Value, Srtd ltv out → Stb ltv out vs → Q (.ref (s.heap.objs.size + 1)) { s with heap := sortedAll s.heap vs out.toArray }) :
    wpAny (model prog w) A (call (.builtin "sorted") [.ref l]) Q E s := by
  refine Calls.call_function_entry kind_sorted plain_sorted entry_sorted (args_sorted1 _) ?_
  unfold Builtin.«sorted»
  refine wpAny_bind (m := checkCount "sorted" 1 1 _) (wpAny_pure ?_)
  refine wpAny_bind (collect_tuple hl ?_ hz)
  refine wpAny_bind (wpAny_newList ?_ hz)
  have hsz : ((s.heap.push (seqObj "list" #[] 0)).update s.heap.objs.size (Obj.mapSeq (· ++ vs.toArray))).objs.size = s.heap.objs.size + 1 := by
    rw [Heap.size_update, size_push']
  have hoL : (((s.heap.push (seqObj "list" #[] 0)).update s.heap.objs.size (Obj.mapSeq (· ++ vs.toArray))).push (seqObj "list" vs.toArray 0)).get? (s.heap.objs.size + 1) = some (seqObj "list" vs.toArray 0) := by
    rw [← hsz]; exact Heap.get?_push_size _ rfl
  have keep : ∀ b o, s.heap.get? b = some o → b ≠ s.heap.objs.size + 1 ∧ (((s.heap.push (seqObj "list" #[] 0)).update s.heap.objs.size (Obj.mapSeq (· ++ vs.toArray))).push (seqObj "list" vs.toArray 0)).get? b = some o := fun b o q => by
    have hlt : b < s.heap.objs.size := Heap.lt_size q
    refine ⟨Nat.ne_of_lt (Nat.lt_succ_of_lt hlt), Heap.get?_push_of_some _ ?_⟩
    rw [Heap.get?_update_ne _ _ _ _ (Nat.ne_of_lt hlt)]
    exact Heap.get?_push_of_some _ q
  show wpAny _ _ _ _ _ { s with heap := ((s.heap.push (seqObj "list" #[] 0)).update s.heap.objs.size (Obj.mapSeq (· ++ vs.toArray))).push (seqObj "list" vs.toArray 0) }
  rw [hsz]
  refine wpAny_bind (wpAny_holding (wpAny_call_entry slot_list_sort ⟨_, hoL, rfl⟩ entry_list_sort (list_sort_ord O hoL hz (fun h2 => hS h2 _ _ hoL keep) fun out hs hb => ⟨_, rfl, ?_⟩) (args_list_sort _)))
  exact wpAny_pure ⟨_, rfl, h out hs hb⟩
end
/-- a list or a tuple of ints, sorted -/
def rSrt (K : PySem.W.Frag) : List V → Hp → VK → Prop := fun vs H Q => ∃ (a : Addr) (ns : List Int), vs = [V.ref a] ∧ (SqL K H a (ns.map V.int) ∨ SqT K H a (ns.map V.int)) ∧
  ∀ p, H p = none → Q (.ref p) (upd H p (.lst ((PySem.W.sortI ns).map V.int)))
theorem srt_eq {ns ns' : List Int} (h1 : ns'.Perm ns) (h2 : ns'.Pairwise (· ≤ ·)) : ns' = PySem.W.sortI ns :=
  List.Perm.eq_of_pairwise (fun _ _ _ _ a b => Int.le_antisymm a b) h2 (PySem.W.sortI_rises ns) (h1.trans (PySem.W.sortI_perm ns).symm)
theorem cr_srt {X : Cx} : CallR X (.builtin "sorted") (rSrt X.K) := by
  intro pins s σ H vs us Q I r h
  obtain ⟨a, ns, rfl, hs, q⟩ := h
  rcases hs with hs | hs
  · exact cr_sortedI pins s σ H _ us Q I r ⟨a, ns, rfl, hs, fun ns' p e1 e2 np => by
      rw [srt_eq e1 e2]
      exact q p np⟩
  · obtain ⟨its, rv, hl, hz⟩ := I.tuple hs
    rw [Vals.ref1 r]
    have hi := rv.ints
    refine sorted_ordT SrtO.swo_int (show s.heap.IsTuple a its.toArray from hl) (by rw [← rv.length]; exact hz) (fun h2 h₁ a' _ _ => SrtO.ints_sortable hi h2) fun out h1 h2 => ?_
    obtain ⟨k1, k2, k3⟩ := SrtO.ints_out hi h1 h2
    obtain ⟨ep, he'⟩ := PyProof.Rows.sortedAll_at s.heap its out.toArray
    have hlen : ((out.map SrtO.iv).map V.int).length ≤ sizeLine := by
      rw [List.length_map, k2.length_eq]
      rw [List.length_map] at hz
      exact hz
    refine ⟨.ref _, upd H (s.heap.objs.size + 1) (.lst ((out.map SrtO.iv).map V.int)), I.laid (t' := s.toks) (fun _ _ => PyProof.Rows.sortedAll_old) (Nat.le_succ _) ⟨hlen, out, ep, vals_of_ints k1, he'⟩, rfl, ?_⟩
    rw [srt_eq k2 k3]
    exact q _ (I.hok.fresh (Nat.le_succ _))
section
variable {X : Cx} {c : Cn} {pos p1 p2 pos2 : Pos} {a b tg : Expr} {ma mb : En → M DV}
def lSrt (x : DV) : M (List DV) := fun h => match asS h x with
  | some l => (match asInts l with
    | some ns => .ok ((PySem.W.sortI ns).map DV.int) h
    | none => .bad)
  | none => .bad
theorem prim_srt {K : PySem.W.Frag} (hk : c.g.K = K) : Prim1 c (pB c) (rO c) lSrt (rSrt K) := by
  subst hk
  refine ⟨fun {W e h s H Hs x v Q} S rx nw q => ?_⟩
  unfold lSrt at q
  cases z : asS h x with
  | none =>
    rw [z] at q
    exact q.elim
  | some l =>
    rw [z] at q
    have q1 : Post c (rO c Hs) e s W H (match asInts l with
      | some ns => .ok ((PySem.W.sortI ns).map DV.int) h
      | none => .bad) Q := q
    cases z2 : asInts l with
    | none =>
      rw [z2] at q1
      exact q1.elim
    | some ns =>
      rw [z2] at q1
      obtain ⟨p, vs, e1, sq, rs⟩ := asS_ok S rx z
      rw [asInts_map z2] at rs
      have e2 := reps_ints_inv rs
      subst e1 e2
      exact ⟨p, ns, rfl, sq, fun d hd => post_own q1 S (reps_ints _) hd (nw d hd)⟩
theorem c_sorted (hk : X.K = c.g.K) (hg : Gl X "sorted") (hm : X.mg "sorted" = none) (ha : PE X a (RB c ma)) (he : starEach (a :: []) X.env = (false, eval a X.env) :: starEach [] X.env := by rfl) : PE X (.Call (.Name "sorted" p1) [a] [] pos) (RO c (iB ma lSrt)) :=
  c_callB cr_srt (prim_srt hk.symm) hg hm (by decide +kernel) ha (by decide) (by decide) he
/-! ### list(range(n)) -/
theorem rgV_rng (n : Int) : rgV 0 n = (List.range n.toNat).map fun i => V.int ((i : Nat) : Int) := by
  unfold rgV
  rw [Int.sub_zero]
  apply List.map_congr_left
  intro i _
  rw [Int.zero_add]
theorem reps_rng {g : Glue} {W : Wd} {H : Hp} (n : Nat) : Reps g W H (rng n) ((List.range n).map fun i => V.int ((i : Nat) : Int)) := by
  unfold rng
  generalize List.range n = l
  induction l with
  | nil => exact .nil
  | cons x r ih => exact .cons (by simp only [Rep]) ih
theorem c_listRng (hk : X.K = c.g.K) (hc : X.calm = true) (hg : Gl X "list") (hm : X.mg "list" = none) (hg2 : Gl X "range") (hm2 : X.mg "range" = none) (ha : PE X a (RE c ma))
    (hs : starEach [a] X.env = (false, eval a X.env) :: starEach [] X.env := by rfl)
    (hs2 : starEach [.Call (.Name "range" p2) [a] [] pos2] X.env = (false, eval (.Call (.Name "range" p2) [a] [] pos2) X.env) :: starEach [] X.env := by rfl) :
    PE X (.Call (.Name "list" p1) [.Call (.Name "range" p2) [a] [] pos2] [] pos) (RO c (iB ma itN)) := pe_imp (pe_listRg hc hg hm (prg_1 hg2 hm2 ha hs) hs2) fun s H Q q =>
  RX.bind (R := rO c) (k := fun _ x => itN x) q fun W e W1 H1 d v h1 t S r q2 => by
    unfold itN at q2
    split at q2
    · rename_i j
      split at q2
      · rename_i hz
        simp only [Bool.and_eq_true, decide_eq_true_eq] at hz
        simp only [rV, Rep] at r
        refine ⟨j, r, ⟨by omega, by omega, by omega, by omega, by omega⟩, fun q hq => ?_⟩
        rw [rgV_rng]
        exact post_own q2 S (reps_rng _) hq (t.th q hq)
      · exact q2.elim
    · exact q2.elim
/-! ### for i in reversed(range(n)) -/
def itRR (d : DV) : M (List DV) := match d with
  | .int j => if decide (-16777216 ≤ j) && decide (j ≤ 16777216) then pure (rng j.toNat).reverse else M.bad
  | _ => M.bad
theorem wk_rrng {W : Wd} {H : Hp} (n : Nat) : Wk c W H (Itc ((n : Int) - 1) (-1) n) (rng n).reverse where
  go := fun W2 H2 pr i d e => by
    obtain ⟨h0, e0⟩ := rev_get _ e
    rw [rng_len] at h0 e0
    obtain ⟨h1, h2⟩ := rng_get e0
    refine ⟨h0, fun x H3 y => ?_⟩
    obtain ⟨y1, y2⟩ := y
    subst h2 y2
    refine .inl ⟨y1, ?_⟩
    simp only [Rep]
    congr 1
    omega
  st := fun W2 H2 pr => by
    show n ≤ (rng n).reverse.length
    rw [List.length_reverse, rng_len]
    exact Nat.le_refl _
theorem i_revRng (hg : Gl X "reversed") (hm : X.mg "reversed" = none) (hg2 : Gl X "range") (hm2 : X.mg "range" = none) (ha : PE X a (RE c ma)) (hs : starEach [a] X.env = (false, eval a X.env) :: starEach [] X.env := by rfl)
    (hs2 : starEach [.Call (.Name "range" p2) [a] [] pos2] X.env = (false, eval (.Call (.Name "range" p2) [a] [] pos2) X.env) :: starEach [] X.env := by rfl) :
    PI X tg (.Call (.Name "reversed" p1) [.Call (.Name "range" p2) [a] [] pos2] [] pos) (RI c (iB ma itRR)) :=
  pi_imp (pi_revR hg hm (prg_1 hg2 hm2 ha hs) hs2) fun s H R q => RX.bind (k := fun _ x => itRR x) q fun W e W1 H1 d v h1 t S1 r q2 => by
    unfold itRR at q2
    split at q2
    · rename_i j
      split at q2
      · rename_i hz
        simp only [Bool.and_eq_true, decide_eq_true_eq] at hz
        simp only [rV, Rep] at r
        refine ⟨j, r, by omega, by omega, by omega, by omega, ?_⟩
        rw [Int.sub_zero, Int.zero_add]
        exact q2.ret S1 (wk_rrng _)
      · exact q2.elim
    · exact q2.elim
end
@[simp] theorem lSrt_tup (l : List Int) (h : HP) : lSrt (.tup (l.map DV.int)) h = .ok ((PySem.W.sortI l).map DV.int) h := by
  show (match asInts (l.map DV.int) with
    | some ns => Res.ok ((PySem.W.sortI ns).map DV.int) h
    | none => .bad) = _
  rw [asInts_ints]
@[simp] theorem lSrt_lst (l : List Int) (h : HP) : lSrt (.lst (l.map DV.int)) h = .ok ((PySem.W.sortI l).map DV.int) h := by
  show (match asInts (l.map DV.int) with
    | some ns => Res.ok ((PySem.W.sortI ns).map DV.int) h
    | none => .bad) = _
  rw [asInts_ints]
theorem itRR_nat (n : Nat) (h : HP) (q : n ≤ 16777216) : itRR (.int (n : Int)) h = .ok (rng n).reverse h := by
  simp only [itRR]
  rw [decide_eq_true (show (-16777216 : Int) ≤ n by omega), decide_eq_true (show (n : Int) ≤ 16777216 by omega)]
  rfl
end LM

/-! tuple(reversed(a tuple)). -/
namespace LMR
open PySem PySem.Spec PyProof.Rows RT
theorem nolen_rt : typeLookup (.type "reversed") "__len__" = pure none := by rw [typeLookup_type, builtinLookup_eq_fast]; kernel_rfl
theorem slot_rt_hint : Slot "reversed" "__length_hint__" "reversed.__length_hint__" :=
  .of (owner := "reversed") (n := "__length_hint__") (by rw [typeLookup_type, builtinLookup_eq_fast]; kernel_rfl) (by decide +kernel) (by decide +kernel) (by decide +kernel)
    (by first | exact .inl (by decide +kernel) | exact .inr (by decide +kernel)) (by rw [isSubtype_type]; kernel_rfl)
theorem type_rt_hint : typeOf (.builtin "reversed.__length_hint__") = pure (.type "method_descriptor") := by show builtinType _ = _; rw [builtinType_eq_fast]; kernel_rfl
theorem entry_rt_hint : entryFor table "reversed.__length_hint__" = some Builtin.«reversed.__length_hint__» := entryFor_of_tree (by kernel_rfl)
theorem args_rt_hint (a : Value) : argsOk "reversed.__length_hint__" ⟨[a], []⟩ := by
  unfold argsOk; rw [signature?_of (id := "reversed.__length_hint__") (n := ['_', '_', 't', 'n', 'i', 'h', '_', 'h', 't', 'g', 'n', 'e', 'l', '_', '_']) (o := ['d', 'e', 's', 'r', 'e', 'v', 'e', 'r']) (by kernel_rfl) owner_rt]; kernel_rfl
section
variable {prog : Program} {w : World} {A : Around} {E : Value → Shared → Prop} {s : Shared}
theorem hint_rt {it t : Addr} {items : Array Value} {Q : Bool → Shared → Prop} (hit : IsRt s.heap it t ((items.size : Int) - 1)) (ht : IsTup s.heap t items) (hn : items.size ≤ sizeLine)
    (hQ : ∀ tk, Q (decide (items.size ≠ 0)) { s with toks := tk }) : wpAny (model prog w) A (Builtin.List.listLengthHint (.ref it)) Q E s := by
  have hT : s.TypeIs (.ref it) "reversed" := hit.typeIs
  obtain ⟨o, ho, hc, hd⟩ := id hit
  unfold Builtin.List.listLengthHint
  refine wpAny_bind (wpAny_specialOf hT nolen_rt ?_)
  show wpAny _ A (specialOf (Value.ref it) (Str.ofString "__length_hint__") >>= _) _ _ _
  refine wpAny_bind (wpAny_specialOf hT slot_rt_hint.lookup ?_)
  (generalize hid : ("reversed.__length_hint__" : String) = id0; (fail_if_success (clear hid id0)); wp_delta; rw [show splitId id0 = some ("reversed", "__length_hint__") from by subst hid; decide +kernel]; subst hid)
  refine wpAny_bind (wpAny_isInstance (b := true) hT (by rw [isSubtype_type]; kernel_rfl) ?_)
  rw [if_neg (by decide)]
  show wpAny _ A (rule "list.length-hint.hint" >>= _) _ _ _
  refine wpAny_bind (wpAny_rule ?_)
  refine wpAny_bind (m := bindSpecial _ _) ?_
  unfold bindSpecial
  rw [type_rt_hint]
  refine wpAny_bind (wpAny_pure ?_)
  rw [if_pos (by decide)]
  refine wpAny_pure ?_
  refine wpAny_bind (wpAny_attempt (wpAny_call_entry slot_rt_hint hT entry_rt_hint ?_ (args_rt_hint _)))
  unfold Builtin.«reversed.__length_hint__»
  refine wpAny_bind (wpAny_of_eq (a := Value.ref it) rfl ?_)
  refine wpAny_bind (wpAny_field ho hd (x := .ref t) rfl ?_)
  rw [if_neg (show ¬ ((Value.ref t == Value.none) = true) from Bool.false_ne_true)]
  have hn2 : (items.size : Int) < 2 ^ 63 := by
    rw [sizeLine_eq] at hn
    omega
  refine wpAny_bind (len_tuple ht hn2 ?_)
  refine wpAny_bind (m := asInt? _) (wpAny_of_eq (a := some (items.size : Int)) rfl ?_)
  refine wpAny_bind (wpAny_field (s := { s with toks := s.toks + 1 + 1 }) ho hd (x := rawInt ((items.size : Int) - 1)) rfl ?_)
  show wpAny _ _ (if (items.size : Int) < ((items.size : Int) - 1) + 1 then _ else _) _ _ _
  rw [if_neg (by omega)]
  show wpAny _ _ (retInt _) _ _ _
  unfold retInt
  refine wpAny_bind (wpAny_mkInt ?_)
  refine wpAny_pure ?_
  refine ⟨_, rfl, ?_⟩
  show wpAny _ A (asInt? (Value.int ((items.size : Int) - 1 + 1) _) >>= _) _ _ _
  refine wpAny_bind (m := asInt? _) (wpAny_of_eq (a := some ((items.size : Int) - 1 + 1)) rfl ?_)
  have en : (items.size : Int) - 1 + 1 = (items.size : Int) := by omega
  rw [en]
  have e1 : (!Builtin.List.listFitsIndex (items.size : Int)) = false := by
    unfold Builtin.List.listFitsIndex
    simp only [Bool.not_eq_false', Bool.and_eq_true, decide_eq_true_eq]
    omega
  have e2 : Builtin.List.listTooLong ((items.size : Int)).toNat = false := by
    unfold Builtin.List.listTooLong
    rw [Int.toNat_natCast, decide_eq_false_iff_not]
    omega
  try dsimp only
  rw [if_neg (by rw [e1]; decide), if_neg (by omega), if_neg (by rw [e2]; decide)]
  refine wpAny_pure ?_
  have e3 : ((items.size : Int) != 0) = decide (items.size ≠ 0) := by
    rw [bne, Bool.eq_iff_iff]
    simp
  rw [e3]
  exact hQ _
theorem walks_rt (hh : A.handled = none) (I l : Addr) (hne : l ≠ I) (items : Array Value) (hz : items.size ≤ sizeLine) :
    Walks prog w A I [I, l] [I] items.size (fun i v => items[items.size - 1 - i]? = some v) (fun i h => i ≤ items.size ∧ IsRt h I l ((items.size : Int) - 1 - (i : Int)) ∧ IsTup h l items) where
  sub := fun b hb => by simp at hb; simp [hb]
  frame := fun _ _ _ x hk => ⟨x.1, x.2.1.at fun o e => hk I (by simp) o e, by
    obtain ⟨o, e, r⟩ := x.2.2
    exact ⟨o, hk l (by simp) o e, r⟩⟩
  item := fun i s Q E hi x hQ => by
    have e : (items.size : Int) - 1 - (i : Int) = ((items.size - 1 - i : Nat) : Int) := by omega
    have hit := x.2.1
    rw [e] at hit
    have hx : items[items.size - 1 - i]? = some (items[items.size - 1 - i]'(by omega)) := Array.getElem?_eq_getElem (by omega)
    refine next_rt_item hit x.2.2 hx hz fun h' hit' hs' => ?_
    have e2 : ((items.size - 1 - i : Nat) : Int) - 1 = (items.size : Int) - 1 - ((i + 1 : Nat) : Int) := by omega
    rw [e2] at hit'
    exact hQ _ h' _ hx ⟨hi, hit', by
      obtain ⟨o, eo, r⟩ := x.2.2
      exact ⟨o, (hs'.2 l hne).trans eo, r⟩⟩ fun b o hb eo => hs'.extBut b o (fun h => hb (by simp [h])) eo
  done := fun s Q E x hQ => by
    have e : (items.size : Int) - 1 - (items.size : Int) = -1 := by omega
    have hit := x.2.1
    rw [e] at hit
    exact next_rt_end hh hit fun h' he' => hQ h' s.toks fun b o hb eo => he' b o (fun h => hb (by simp [h])) eo
  self := fun _ _ _ _ x hQ => iter_rt x.2.1 hQ
theorem collect_rt {it l : Addr} {items : Array Value} {Q : List Value → Shared → Prop} (hh : A.handled = none) (hit : IsRt s.heap it l ((items.size : Int) - 1)) (hl : IsTup s.heap l items) (hne : l ≠ it) (hn : items.size ≤ sizeLine)
    (hQ : ∀ (h' : Heap) (tk : Nat) (acc : Array Value), (∀ b o, b ≠ it → s.heap.get? b = some o → h'.get? b = some o) → ItemsOf (fun i v => items[items.size - 1 - i]? = some v) acc items.size → Q acc.toList { s with heap := h', toks := tk }) :
    wpAny (model prog w) A (collect (.ref it)) Q E s := by
  have W := (walks_rt (prog := prog) (w := w) (A := A.in1) hh it l hne items hn).toS
  obtain ⟨oi, hoi, _⟩ := id hit
  obtain ⟨ol, hol, _⟩ := id hl
  have hSi : s.heap.objs.size ≠ it := Nat.ne_of_gt (Heap.lt_size hoi)
  have hSl : s.heap.objs.size ≠ l := Nat.ne_of_gt (Heap.lt_size hol)
  have hSf : s.heap.objs.size ∉ [it, l] := by simp only [List.mem_cons, List.not_mem_nil, or_false, not_or]; exact ⟨hSi, hSl⟩
  unfold collect
  refine wpAny_bind (wpAny_runValue (codeAny_builtin F.entry_proto_collect ?_))
  rw [Around.under_plainId F.plain_proto_collect _]
  show wpAny _ A.in1 (newList [] >>= fun l' => again (.builtin "list.__iadd__" ⟨[l', .ref it], []⟩)) _ _ s
  refine wpAny_bind (wpAny_newObj_type ?_)
  refine wpAny_pure ⟨plainId_quiet F.plain_list_iadd _, codeAny_builtin F.entry_list_iadd ?_⟩
  rw [Around.under_plainId F.plain_list_iadd _]
  have hS₁ : (s.heap.push { cls := .type "list", data := .seq ([] : List Value).toArray }).get? s.heap.objs.size = some { cls := .type "list", data := .seq ([] : List Value).toArray } := Heap.get?_push_size _ rfl
  have hit1 : IsRt (s.heap.push { cls := .type "list", data := .seq ([] : List Value).toArray }) it l ((items.size : Int) - 1) := hit.at fun o e => Heap.get?_push_of_some _ e
  have hl1 : IsTup (s.heap.push { cls := .type "list", data := .seq ([] : List Value).toArray }) l items := by
    obtain ⟨o, e, r⟩ := hl
    exact ⟨o, Heap.get?_push_of_some _ e, r⟩
  have hT : ({ s with heap := s.heap.push { cls := .type "list", data := .seq ([] : List Value).toArray } } : Shared).TypeIs (.ref it) "reversed" := IsRt.typeIs (s := { s with heap := s.heap.push { cls := .type "list", data := .seq ([] : List Value).toArray } }) hit1
  have h1 : Builtin.List.listSameRef (.ref s.heap.objs.size) (.ref it) = false := by simp [Builtin.List.listSameRef, hSi]
  show wpAny _ A.in1 (Builtin.List.listExtendWith (.ref s.heap.objs.size) (.ref it) (.ref s.heap.objs.size)) _ _ _
  unfold Builtin.List.listExtendWith
  refine wpAny_bind (wpAny_typeOf hT ?_)
  rw [if_neg (by rw [h1]; decide)]
  refine wpAny_bind (iter_rt (s := { s with heap := s.heap.push { cls := .type "list", data := .seq ([] : List Value).toArray } }) hit1 ?_)
  refine wpAny_bind (wpAny_holding (hint_rt (s := { s with heap := s.heap.push { cls := .type "list", data := .seq ([] : List Value).toArray } }) hit1 hl1 hn fun tk0 => ?_))
  have e0 : ((items.size : Nat) : Int) - 1 - ((0 : Nat) : Int) = (items.size : Int) - 1 := by omega
  by_cases hz : items.size = 0
  · have er : decide (items.size ≠ 0) = false := decide_eq_false (by omega)
    rw [er]
    show wpAny _ A.in1 (again (.builtin "list.extend.loop" ⟨[.ref s.heap.objs.size, .ref it, .ref s.heap.objs.size], []⟩)) _ _ _
    have idh : ∀ b o, b ≠ s.heap.objs.size → (s.heap.push { cls := .type "list", data := .seq ([] : List Value).toArray }).get? b = some o → (s.heap.push { cls := .type "list", data := .seq ([] : List Value).toArray }).get? b = some o := fun _ _ _ e => e
    refine wpAny_pure ⟨plainId_quiet F.plain_extend_loop _, codeAny_extend_loopS W hn _ hSf _ items.size 0 _ _ _ rfl (Nat.zero_le _) ⟨Nat.zero_le _, by rw [e0]; exact hit1.at fun o e => idh it o (Ne.symm hSi) e, by
      obtain ⟨o, e, r⟩ := hl1
      exact ⟨o, idh l o (Ne.symm hSl) e, r⟩⟩ hS₁ (ItemsOf.nil _) fun s' acc' c' hm hS' hacc => ?_⟩
    show wpAny _ A (load s.heap.objs.size >>= _) _ _ s'
    refine wpAny_bind (wpAny_load hS' ?_)
    refine wpAny_pure ?_
    rw [Moved.eq_with hm]
    refine hQ s'.heap s'.toks acc' (fun b o hb e => hm.heap b o (fun hmem => ?_) (idh b o (Nat.ne_of_lt (Heap.lt_size e)) (Heap.get?_push_of_some _ e))) hacc
    rcases List.mem_cons.mp hmem with e' | hmem
    · exact absurd (Heap.lt_size e) (by rw [e']; exact Nat.lt_irrefl _)
    · exact hb (List.mem_singleton.mp hmem)
  · have er : decide (items.size ≠ 0) = true := decide_eq_true hz
    rw [er]
    show wpAny _ A.in1 (rule "list.extend.makes-room" >>= fun _ => Builtin.List.listTouch (.ref s.heap.objs.size) >>= fun _ =>
      again (.builtin "list.extend.loop" ⟨[.ref s.heap.objs.size, .ref it, .ref s.heap.objs.size], []⟩)) _ _ _
    refine wpAny_bind (wpAny_rule ?_)
    refine wpAny_bind ?_
    show wpAny _ A.in1 (updateSeq s.heap.objs.size (·.push .none) >>= fun _ => updateSeq s.heap.objs.size (·.pop)) _ _ _
    refine wpAny_bind (wpAny_updateSeq hS₁ rfl ?_)
    have hS₂ := Heap.get?_update_self (Obj.mapSeq (·.push Value.none)) hS₁ rfl
    refine wpAny_updateSeq hS₂ rfl ?_
    have hS₃ := Heap.get?_update_self (Obj.mapSeq (·.pop)) hS₂ rfl
    have oth : ∀ b o, b ≠ s.heap.objs.size → (s.heap.push { cls := .type "list", data := .seq ([] : List Value).toArray }).get? b = some o →
        (((s.heap.push { cls := .type "list", data := .seq ([] : List Value).toArray }).update s.heap.objs.size (Obj.mapSeq (·.push Value.none))).update s.heap.objs.size (Obj.mapSeq (·.pop))).get? b = some o :=
      fun b o hb e => (Heap.get?_update_other _ _ (Ne.symm hb)).trans ((Heap.get?_update_other _ _ (Ne.symm hb)).trans e)
    refine wpAny_pure ⟨plainId_quiet F.plain_extend_loop _, codeAny_extend_loopS W hn _ hSf _ items.size 0 _ _ _ rfl (Nat.zero_le _) ⟨Nat.zero_le _, by rw [e0]; exact hit1.at fun o e => oth it o (Ne.symm hSi) e, by
      obtain ⟨o, e, r⟩ := hl1
      exact ⟨o, oth l o (Ne.symm hSl) e, r⟩⟩ hS₃ (ItemsOf.nil _) fun s' acc' c' hm hS' hacc => ?_⟩
    show wpAny _ A (load s.heap.objs.size >>= _) _ _ s'
    refine wpAny_bind (wpAny_load hS' ?_)
    refine wpAny_pure ?_
    rw [Moved.eq_with hm]
    refine hQ s'.heap s'.toks acc' (fun b o hb e => hm.heap b o (fun hmem => ?_) (oth b o (Nat.ne_of_lt (Heap.lt_size e)) (Heap.get?_push_of_some _ e))) hacc
    rcases List.mem_cons.mp hmem with e' | hmem
    · exact absurd (Heap.lt_size e) (by rw [e']; exact Nat.lt_irrefl _)
    · exact hb (List.mem_singleton.mp hmem)
theorem code_tuple_new_rt {it l : Addr} {items : Array Value} {Q₁ : Value → Shared → Prop} (hh : A.handled = none) (hit : IsRt s.heap it l ((items.size : Int) - 1)) (hl : IsTup s.heap l items) (hne : l ≠ it) (hn : items.size ≤ sizeLine)
    (h : ∀ (h' : Heap) (tk : Nat) (acc : Array Value), (∀ b o, b ≠ it → s.heap.get? b = some o → h'.get? b = some o) → ItemsOf (fun i v => items[items.size - 1 - i]? = some v) acc items.size →
      Q₁ (.ref h'.objs.size) { s with heap := h'.push { cls := .type "tuple", data := .seq acc }, toks := tk }) :
    codeAny (model prog w) A (.call (.builtin "tuple.__new__") ⟨[.type "tuple", .ref it], []⟩) (wants Q₁ E) s := by
  refine codeAny_of_tree ?_
  show wpAny _ A.in1 (do checkBuiltinCall "tuple.__new__" ⟨[.type "tuple", .ref it], []⟩; again (.builtin "tuple.__new__" ⟨[.type "tuple", .ref it], []⟩)) _ _ s
  refine wpAny_bind (wpAny_of_eq (F.newCall_tuple_1 _) (wpAny_pure ⟨plainId_quiet F.plain_tuple_new _, codeAny_builtin F.entry_tuple_new ?_⟩))
  rw [Around.under_plainId F.plain_tuple_new _]
  have hsub := sub_tuple_self
  have hinit := init_tuple_lookup
  have hmh := madeHere_tuple
  have hTI : s.TypeIs (.ref it) "reversed" := hit.typeIs
  have hh1 : A.in1.handled = none := hh
  wp_walk using wpAny_typeOf hTI, collect_rt (A := A.in1) hh1 hit hl hne hn
  intro h' tk acc hk hacc
  show wpAny _ _ (Builtin.Tuple.tupleExact acc.toList.toArray >>= fun v => ret v) _ _ _
  unfold Builtin.Tuple.tupleExact
  refine wpAny_bind (wpAny_newObj_type ?_ (by show acc.toList.toArray.size ≤ sizeLine; simp only [Array.toArray_toList]; rw [hacc.1]; exact hn))
  refine wpAny_pure ?_
  have e : acc.toList.toArray = acc := by simp
  rw [e]
  exact h h' tk acc hk hacc
theorem call_tuple_rt {it l : Addr} {items : Array Value} {Q : Value → Shared → Prop} (hh : A.handled = none) (hit : IsRt s.heap it l ((items.size : Int) - 1)) (hl : IsTup s.heap l items) (hne : l ≠ it) (hn : items.size ≤ sizeLine)
    (hQ : ∀ (h' : Heap) (tk : Nat) (acc : Array Value), (∀ b o, b ≠ it → s.heap.get? b = some o → h'.get? b = some o) → ItemsOf (fun i v => items[items.size - 1 - i]? = some v) acc items.size →
      Q (.ref h'.objs.size) { s with heap := h'.push { cls := .type "tuple", data := .seq acc }, toks := tk }) :
    wpAny (model prog w) A (call (.type "tuple") [.ref it]) Q E s := by
  refine callType_codes (Q₁ := fun obj s₁ => s₁.TypeIs obj "tuple" ∧ Q obj s₁) F.called_tuple (F.typeCall_tuple_1 _) F.entry_object_init
    (code_tuple_new_rt (A := A.in1) hh hit hl hne hn fun h' tk acc hk hacc => ⟨⟨_, Heap.get?_push_size _ rfl, rfl⟩, hQ h' tk acc hk hacc⟩) fun obj s₁ h₁ => ?_
  exact ⟨h₁.1, F.args_object_init_2 obj _, object_init_meets F.called_tuple.init.lookup F.called_tuple.made (by decide) prog w A.in1 _ s₁ ⟨h₁.1, rfl, h₁.2⟩⟩
end
section
open L2
variable {X : Cx}
/-- tuple(reversed(x)), x a list or a tuple -/
def tTupRevA (K : PySem.W.Frag) (te : TE) : TE := fun σ H Q => te σ H fun v H1 => ∃ (a : Addr) (xs : List V), v = .ref a ∧ (SqL K H1 a xs ∨ SqT K H1 a xs) ∧ ∀ q, H1 q = none → Q (.ref q) (upd H1 q (.tup xs.reverse))
theorem pe_tupRevA {e : Expr} {te : TE} {p p2 pos pos2 : Pos} (hc : X.calm = true) (hg : Gl X "tuple") (hm : X.mg "tuple" = none) (hg2 : Gl X "reversed") (hm2 : X.mg "reversed" = none) (he : PE X e te)
    (hs : starEach [e] X.env = (false, eval e X.env) :: starEach [] X.env := by rfl)
    (hs2 : starEach [.Call (.Name "reversed" p2) [e] [] pos2] X.env = (false, eval (.Call (.Name "reversed" p2) [e] [] pos2) X.env) :: starEach [] X.env := by rfl) :
    PE X (.Call (.Name "tuple" p) [.Call (.Name "reversed" p2) [e] [] pos2] [] pos) (tTupRevA X.K te) := by
  refine ⟨fun pins s σ H Q I h => ?_⟩
  refine Call_ (ld_blt I hg hm boot_tuple (PyProof.Rows.callWith_type1 (args_cons (Call_ (ld_blt I hg2 hm2 PyProof.Rows.boot_reversed (PyProof.Rows.callWith_type1 (args_cons (thn (he.run pins s σ H _ I h) fun u s1 ⟨v, H1, I1, r1, q1⟩ => args_nil ?_) hs) hs rfl))) hs2) hs2 rfl))
  obtain ⟨a, xs, ev, hq, q⟩ := q1
  subst ev
  obtain rfl : u = Value.ref a := r1
  rcases hq with hq | hq
  · obtain ⟨its, rv, p', hz⟩ := I1.list hq
    refine call_reversed_list p'.isList (args_nil ?_)
    have k0 : ∀ b o, s1.heap.get? b = some o → (s1.heap.push (revObj a ((its.toArray.size : Int) - 1))).get? b = some o := fun b o e => Heap.get?_push_of_some _ e
    have I2 : Inv X pins σ H1 { s1 with heap := s1.heap.push (revObj a ((its.toArray.size : Int) - 1)) } := I1.kept (t' := s1.toks) k0
    obtain ⟨f0, f1, f2, f3, f4, f5⟩ := I1.fpOk (H' := H1) (b := s1.heap.objs.size) (Nat.le_refl _) (I1.hok.fresh (Nat.le_refl _))
    have hl := p'.isList
    obtain ⟨ol, hol, _⟩ := id hl
    have hne : a ≠ s1.heap.objs.size := Nat.ne_of_lt (Heap.lt_size hol)
    have hn : its.toArray.size ≤ sizeLine := by rw [List.size_toArray, ← rv.length]; exact hz
    refine call_tuple_rev (s := { s1 with heap := s1.heap.push (revObj a ((its.toArray.size : Int) - 1)) }) (I1.ok.hd hc) ⟨_, Heap.get?_push_size _ rfl, rfl, rfl⟩ (hl.push _) hne hn fun h' tk acc hk hi => ?_
    have I3 : Inv X pins σ H1 { s1 with heap := h', toks := tk } := I2.turned (t' := tk) (fun b o hb e => hk b o hb e) f0 f1 f3 f4 f5
    refine ⟨.ref h'.objs.size, upd H1 h'.objs.size (.tup xs.reverse), I3.laid (t' := tk) (fun c o e => Heap.get?_push_of_some _ e) (Nat.le_refl _) (show ObjOk X.prog X.w _ _ _ (.tup xs.reverse) from ⟨by rw [List.length_reverse]; exact hz, acc.toList, vals_rev rv hi, ?_⟩), rfl, q _ (I3.hok.fresh (Nat.le_refl _))⟩
    rw [Array.toArray_toList]
    exact IsTup.new _ _
  · obtain ⟨its, rv, p', hz⟩ := I1.tuple hq
    have hn : its.toArray.size ≤ sizeLine := by rw [List.size_toArray, ← rv.length]; exact hz
    have hn2 := hn
    rw [sizeLine_eq] at hn2
    refine call_reversed_tup p' (fun A E Q k => len_tuple p' (by omega) k) (args_nil ?_)
    have k0 : ∀ b o, s1.heap.get? b = some o → (s1.heap.push (rtObj a ((its.toArray.size : Int) - 1))).get? b = some o := fun b o e => Heap.get?_push_of_some _ e
    have I2 : Inv X pins σ H1 { s1 with heap := s1.heap.push (rtObj a ((its.toArray.size : Int) - 1)), toks := s1.toks + 1 + 1 } := I1.kept (t' := s1.toks + 1 + 1) k0
    obtain ⟨f0, f1, f2, f3, f4, f5⟩ := I1.fpOk (H' := H1) (b := s1.heap.objs.size) (Nat.le_refl _) (I1.hok.fresh (Nat.le_refl _))
    obtain ⟨ol, hol, r0⟩ := id p'
    have hne : a ≠ s1.heap.objs.size := Nat.ne_of_lt (Heap.lt_size hol)
    refine call_tuple_rt (s := { s1 with heap := s1.heap.push (rtObj a ((its.toArray.size : Int) - 1)), toks := s1.toks + 1 + 1 }) (I1.ok.hd hc) ⟨_, Heap.get?_push_size _ rfl, rfl, rfl⟩ ⟨ol, Heap.get?_push_of_some _ hol, r0⟩ hne hn fun h' tk acc hk hi => ?_
    have I3 : Inv X pins σ H1 { s1 with heap := h', toks := tk } := I2.turned (t' := tk) (fun b o hb e => hk b o hb e) f0 f1 f3 f4 f5
    refine ⟨.ref h'.objs.size, upd H1 h'.objs.size (.tup xs.reverse), I3.laid (t' := tk) (fun c o e => Heap.get?_push_of_some _ e) (Nat.le_refl _) (show ObjOk X.prog X.w _ _ _ (.tup xs.reverse) from ⟨by rw [List.length_reverse]; exact hz, acc.toList, vals_rev rv hi, ?_⟩), rfl, q _ (I3.hok.fresh (Nat.le_refl _))⟩
    rw [Array.toArray_toList]
    exact IsTup.new _ _
end
end LMR
namespace LM
open PySem L2
/-- tuple(reversed(x)), x a list or a tuple -/
def vTupRevA (x : DV) : M DV := fun h => match asS h x with
  | some l => .ok (.tup l.reverse) h
  | none => .bad
theorem c_tupRevA {X : Cx} {c : Cn} {pos p1 p2 pos2 : Pos} {a : Expr} {ma : En → M DV} (hk : X.K = c.g.K) (hc : X.calm = true) (hg : Gl X "tuple") (hm : X.mg "tuple" = none) (hg2 : Gl X "reversed") (hm2 : X.mg "reversed" = none) (ha : PE X a (RB c ma)) (hs : starEach [a] X.env = (false, eval a X.env) :: starEach [] X.env := by rfl)
    (hs2 : starEach [.Call (.Name "reversed" p2) [a] [] pos2] X.env = (false, eval (.Call (.Name "reversed" p2) [a] [] pos2) X.env) :: starEach [] X.env := by rfl) :
    PE X (.Call (.Name "tuple" p1) [.Call (.Name "reversed" p2) [a] [] pos2] [] pos) (RE c (e1 vTupRevA ma)) := pe_imp (LMR.pe_tupRevA hc hg hm hg2 hm2 ha hs hs2) fun s H Q q =>
  RX.bind q fun W e W1 H1 x v h1 t S rx q2 => by
    unfold vTupRevA at q2
    cases z : asS h1 x with
    | none =>
      rw [z] at q2
      exact q2.elim
    | some l =>
      rw [z] at q2
      obtain ⟨p, vs, e1, sq, r⟩ := asS_ok S rx z
      exact ⟨p, vs, e1, hk ▸ sq, fun d hd => post_tup q2 S r.rev hd⟩
@[simp] theorem vTupRevA_tup (l : List DV) (h : HP) : vTupRevA (.tup l) h = .ok (.tup l.reverse) h := rfl
@[simp] theorem vTupRevA_lst (l : List DV) (h : HP) : vTupRevA (.lst l) h = .ok (.tup l.reverse) h := rfl
end LM

/-! Instances: what they are, their fields read and stored. -/
namespace LM
open PySem L2

/-- an instance's class and fields, frozen or not -/
def clsO (h : HP) (x : DV) : Option (Nat × List DV) := match x with
  | .obj c l => some (c, l)
  | .ref p => (match h[p]? with
    | some (.obj c l) => some (c, l)
    | _ => none)
  | _ => none
theorem obj_at {g : Glue} {W : Wd} {h : HP} {H : Hp} {o : DV} {v : V} {c : Nat} {l : List DV} (S : HSim g W h H) (r : Rep g W H o v) (e : clsO h o = some (c, l)) :
    ∃ a dx vs, v = .ref a ∧ H a = some (.ins (g.cA c) dx ((g.flds c).zip vs)) ∧ vs.length ≤ (g.flds c).length ∧ Reps g W H l vs := by
  cases o with
  | obj c' l' =>
    cases e
    simp only [Rep] at r
    obtain ⟨a, dx, vs, e1, _, e2, e3, r⟩ := r
    exact ⟨a, dx, vs, e1, e2, e3, r⟩
  | ref p =>
    simp only [Rep] at r
    obtain ⟨a, e1, e2⟩ := r
    unfold clsO at e
    simp only [] at e
    cases z : h[p]? with
    | none =>
      rw [z] at e
      cases e
    | some ob =>
      rw [z] at e
      cases ob with
      | lst l => cases e
      | obj c' l' =>
        cases e
        obtain ⟨⟨dx, vs, e3, e4, r⟩, _⟩ := S.o p _ a z e2
        exact ⟨a, dx, vs, e1, e3, e4, r⟩
  | _ => cases e
theorem zip_lookup : ∀ {L : List Str} {vs : List V} {j : Nat} {f : Str} {v : V}, L.Nodup → L[j]? = some f → vs[j]? = some v → (L.zip vs).lookup f = some v
  | [], _, _, _, _, _, e, _ => by simp at e
  | x :: L, [], _, _, _, _, _, e => by simp at e
  | x :: L, y :: vs, 0, f, v, _, e1, e2 => by
    cases e1
    cases e2
    simp [List.lookup]
  | x :: L, y :: vs, j + 1, f, v, nd, e1, e2 => by
    rw [List.nodup_cons] at nd
    have e1' : L[j]? = some f := by simpa using e1
    have ne : (f == x) = false := beq_eq_false_iff_ne.mpr fun z => nd.1 (z ▸ List.mem_of_getElem? e1')
    rw [List.zip_cons_cons]
    simp only [List.lookup, ne]
    exact zip_lookup nd.2 e1' (by simpa using e2)
theorem zip_none : ∀ {L : List Str} {vs : List V} {f : Str}, f ∉ L → (L.zip vs).lookup f = none
  | [], _, _, _ => by simp
  | x :: L, [], _, _ => by simp
  | x :: L, y :: vs, f, n => by
    have ne : (f == x) = false := beq_eq_false_iff_ne.mpr fun z => n (z ▸ List.mem_cons_self)
    rw [List.zip_cons_cons]
    simp only [List.lookup, ne]
    exact zip_none fun z => n (List.mem_cons_of_mem _ z)
theorem zip_put : ∀ {L : List Str} {vs : List V} {j : Nat} {f : Str} {v : V}, L.Nodup → L[j]? = some f → j < vs.length → putF f v (L.zip vs) = L.zip (vs.set j v)
  | [], _, _, _, _, _, e, _ => by simp at e
  | x :: L, [], _, _, _, _, _, e => by simp at e
  | x :: L, y :: vs, 0, f, v, _, e1, _ => by
    cases e1
    simp [putF]
  | x :: L, y :: vs, j + 1, f, v, nd, e1, hj => by
    rw [List.nodup_cons] at nd
    have e1' : L[j]? = some f := by simpa using e1
    have ne : ¬ x = f := fun z => nd.1 (z ▸ List.mem_of_getElem? e1')
    rw [List.zip_cons_cons, List.set_cons_succ, List.zip_cons_cons]
    show (if x = f then (x, v) :: L.zip vs else (x, y) :: putF f v (L.zip vs)) = _
    rw [if_neg ne, zip_put nd.2 e1' (by simpa using hj)]

/-- what is known of class c's field f, number j -/
structure FldOk (T : Tp) (f : Str) (c j : Nat) : Prop where
  cl : Cls T.g.K (T.g.cA c)
  na : NoAttr T.g.K (T.g.cA c) f
  nd : (T.g.flds c).Nodup
  at_ : (T.g.flds c)[j]? = some f
  few : (T.g.flds c).length < 900
def FldL (T : Tp) (f : Str) (tab : List (Nat × Nat)) : Prop := ∀ c j, (c, j) ∈ tab → FldOk T f c j
theorem fldL_nil {T : Tp} {f : Str} : FldL T f [] := fun _ _ h => by cases h
theorem fldL_cons {T : Tp} {f : Str} {c j : Nat} {tab : List (Nat × Nat)} (a : FldOk T f c j) (b : FldL T f tab) : FldL T f ((c, j) :: tab) := fun c' j' h => by
  rcases List.mem_cons.mp h with e | e
  · cases e
    exact a
  · exact b _ _ e
theorem mem_of_lookup2 : ∀ {l : List (Nat × Nat)} {c j : Nat}, l.lookup c = some j → (c, j) ∈ l
  | [], _, _, e => by cases e
  | (a, b) :: r, c, j, e => by
    by_cases h : c = a
    · subst h
      simp [List.lookup] at e
      subst e
      exact List.mem_cons_self
    · have ne : (c == a) = false := beq_eq_false_iff_ne.mpr h
      simp only [List.lookup, ne] at e
      exact List.mem_cons_of_mem _ (mem_of_lookup2 e)
/-- e.f -/
def fldO (tab : List (Nat × Nat)) (o : Option (Nat × List DV)) : Option DV := match o with
  | some (c, l) => (match tab.lookup c with
    | some j => l[j]?
    | none => none)
  | none => none
def vFld (tab : List (Nat × Nat)) (x : DV) : M DV := fun h => match fldO tab (clsO h x) with
  | some d => .ok d h
  | none => .bad
section
variable {T : Tp} {X : Cx} {c : Cn} {N : List Str} {k : Nat} {sc : Scope} {pos pos' : Pos} {ex o : Expr} {f : Str} {tab : List (Nat × Nat)} {ma mo mv : En → M DV}
theorem c_fld (hX : XEx T X c N k sc) (F : FldL T f tab) (ha : PE X ex (RE c ma)) (hb : attributeBase ex f X.env (eval ex X.env) = eval ex X.env := by rfl) : PE X (.Attribute ex f pos) (RE c (e1 (vFld tab) ma)) := pe_imp (pe_fld ha hb) fun s H Q q => by
  refine RX.bind q fun W e W1 H1 o v h1 t S r q2 => ?_
  unfold vFld at q2
  cases z : clsO h1 o with
  | none =>
    rw [z] at q2
    exact q2.elim
  | some y =>
    obtain ⟨ci, l⟩ := y
    rw [z] at q2
    unfold fldO at q2
    simp only [] at q2
    cases z2 : tab.lookup ci with
    | none =>
      rw [z2] at q2
      exact q2.elim
    | some j =>
      rw [z2] at q2
      simp only [] at q2
      cases z3 : l[j]? with
      | none =>
        rw [z3] at q2
        exact q2.elim
      | some d =>
        rw [z3] at q2
        obtain ⟨a, dx, vs, e1, e2, e3, rs⟩ := obj_at S.hs r z
        obtain ⟨u, eu, ru⟩ := rs.get z3
        have fo := F ci j (mem_of_lookup2 z2)
        rw [hX.pg] at e2
        refine ⟨a, _, dx, _, u, e1, e2, by rw [hX.pk]; exact fo.cl, by rw [hX.pk]; exact fo.na, zip_lookup fo.nd fo.at_ eu, q2.ret S ru⟩
/-! ### o.f = e, o an object that is not frozen -/
def setF (tab : List (Nat × Nat)) (h : HP) (o d : DV) : Option HP := match o with
  | .ref p => (match h[p]? with
    | some (.obj c l) => (match tab.lookup c with
      | some j => if j < l.length then some (h.set p (.obj c (l.set j d))) else none
      | none => none)
    | _ => none)
  | _ => none
def sSetF (tab : List (Nat × Nat)) (mv mo : En → M DV) : Stm := sBind mv fun d => sBind mo fun o e h => hNx (setF tab h o d) e
theorem s_setF (hX : XEx T X c N k sc) (F : FldL T f tab) (ho : PE X o (RE c mo)) (hv : PE X ex (RE c mv)) (hs : swapsWith ex (some (.Attribute o f pos')) pos.line X.env = pure false := by rfl) : PS X (.Assign [.Attribute o f pos'] ex pos) (RS c (sSetF tab mv mo)) :=
  ps_imp (ps_fld ho hv hs) fun D s H q => by
    refine sb_use q fun W e W1 H1 d v h1 t S r q1 => ?_
    refine ⟨W1, e, h1, S, sb_at (R := rV c) S q1 fun W2 H2 od w h2 t2 S2 ro q2 => ?_⟩
    unfold setF at q2
    cases od with
    | ref p =>
      simp only [] at q2
      cases z : h2[p]? with
      | none =>
        rw [z] at q2
        exact q2.elim
      | some ob =>
        rw [z] at q2
        cases ob with
        | lst l => exact q2.elim
        | obj ci l =>
          simp only [] at q2
          cases z2 : tab.lookup ci with
          | none =>
            rw [z2] at q2
            exact q2.elim
          | some j =>
            rw [z2] at q2
            simp only [] at q2
            by_cases hj : j < l.length
            rotate_left
            · rw [if_neg hj] at q2
              exact q2.elim
            rw [if_pos hj] at q2
            simp only [Rep] at ro
            obtain ⟨a, ea, er⟩ := ro
            obtain ⟨⟨dx, vs, e3, e4, rs⟩, nf⟩ := S2.hs.o p _ a z er
            have fo := F ci j (mem_of_lookup2 z2)
            have hlen := rs.len
            have e3' := e3
            rw [hX.pg] at e3'
            have fl : ((T.g.flds ci).zip vs).length < 1000 := by
              rw [List.length_zip]
              have := fo.few
              omega
            refine ⟨a, _, dx, _, ea, e3', by rw [hX.pk]; exact fo.cl, by rw [hX.pk]; exact fo.na, fl, ?_⟩
            rw [zip_put fo.nd fo.at_ (by omega)]
            have r2 : Rep c.g W2 H2 d v := r.per (t2.per S.hs) _ _
            obtain ⟨st, hs⟩ := S2.hs.write (o' := .obj ci (l.set j d)) (u' := .ins (c.g.cA ci) dx ((c.g.flds ci).zip (vs.set j v))) z er e3 fun pr => ⟨dx, vs.set j v, upd_same, by rw [List.length_set]; exact e4, (rs.per pr _ _).set (Rep.per pr _ _ r2) j⟩
            have q3 : PostS c W2 H2 (.nx e (h2.set p (.obj ci (l.set j d)))) D := q2
            rw [← hX.pg]
            exact (q3.later (st.per S2.hs)).nx (S2.step st hs)
    | _ => exact q2.elim
end
end LM

/-! Methods called. -/
namespace LM
open PySem L2

/-- what is known of class c's method m; n: its parameters, self among them -/
structure MethOk (T : Tp) (m : Str) (c k n : Nat) (f : List DV → M DV) : Prop where
  cl : Cls T.g.K (T.g.cA c)
  nf : m ∉ T.g.flds c
  ex : ∃ a fd ps, Meth T.g.K (T.g.cA c) m a ∧ Binds T.g.K fd ps [] ∧ FnOk T.P T.w T.g.K T.mg T.base (L2N.CX T.P T.w) k a fd ps (spF T.g n f)
theorem MethOk.mono {T : Tp} {m : Str} {c j k n : Nat} {f : List DV → M DV} (F : MethOk T m c j n f) (h : j ≤ k) : MethOk T m c k n f := by
  obtain ⟨a, fd, ps, e, b, f⟩ := F.ex
  exact ⟨F.cl, F.nf, a, fd, ps, e, b, f.mono h⟩
def MoL (T : Tp) (m : Str) (k n : Nat) (ms : Fns) : Prop := ∀ c f, (c, f) ∈ ms → MethOk T m c k n f
theorem moL_nil {T : Tp} {m : Str} {k n : Nat} : MoL T m k n [] := fun _ _ h => by cases h
theorem moL_cons {T : Tp} {m : Str} {j k n c : Nat} {f : List DV → M DV} {ms : Fns} (F : MethOk T m c j n f) (hj : j ≤ k) (L : MoL T m k n ms) : MoL T m k n ((c, f) :: ms) := fun c' f' h => by
  rcases List.mem_cons.mp h with e | e
  · cases e
    exact F.mono hj
  · exact L _ _ e
def mthO (ms : Fns) (h : HP) (o : DV) : Option (List DV → M DV) := match clsO h o with
  | some (c, _) => ms.lookup c
  | none => none
def orM (f : Option (List DV → M DV)) (o : DV) (ma : M (List DV)) : M DV := match f with
  | some m => ma >>= fun l => m (o :: l)
  | none => M.bad
/-- o.m(e, ..) -/
def eMeth (ms : Fns) (mo : En → M DV) (ma : En → M (List DV)) : En → M DV := fun e => mo e >>= fun o h => orM (mthO ms h o) o (ma e) h
section
variable {T : Tp} {X : Cx} {c : Cn} {N : List Str} {k : Nat} {sc : Scope} {pos apos : Pos} {ex o : Expr} {es : List Expr} {m : Str} {n : Nat} {ms : Fns} {mo : En → M DV} {ma : En → M (List DV)}
theorem meth_args {W1 : Wd} {e : En} {h1 : HP} {s : L2.St} {H1 : Hp} {od : DV} {v : V} {f : List DV → M DV} {Q : VK} (S : Sim c W1 e h1 s H1) (ro : Rep c.g W1 H1 od v) (q : Post c (rV c H1) e s W1 H1 ((ma e >>= fun l => f (od :: l)) h1) Q) :
    RX c (rVs c n) ma s H1 fun vs H2 => spF c.g (n + 1) f ((v :: vs) ++ []) H2 Q (WE c.x s) :=
  ⟨W1, e, h1, S, q.bind fun W2 H2 ds vs h2 t2 S2 r q3 => by
    rw [List.append_nil]
    refine ⟨W2, h2, od :: ds, S2.hs, Reps.cons (ro.per (t2.per S.hs) _ _) r.1, by rw [List.length_cons, r.2], ?_⟩
    generalize f (od :: ds) h2 = z at q3 ⊢
    cases z with
    | ok d h' => exact fun W' H' u t' hs' r' => q3 W' H' u t' (S2.step t' hs') r'
    | exc x h' => exact fun W' H' cls dd t' hs' r' => q3 W' H' cls dd t' (S2.step t' hs') r'
    | bad => exact q3⟩
theorem meth_use {s : L2.St} {H : Hp} {Q : VK} (hX : XEx T X c N k sc) (L : MoL T m k (n + 1) ms) (q : RE c (eMeth ms mo ma) s H Q) : RX c (rV c) mo s H fun y H1 => ∃ a C dx fs g fd ps f, y = V.ref a ∧ H1 a = some (.ins C dx fs) ∧ Cls X.K C ∧ Meth X.K C m g ∧ fs.lookup m = none ∧ Binds X.K fd ps [] ∧
    FnOk X.prog X.w X.K X.mg X.base (L2N.CX X.prog X.w) k g fd ps (spF c.g (n + 1) f) ∧ RX c (rVs c n) ma s H1 fun vs H2 => spF c.g (n + 1) f ((y :: vs) ++ []) H2 Q (WE c.x s) := by
  refine RX.bind (k := fun e o h => orM (mthO ms h o) o (ma e) h) q fun W e W1 H1 od v h1 t S r q2 => ?_
  unfold orM mthO at q2
  cases z : clsO h1 od with
  | none =>
    rw [z] at q2
    exact q2.elim
  | some y =>
    obtain ⟨ci, l⟩ := y
    rw [z] at q2
    simp only [] at q2
    cases z2 : ms.lookup ci with
    | none =>
      rw [z2] at q2
      exact q2.elim
    | some f =>
      rw [z2] at q2
      obtain ⟨a, dx, vs, e1, e2, e3, rs⟩ := obj_at S.hs r z
      have fo := L ci f (mem_of_lookupN z2)
      obtain ⟨g, fd, ps, em, b, fo2⟩ := fo.ex
      rw [hX.pg] at e2
      refine ⟨a, _, dx, _, g, fd, ps, f, e1, e2, by rw [hX.pk]; exact fo.cl, by rw [hX.pk]; exact em, zip_none fo.nf, by rw [hX.pk]; exact b, by rw [hX.pp, hX.pw, hX.pk, hX.pm, hX.pb, hX.pg]; exact fo2, meth_args S r q2⟩
theorem c_meth {pl : Sem Bool} (hX : XEx T X c N k sc) (L : MoL T m k (n + 1) ms) (ho : PE X o (RE c mo)) (ha : PA X (ex :: es) (RA c n ma))
    (hst : starEach (ex :: es) X.env = (false, eval ex X.env) :: starEach es X.env := by rfl) (hpl : (backTo pos (starEach es X.env)).any (·.1) = false := by rfl)
    (ht : eval (.Call (.Attribute o m apos) (ex :: es) [] pos) X.env = (do
      let ov ← eval o X.env
      standAt apos.atName
      let (f, first) ← holding [ov] (getMethod ov m pl)
      callWith pos f first (backTo pos (starEach (ex :: es) X.env)) (backToKw pos (keywordEach [] X.env))) := by rfl) :
    PE X (.Call (.Attribute o m apos) (ex :: es) [] pos) (RE c (eMeth ms mo ma)) := by
  refine ⟨fun pins s σ H Q I q => ?_⟩
  refine PySem.W.methodCall_KW (pl := pl) (thn (ho.run pins s σ H _ I (meth_use (n := n) hX L q)) fun u s1 ⟨y, H1, I1, ry, a, C, dx, fs, g, fd, ps, f, ey, ea, cl, em, lk, b, fo, q2⟩ => ?_) ht
  subst ey
  obtain rfl : u = Value.ref a := ry
  refine getmeth_ok I1 ea cl em lk ?_
  refine PySem.W.callWith_K (first := [.ref a]) (h₀ := X.base) I.ok.mod.kin em.kp (thn (ha.run pos pins s1 σ H1 _ I1 q2) fun us s2 ⟨vs, H2, I2, r, q3⟩ => ⟨I2.kIn, ?_⟩) hst hpl
  exact run_fnSD (us := .ref a :: us) (vs := .ref a :: vs) fo hX.room b .nil (L2N.passAt hX.tk σ) I2 (.cons rfl r) q3
theorem c_meth0 {pl : Sem Bool} (hX : XEx T X c N k sc) (L : MoL T m k 1 ms) (ho : PE X o (RE c mo))
    (ht : eval (.Call (.Attribute o m apos) [] [] pos) X.env = (do
      let ov ← eval o X.env
      standAt apos.atName
      let (f, first) ← holding [ov] (getMethod ov m pl)
      callWith pos f first (backTo pos (starEach [] X.env)) (backToKw pos (keywordEach [] X.env))) := by rfl) :
    PE X (.Call (.Attribute o m apos) [] [] pos) (RE c (eMeth ms mo aNil)) := by
  refine ⟨fun pins s σ H Q I q => ?_⟩
  refine PySem.W.methodCall_KW (pl := pl) (thn (ho.run pins s σ H _ I (meth_use (n := 0) hX L q)) fun u s1 ⟨y, H1, I1, ry, a, C, dx, fs, g, fd, ps, f, ey, ea, cl, em, lk, b, fo, q2⟩ => ?_) ht
  subst ey
  obtain rfl : u = Value.ref a := ry
  refine getmeth_ok I1 ea cl em lk ?_
  have q3 : spF c.g 1 f ([V.ref a] ++ []) H1 Q (WE c.x σ) := by
    have pn : PA X [] (RA c 0 aNil) := c_nil
    obtain ⟨W, e, h, S, q4⟩ := q2
    exact q4 W H1 [] (Step.refl _ _) S ⟨.nil, rfl⟩
  exact PySem.W.callWith_K0 (first := [.ref a]) I1.kIn em.kp (run_fnSD (us := [.ref a]) (vs := [.ref a]) fo hX.room b .nil (L2N.passAt hX.tk σ) I1 (.cons rfl .nil) q3)
end
@[simp] theorem eMeth_app (ms : Fns) (mo : En → M DV) (ma : En → M (List DV)) (e : En) (h : HP) : eMeth ms mo ma e h = bR (mo e h) fun o h => orM (mthO ms h o) o (ma e) h := rfl
theorem orM_some (m : List DV → M DV) (o : DV) (ma : M (List DV)) (h : HP) : orM (some m) o ma h = bR (ma h) fun l h => m (o :: l) h := rfl
theorem mthO_obj (ms : Fns) (h : HP) (c : Nat) (l : List DV) : LM.mthO ms h (.obj c l) = ms.lookup c := rfl
end LM

/-! Instances made: __init__. -/
namespace LM
open PySem L2

/-- self, under construction at a -/
structure CSelf (c : Cn) (a C dx : Addr) (fs : List (Str × V)) : Prop where
  cur : c.cur = some (a, .ref (c.g.cA 0), none)
  at_ : c.H0 a = some (.ins C dx fs)
  nr : a ∉ c.W0.r
  nf : ¬ c.W0.F a
section
variable {c : Cn} {a C dx : Addr} {fs : List (Str × V)} {W : Wd} {e : En} {h : HP} {s : L2.St} {H : Hp}
theorem CSelf.now (K : CSelf c a C dx fs) (S : Sim c W e h s H) : H a = some (.ins C dx fs) ∧ a ∉ W.r ∧ ¬ W.F a := by
  refine ⟨S.st.k a _ K.at_ K.nr, fun m => ?_, fun f => ?_⟩
  · rcases S.st.nr a m with q | q
    · exact K.nr q
    · rw [K.at_] at q
      cases q
  · rcases S.st.nf a f with q | q | ⟨_, _, q⟩
    · exact K.nf q
    · rw [K.at_] at q
      cases q
    · rw [K.at_] at q
      cases q
/-- self's fields are others -/
theorem self_per {fs' : List (Str × V)} (ha : H a = some (.ins C dx fs)) (nf : ¬ W.F a) : Per W H W (upd H a (.ins C dx fs')) := by
  have ne : ∀ b u, H b = some u → (∀ C x fs, u ≠ .ins C x fs) → b ≠ a := fun b u eb nu z => by
    rw [z, ha] at eb
    cases eb
    exact nu _ _ _ rfl
  exact ⟨fun _ f => f, fun _ _ e => e, fun b fb => by rw [upd_ne (show b ≠ a from fun z => nf (z ▸ fb))], fun b xs eb => by
    rw [upd_ne (ne b _ eb fun _ _ _ z => by cases z)]
    exact eb, fun b o u eb => by
    rw [upd_ne (ne b _ eb fun _ _ _ z => by cases z)]
    exact eb⟩
theorem self_hs {g : Glue} {fs' : List (Str × V)} (S : HSim g W h H) (ha : H a = some (.ins C dx fs)) (nf : ¬ W.F a) (nr : a ∉ W.r) : HSim g W h (upd H a (.ins C dx fs')) := by
  have pr := self_per (fs' := fs') ha nf
  refine ⟨S.len, S.nd, fun p o b e1 e2 => ?_, fun b fb => ?_⟩
  · obtain ⟨r, n⟩ := S.o p o b e1 e2
    have hne : b ≠ a := fun z => nr (z ▸ List.mem_of_getElem? e2)
    refine ⟨?_, n⟩
    cases o with
    | lst l =>
      obtain ⟨vs, e3, r3⟩ := r
      exact ⟨vs, by rw [upd_ne hne]; exact e3, r3.per pr _ _⟩
    | obj k l =>
      obtain ⟨dx, vs, e3, e4, r3⟩ := r
      exact ⟨dx, vs, by rw [upd_ne hne]; exact e3, e4, r3.per pr _ _⟩
  · obtain ⟨w, q⟩ := S.fs b fb
    exact ⟨w, by rw [upd_ne (show b ≠ a from fun z => nf (z ▸ fb))]; exact q⟩
theorem Sim.reself (K : CSelf c a C dx fs) (S : Sim c W e h s H) (fs' : List (Str × V)) : Sim { c with H0 := upd c.H0 a (.ins C dx fs') } W e h s (upd H a (.ins C dx fs')) ∧ CSelf { c with H0 := upd c.H0 a (.ins C dx fs') } a C dx fs' := by
  obtain ⟨ha, nr, nf⟩ := K.now S
  have pr := self_per (fs' := fs') ha nf
  have hnone : ∀ b, c.H0 b = none → (upd c.H0 a (.ins C dx fs')) b = none := fun b q => by
    rw [upd_ne (ne_of_none K.at_ q).symm]
    exact q
  refine ⟨⟨self_hs S.hs ha nf nr, ?_, S.len, fun i d e1 => ?_, fun i l e1 => ?_, fun i ks l e1 => ?_, S.ne, fun i x e1 => ?_⟩, K.cur, upd_same, K.nr, K.nf⟩
  · refine ⟨S.st.f, S.st.r, fun b o q n => ?_, fun b q => ?_, fun b f => ?_, fun b m => ?_⟩
    · by_cases z : b = a
      · subst z
        have q : (upd c.H0 b (.ins C dx fs')) b = some o := q
        rw [upd_same] at q ⊢
        exact q
      · have q : (upd c.H0 a (.ins C dx fs')) b = some o := q
        rw [upd_ne z] at q ⊢
        exact S.st.k b o q n
    · show (upd c.H0 a (.ins C dx fs')) b = none
      by_cases z : b = a
      · rw [z, upd_same] at q
        cases q
      · rw [upd_ne z] at q ⊢
        exact S.st.th b q
    · rcases S.st.nf b f with q | q | ⟨q1, fs2, q2⟩
      · exact .inl q
      · exact .inr (.inl (hnone b q))
      · refine .inr (.inr ⟨q1, fs2, ?_⟩)
        show (upd c.H0 a (.ins C dx fs')) b = _
        rw [upd_ne fun z => by
          rw [z, K.at_] at q2
          cases q2]
        exact q2
    · rcases S.st.nr b m with q | q
      · exact .inl q
      · exact .inr (hnone b q)
  · obtain ⟨v, e2, r⟩ := S.val i d e1
    exact ⟨v, e2, r.per pr _ _⟩
  · obtain ⟨b, vs, e2, e3, r, n1, n2, n3⟩ := S.own i l e1
    exact ⟨b, vs, e2, by
      rw [upd_ne fun z => by
        rw [z, ha] at e3
        cases e3]
      exact e3, r.per pr _ _, n1, n2, hnone b n3⟩
  · obtain ⟨b, vs, e2, e3, l1, r, n1, n2, n3⟩ := S.dic i ks l e1
    exact ⟨b, vs, e2, by
      rw [upd_ne fun z => by
        rw [z, ha] at e3
        cases e3]
      exact e3, l1, r.per pr _ _, n1, n2, hnone b n3⟩
  · obtain ⟨b, cls, dd, e2, e3, r⟩ := S.exn i x e1
    exact ⟨b, cls, dd, e2, e3, r.per pr⟩
end
theorem putF_new : ∀ {f : Str} {v : V} {fs : List (Str × V)}, fs.lookup f = none → putF f v fs = fs ++ [(f, v)]
  | _, _, [], _ => rfl
  | f, v, (g, x) :: r, e => by
    by_cases z : f = g
    · subst z
      simp [List.lookup] at e
    · have ne : (f == g) = false := beq_eq_false_iff_ne.mpr z
      simp only [List.lookup, ne] at e
      show (if g = f then (g, v) :: r else (g, x) :: putF f v r) = _
      rw [if_neg fun y => z y.symm, putF_new e]
      rfl
theorem lookup_new : ∀ {f g : Str} {v : V} {fs : List (Str × V)}, fs.lookup f = none → f ≠ g → (fs ++ [(g, v)]).lookup f = none
  | f, g, v, [], _, n => by
    have ne : (f == g) = false := beq_eq_false_iff_ne.mpr n
    simp [List.lookup, ne]
  | f, g, v, (k, x) :: r, e, n => by
    by_cases z : f = k
    · subst z
      simp [List.lookup] at e
    · have ne : (f == k) = false := beq_eq_false_iff_ne.mpr z
      rw [List.cons_append]
      simp only [List.lookup, ne] at e ⊢
      exact lookup_new e n

/-- the names may be made fields of an instance of the class at C -/
structure MayF (K : PySem.W.Frag) (C : Addr) (fs : List (Str × V)) (names : List Str) : Prop where
  cl : Cls K C
  na : ∀ f ∈ names, NoAttr K C f ∧ fs.lookup f = none
  nd : names.Nodup
  few : fs.length + names.length ≤ 900
def PostI (c c0 : Cn) (W : Wd) (H : Hp) (a C dx : Addr) (fs : List (Str × V)) (names : List Str) (l : List DV) (h' : HP) (D : Ends) : Prop :=
  ∀ W' s' H' us, Step c.W0 (upd c.H0 a (.ins C dx (fs ++ names.zip us))) W' H' → Per W H W' H' → HSim c0.g W' h' H' → Reps c0.g W' H' l us → H' a = some (.ins C dx (fs ++ names.zip us)) → us.length = names.length → D.nx s' H'
/-- the tail of an __init__: self.f = e, .. -/
def RIt (c0 : Cn) (names : List Str) (m : En → M (List DV)) : TS := fun D s H => ∃ c W e h a C dx fs, c.g = c0.g ∧ c.x = c0.x ∧ Sim c W e h s H ∧ CSelf c a C dx fs ∧ MayF c0.g.K C fs names ∧ (match m e h with
  | .ok l h' => PostI c c0 W H a C dx fs names l h' D
  | _ => False)
def isSelf (e : En) : Bool := match (e[0]? : Option Slot) with
  | some (.exn _) => true
  | _ => false
theorem self_at {c : Cn} {a C dx : Addr} {fs : List (Str × V)} {W : Wd} {e : En} {h : HP} {s : L2.St} {H : Hp} (K : CSelf c a C dx fs) (S : Sim c W e h s H) (q : isSelf e = true) : s[0]? = some (some (.ref a)) := by
  unfold isSelf at q
  split at q
  · rename_i x z
    obtain ⟨b, cls, dd, e2, e3, _⟩ := S.exn 0 x z
    rw [K.cur] at e2
    cases e2
    exact e3
  · cases q
def iNil : En → M (List DV) := fun _ h => .ok [] h
def iSet (m : En → M DV) (r : En → M (List DV)) : En → M (List DV) := fun e h => if isSelf e = true then (match m e h with
  | .ok d h1 => (match r e h1 with
    | .ok ds h2 => .ok (d :: ds) h2
    | _ => .bad)
  | _ => .bad) else .bad
section
variable {X : Cx} {c : Cn}
theorem pe_ex {ex : Expr} {m : En → M DV} (he : ∀ c', c'.g = c.g → c'.x = c.x → PE X ex (RE c' m)) : PE X ex (fun s H Q => ∃ c', c'.g = c.g ∧ c'.x = c.x ∧ RE c' m s H Q) := ⟨fun pins s σ H Q I ⟨c', h1, h2, q⟩ => (he c' h1 h2).run pins s σ H Q I q⟩
theorem i_nil : PSs X [] (RIt c [] iNil) := pss_imp pss_nil fun D s H q => by
  obtain ⟨c1, W, e, h, a, C, dx, fs, eg, ex, S, K, F, q⟩ := q
  obtain ⟨ha, _, _⟩ := K.now S
  have es : upd c1.H0 a (.ins C dx (fs ++ ([] : List Str).zip ([] : List V))) = c1.H0 := by
    funext b
    by_cases z : b = a
    · rw [z, upd_same, K.at_]
      simp
    · rw [upd_ne z]
  have q : PostI c1 c W H a C dx fs [] [] h D := q
  exact q W s H [] (by rw [es]; exact S.st) (Per.refl _ _) (by rw [← eg]; exact S.hs) .nil (by rw [ha]; simp) rfl
theorem i_set {f : Str} {p0 p1 pos : Pos} {ex : Expr} {rest : List Stmt} {names : List Str} {me : En → M DV} {mr : En → M (List DV)} (hk : X.K = c.g.K) (hN : X.N[0]? = some ("self" : Str)) (hv : Vis X.env.scope "self") (he : ∀ c', c'.g = c.g → c'.x = c.x → PE X ex (RE c' me)) (hr : PSs X rest (RIt c names mr))
    (hs : swapsWith ex (some (.Attribute (.Name "self" p0) f p1)) pos.line X.env = pure false := by rfl) : PSs X (.Assign [.Attribute (.Name "self" p0) f p1] ex pos :: rest) (RIt c (f :: names) (iSet me mr)) :=
  pss_imp (pss_cons (ps_fld (pe_var (i := 0) hN hv) (pe_ex he) hs) hr) fun D s H q => by
    obtain ⟨c1, W, e, h, a, C, dx, fs, eg, ex, S, K, F, q⟩ := q
    unfold iSet at q
    by_cases sf : isSelf e = true
    rotate_left
    · rw [if_neg sf] at q
      exact q.elim
    rw [if_pos sf] at q
    refine ⟨c1, eg, ex, W, e, h, S, ?_⟩
    cases z : me e h with
    | bad =>
      rw [z] at q
      exact q.elim
    | exc x h1 =>
      rw [z] at q
      exact q.elim
    | ok d h1 =>
      rw [z] at q
      simp only [] at q
      intro W1 H1 v t S1 r
      obtain ⟨ha, nr, nf⟩ := K.now S1
      obtain ⟨na, nl⟩ := F.na f List.mem_cons_self
      have few := F.few
      rw [List.length_cons] at few
      obtain ⟨nd1, nd2⟩ := List.nodup_cons.mp F.nd
      refine ⟨_, self_at K S1 sf, a, C, dx, fs, rfl, ha, by rw [hk]; exact F.cl, by rw [hk]; exact na, by omega, ?_⟩
      rw [putF_new nl]
      obtain ⟨S2, K2⟩ := S1.reself K (fs ++ [(f, v)])
      refine ⟨{ c1 with H0 := upd c1.H0 a (.ins C dx (fs ++ [(f, v)])) }, W1, e, h1, a, C, dx, fs ++ [(f, v)], eg, ex, S2, K2, ⟨F.cl, fun g hg => ⟨(F.na g (List.mem_cons_of_mem _ hg)).1, lookup_new (F.na g (List.mem_cons_of_mem _ hg)).2 fun (y : g = f) => nd1 (y ▸ hg)⟩, nd2, by rw [List.length_append, List.length_singleton]; omega⟩, ?_⟩
      cases z2 : mr e h1 with
      | bad =>
        rw [z2] at q
        exact q.elim
      | exc x h2 =>
        rw [z2] at q
        exact q.elim
      | ok ds h2 =>
        rw [z2] at q
        have q : PostI c1 c W H a C dx fs (f :: names) (d :: ds) h2 D := q
        intro W' s' H' us st pr hs' rs ea el
        have p1 : Per W1 H1 W' H' := (self_per ha nf).trans pr
        have ez : fs ++ (f :: names).zip (v :: us) = (fs ++ [(f, v)]) ++ names.zip us := by simp
        refine q W' s' H' (v :: us) ?_ ((t.per S.hs).trans p1) hs' (.cons (by rw [← eg]; exact r.per p1 _ _) rs) (by rw [ez]; exact ea) (by rw [List.length_cons, List.length_cons, el])
        rw [ez]
        have st : Step c1.W0 (upd (upd c1.H0 a (.ins C dx (fs ++ [(f, v)]))) a (.ins C dx ((fs ++ [(f, v)]) ++ names.zip us))) W' H' := st
        rw [upd_upd] at st
        exact st
/-! ### the whole body -/
def RII (c : Cn) (names : List Str) (m : En → M (List DV)) : TS := fun D s H => ∃ W e h a C dx fs, Sim c W e h s H ∧ CSelf c a C dx fs ∧ MayF c.g.K C fs names ∧ (match m e h with
  | .ok l h' => PostI c c W H a C dx fs names l h' D
  | .exc x h' => ∀ W' e' s' H' cls dd, Per W H W' H' → Sim c W' e' h' s' H' → XRep c.g W' H' x cls dd → c.x cls dd s' H'
  | .bad => False)
def iTail (m : En → M (List DV)) : En → M (List DV) := fun e h => match m e h with
  | .ok l h' => .ok l h'
  | _ => .bad
def iSeq (a : Stm) (m : En → M (List DV)) : En → M (List DV) := fun e h => match a e h with
  | .nx e' h' => m e' h'
  | .exc x _ h' => .exc x h'
  | _ => .bad
theorem i_tail {b : List Stmt} {names : List Str} {m : En → M (List DV)} (h : PSs X b (RIt c names m)) : PSs X b (RII c names (iTail m)) := pss_imp h fun D s H q => by
  obtain ⟨W, e, h, a, C, dx, fs, S, K, F, q⟩ := q
  refine ⟨c, W, e, h, a, C, dx, fs, rfl, rfl, S, K, F, ?_⟩
  unfold iTail at q
  cases z : m e h with
  | ok l h' =>
    rw [z] at q
    exact q
  | exc x h' =>
    rw [z] at q
    exact q.elim
  | bad =>
    rw [z] at q
    exact q.elim
theorem i_cons {st : Stmt} {b : List Stmt} {names : List Str} {a0 : Stm} {m : En → M (List DV)} (h1 : PS X st (RS c a0)) (h2 : PSs X b (RII c names m)) : PSs X (st :: b) (RII c names (iSeq a0 m)) := pss_imp (pss_cons h1 h2) fun D s H q => by
  obtain ⟨W, e, h, a, C, dx, fs, S, K, F, q⟩ := q
  refine ⟨W, e, h, S, ?_⟩
  unfold iSeq at q
  cases z : a0 e h with
  | nx e' h' =>
    rw [z] at q
    dsimp only at q
    intro W' s' H' p S'
    refine ⟨W', e', h', a, C, dx, fs, S', K, F, ?_⟩
    cases z2 : m e' h' with
    | bad =>
      rw [z2] at q
      exact q.elim
    | ok l h2 =>
      rw [z2] at q
      have q : PostI c c W H a C dx fs names l h2 D := q
      exact fun W2 s2 H2 us st pr => q W2 s2 H2 us st (p.trans pr)
    | exc x h2 =>
      rw [z2] at q
      exact fun W2 e2 s2 H2 cls dd pr => q W2 e2 s2 H2 cls dd (p.trans pr)
  | exc x e' h' =>
    rw [z] at q
    exact fun W' s' H' cls dd p S' r => q W' e' s' H' cls dd p S' r
  | rt d h' =>
    rw [z] at q
    exact q.elim
  | bk e' h' =>
    rw [z] at q
    exact q.elim
  | ct e' h' =>
    rw [z] at q
    exact q.elim
  | bad =>
    rw [z] at q
    exact q.elim
end
/-! ### the promise -/
def spI (g : Glue) (names : List Str) (n : Nat) (m : List DV → M (List DV)) : Sp := fun vs H Q E => ∃ W h ds a C dx fs ws, vs = .ref a :: ws ∧ HSim g W h H ∧ Reps g W H ds ws ∧ ds.length = n ∧ H a = some (.ins C dx fs) ∧ a ∉ W.r ∧ ¬ W.F a ∧ MayF g.K C fs names ∧ (match m ds h with
  | .ok l h' => ∀ W' H' us, Step W (upd H a (.ins C dx (fs ++ names.zip us))) W' H' → HSim g W' h' H' → Reps g W' H' l us → H' a = some (.ins C dx (fs ++ names.zip us)) → us.length = names.length → Q .non H'
  | .exc x h' => ∀ W' H' cls dd, Step W H W' H' → HSim g W' h' H' → XRep g W' H' x cls dd → E cls dd H'
  | .bad => False)
def fnI (N : Nat) (m : En → M (List DV)) : List DV → M (List DV) := fun ds h => m (.exn ⟨0, []⟩ :: (ds.map .val ++ List.replicate (N - (ds.length + 1)) .none)) h
theorem sim_startI {g : Glue} {W : Wd} {h : HP} {H : Hp} {ds : List DV} {ws : List V} {N : List Str} {x : WX} {a : Addr} (hs : HSim g W h H) (r : Reps g W H ds ws) :
    Sim ⟨g, W, H, x, some (a, .ref (g.cA 0), none)⟩ W (.exn ⟨0, []⟩ :: (ds.map .val ++ List.replicate (N.length - (ds.length + 1)) .none)) h (L2.start N (.ref a :: ws)) H := by
  have rest : ∀ (i : Nat) (y : Slot), (ds.map Slot.val ++ List.replicate (N.length - (ds.length + 1)) Slot.none)[i]? = some y → y.isOwn = false ∧ (∀ x, y ≠ .exn x) ∧ ∀ d, y = .val d → ds[i]? = some d := fun i y e => by
    rw [List.getElem?_append] at e
    split at e
    · rw [List.getElem?_map] at e
      cases z : ds[i]? with
      | none =>
        rw [z] at e
        cases e
      | some d =>
        rw [z] at e
        cases e
        exact ⟨rfl, fun x z => (by cases z), fun d z => (by cases z; rfl)⟩
    · rw [List.getElem?_replicate] at e
      split at e
      · cases e
        exact ⟨rfl, fun x z => (by cases z), fun d z => (by cases z)⟩
      · cases e
  have own0 : ∀ (i : Nat) (y : Slot), (Slot.exn ⟨0, []⟩ :: (ds.map Slot.val ++ List.replicate (N.length - (ds.length + 1)) Slot.none))[i]? = some y → y.isOwn = false := fun i y e => by
    cases i with
    | zero =>
      cases e
      rfl
    | succ i => exact (rest i y (by simpa using e)).1
  refine ⟨hs, Step.refl _ _, ?_, fun i d e => ?_, fun i l e => ?_, fun i ks l e => ?_, fun i j b y z e1 o1 => ?_, fun i x e => ?_⟩
  · unfold L2.start
    simp only [List.length_cons, List.length_append, List.length_map, List.length_replicate, r.len]
    omega
  · cases i with
    | zero => cases e
    | succ i =>
      have q := (rest i _ (by simpa using e)).2.2 d rfl
      obtain ⟨v, e2, rv⟩ := r.get q
      refine ⟨v, ?_, rv⟩
      unfold L2.start
      rw [List.map_cons, List.cons_append, List.getElem?_cons_succ, List.getElem?_append_left (by rw [List.length_map]; exact (List.getElem?_eq_some_iff.mp e2).1), List.getElem?_map, e2]
      rfl
  · have := own0 i _ e
    cases this
  · have := own0 i _ e
    cases this
  · rw [own0 i y e1] at o1
    cases o1
  · cases i with
    | zero =>
      cases e
      refine ⟨a, _, _, rfl, ?_, rfl, .inl ⟨rfl, rfl⟩⟩
      unfold L2.start
      rfl
    | succ i => exact absurd rfl ((rest i _ (by simpa using e)).2.1 x)
theorem fn_ruleI {T : Tp} {x qual : Str} {params : Arguments} {body : List Stmt} {scope : Scope} {kws : List (Str × V)} {f : Addr} {fd : FuncData} {N ps names : List Str} {k n : Nat} {m : En → M (List DV)} (F : FunD T.g.K x qual params body scope [] kws f fd) (S : FnScope N ps scope) (hn : ps.length = n + 1)
    (hb : ∀ (X : Cx) (c : Cn), XSt T X c N k scope → PSs X body (RII c names m)) : FnOk T.P T.w T.g.K T.mg T.base (L2N.CX T.P T.w) (k + 1) f fd ps (spI T.g names n (fnI N.length m)) := by
  refine F.ok S (fun vs H Q E h => ?_) fun cdv A outer s H vs Q E hr h => ?_
  · obtain ⟨W, hh, ds, a, C, dx, fs, ws, e, _, r, el, _⟩ := h
    rw [e, List.length_cons, ← r.len, el, hn]
  · obtain ⟨W, hh, ds, a, C, dx, fs, ws, e, hs, r, el, ha, nr, nf, F, q⟩ := h
    subst e
    refine ⟨RII ⟨T.g, W, H, fun cls d _ H' => E cls d H', some (a, .ref (T.g.cA 0), none)⟩ names m, hb _ ⟨T.g, W, H, fun cls d _ H' => E cls d H', some (a, .ref (T.g.cA 0), none)⟩ ⟨⟨rfl, rfl, rfl, rfl, rfl, rfl, rfl, S.nd, rfl, rfl, hr, L2N.takes_of rfl rfl rfl rfl⟩, passes_of rfl, rfl, rfl, rfl⟩, W, _, hh, a, C, dx, fs, sim_startI hs r, ⟨rfl, ha, nr, nf⟩, F, ?_⟩
    unfold fnI at q
    generalize m (.exn ⟨0, []⟩ :: (ds.map .val ++ List.replicate (N.length - (ds.length + 1)) .none)) hh = z at q ⊢
    cases z with
    | ok l h' => exact fun W' s' H' us st pr hs' rs ea ul => q W' H' us st hs' rs ea ul
    | exc x h' => exact fun W' e' s' H' cls dd p S' r => q W' H' cls dd S'.st S'.hs r
    | bad => exact q
end LM

/-! Instances made: C(e, ..). -/
namespace LM
open PySem L2

section
variable {X : Cx} {CX : CXT} {k : Nat} {f C : Addr} {fd : FuncData} {ps : List Str} {sp : Sp} {dvs : List V} {ds : List Value} {E : St → XK}
theorem run_makeSD {pins : List (Addr × Obj)} {σ : St} {H : Hp} {s : Shared} {Q : VK} {us : List Value} {vs : List V} (M : Mk X.K C f) (F : FnOk X.prog X.w X.K X.mg X.base CX k f fd ps sp) (hr : Room (k + 1) X.A) (hb : Binds X.K fd ps ds) (hd : Vals dvs ds)
    (hx : PassesAt CX X σ (E σ)) (I : Inv X pins σ H s) (r : Vals vs us)
    (h : ∀ x dx, H x = none → H dx = none → dx ≠ x → sp (.ref x :: (vs ++ dvs)) (upd (upd H dx (.own x)) x (.ins C dx [])) (fun v H2 => v = .non ∧ Q (.ref x) H2) (E σ)) :
    wpAny (model X.prog X.w) X.A (call (.ref C) us) (EP X pins σ Q) X.xe s := by
  have hq := h (s.heap.objs.size + 1) s.heap.objs.size (I.hok.fresh (Nat.le_succ _)) (I.hok.fresh (Nat.le_refl _)) (Nat.ne_of_lt (Nat.lt_succ_self _))
  have I2 := Inv.made (C := C) I
  have r2 : Vals (V.ref (s.heap.objs.size + 1) :: (vs ++ dvs)) (Value.ref (s.heap.objs.size + 1) :: (us ++ ds)) := .cons rfl (r.append hd)
  have hl : (Value.ref (s.heap.objs.size + 1) :: us ++ ds).length = ps.length := by
    have e := r2.length
    rw [F.len _ _ _ _ hq] at e
    exact e.symm
  refine wpAny_call (make_map (f := f) I.kIn M.makes M.init (beq_iff_eq.mp M.fn) (codeAny_mono (F.run _ X.stack _ _ ⟨Value.ref (s.heap.objs.size + 1) :: us, []⟩ (Value.ref (s.heap.objs.size + 1) :: (us ++ ds)) _ _ (E σ) (hr.make C us [])
    (I2.env0.make C us []) (hb _ (Value.ref (s.heap.objs.size + 1) :: us) I2.kIn hl) r2 hq) fun r s' hq' => ?_))
  cases r with
  | error e => exact hx pins _ _ e s' I2 hq'
  | ok fl =>
    cases fl with
    | ret u =>
      obtain ⟨v, H', I3, rv, ev, q3⟩ := I2.after hq'
      subst ev
      exact ⟨rv, ⟨V.ref (s.heap.objs.size + 1), H', I3, rfl, q3⟩⟩
    | next => exact False.elim hq'
    | brk => exact False.elim hq'
    | cont => exact False.elim hq'
end
/-- what is known of a class, number c, that is made -/
structure MkOk (T : Tp) (x : Str) (c j n : Nat) (m : List DV → M (List DV)) : Prop where
  gl : T.mg x = some (.ref (T.g.cA c))
  may : MayF T.g.K (T.g.cA c) [] (T.g.flds c)
  ex : ∃ fI fd ps, Mk T.g.K (T.g.cA c) fI ∧ Binds T.g.K fd ps [] ∧ FnOk T.P T.w T.g.K T.mg T.base (L2N.CX T.P T.w) j fI fd ps (spI T.g (T.g.flds c) n m)
def mkD (c : Nat) (r : Res (List DV)) : Res DV := match r with
  | .ok us h => .ok (.obj c us) h
  | .exc x h => .exc x h
  | .bad => .bad
def mkR (c : Nat) (r : Res (List DV)) : Res DV := match r with
  | .ok us h => .ok (.ref h.length) (h ++ [.obj c us])
  | .exc x h => .exc x h
  | .bad => .bad
/-- C(e, ..), never changed again; changed later -/
def eMake (c : Nat) (m : List DV → M (List DV)) (ms : En → M (List DV)) : En → M DV := fun e => ms e >>= fun l h => mkD c (m l h)
def eMakeR (c : Nat) (m : List DV → M (List DV)) (ms : En → M (List DV)) : En → M DV := fun e => ms e >>= fun l h => mkR c (m l h)
section
variable {T : Tp} {X : Cx} {c : Cn} {N : List Str} {k : Nat} {sc : Scope} {pos p1 : Pos} {ex : Expr} {es : List Expr} {n : Nat} {ms : En → M (List DV)} {x : Str} {ci j : Nat} {m : List DV → M (List DV)}
theorem made_heap {W1 : Wd} {e : En} {h1 : HP} {s : L2.St} {H1 : Hp} {a dx C : Addr} {fs : List (Str × V)} (S : Sim c W1 e h1 s H1) (ha : H1 a = none) (hd : H1 dx = none) (ne : dx ≠ a) : Step W1 H1 W1 (upd (upd H1 dx (.own a)) a (.ins C dx fs)) ∧ Sim c W1 e h1 s (upd (upd H1 dx (.own a)) a (.ins C dx fs)) := by
  obtain ⟨t1, S1⟩ := S.new (o := .own a) hd
  obtain ⟨t2, S2⟩ := S1.new (p := a) (o := .ins C dx fs) (by rw [upd_ne (Ne.symm ne)]; exact ha)
  exact ⟨t1.trans t2, S2⟩
theorem make_use {mk : Nat → Res (List DV) → Res DV} {s : L2.St} {H : Hp} {Q : VK} (hX : XEx T X c N k sc) (M : MkOk T x ci j n m) (q : RE c (fun e => ms e >>= fun l h => mk ci (m l h)) s H Q)
    (h0 : ∀ x h, mk ci (.exc x h) = .exc x h) (h1 : mk ci .bad = .bad)
    (h2 : ∀ {W1 : Wd} {e : En} {hh : HP} {H1 : Hp} {us : List DV} {h' : HP} {W' : Wd} {H' : Hp} {a dx : Addr} {vs : List V}, Sim c W1 e hh s H1 → H1 a = none → Post c (rV c H1) e s W1 H1 (mk ci (.ok us h')) Q → Step W1 H1 W' H' → Sim c W' e h' s H' → Reps c.g W' H' us vs →
      H' a = some (.ins (c.g.cA ci) dx ((c.g.flds ci).zip vs)) → vs.length = (c.g.flds ci).length → a ∉ W'.r → ¬ W'.F a → Q (.ref a) H') :
    RX c (rVs c n) ms s H fun vs H1 => ∀ a dx, H1 a = none → H1 dx = none → dx ≠ a → spI c.g (c.g.flds ci) n m (.ref a :: (vs ++ [])) (upd (upd H1 dx (.own a)) a (.ins (c.g.cA ci) dx [])) (fun v H2 => v = .non ∧ Q (.ref a) H2) (WE c.x s) := by
  refine RX.bind (k := fun _ l h => mk ci (m l h)) q fun W e W1 H1 ds vs hh t S r q2 a dx ha hd ne => ?_
  obtain ⟨t1, S1⟩ := made_heap (C := c.g.cA ci) (fs := []) S ha hd ne
  have p1 := t1.per S.hs
  have nr := not_r S.hs ha
  have nf := not_F S.hs ha
  have may := M.may
  rw [← hX.pg] at may
  refine ⟨W1, hh, ds, a, _, dx, [], vs, by rw [List.append_nil], S1.hs, r.1.per p1 _ _, r.2, upd_same, nr, nf, may, ?_⟩
  cases z : m ds hh with
  | bad =>
    rw [z, h1] at q2
    exact q2.elim
  | exc y h' =>
    rw [z, h0] at q2
    exact fun W' H' cls dd t' hs' r' => q2 W' H' cls dd (t1.trans t') (S1.step t' hs') r'
  | ok us h' =>
    rw [z] at q2
    intro W' H' us2 st hs' rs ea el
    refine ⟨rfl, ?_⟩
    obtain ⟨t3, S3⟩ := made_heap (C := c.g.cA ci) (fs := [] ++ (c.g.flds ci).zip us2) S ha hd ne
    rw [upd_upd] at st
    have S4 := S3.step st hs'
    have at3 : (upd (upd H1 dx (.own a)) a (.ins (c.g.cA ci) dx ([] ++ (c.g.flds ci).zip us2))) a = some (.ins (c.g.cA ci) dx ([] ++ (c.g.flds ci).zip us2)) := upd_same
    refine h2 S ha q2 (t3.trans st) S4 rs (by rw [ea]; rfl) el (fun mm => ?_) fun ff => ?_
    · rcases st.nr a mm with z | z
      · exact nr z
      · rw [at3] at z
        cases z
    · rcases st.nf a ff with z | z | ⟨_, _, z⟩
      · exact nf z
      · rw [at3] at z
        cases z
      · rw [at3] at z
        cases z
theorem make_core {mk : Nat → Res (List DV) → Res DV} (hX : XEx T X c N k sc) (M : MkOk T x ci j n m) (hj : j + 1 ≤ k) (hg : Gl X x) (ha : PA X (ex :: es) (RA c n ms)) (hdb : (x == ("__debug__" : Str)) = false) (he : starEach (ex :: es) X.env = (false, eval ex X.env) :: starEach es X.env) (hpl : (backTo pos (starEach es X.env)).any (·.1) = false)
    (use : ∀ {s : L2.St} {H : Hp} {Q : VK}, RE c (fun e => ms e >>= fun l h => mk ci (m l h)) s H Q → RX c (rVs c n) ms s H fun vs H1 => ∀ a dx, H1 a = none → H1 dx = none → dx ≠ a → spI c.g (c.g.flds ci) n m (.ref a :: (vs ++ [])) (upd (upd H1 dx (.own a)) a (.ins (c.g.cA ci) dx [])) (fun v H2 => v = .non ∧ Q (.ref a) H2) (WE c.x s)) :
    PE X (.Call (.Name x p1) (ex :: es) [] pos) (RE c (fun e => ms e >>= fun l h => mk ci (m l h))) := by
  obtain ⟨fI, fd, ps, mk0, b, fo⟩ := M.ex
  have mk1 : Mk X.K (c.g.cA ci) fI := by
    rw [hX.pk, hX.pg]
    exact mk0
  have b1 : Binds X.K fd ps [] := by
    rw [hX.pk]
    exact b
  have fo1 : FnOk X.prog X.w X.K X.mg X.base (L2N.CX X.prog X.w) j fI fd ps (spI c.g (c.g.flds ci) n m) := by
    rw [hX.pp, hX.pw, hX.pk, hX.pm, hX.pb, hX.pg]
    exact fo
  have gl : X.mg x = some (.ref (c.g.cA ci)) := by
    rw [hX.pm, hX.pg]
    exact M.gl
  refine ⟨fun pins s σ H Q I q => ?_⟩
  refine wpAny_Call_Name_kw (ld_glob I hg gl ?_ hdb)
  refine PySem.W.callWith_K (h₀ := X.base) I.ok.mod.kin mk1.kp (thn (ha.run pos pins s σ H _ I (use q)) fun us s1 ⟨vs, H1, I1, r, q2⟩ => ⟨I1.kIn, ?_⟩) he hpl
  exact run_makeSD (E := WE c.x) mk1 fo1 (hX.room.mono hj) b1 .nil (L2N.passAt hX.tk σ) I1 r q2
theorem c_make (hX : XEx T X c N k sc) (M : MkOk T x ci j n m) (hj : j + 1 ≤ k) (hg : Gl X x) (ha : PA X (ex :: es) (RA c n ms)) (hdb : (x == ("__debug__" : Str)) = false := by decide) (he : starEach (ex :: es) X.env = (false, eval ex X.env) :: starEach es X.env := by rfl) (hpl : (backTo pos (starEach es X.env)).any (·.1) = false := by rfl) :
    PE X (.Call (.Name x p1) (ex :: es) [] pos) (RE c (eMake ci m ms)) :=
  make_core (mk := mkD) hX M hj hg ha hdb he hpl fun {s H Q} q => make_use (mk := mkD) hX M q (fun _ _ => rfl) rfl fun {W1 e hh H1 us h' W' H' a dx vs} S hn q2 t S' rs ea el nr nf => by
    have q3 : Post c (rV c H1) e s W1 H1 (.ok (.obj ci us) h') Q := q2
    have hs2 := S'.hs.frz (p := a) ea nr
    have t2 : Step W1 H1 (W'.frz a) H' := t.frz hn
    have pr : Per W' H' (W'.frz a) H' := ⟨fun _ f => .inl f, fun _ _ e => e, fun _ _ => rfl, fun _ _ e => e, fun _ _ _ e => e⟩
    refine q3 _ H' _ t2 (S.step t2 hs2) ?_
    simp only [Rep]
    exact ⟨a, dx, vs, rfl, .inr rfl, ea, Nat.le_of_eq el, rs.per pr _ _⟩
theorem c_makeR (hX : XEx T X c N k sc) (M : MkOk T x ci j n m) (hj : j + 1 ≤ k) (hg : Gl X x) (ha : PA X (ex :: es) (RA c n ms)) (hdb : (x == ("__debug__" : Str)) = false := by decide) (he : starEach (ex :: es) X.env = (false, eval ex X.env) :: starEach es X.env := by rfl) (hpl : (backTo pos (starEach es X.env)).any (·.1) = false := by rfl) :
    PE X (.Call (.Name x p1) (ex :: es) [] pos) (RE c (eMakeR ci m ms)) :=
  make_core (mk := mkR) hX M hj hg ha hdb he hpl fun {s H Q} q => make_use (mk := mkR) hX M q (fun _ _ => rfl) rfl fun {W1 e hh H1 us h' W' H' a dx vs} S hn q2 t S' rs ea el nr nf => by
    have q3 : Post c (rV c H1) e s W1 H1 (.ok (.ref h'.length) (h' ++ [.obj ci us])) Q := q2
    have hs2 := S'.hs.add (o := .obj ci us) nf nr ⟨dx, vs, ea, Nat.le_of_eq el, rs⟩
    have st : Step W1 H1 ⟨W'.F, W'.r ++ [a]⟩ H' := ⟨t.f, fun p b z => by
      show (W'.r ++ [a])[p]? = some b
      have q1 := t.r p b z
      rw [List.getElem?_append_left (List.getElem?_eq_some_iff.mp q1).1]
      exact q1, t.k, t.th, t.nf, fun b hb => by
      rcases List.mem_append.mp hb with y | y
      · exact t.nr b y
      · rw [List.mem_singleton.mp y]
        exact .inr hn⟩
    refine q3 ⟨W'.F, W'.r ++ [a]⟩ H' _ st (S.step st hs2) ?_
    simp only [Rep]
    refine ⟨a, rfl, ?_⟩
    show (W'.r ++ [a])[h'.length]? = some a
    rw [List.getElem?_append_right (by rw [S'.hs.len]; exact Nat.le_refl _), S'.hs.len, Nat.sub_self]
    rfl
end
@[simp] theorem eMake_app (ci : Nat) (m : List DV → M (List DV)) (ms : En → M (List DV)) (e : En) (h : HP) : eMake ci m ms e h = bR (ms e h) fun l h => mkD ci (m l h) := rfl
@[simp] theorem eMakeR_app (ci : Nat) (m : List DV → M (List DV)) (ms : En → M (List DV)) (e : En) (h : HP) : eMakeR ci m ms e h = bR (ms e h) fun l h => mkR ci (m l h) := rfl
@[simp] theorem mkD_ok (c : Nat) (us : List DV) (h : HP) : mkD c (.ok us h) = .ok (.obj c us) h := rfl
@[simp] theorem mkR_ok (c : Nat) (us : List DV) (h : HP) : mkR c (.ok us h) = .ok (.ref h.length) (h ++ [.obj c us]) := rfl
@[simp] theorem mkD_exc (c : Nat) (x : Ex) (h : HP) : mkD c (.exc x h) = .exc x h := rfl
theorem fnI_app (N : Nat) (m : En → M (List DV)) (ds : List DV) (h : HP) : fnI N m ds h = m (.exn ⟨0, []⟩ :: (ds.map .val ++ List.replicate (N - (ds.length + 1)) .none)) h := rfl
/-- behind a statement of an __init__ -/
def jR (r : SRes) (m : En → M (List DV)) : Res (List DV) := match r with
  | .nx e h => m e h
  | .exc x _ h => .exc x h
  | _ => .bad
@[simp] theorem jR_nx (e : En) (h : HP) (m : En → M (List DV)) : jR (.nx e h) m = m e h := rfl
@[simp] theorem jR_exc (x : Ex) (e : En) (h : HP) (m : En → M (List DV)) : jR (.exc x e h) m = .exc x h := rfl
@[simp] theorem iSeq_app (a : Stm) (m : En → M (List DV)) (e : En) (h : HP) : iSeq a m e h = jR (a e h) m := by
  unfold iSeq jR
  cases a e h <;> rfl
def tR (r : Res (List DV)) : Res (List DV) := match r with
  | .ok l h => .ok l h
  | _ => .bad
@[simp] theorem tR_ok (l : List DV) (h : HP) : tR (.ok l h) = .ok l h := rfl
@[simp] theorem iTail_app (m : En → M (List DV)) (e : En) (h : HP) : iTail m e h = tR (m e h) := rfl
@[simp] theorem iNil_app (e : En) (h : HP) : iNil e h = .ok [] h := rfl
def sR2 (d : DV) (r : Res (List DV)) : Res (List DV) := match r with
  | .ok ds h => .ok (d :: ds) h
  | _ => .bad
@[simp] theorem sR2_ok (d : DV) (ds : List DV) (h : HP) : sR2 d (.ok ds h) = .ok (d :: ds) h := rfl
def sR1 (r : Res DV) (e : En) (m : En → M (List DV)) : Res (List DV) := match r with
  | .ok d h => sR2 d (m e h)
  | _ => .bad
@[simp] theorem sR1_ok (d : DV) (e : En) (m : En → M (List DV)) (h : HP) : sR1 (.ok d h) e m = sR2 d (m e h) := rfl
@[simp] theorem iSet_app (x : Ex) (e : En) (m : En → M DV) (r : En → M (List DV)) (h : HP) : iSet m r (.exn x :: e) h = sR1 (m (.exn x :: e) h) (.exn x :: e) r := by
  unfold iSet
  rw [if_pos (by rfl)]
  cases z : m (.exn x :: e) h with
  | ok d h1 =>
    rw [sR1_ok]
    dsimp only
    cases r (.exn x :: e) h1 <;> rfl
  | exc y h1 => rfl
  | bad => rfl
end LM

/-! Exceptions without an own __init__; except without a name; isinstance of own classes. -/
namespace LM
open PySem L2 L2H

structure Eo0 (T : Tp) (x : Str) (cid : Nat) : Prop where
  gl : T.mg x = some (.ref (T.g.cA cid))
  ex : PySem.W.excIn T.g.K (T.g.cA cid) [.type "ValueError", .type "Exception", .type "BaseException", .type "object"] "ValueError.__new__" = true
  kp : PySem.W.keepIn T.g.K (.ref (T.g.cA cid)) = true
  sb : PySem.W.subIn T.g.K (.ref (T.g.cA cid)) (.type "BaseException") = some true
  ty : PySem.W.typeIn T.g.K (.ref (T.g.cA cid)) = some (.type "type")
def sRaise0 (cid : Nat) : Stm := fun e h => .exc ⟨cid, []⟩ e h
theorem eo0_of {T : Tp} {x : Str} {cid : Nat} (hm : T.mg x = some (.ref (T.g.cA cid))) (b : eo0B (T.g.cA cid) T.g.K = true) : Eo0 T x cid := by
  obtain ⟨h1, h2⟩ := He.ba b
  obtain ⟨h3, h4⟩ := He.ba h2
  obtain ⟨h5, h6⟩ := He.ba h4
  exact ⟨hm, h1, h3, of_decide_eq_true h5, of_decide_eq_true h6⟩
section
variable {T : Tp} {X : Cx} {c : Cn} {N : List Str} {k : Nat} {sc : Scope} {x m : Str} {pos p p1 p2 : Pos} {cid j : Nat}
theorem s_raise0 (hX : XSt T X c N k sc) (o : Eo0 T x cid) (hg : Gl X x) (hdb : (x == ("__debug__" : Str)) = false := by decide) : PS X (.Raise (some (.Call (.Name x p1) [.Constant (.str m) j p2] [] p)) none pos) (RS c (sRaise0 cid)) := by
  refine ps_imp (L2N.ps_raise hX.e.calm hX.e.tk (L2N.pmk_own (C := T.g.cA cid) PySem.F.excBase_ValueError (by rw [hX.e.pk]; exact o.ex) (by rw [hX.e.pm]; exact o.gl) (by rw [hX.e.pk]; exact o.kp) (raises_own (by rw [hX.e.pk]; exact o.sb) (by rw [hX.e.pk]; exact o.ty)) hg hdb)) fun D s H q => ?_
  obtain ⟨W, e, h, S, q⟩ := q
  have q : PostS c W H (.exc ⟨cid, []⟩ e h) D := q
  exact q W s H _ none (Per.refl _ _) S ⟨by rw [hX.e.pg], .inl ⟨rfl, rfl⟩⟩
end
/-! ### try: .. except C: .. -/
def tryR0 (r : SRes) : SRes := match r with
  | .nx e h => .nx (noExn e) h
  | .rt d h => .rt d h
  | _ => .bad
def sTry0 (ck : Nat → Option Bool) (body hd : Stm) : Stm := fun e h => match body e h with
  | .exc x e' h' => (match ck x.c with
    | some true => tryR0 (hd (noExn e') h')
    | some false => .exc x e' h'
    | none => .bad)
  | r => r
section
variable {T : Tp} {X : Cx} {c : Cn} {N : List Str} {k : Nat} {sc : Scope} {x : Str} {cv : Value} {ck : Nat → Option Bool} {body suite : List Stmt} {b0 : Stmt} {np pos pos' : Pos} {mb mh : Stm}
theorem s_try0 (hX : XSt T X c N k sc) (hg : Gl X x) (hm : T.mg x = some cv) (kc : CkOk T cv ck) (hb : ∀ (X' : Cx) (c' : Cn), XSt T X' c' N k sc → PSs X' body (RS c' mb)) (hh : ∀ (X' : Cx) (c' : Cn), XHo T X' c' N k sc → PSs X' (b0 :: suite) (RS c' mh))
    (hdb : (x == ("__debug__" : Str)) = false := by decide) : PS X (.Try body [.ExceptHandler (some (.Name x np)) none (b0 :: suite) pos'] [] [] pos) (RS c (sTry0 ck mb mh)) := by
  let c' : Addr → Value → Option Addr → Cn := fun a cls dd => { c with x := fun _ _ _ _ => False, cur := some (a, cls, dd) }
  refine ps_imp (L2N.ps_try_many (tb := fun W => RS (c.wx W) mb) (Wout := c.x) hX.st hX.fr hX.e.tk (fun W pn xe tk pa => hb _ _ ⟨⟨hX.e.pp, hX.e.pw, hX.e.pk, hX.e.pm, hX.e.pb, hX.e.pg, hX.e.nm, hX.e.nd, hX.e.sc, hX.e.calm, hX.e.room, tk⟩, pa, hX.fn, hX.st, hX.fr⟩)
    (.cons (ts := fun a cls d => RS (c' a cls d) mh) (c := cv) ⟨hg, hdb, .inl (by rw [hX.e.pm]; exact hm)⟩ (fun a oe cls d pn hz hf => hh _ _ ⟨hX.e.pp, hX.e.pw, hX.e.pk, hX.e.pm, hX.e.pb, hX.e.pg, hX.e.nm, hX.e.nd, hX.e.sc, roomH_mark hX.e.room _, rfl, X, a, oe, cls, d, pn, rfl, rfl, hz, hf⟩) .nil)) fun D s H q => ?_
  obtain ⟨W, e, h, S, q⟩ := q
  refine ⟨W, e, h, S.wx, ?_⟩
  unfold sTry0 at q
  cases z : mb e h with
  | nx e' h' =>
    rw [z] at q
    exact fun W' s' H' p S' => q W' s' H' p S'.ofWx
  | bk e' h' =>
    rw [z] at q
    exact fun W' s' H' p S' => q W' s' H' p S'.ofWx
  | ct e' h' =>
    rw [z] at q
    exact fun W' s' H' p S' => q W' s' H' p S'.ofWx
  | rt d h' =>
    rw [z] at q
    exact q
  | bad =>
    rw [z] at q
    exact q.elim
  | exc y e' h' =>
    rw [z] at q
    simp only [] at q
    intro W' s' H' cls dd p S' r
    have S1 := S'.ofWx
    obtain ⟨ec, rr⟩ := r
    have ec : cls = .ref (c.g.cA y.c) := ec
    cases zc : ck y.c with
    | none =>
      rw [zc] at q
      exact q.elim
    | some b =>
      rw [zc] at q
      refine ⟨b, ?_, fun hb2 a na => ?_, fun hb2 => ?_⟩
      · rw [ec, hX.e.pk, hX.e.pg]
        exact kc.ok _ _ zc
      · subst hb2
        have q1 : PostS c W H (tryR0 (mh (noExn e') h')) D := q
        have S3 : Sim (c' a cls dd) W' (noExn e') h' s' H' := S1.noExn (c' := c' a cls dd) rfl rfl rfl
        refine ⟨W', _, h', S3, ?_⟩
        have q2 := q1.later p
        cases zr : mh (noExn e') h' with
        | nx e3 h3 =>
          rw [zr] at q2
          have q3 : PostS c W' H' (.nx (noExn e3) h3) D := q2
          exact fun W3 s3 H3 p3 S4 => q3 W3 _ H3 p3 (S4.noExn (c' := c) rfl rfl rfl)
        | rt d h3 =>
          rw [zr] at q2
          exact q2
        | bk e3 h3 =>
          rw [zr] at q2
          exact q2.elim
        | ct e3 h3 =>
          rw [zr] at q2
          exact q2.elim
        | exc x3 e3 h3 =>
          rw [zr] at q2
          exact q2.elim
        | bad =>
          rw [zr] at q2
          exact q2.elim
      · subst hb2
        exact q W' s' H' cls dd p S1 ⟨ec, rr⟩
end
/-! ### isinstance(e, C) -/
/-- what isinstance asks of an instance's class ci, and C -/
structure IsOk (T : Tp) (ci C : Nat) (b : Bool) : Prop where
  cl : Cls T.g.K (T.g.cA ci)
  ha : PySem.W.findIn T.g.K (.ref (T.g.cA ci)) "__class__" = some (some (.builtin "object.__class__"))
  hn : PySem.W.specialIn T.g.K (.builtin "object.__class__") "__get__" = some (some (.builtin "getset_descriptor.__get__"))
  tk : PySem.W.takesIn T.g.K (.builtin "object.__class__") = some true
  hm : PySem.W.mroIn T.g.K (T.g.cA ci) (.type "object") = some true
  ko : PySem.W.kitOne T.g.K (.ref (T.g.cA ci)) (.ref (T.g.cA C)) = some b
theorem clsB_ok {C : Addr} {K : PySem.W.Frag} (b : clsB C K = true) : Cls K C := by
  obtain ⟨h1, h2⟩ := He.ba b
  obtain ⟨h3, h4⟩ := He.ba h2
  obtain ⟨h5, h6⟩ := He.ba h4
  exact ⟨h1, h3, h5, of_decide_eq_true h6⟩
theorem is_of {T : Tp} {ci C : Nat} {r : Bool} (b : isB (T.g.cA ci) (T.g.cA C) r T.g.K = true) : IsOk T ci C r := by
  obtain ⟨h1, h2⟩ := He.ba b
  obtain ⟨h3, h4⟩ := He.ba h2
  obtain ⟨h5, h6⟩ := He.ba h4
  obtain ⟨h7, h8⟩ := He.ba h6
  obtain ⟨h9, h10⟩ := He.ba h8
  exact ⟨clsB_ok h1, of_decide_eq_true h3, of_decide_eq_true h5, of_decide_eq_true h7, of_decide_eq_true h9, of_decide_eq_true h10⟩
def IsL (T : Tp) (C : Nat) (tab : List (Nat × Bool)) : Prop := ∀ i b, (i, b) ∈ tab → IsOk T i C b
theorem isL_nil {T : Tp} {C : Nat} : IsL T C [] := fun _ _ h => by cases h
theorem isL_cons {T : Tp} {C i : Nat} {b : Bool} {tab : List (Nat × Bool)} (a : IsOk T i C b) (r : IsL T C tab) : IsL T C ((i, b) :: tab) := fun j b' h => by
  rcases List.mem_cons.mp h with e | e
  · cases e
    exact a
  · exact r _ _ e
theorem mem_of_lookupB : ∀ {l : List (Nat × Bool)} {c : Nat} {j : Bool}, l.lookup c = some j → (c, j) ∈ l
  | [], _, _, e => by cases e
  | (a, b) :: r, c, j, e => by
    by_cases h : c = a
    · subst h
      simp [List.lookup] at e
      subst e
      exact List.mem_cons_self
    · have ne : (c == a) = false := beq_eq_false_iff_ne.mpr h
      simp only [List.lookup, ne] at e
      exact List.mem_cons_of_mem _ (mem_of_lookupB e)
def isO (tab : List (Nat × Bool)) (o : Option (Nat × List DV)) : Option Bool := match o with
  | some (c, _) => tab.lookup c
  | none => none
def vIsO (tab : List (Nat × Bool)) (x : DV) : M DV := fun h => match isO tab (clsO h x) with
  | some b => .ok (.bl b) h
  | none => .bad
section
variable {T : Tp} {X : Cx} {c : Cn} {N : List Str} {k : Nat} {sc : Scope} {pos p1 p2 : Pos} {a : Expr} {ma : En → M DV} {y : Str} {C : Nat} {tab : List (Nat × Bool)}
theorem c_isO (hX : XEx T X c N k sc) (L : IsL T C tab) (hg : Gl X "isinstance") (hm : X.mg "isinstance" = none) (hg2 : Gl X y) (hm2 : T.mg y = some (.ref (T.g.cA C))) (ha : PE X a (RE c ma))
    (he : starEach [a, .Name y p2] X.env = (false, eval a X.env) :: starEach [.Name y p2] X.env := by rfl) (hd : (y == ("__debug__" : Str)) = false := by decide) :
    PE X (.Call (.Name "isinstance" p1) [a, .Name y p2] [] pos) (RE c (e1 (vIsO tab) ma)) :=
  pe_imp (pe_callB call_isi hg hm (by decide +kernel) (pa_cons ha (pa_cons (pe_glob (v := .ref (T.g.cA C)) hg2 (by rw [hX.pm]; exact hm2) rfl hd) pa_nil) he) (by decide) (by decide) he rfl) fun s H Q q =>
    RX.bind q fun W e W1 H1 x v h1 t S rx q2 => by
      unfold vIsO at q2
      cases z : clsO h1 x with
      | none =>
        rw [z] at q2
        exact q2.elim
      | some u =>
        obtain ⟨ci, l⟩ := u
        rw [z] at q2
        unfold isO at q2
        simp only [] at q2
        cases z2 : tab.lookup ci with
        | none =>
          rw [z2] at q2
          exact q2.elim
        | some b =>
          rw [z2] at q2
          obtain ⟨ad, dx, vs, e1, e2, e3, rs⟩ := obj_at S.hs rx z
          have fo := L ci b (mem_of_lookupB z2)
          subst e1
          rw [hX.pg] at e2
          refine ⟨.ref ad, .ref (T.g.cA C), .ref (T.g.cA ci), .ref (T.g.cA C), b, rfl, .own _, .base (.ins e2 (by rw [hX.pk]; exact fo.cl) (by rw [hX.pk]; exact fo.ha) (by rw [hX.pk]; exact fo.hn) (by rw [hX.pk]; exact fo.tk) (by rw [hX.pk]; exact fo.hm)), ?_, q2.ret S (by simp only [rV, Rep])⟩
          rw [hX.pk]
          exact fo.ko
end
@[simp] theorem clsO_obj (h : HP) (c : Nat) (l : List DV) : clsO h (.obj c l) = some (c, l) := rfl
theorem vFld_obj (tab : List (Nat × Nat)) (c : Nat) (l : List DV) (h : HP) {j : Nat} {d : DV} (e1 : tab.lookup c = some j) (e2 : l[j]? = some d) : vFld tab (.obj c l) h = .ok d h := by
  unfold vFld fldO
  simp only [clsO_obj, e1, e2]
theorem vIsO_obj (tab : List (Nat × Bool)) (c : Nat) (l : List DV) (h : HP) {b : Bool} (e1 : tab.lookup c = some b) : vIsO tab (.obj c l) h = .ok (.bl b) h := by
  unfold vIsO isO
  simp only [clsO_obj, e1]
end LM

/-! Looks at classes with instances. -/
namespace LM
open PySem L2

theorem XEx.ofc {T : Tp} {X : Cx} {c c' : Cn} {N : List Str} {k : Nat} {sc : Scope} (h : XEx T X c N k sc) (eg : c'.g = c.g) (ex : c'.x = c.x) : XEx T X c' N k sc :=
  ⟨h.pp, h.pw, h.pk, h.pm, h.pb, by rw [eg]; exact h.pg, h.nm, h.nd, h.sc, h.calm, h.room, by rw [ex]; exact h.tk⟩
theorem MoL.mono {T : Tp} {m : Str} {j k n : Nat} {ms : Fns} (L : MoL T m j n ms) (h : j ≤ k) : MoL T m k n ms := fun c f e => (L c f e).mono h
section
variable {T : Tp} {X : Cx} {c : Cn} {N : List Str} {k : Nat} {sc : Scope}
theorem k_iset {f : Str} {p0 p1 pos : Pos} {ex : Expr} {rest : List Stmt} {names : List Str} {me : En → M DV} {mr : En → M (List DV)} (hX : XSt T X c N k sc) (hN : N[0]? = some ("self" : Str)) (hv : Vis sc "self") (he : ∀ c', c'.g = c.g → c'.x = c.x → PE X ex (RE c' me)) (hr : PSs X rest (RIt c names mr))
    (hs : swapsWith ex (some (.Attribute (.Name "self" p0) f p1)) pos.line X.env = pure false := by rfl) : PSs X (.Assign [.Attribute (.Name "self" p0) f p1] ex pos :: rest) (RIt c (f :: names) (iSet me mr)) :=
  i_set hX.e.kk (by rw [hX.e.nm]; exact hN) (by rw [hX.e.sc]; exact hv) he hr hs
end
theorem may_of {T : Tp} {ci : Nat} {fs : List Str} (b : mayB fs (T.g.cA ci) T.g.K = true) (fl : T.g.flds ci = fs) (nd : fs.Nodup) (few : fs.length ≤ 900) : MayF T.g.K (T.g.cA ci) [] (T.g.flds ci) := by
  obtain ⟨h1, h2⟩ := He.ba b
  rw [fl]
  exact ⟨clsB_ok h1, fun f hf => ⟨of_decide_eq_true (p := PySem.W.findIn T.g.K (.ref (T.g.cA ci)) f = some none) (List.all_eq_true.mp h2 f hf), rfl⟩, nd, by rw [List.length_nil, Nat.zero_add]; exact few⟩
theorem fld_of {T : Tp} {ci j : Nat} {f : Str} {fs : List Str} (b : mayB fs (T.g.cA ci) T.g.K = true) (fl : T.g.flds ci = fs) (nd : fs.Nodup) (e : fs[j]? = some f) (few : fs.length < 900) : FldOk T f ci j := by
  obtain ⟨h1, h2⟩ := He.ba b
  exact ⟨clsB_ok h1, of_decide_eq_true (p := PySem.W.findIn T.g.K (.ref (T.g.cA ci)) f = some none) (List.all_eq_true.mp h2 f (List.mem_of_getElem? e)), by rw [fl]; exact nd, by rw [fl]; exact e, by rw [fl]; exact few⟩
theorem meth_of {T : Tp} {m : Str} {ci : Nat} {D : Addr} {k n : Nat} {f : List DV → M DV} {fs : List Str} (b : methB (T.g.cA ci) D m T.g.K = true) (fl : T.g.flds ci = fs) (nf : m ∉ fs)
    (o : ∃ fd ps, Binds T.g.K fd ps [] ∧ FnOk T.P T.w T.g.K T.mg T.base (L2N.CX T.P T.w) k (He.ma T.g.K D m) fd ps (spF T.g n f)) : MethOk T m ci k n f := by
  obtain ⟨h1, h2⟩ := He.ba b
  obtain ⟨h3, h4⟩ := He.ba h2
  obtain ⟨h5, h6⟩ := He.ba h4
  obtain ⟨fd, ps, bd, fo⟩ := o
  exact ⟨clsB_ok h1, by rw [fl]; exact nf, _, fd, ps, ⟨of_decide_eq_true h3, h5, h6⟩, bd, fo⟩
theorem mk_of' {T : Tp} {x : Str} {ci : Nat} {D : Addr} {j n : Nat} {m : List DV → M (List DV)} (gl : T.mg x = some (.ref (T.g.cA ci))) (b : mkB (T.g.cA ci) D T.g.K = true) (may : MayF T.g.K (T.g.cA ci) [] (T.g.flds ci))
    (o : ∃ fd ps, Binds T.g.K fd ps [] ∧ FnOk T.P T.w T.g.K T.mg T.base (L2N.CX T.P T.w) j (He.ma T.g.K D "__init__") fd ps (spI T.g (T.g.flds ci) n m)) : MkOk T x ci j n m := by
  obtain ⟨h1, h2⟩ := He.ba b
  obtain ⟨h3, h4⟩ := He.ba h2
  obtain ⟨h5, h6⟩ := He.ba h4
  obtain ⟨fd, ps, bd, fo⟩ := o
  exact ⟨gl, may, _, fd, ps, ⟨h1, of_decide_eq_true h3, h5, h6⟩, bd, fo⟩
end LM

/-! for over a list that may be on the changing heap; append to such a list. -/
namespace LM
open PySem L2

def elX (en : Bool) (i : Nat) (d : DV) : DV := if en then .tup [.int (i : Int), d] else d
def forX (en : Bool) (t : DV → En → Option En) (body : Stm) (fg : List Nat) (o : DV) : Nat → Nat → Stm
  | 0, i, e, h => (match asL h o with
    | some l => if i = l.length then .nx e h else .bad
    | none => .bad)
  | n + 1, i, e, h => (match asL h o with
    | some l => (match l[i]? with
      | some d => (match t (elX en i d) e with
        | none => .bad
        | some e1 => match body e1 h with
          | .nx e2 h2 => forX en t body fg o n (i + 1) (wipeE e2 fg) h2
          | .ct e2 h2 => forX en t body fg o n (i + 1) (wipeE e2 fg) h2
          | .bk e2 h2 => .nx (wipeE e2 fg) h2
          | .rt d h2 => .rt d h2
          | .exc x e2 h2 => .exc x e2 h2
          | .bad => .bad)
      | none => if i = l.length then .nx e h else .bad)
    | none => .bad)
def lenX (h : HP) (o : DV) : Nat := match asL h o with
  | some l => l.length
  | none => 0
def sForX (en : Bool) (mo : En → M DV) (t : DV → En → Option En) (fg : List Nat) (body : Stm) : Stm := sBind mo fun o e h => forX en t body fg o (lenX h o) 0 (wipeE e fg) h
/-- what is walked: a list, its numbers with it -/
def itJ (en : Bool) (K : PySem.W.Frag) (a : Addr) : It := if en then IteB false K a else Itl K a
def iX (en : Bool) (K : PySem.W.Frag) (tl : TE) : TI := fun σ H R => tl σ H fun v H1 => ∃ a, v = .ref a ∧ (∃ xs, SqL K H1 a xs) ∧ R (itJ en K a) H1
section
variable {X : Cx} {c : Cn} {pos p1 : Pos} {tg a : Expr} {ta : TE}
theorem ix_list (ha : PE X a ta) : PI X tg a (iX false X.K ta) := pi_imp (pi_list ha) fun s H R q => q
theorem ix_enum {c : Cn} {mo : En → M DV} {elts : List Expr} {kk : Nat} {tpos : Pos} (hg : Gl X "enumerate") (hm : X.mg "enumerate" = none) (ha : PE X a (RE c mo)) (he : starEach [a] X.env = (false, eval a X.env) :: starEach [] X.env := by rfl) (hs : starEach [a] X.env = [(false, eval a X.env)] := by rfl) : PI X (.Tuple elts kk tpos) (.Call (.Name "enumerate" p1) [a] [] pos) (iX true X.K (RE c mo)) :=
  pi_imp (pi_enumB hg hm (pa_cons ha pa_nil he) hs) fun s H R q => by
    obtain ⟨W, e, h, S, q⟩ := q
    refine ⟨W, e, h, S, q.imp (fun _ _ _ _ z => z) fun v H1 z => ?_⟩
    obtain ⟨a, e1, ⟨xs, sq⟩, r⟩ := z
    exact ⟨false, a, xs, by rw [e1], sq, r⟩
theorem asL_at {c : Cn} {W : Wd} {e : En} {h : HP} {s : L2.St} {H : Hp} {d : DV} {p : Addr} {l : List DV} (S : Sim c W e h s H) (r : Rep c.g W H d (.ref p)) (a : asL h d = some l) : ∃ vs, SqL c.g.K H p vs ∧ Reps c.g W H l vs := by
  obtain ⟨p', vs, e1, sq, rs⟩ := asL_ok S (.inl r) a
  cases e1
  exact ⟨vs, sq, rs⟩
theorem itJ_go {en : Bool} {K : PySem.W.Frag} {H : Hp} {p : Addr} {vs : List V} {i : Nat} {v : V} (sq : SqL K H p vs) (e : vs[i]? = some v) : (itJ en K p).go i H := by
  cases en with
  | false => exact ⟨vs, v, sq, e⟩
  | true => exact ⟨vs, v, sq, e⟩
theorem itJ_stop {en : Bool} {K : PySem.W.Frag} {H : Hp} {p : Addr} {vs : List V} (sq : SqL K H p vs) : (itJ en K p).stop vs.length H := by
  cases en with
  | false => exact ⟨vs, sq, Nat.le_refl _⟩
  | true => exact ⟨vs, sq, rfl⟩
theorem itJ_yld {en : Bool} {K : PySem.W.Frag} {H H' : Hp} {p : Addr} {vs : List V} {i : Nat} {v x : V} (sq : SqL K H p vs) (e : vs[i]? = some v) (y : (itJ en K p).yld i H x H') : if en then ∃ T, x = .ref T ∧ H T = none ∧ H' = upd H T (.tup [.int (i : Nat), v]) else H' = H ∧ x = v := by
  cases en with
  | false =>
    obtain ⟨h1, h2⟩ := y
    have := h2 vs sq
    rw [e] at this
    exact ⟨h1, (Option.some.inj this).symm⟩
  | true =>
    obtain ⟨T, x', h1, h2, h3, h4⟩ := y
    have := h4 vs sq
    rw [e] at this
    cases this
    exact ⟨T, h1, h2, h3⟩
theorem s_forX {en : Bool} {iter : Expr} {body : List Stmt} {mo : En → M DV} {t : DV → En → Option En} {sl fg : List Nat} {b : Stm} (hk : X.K = c.g.K) (hp : PassesOwn (model X.prog X.w) X.A X.env X.xe) (hc : X.calm = true) (hi : PI X tg iter (iX en X.K (RE c mo))) (hg : PG X tg (RG c t sl)) (hb : PSs X body (RS c b))
    (hs : ∀ x, foldedSetIterable iter X.env x = pure x := by intro _; rfl) : PS X (.For tg iter body [] pos) (RS c (sForX en mo t fg b)) := ps_imp (ps_for hp hc hi hg hb hs) fun D s H q => by
  obtain ⟨W, e, h, S0, q⟩ := q
  refine ⟨W, e, h, S0, sb_at (R := rV c) S0 q fun W1 H1 o v h1 t1 S1 r q2 => ?_⟩
  have r : Rep c.g W1 H1 o v := r
  -- a list it is
  have isL : ∃ l, asL h1 o = some l := by
    unfold lenX at q2
    cases z : asL h1 o with
    | some l => exact ⟨l, rfl⟩
    | none =>
      rw [z] at q2
      unfold forX at q2
      rw [z] at q2
      exact q2.elim
  obtain ⟨l0, el0⟩ := isL
  obtain ⟨p, vs0, e1, sq0, rs0⟩ := asL_ok S1 (.inl r) el0
  subst e1
  refine ⟨p, rfl, ⟨vs0, by rw [hk]; exact sq0⟩, ?_⟩
  refine ⟨fun i m s' Hc => ∃ Wc ec hc, Per W1 H1 Wc Hc ∧ Sim c Wc ec hc s' Hc ∧ PostS c Wc Hc (forX en t b fg o m i ec hc) D,
    ⟨lenX h1 o, W1, _, h1, Per.refl _ _, S1.wipe' fg, q2⟩, ?_⟩
  rintro i m s' Hc ⟨Wc, ec, hc, pc, Sc, q3⟩
  have rc : Rep c.g Wc Hc o (.ref p) := r.per pc _ _
  have endd : ∀ l, asL hc o = some l → i = l.length → PostS c Wc Hc (.nx ec hc) D → (itJ en X.K p).stop i Hc ∧ D.nx s' Hc := fun l el ei q => by
    obtain ⟨vs, sq, rs⟩ := asL_at Sc rc el
    rw [hk, ei, rs.len]
    exact ⟨itJ_stop sq, q.nx Sc⟩
  cases m with
  | zero =>
    unfold forX at q3
    cases z : asL hc o with
    | none =>
      rw [z] at q3
      exact q3.elim
    | some l =>
      rw [z] at q3
      simp only [] at q3
      by_cases hi : i = l.length
      · rw [if_pos hi] at q3
        exact .inl (endd l z hi q3)
      · rw [if_neg hi] at q3
        exact q3.elim
  | succ m =>
    unfold forX at q3
    cases z : asL hc o with
    | none =>
      rw [z] at q3
      exact q3.elim
    | some l =>
      rw [z] at q3
      simp only [] at q3
      cases zd : l[i]? with
      | none =>
        rw [zd] at q3
        simp only [] at q3
        by_cases hi : i = l.length
        · rw [if_pos hi] at q3
          exact .inl (endd l z hi q3)
        · rw [if_neg hi] at q3
          exact q3.elim
      | some d =>
        rw [zd] at q3
        simp only [] at q3
        obtain ⟨vs, sq, rs⟩ := asL_at Sc rc z
        obtain ⟨u, eu, ru⟩ := rs.get zd
        rw [hk]
        refine .inr ⟨itJ_go sq eu, fun s2 H2 => ∃ Wc ec hc, Per W1 H1 Wc H2 ∧ Sim c Wc ec hc s2 H2 ∧ PostS c Wc H2 (forX en t b fg o m (i + 1) ec hc) D, fun s2 H2 z => ⟨m, Nat.lt_succ_self _, z⟩, fun x H' y => ?_⟩
        have y := itJ_yld sq eu y
        have item : Step Wc Hc Wc H' ∧ HSim c.g Wc hc H' ∧ Rep c.g Wc H' (elX en i d) x := by
          cases en with
          | false =>
            obtain ⟨y1, y2⟩ := y
            subst y1 y2
            exact ⟨Step.refl _ _, Sc.hs, ru⟩
          | true =>
            obtain ⟨T, y1, y2, y3⟩ := y
            subst y1 y3
            have tn : Step Wc Hc Wc (upd Hc T (.tup [.int (i : Nat), u])) := Step.new y2
            have pn := tn.per Sc.hs
            refine ⟨tn, Sc.hs.new y2 pn, ?_⟩
            show Rep c.g Wc _ (.tup [.int (i : Int), d]) _
            simp only [Rep]
            exact ⟨T, _, rfl, .inl (.inl upd_same), .cons (by simp only [Rep]) (.cons (ru.per pn _ _) .nil)⟩
        obtain ⟨t2, s2, rd⟩ := item
        have p2 := t2.per Sc.hs
        refine ⟨Wc, ec, hc, elX en i d, Sc.step t2 s2, rd, ?_⟩
        cases zt : t (elX en i d) ec with
        | none =>
          rw [zt] at q3
          exact q3.elim
        | some e1 =>
          rw [zt] at q3
          intro s3 S3 _ _
          refine ⟨Wc, e1, hc, S3, ?_⟩
          have q4 : PostS c Wc H' (match b e1 hc with
            | .nx e2 h2 => forX en t b fg o m (i + 1) (wipeE e2 fg) h2
            | .ct e2 h2 => forX en t b fg o m (i + 1) (wipeE e2 fg) h2
            | .bk e2 h2 => .nx (wipeE e2 fg) h2
            | .rt d h2 => .rt d h2
            | .exc x e2 h2 => .exc x e2 h2
            | .bad => .bad) D := q3.later p2
          cases zb : b e1 hc with
          | nx e2 h2 =>
            rw [zb] at q4
            exact fun W' s' H2 p S' => ⟨W', _, h2, (pc.trans p2).trans p, S'.wipe' fg, q4.later p⟩
          | ct e2 h2 =>
            rw [zb] at q4
            exact fun W' s' H2 p S' => ⟨W', _, h2, (pc.trans p2).trans p, S'.wipe' fg, q4.later p⟩
          | bk e2 h2 =>
            rw [zb] at q4
            exact fun W' s' H2 p S' => q4 W' s' H2 p (S'.wipe' fg)
          | rt d h2 =>
            rw [zb] at q4
            exact q4
          | exc x e2 h2 =>
            rw [zb] at q4
            exact q4
          | bad =>
            rw [zb] at q4
            exact q4
end
section
variable {T : Tp} {X : Cx} {c : Cn} {N : List Str} {k : Nat} {sc : Scope} {pos : Pos} {tg iter : Expr} {body : List Stmt} {en : Bool} {mo : En → M DV} {t : DV → En → Option En} {sl : List Nat} {b : Stm}
theorem k_forX (fg : List Nat) (hX : XSt T X c N k sc) (hi : PI X tg iter (iX en X.K (RE c mo))) (hg : PG X tg (RG c t sl)) (hb : PSs X body (RS c b)) (hs : ∀ x, foldedSetIterable iter X.env x = pure x := by intro _; rfl) : PS X (.For tg iter body [] pos) (RS c (sForX en mo t fg b)) :=
  s_forX hX.e.kk hX.pa hX.e.calm hi hg hb hs
end
@[simp] theorem sForX_app (en : Bool) (mo : En → M DV) (t : DV → En → Option En) (fg : List Nat) (b : Stm) (e : En) (h : HP) : sForX en mo t fg b e h = uR (mo e h) e fun o e h => forX en t b fg o (lenX h o) 0 (wipeE e fg) h := rfl
/-- the list stays: a walk over its items -/
theorem forX_drop {en : Bool} {t : DV → En → Option En} {b : Stm} {fg : List Nat} {o : DV} {l : List DV} (I : En → HP → Prop) (hI : ∀ e h, I e h → asL h o = some l) (st : ∀ (i : Nat) (d : DV) (e : En) (h : HP), l[i]? = some d → I e h → (∀ e' h', turn t b fg (elX en i d) e h = .nx e' h' → I e' h')) :
    ∀ (n i : Nat) (e : En) (h : HP), i + n = l.length → I e h → forX en t b fg o n i e h = forL t b fg ((List.range n).map fun j => elX en (i + j) (l.getD (i + j) .non)) e h
  | 0, i, e, h, hn, ih => by
    unfold forX
    rw [hI e h ih]
    simp only []
    rw [if_pos (by omega)]
    rfl
  | n + 1, i, e, h, hn, ih => by
    have hi : i < l.length := by omega
    have ed : l[i]? = some l[i] := List.getElem?_eq_getElem hi
    have eg : l.getD i .non = l[i] := by rw [List.getD_eq_getElem?_getD, ed]; rfl
    rw [List.range_succ_eq_map, List.map_cons, List.map_map, forL_cons]
    simp only [Nat.add_zero]
    rw [eg]
    have rest : ((List.range n).map ((fun j => elX en (i + j) (l.getD (i + j) .non)) ∘ Nat.succ)) = (List.range n).map fun j => elX en (i + 1 + j) (l.getD (i + 1 + j) .non) := by
      apply List.map_congr_left
      intro j _
      show elX en (i + (j + 1)) (l.getD (i + (j + 1)) .non) = _
      rw [show i + (j + 1) = i + 1 + j by omega]
    rw [rest]
    have ih2 := forX_drop I hI st n (i + 1)
    have sti := st i l[i] e h ed ih
    unfold forX
    rw [hI e h ih]
    simp only [ed]
    unfold turn at sti ⊢
    cases zt : t (elX en i l[i]) e with
    | none => rfl
    | some e1 =>
      rw [zt] at sti
      simp only [oR_some] at sti ⊢
      cases zb : b e1 h with
      | nx e2 h2 =>
        rw [zb] at sti
        simp only [wR_nx, lR_nx] at sti ⊢
        exact ih2 _ _ (by omega) (sti _ _ rfl)
      | ct e2 h2 =>
        rw [zb] at sti
        simp only [wR_ct, lR_nx] at sti ⊢
        exact ih2 _ _ (by omega) (sti _ _ rfl)
      | bk e2 h2 => rfl
      | rt d h2 => rfl
      | exc x e2 h2 => rfl
      | bad => rfl
theorem forX_frz {t : DV → En → Option En} {b : Stm} {fg : List Nat} {o : DV} {l : List DV} (hI : ∀ h, asL h o = some l) (e : En) (h : HP) : forX false t b fg o l.length 0 e h = forL t b fg l e h := by
  rw [forX_drop (l := l) (fun _ _ => True) (fun _ h _ => hI h) (fun _ _ _ _ _ _ _ _ _ => trivial) l.length 0 e h (by omega) trivial]
  congr 1
  apply List.ext_getElem?
  intro j
  by_cases hj : j < l.length
  · rw [List.getElem?_map, List.getElem?_range hj, List.getElem?_eq_getElem hj]
    simp only [Option.map_some, elX, Nat.zero_add]
    rw [List.getD_eq_getElem?_getD, List.getElem?_eq_getElem hj]
    rfl
  · rw [List.getElem?_eq_none (by simp; omega), List.getElem?_eq_none (by omega)]
theorem map_getD {en : Bool} (l : List DV) (he : en = false) : ((List.range l.length).map fun j => elX en (0 + j) (l.getD (0 + j) .non)) = l := by
  subst he
  apply List.ext_getElem?
  intro j
  by_cases hj : j < l.length
  · rw [List.getElem?_map, List.getElem?_range hj, List.getElem?_eq_getElem hj]
    simp only [Option.map_some, elX, Nat.zero_add]
    rw [List.getD_eq_getElem?_getD, List.getElem?_eq_getElem hj]
    rfl
  · rw [List.getElem?_eq_none (by simp; omega), List.getElem?_eq_none (by omega)]
/-- .. where the changing heap holds the list and no turn changes that -/
theorem forX_inv {t : DV → En → Option En} {b : Stm} {fg : List Nat} {o : DV} {l : List DV} (I : En → HP → Prop) (hI : ∀ e h, I e h → asL h o = some l) (st : ∀ (d : DV) (e : En) (h : HP), d ∈ l → I e h → (∀ e' h', turn t b fg d e h = .nx e' h' → I e' h')) (e : En) (h : HP) (ih : I e h) : forX false t b fg o l.length 0 e h = forL t b fg l e h := by
  rw [forX_drop (l := l) I hI (fun i d e h hd => st d e h (List.mem_of_getElem? hd)) l.length 0 e h (by omega) ih, map_getD l rfl]
@[simp] theorem asL_lst (l : List DV) (h : HP) : asL h (.lst l) = some l := rfl
theorem asL_ref {h : HP} {p : Nat} {l : List DV} (e : h[p]? = some (.lst l)) : asL h (.ref p) = some l := by
  show (match h[p]? with
    | some (.lst l) => some l
    | _ => none) = _
  rw [e]
theorem lenX_of {h : HP} {o : DV} {l : List DV} (e : asL h o = some l) : lenX h o = l.length := by
  unfold lenX
  rw [e]
end LM

/-! Lists on the changing heap: append, pop, compared. -/
namespace LM
open PySem L2

/-! ### o.append(e) -/
def appH (h : HP) (o d : DV) : Option HP := match o with
  | .ref p => (match h[p]? with
    | some (.lst l) => if l.length < LN then some (h.set p (.lst (l ++ [d]))) else none
    | _ => none)
  | _ => none
def sAppH (mo mv : En → M DV) : Stm := sBind mo fun o => sBind mv fun d e h => hNx (appH h o d) e
def lstAt (h : HP) (o : DV) : Bool := match o with
  | .ref p => (match h[p]? with
    | some (.lst _) => true
    | _ => false)
  | _ => false
def sAppH' (mo mv : En → M DV) : Stm := sBind mo fun o e h => if lstAt h o then (sBind mv fun d e h => hNx (appH h o d) e) e h else .bad
theorem lst_at {c : Cn} {W : Wd} {e : En} {h : HP} {s : L2.St} {H : Hp} {p : Nat} {v : V} {l : List DV} (S : Sim c W e h s H) (r : Rep c.g W H (.ref p) v) (q : h[p]? = some (.lst l)) : ∃ a vs, v = .ref a ∧ W.r[p]? = some a ∧ H a = some (.lst vs) ∧ Reps c.g W H l vs := by
  simp only [Rep] at r
  obtain ⟨a, e1, e2⟩ := r
  obtain ⟨⟨vs, e3, rs⟩, _⟩ := S.hs.o p _ a q e2
  exact ⟨a, vs, e1, e2, e3, rs⟩
section
variable {T : Tp} {X : Cx} {c : Cn} {N : List Str} {k : Nat} {sc : Scope} {pos p2 p3 : Pos} {o ex : Expr} {mo mv : En → M DV}
theorem s_appH (ho : PE X o (RE c mo)) (hv : PE X ex (RE c mv)) (hst : starEach (ex :: []) X.env = (false, eval ex X.env) :: starEach [] X.env := by rfl)
    (hbase : attributeBase o "append" X.env (eval o X.env) = eval o X.env := by rfl)
    (hfew : ((backTo p3 (starEach (ex :: []) X.env)).all (fun x => !x.1) && (backToKw p3 (keywordEach [] X.env)).all (fun x => x.1.isSome)
      && decide ((ex :: []).length + ([] : List Keyword).length + (if ([] : List Keyword).isEmpty then 0 else 1) < 30)) = true := by rfl)
    (hline : (p2.endLine == p3.line) = true := by rfl)
    (hs : swapsWith (.Call (.Attribute o "append" p2) [ex] [] p3) none pos.line X.env = pure false := by rfl) :
    PS X (.Expr (.Call (.Attribute o "append" p2) [ex] [] p3) pos) (RS c (sAppH' mo mv)) :=
  ps_imp (ps_expr (pe_bm PySem.F.plainAttrs_list PySem.F.slot_list_append PySem.F.type_list_append mt_append ho (pa_cons hv pa_nil hst) hbase hfew hline hst rfl) hs) fun D s H q => by
    refine sb_use q fun W e W1 H1 od w h1 t S r q1 => ?_
    by_cases zl : lstAt h1 od = true
    rotate_left
    · rw [if_neg zl] at q1
      exact q1.elim
    rw [if_pos zl] at q1
    cases od with
    | ref p =>
      have zl : (match h1[p]? with
        | some (.lst _) => true
        | _ => false) = true := zl
      cases z : h1[p]? with
      | none =>
        rw [z] at zl
        cases zl
      | some ob =>
        rw [z] at zl
        cases ob with
        | obj _ _ => cases zl
        | lst l =>
          obtain ⟨a, vs, e1, e2, e3, rs⟩ := lst_at S r z
          subst e1
          refine ⟨.inl ⟨rfl, _, .inl (.inl e3)⟩, W1, e, h1, S, sb_at (R := rV c) S q1 fun W2 H2 d u h2 t2 S2 ru q2 => ?_⟩
          have ro2 : Rep c.g W2 H2 (.ref p) (.ref a) := r.per (t2.per S.hs) _ _
          have q2 : PostS c W2 H2 (hNx (appH h2 (.ref p) d) e) D := q2
          unfold appH at q2
          simp only [] at q2
          cases z2 : h2[p]? with
          | none =>
            rw [z2] at q2
            exact q2.elim
          | some ob2 =>
            rw [z2] at q2
            cases ob2 with
            | obj _ _ => exact q2.elim
            | lst l2 =>
              simp only [] at q2
              by_cases hl : l2.length < LN
              rotate_left
              · rw [if_neg hl] at q2
                exact q2.elim
              rw [if_pos hl] at q2
              have q3 : PostS c W2 H2 (.nx e (h2.set p (.lst (l2 ++ [d])))) D := q2
              obtain ⟨a2, vs2, f1, f2, f3, rs2⟩ := lst_at S2 ro2 z2
              cases f1
              obtain ⟨st, hs⟩ := S2.hs.write (o' := .lst (l2 ++ [d])) (u' := .lst (vs2 ++ [u])) z2 f2 f3 fun pr => ⟨_, upd_same, (rs2.per pr _ _).app (.cons (Rep.per pr _ _ ru) .nil)⟩
              exact ⟨a, vs2, u, rfl, rfl, f3, by rw [← rs2.len, line_LN]; exact hl, (q3.later (st.per S2.hs)).nx (S2.step st hs)⟩
    | _ => cases zl
/-! ### o.pop() -/
def popH (h : HP) (o : DV) : Option (DV × HP) := match o with
  | .ref p => (match h[p]? with
    | some (.lst l) => (match l[l.length - 1]? with
      | some d => some (d, h.set p (.lst l.dropLast))
      | none => none)
    | _ => none)
  | _ => none
def popR (o : Option (DV × HP)) : Res DV := match o with
  | some (d, h) => .ok d h
  | none => .bad
def ePop (mo : En → M DV) : En → M DV := fun e => mo e >>= fun o h => popR (popH h o)
theorem Reps.dropLast {g : Glue} {W : Wd} {H : Hp} {l : List DV} {vs : List V} (r : Reps g W H l vs) : Reps g W H l.dropLast vs.dropLast := by
  rw [List.dropLast_eq_take, List.dropLast_eq_take, r.len]
  exact Reps.take _ r
theorem c_pop (ho : PE X o (RE c mo)) (hbase : attributeBase o "pop" X.env (eval o X.env) = eval o X.env := by rfl) (hline : (p2.endLine == p3.line) = true := by rfl) : PE X (.Call (.Attribute o "pop" p2) [] [] p3) (RE c (ePop mo)) :=
  pe_imp (pe_bm0 PySem.F.plainAttrs_list PySem.F.slot_list_pop PySem.F.type_list_pop mt_pop ho hbase hline) fun s H Q q => by
    refine RX.bind (k := fun _ o h => popR (popH h o)) q fun W e W1 H1 od v h1 t S r q2 => ?_
    unfold popH at q2
    cases od with
    | ref p =>
      simp only [] at q2
      cases z : h1[p]? with
      | none =>
        rw [z] at q2
        exact q2.elim
      | some ob =>
        rw [z] at q2
        cases ob with
        | obj _ _ => exact q2.elim
        | lst l =>
          simp only [] at q2
          cases zd : l[l.length - 1]? with
          | none =>
            rw [zd] at q2
            exact q2.elim
          | some d =>
            rw [zd] at q2
            have q3 : Post c (rV c H) e s W1 H1 (.ok d (h1.set p (.lst l.dropLast))) Q := q2
            obtain ⟨a, vs, e1, e2, e3, rs⟩ := lst_at S r z
            subst e1
            obtain ⟨u, eu, ru⟩ := rs.get zd
            obtain ⟨st, hs⟩ := S.hs.write (o' := .lst l.dropLast) (u' := .lst vs.dropLast) z e2 e3 fun pr => ⟨_, upd_same, rs.dropLast.per pr _ _⟩
            refine ⟨.inl ⟨rfl, _, .inl (.inl e3)⟩, a, vs, u, rfl, rfl, e3, by rw [← rs.len]; exact eu, ?_⟩
            exact q3 W1 _ u st (S.step st hs) (ru.per (st.per S.hs) _ _)
    | _ => exact q2.elim
/-! ### == of such lists -/
def dr (h : HP) (x : DV) : DV := match x with
  | .ref p => (match h[p]? with
    | some (.lst l) => .lst l
    | _ => .ref p)
  | d => d
def vEqX (x y : DV) : M DV := fun h => vEq (dr h x) (dr h y) h
def vNeX (x y : DV) : M DV := fun h => vNe (dr h x) (dr h y) h
theorem dpX_of {W : Wd} {e : En} {h : HP} {s : L2.St} {H : Hp} {d : DV} {v : V} {p : PyData} (S : Sim c W e h s H) (r : RepB c.g W H d v) (q : toPD (dr h d) = some p) : Dp c.g.K H v p := by
  cases d with
  | ref i =>
    have q2 : toPD (match h[i]? with
      | some (.lst l) => .lst l
      | _ => .ref i) = some p := q
    cases z : h[i]? with
    | none =>
      rw [z] at q2
      simp only [toPD] at q2
      cases q2
    | some ob =>
      rw [z] at q2
      cases ob with
      | obj _ _ =>
        simp only [toPD] at q2
        cases q2
      | lst l =>
        simp only [toPD] at q2
        rcases r with r | ⟨l2, a, vs, e1, e2, e3, r, n⟩ | ⟨ks, l2, a, vs, e1, e2, e3, z2, r, n⟩
        · obtain ⟨a, vs, e1, e2, e3, rs⟩ := lst_at S r z
          subst e1
          cases z3 : toPDs l with
          | none =>
            rw [z3] at q2
            cases q2
          | some ps =>
            rw [z3] at q2
            cases q2
            exact .lst (.of e3) (dps_of l vs ps rs z3)
        · cases e1
        · cases e1
  | _ => exact dpB_of r q
theorem prim_eqX {K : PySem.W.Frag} (hk : c.g.K = K) : Prim2 c (pB c) (pB c) (rV c) vEqX (rEqD K) := by
  subst hk
  refine ⟨fun {W e h s H Hs x y v w Q} S rx ry nw q => ?_⟩
  unfold vEqX vEq at q
  cases z : eqD (dr h x) (dr h y) with
  | none =>
    rw [z] at q
    exact q.elim
  | some b =>
    rw [z] at q
    obtain ⟨d, f, h1, h2, h3, h4, h5⟩ := eqD_ok z
    exact ⟨d, f, dpX_of S rx h1, dpX_of S ry h2, h3, h4, by rw [← h5]; exact q.ret S (by simp only [rV, Rep])⟩
theorem prim_neX {K : PySem.W.Frag} (hk : c.g.K = K) : Prim2 c (pB c) (pB c) (rV c) vNeX (rNeD K) := by
  subst hk
  refine ⟨fun {W e h s H Hs x y v w Q} S rx ry nw q => ?_⟩
  unfold vNeX vNe at q
  cases z : eqD (dr h x) (dr h y) with
  | none =>
    rw [z] at q
    exact q.elim
  | some b =>
    rw [z] at q
    obtain ⟨d, f, h1, h2, h3, h4, h5⟩ := eqD_ok z
    exact ⟨d, f, dpX_of S rx h1, dpX_of S ry h2, h3, h4, by rw [← h5]; exact q.ret S (by simp only [rV, Rep])⟩
variable {a b : Expr} {ma mb : En → M DV}
theorem c_eqX (hk : X.K = c.g.K) (hu : X.A.units + 64 < cLine) (ha : PE X a (RB c ma)) (hb : PE X b (RB c mb)) : PE X (.Compare a [.Eq] [b] pos) (RE c (e2 vEqX ma mb)) := c_cmp (op_eqD hu) stays_B (prim_eqX hk.symm) ha hb (nomark _)
theorem c_neX (hk : X.K = c.g.K) (hu : X.A.units + 64 < cLine) (ha : PE X a (RB c ma)) (hb : PE X b (RB c mb)) : PE X (.Compare a [.NotEq] [b] pos) (RE c (e2 vNeX ma mb)) := c_cmp (op_neD hu) stays_B (prim_neX hk.symm) ha hb (nomark _)
theorem t_eqX (hk : X.K = c.g.K) (hu : X.A.units + 64 < cLine) (ha : PE X a (RB c ma)) (hb : PE X b (RB c mb)) : PT X (.Compare a [.Eq] [b] pos) (RT c (tb (e2 vEqX ma mb))) := t_cmp (op_eqD hu) stays_B (prim_eqX hk.symm) ha hb (nomark _)
theorem t_neX (hk : X.K = c.g.K) (hu : X.A.units + 64 < cLine) (ha : PE X a (RB c ma)) (hb : PE X b (RB c mb)) : PT X (.Compare a [.NotEq] [b] pos) (RT c (tb (e2 vNeX ma mb))) := t_cmp (op_neD hu) stays_B (prim_neX hk.symm) ha hb (nomark _)
end
@[simp] theorem sAppH_app (mo mv : En → M DV) (e : En) (h : HP) : sAppH' mo mv e h = uR (mo e h) e fun o e h => if lstAt h o then uR (mv e h) e fun d e h => hNx (appH h o d) e else .bad := rfl
@[simp] theorem ePop_app (mo : En → M DV) (e : En) (h : HP) : ePop mo e h = bR (mo e h) fun o h => popR (popH h o) := rfl
@[simp] theorem vEqX_app (x y : DV) (h : HP) : vEqX x y h = vEq (dr h x) (dr h y) h := rfl
@[simp] theorem vNeX_app (x y : DV) (h : HP) : vNeX x y h = vNe (dr h x) (dr h y) h := rfl
theorem dr_ref {h : HP} {p : Nat} {l : List DV} (e : h[p]? = some (.lst l)) : dr h (.ref p) = .lst l := by
  show (match h[p]? with
    | some (.lst l) => DV.lst l
    | _ => .ref p) = _
  rw [e]
@[simp] theorem dr_lst (h : HP) (l : List DV) : dr h (.lst l) = .lst l := rfl
@[simp] theorem dr_tup (h : HP) (l : List DV) : dr h (.tup l) = .tup l := rfl
theorem lstAt_ref {h : HP} {p : Nat} {l : List DV} (e : h[p]? = some (.lst l)) : lstAt h (.ref p) = true := by
  show (match h[p]? with
    | some (.lst _) => true
    | _ => false) = _
  rw [e]
theorem appH_ref {h : HP} {p : Nat} {l : List DV} (d : DV) (e : h[p]? = some (.lst l)) (hl : l.length < 16777216) : appH h (.ref p) d = some (h.set p (.lst (l ++ [d]))) := by
  show (match h[p]? with
    | some (.lst l) => if l.length < LN then some (h.set p (.lst (l ++ [d]))) else none
    | _ => none) = _
  rw [e]
  exact if_pos hl
theorem popH_ref {h : HP} {p : Nat} {l : List DV} {d : DV} (e : h[p]? = some (.lst (l ++ [d]))) : popH h (.ref p) = some (d, h.set p (.lst l)) := by
  show (match h[p]? with
    | some (.lst l) => (match l[l.length - 1]? with
      | some d => some (d, h.set p (.lst l.dropLast))
      | none => none)
    | _ => none) = _
  rw [e]
  simp
end LM

/-! max(a tuple, default=d); a list's index. -/
namespace LM
open PySem L2
/-! ### max(.., default=..) -/
def mxO : List Int → Int → Int
  | [], d => d
  | y :: ys, _ => ys.foldl max y
def rMx (K : PySem.W.Frag) : List V → List V → Hp → VK → Prop := fun xs zs H Q => ∃ (a : Addr) (ns : List Int) (d : Int), xs = [V.ref a] ∧ SqT K H a (ns.map V.int) ∧ zs = [V.int d] ∧ Q (.int (mxO ns d)) H
theorem reads_ints {h : Heap} : ∀ {ns : List Int} {us : List Value}, Vals (ns.map V.int) us → ReadsAll h us (ns.map PyData.int) []
  | [], _, .nil => .nil
  | _ :: _, _, .cons ⟨_, e⟩ r => by
    subst e
    exact ReadsAll.cons (as := []) (bs := []) (Reads.int _ _) (reads_ints r)
theorem cr_mx {X : Cx} (hc : X.calm = true) (hu : X.A.units + 64 < cLine) : CallRK X (.builtin "max") (["default"] : List Str) (rMx X.K) := by
  intro pins s σ H xs zs us ws Q I r r2 h
  obtain ⟨a, ns, d, rfl, hs, rfl, q⟩ := h
  obtain ⟨its, rv, hl, hz⟩ := I.tuple hs
  rw [Vals.ref1 r]
  obtain ⟨u, rfl, t, rfl⟩ := Vals.one r2
  have ra := reads_ints (h := s.heap) rv
  have dep : PyData.depthAll (ns.map PyData.int) = 0 := dep_ints ns
  refine PySem.W.max_tuple_default (as := []) (xs := ns.map PyData.int) (vs := its.toArray) (I.ok.hd hc) hl (by simpa using ra) ⟨fun x hx y hy => ?_, fun x hx => ?_⟩ (by rw [dep]; omega) (fun e h' tk k => ?_) fun y ys i v h' tk bs e hi rd k => ?_
  · obtain ⟨i, _, e1⟩ := List.mem_map.mp hx
    obtain ⟨j, _, e2⟩ := List.mem_map.mp hy
    subst e1 e2
    rfl
  · obtain ⟨i, _, e1⟩ := List.mem_map.mp hx
    subst e1
    intro z
    cases z
  · have e := List.map_eq_nil_iff.mp e
    subst e
    exact ⟨.int d, H, I.kept k, ⟨_, rfl⟩, q⟩
  · cases ns with
    | nil => cases e
    | cons n r =>
      rw [List.map_cons] at e
      obtain ⟨e1, e2⟩ := List.cons.inj e
      subst e1 e2
      rw [PySem.W.maxD_ints] at rd
      cases rd
      exact ⟨.int (mxO (n :: r) d), H, I.kept k, ⟨_, rfl⟩, q⟩
def vMaxD (x y : DV) : M DV := fun h => match x, y with
  | .tup l, .int d => (match asInts l with
    | some ns => .ok (.int (mxO ns d)) h
    | none => .bad)
  | _, _ => .bad
section
variable {X : Cx} {c : Cn} {pos p1 p2 p3 : Pos} {a b : Expr} {ma mb : En → M DV}
theorem c_maxD (hk : X.K = c.g.K) (hc : X.calm = true) (hu : X.A.units + 64 < cLine) (hg : Gl X "max") (hm : X.mg "max" = none) (ha : PE X a (RE c ma)) (hb : PE X b (RE c mb))
    (hea : starEach (a :: []) X.env = (false, eval a X.env) :: starEach [] X.env := by rfl)
    (he : backTo pos (starEach (a :: []) X.env) = (false, eval a X.env) :: backTo pos (starEach [] X.env) := by rfl) (hpl : (backTo pos (starEach (a :: []) X.env)).any (·.1) = false := by rfl)
    (hall : (backToKw pos (keywordEach [⟨some "default", b, p3⟩] X.env)).all (·.1.isSome) = true := by rfl) (hnone : (backToKw pos (keywordEach [⟨some "default", b, p3⟩] X.env)).any (·.1.isNone) = false := by rfl)
    (hks : (backToKw pos (keywordEach [⟨some "default", b, p3⟩] X.env)).filterMap (·.1) = (["default"] : List Str) := by rfl) :
    PE X (.Call (.Name "max" p1) [a] [⟨some "default", b, p3⟩] pos) (RE c (e2 vMaxD ma mb)) :=
  pe_imp (pe_callBK (cr_mx hc hu) hg hm (by decide +kernel) (pa_cons ha pa_nil hea) (pk_cons hb pk_nil) (by decide) (by decide) he hpl hall hnone hks) fun s H Q q =>
    RX.bind q fun W e W1 H1 x v h1 t S rx q2 => ⟨W1, e, h1, S, q2.bind fun W2 H2 y w h2 t2 S2 ry q3 => by
      have rx2 := stays_V.go S.hs t2 rx
      cases x with
      | tup l =>
        cases y with
        | int d =>
          have q4 : Post c (rV c H) e s W2 H2 (match asInts l with
            | some ns => .ok (.int (mxO ns d)) h2
            | none => .bad) Q := q3
          cases z : asInts l with
          | none =>
            rw [z] at q4
            exact q4.elim
          | some ns =>
            rw [z] at q4
            simp only [Rep] at rx2
            simp only [rV, Rep] at ry
            obtain ⟨p, vs, e1, sq, rs⟩ := rx2
            rw [asInts_map z] at rs
            have e2 := reps_ints_inv rs
            subst e1 e2 ry
            have q5 : Post c (rV c H) e s W2 H2 (.ok (DV.int (mxO ns d)) h2) Q := q4
            exact ⟨p, ns, d, rfl, by rw [hk]; exact sq, rfl, q5.ret S2 (by simp only [rV, Rep])⟩
        | _ => exact q3.elim
      | _ => exact q3.elim⟩
end
/-! ### l.index(x) -/
def idxI : List Int → Int → Option Nat
  | [], _ => none
  | x :: r, k => if x = k then some 0 else (idxI r k).map (· + 1)
theorem idxI_ok : ∀ {l : List Int} {k : Int} {j : Nat}, idxI l k = some j → l[j]? = some k ∧ ∀ m z, m < j → l[m]? = some z → z ≠ k
  | x :: r, k, j, h => by
    unfold idxI at h
    by_cases e : x = k
    · rw [if_pos e] at h
      cases h
      exact ⟨by rw [e]; rfl, fun m z hm => by omega⟩
    · rw [if_neg e] at h
      cases q : idxI r k with
      | none => rw [q] at h; cases h
      | some i =>
        rw [q] at h
        cases h
        obtain ⟨h1, h2⟩ := idxI_ok q
        refine ⟨by simpa using h1, fun m z hm hz => ?_⟩
        cases m with
        | zero =>
          have : x = z := by simpa using hz
          rw [← this]
          exact e
        | succ m => exact h2 m z (by have hm : m + 1 < i + 1 := hm; omega) (by simpa using hz)
  | [], _, _, h => by cases h
def vIndex (x y : DV) : M DV := fun h => match x, y with
  | .lst l, .int k => (match asInts l with
    | some ns => (match idxI ns k with
      | some j => .ok (.int (j : Int)) h
      | none => .bad)
    | none => .bad)
  | _, _ => .bad
section
variable {X : Cx} {c : Cn} {p2 p3 : Pos} {o ex : Expr} {mo mv : En → M DV}
def isLst : DV → Bool
  | .lst _ => true
  | _ => false
def eIndex (mo mv : En → M DV) : En → M DV := fun e => mo e >>= fun x h => if isLst x then (mv e >>= fun y => vIndex x y) h else .bad
theorem c_index (hk : X.K = c.g.K) (ho : PE X o (RE c mo)) (hv : PE X ex (RE c mv)) (hst : starEach (ex :: []) X.env = (false, eval ex X.env) :: starEach [] X.env := by rfl)
    (hbase : attributeBase o "index" X.env (eval o X.env) = eval o X.env := by rfl)
    (hfew : ((backTo p3 (starEach (ex :: []) X.env)).all (fun x => !x.1) && (backToKw p3 (keywordEach [] X.env)).all (fun x => x.1.isSome)
      && decide ((ex :: []).length + ([] : List Keyword).length + (if ([] : List Keyword).isEmpty then 0 else 1) < 30)) = true := by rfl)
    (hline : (p2.endLine == p3.line) = true := by rfl) :
    PE X (.Call (.Attribute o "index" p2) [ex] [] p3) (RE c (eIndex mo mv)) :=
  pe_imp (pe_bm PySem.F.plainAttrs_list PySem.F.slot_list_index PySem.F.type_list_index mt_index ho (pa_cons hv pa_nil hst) hbase hfew hline hst rfl) fun s H Q q => by
    refine RX.bind (k := fun e x h => if isLst x then (mv e >>= fun y => vIndex x y) h else .bad) q fun W e W1 H1 x v h1 t S rx q2 => ?_
    cases x with
    | lst l =>
      have q2 : Post c (rV c H) e s W1 H1 ((mv e >>= fun y => vIndex (.lst l) y) h1) Q := q2
      have rx0 : Rep c.g W1 H1 (.lst l) v := rx
      simp only [rV, Rep] at rx
      obtain ⟨a, vs, e1, f1, a1, rs⟩ := rx
      subst e1
      refine ⟨.inl ⟨rfl, _, .inl (.inl a1)⟩, W1, e, h1, S, q2.bind fun W2 H2 y w h2 t2 S2 ry q3 => ?_⟩
      have rx2 := stays_V.go S.hs t2 rx0
      cases y with
      | int k =>
        have q4 : Post c (rV c H) e s W2 H2 (match asInts l with
          | some ns => (match idxI ns k with
            | some j => .ok (.int (j : Int)) h2
            | none => .bad)
          | none => .bad) Q := q3
        cases z : asInts l with
        | none =>
          rw [z] at q4
          exact q4.elim
        | some ns =>
          rw [z] at q4
          simp only [] at q4
          cases z2 : idxI ns k with
          | none =>
            rw [z2] at q4
            exact q4.elim
          | some j =>
            rw [z2] at q4
            have q5 : Post c (rV c H) e s W2 H2 (.ok (DV.int (j : Int)) h2) Q := q4
            simp only [Rep] at rx2
            simp only [rV, Rep] at ry
            obtain ⟨p, vs2, e2, f2, a2, rs2⟩ := rx2
            cases e2
            rw [asInts_map z] at rs2
            have e3 := reps_ints_inv rs2
            subst e3 ry
            obtain ⟨i1, i2⟩ := idxI_ok z2
            refine ⟨a, ns.map V.int, .int k, j, .int k, rfl, rfl, by rw [hk]; exact .inl (.inl a2), rfl, ?_, by rw [List.getElem?_map, i1]; rfl, by simp [eqV], fun m z' hm hz => ?_, q5.ret S2 (by simp only [rV, Rep])⟩
            · rw [List.all_eq_true]
              intro y hy
              obtain ⟨i, _, e⟩ := List.mem_map.mp hy
              subst e
              rfl
            · rw [List.getElem?_map] at hz
              cases q : ns[m]? with
              | none => rw [q] at hz; cases hz
              | some z0 =>
                rw [q] at hz
                cases hz
                have := i2 m z0 hm q
                simp [eqV, this]
      | _ => exact q3.elim
    | _ => exact q2.elim
end
@[simp] theorem eIndex_app (mo mv : En → M DV) (e : En) (h : HP) : eIndex mo mv e h = bR (mo e h) fun x h => if isLst x then bR (mv e h) fun y h => vIndex x y h else .bad := rfl
theorem asInts_nums (l : List Int) : asInts (nums l) = some l := by
  induction l with
  | nil => rfl
  | cons x r ih =>
    show (match asInts (nums r) with
      | some l => some (x :: l)
      | none => none) = _
    rw [ih]
theorem vIndex_nums (l : List Int) (k : Int) (h : HP) : vIndex (.lst (nums l)) (.int k) h = match idxI l k with
    | some j => .ok (.int (j : Int)) h
    | none => .bad := by
  show (match asInts (nums l) with
    | some ns => _
    | none => _) = _
  rw [asInts_nums]
@[simp] theorem vMaxD_nums (l : List Int) (d : Int) (h : HP) : vMaxD (.tup (nums l)) (.int d) h = .ok (.int (mxO l d)) h := by
  show (match asInts (nums l) with
    | some ns => _
    | none => _) = _
  rw [asInts_nums]
end LM

/-! Constant tuples of texts. -/
namespace LM
open PySem L2
theorem isStrs_ok : ∀ {l : List Str} {vs : List Value}, isStrs l vs = true → Vals (l.map V.str) vs
  | [], [], _ => .nil
  | [], _ :: _, h => by cases h
  | i :: r, v :: s, h => by
    cases v with
    | str j t =>
      obtain ⟨a, b⟩ := He.ba (show (decide (i = j) && isStrs r s) = true from h)
      have e : i = j := of_decide_eq_true a
      subst e
      exact .cons ⟨t, rfl⟩ (isStrs_ok b)
    | _ => cases h
  | _ :: _, [], h => by cases h
theorem reps_strs {g : Glue} {W : Wd} {H : Hp} : ∀ l : List Str, Reps g W H (l.map DV.str) (l.map V.str)
  | [] => .nil
  | x :: r => .cons (by simp only [Rep]) (reps_strs r)
def CstOk (T : Tp) (x : Str) (l : List Str) : Prop := ∃ a, T.mg x = some (.ref a) ∧ ∀ W H, Rep T.g W H (.tup (l.map DV.str)) (.ref a)
theorem cst_of {T : Tp} {x : Str} {l : List Str} {a : Addr} (hm : T.mg x = some (.ref a)) (b : cstB a l T.g.K = true) : CstOk T x l := by
  refine ⟨a, hm, fun W H => ?_⟩
  unfold cstB at b
  cases q : T.g.K.lookup a with
  | none =>
    rw [q] at b
    cases b
  | some o =>
    obtain ⟨oc, od, dt, osl⟩ := o
    rw [q] at b
    cases oc with
    | type c =>
      cases dt with
      | seq its n =>
        obtain ⟨h2, h3⟩ := He.ba (show (decide (c = "tuple") && (Nat.ble its.size 1000 && isStrs l its.toList)) = true from b)
        obtain ⟨h4, h5⟩ := He.ba h3
        have ec : c = "tuple" := of_decide_eq_true h2
        have sz : its.size ≤ 1000 := Nat.le_of_ble_eq_true h4
        simp only [Rep]
        refine ⟨a, l.map V.str, rfl, .inr ⟨_, its, n, q, by rw [ec], rfl, ?_, isStrs_ok h5⟩, reps_strs l⟩
        rw [line_LN]
        show its.size ≤ 16777216
        omega
      | _ => cases b
    | _ => cases dt <;> cases b
theorem k_ctup {T : Tp} {X : Cx} {c : Cn} {N : List Str} {k : Nat} {sc : Scope} {x : Str} {pos : Pos} {l : List Str} (h : XEx T X c N k sc) (hg : Gl X x) (hm : CstOk T x l) (hd : (x == ("__debug__" : Str)) = false := by decide) : PE X (.Name x pos) (RE c (eC (.tup (l.map DV.str)))) := by
  obtain ⟨a, e, r⟩ := hm
  exact c_glob hg ⟨_, .ref a, by rw [h.pm]; exact e, rfl, fun W H => by rw [h.pg]; exact r W H⟩ hd
end LM

/-! A comprehension whose turn may raise. -/
namespace LMX
open PySem PySem.Spec PyProof.Rows L2

theorem note_eq {v : Value} {p q : PySem.Env} (h : p.frame = q.frame) : noteFrame v p = noteFrame v q := by
  unfold noteFrame PySem.frameOf
  rw [h]
section
variable {M : Model} {A : Around} {E : Value → Shared → Prop} {s : Shared} {Z : Obj → Prop} {B : Heap} {en : PySem.Env} {out : List PySem.Env} {L C e : Addr}
/-- told by another frame's number: this one is noted -/
theorem note_other {Q : Unit → Shared → Prop} (hZ : PXN.Steady1 Z) (hA : A.frames = some (en :: out)) (hf : en.frame = some L) (hC : C ≠ L) (x : HandSPX.HeldZ B (en :: out) e Z C s.heap)
    (hQ : ∀ g, HandSPX.HeldZ B (en :: out) e Z L g → s.heap.UpToSlots g → Q () { s with heap := g }) : wpAny M A (noteFrame (.ref e) en) Q E s := by
  obtain ⟨kb, ne, ff, ob, fs, T, oT, gs, a1, a2, a3, a4, a5, a6, a7, a8, a9⟩ := x
  unfold noteFrame
  simp only [hf]
  refine wpAny_bind (wpAny_field a1 a3 a4 ?_)
  rw [if_pos (by simp)]
  refine wpAny_bind (wpAny_field a7 a8 a9 ?_)
  have ni : (rawInt (C : Int) == rawInt (L : Int)) = false := by
    simp [rawInt]
    intro z
    exact hC (Int.ofNat_inj.mp z)
  rw [ni, if_neg (by decide)]
  refine wpAny_bind (wpAny_setField a7 a8 (Array.getElem?_eq_some_iff.mp a9).1 ?_)
  have oth : ∀ b, b ≠ T → (s.heap.update T (Obj.mapFields fun y => y.setIfInBounds 3 Value.none)).get? b = s.heap.get? b := fun b q => Heap.get?_update_other _ _ (Ne.symm q)
  have nT : ∀ b o, s.heap.get? b = some o → (∀ us, o.data ≠ .fields us) → b ≠ T := fun b o q1 q2 q3 => by
    rw [q3, a7] at q1
    exact q2 gs (by rw [← Option.some.inj q1]; exact a8)
  refine PXN.wpAny_entryZ (base := B) (outer := out) hZ hA (Heap.FunFrames.of_keeps (fun b o q1 q2 => ⟨o, by rw [oth b (nT b o q1 q2)]; exact q1, rfl⟩) ff) hf (by rw [oth e (Ne.symm a6)]; exact a1)
    (fun b o q => by
      rw [oth b fun z => by rw [z, a5] at q; cases q]
      exact kb b o q) ne a3 (Array.getElem?_eq_some_iff.mp a4).1 a2 fun g w => ?_
  obtain ⟨w1, w2, w3, w4⟩ := w
  exact hQ g ⟨w1, ne, w2, w3⟩ fun b o q1 q2 => w4 b o (by rw [oth b (nT b o q1 q2)]; exact q1) q2
theorem note_any {Q : Unit → Shared → Prop} (hZ : PXN.Steady1 Z) (hA : A.frames = some (en :: out)) (hf : en.frame = some L) (hC : C ≠ L) (x : Sky B (en :: out) e Z C s.heap)
    (hQ : ∀ g, HandSPX.HeldZ B (en :: out) e Z L g → s.heap.UpToSlots g → Q () { s with heap := g }) : wpAny M A (noteFrame (.ref e) en) Q E s := by
  rcases x with ⟨w1, w2, w3, ob, fs, w4, w5, w6, w7⟩ | x | x
  · exact PXN.look_newZ hZ hA w3 hf w4 w1 w2 w6 w7 w5 hQ
  · exact PXN.looks_onZ hZ hA hf x hQ
  · exact note_other hZ hA hf hC x hQ
end
/-- what is asked behind a comprehension's block -/
def cPost (M : Model) (A : Around) (E : Value → Shared → Prop) (Q : Value → Shared → Prop) (acc : Value) (ce : PySem.Env) (r : Result) (s : Shared) : Prop := match r with
  | .ok _ => ∃ m, s.heap.Ns ce.locals m ∧ ∀ g, Heap.SameBut ce.locals s.heap g → Q acc { s with heap := g }
  | .error x => ∃ m, s.heap.Ns ce.locals m ∧ ∀ g, Heap.SameBut ce.locals s.heap g → wpAny M A (passOn "comprehension.variables-let-go" x ce : Sem Value) (fun _ _ => False) E { s with heap := g }
section
variable {M : Model} {A : Around} {E : Value → Shared → Prop} {s : Shared} {env : PySem.Env}
theorem comp_x {e : Expr} {scope : Scope} {pos : Pos} {newAcc first : Sem Value} {g : Comprehension} {gs : List Comprehension} {cl : List (Str × Addr)} {Q : Value → Shared → Prop}
    (c1 : clausesOf e = g :: gs) (c2 : ∀ x, foldedSetIterable g.iter env x = pure x) (c3 : closureFor scope env = pure cl) (c4 : scope.kind = .function) (c5 : ∀ x ∈ scope.names, x.2 = .local → scope.names.lookup x.1 = some .local)
    (h : wpAny M A first (fun x t1 => wpAny M A (pyIter x) (fun it t2 => wpAny M A newAcc (fun acc t3 => wpAny M A (newFunctionEnv scope env.globals cl [] env.qual none .none (some env)) (fun ce t4 =>
      codeAny M A (.compStart e 0 it acc { ce with scope := relabel scope env }) (cPost M A E Q acc { ce with scope := relabel scope env }) t4) E t3) E t2) E t1) E s) :
    wpAny M A (comprehension e scope env pos newAcc false first none) Q E s := by
  have up : ∀ {α : Type} {t : Sem α} {R R' : α → Shared → Prop} {u : Shared}, wpAny M A t R E u → (∀ a v, R a v → R' a v) → wpAny M A t R' E u := fun k f => wpAny_mono k f fun _ _ z => z
  unfold comprehension
  rw [c3, c1]
  refine wpAny_bind (up h fun x t1 k1 => wpAny_bind (wpAny_standAt (wpAny_bind (wpAny_of_eq (c2 x) (wpAny_bind (wpAny_holding (up k1 fun it t2 k2 => wpAny_standIf (wpAny_bind (up k2 fun acc t3 k3 => wpAny_bind (wpAny_pure (wpAny_bind (up k3 fun ce t4 k4 => ?_))))))))))))
  dsimp only
  have hv : ∀ x ∈ (scope.names.filter fun y => (y.2 == .local || y.2 == .cell) && y.1 != (".0" : Str)).reverse, x.2 = .local → Env.kindOf { ce with scope := relabel scope env } x.1 = some .local :=
    fun x hx hl => lookup_relabel_local (c5 x (List.mem_filter.mp (List.mem_reverse.mp hx)).1 hl)
  refine wpAny_holding (wpAny_bind (wpAny_attempt (wpAny_holding (wpAny_run (codeAny_mono k4 fun r t5 hr => ?_)))))
  cases r with
  | ok f =>
    obtain ⟨m, hn, hr⟩ := hr
    exact wpAny_bind (wpAny_holding (wpAny_comp_letGo (cenv := { ce with scope := relabel scope env }) c4 _ t5 m hv hn fun g _ _ sb => wpAny_pure (hr g sb)))
  | error x =>
    obtain ⟨m, hn, hr⟩ := hr
    exact wpAny_bind (wpAny_holding (wpAny_comp_letGo (cenv := { ce with scope := relabel scope env }) c4 _ t5 m hv hn fun g _ _ sb => wpAny_mono (hr g sb) (fun _ _ f => f.elim) fun _ _ y => y))
end
/-- the block's context, with what becomes of its exceptions -/
abbrev blkX (X : Cx) (s : Shared) (H : Hp) (scope : Scope) (ce : PySem.Env) (fp : List Addr) (xe : Value → Shared → Prop) : Cx := (X.blk s H scope ce fp).tr [] xe
def atS (W : WX) (σ : L2.St) : WX := fun cls d _ H => W cls d σ H
section
variable {X : Cx}
/-- what the block lets out is in the def's air -/
theorem blk_out {pins : List (Addr × Obj)} {s : Shared} {σ : L2.St} {H : Hp} {scope : Scope} {ce : PySem.Env} {fp : List Addr} {xe : Value → Shared → Prop} {W : WX} {acc : Value} {Qf : Value → Shared → Prop} (hst : X.stack = X.env :: X.outer) (hfr : X.env.frame = some X.env.locals) (tk : L2N.Takes X W)
    (I : Inv X pins σ H s) (eL : ce.locals = s.heap.objs.size) (eF : ce.frame = X.env.frame) (hfp : ∀ b ∈ fp, FpOk X pins H b ∧ b < s.heap.objs.size) {u : Value} {t : Shared} (x : L2N.XE (blkX X s H scope ce fp xe) (atS W σ) u t) :
    notedBy (model X.prog X.w) X.A ce (fun v t' => cPost (model X.prog X.w) X.A X.xe Qf acc ce (.error v) t') u t := by
  obtain ⟨a, B, r, qs, σ', H', cls, d, rfl, J, nb, up, sky, na, os, ag, w⟩ := x
  have hA : X.A.frames = some (X.env :: X.outer) := by rw [I.ok.frames, hst]
  have hC : ce.locals ≠ X.env.locals := by
    rw [eL]
    exact (I.fpOk (H' := H') (Nat.le_refl _) (by
      have z : H' ce.locals = none := J.free
      rwa [eL] at z)).2.1
  show wpAny (model X.prog X.w) X.A (noteFrame (.ref a) ce) _ _ t
  rw [note_eq eF]
  have sky1 : Sky B (X.env :: X.outer) a (L2N.Zn cls d) ce.locals t.heap := by
    rw [← hst]
    exact sky
  refine note_any L2N.Zn.steady hA hfr hC sky1 fun h1 hh up1 => ?_
  have J1 : Inv (blkX X s H scope ce fp xe) qs σ' H' { t with heap := h1 } := J.landed nb hh.1 (up.trans up1) os ag
  obtain ⟨m, hn, _⟩ := J1.loc
  have hn : h1.Ns ce.locals m := hn
  refine ⟨m, hn, fun h2 sb => ?_⟩
  -- the def's state without the block
  have J2 : Inv X pins σ H' r := I.call' (ch := fp) J.os J.base J.hok J.bare fun b hb => ⟨(hfp b hb).1.2.2.2.1, (hfp b hb).1.2.1, (hfp b hb).1.2.2.2.2.1, (hfp b hb).1.2.2.2.2.2⟩
  have fC : FpOk X pins H' ce.locals := by
    rw [eL]
    exact I.fpOk (Nat.le_refl _) (by
      have z : H' ce.locals = none := J.free
      rwa [eL] at z)
  obtain ⟨f0, f1, f2, f3, f4, f5⟩ := fC
  have notC : ∀ {h : Heap} {b : Addr} {o : Obj}, (PySem.W.hideAll h [ce.locals]).get? b = some o → h.get? b = some o ∧ b ≠ ce.locals := fun {h b o} e => ⟨PySem.W.of_hideAll _ e, fun z => by
    rw [z, PySem.W.hideAll_none [ce.locals] List.mem_cons_self] at e
    cases e⟩
  have J3 : Inv X pins σ H' { r with heap := PySem.W.hideAll r.heap [ce.locals], toks := r.toks } := J2.turned (t' := r.toks) (fun b o hb e => PySem.W.hideAll_get _ e (by simpa using hb)) f0 f1 f3 f4 f5
  obtain ⟨k1, k2, k3, oe, vs, T, oT, ts, g1, g2, g3, g4, g5, g6, g7, g8, g9⟩ := hh
  obtain ⟨oC, es, ep, c1, c2, _⟩ := id hn
  have aC : a ≠ ce.locals := fun z => by
    rw [← z, g1] at c1
    rw [← Option.some.inj c1, g3] at c2
    cases c2
  have tC : T ≠ ce.locals := fun z => by
    rw [← z, g7] at c1
    rw [← Option.some.inj c1, g8] at c2
    cases c2
  have hid : ∀ {b}, B.get? b = none → (PySem.W.hideAll B [ce.locals]).get? b = none := fun {b} e => by
    cases q : (PySem.W.hideAll B [ce.locals]).get? b with
    | none => rfl
    | some o =>
      rw [(notC q).1] at e
      cases e
  have frC : ∀ b ∈ frs (X.env :: X.outer), b ≠ ce.locals := fun b hb z => by
    rcases List.mem_filterMap.mp hb with ⟨e, he, q⟩
    rcases List.mem_cons.mp he with e1 | e1
    · rw [e1, hfr] at q
      exact f1 (by rw [← z]; exact (Option.some.inj q).symm)
    · exact f2 (by rw [← z]; exact List.mem_filterMap.mpr ⟨e, e1, q⟩)
  have st2 : (PySem.W.hideAll B [ce.locals]).StaysIn h2 := fun b o e => by
    obtain ⟨e1, e2⟩ := notC e
    rw [sb.2 b e2]
    exact k1 b o e1
  have nonf : ∀ b o, h1.get? b = some o → b ∈ frs (X.env :: X.outer) → h2.get? b = some o := fun b o e hb => by
    rw [sb.2 b (frC b hb)]
    exact e
  have ff2 : h2.FunFrames (PySem.W.hideAll B [ce.locals]) (X.env :: X.outer) := by
    have go : ∀ {l : List PySem.Env}, (∀ b ∈ frs l, b ≠ ce.locals) → h1.FunFrames B l → h2.FunFrames (PySem.W.hideAll B [ce.locals]) l := by
      intro l
      induction l with
      | nil => exact fun _ _ => trivial
      | cons e l ih =>
        rintro hb ⟨p1, ⟨L, o, p2, p3, p4, p5⟩, p6⟩
        have nL : L ≠ ce.locals := hb L (List.mem_filterMap.mpr ⟨e, List.mem_cons_self, p2⟩)
        exact ⟨p1, ⟨L, o, p2, hid p3, by rw [sb.2 L nL]; exact p4, p5⟩, ih (fun b hm => by
          obtain ⟨e2, h2, q⟩ := List.mem_filterMap.mp hm
          exact hb b (List.mem_filterMap.mpr ⟨e2, List.mem_cons_of_mem _ h2, q⟩)) p6⟩
    exact go frC k3
  have tr2 : HandSPX.TracedZ h2 (PySem.W.hideAll B [ce.locals]) a (L2N.Zn cls d) (rawInt X.env.locals) := ⟨oe, vs, T, oT, ts, by rw [sb.2 a aC]; exact g1, g2, g3, g4, hid g5, g6, by rw [sb.2 T tC]; exact g7, g8, g9⟩
  show wpAny (model X.prog X.w) X.A (passOn "comprehension.variables-let-go" (.ref a) ce : Sem Value) _ _ _
  unfold PySem.passOn
  refine wpAny_bind (wpAny_field (show ({ t with heap := h2 } : Shared).heap.get? a = some oe from by rw [← g1]; exact sb.2 a aC) g3 g4 ?_)
  rw [if_neg (show ¬ ((Value.ref T == Value.none) = true) from by simp)]
  have fin : wpAny (model X.prog X.w) X.A (setFlight (.ref a) ce.frame) (fun _ t4 => wpAny (model X.prog X.w) X.A (throw (.ref a) : Sem Value) (fun _ _ => False) X.xe t4) X.xe { t with heap := h2 } := by
    rw [eF, hfr]
    refine HandSPX.setFlight_anyZ (base := PySem.W.hideAll B [ce.locals]) (l := X.env :: X.outer) st2 ff2 tr2 fun h3 q1 q2 q3 q4 => wpAny_throw (tk _ _ ?_)
    refine ⟨a, PySem.W.hideAll B [ce.locals], _, pins, σ, H', cls, d, rfl, J3, fun b o e hb => ?_, fun b o e hf => ?_, .inr (.inr ?_), na, os, ag, w⟩
    · obtain ⟨e1, e2⟩ := notC e
      exact PySem.W.hideAll_get _ (nb b o e1 hb) (by simpa using e2)
    · obtain ⟨e1, e2⟩ := notC e
      obtain ⟨s1, e3⟩ := up.trans up1 b o e1 hf
      obtain ⟨s2, e4⟩ := q4 b { o with slots := s1 } (by rw [← e3]; exact sb.2 b e2) hf
      exact ⟨s2, e4⟩
    · rw [hst]
      exact ⟨q1, hid k2, q2, q3⟩
  first
    | exact wpAny_bind (wpAny_pure (wpAny_bind fin))
    | exact wpAny_bind fin
theorem lc_x {W0 : WX} {elt tg iter : Expr} {ifs : List Expr} {scope : Scope} {own : List (Str × Nat)} {pos : Pos} {wi : TI} {g : WX → TG} {tt : WX → TT} {te : WX → TE} (hst : X.stack = X.env :: X.outer) (hfr : X.env.frame = some X.env.locals) (tk : L2N.Takes X W0) (hc : X.calm = true) (hN : X.N.Nodup) (hi : PI X tg iter wi) (ok : BlkOk X.N X.env.scope scope own)
    (hb : ∀ (W : WX) (s : Shared) (H : Hp) (C : Addr) (cl : List (Str × Addr)) (fp : List Addr) (xe : Value → Shared → Prop), L2N.Takes (blkX X s H scope (compEnvC scope cl C X.env) fp xe) W →
      PG (blkX X s H scope (compEnvC scope cl C X.env) fp xe) tg (g W) ∧ PTs (blkX X s H scope (compEnvC scope cl C X.env) fp xe) ifs (tt W) ∧ PE (blkX X s H scope (compEnvC scope cl C X.env) fp xe) elt (te W)) (hs : ∀ x, foldedSetIterable iter X.env x = pure x := by intro _; rfl) :
    PE X (.ListComp elt [⟨tg, iter, ifs, 0⟩] scope pos) (fun σ H Q => tLc wi (g (atS W0 σ)) (tt (atS W0 σ)) (te (atS W0 σ)) (own.map (·.2)) σ H Q) := by
  refine ⟨fun pins s σ H Q I h => ?_⟩
  rw [eval_ListComp]
  have fr : ∀ y ∈ scope.names, y.2 = .free → ∃ c, X.env.cells.lookup y.1 = some c := fun y hy e => I.ok.has _ (ok.free y hy e)
  refine comp_x rfl hs (closure_ok fr) ok.kind (fun y hy e => by rw [ok.uniq y hy, e]) (thn (hi.run pins s σ H _ I h) fun xv s1 hx => thn hx fun itv s2 h2 => ?_)
  obtain ⟨it, fp, tn, J, G2, e, J2, T, st2, f2, q⟩ := h2
  subst e
  refine wpAny_newObj_type (newEnv_comp ?_) (by show 0 ≤ sizeLine; decide)
  generalize hD : s2.heap.objs.size = D
  have nD : G2 D = none := J2.hok.fresh (Nat.le_of_eq hD)
  obtain ⟨V, ⟨m0, v0⟩, turn⟩ := q D nD
  generalize hs3 : ({ s2 with heap := s2.heap.push { cls := .type "list", data := .seq ([] : List Value).toArray } } : Shared) = z3
  have J3 : Inv X pins σ (upd G2 D (.lst [])) z3 := by
    rw [← hs3]
    refine J2.laid (t' := s2.toks) (fun b o e => Heap.get?_push_of_some _ e) (Nat.le_of_eq hD) ⟨Nat.zero_le _, [], 0, .nil, ?_⟩
    rw [← hD]
    exact Heap.get?_push_size _ rfl
  have p3 : z3.heap = s2.heap.push { cls := .type "list", data := .seq ([] : List Value).toArray } := by rw [← hs3]
  have f3 : ∀ b ∈ fp, FpOk X pins (upd G2 D (.lst [])) b ∧ b < z3.heap.objs.size := fun b hm => by
    obtain ⟨o, e, _⟩ := T.obj _ _ st2 b hm
    have lt := Heap.lt_size e
    refine ⟨⟨?_, (f2 b hm).2⟩, by rw [p3, Heap.size_push]; exact Nat.lt_succ_of_lt lt⟩
    rw [upd_ne (by rw [← hD]; exact Nat.ne_of_lt lt)]
    exact (f2 b hm).1
  have st3 : tn 0 z3.heap := T.keep _ _ _ st2 fun b _ o e => by rw [p3]; exact Heap.get?_push_of_some _ e
  have J4 := block_start J3 ok hN f3
  have nfp : ∀ b ∈ fp, (upd G2 D (.lst [])) b = none := fun b hm => (f3 b hm).1.1
  generalize hce : compEnvC scope (cellsFrom (z3.heap.objs.size + 1) scope.names (cloFrom X.env.cells scope.names [])) z3.heap.objs.size X.env = ce at J4
  have eL : ce.locals = z3.heap.objs.size := by subst hce; rfl
  have eF : ce.frame = X.env.frame := by subst hce; rfl
  show codeAny _ _ (.compStart (.ListComp elt [⟨tg, iter, ifs, 0⟩] scope pos) 0 (.ref it) (.ref D) (compEnvC scope (cellsFrom (z3.heap.objs.size + 1) scope.names (cloFrom X.env.cells scope.names [])) z3.heap.objs.size X.env))
    (cPost (model X.prog X.w) X.A X.xe (EP X pins σ Q) (.ref D) (compEnvC scope (cellsFrom (z3.heap.objs.size + 1) scope.names (cloFrom X.env.cells scope.names [])) z3.heap.objs.size X.env)) { z3 with heap := pushCells (z3.heap.push { cls := .type "dict", data := .dict #[] }) scope.names }
  generalize hH3 : upd G2 D (.lst []) = H3 at J3 J4 v0 nfp f3
  generalize hxe : notedBy (model X.prog X.w) X.A ce (fun v t' => cPost (model X.prog X.w) X.A X.xe (EP X pins σ Q) (.ref D) ce (.error v) t') = xe
  have tb : L2N.Takes (blkX X z3 H3 scope ce fp xe) (atS W0 σ) := fun u t x => by
    show xe u t
    rw [← hxe]
    exact blk_out hst hfr tk J3 eL eF f3 x
  have pb := hb (atS W0 σ) z3 H3 z3.heap.objs.size (cellsFrom (z3.heap.objs.size + 1) scope.names (cloFrom X.env.cells scope.names [])) fp xe (by rw [hce]; exact tb)
  rw [hce] at pb ⊢
  obtain ⟨pg, pt, pe⟩ := pb
  generalize hs4 : ({ z3 with heap := pushCells (z3.heap.push { cls := .type "dict", data := .dict #[] }) scope.names } : Shared) = z4 at J4 ⊢
  have J4 : Inv (blkX X z3 H3 scope ce fp xe) [] (wipe σ (own.map (·.2))) H3 z4 := J4.toTry xe
  have st4 : tn 0 z4.heap := T.keep _ _ _ st3 fun b _ o e => by rw [← hs4]; exact pushCells_keeps _ _ _ _ (Heap.get?_push_of_some _ e)
  have stat : ∀ {σ' : L2.St} {H' : Hp} {t : Shared}, Inv (blkX X z3 H3 scope ce fp xe) [] σ' H' t → (∀ b ∈ fp, H' b = none) → ∀ b ∈ fp, FpOk (blkX X z3 H3 scope ce fp xe) [] H' b := fun {σ' H' t} I' hn b hm =>
    ⟨hn b hm, (I'.ok.exf b hm).1, I'.ok.exfs b hm, .inl hm, fun x c e => (I'.ok.exf b hm).2 x c e, fun p hp => absurd (show p ∈ ([] : List (Addr × Obj)) ++ [] from hp) (by simp)⟩
  have whole : codeAny (model X.prog X.w) X.A (.compLoop (.ListComp elt [⟨tg, iter, ifs, 0⟩] scope pos) 0 (.ref it) (.ref D) ce) (cPost (model X.prog X.w) X.A X.xe (EP X pins σ Q) (.ref D) ce) z4 := by
    refine compLoop_any (fun n t => ∃ i H', Inv (blkX X z3 H3 scope ce fp xe) [] (wipe σ (own.map (·.2))) H' t ∧ tn i t.heap ∧ (∀ b ∈ fp, H' b = none) ∧ V i n H') ?_ m0 ⟨0, H3, J4, st4, nfp, v0⟩
    rintro n z5 ⟨i, H5, I5, st5, n5, v5⟩
    rw [hxe]
    rcases turn i n H5 v5 with ⟨stop, qq⟩ | ⟨go, Nx, hNxt, step⟩
    · have tDone := T.done (blkX X z3 H3 scope ce fp xe) rfl rfl rfl hc i [] z5 _ H5 (fun _ _ => False) I5 (stat I5 n5) st5 stop
      refine thnF tDone fun r z6 ⟨hr, I6⟩ => ?_
      subst hr
      have I7 : Inv X pins σ H5 z6 := J3.call' (ch := fp) I6.os I6.base I6.hok I6.bare fun b hm => ⟨(f3 b hm).1.2.2.2.1, (f3 b hm).1.2.1, (f3 b hm).1.2.2.2.2.1, (f3 b hm).1.2.2.2.2.2⟩
      have nC : H5 ce.locals = none := I6.free
      obtain ⟨m, hn, _⟩ := I6.loc
      have hn : z6.heap.Ns ce.locals m := hn
      refine ⟨m, hn, fun g sb => ?_⟩
      have fC : FpOk X pins H5 ce.locals := by
        rw [eL] at nC ⊢
        exact J3.fpOk (Nat.le_refl _) nC
      obtain ⟨f0, f1, _, g3, g4, g5⟩ := fC
      exact ⟨.ref D, H5, I7.turned (t' := z6.toks) (fun b o hne e => (sb.2 b hne).trans e) f0 f1 g3 g4 g5, rfl, qq⟩
    · have ti := T.item (blkX X z3 H3 scope ce fp xe) rfl rfl rfl hc i [] z5 _ H5 (fun _ _ => False) I5 (stat I5 n5) st5 go
      refine thnF ti fun r z6 ⟨u, hr, k6⟩ => ?_
      subst hr
      refine thnF k6 fun _ z7 ⟨x, G7, I7, r7, y7, st7, n7⟩ => ?_
      have J7' := I7.pinned (stat I7 n7) (T.obj _ _ st7)
      refine thn (pg.run _ z7 _ G7 x u _ J7' r7 (step x G7 y7)) fun _ z8 ⟨σ8, G8, J8, hw8, q8⟩ => ?_
      refine thn (pt.run _ z8 σ8 G8 _ J8 q8) fun b z9 ⟨G9, J9, q9⟩ => ?_
      have fin : ∀ {t : Shared} {H' : Hp}, Inv (blkX X z3 H3 scope ce fp xe) ([] ++ pinsAt fp z7.heap) σ8 H' t → Nx H' → ∃ m, m < n ∧ ∃ i H', Inv (blkX X z3 H3 scope ce fp xe) [] (wipe σ (own.map (·.2))) H' t ∧ tn i t.heap ∧ (∀ b ∈ fp, H' b = none) ∧ V i m H' := fun {t H'} I' nx => by
        obtain ⟨m', hm, v'⟩ := hNxt H' nx
        have pinK : ∀ b ∈ fp, ∀ o, z7.heap.get? b = some o → t.heap.get? b = some o ∧ H' b = none := fun b hb o e =>
          let z := I'.pin (b, o) (List.mem_append_right _ (List.mem_append_right _ (mem_pinsAt hb e)))
          ⟨z.1, z.2.1⟩
        have hlen : (wipe σ (own.map (·.2))).length = σ8.length := by rw [← hw8, wipe_length]
        refine ⟨m', hm, i + 1, H', (I'.unpinned (pins := [])).weak hlen (fun j v e => ?_), T.keep _ _ _ st7 fun b hb o e => (pinK b hb o e).1, fun b hb => ?_, v'⟩
        · rw [← hw8] at e
          exact (wipe_some e).1
        · obtain ⟨o, e, _⟩ := T.obj _ _ st7 b hb
          exact (pinK b hb o e).2
      cases b with
      | false =>
        simp only [Bool.false_eq_true, if_false] at q9 ⊢
        exact fin J9 q9
      | true =>
        simp only [if_true] at q9 ⊢
        refine thn (pe.run _ z9 σ8 G9 _ J9 q9) fun z z10 ⟨yv, G10, J10, r10, acc, hD10, hz10, nx⟩ => ?_
        exact app_ok (X := blkX X z3 H3 scope ce fp xe) J10 hD10 hz10 r10 fun z11 J11 => fin J11 nx
  exact codeAny_compStart_list whole (T.self X.A 0 _ _ _ st4 whole)
end
end LMX

/-! [e for x in xs if t], a turn may raise. -/
namespace LM
open PySem L2
def mLcX (vs : List Nat) (mi : En → M (List DV)) (t : DV → En → Option En) (mt : En → M Bool) (me : En → M DV) : En → M (List DV) := fun e => mi e >>= fun ds => if ds.length ≤ LN then lcL t mt me (wipeE e vs) ds else M.bad
def plx (c : Cn) (e : En) (s : L2.St) (W1 : Wd) (H1 H : Hp) (Q : VK) (acc : List DV) : Res (List DV) → Prop
  | .ok r h' => Post c (rO c H) e s W1 H1 (Res.ok (acc ++ r) h') Q
  | .exc x h' => Post c (rO c H) e s W1 H1 (Res.exc x h') Q
  | .bad => False
section
variable {X : Cx} {c : Cn} {pos : Pos}
theorem lc_useX {mi : En → M (List DV)} {t : DV → En → Option En} {mt : En → M Bool} {me : En → M DV} {vs sl : List Nat} (hsl : ∀ k ∈ sl, k ∈ vs) {s : L2.St} {H : Hp} {Q : VK} (q : RO c (mLcX vs mi t mt me) s H Q) :
    tLc (RI c mi) (RG (c.wx (LMX.atS c.x s)) t sl) (RT (c.wx (LMX.atS c.x s)) mt) (RE (c.wx (LMX.atS c.x s)) me) vs s H Q := by
  obtain ⟨W, e, h0, S0, q⟩ := q
  refine ⟨W, e, h0, S0, bind_at q fun W1 H1 ds J h1 z t1 S1 wk q2 D hD => ?_⟩
  by_cases hz : ds.length ≤ LN
  rotate_left
  · rw [if_neg hz] at q2
    exact q2.elim
  rw [if_pos hz] at q2
  -- what the rest of the walk gives
  let PL : HP → Nat → List DV → Prop := fun hc i acc => plx c e s W1 H1 H Q acc (lcL t mt me (wipeE e vs) (ds.drop i) hc)
  let In : Nat → Nat → Hp → Prop := fun i m Hc => m = ds.length - i ∧ i ≤ ds.length ∧ ∃ Wc hc acc av, Step W1 H1 Wc Hc ∧ HSim c.g Wc hc Hc ∧ Hc D = some (.lst av) ∧ Reps c.g Wc Hc acc av ∧ acc.length ≤ i ∧ ¬ Wc.F D ∧ D ∉ Wc.r ∧ PL hc i acc
  refine ⟨In, ⟨ds.length, rfl, Nat.zero_le _, W1, h1, [], [], ?_, ?_, upd_same, .nil, Nat.le_refl _, not_F S1.hs hD, not_r S1.hs hD, ?_⟩, ?_⟩
  · exact Step.new hD
  · exact S1.hs.new hD ((Step.new hD).per S1.hs)
  · show plx c e s W1 H1 H Q ([]) (lcL t mt me (wipeE e vs) (ds.drop 0) h1)
    rw [List.drop_zero]
    have q3 : Post c (rO c H) e s W1 H1 (lcL t mt me (wipeE e vs) ds h1) Q := q2
    cases z2 : lcL t mt me (wipeE e vs) ds h1 with
    | ok r h' =>
      rw [z2] at q3
      exact q3
    | exc x h' =>
      rw [z2] at q3
      exact q3
    | bad =>
      rw [z2] at q3
      exact q3
  · rintro i m Hc ⟨em, hi, Wc, hc, acc, av, tc, sc, eD, ra, la, nF, nR, pl⟩
    have pc : Per W1 H1 Wc Hc := tc.per S1.hs
    by_cases hlt : i < ds.length
    rotate_left
    · have ei : i = ds.length := by omega
      subst ei
      left
      refine ⟨wk.st Wc Hc pc, ?_⟩
      have pl2 : plx c e s W1 H1 H Q (acc) (lcL t mt me (wipeE e vs) (ds.drop ds.length) hc) := pl
      rw [List.drop_length] at pl2
      have pl3 : Post c (rO c H) e s W1 H1 (Res.ok (acc ++ []) hc) Q := pl2
      rw [List.append_nil] at pl3
      exact pl3 Wc Hc (.ref D) tc (S1.step tc sc) ⟨D, av, rfl, eD, ra, nF, nR, t1.th D hD⟩
    · right
      obtain ⟨d, ed⟩ : ∃ d, ds[i]? = some d := ⟨_, List.getElem?_eq_getElem hlt⟩
      obtain ⟨g1, g2⟩ := wk.go Wc Hc pc i d ed
      refine ⟨g1, fun H' => In (i + 1) (ds.length - (i + 1)) H', fun H' z => ⟨_, by omega, z⟩, fun x H' y => ?_⟩
      -- the item, in the heap in which it comes
      have item : Step Wc Hc Wc H' ∧ HSim c.g Wc hc H' ∧ Rep c.g Wc H' d x ∧ H' D = some (.lst av) := by
        rcases g2 x H' y with ⟨e1, r⟩ | ⟨T, us, l, e1, e2, hT, e3, r⟩
        · subst e1
          exact ⟨Step.refl _ _, sc, r, eD⟩
        · subst e1 e2 e3
          have tn : Step Wc Hc Wc (upd Hc T (.tup us)) := Step.new hT
          have pn := tn.per sc
          refine ⟨tn, sc.new hT pn, ?_, ?_⟩
          · simp only [Rep]
            exact ⟨T, us, rfl, .inl (.inl upd_same), r.per pn _ _⟩
          · rw [upd_ne (ne_of_none eD hT)]
            exact eD
      obtain ⟨t2, s2, rd, eD2⟩ := item
      have S2 : Sim c Wc e hc s H' := S1.step (tc.trans t2) s2
      have pl2 : plx c e s W1 H1 H Q (acc) (lcL t mt me (wipeE e vs) (ds.drop i) hc) := pl
      have ed2 : ds.drop i = d :: ds.drop (i + 1) := by
        rw [List.drop_eq_getElem_cons hlt]
        congr 1
        rw [List.getElem?_eq_getElem hlt] at ed
        exact Option.some.inj ed
      rw [ed2] at pl2
      refine ⟨Wc, wipeE e vs, hc, d, (S2.wipe vs).wx, rd, ?_⟩
      cases zt : t d (wipeE e vs) with
      | none =>
        unfold lcL at pl2
        rw [zt] at pl2
        exact pl2.elim
      | some e1 =>
        unfold lcL at pl2
        rw [zt] at pl2
        intro s' S3 hl hf
        refine ⟨wipe_same hl hf hsl, Wc, e1, hc, S3, ?_⟩
        have pl3 : plx c e s W1 H1 H Q (acc) (((mt e1 >>= fun b => if b then me e1 >>= fun x => lcL t mt me (wipeE e vs) (ds.drop (i + 1)) >>= fun r => pure (x :: r) else lcL t mt me (wipeE e vs) (ds.drop (i + 1))) hc)) := pl2
        rw [M.bind_def] at pl3
        cases zm : mt e1 hc with
        | bad =>
          rw [zm] at pl3
          exact pl3.elim
        | exc x h' =>
          rw [zm] at pl3
          exact fun W' H9 cls dd t S' r => pl3 W' H9 cls dd ((tc.trans t2).trans t) (S1.step ((tc.trans t2).trans t) S'.hs) r
        | ok b h3 =>
          rw [zm] at pl3
          intro W3 H3 b' t3 S4 eb
          have eb : b' = b := eb
          subst eb
          have eD3 : H3 D = some (.lst av) := t3.k D _ eD2 nR
          have nF3 := notF t3 eD2 nF (fun fs w => by cases w)
          have nR3 := notR t3 eD2 nR
          have t13 : Step W1 H1 W3 H3 := (tc.trans t2).trans t3
          have ra3 : Reps c.g W3 H3 acc av := (ra.per (t2.per sc) _ _).per (t3.per s2) _ _
          cases b' with
          | false =>
            refine iteF ⟨rfl, by omega, W3, h3, acc, av, t13, S4.hs, eD3, ra3, by omega, nF3, nR3, ?_⟩
            exact pl3
          | true =>
            refine iteT ⟨W3, e1, h3, S4, ?_⟩
            have pl4 : plx c e s W1 H1 H Q (acc) (((me e1 >>= fun x => lcL t mt me (wipeE e vs) (ds.drop (i + 1)) >>= fun r => pure (x :: r)) h3)) := pl3
            rw [M.bind_def] at pl4
            cases ze : me e1 h3 with
            | bad =>
              rw [ze] at pl4
              exact pl4.elim
            | exc x h' =>
              rw [ze] at pl4
              exact fun W' H9 cls dd t S' r => pl4 W' H9 cls dd (t13.trans t) (S1.step (t13.trans t) S'.hs) r
            | ok dx h4 =>
              rw [ze] at pl4
              intro W4 H4 yv t4 S5 ry
              have eD4 : H4 D = some (.lst av) := t4.k D _ eD3 nR3
              have nF4 := notF t4 eD3 nF3 (fun fs w => by cases w)
              have nR4 := notR t4 eD3 nR3
              have ra4 : Reps c.g W4 H4 acc av := ra3.per (t4.per S4.hs) _ _
              obtain ⟨p5, s5⟩ := own_chg (o' := .lst (av ++ [yv])) S5.hs eD4 nF4 nR4 (fun _ z => by cases z) (fun _ _ z => by cases z)
              refine ⟨av, eD4, ?_, rfl, by omega, W4, h4, acc ++ [dx], av ++ [yv], (t13.trans t4).chg hD, s5, upd_same, (ra4.per p5 _ _).app (.cons (Rep.per p5 _ _ ry) .nil), ?_, nF4, nR4, ?_⟩
              · rw [← ra.len, line_LN]
                show acc.length < LN
                omega
              · rw [List.length_append]
                show acc.length + 1 ≤ i + 1
                omega
              · have pl5 : plx c e s W1 H1 H Q (acc) (((lcL t mt me (wipeE e vs) (ds.drop (i + 1)) >>= fun r => pure (dx :: r)) h4)) := pl4
                rw [M.bind_def] at pl5
                show plx c e s W1 H1 H Q ((acc ++ [dx])) (lcL t mt me (wipeE e vs) (ds.drop (i + 1)) h4)
                cases zr : lcL t mt me (wipeE e vs) (ds.drop (i + 1)) h4 with
                | bad =>
                  rw [zr] at pl5
                  exact pl5
                | exc x h' =>
                  rw [zr] at pl5
                  exact pl5
                | ok r h5 =>
                  rw [zr] at pl5
                  have pl6 : Post c (rO c H) e s W1 H1 (Res.ok (acc ++ (dx :: r)) h5) Q := pl5
                  show Post c (rO c H) e s W1 H1 (Res.ok ((acc ++ [dx]) ++ r) h5) Q
                  rw [List.append_assoc]
                  exact pl6
end
section
variable {T : Tp} {X : Cx} {c : Cn} {N : List Str} {k : Nat} {sc : Scope} {pos : Pos} {tg elt iter : Expr} {ifs : List Expr} {scope : Scope} {mi : En → M (List DV)} {t : DV → En → Option En} {mt : En → M Bool} {me : En → M DV} {sl : List Nat}
theorem XSt.blkX (h : XSt T X c N k sc) (W : WX) (s : Shared) (H : Hp) (bs : Scope) (C : Addr) (cl : List (Str × Addr)) (fp : List Addr) (xe : Value → Shared → Prop) (tk : L2N.Takes (LMX.blkX X s H bs (compEnvC bs cl C X.env) fp xe) W) :
    XBl T (LMX.blkX X s H bs (compEnvC bs cl C X.env) fp xe) (c.wx W) N k (relS bs sc) bs :=
  ⟨⟨h.e.pp, h.e.pw, h.e.pk, h.e.pm, h.e.pb, h.e.pg, h.e.nm, h.e.nd, by rw [← h.e.sc]; rfl, h.e.calm, h.e.room, tk⟩, rfl⟩
theorem k_lcX (hX : XSt T X c N k sc) (own : List (Str × Nat)) (hi : PI X tg iter (RI c mi)) (ok : blkC N sc scope own = true)
    (hg : ∀ X' c', XBl T X' c' N k (relS scope sc) scope → PG X' tg (RG c' t sl)) (ht : ∀ X' c', XBl T X' c' N k (relS scope sc) scope → PTs X' ifs (RT c' mt)) (he : ∀ X' c', XBl T X' c' N k (relS scope sc) scope → PE X' elt (RE c' me))
    (hsl : ∀ k ∈ sl, k ∈ own.map (·.2) := by decide) (hs : ∀ x, foldedSetIterable iter X.env x = pure x := by intro _; rfl) :
    PE X (.ListComp elt [⟨tg, iter, ifs, 0⟩] scope pos) (RO c (mLcX (own.map (·.2)) mi t mt me)) :=
  pe_imp (LMX.lc_x (g := fun W => RG (c.wx W) t sl) (tt := fun W => RT (c.wx W) mt) (te := fun W => RE (c.wx W) me) hX.st hX.fr hX.e.tk hX.e.calm hX.e.ndX hi (by rw [hX.e.nm, hX.e.sc]; exact blkOk_by ok)
    (fun W s H C cl fp xe tk => ⟨hg _ _ (hX.blkX W s H scope C cl fp xe tk), ht _ _ (hX.blkX W s H scope C cl fp xe tk), he _ _ (hX.blkX W s H scope C cl fp xe tk)⟩) hs) fun s H Q q => lc_useX hsl q
theorem mLcX_of {vs : List Nat} {e : En} {h h' : HP} {l : List DV} (q : mLc vs mi t mt me e h = .ok l h') : mLcX vs mi t mt me e h = .ok l h' := by
  unfold mLc at q
  unfold mLcX
  rw [bind_app] at q ⊢
  cases z : mi e h with
  | ok ds h1 =>
    rw [z, bR_ok] at q
    rw [bR_ok]
    split
    · rename_i w
      rw [if_pos w] at q
      unfold noX at q
      cases z2 : lcL t mt me (wipeE e vs) ds h1 with
      | ok a b =>
        rw [z2] at q
        exact q
      | exc x b =>
        rw [z2] at q
        cases q
      | bad =>
        rw [z2] at q
        cases q
    · rename_i w
      rw [if_neg w] at q
      exact q
  | exc x h1 =>
    rw [z] at q
    cases q
  | bad =>
    rw [z] at q
    cases q
end
@[simp] theorem sRaise0_app (i : Nat) (e : En) (h : HP) : sRaise0 i e h = .exc ⟨i, []⟩ e h := rfl
end LM

/-! A list of one's own is walked by a comprehension, and changed later. -/
namespace LM
open PySem L2
def flL (r : Res (List DV)) : Res (List DV) := match r with
  | .ok l h => if flatRs l && h.all flatO then .ok l h else .bad
  | _ => .bad
def lnO (o : Option Slot) (k : List DV → Res (List DV)) : Res (List DV) := match o with
  | some (.own l) => flL (k l)
  | _ => .bad
def lendO (i : Nat) (m : En → M (List DV)) : En → M (List DV) := fun e h => lnO e[i]? fun l => m (e.set i (.val (.lst l))) h
@[simp] theorem lendO_app (i : Nat) (m : En → M (List DV)) (e : En) (h : HP) : lendO i m e h = lnO e[i]? fun l => m (e.set i (.val (.lst l))) h := rfl
@[simp] theorem lnO_own (l : List DV) (k : List DV → Res (List DV)) : lnO (some (.own l)) k = flL (k l) := rfl
theorem flL_ok {l : List DV} {h : HP} (q1 : flatRs l = true) (q2 : h.all flatO = true) : flL (.ok l h) = .ok l h := by
  unfold flL
  simp only []
  rw [q1, q2]
  rfl
section
variable {c : Cn} {i : Nat} {m : En → M (List DV)} {s : L2.St} {H : Hp} {Q : VK}
theorem lend_use (q : RO c (lendO i m) s H Q) : RO c m s H Q := by
  obtain ⟨W, e, h, S, q⟩ := q
  have q0 : Post c (rO c H) e s W H (lnO e[i]? fun l => m (e.set i (.val (.lst l))) h) Q := q
  cases z : e[i]? with
  | none =>
    rw [z] at q0
    exact q0.elim
  | some x =>
    rw [z] at q0
    cases x with
    | none => exact q0.elim
    | val d => exact q0.elim
    | dic ks l => exact q0.elim
    | exn y => exact q0.elim
    | own l =>
      obtain ⟨p, vs, e2, e3, r, n1, n2, n3⟩ := S.own i l z
      have hA : ∀ a ∈ [p], (∃ o, H a = some o) ∧ a ∉ W.r := fun a ha => by
        rw [List.mem_singleton.mp ha]
        exact ⟨⟨_, e3⟩, n2⟩
      have hs := S.hs.frzs hA
      have pr : Per W H (W.frzs [p]) H := frzs_per
      have rl : Rep c.g (W.frzs [p]) H (.lst l) (.ref p) := by
        simp only [Rep]
        exact ⟨p, vs, rfl, .inr (List.mem_singleton_self p), e3, r.per pr _ _⟩
      have nb : ∀ (j : Nat) (y : Slot), j ≠ i → e[j]? = some y → y.isOwn = true → s[j]? ≠ some (some (.ref p)) := fun j y hj e4 o e5 => hj (S.ne j i p y _ e4 o z rfl e5 e2)
      have st : Step c.W0 c.H0 (W.frzs [p]) H := ⟨fun a f => .inl (S.st.f a f), S.st.r, S.st.k, S.st.th, fun a f => by
        rcases f with f | f
        · exact S.st.nf a f
        · rw [List.mem_singleton.mp f]
          exact .inr (.inl n3), S.st.nr⟩
      have S2 : Sim c (W.frzs [p]) (e.set i (.val (.lst l))) h s H := by
        refine ⟨hs, st, by rw [List.length_set]; exact S.len, fun j d e1 => ?_, fun j l2 e1 => ?_, fun j ks l2 e1 => ?_, fun j k b x y e1 o1 e4 o2 e5 e6 => ?_, fun j y e1 => ?_⟩
        · by_cases hj : j = i
          · subst hj
            rw [List.getElem?_set_self (List.getElem?_eq_some_iff.mp z).1] at e1
            cases e1
            exact ⟨_, e2, rl⟩
          · rw [List.getElem?_set_ne (Ne.symm hj)] at e1
            obtain ⟨v, e4, r4⟩ := S.val j d e1
            exact ⟨v, e4, r4.per pr _ _⟩
        · by_cases hj : j = i
          · subst hj
            rw [List.getElem?_set_self (List.getElem?_eq_some_iff.mp z).1] at e1
            cases e1
          · rw [List.getElem?_set_ne (Ne.symm hj)] at e1
            obtain ⟨b, ws, e4, e5, r4, m1, m2, m3⟩ := S.own j l2 e1
            exact ⟨b, ws, e4, e5, r4.per pr _ _, fun f => f.elim m1 fun w => nb j _ hj e1 rfl (List.mem_singleton.mp w ▸ e4), m2, m3⟩
        · by_cases hj : j = i
          · subst hj
            rw [List.getElem?_set_self (List.getElem?_eq_some_iff.mp z).1] at e1
            cases e1
          · rw [List.getElem?_set_ne (Ne.symm hj)] at e1
            obtain ⟨b, ws, e4, e5, w0, r4, m1, m2, m3⟩ := S.dic j ks l2 e1
            exact ⟨b, ws, e4, e5, w0, r4.per pr _ _, fun f => f.elim m1 fun w => nb j _ hj e1 rfl (List.mem_singleton.mp w ▸ e4), m2, m3⟩
        · have back : ∀ (j : Nat) (y : Slot), (e.set i (.val (.lst l)))[j]? = some y → y.isOwn = true → e[j]? = some y := fun j y e1 oy => by
            by_cases hj : j = i
            · subst hj
              rw [List.getElem?_set_self (List.getElem?_eq_some_iff.mp z).1] at e1
              cases e1
              cases oy
            · rwa [List.getElem?_set_ne (Ne.symm hj)] at e1
          exact S.ne j k b x y (back j x e1 o1) o1 (back k y e4 o2) o2 e5 e6
        · by_cases hj : j = i
          · subst hj
            rw [List.getElem?_set_self (List.getElem?_eq_some_iff.mp z).1] at e1
            cases e1
          · rw [List.getElem?_set_ne (Ne.symm hj)] at e1
            obtain ⟨b, cls, dd, e4, e5, r4⟩ := S.exn j y e1
            exact ⟨b, cls, dd, e4, e5, r4.per pr⟩
      refine ⟨W.frzs [p], _, h, S2, ?_⟩
      have q1 : Post c (rO c H) e s W H (flL (m (e.set i (.val (.lst l))) h)) Q := q0
      cases zm : m (e.set i (.val (.lst l))) h with
      | exc x h' =>
        rw [zm] at q1
        exact q1.elim
      | bad =>
        rw [zm] at q1
        exact q1.elim
      | ok r5 h5 =>
        rw [zm] at q1
        unfold flL at q1
        by_cases fl : (flatRs r5 && h5.all flatO) = true
        rotate_left
        · simp only [fl] at q1
          exact q1.elim
        simp only [fl, if_true] at q1
        obtain ⟨f1, f2⟩ := Bool.and_eq_true_iff.mp fl
        intro W' H' b t S' o
        obtain ⟨a5, vs5, o1, o2, o3, o4, o5, o6⟩ := o
        exact q1 _ H' b t.thaw (S.step t.thaw (S'.hs.thaw f2)) ⟨a5, vs5, o1, o2, Reps.flat (W := W') (W' := W'.thaw W [p]) rfl _ _ f1 o3, fun w => o4 w.1, o5, o6⟩
end
section
variable {T : Tp} {X : Cx} {c : Cn} {N : List Str} {k : Nat} {sc : Scope} {pos : Pos} {tg elt iter : Expr} {ifs : List Expr} {scope : Scope} {mi : En → M (List DV)} {t : DV → En → Option En} {mt : En → M Bool} {me : En → M DV} {sl : List Nat}
theorem k_lcL (hX : XEx T X c N k sc) (j : Nat) {m : En → M (List DV)} {ex : Expr} (h : PE X ex (RO c m)) : PE X ex (RO c (lendO j m)) := pe_imp h fun s H Q q => lend_use q
theorem k_setLcL {i : Nat} {y : Str} {py spos : Pos} (j : Nat) (hX : XSt T X c N k sc) (own : List (Str × Nat)) (hy : N[i]? = some y) (hyl : sc.names.lookup y = some .local) (hsw : (py.line == pos.line) = true) (ha : (scope.names.any fun (n, k) => n == y && (k == .local || k == .cell)) = false)
    (hkf : sc.kind = .function) (hi : PI X tg iter (RI c mi)) (ok : blkC N sc scope own = true)
    (hg : ∀ X', XBl T X' c.nx N k (relS scope sc) scope → PG X' tg (RG c.nx t sl)) (ht : ∀ X', XBl T X' c.nx N k (relS scope sc) scope → PTs X' ifs (RT c.nx mt)) (he : ∀ X', XBl T X' c.nx N k (relS scope sc) scope → PE X' elt (RE c.nx me))
    (hsl : ∀ k ∈ sl, k ∈ own.map (·.2) := by decide) (hs : ∀ x, foldedSetIterable iter X.env x = pure x := by intro _; rfl) :
    PS X (.Assign [.Name y py] (.ListComp elt [⟨tg, iter, ifs, 0⟩] scope pos) spos) (RS c (sSetO i (lendO j (mLc (own.map (·.2)) mi t mt me)))) :=
  ps_imp (ps_setLc hX.e.calm hX.e.ndX (hX.e.at hy) (by rw [hX.e.sc]; exact hyl) (sw_true (by rw [hX.e.sc]; exact hkf) (by rw [hX.e.sc]; exact hyl) hsw ha) hi (by rw [hX.e.nm, hX.e.sc]; exact blkOk_by ok) (fun s H C cl fp => hg _ (hX.e.blk s H scope C cl fp)) (fun s H C cl fp => ht _ (hX.e.blk s H scope C cl fp)) (fun s H C cl fp => he _ (hX.e.blk s H scope C cl fp)) hs) fun D s H q => lc_use hsl (lend_use (by
    obtain ⟨W, e, h, S0, q⟩ := q
    exact ⟨W, e, h, S0, sb_at S0 q fun W1 H1 l v h1 t S r q2 => q2.nx (S0.setOwn t S r)⟩))
end
end LM

namespace LM
open PySem L2
def fnames : List Str := ["read_by", "wanted_lines", "times_read", "kept_lines", "_law_taken", "_law_cells", "_law_met", "_law_changed", "_law_view", "_law_sided", "_law_more", "_law_program", "_law_reads", "_law_wanted", "_law_kept", "_law_truths", "law"]
abbrev s_read_by : Stmt := topS 2
abbrev N_read_by : List Str := ["line", "place"]
theorem sc_read_by : FnScope N_read_by ["line"] (defScope s_read_by) := ⟨rfl, rfl, rfl, by decide +kernel, rfl, by decide +kernel, by decide +kernel⟩
def m_read_by_c1 : En → M (List DV) := (mLc [1] (iB (e1 (vTab tab_READS) (e2 vIdx (eVar 0) (eC (.int 0)))) itS) (tName 1) mYes (e2 vIdx (eVar 0) (eVar 1)))
def m_read_by : Stm := (sRet (eFrz m_read_by_c1))
def f_read_by : List DV → M DV := fnM 2 m_read_by
theorem d_read_by {T : Tp} {X : Cx} {c : Cn} (hb : Blt T.mg) (hT_READS : TabOk T "READS" tab_READS) (hX : XSt T X c N_read_by 0 (defScope s_read_by)) : PSs X (defBody s_read_by) (RS c m_read_by) :=
  (s_one (s_ret (c_frz (k_lc hX.e [("place", 1)] (i_seq hX.e.kk (k_tab hX.e hT_READS (hX.e.gl rfl) (c_idx hX.e.kk (c_toB (k_var hX.e 0 rfl (.inr (.inl rfl)))) c_int))) (by decide +kernel) (fun X' b1 => (k_gnB b1 (i := 1) rfl (.inl rfl) (.inr rfl))) (fun X' b1 => ts_nil) (fun X' b1 => (c_idx b1.e.kk (c_toB (k_var b1.e 0 rfl (.inr (.inl rfl)))) (k_var b1.e 1 rfl (.inl rfl))))))))
abbrev s_wanted_lines : Stmt := topS 5
abbrev N_wanted_lines : List Str := ["program", "found", "at", "place"]
theorem sc_wanted_lines : FnScope N_wanted_lines ["program"] (defScope s_wanted_lines) := ⟨rfl, rfl, rfl, by decide +kernel, rfl, by decide +kernel, by decide +kernel⟩
def m_wanted_lines_b1 : Stm := (sSetI 1 (eC (.bl true)) (eVar 3))
def m_wanted_lines_b2 : Stm := (sIf (tb (e2 vIdx (eBor 1) (eVar 2))) (sFor (iB (eCall f_read_by (aCons (e2 vIdx (eVar 0) (eVar 2)) aNil)) itS) (tName 3) [3] m_wanted_lines_b1) sNext)
def m_wanted_lines : Stm := (sSeq (sSetO 1 (iB2 (eFrz (aCons (eC (.bl false)) aNil)) (e1 vLen (eVar 0)) lMul)) (sSeq (sSetI 1 (eC (.bl true)) (e1 vNeg (eC (.int 1)))) (sSeq (sFor (iB (e1 vLen (eVar 0)) itRR) (tName 2) [2, 3] m_wanted_lines_b2) (sSeq (sFrz 1) (sRet (eVar 1))))))
def f_wanted_lines : List DV → M DV := fnM 4 m_wanted_lines
theorem d_wanted_lines {T : Tp} {X : Cx} {c : Cn} (hb : Blt T.mg) (F_read_by : Fo T "read_by" 0 1 1 f_read_by) (hX : XSt T X c N_wanted_lines 1 (defScope s_wanted_lines)) : PSs X (defBody s_wanted_lines) (RS c m_wanted_lines) :=
  (s_cons (k_setO hX (i := 1) rfl (.inl rfl) (c_mulO (c_oB (c_lst (c_cons c_bl c_nil))) (c_len hX.e.kk (hX.e.gl rfl) (hX.e.no hb.len) (c_toB (k_var hX.e 0 rfl (.inl rfl)))))) (s_cons (k_setI hX (s0 := 1) rfl (.inl rfl) c_bl (c_neg c_int)) (s_cons (k_for [2, 3] hX (i_revRng (hX.e.gl rfl) (hX.e.no hb.reversed) (hX.e.gl rfl) (hX.e.no hb.range) (c_len hX.e.kk (hX.e.gl rfl) (hX.e.no hb.len) (c_toB (k_var hX.e 0 rfl (.inl rfl))))) (k_gn hX (i := 2) rfl (.inl rfl)) (s_one (s_if (t_val (c_idx hX.e.kk (k_bor hX.e 1 rfl (.inl rfl)) (k_var hX.e 2 rfl (.inl rfl)))) (s_one (k_for [3] hX (i_seq hX.e.kk (c_call hX.e F_read_by (by decide) (hX.e.gl rfl) (c_cons (c_idx hX.e.kk (c_toB (k_var hX.e 0 rfl (.inl rfl))) (k_var hX.e 2 rfl (.inl rfl))) c_nil))) (k_gn hX (i := 3) rfl (.inl rfl)) (s_one (k_setI hX (s0 := 1) rfl (.inl rfl) c_bl (k_var hX.e 3 rfl (.inl rfl)))))) s_nil))) (s_one (s_frz (i := 1) (s_ret (k_var hX.e 1 rfl (.inl rfl))))))))
abbrev s_times_read : Stmt := topS 6
abbrev N_times_read : List Str := ["program", "wanted", "found", "line", "needed", "place"]
theorem sc_times_read : FnScope N_times_read ["program", "wanted"] (defScope s_times_read) := ⟨rfl, rfl, rfl, by decide +kernel, rfl, by decide +kernel, by decide +kernel⟩
def m_times_read_b1 : Stm := (sSetI 2 (e2 vAdd (e2 vIdx (eBor 2) (eVar 5)) (eC (.int 1))) (eVar 5))
def m_times_read_b2 : Stm := (sIf (tb (eVar 4)) (sFor (iB (eCall f_read_by (aCons (eVar 3) aNil)) itS) (tName 5) [5] m_times_read_b1) sNext)
def m_times_read : Stm := (sSeq (sSetO 2 (iB2 (eFrz (aCons (eC (.int 0)) aNil)) (e1 vLen (eVar 0)) lMul)) (sSeq (sFor (iB2 (eVar 0) (eVar 1) itZM) (tTup [3, 4]) [3, 4, 5] m_times_read_b2) (sSeq (sFrz 2) (sRet (eVar 2)))))
def f_times_read : List DV → M DV := fnM 6 m_times_read
theorem d_times_read {T : Tp} {X : Cx} {c : Cn} (hb : Blt T.mg) (F_read_by : Fo T "read_by" 0 1 1 f_read_by) (hX : XSt T X c N_times_read 1 (defScope s_times_read)) : PSs X (defBody s_times_read) (RS c m_times_read) :=
  (s_cons (k_setO hX (i := 2) rfl (.inl rfl) (c_mulO (c_oB (c_lst (c_cons c_int c_nil))) (c_len hX.e.kk (hX.e.gl rfl) (hX.e.no hb.len) (c_toB (k_var hX.e 0 rfl (.inl rfl)))))) (s_cons (k_for [3, 4, 5] hX (i_zipM hX.e.kk (hX.e.gl rfl) (hX.e.no hb.zip) (k_var hX.e 0 rfl (.inl rfl)) (k_var hX.e 1 rfl (.inl rfl))) (g_tup hX.e.kk hX.e.calm (k_gs hX (i := 3) rfl (.inl rfl) (k_gs hX (i := 4) rfl (.inl rfl) gs_nil))) (s_one (s_if (t_val (k_var hX.e 4 rfl (.inl rfl))) (s_one (k_for [5] hX (i_seq hX.e.kk (c_call hX.e F_read_by (by decide) (hX.e.gl rfl) (c_cons (k_var hX.e 3 rfl (.inl rfl)) c_nil))) (k_gn hX (i := 5) rfl (.inl rfl)) (s_one (k_setI hX (s0 := 2) rfl (.inl rfl) (c_add hX.e.kk (c_toB (c_idx hX.e.kk (k_bor hX.e 2 rfl (.inl rfl)) (k_var hX.e 5 rfl (.inl rfl)))) (c_toB c_int)) (k_var hX.e 5 rfl (.inl rfl)))))) s_nil))) (s_one (s_frz (i := 2) (s_ret (k_var hX.e 2 rfl (.inl rfl)))))))
abbrev s_kept_lines : Stmt := topS 7
abbrev N_kept_lines : List Str := ["program", "sides", "wanted", "often", "found", "at", "line", "place", "keep", "needed"]
theorem sc_kept_lines : FnScope N_kept_lines ["program", "sides"] (defScope s_kept_lines) := ⟨rfl, rfl, rfl, by decide +kernel, rfl, by decide +kernel, by decide +kernel⟩
def m_kept_lines_b1 : Stm := (sApp 4 (eOr (e2 (vIn false) (e2 vIdx (eVar 6) (eC (.int 0))) (eC (.tup [DV.str (Str.ofString "given"), DV.str (Str.ofString "fold"), DV.str (Str.ofString "run"), DV.str (Str.ofString "pick")]))) (eAnd (e2 vGt (e2 vIdx (eVar 3) (eVar 5)) (eC (.int 1))) (e2 vNe (e2 vIdx (eVar 6) (eC (.int 0))) (eC (.str (Str.ofString "even")))))))
def m_kept_lines_b2 : Stm := (sSeq (sIf (tAnd (tb (e2 vIdx (eVar 2) (eVar 5))) (tb (e2 (vIn false) (e2 vIdx (eVar 6) (eC (.int 0))) (eTup (aCons (eC (.str (Str.ofString "shape"))) (aCons (eC (.str (Str.ofString "pick"))) aNil)))))) (sSetI 4 (eC (.bl true)) (eVar 7)) sNext) (sIf (tAnd (tb (e2 vIdx (eVar 2) (eVar 5))) (tb (e2 (vIn false) (e2 vIdx (eVar 6) (eC (.int 0))) (eTup (aCons (eC (.str (Str.ofString "spread"))) (aCons (eC (.str (Str.ofString "both"))) (aCons (eC (.str (Str.ofString "where"))) aNil))))))) (sIf (tAnd (tb (e2 vNe (e2 vIdx (eVar 1) (eVar 7)) (e2 vIdx (eVar 1) (eVar 5)))) (tb (e2 vNe (e2 vIdx (e2 vIdx (eVar 0) (eVar 7)) (eC (.int 0))) (eC (.str (Str.ofString "even")))))) (sSetI 4 (eC (.bl true)) (eVar 7)) sNext) sNext))
def m_kept_lines_b3 : Stm := (sFor (iB (eCall f_read_by (aCons (eVar 6) aNil)) itS) (tName 7) [7] m_kept_lines_b2)
def m_kept_lines_c1 : En → M (List DV) := (mLc [8, 9] (iB2 (eVar 4) (eVar 2) itZM) (tTup [8, 9]) mYes (eAnd (eVar 8) (eVar 9)))
def m_kept_lines_r6 : Stm := (sSeq (sFrz 4) (sRet (eNew m_kept_lines_c1)))
def m_kept_lines_r5 : Stm := (sSeq (sSetI 4 (eC (.bl true)) (e1 vNeg (eC (.int 1)))) m_kept_lines_r6)
def m_kept_lines_r4 : Stm := (sSeq (sFor (iB (eVar 0) itE) (tTup [5, 6]) [5, 6, 7] m_kept_lines_b3) m_kept_lines_r5)
def m_kept_lines_r3 : Stm := (sSeq (sFor (iB (eVar 0) itE) (tTup [5, 6]) [5, 6] m_kept_lines_b1) m_kept_lines_r4)
def m_kept_lines_r2 : Stm := (sSeq (sSetO 4 aNil) m_kept_lines_r3)
def m_kept_lines_r1 : Stm := (sSeq (sSet 3 (eCall f_times_read (aCons (eVar 0) (aCons (eVar 2) aNil)))) m_kept_lines_r2)
def m_kept_lines : Stm := (sSeq (sSet 2 (eCall f_wanted_lines (aCons (eVar 0) aNil))) m_kept_lines_r1)
def f_kept_lines : List DV → M DV := fnM 10 m_kept_lines
theorem d_kept_lines {T : Tp} {X : Cx} {c : Cn} (hb : Blt T.mg) (F_read_by : Fo T "read_by" 0 1 1 f_read_by) (F_wanted_lines : Fo T "wanted_lines" 1 2 1 f_wanted_lines) (F_times_read : Fo T "times_read" 2 2 2 f_times_read) (hCt_ALWAYS : CstOk T "ALWAYS" [Str.ofString "given", Str.ofString "fold", Str.ofString "run", Str.ofString "pick"]) (hX : XSt T X c N_kept_lines 2 (defScope s_kept_lines)) : PSs X (defBody s_kept_lines) (RS c m_kept_lines) :=
  (s_cons (k_set hX (i := 2) rfl (.inl rfl) (c_call hX.e F_wanted_lines (by decide) (hX.e.gl rfl) (c_cons (k_var hX.e 0 rfl (.inl rfl)) c_nil))) (s_cons (k_set hX (i := 3) rfl (.inl rfl) (c_call hX.e F_times_read (by decide) (hX.e.gl rfl) (c_cons (k_var hX.e 0 rfl (.inl rfl)) (c_cons (k_var hX.e 2 rfl (.inl rfl)) c_nil)))) (s_cons (k_setO hX (i := 4) rfl (.inl rfl) (c_lst c_nil)) (s_cons (k_for [5, 6] hX (i_enum hX.e.kk (hX.e.gl rfl) (hX.e.no hb.enumerate) (k_var hX.e 0 rfl (.inl rfl))) (g_tup hX.e.kk hX.e.calm (k_gs hX (i := 5) rfl (.inl rfl) (k_gs hX (i := 6) rfl (.inl rfl) gs_nil))) (s_one (k_app hX (i := 4) rfl (.inl rfl) (c_or (c_in hX.e.kk (c_idx hX.e.kk (c_toB (k_var hX.e 6 rfl (.inl rfl))) c_int) (c_toB (k_ctup hX.e (hX.e.gl rfl) hCt_ALWAYS))) (c_one (c_and (c_gt (c_idx hX.e.kk (c_toB (k_var hX.e 3 rfl (.inl rfl))) (k_var hX.e 5 rfl (.inl rfl))) c_int) (c_one (c_ne hX.e.kk hX.e.u (c_toB (c_idx hX.e.kk (c_toB (k_var hX.e 6 rfl (.inl rfl))) c_int)) (c_toB c_str))))))))) (s_cons (k_for [5, 6, 7] hX (i_enum hX.e.kk (hX.e.gl rfl) (hX.e.no hb.enumerate) (k_var hX.e 0 rfl (.inl rfl))) (g_tup hX.e.kk hX.e.calm (k_gs hX (i := 5) rfl (.inl rfl) (k_gs hX (i := 6) rfl (.inl rfl) gs_nil))) (s_one (k_for [7] hX (i_seq hX.e.kk (c_call hX.e F_read_by (by decide) (hX.e.gl rfl) (c_cons (k_var hX.e 6 rfl (.inl rfl)) c_nil))) (k_gn hX (i := 7) rfl (.inl rfl)) (s_cons (s_if (PW.pt (t_and (t_val (c_idx hX.e.kk (c_toB (k_var hX.e 2 rfl (.inl rfl))) (k_var hX.e 5 rfl (.inl rfl)))) (t_and1 (t_in hX.e.kk (c_idx hX.e.kk (c_toB (k_var hX.e 6 rfl (.inl rfl))) c_int) (c_toB (c_tup (c_cons c_str (c_cons c_str c_nil)))))))) (s_one (k_setI hX (s0 := 4) rfl (.inl rfl) c_bl (k_var hX.e 7 rfl (.inl rfl)))) s_nil) (s_one (s_if (PW.pt (t_and (t_val (c_idx hX.e.kk (c_toB (k_var hX.e 2 rfl (.inl rfl))) (k_var hX.e 5 rfl (.inl rfl)))) (t_and1 (t_in hX.e.kk (c_idx hX.e.kk (c_toB (k_var hX.e 6 rfl (.inl rfl))) c_int) (c_toB (c_tup (c_cons c_str (c_cons c_str (c_cons c_str c_nil))))))))) (s_one (s_if (PW.pt (t_and (t_ne hX.e.kk hX.e.u (c_toB (c_idx hX.e.kk (c_toB (k_var hX.e 1 rfl (.inl rfl))) (k_var hX.e 7 rfl (.inl rfl)))) (c_toB (c_idx hX.e.kk (c_toB (k_var hX.e 1 rfl (.inl rfl))) (k_var hX.e 5 rfl (.inl rfl))))) (t_and1 (t_ne hX.e.kk hX.e.u (c_toB (c_idx hX.e.kk (c_toB (c_idx hX.e.kk (c_toB (k_var hX.e 0 rfl (.inl rfl))) (k_var hX.e 7 rfl (.inl rfl)))) c_int)) (c_toB c_str))))) (s_one (k_setI hX (s0 := 4) rfl (.inl rfl) c_bl (k_var hX.e 7 rfl (.inl rfl)))) s_nil)) s_nil)))))) (s_cons (k_setI hX (s0 := 4) rfl (.inl rfl) c_bl (c_neg c_int)) (s_one (s_frz (i := 4) (s_ret (c_new (k_lc hX.e [("keep", 8), ("needed", 9)] (i_zipM hX.e.kk (hX.e.gl rfl) (hX.e.no hb.zip) (k_var hX.e 4 rfl (.inl rfl)) (k_var hX.e 2 rfl (.inl rfl))) (by decide +kernel) (fun X' b1 => (g_tup b1.e.kk b1.e.calm (k_gsB b1 (i := 8) rfl (.inl rfl) (.inr rfl) (k_gsB b1 (i := 9) rfl (.inl rfl) (.inr rfl) gs_nil)))) (fun X' b1 => ts_nil) (fun X' b1 => (c_and (k_var b1.e 8 rfl (.inl rfl)) (c_one (k_var b1.e 9 rfl (.inl rfl))))))))))))))))
abbrev s_law_taken : Stmt := topS 9
abbrev N_law_taken : List Str := ["_law_row", "_law_many", "_law_at"]
theorem sc_law_taken : FnScope N_law_taken ["_law_row", "_law_many"] (defScope s_law_taken) := ⟨rfl, rfl, rfl, by decide +kernel, rfl, by decide +kernel, by decide +kernel⟩
def m_law_taken : Stm := (sSeq (sSet 2 (e2 vIdx (eVar 0) (eC (.int 1)))) (sSeq (sSetH (e2 vAdd (eVar 2) (eC (.int 1))) (eVar 0) (eC (.int 1))) (sSeq (sIf (tb (e2 vLt (eVar 2) (e1 vLen (e2 vIdx (eVar 0) (eC (.int 0)))))) (sRet (e2 vMod (e2 vIdx (e2 vIdx (eVar 0) (eC (.int 0))) (eVar 2)) (eVar 1))) sNext) (sRet (eC (.int 0))))))
def f_law_taken : List DV → M DV := fnM 3 m_law_taken
theorem d_law_taken {T : Tp} {X : Cx} {c : Cn} (hb : Blt T.mg)  (hX : XSt T X c N_law_taken 0 (defScope s_law_taken)) : PSs X (defBody s_law_taken) (RS c m_law_taken) :=
  (s_cons (k_set hX (i := 2) rfl (.inl rfl) (c_idx hX.e.kk (c_toB (k_var hX.e 0 rfl (.inl rfl))) c_int)) (s_cons (s_setH (c_add hX.e.kk (c_toB (k_var hX.e 2 rfl (.inl rfl))) (c_toB c_int)) (k_var hX.e 0 rfl (.inl rfl)) c_int) (s_cons (s_if (t_lt (k_var hX.e 2 rfl (.inl rfl)) (c_len hX.e.kk (hX.e.gl rfl) (hX.e.no hb.len) (c_toB (c_idx hX.e.kk (c_toB (k_var hX.e 0 rfl (.inl rfl))) c_int)))) (s_one (s_ret (c_mod (c_idx hX.e.kk (c_toB (c_idx hX.e.kk (c_toB (k_var hX.e 0 rfl (.inl rfl))) c_int)) (k_var hX.e 2 rfl (.inl rfl))) (k_var hX.e 1 rfl (.inl rfl))))) s_nil) (s_one (s_ret c_int)))))
abbrev s_law_cells : Stmt := topS 10
abbrev N_law_cells : List Str := ["_law_sides", "_law_found", "_law_size"]
theorem sc_law_cells : FnScope N_law_cells ["_law_sides"] (defScope s_law_cells) := ⟨rfl, rfl, rfl, by decide +kernel, rfl, by decide +kernel, by decide +kernel⟩
def m_law_cells_b1 : Stm := (sSet 1 (e2 vMul (eVar 1) (eVar 2)))
def m_law_cells : Stm := (sSeq (sSet 1 (eC (.int 1))) (sSeq (sFor (iB (eVar 0) itS) (tName 2) [2] m_law_cells_b1) (sRet (eVar 1))))
def f_law_cells : List DV → M DV := fnM 3 m_law_cells
theorem d_law_cells {T : Tp} {X : Cx} {c : Cn} (hb : Blt T.mg)  (hX : XSt T X c N_law_cells 0 (defScope s_law_cells)) : PSs X (defBody s_law_cells) (RS c m_law_cells) :=
  (s_cons (k_set hX (i := 1) rfl (.inl rfl) c_int) (s_cons (k_for [2] hX (i_seq hX.e.kk (k_var hX.e 0 rfl (.inl rfl))) (k_gn hX (i := 2) rfl (.inl rfl)) (s_one (k_set hX (i := 1) rfl (.inl rfl) (c_mul (k_var hX.e 1 rfl (.inl rfl)) (k_var hX.e 2 rfl (.inl rfl)))))) (s_one (s_ret (k_var hX.e 1 rfl (.inl rfl))))))
abbrev s_law_met : Stmt := topS 11
abbrev N_law_met : List Str := ["_law_one", "_law_other", "_law_many", "_law_left", "_law_right", "_law_found", "_law_k"]
theorem sc_law_met : FnScope N_law_met ["_law_one", "_law_other"] (defScope s_law_met) := ⟨rfl, rfl, rfl, by decide +kernel, rfl, by decide +kernel, by decide +kernel⟩
def m_law_met_b1 : Stm := (sSeq (sIf (tAnd (tb (e2 vNe (e2 vIdx (eVar 3) (eVar 6)) (e2 vIdx (eVar 4) (eVar 6)))) (tAnd (tb (e2 vNe (e2 vIdx (eVar 3) (eVar 6)) (eC (.int 1)))) (tb (e2 vNe (e2 vIdx (eVar 4) (eVar 6)) (eC (.int 1)))))) (sRet (eC .non)) sNext) (sSet 5 (e2 vAdd (eVar 5) (eTup (aCons (e2 vIdx (eFrz (aCons (e2 vIdx (eVar 3) (eVar 6)) (aCons (e2 vIdx (eVar 4) (eVar 6)) aNil))) (e1 vInt (e2 vEq (e2 vIdx (eVar 3) (eVar 6)) (eC (.int 1))))) aNil)))))
def m_law_met : Stm := (sSeq (sSet 2 (e2 vMax (e1 vLen (eVar 0)) (e1 vLen (eVar 1)))) (sSeq (sSet 3 (e2 vAdd (e2 vMulT (eTup (aCons (eC (.int 1)) aNil)) (e2 vSub (eVar 2) (e1 vLen (eVar 0)))) (eVar 0))) (sSeq (sSet 4 (e2 vAdd (e2 vMulT (eTup (aCons (eC (.int 1)) aNil)) (e2 vSub (eVar 2) (e1 vLen (eVar 1)))) (eVar 1))) (sSeq (sSet 5 (eTup aNil)) (sSeq (sFor (iB (eVar 2) itN) (tName 6) [6] m_law_met_b1) (sRet (eVar 5)))))))
def f_law_met : List DV → M DV := fnM 7 m_law_met
theorem d_law_met {T : Tp} {X : Cx} {c : Cn} (hb : Blt T.mg)  (hX : XSt T X c N_law_met 0 (defScope s_law_met)) : PSs X (defBody s_law_met) (RS c m_law_met) :=
  (s_cons (k_set hX (i := 2) rfl (.inl rfl) (c_max2 hX.e.calm (hX.e.gl rfl) (hX.e.no hb.max) (c_len hX.e.kk (hX.e.gl rfl) (hX.e.no hb.len) (c_toB (k_var hX.e 0 rfl (.inl rfl)))) (c_len hX.e.kk (hX.e.gl rfl) (hX.e.no hb.len) (c_toB (k_var hX.e 1 rfl (.inl rfl)))))) (s_cons (k_set hX (i := 3) rfl (.inl rfl) (c_add hX.e.kk (c_toB (c_mulT hX.e.kk (c_toB (c_tup (c_cons c_int c_nil))) (c_sub (k_var hX.e 2 rfl (.inl rfl)) (c_len hX.e.kk (hX.e.gl rfl) (hX.e.no hb.len) (c_toB (k_var hX.e 0 rfl (.inl rfl))))))) (c_toB (k_var hX.e 0 rfl (.inl rfl))))) (s_cons (k_set hX (i := 4) rfl (.inl rfl) (c_add hX.e.kk (c_toB (c_mulT hX.e.kk (c_toB (c_tup (c_cons c_int c_nil))) (c_sub (k_var hX.e 2 rfl (.inl rfl)) (c_len hX.e.kk (hX.e.gl rfl) (hX.e.no hb.len) (c_toB (k_var hX.e 1 rfl (.inl rfl))))))) (c_toB (k_var hX.e 1 rfl (.inl rfl))))) (s_cons (k_set hX (i := 5) rfl (.inl rfl) (c_tup c_nil)) (s_cons (k_for [6] hX (i_rng (hX.e.gl rfl) (hX.e.no hb.range) (k_var hX.e 2 rfl (.inl rfl))) (k_gn hX (i := 6) rfl (.inl rfl)) (s_cons (s_if (PW.pt (t_and (t_ne hX.e.kk hX.e.u (c_toB (c_idx hX.e.kk (c_toB (k_var hX.e 3 rfl (.inl rfl))) (k_var hX.e 6 rfl (.inl rfl)))) (c_toB (c_idx hX.e.kk (c_toB (k_var hX.e 4 rfl (.inl rfl))) (k_var hX.e 6 rfl (.inl rfl))))) (t_and (t_ne hX.e.kk hX.e.u (c_toB (c_idx hX.e.kk (c_toB (k_var hX.e 3 rfl (.inl rfl))) (k_var hX.e 6 rfl (.inl rfl)))) (c_toB c_int)) (t_and1 (t_ne hX.e.kk hX.e.u (c_toB (c_idx hX.e.kk (c_toB (k_var hX.e 4 rfl (.inl rfl))) (k_var hX.e 6 rfl (.inl rfl)))) (c_toB c_int)))))) (s_one (s_ret c_non)) s_nil) (s_one (k_set hX (i := 5) rfl (.inl rfl) (c_add hX.e.kk (c_toB (k_var hX.e 5 rfl (.inl rfl))) (c_toB (c_tup (c_cons (c_idx hX.e.kk (c_oB (c_lst (c_cons (c_idx hX.e.kk (c_toB (k_var hX.e 3 rfl (.inl rfl))) (k_var hX.e 6 rfl (.inl rfl))) (c_cons (c_idx hX.e.kk (c_toB (k_var hX.e 4 rfl (.inl rfl))) (k_var hX.e 6 rfl (.inl rfl))) c_nil)))) (c_intOf (hX.e.gl rfl) (hX.e.no hb.int) (c_eq hX.e.kk hX.e.u (c_toB (c_idx hX.e.kk (c_toB (k_var hX.e 3 rfl (.inl rfl))) (k_var hX.e 6 rfl (.inl rfl)))) (c_toB c_int)))) c_nil)))))))) (s_one (s_ret (k_var hX.e 5 rfl (.inl rfl)))))))))
abbrev s_law_changed : Stmt := topS 12
abbrev N_law_changed : List Str := ["_law_sides", "_law_side", "_law_size"]
theorem sc_law_changed : FnScope N_law_changed ["_law_sides", "_law_side", "_law_size"] (defScope s_law_changed) := ⟨rfl, rfl, rfl, by decide +kernel, rfl, by decide +kernel, by decide +kernel⟩
def m_law_changed : Stm := (sRet (e2 vAdd (e2 vAdd (eCut (eVar 0) oNone (oSome (eVar 1))) (eTup (aCons (eVar 2) aNil))) (eCut (eVar 0) (oSome (e2 vAdd (eVar 1) (eC (.int 1)))) oNone)))
def f_law_changed : List DV → M DV := fnM 3 m_law_changed
theorem d_law_changed {T : Tp} {X : Cx} {c : Cn} (hb : Blt T.mg)  (hX : XSt T X c N_law_changed 0 (defScope s_law_changed)) : PSs X (defBody s_law_changed) (RS c m_law_changed) :=
  (s_one (s_ret (c_add hX.e.kk (c_toB (c_add hX.e.kk (c_toB (c_cut hX.e.kk (c_toB (k_var hX.e 0 rfl (.inl rfl))) c_pn (c_ps (k_var hX.e 1 rfl (.inl rfl))))) (c_toB (c_tup (c_cons (k_var hX.e 2 rfl (.inl rfl)) c_nil))))) (c_toB (c_cut hX.e.kk (c_toB (k_var hX.e 0 rfl (.inl rfl))) (c_ps (c_add hX.e.kk (c_toB (k_var hX.e 1 rfl (.inl rfl))) (c_toB c_int))) c_pn)))))
abbrev s_law_view : Stmt := topS 13
abbrev N_law_view : List Str := ["_law_row", "_law_a", "_law_own", "_law_way", "_law_many", "_law_cells_here", "_law_sides", "_law_turn", "_law_order", "_law_at", "_law_k", "_law_size"]
theorem sc_law_view : FnScope N_law_view ["_law_row", "_law_a", "_law_own", "_law_way"] (defScope s_law_view) := ⟨rfl, rfl, rfl, by decide +kernel, rfl, by decide +kernel, by decide +kernel⟩
def m_law_view_c1 : En → M (List DV) := (mLc [10] (iB (eVar 4) itN) (tName 10) mYes (e2 vMod (e2 vAdd (eVar 10) (eVar 7)) (eVar 4)))
def m_law_view_c2 : En → M (List DV) := (mLc [10] (iB (eVar 8) itS) (tName 10) mYes (e2 vIdx (eVar 2) (eVar 10)))
def m_law_view_c3 : En → M (List DV) := (mLc [11] (iB (eVar 2) itS) (tName 11) mYes (e2 vIdx (eFrz (aCons (eVar 11) (aCons (eCall f_law_taken (aCons (eVar 0) (aCons (eC (.int 4)) aNil))) aNil))) (e1 vInt (e2 vEq (eVar 11) (eC (.int 1))))))
def m_law_view_r6 : Stm := (sRet (eTup (aCons (eTup (aCons (eC (.str (Str.ofString "shape"))) (aCons (eVar 1) (aCons (eVar 6) aNil)))) (aCons (eVar 6) aNil))))
def m_law_view_r5 : Stm := (sSeq (sSet 6 (e2 vIdx (eFrz (aCons (e1 vTupRevA (eVar 2)) (aCons (eTup (aCons (eVar 5) aNil)) (aCons (eTup (aCons (eC (.int 1)) (aCons (eVar 5) aNil))) (aCons (eTup (aCons (eVar 5) (aCons (eC (.int 1)) aNil))) aNil))))) (eCall f_law_taken (aCons (eVar 0) (aCons (eC (.int 4)) aNil))))) m_law_view_r6)
def m_law_view_r4 : Stm := (sSeq (sSet 5 (eCall f_law_cells (aCons (eVar 2) aNil))) m_law_view_r5)
def m_law_view_r3 : Stm := (sSeq (sIf (tb (e2 vEq (eVar 3) (eC (.int 2)))) (sSeq (sSet 6 (e1 vTup (eFrz m_law_view_c3))) (sSeq (sIf (tb (e2 vEq (eCall f_law_taken (aCons (eVar 0) (aCons (eC (.int 2)) aNil))) (eC (.int 1)))) (sSet 6 (e2 vAdd (eTup (aCons (eCall f_law_taken (aCons (eVar 0) (aCons (eC (.int 4)) aNil))) aNil)) (eVar 6))) sNext) (sRet (eTup (aCons (eTup (aCons (eC (.str (Str.ofString "spread"))) (aCons (eVar 1) (aCons (eVar 6) aNil)))) (aCons (eVar 6) aNil)))))) sNext) m_law_view_r4)
def m_law_view_r2 : Stm := (sSeq (sIf (tb (e2 vEq (eVar 3) (eC (.int 1)))) (sSeq (sSet 9 (eCall f_law_taken (aCons (eVar 0) (aCons (e2 vAdd (eVar 4) (eC (.int 1))) aNil)))) (sRet (eTup (aCons (eTup (aCons (eC (.str (Str.ofString "wide"))) (aCons (eVar 1) (aCons (eVar 9) aNil)))) (aCons (e2 vAdd (e2 vAdd (eCut (eVar 2) oNone (oSome (eVar 9))) (eTup (aCons (eC (.int 1)) aNil))) (eCut (eVar 2) (oSome (eVar 9)) oNone)) aNil))))) sNext) m_law_view_r3)
def m_law_view_r1 : Stm := (sSeq (sIf (tb (e2 vEq (eVar 3) (eC (.int 0)))) (sSeq (sSet 7 (eCall f_law_taken (aCons (eVar 0) (aCons (e2 vMax (eC (.int 1)) (eVar 4)) aNil)))) (sSeq (sSetL 8 m_law_view_c1) (sSeq (sIf (tb (e2 vEq (eCall f_law_taken (aCons (eVar 0) (aCons (eC (.int 2)) aNil))) (eC (.int 1)))) (sSet 8 (eFrz (iB (eVar 8) lLstRev))) sNext) (sRet (eTup (aCons (eTup (aCons (eC (.str (Str.ofString "turn"))) (aCons (eVar 1) (aCons (e1 vTup (eVar 8)) aNil)))) (aCons (e1 vTup (eFrz m_law_view_c2)) aNil))))))) sNext) m_law_view_r2)
def m_law_view : Stm := (sSeq (sSet 4 (e1 vLen (eVar 2))) m_law_view_r1)
def f_law_view : List DV → M DV := fnM 12 m_law_view
theorem d_law_view {T : Tp} {X : Cx} {c : Cn} (hb : Blt T.mg) (F_law_taken : Fo T "_law_taken" 4 1 2 f_law_taken) (F_law_cells : Fo T "_law_cells" 5 1 1 f_law_cells) (hX : XSt T X c N_law_view 1 (defScope s_law_view)) : PSs X (defBody s_law_view) (RS c m_law_view) :=
  (s_cons (k_set hX (i := 4) rfl (.inr rfl) (c_len hX.e.kk (hX.e.gl rfl) (hX.e.no hb.len) (c_toB (k_var hX.e 2 rfl (.inr (.inl rfl)))))) (s_cons (s_if (t_eq hX.e.kk hX.e.u (c_toB (k_var hX.e 3 rfl (.inl rfl))) (c_toB c_int)) (s_cons (k_set hX (i := 7) rfl (.inr rfl) (c_call hX.e F_law_taken (by decide) (hX.e.gl rfl) (c_cons (k_var hX.e 0 rfl (.inr (.inl rfl))) (c_cons (c_max2 hX.e.calm (hX.e.gl rfl) (hX.e.no hb.max) c_int (k_var hX.e 4 rfl (.inr (.inl rfl)))) c_nil)))) (s_cons (s_after (k_setLc hX (i := 8) [("_law_k", 10)] rfl rfl rfl (by decide +kernel) rfl (i_rng (hX.e.gl rfl) (hX.e.no hb.range) (k_var hX.e 4 rfl (.inr (.inl rfl)))) (by decide +kernel) (fun X' b1 => (k_gnB b1 (i := 10) rfl (.inl rfl) (.inr rfl))) (fun X' b1 => ts_nil) (fun X' b1 => (c_mod (c_add b1.e.kk (c_toB (k_var b1.e 10 rfl (.inl rfl))) (c_toB (k_var b1.e 7 rfl (.inr (.inl rfl))))) (k_var b1.e 4 rfl (.inr (.inl rfl))))))) (s_cons (s_if (t_eq hX.e.kk hX.e.u (c_toB (c_call hX.e F_law_taken (by decide) (hX.e.gl rfl) (c_cons (k_var hX.e 0 rfl (.inr (.inl rfl))) (c_cons c_int c_nil)))) (c_toB c_int)) (s_one (k_set hX (i := 8) rfl (.inl rfl) (c_frz (c_listRev hX.e.kk hX.e.calm (hX.e.gl rfl) (hX.e.no hb.list) (hX.e.gl rfl) (hX.e.no hb.reversed) (c_toB (k_var hX.e 8 rfl (.inl rfl))))))) s_nil) (s_one (s_ret (c_tup (c_cons (c_tup (c_cons c_str (c_cons (k_var hX.e 1 rfl (.inl rfl)) (c_cons (c_tupOf hX.e.kk (hX.e.gl rfl) (hX.e.no hb.tuple) (c_toB (k_var hX.e 8 rfl (.inl rfl)))) c_nil)))) (c_cons (c_tupOf hX.e.kk (hX.e.gl rfl) (hX.e.no hb.tuple) (c_oB (k_lc hX.e [("_law_k", 10)] (i_seq hX.e.kk (k_var hX.e 8 rfl (.inl rfl))) (by decide +kernel) (fun X' b2 => (k_gnB b2 (i := 10) rfl (.inl rfl) (.inr rfl))) (fun X' b2 => ts_nil) (fun X' b2 => (c_idx b2.e.kk (c_toB (k_var b2.e 2 rfl (.inr (.inl rfl)))) (k_var b2.e 10 rfl (.inl rfl))))))) c_nil)))))))) s_nil) (s_cons (s_if (t_eq hX.e.kk hX.e.u (c_toB (k_var hX.e 3 rfl (.inl rfl))) (c_toB c_int)) (s_cons (k_set hX (i := 9) rfl (.inl rfl) (c_call hX.e F_law_taken (by decide) (hX.e.gl rfl) (c_cons (k_var hX.e 0 rfl (.inr (.inl rfl))) (c_cons (c_add hX.e.kk (c_toB (k_var hX.e 4 rfl (.inr (.inl rfl)))) (c_toB c_int)) c_nil)))) (s_one (s_ret (c_tup (c_cons (c_tup (c_cons c_str (c_cons (k_var hX.e 1 rfl (.inl rfl)) (c_cons (k_var hX.e 9 rfl (.inl rfl)) c_nil)))) (c_cons (c_add hX.e.kk (c_toB (c_add hX.e.kk (c_toB (c_cut hX.e.kk (c_toB (k_var hX.e 2 rfl (.inr (.inl rfl)))) c_pn (c_ps (k_var hX.e 9 rfl (.inl rfl))))) (c_toB (c_tup (c_cons c_int c_nil))))) (c_toB (c_cut hX.e.kk (c_toB (k_var hX.e 2 rfl (.inr (.inl rfl)))) (c_ps (k_var hX.e 9 rfl (.inl rfl))) c_pn))) c_nil)))))) s_nil) (s_cons (s_if (t_eq hX.e.kk hX.e.u (c_toB (k_var hX.e 3 rfl (.inl rfl))) (c_toB c_int)) (s_cons (k_set hX (i := 6) rfl (.inl rfl) (c_tupOf hX.e.kk (hX.e.gl rfl) (hX.e.no hb.tuple) (c_oB (k_lc hX.e [("_law_size", 11)] (i_seq hX.e.kk (k_var hX.e 2 rfl (.inr (.inl rfl)))) (by decide +kernel) (fun X' b3 => (k_gnB b3 (i := 11) rfl (.inl rfl) (.inr rfl))) (fun X' b3 => ts_nil) (fun X' b3 => (c_idx b3.e.kk (c_oB (c_lst (c_cons (k_var b3.e 11 rfl (.inl rfl)) (c_cons (c_call b3.e F_law_taken (by decide) (b3.e.gl rfl) (c_cons (k_var b3.e 0 rfl (.inr (.inl rfl))) (c_cons c_int c_nil))) c_nil)))) (c_intOf (b3.e.gl rfl) (b3.e.no hb.int) (c_eq b3.e.kk b3.e.u (c_toB (k_var b3.e 11 rfl (.inl rfl))) (c_toB c_int))))))))) (s_cons (s_if (t_eq hX.e.kk hX.e.u (c_toB (c_call hX.e F_law_taken (by decide) (hX.e.gl rfl) (c_cons (k_var hX.e 0 rfl (.inr (.inl rfl))) (c_cons c_int c_nil)))) (c_toB c_int)) (s_one (k_set hX (i := 6) rfl (.inl rfl) (c_add hX.e.kk (c_toB (c_tup (c_cons (c_call hX.e F_law_taken (by decide) (hX.e.gl rfl) (c_cons (k_var hX.e 0 rfl (.inr (.inl rfl))) (c_cons c_int c_nil))) c_nil))) (c_toB (k_var hX.e 6 rfl (.inl rfl)))))) s_nil) (s_one (s_ret (c_tup (c_cons (c_tup (c_cons c_str (c_cons (k_var hX.e 1 rfl (.inl rfl)) (c_cons (k_var hX.e 6 rfl (.inl rfl)) c_nil)))) (c_cons (k_var hX.e 6 rfl (.inl rfl)) c_nil))))))) s_nil) (s_cons (k_set hX (i := 5) rfl (.inl rfl) (c_call hX.e F_law_cells (by decide) (hX.e.gl rfl) (c_cons (k_var hX.e 2 rfl (.inr (.inl rfl))) c_nil))) (s_cons (k_set hX (i := 6) rfl (.inl rfl) (c_idx hX.e.kk (c_oB (c_lst (c_cons (c_tupRevA hX.e.kk hX.e.calm (hX.e.gl rfl) (hX.e.no hb.tuple) (hX.e.gl rfl) (hX.e.no hb.reversed) (c_toB (k_var hX.e 2 rfl (.inr (.inl rfl))))) (c_cons (c_tup (c_cons (k_var hX.e 5 rfl (.inl rfl)) c_nil)) (c_cons (c_tup (c_cons c_int (c_cons (k_var hX.e 5 rfl (.inl rfl)) c_nil))) (c_cons (c_tup (c_cons (k_var hX.e 5 rfl (.inl rfl)) (c_cons c_int c_nil))) c_nil)))))) (c_call hX.e F_law_taken (by decide) (hX.e.gl rfl) (c_cons (k_var hX.e 0 rfl (.inr (.inl rfl))) (c_cons c_int c_nil))))) (s_one (s_ret (c_tup (c_cons (c_tup (c_cons c_str (c_cons (k_var hX.e 1 rfl (.inl rfl)) (c_cons (k_var hX.e 6 rfl (.inl rfl)) c_nil)))) (c_cons (k_var hX.e 6 rfl (.inl rfl)) c_nil)))))))))))
abbrev s_law_sided : Stmt := topS 14
abbrev N_law_sided : List Str := ["_law_row", "_law_a", "_law_own", "_law_way", "_law_side", "_law_size", "_law_folds", "_law_begin", "_law_step", "_law_room", "_law_many", "_law_by", "_law_deed"]
theorem sc_law_sided : FnScope N_law_sided ["_law_row", "_law_a", "_law_own", "_law_way"] (defScope s_law_sided) := ⟨rfl, rfl, rfl, by decide +kernel, rfl, by decide +kernel, by decide +kernel⟩
def m_law_sided_r13 : Stm := (sRet (eTup (aCons (eTup (aCons (eC (.str (Str.ofString "cut"))) (aCons (eVar 1) (aCons (eVar 4) (aCons (eVar 7) (aCons (eVar 8) (aCons (eVar 10) aNil))))))) (aCons (eCall f_law_changed (aCons (eVar 2) (aCons (eVar 4) (aCons (eVar 10) aNil)))) aNil))))
def m_law_sided_r12 : Stm := (sSeq (sSet 10 (e2 vSub (e2 vAdd (eVar 9) (eC (.int 1))) (eCall f_law_taken (aCons (eVar 0) (aCons (e2 vAdd (eVar 9) (eC (.int 2))) aNil))))) m_law_sided_r13)
def m_law_sided_r11 : Stm := (sSeq (sIf (tb (e2 vEq (eCall f_law_taken (aCons (eVar 0) (aCons (eC (.int 2)) aNil))) (eC (.int 1)))) (sSeq (sSet 9 (e2 vDiv (eVar 7) (eVar 8))) (sSet 8 (e2 vSub (eC (.int 0)) (eVar 8)))) sNext) m_law_sided_r12)
def m_law_sided_r10 : Stm := (sSeq (sSet 9 (e2 vDiv (e2 vSub (e2 vSub (eVar 5) (eC (.int 1))) (eVar 7)) (eVar 8))) m_law_sided_r11)
def m_law_sided_r9 : Stm := (sSeq (sSet 8 (e2 vAdd (eC (.int 1)) (eCall f_law_taken (aCons (eVar 0) (aCons (eC (.int 3)) aNil))))) m_law_sided_r10)
def m_law_sided_r8 : Stm := (sSeq (sIf (tb (e2 vEq (eVar 3) (eC (.int 7)))) (sRet (eTup (aCons (eTup (aCons (eC (.str (Str.ofString "drop"))) (aCons (eVar 1) (aCons (eVar 4) (aCons (eVar 7) aNil))))) (aCons (e2 vAdd (eCut (eVar 2) oNone (oSome (eVar 4))) (eCut (eVar 2) (oSome (e2 vAdd (eVar 4) (eC (.int 1)))) oNone)) aNil)))) sNext) m_law_sided_r9)
def m_law_sided_r7 : Stm := (sSeq (sSet 7 (eCall f_law_taken (aCons (eVar 0) (aCons (eVar 5) aNil)))) m_law_sided_r8)
def m_law_sided_r6 : Stm := (sSeq (sIf (tb (e2 vEq (eVar 5) (eC (.int 0)))) (sRet (eTup (aCons (eTup (aCons (eC (.str (Str.ofString "one"))) (aCons (eC (.str (Str.ofString "none"))) (aCons (eVar 1) aNil)))) (aCons (eVar 2) aNil)))) sNext) m_law_sided_r7)
def m_law_sided_r5 : Stm := (sSeq (sIf (tb (e2 vEq (eVar 3) (eC (.int 6)))) (sRet (eTup (aCons (eTup (aCons (eC (.str (Str.ofString "run"))) (aCons (e2 vIdx (eVar 6) (eCall f_law_taken (aCons (eVar 0) (aCons (eC (.int 4)) aNil)))) (aCons (eVar 1) (aCons (eVar 4) aNil))))) (aCons (eVar 2) aNil)))) sNext) m_law_sided_r6)
def m_law_sided_r4 : Stm := (sSeq (sIf (tb (e2 vEq (eVar 3) (eC (.int 5)))) (sSeq (sSet 12 (e2 vIdx (eVar 6) (e2 vMod (eCall f_law_taken (aCons (eVar 0) (aCons (eC (.int 4)) aNil))) (e2 vIdx (eFrz (aCons (eC (.int 2)) (aCons (eC (.int 4)) aNil))) (e1 vInt (e2 vGt (eVar 5) (eC (.int 0)))))))) (sRet (eTup (aCons (eTup (aCons (eC (.str (Str.ofString "fold"))) (aCons (eVar 12) (aCons (eVar 1) (aCons (eVar 4) aNil))))) (aCons (e2 vAdd (eCut (eVar 2) oNone (oSome (eVar 4))) (eCut (eVar 2) (oSome (e2 vAdd (eVar 4) (eC (.int 1)))) oNone)) aNil))))) sNext) m_law_sided_r5)
def m_law_sided_r3 : Stm := (sSeq (sIf (tb (e2 vEq (eVar 3) (eC (.int 4)))) (sSeq (sSet 11 (e2 vSub (eCall f_law_taken (aCons (eVar 0) (aCons (eC (.int 9)) aNil))) (eC (.int 4)))) (sRet (eTup (aCons (eTup (aCons (eC (.str (Str.ofString "shift"))) (aCons (eVar 1) (aCons (eVar 4) (aCons (eVar 11) (aCons (eCall f_law_taken (aCons (eVar 0) (aCons (eC (.int 1000003)) aNil))) aNil)))))) (aCons (eVar 2) aNil))))) sNext) m_law_sided_r4)
def m_law_sided_r2 : Stm := (sSeq (sSet 6 (eFrz (aCons (eC (.str (Str.ofString "add"))) (aCons (eC (.str (Str.ofString "times"))) (aCons (eC (.str (Str.ofString "least"))) (aCons (eC (.str (Str.ofString "most"))) aNil)))))) m_law_sided_r3)
def m_law_sided_r1 : Stm := (sSeq (sSet 5 (e2 vIdx (eVar 2) (eVar 4))) m_law_sided_r2)
def m_law_sided : Stm := (sSeq (sSet 4 (eCall f_law_taken (aCons (eVar 0) (aCons (e1 vLen (eVar 2)) aNil)))) m_law_sided_r1)
def f_law_sided : List DV → M DV := fnM 13 m_law_sided
theorem d_law_sided {T : Tp} {X : Cx} {c : Cn} (hb : Blt T.mg) (F_law_taken : Fo T "_law_taken" 4 1 2 f_law_taken) (F_law_changed : Fo T "_law_changed" 7 1 3 f_law_changed) (hX : XSt T X c N_law_sided 1 (defScope s_law_sided)) : PSs X (defBody s_law_sided) (RS c m_law_sided) :=
  (s_cons (k_set hX (i := 4) rfl (.inl rfl) (c_call hX.e F_law_taken (by decide) (hX.e.gl rfl) (c_cons (k_var hX.e 0 rfl (.inl rfl)) (c_cons (c_len hX.e.kk (hX.e.gl rfl) (hX.e.no hb.len) (c_toB (k_var hX.e 2 rfl (.inl rfl)))) c_nil)))) (s_cons (k_set hX (i := 5) rfl (.inl rfl) (c_idx hX.e.kk (c_toB (k_var hX.e 2 rfl (.inl rfl))) (k_var hX.e 4 rfl (.inl rfl)))) (s_cons (k_set hX (i := 6) rfl (.inl rfl) (c_frz (c_lst (c_cons c_str (c_cons c_str (c_cons c_str (c_cons c_str c_nil))))))) (s_cons (s_if (t_eq hX.e.kk hX.e.u (c_toB (k_var hX.e 3 rfl (.inl rfl))) (c_toB c_int)) (s_cons (k_set hX (i := 11) rfl (.inl rfl) (c_sub (c_call hX.e F_law_taken (by decide) (hX.e.gl rfl) (c_cons (k_var hX.e 0 rfl (.inl rfl)) (c_cons c_int c_nil))) c_int)) (s_one (s_ret (c_tup (c_cons (c_tup (c_cons c_str (c_cons (k_var hX.e 1 rfl (.inl rfl)) (c_cons (k_var hX.e 4 rfl (.inl rfl)) (c_cons (k_var hX.e 11 rfl (.inl rfl)) (c_cons (c_call hX.e F_law_taken (by decide) (hX.e.gl rfl) (c_cons (k_var hX.e 0 rfl (.inl rfl)) (c_cons c_int c_nil))) c_nil)))))) (c_cons (k_var hX.e 2 rfl (.inl rfl)) c_nil)))))) s_nil) (s_cons (s_if (t_eq hX.e.kk hX.e.u (c_toB (k_var hX.e 3 rfl (.inl rfl))) (c_toB c_int)) (s_cons (k_set hX (i := 12) rfl (.inl rfl) (c_idx hX.e.kk (c_toB (k_var hX.e 6 rfl (.inl rfl))) (c_mod (c_call hX.e F_law_taken (by decide) (hX.e.gl rfl) (c_cons (k_var hX.e 0 rfl (.inl rfl)) (c_cons c_int c_nil))) (c_idx hX.e.kk (c_oB (c_lst (c_cons c_int (c_cons c_int c_nil)))) (c_intOf (hX.e.gl rfl) (hX.e.no hb.int) (c_gt (k_var hX.e 5 rfl (.inl rfl)) c_int)))))) (s_one (s_ret (c_tup (c_cons (c_tup (c_cons c_str (c_cons (k_var hX.e 12 rfl (.inl rfl)) (c_cons (k_var hX.e 1 rfl (.inl rfl)) (c_cons (k_var hX.e 4 rfl (.inl rfl)) c_nil))))) (c_cons (c_add hX.e.kk (c_toB (c_cut hX.e.kk (c_toB (k_var hX.e 2 rfl (.inl rfl))) c_pn (c_ps (k_var hX.e 4 rfl (.inl rfl))))) (c_toB (c_cut hX.e.kk (c_toB (k_var hX.e 2 rfl (.inl rfl))) (c_ps (c_add hX.e.kk (c_toB (k_var hX.e 4 rfl (.inl rfl))) (c_toB c_int))) c_pn))) c_nil)))))) s_nil) (s_cons (s_if (t_eq hX.e.kk hX.e.u (c_toB (k_var hX.e 3 rfl (.inl rfl))) (c_toB c_int)) (s_one (s_ret (c_tup (c_cons (c_tup (c_cons c_str (c_cons (c_idx hX.e.kk (c_toB (k_var hX.e 6 rfl (.inl rfl))) (c_call hX.e F_law_taken (by decide) (hX.e.gl rfl) (c_cons (k_var hX.e 0 rfl (.inl rfl)) (c_cons c_int c_nil)))) (c_cons (k_var hX.e 1 rfl (.inl rfl)) (c_cons (k_var hX.e 4 rfl (.inl rfl)) c_nil))))) (c_cons (k_var hX.e 2 rfl (.inl rfl)) c_nil))))) s_nil) (s_cons (s_if (t_eq hX.e.kk hX.e.u (c_toB (k_var hX.e 5 rfl (.inl rfl))) (c_toB c_int)) (s_one (s_ret (c_tup (c_cons (c_tup (c_cons c_str (c_cons c_str (c_cons (k_var hX.e 1 rfl (.inl rfl)) c_nil)))) (c_cons (k_var hX.e 2 rfl (.inl rfl)) c_nil))))) s_nil) (s_cons (k_set hX (i := 7) rfl (.inl rfl) (c_call hX.e F_law_taken (by decide) (hX.e.gl rfl) (c_cons (k_var hX.e 0 rfl (.inl rfl)) (c_cons (k_var hX.e 5 rfl (.inl rfl)) c_nil)))) (s_cons (s_if (t_eq hX.e.kk hX.e.u (c_toB (k_var hX.e 3 rfl (.inl rfl))) (c_toB c_int)) (s_one (s_ret (c_tup (c_cons (c_tup (c_cons c_str (c_cons (k_var hX.e 1 rfl (.inl rfl)) (c_cons (k_var hX.e 4 rfl (.inl rfl)) (c_cons (k_var hX.e 7 rfl (.inl rfl)) c_nil))))) (c_cons (c_add hX.e.kk (c_toB (c_cut hX.e.kk (c_toB (k_var hX.e 2 rfl (.inl rfl))) c_pn (c_ps (k_var hX.e 4 rfl (.inl rfl))))) (c_toB (c_cut hX.e.kk (c_toB (k_var hX.e 2 rfl (.inl rfl))) (c_ps (c_add hX.e.kk (c_toB (k_var hX.e 4 rfl (.inl rfl))) (c_toB c_int))) c_pn))) c_nil))))) s_nil) (s_cons (k_set hX (i := 8) rfl (.inl rfl) (c_add hX.e.kk (c_toB c_int) (c_toB (c_call hX.e F_law_taken (by decide) (hX.e.gl rfl) (c_cons (k_var hX.e 0 rfl (.inl rfl)) (c_cons c_int c_nil)))))) (s_cons (k_set hX (i := 9) rfl (.inl rfl) (c_div (c_sub (c_sub (k_var hX.e 5 rfl (.inl rfl)) c_int) (k_var hX.e 7 rfl (.inl rfl))) (k_var hX.e 8 rfl (.inl rfl)))) (s_cons (s_if (t_eq hX.e.kk hX.e.u (c_toB (c_call hX.e F_law_taken (by decide) (hX.e.gl rfl) (c_cons (k_var hX.e 0 rfl (.inl rfl)) (c_cons c_int c_nil)))) (c_toB c_int)) (s_cons (k_set hX (i := 9) rfl (.inl rfl) (c_div (k_var hX.e 7 rfl (.inl rfl)) (k_var hX.e 8 rfl (.inl rfl)))) (s_one (k_set hX (i := 8) rfl (.inl rfl) (c_sub c_int (k_var hX.e 8 rfl (.inl rfl)))))) s_nil) (s_cons (k_set hX (i := 10) rfl (.inl rfl) (c_sub (c_add hX.e.kk (c_toB (k_var hX.e 9 rfl (.inl rfl))) (c_toB c_int)) (c_call hX.e F_law_taken (by decide) (hX.e.gl rfl) (c_cons (k_var hX.e 0 rfl (.inl rfl)) (c_cons (c_add hX.e.kk (c_toB (k_var hX.e 9 rfl (.inl rfl))) (c_toB c_int)) c_nil))))) (s_one (s_ret (c_tup (c_cons (c_tup (c_cons c_str (c_cons (k_var hX.e 1 rfl (.inl rfl)) (c_cons (k_var hX.e 4 rfl (.inl rfl)) (c_cons (k_var hX.e 7 rfl (.inl rfl)) (c_cons (k_var hX.e 8 rfl (.inl rfl)) (c_cons (k_var hX.e 10 rfl (.inl rfl)) c_nil))))))) (c_cons (c_call hX.e F_law_changed (by decide) (hX.e.gl rfl) (c_cons (k_var hX.e 2 rfl (.inl rfl)) (c_cons (k_var hX.e 4 rfl (.inl rfl)) (c_cons (k_var hX.e 10 rfl (.inl rfl)) c_nil)))) c_nil))))))))))))))))))
abbrev s_law_more : Stmt := topS 15
abbrev N_law_more : List Str := ["_law_row", "_law_a", "_law_sides", "_law_way", "_law_index", "_law_own", "_law_b", "_law_side", "_law_deed", "_law_c", "_law_found", "_law_k"]
theorem sc_law_more : FnScope N_law_more ["_law_row", "_law_a", "_law_sides", "_law_way", "_law_index"] (defScope s_law_more) := ⟨rfl, rfl, rfl, by decide +kernel, rfl, by decide +kernel, by decide +kernel⟩
def m_law_more_c1 : En → M (List DV) := (mLc [11] (iB (eCall f_law_taken (aCons (eVar 0) (aCons (eC (.int 3)) aNil))) itN) (tName 11) mYes (e2 vAdd (eC (.int 1)) (eCall f_law_taken (aCons (eVar 0) (aCons (eC (.int 3)) aNil)))))
def m_law_more_r10 : Stm := (sRet (eTup (aCons (eTup (aCons (eC (.str (Str.ofString "join"))) (aCons (eVar 1) (aCons (eVar 6) (aCons (eVar 7) aNil))))) (aCons (eCall f_law_changed (aCons (eVar 5) (aCons (eVar 7) (aCons (e2 vAdd (e2 vIdx (eVar 5) (eVar 7)) (e2 vIdx (e2 vIdx (eVar 2) (eVar 6)) (eVar 7))) aNil)))) aNil))))
def m_law_more_r9 : Stm := (sSeq (sIf (tOr (tb (e2 vNe (e1 vLen (e2 vIdx (eVar 2) (eVar 6))) (e1 vLen (eVar 5)))) (tb (e2 vNe (eCall f_law_changed (aCons (eVar 5) (aCons (eVar 7) (aCons (eC (.int 0)) aNil)))) (eCall f_law_changed (aCons (e2 vIdx (eVar 2) (eVar 6)) (aCons (eVar 7) (aCons (eC (.int 0)) aNil))))))) (sSet 6 (eVar 1)) sNext) m_law_more_r10)
def m_law_more_r8 : Stm := (sSeq (sIf (tb (e2 vEq (eVar 3) (eC (.int 13)))) (sSeq (sIf (tOr (tb (e2 vLt (eCall f_law_taken (aCons (eVar 0) (aCons (eC (.int 5)) aNil))) (eC (.int 4)))) (tb (e2 vNe (e1 vLen (e2 vIdx (eVar 2) (eVar 6))) (eC (.int 1))))) (sSet 6 (eVar 4)) sNext) (sRet (eTup (aCons (eTup (aCons (eC (.str (Str.ofString "pick"))) (aCons (eVar 1) (aCons (eVar 7) (aCons (eVar 6) aNil))))) (aCons (eCall f_law_changed (aCons (eVar 5) (aCons (eVar 7) (aCons (e2 vIdx (e2 vIdx (eVar 2) (eVar 6)) (eC (.int 0))) aNil)))) aNil))))) sNext) m_law_more_r9)
def m_law_more_r7 : Stm := (sSeq (sSet 7 (eCall f_law_taken (aCons (eVar 0) (aCons (e1 vLen (eVar 5)) aNil)))) m_law_more_r8)
def m_law_more_r6 : Stm := (sSeq (sIf (tb (e2 vEq (eVar 5) (eTup aNil))) (sRet (eTup (aCons (eTup (aCons (eC (.str (Str.ofString "one"))) (aCons (eC (.str (Str.ofString "minus"))) (aCons (eVar 1) aNil)))) (aCons (eVar 5) aNil)))) sNext) m_law_more_r7)
def m_law_more_r5 : Stm := (sSeq (sIf (tb (e2 vEq (eVar 3) (eC (.int 12)))) (sSeq (sSet 10 (e1 vTup (eFrz m_law_more_c1))) (sRet (eTup (aCons (eTup (aCons (eC (.str (Str.ofString "even"))) (aCons (eVar 10) (aCons (eCall f_law_taken (aCons (eVar 0) (aCons (eC (.int 1000003)) aNil))) aNil)))) (aCons (eVar 10) aNil))))) sNext) m_law_more_r6)
def m_law_more_r4 : Stm := (sSeq (sIf (tb (e2 vEq (eVar 3) (eC (.int 11)))) (sSeq (sSet 9 (eCall f_law_taken (aCons (eVar 0) (aCons (e1 vLen (eVar 2)) aNil)))) (sSeq (sSet 10 (eCall f_law_met (aCons (eVar 5) (aCons (e2 vIdx (eVar 2) (eVar 6)) aNil)))) (sSeq (sIf (tOr (tb (e1 vIsN (eVar 10))) (tb (e1 vIsN (eCall f_law_met (aCons (eVar 10) (aCons (e2 vIdx (eVar 2) (eVar 9)) aNil)))))) (sRet (eTup (aCons (eTup (aCons (eC (.str (Str.ofString "where"))) (aCons (eVar 1) (aCons (eVar 1) (aCons (eVar 1) aNil))))) (aCons (eVar 5) aNil)))) sNext) (sRet (eTup (aCons (eTup (aCons (eC (.str (Str.ofString "where"))) (aCons (eVar 6) (aCons (eVar 1) (aCons (eVar 9) aNil))))) (aCons (eCall f_law_met (aCons (eVar 10) (aCons (e2 vIdx (eVar 2) (eVar 9)) aNil))) aNil))))))) sNext) m_law_more_r5)
def m_law_more_r3 : Stm := (sSeq (sIf (tb (e2 vEq (eVar 3) (eC (.int 10)))) (sSeq (sSet 8 (e2 vIdx (eFrz (aCons (eC (.str (Str.ofString "add"))) (aCons (eC (.str (Str.ofString "less"))) (aCons (eC (.str (Str.ofString "times"))) (aCons (eC (.str (Str.ofString "least"))) (aCons (eC (.str (Str.ofString "most"))) (aCons (eC (.str (Str.ofString "below"))) (aCons (eC (.str (Str.ofString "alike"))) aNil)))))))) (eCall f_law_taken (aCons (eVar 0) (aCons (eC (.int 7)) aNil))))) (sSeq (sIf (tb (e1 vIsN (eCall f_law_met (aCons (eVar 5) (aCons (e2 vIdx (eVar 2) (eVar 6)) aNil))))) (sSet 6 (eVar 1)) sNext) (sRet (eTup (aCons (eTup (aCons (eC (.str (Str.ofString "both"))) (aCons (eVar 8) (aCons (eVar 1) (aCons (eVar 6) aNil))))) (aCons (eCall f_law_met (aCons (eVar 5) (aCons (e2 vIdx (eVar 2) (eVar 6)) aNil))) aNil)))))) sNext) m_law_more_r4)
def m_law_more_r2 : Stm := (sSeq (sIf (tb (e2 vEq (eVar 3) (eC (.int 9)))) (sRet (eTup (aCons (eTup (aCons (eC (.str (Str.ofString "one"))) (aCons (e2 vIdx (eFrz (aCons (eC (.str (Str.ofString "minus"))) (aCons (eC (.str (Str.ofString "half"))) (aCons (eC (.str (Str.ofString "none"))) aNil)))) (eCall f_law_taken (aCons (eVar 0) (aCons (eC (.int 3)) aNil)))) (aCons (eVar 1) aNil)))) (aCons (eVar 5) aNil)))) sNext) m_law_more_r3)
def m_law_more_r1 : Stm := (sSeq (sSet 6 (eCall f_law_taken (aCons (eVar 0) (aCons (e1 vLen (eVar 2)) aNil)))) m_law_more_r2)
def m_law_more : Stm := (sSeq (sSet 5 (e2 vIdx (eVar 2) (eVar 1))) m_law_more_r1)
def f_law_more : List DV → M DV := fnM 12 m_law_more
theorem d_law_more {T : Tp} {X : Cx} {c : Cn} (hb : Blt T.mg) (F_law_taken : Fo T "_law_taken" 4 1 2 f_law_taken) (F_law_met : Fo T "_law_met" 6 1 2 f_law_met) (F_law_changed : Fo T "_law_changed" 7 1 3 f_law_changed) (hX : XSt T X c N_law_more 1 (defScope s_law_more)) : PSs X (defBody s_law_more) (RS c m_law_more) :=
  (s_cons (k_set hX (i := 5) rfl (.inl rfl) (c_idx hX.e.kk (c_toB (k_var hX.e 2 rfl (.inl rfl))) (k_var hX.e 1 rfl (.inl rfl)))) (s_cons (k_set hX (i := 6) rfl (.inl rfl) (c_call hX.e F_law_taken (by decide) (hX.e.gl rfl) (c_cons (k_var hX.e 0 rfl (.inr (.inl rfl))) (c_cons (c_len hX.e.kk (hX.e.gl rfl) (hX.e.no hb.len) (c_toB (k_var hX.e 2 rfl (.inl rfl)))) c_nil)))) (s_cons (s_if (t_eq hX.e.kk hX.e.u (c_toB (k_var hX.e 3 rfl (.inl rfl))) (c_toB c_int)) (s_one (s_ret (c_tup (c_cons (c_tup (c_cons c_str (c_cons (c_idx hX.e.kk (c_oB (c_lst (c_cons c_str (c_cons c_str (c_cons c_str c_nil))))) (c_call hX.e F_law_taken (by decide) (hX.e.gl rfl) (c_cons (k_var hX.e 0 rfl (.inr (.inl rfl))) (c_cons c_int c_nil)))) (c_cons (k_var hX.e 1 rfl (.inl rfl)) c_nil)))) (c_cons (k_var hX.e 5 rfl (.inl rfl)) c_nil))))) s_nil) (s_cons (s_if (t_eq hX.e.kk hX.e.u (c_toB (k_var hX.e 3 rfl (.inl rfl))) (c_toB c_int)) (s_cons (k_set hX (i := 8) rfl (.inl rfl) (c_idx hX.e.kk (c_oB (c_lst (c_cons c_str (c_cons c_str (c_cons c_str (c_cons c_str (c_cons c_str (c_cons c_str (c_cons c_str c_nil))))))))) (c_call hX.e F_law_taken (by decide) (hX.e.gl rfl) (c_cons (k_var hX.e 0 rfl (.inr (.inl rfl))) (c_cons c_int c_nil))))) (s_cons (s_if (t_isN (c_toB (c_call hX.e F_law_met (by decide) (hX.e.gl rfl) (c_cons (k_var hX.e 5 rfl (.inl rfl)) (c_cons (c_idx hX.e.kk (c_toB (k_var hX.e 2 rfl (.inl rfl))) (k_var hX.e 6 rfl (.inl rfl))) c_nil))))) (s_one (k_set hX (i := 6) rfl (.inl rfl) (k_var hX.e 1 rfl (.inl rfl)))) s_nil) (s_one (s_ret (c_tup (c_cons (c_tup (c_cons c_str (c_cons (k_var hX.e 8 rfl (.inl rfl)) (c_cons (k_var hX.e 1 rfl (.inl rfl)) (c_cons (k_var hX.e 6 rfl (.inl rfl)) c_nil))))) (c_cons (c_call hX.e F_law_met (by decide) (hX.e.gl rfl) (c_cons (k_var hX.e 5 rfl (.inl rfl)) (c_cons (c_idx hX.e.kk (c_toB (k_var hX.e 2 rfl (.inl rfl))) (k_var hX.e 6 rfl (.inl rfl))) c_nil))) c_nil))))))) s_nil) (s_cons (s_if (t_eq hX.e.kk hX.e.u (c_toB (k_var hX.e 3 rfl (.inl rfl))) (c_toB c_int)) (s_cons (k_set hX (i := 9) rfl (.inl rfl) (c_call hX.e F_law_taken (by decide) (hX.e.gl rfl) (c_cons (k_var hX.e 0 rfl (.inr (.inl rfl))) (c_cons (c_len hX.e.kk (hX.e.gl rfl) (hX.e.no hb.len) (c_toB (k_var hX.e 2 rfl (.inl rfl)))) c_nil)))) (s_cons (k_set hX (i := 10) rfl (.inl rfl) (c_call hX.e F_law_met (by decide) (hX.e.gl rfl) (c_cons (k_var hX.e 5 rfl (.inl rfl)) (c_cons (c_idx hX.e.kk (c_toB (k_var hX.e 2 rfl (.inl rfl))) (k_var hX.e 6 rfl (.inl rfl))) c_nil)))) (s_cons (s_if (PW.pt (t_or (t_isN (c_toB (k_var hX.e 10 rfl (.inl rfl)))) (t_or1 (t_isN (c_toB (c_call hX.e F_law_met (by decide) (hX.e.gl rfl) (c_cons (k_var hX.e 10 rfl (.inl rfl)) (c_cons (c_idx hX.e.kk (c_toB (k_var hX.e 2 rfl (.inl rfl))) (k_var hX.e 9 rfl (.inl rfl))) c_nil)))))))) (s_one (s_ret (c_tup (c_cons (c_tup (c_cons c_str (c_cons (k_var hX.e 1 rfl (.inl rfl)) (c_cons (k_var hX.e 1 rfl (.inl rfl)) (c_cons (k_var hX.e 1 rfl (.inl rfl)) c_nil))))) (c_cons (k_var hX.e 5 rfl (.inl rfl)) c_nil))))) s_nil) (s_one (s_ret (c_tup (c_cons (c_tup (c_cons c_str (c_cons (k_var hX.e 6 rfl (.inl rfl)) (c_cons (k_var hX.e 1 rfl (.inl rfl)) (c_cons (k_var hX.e 9 rfl (.inl rfl)) c_nil))))) (c_cons (c_call hX.e F_law_met (by decide) (hX.e.gl rfl) (c_cons (k_var hX.e 10 rfl (.inl rfl)) (c_cons (c_idx hX.e.kk (c_toB (k_var hX.e 2 rfl (.inl rfl))) (k_var hX.e 9 rfl (.inl rfl))) c_nil))) c_nil)))))))) s_nil) (s_cons (s_if (t_eq hX.e.kk hX.e.u (c_toB (k_var hX.e 3 rfl (.inl rfl))) (c_toB c_int)) (s_cons (k_set hX (i := 10) rfl (.inl rfl) (c_tupOf hX.e.kk (hX.e.gl rfl) (hX.e.no hb.tuple) (c_oB (k_lc hX.e [("_law_k", 11)] (i_rng (hX.e.gl rfl) (hX.e.no hb.range) (c_call hX.e F_law_taken (by decide) (hX.e.gl rfl) (c_cons (k_var hX.e 0 rfl (.inr (.inl rfl))) (c_cons c_int c_nil)))) (by decide +kernel) (fun X' b1 => (k_gnB b1 (i := 11) rfl (.inl rfl) (.inr rfl))) (fun X' b1 => ts_nil) (fun X' b1 => (c_add b1.e.kk (c_toB c_int) (c_toB (c_call b1.e F_law_taken (by decide) (b1.e.gl rfl) (c_cons (k_var b1.e 0 rfl (.inr (.inl rfl))) (c_cons c_int c_nil)))))))))) (s_one (s_ret (c_tup (c_cons (c_tup (c_cons c_str (c_cons (k_var hX.e 10 rfl (.inl rfl)) (c_cons (c_call hX.e F_law_taken (by decide) (hX.e.gl rfl) (c_cons (k_var hX.e 0 rfl (.inr (.inl rfl))) (c_cons c_int c_nil))) c_nil)))) (c_cons (k_var hX.e 10 rfl (.inl rfl)) c_nil)))))) s_nil) (s_cons (s_if (t_eq hX.e.kk hX.e.u (c_toB (k_var hX.e 5 rfl (.inl rfl))) (c_toB (c_tup c_nil))) (s_one (s_ret (c_tup (c_cons (c_tup (c_cons c_str (c_cons c_str (c_cons (k_var hX.e 1 rfl (.inl rfl)) c_nil)))) (c_cons (k_var hX.e 5 rfl (.inl rfl)) c_nil))))) s_nil) (s_cons (k_set hX (i := 7) rfl (.inl rfl) (c_call hX.e F_law_taken (by decide) (hX.e.gl rfl) (c_cons (k_var hX.e 0 rfl (.inr (.inl rfl))) (c_cons (c_len hX.e.kk (hX.e.gl rfl) (hX.e.no hb.len) (c_toB (k_var hX.e 5 rfl (.inl rfl)))) c_nil)))) (s_cons (s_if (t_eq hX.e.kk hX.e.u (c_toB (k_var hX.e 3 rfl (.inl rfl))) (c_toB c_int)) (s_cons (s_if (PW.pt (t_or (t_lt (c_call hX.e F_law_taken (by decide) (hX.e.gl rfl) (c_cons (k_var hX.e 0 rfl (.inr (.inl rfl))) (c_cons c_int c_nil))) c_int) (t_or1 (t_ne hX.e.kk hX.e.u (c_toB (c_len hX.e.kk (hX.e.gl rfl) (hX.e.no hb.len) (c_toB (c_idx hX.e.kk (c_toB (k_var hX.e 2 rfl (.inl rfl))) (k_var hX.e 6 rfl (.inl rfl)))))) (c_toB c_int))))) (s_one (k_set hX (i := 6) rfl (.inl rfl) (k_var hX.e 4 rfl (.inl rfl)))) s_nil) (s_one (s_ret (c_tup (c_cons (c_tup (c_cons c_str (c_cons (k_var hX.e 1 rfl (.inl rfl)) (c_cons (k_var hX.e 7 rfl (.inl rfl)) (c_cons (k_var hX.e 6 rfl (.inl rfl)) c_nil))))) (c_cons (c_call hX.e F_law_changed (by decide) (hX.e.gl rfl) (c_cons (k_var hX.e 5 rfl (.inl rfl)) (c_cons (k_var hX.e 7 rfl (.inl rfl)) (c_cons (c_idx hX.e.kk (c_toB (c_idx hX.e.kk (c_toB (k_var hX.e 2 rfl (.inl rfl))) (k_var hX.e 6 rfl (.inl rfl)))) c_int) c_nil)))) c_nil)))))) s_nil) (s_cons (s_if (PW.pt (t_or (t_ne hX.e.kk hX.e.u (c_toB (c_len hX.e.kk (hX.e.gl rfl) (hX.e.no hb.len) (c_toB (c_idx hX.e.kk (c_toB (k_var hX.e 2 rfl (.inl rfl))) (k_var hX.e 6 rfl (.inl rfl)))))) (c_toB (c_len hX.e.kk (hX.e.gl rfl) (hX.e.no hb.len) (c_toB (k_var hX.e 5 rfl (.inl rfl)))))) (t_or1 (t_ne hX.e.kk hX.e.u (c_toB (c_call hX.e F_law_changed (by decide) (hX.e.gl rfl) (c_cons (k_var hX.e 5 rfl (.inl rfl)) (c_cons (k_var hX.e 7 rfl (.inl rfl)) (c_cons c_int c_nil))))) (c_toB (c_call hX.e F_law_changed (by decide) (hX.e.gl rfl) (c_cons (c_idx hX.e.kk (c_toB (k_var hX.e 2 rfl (.inl rfl))) (k_var hX.e 6 rfl (.inl rfl))) (c_cons (k_var hX.e 7 rfl (.inl rfl)) (c_cons c_int c_nil))))))))) (s_one (k_set hX (i := 6) rfl (.inl rfl) (k_var hX.e 1 rfl (.inl rfl)))) s_nil) (s_one (s_ret (c_tup (c_cons (c_tup (c_cons c_str (c_cons (k_var hX.e 1 rfl (.inl rfl)) (c_cons (k_var hX.e 6 rfl (.inl rfl)) (c_cons (k_var hX.e 7 rfl (.inl rfl)) c_nil))))) (c_cons (c_call hX.e F_law_changed (by decide) (hX.e.gl rfl) (c_cons (k_var hX.e 5 rfl (.inl rfl)) (c_cons (k_var hX.e 7 rfl (.inl rfl)) (c_cons (c_add hX.e.kk (c_toB (c_idx hX.e.kk (c_toB (k_var hX.e 5 rfl (.inl rfl))) (k_var hX.e 7 rfl (.inl rfl)))) (c_toB (c_idx hX.e.kk (c_toB (c_idx hX.e.kk (c_toB (k_var hX.e 2 rfl (.inl rfl))) (k_var hX.e 6 rfl (.inl rfl)))) (k_var hX.e 7 rfl (.inl rfl))))) c_nil)))) c_nil)))))))))))))))
abbrev s_law_program : Stmt := topS 16
abbrev N_law_program : List Str := ["_law_row", "_law_given", "_law_k", "_law_count", "_law_turn", "_law_program_here", "_law_sides", "_law_index", "_law_many", "_law_a", "_law_way", "_law_found", "_law_line", "_law_j"]
theorem sc_law_program : FnScope N_law_program ["_law_row"] (defScope s_law_program) := ⟨rfl, rfl, rfl, by decide +kernel, rfl, by decide +kernel, by decide +kernel⟩
def m_law_program_c1 : En → M (List DV) := (mLc [13] (iB (eVar 8) itN) (tName 13) mYes (e2 vIdx (eFrz (aCons (eC (.int 2)) (aCons (eC (.int 3)) (aCons (eC (.int 1)) (aCons (eC (.int 2)) (aCons (eC (.int 3)) (aCons (eC (.int 1)) (aCons (eC (.int 2)) (aCons (eC (.int 0)) aNil))))))))) (eCall f_law_taken (aCons (eVar 0) (aCons (eC (.int 8)) aNil)))))
def m_law_program_b1 : Stm := (sSeq (sSet 8 (eCall f_law_taken (aCons (eVar 0) (aCons (eC (.int 4)) aNil)))) (sApp 1 (e1 vTup (eFrz m_law_program_c1))))
def m_law_program_c2 : En → M (List DV) := (mLc [2] (iB (eVar 3) itN) (tName 2) mYes (eTup (aCons (eC (.str (Str.ofString "given"))) (aCons (e2 vMod (e2 vAdd (eVar 2) (eVar 4)) (eVar 3)) aNil))))
def m_law_program_c3 : En → M (List DV) := (mLc [12] (iB (eVar 5) itS) (tName 12) mYes (e2 vIdx (eBor 1) (e2 vIdx (eVar 12) (eC (.int 1)))))
def m_law_program_b2 : Stm := (sSeq (sSet 9 (e2 vSub (e2 vSub (e1 vLen (eBor 5)) (eC (.int 1))) (eCall f_law_taken (aCons (eVar 0) (aCons (e1 vLen (eBor 5)) aNil))))) (sSeq (sSet 10 (eCall f_law_taken (aCons (eVar 0) (aCons (eC (.int 16)) aNil)))) (sSeq (sIf (tb (e2 vLt (eVar 10) (eC (.int 4)))) (sSet 11 (eCall f_law_view (aCons (eVar 0) (aCons (eVar 9) (aCons (e2 vIdx (eBor 6) (eVar 9)) (aCons (eVar 10) aNil)))))) (sIf (tAnd (tb (e2 vLt (eVar 10) (eC (.int 9)))) (tb (e2 vNe (e2 vIdx (eBor 6) (eVar 9)) (eTup aNil)))) (sSet 11 (eCall f_law_sided (aCons (eVar 0) (aCons (eVar 9) (aCons (e2 vIdx (eBor 6) (eVar 9)) (aCons (eVar 10) aNil)))))) (sIf (tb (e2 vEq (eVar 10) (eC (.int 15)))) (sSet 11 (eTup (aCons (eTup (aCons (eC (.str (Str.ofString "given"))) (aCons (e2 vMod (eVar 9) (eVar 3)) aNil))) (aCons (e2 vIdx (eBor 1) (e2 vMod (eVar 9) (eVar 3))) aNil)))) (sSet 11 (eCallL f_law_more (aCons (eVar 0) (aCons (eVar 9) (aCons (eBor 6) (aCons (eVar 10) (aCons (eVar 7) aNil)))))))))) (sSeq (sIf (tOr (tb (e2 vGt (eCall f_law_cells (aCons (e2 vIdx (eVar 11) (eC (.int 1))) aNil)) (eC (.int 27)))) (tOr (tb (e2 vGt (e1 vLen (e2 vIdx (eVar 11) (eC (.int 1)))) (eC (.int 4)))) (tb (e2 vGt (e2 vMaxD (e2 vIdx (eVar 11) (eC (.int 1))) (eC (.int 0))) (eC (.int 24)))))) (sSet 11 (eTup (aCons (eTup (aCons (eC (.str (Str.ofString "one"))) (aCons (eC (.str (Str.ofString "minus"))) (aCons (eVar 9) aNil)))) (aCons (e2 vIdx (eBor 6) (eVar 9)) aNil)))) sNext) (sSeq (sApp 5 (e2 vIdx (eVar 11) (eC (.int 0)))) (sApp 6 (e2 vIdx (eVar 11) (eC (.int 1)))))))))
def m_law_program_r9 : Stm := (sSeq (sFrz 6) (sSeq (sFrz 5) (sSeq (sFrz 1) (sRet (eTup (aCons (eVar 5) (aCons (eVar 6) (aCons (eVar 3) (aCons (eVar 1) aNil)))))))))
def m_law_program_r8 : Stm := (sSeq (sFor (iB (e2 vAdd (eC (.int 1)) (eCall f_law_taken (aCons (eVar 0) (aCons (eC (.int 10)) aNil)))) itN) (tName 2) [2, 9, 10, 11] m_law_program_b2) m_law_program_r9)
def m_law_program_r7 : Stm := (sSeq (sSet 7 (e2 vMod (e2 vSub (e2 vSub (eVar 3) (eC (.int 1))) (eVar 4)) (eVar 3))) m_law_program_r8)
def m_law_program_r6 : Stm := (sSeq (sSetO 6 (lendO 5 m_law_program_c3)) m_law_program_r7)
def m_law_program_r5 : Stm := (sSeq (sSetO 5 m_law_program_c2) m_law_program_r6)
def m_law_program_r4 : Stm := (sSeq (sSet 4 (eCall f_law_taken (aCons (eVar 0) (aCons (eVar 3) aNil)))) m_law_program_r5)
def m_law_program_r3 : Stm := (sSeq (sSet 3 (e1 vLen (eBor 1))) m_law_program_r4)
def m_law_program_r2 : Stm := (sSeq (sApp 1 (eTup (aCons (e2 vIdx (eFrz (aCons (eC (.int 2)) (aCons (eC (.int 3)) (aCons (eC (.int 1)) (aCons (eC (.int 4)) aNil))))) (eCall f_law_taken (aCons (eVar 0) (aCons (eC (.int 4)) aNil)))) aNil))) m_law_program_r3)
def m_law_program_r1 : Stm := (sSeq (sFor (iB (e2 vAdd (eC (.int 1)) (eCall f_law_taken (aCons (eVar 0) (aCons (eC (.int 2)) aNil)))) itN) (tName 2) [2, 8] m_law_program_b1) m_law_program_r2)
def m_law_program : Stm := (sSeq (sSetO 1 aNil) m_law_program_r1)
def f_law_program : List DV → M DV := fnM 14 m_law_program
theorem d_law_program {T : Tp} {X : Cx} {c : Cn} (hb : Blt T.mg) (F_law_taken : Fo T "_law_taken" 4 1 2 f_law_taken) (F_law_cells : Fo T "_law_cells" 5 1 1 f_law_cells) (F_law_view : Fo T "_law_view" 8 2 4 f_law_view) (F_law_sided : Fo T "_law_sided" 9 2 4 f_law_sided) (F_law_more : Fo T "_law_more" 10 2 5 f_law_more) (hX : XSt T X c N_law_program 2 (defScope s_law_program)) : PSs X (defBody s_law_program) (RS c m_law_program) :=
  (s_cons (k_setO hX (i := 1) rfl (.inr rfl) (c_lst c_nil)) (s_cons (k_for [2, 8] hX (i_rng (hX.e.gl rfl) (hX.e.no hb.range) (c_add hX.e.kk (c_toB c_int) (c_toB (c_call hX.e F_law_taken (by decide) (hX.e.gl rfl) (c_cons (k_var hX.e 0 rfl (.inr (.inl rfl))) (c_cons c_int c_nil)))))) (k_gn hX (i := 2) rfl (.inl rfl)) (s_cons (k_set hX (i := 8) rfl (.inl rfl) (c_call hX.e F_law_taken (by decide) (hX.e.gl rfl) (c_cons (k_var hX.e 0 rfl (.inr (.inl rfl))) (c_cons c_int c_nil)))) (s_one (k_app hX (i := 1) rfl (.inr (.inl rfl)) (c_tupOf hX.e.kk (hX.e.gl rfl) (hX.e.no hb.tuple) (c_oB (k_lc hX.e [("_law_j", 13)] (i_rng (hX.e.gl rfl) (hX.e.no hb.range) (k_var hX.e 8 rfl (.inl rfl))) (by decide +kernel) (fun X' b1 => (k_gnB b1 (i := 13) rfl (.inl rfl) (.inr rfl))) (fun X' b1 => ts_nil) (fun X' b1 => (c_idx b1.e.kk (c_oB (c_lst (c_cons c_int (c_cons c_int (c_cons c_int (c_cons c_int (c_cons c_int (c_cons c_int (c_cons c_int (c_cons c_int c_nil)))))))))) (c_call b1.e F_law_taken (by decide) (b1.e.gl rfl) (c_cons (k_var b1.e 0 rfl (.inr (.inl rfl))) (c_cons c_int c_nil)))))))))))) (s_cons (k_app hX (i := 1) rfl (.inr (.inl rfl)) (c_tup (c_cons (c_idx hX.e.kk (c_oB (c_lst (c_cons c_int (c_cons c_int (c_cons c_int (c_cons c_int c_nil)))))) (c_call hX.e F_law_taken (by decide) (hX.e.gl rfl) (c_cons (k_var hX.e 0 rfl (.inr (.inl rfl))) (c_cons c_int c_nil)))) c_nil))) (s_cons (k_set hX (i := 3) rfl (.inr rfl) (c_len hX.e.kk (hX.e.gl rfl) (hX.e.no hb.len) (k_bor hX.e 1 rfl (.inr (.inl rfl))))) (s_cons (k_set hX (i := 4) rfl (.inr rfl) (c_call hX.e F_law_taken (by decide) (hX.e.gl rfl) (c_cons (k_var hX.e 0 rfl (.inr (.inl rfl))) (c_cons (k_var hX.e 3 rfl (.inr (.inl rfl))) c_nil)))) (s_cons (k_setLc hX (i := 5) [("_law_k", 2)] rfl rfl rfl (by decide +kernel) rfl (i_rng (hX.e.gl rfl) (hX.e.no hb.range) (k_var hX.e 3 rfl (.inr (.inl rfl)))) (by decide +kernel) (fun X' b2 => (k_gnB b2 (i := 2) rfl (.inl rfl) (.inr rfl))) (fun X' b2 => ts_nil) (fun X' b2 => (c_tup (c_cons c_str (c_cons (c_mod (c_add b2.e.kk (c_toB (k_var b2.e 2 rfl (.inl rfl))) (c_toB (k_var b2.e 4 rfl (.inr (.inl rfl))))) (k_var b2.e 3 rfl (.inr (.inl rfl)))) c_nil))))) (s_cons (k_setLcL 5 hX (i := 6) [("_law_line", 12)] rfl rfl rfl (by decide +kernel) rfl (i_seq hX.e.kk (k_var hX.e 5 rfl (.inl rfl))) (by decide +kernel) (fun X' b3 => (k_gnB b3 (i := 12) rfl (.inl rfl) (.inr rfl))) (fun X' b3 => ts_nil) (fun X' b3 => (c_idx b3.e.kk (k_bor b3.e 1 rfl (.inr (.inl rfl))) (c_idx b3.e.kk (c_toB (k_var b3.e 12 rfl (.inl rfl))) c_int)))) (s_cons (k_set hX (i := 7) rfl (.inl rfl) (c_mod (c_sub (c_sub (k_var hX.e 3 rfl (.inr (.inl rfl))) c_int) (k_var hX.e 4 rfl (.inr (.inl rfl)))) (k_var hX.e 3 rfl (.inr (.inl rfl))))) (s_cons (k_for [2, 9, 10, 11] hX (i_rng (hX.e.gl rfl) (hX.e.no hb.range) (c_add hX.e.kk (c_toB c_int) (c_toB (c_call hX.e F_law_taken (by decide) (hX.e.gl rfl) (c_cons (k_var hX.e 0 rfl (.inr (.inl rfl))) (c_cons c_int c_nil)))))) (k_gn hX (i := 2) rfl (.inl rfl)) (s_cons (k_set hX (i := 9) rfl (.inl rfl) (c_sub (c_sub (c_len hX.e.kk (hX.e.gl rfl) (hX.e.no hb.len) (k_bor hX.e 5 rfl (.inl rfl))) c_int) (c_call hX.e F_law_taken (by decide) (hX.e.gl rfl) (c_cons (k_var hX.e 0 rfl (.inr (.inl rfl))) (c_cons (c_len hX.e.kk (hX.e.gl rfl) (hX.e.no hb.len) (k_bor hX.e 5 rfl (.inl rfl))) c_nil))))) (s_cons (k_set hX (i := 10) rfl (.inl rfl) (c_call hX.e F_law_taken (by decide) (hX.e.gl rfl) (c_cons (k_var hX.e 0 rfl (.inr (.inl rfl))) (c_cons c_int c_nil)))) (s_cons (s_if (t_lt (k_var hX.e 10 rfl (.inl rfl)) c_int) (s_one (k_set hX (i := 11) rfl (.inl rfl) (c_call hX.e F_law_view (by decide) (hX.e.gl rfl) (c_cons (k_var hX.e 0 rfl (.inr (.inl rfl))) (c_cons (k_var hX.e 9 rfl (.inl rfl)) (c_cons (c_idx hX.e.kk (k_bor hX.e 6 rfl (.inl rfl)) (k_var hX.e 9 rfl (.inl rfl))) (c_cons (k_var hX.e 10 rfl (.inl rfl)) c_nil))))))) (s_one (s_if (PW.pt (t_and (t_lt (k_var hX.e 10 rfl (.inl rfl)) c_int) (t_and1 (t_ne hX.e.kk hX.e.u (c_toB (c_idx hX.e.kk (k_bor hX.e 6 rfl (.inl rfl)) (k_var hX.e 9 rfl (.inl rfl)))) (c_toB (c_tup c_nil)))))) (s_one (k_set hX (i := 11) rfl (.inl rfl) (c_call hX.e F_law_sided (by decide) (hX.e.gl rfl) (c_cons (k_var hX.e 0 rfl (.inr (.inl rfl))) (c_cons (k_var hX.e 9 rfl (.inl rfl)) (c_cons (c_idx hX.e.kk (k_bor hX.e 6 rfl (.inl rfl)) (k_var hX.e 9 rfl (.inl rfl))) (c_cons (k_var hX.e 10 rfl (.inl rfl)) c_nil))))))) (s_one (s_if (t_eq hX.e.kk hX.e.u (c_toB (k_var hX.e 10 rfl (.inl rfl))) (c_toB c_int)) (s_one (k_set hX (i := 11) rfl (.inl rfl) (c_tup (c_cons (c_tup (c_cons c_str (c_cons (c_mod (k_var hX.e 9 rfl (.inl rfl)) (k_var hX.e 3 rfl (.inr (.inl rfl)))) c_nil))) (c_cons (c_idx hX.e.kk (k_bor hX.e 1 rfl (.inr (.inl rfl))) (c_mod (k_var hX.e 9 rfl (.inl rfl)) (k_var hX.e 3 rfl (.inr (.inl rfl))))) c_nil))))) (s_one (k_set hX (i := 11) rfl (.inl rfl) (c_callL hX.e F_law_more (by decide) (hX.e.gl rfl) (cb_cons (c_toB (k_var hX.e 0 rfl (.inr (.inl rfl)))) (cb_cons (c_toB (k_var hX.e 9 rfl (.inl rfl))) (cb_cons (k_bor hX.e 6 rfl (.inl rfl)) (cb_cons (c_toB (k_var hX.e 10 rfl (.inl rfl))) (cb_cons (c_toB (k_var hX.e 7 rfl (.inl rfl))) cb_nil))))))))))))) (s_cons (s_if (PW.pt (t_or (t_gt (c_call hX.e F_law_cells (by decide) (hX.e.gl rfl) (c_cons (c_idx hX.e.kk (c_toB (k_var hX.e 11 rfl (.inl rfl))) c_int) c_nil)) c_int) (t_or (t_gt (c_len hX.e.kk (hX.e.gl rfl) (hX.e.no hb.len) (c_toB (c_idx hX.e.kk (c_toB (k_var hX.e 11 rfl (.inl rfl))) c_int))) c_int) (t_or1 (t_gt (c_maxD hX.e.kk hX.e.calm hX.e.u (hX.e.gl rfl) (hX.e.no hb.max) (c_idx hX.e.kk (c_toB (k_var hX.e 11 rfl (.inl rfl))) c_int) c_int) c_int))))) (s_one (k_set hX (i := 11) rfl (.inl rfl) (c_tup (c_cons (c_tup (c_cons c_str (c_cons c_str (c_cons (k_var hX.e 9 rfl (.inl rfl)) c_nil)))) (c_cons (c_idx hX.e.kk (k_bor hX.e 6 rfl (.inl rfl)) (k_var hX.e 9 rfl (.inl rfl))) c_nil))))) s_nil) (s_cons (k_app hX (i := 5) rfl (.inl rfl) (c_idx hX.e.kk (c_toB (k_var hX.e 11 rfl (.inl rfl))) c_int)) (s_one (k_app hX (i := 6) rfl (.inl rfl) (c_idx hX.e.kk (c_toB (k_var hX.e 11 rfl (.inl rfl))) c_int))))))))) (s_one (s_frz (i := 6) (s_frz (i := 5) (s_frz (i := 1) (s_ret (c_tup (c_cons (k_var hX.e 5 rfl (.inl rfl)) (c_cons (k_var hX.e 6 rfl (.inl rfl)) (c_cons (k_var hX.e 3 rfl (.inr (.inl rfl))) (c_cons (k_var hX.e 1 rfl (.inr (.inl rfl))) c_nil)))))))))))))))))))
abbrev s_law_reads : Stmt := topS 17
abbrev N_law_reads : List Str := ["_law_line"]
theorem sc_law_reads : FnScope N_law_reads ["_law_line"] (defScope s_law_reads) := ⟨rfl, rfl, rfl, by decide +kernel, rfl, by decide +kernel, by decide +kernel⟩
def m_law_reads_r6 : Stm := (sRet (eFrz (aCons (e2 vIdx (eVar 0) (eC (.int 1))) aNil)))
def m_law_reads_r5 : Stm := (sSeq (sIf (tb (e2 vEq (e2 vIdx (eVar 0) (eC (.int 0))) (eC (.str (Str.ofString "join"))))) (sRet (eFrz (aCons (e2 vIdx (eVar 0) (eC (.int 1))) (aCons (e2 vIdx (eVar 0) (eC (.int 2))) aNil)))) sNext) m_law_reads_r6)
def m_law_reads_r4 : Stm := (sSeq (sIf (tb (e2 vEq (e2 vIdx (eVar 0) (eC (.int 0))) (eC (.str (Str.ofString "pick"))))) (sRet (eFrz (aCons (e2 vIdx (eVar 0) (eC (.int 1))) (aCons (e2 vIdx (eVar 0) (eC (.int 3))) aNil)))) sNext) m_law_reads_r5)
def m_law_reads_r3 : Stm := (sSeq (sIf (tOr (tb (e2 vEq (e2 vIdx (eVar 0) (eC (.int 0))) (eC (.str (Str.ofString "one"))))) (tOr (tb (e2 vEq (e2 vIdx (eVar 0) (eC (.int 0))) (eC (.str (Str.ofString "fold"))))) (tb (e2 vEq (e2 vIdx (eVar 0) (eC (.int 0))) (eC (.str (Str.ofString "run"))))))) (sRet (eFrz (aCons (e2 vIdx (eVar 0) (eC (.int 2))) aNil))) sNext) m_law_reads_r4)
def m_law_reads_r2 : Stm := (sSeq (sIf (tb (e2 vEq (e2 vIdx (eVar 0) (eC (.int 0))) (eC (.str (Str.ofString "both"))))) (sRet (eFrz (aCons (e2 vIdx (eVar 0) (eC (.int 2))) (aCons (e2 vIdx (eVar 0) (eC (.int 3))) aNil)))) sNext) m_law_reads_r3)
def m_law_reads_r1 : Stm := (sSeq (sIf (tb (e2 vEq (e2 vIdx (eVar 0) (eC (.int 0))) (eC (.str (Str.ofString "where"))))) (sRet (eFrz (aCons (e2 vIdx (eVar 0) (eC (.int 1))) (aCons (e2 vIdx (eVar 0) (eC (.int 2))) (aCons (e2 vIdx (eVar 0) (eC (.int 3))) aNil))))) sNext) m_law_reads_r2)
def m_law_reads : Stm := (sSeq (sIf (tOr (tb (e2 vEq (e2 vIdx (eVar 0) (eC (.int 0))) (eC (.str (Str.ofString "given"))))) (tb (e2 vEq (e2 vIdx (eVar 0) (eC (.int 0))) (eC (.str (Str.ofString "even")))))) (sRet (eFrz aNil)) sNext) m_law_reads_r1)
def f_law_reads : List DV → M DV := fnM 1 m_law_reads
theorem d_law_reads {T : Tp} {X : Cx} {c : Cn} (hb : Blt T.mg)  (hX : XSt T X c N_law_reads 0 (defScope s_law_reads)) : PSs X (defBody s_law_reads) (RS c m_law_reads) :=
  (s_cons (s_if (PW.pt (t_or (t_eq hX.e.kk hX.e.u (c_toB (c_idx hX.e.kk (c_toB (k_var hX.e 0 rfl (.inl rfl))) c_int)) (c_toB c_str)) (t_or1 (t_eq hX.e.kk hX.e.u (c_toB (c_idx hX.e.kk (c_toB (k_var hX.e 0 rfl (.inl rfl))) c_int)) (c_toB c_str))))) (s_one (s_ret (c_frz (c_lst c_nil)))) s_nil) (s_cons (s_if (t_eq hX.e.kk hX.e.u (c_toB (c_idx hX.e.kk (c_toB (k_var hX.e 0 rfl (.inl rfl))) c_int)) (c_toB c_str)) (s_one (s_ret (c_frz (c_lst (c_cons (c_idx hX.e.kk (c_toB (k_var hX.e 0 rfl (.inl rfl))) c_int) (c_cons (c_idx hX.e.kk (c_toB (k_var hX.e 0 rfl (.inl rfl))) c_int) (c_cons (c_idx hX.e.kk (c_toB (k_var hX.e 0 rfl (.inl rfl))) c_int) c_nil))))))) s_nil) (s_cons (s_if (t_eq hX.e.kk hX.e.u (c_toB (c_idx hX.e.kk (c_toB (k_var hX.e 0 rfl (.inl rfl))) c_int)) (c_toB c_str)) (s_one (s_ret (c_frz (c_lst (c_cons (c_idx hX.e.kk (c_toB (k_var hX.e 0 rfl (.inl rfl))) c_int) (c_cons (c_idx hX.e.kk (c_toB (k_var hX.e 0 rfl (.inl rfl))) c_int) c_nil)))))) s_nil) (s_cons (s_if (PW.pt (t_or (t_eq hX.e.kk hX.e.u (c_toB (c_idx hX.e.kk (c_toB (k_var hX.e 0 rfl (.inl rfl))) c_int)) (c_toB c_str)) (t_or (t_eq hX.e.kk hX.e.u (c_toB (c_idx hX.e.kk (c_toB (k_var hX.e 0 rfl (.inl rfl))) c_int)) (c_toB c_str)) (t_or1 (t_eq hX.e.kk hX.e.u (c_toB (c_idx hX.e.kk (c_toB (k_var hX.e 0 rfl (.inl rfl))) c_int)) (c_toB c_str)))))) (s_one (s_ret (c_frz (c_lst (c_cons (c_idx hX.e.kk (c_toB (k_var hX.e 0 rfl (.inl rfl))) c_int) c_nil))))) s_nil) (s_cons (s_if (t_eq hX.e.kk hX.e.u (c_toB (c_idx hX.e.kk (c_toB (k_var hX.e 0 rfl (.inl rfl))) c_int)) (c_toB c_str)) (s_one (s_ret (c_frz (c_lst (c_cons (c_idx hX.e.kk (c_toB (k_var hX.e 0 rfl (.inl rfl))) c_int) (c_cons (c_idx hX.e.kk (c_toB (k_var hX.e 0 rfl (.inl rfl))) c_int) c_nil)))))) s_nil) (s_cons (s_if (t_eq hX.e.kk hX.e.u (c_toB (c_idx hX.e.kk (c_toB (k_var hX.e 0 rfl (.inl rfl))) c_int)) (c_toB c_str)) (s_one (s_ret (c_frz (c_lst (c_cons (c_idx hX.e.kk (c_toB (k_var hX.e 0 rfl (.inl rfl))) c_int) (c_cons (c_idx hX.e.kk (c_toB (k_var hX.e 0 rfl (.inl rfl))) c_int) c_nil)))))) s_nil) (s_one (s_ret (c_frz (c_lst (c_cons (c_idx hX.e.kk (c_toB (k_var hX.e 0 rfl (.inl rfl))) c_int) c_nil)))))))))))
abbrev s_law_wanted : Stmt := topS 18
abbrev N_law_wanted : List Str := ["_law_program_here", "_law_due", "_law_ahead", "_law_place"]
theorem sc_law_wanted : FnScope N_law_wanted ["_law_program_here"] (defScope s_law_wanted) := ⟨rfl, rfl, rfl, by decide +kernel, rfl, by decide +kernel, by decide +kernel⟩
def m_law_wanted_b1 : Stm := (sIf (tb (e2 (vIn true) (eVar 3) (eBor 1))) (sSeq (sApp 1 (eVar 3)) (sAppH' (eVar 2) (eVar 3))) sNext)
def m_law_wanted_b2 : Stm := (sFor (iB (eCall f_law_reads (aCons (e2 vIdx (eVar 0) (ePop (eVar 2))) aNil)) itS) (tName 3) [3] m_law_wanted_b1)
def m_law_wanted : Stm := (sSeq (sSetO 1 (aCons (e2 vSub (e1 vLen (eVar 0)) (eC (.int 1))) aNil)) (sSeq (sSet 2 (eNew (aCons (e2 vSub (e1 vLen (eVar 0)) (eC (.int 1))) aNil))) (sSeq (sWhile 1000 (tb (e2 vNeX (eVar 2) (eFrz aNil))) [3] m_law_wanted_b2) (sSeq (sFrz 1) (sRet (eVar 1))))))
def f_law_wanted : List DV → M DV := fnM 4 m_law_wanted
theorem d_law_wanted {T : Tp} {X : Cx} {c : Cn} (hb : Blt T.mg) (F_law_reads : Fo T "_law_reads" 12 1 1 f_law_reads) (hX : XSt T X c N_law_wanted 1 (defScope s_law_wanted)) : PSs X (defBody s_law_wanted) (RS c m_law_wanted) :=
  (s_cons (k_setO hX (i := 1) rfl (.inl rfl) (c_lst (c_cons (c_sub (c_len hX.e.kk (hX.e.gl rfl) (hX.e.no hb.len) (c_toB (k_var hX.e 0 rfl (.inl rfl)))) c_int) c_nil))) (s_cons (k_set hX (i := 2) rfl (.inl rfl) (c_new (c_lst (c_cons (c_sub (c_len hX.e.kk (hX.e.gl rfl) (hX.e.no hb.len) (c_toB (k_var hX.e 0 rfl (.inl rfl)))) c_int) c_nil)))) (s_cons (s_while hX.pa (t_neX hX.e.kk hX.e.u (c_toB (k_var hX.e 2 rfl (.inl rfl))) (c_oB (c_lst c_nil))) (s_one (k_for [3] hX (i_seq hX.e.kk (c_call hX.e F_law_reads (by decide) (hX.e.gl rfl) (c_cons (c_idx hX.e.kk (c_toB (k_var hX.e 0 rfl (.inl rfl))) (c_pop (k_var hX.e 2 rfl (.inl rfl)))) c_nil))) (k_gn hX (i := 3) rfl (.inl rfl)) (s_one (s_if (t_notin hX.e.kk (k_var hX.e 3 rfl (.inl rfl)) (k_bor hX.e 1 rfl (.inl rfl))) (s_cons (k_app hX (i := 1) rfl (.inl rfl) (k_var hX.e 3 rfl (.inl rfl))) (s_one (s_appH (k_var hX.e 2 rfl (.inl rfl)) (k_var hX.e 3 rfl (.inl rfl))))) s_nil))))) (s_one (s_frz (i := 1) (s_ret (k_var hX.e 1 rfl (.inl rfl))))))))
abbrev s_law_kept : Stmt := topS 19
abbrev N_law_kept : List Str := ["_law_program_here", "_law_sides", "_law_wanted_here", "_law_due", "_law_often", "_law_at", "_law_line", "_law_place"]
theorem sc_law_kept : FnScope N_law_kept ["_law_program_here", "_law_sides"] (defScope s_law_kept) := ⟨rfl, rfl, rfl, by decide +kernel, rfl, by decide +kernel, by decide +kernel⟩
def m_law_kept_b1 : Stm := (sSeq (sSetI 4 (e2 vAdd (e2 vIdx (eBor 4) (eVar 7)) (eC (.int 1))) (eVar 7)) (sSeq (sIf (tOr (tb (e2 vEq (e2 vIdx (eVar 6) (eC (.int 0))) (eC (.str (Str.ofString "shape"))))) (tb (e2 vEq (e2 vIdx (eVar 6) (eC (.int 0))) (eC (.str (Str.ofString "pick")))))) (sSetI 3 (eC (.bl true)) (eVar 7)) sNext) (sSeq (sIf (tAnd (tb (e2 vNe (e2 vIdx (e2 vIdx (eVar 0) (eVar 7)) (eC (.int 0))) (eC (.str (Str.ofString "even"))))) (tb (e2 vGt (e2 vIdx (eBor 4) (eVar 7)) (eC (.int 1))))) (sSetI 3 (eC (.bl true)) (eVar 7)) sNext) (sIf (tAnd (tb (e2 vNe (e2 vIdx (e2 vIdx (eVar 0) (eVar 7)) (eC (.int 0))) (eC (.str (Str.ofString "even"))))) (tAnd (tb (e2 (vIn false) (e2 vIdx (eVar 6) (eC (.int 0))) (eFrz (aCons (eC (.str (Str.ofString "spread"))) (aCons (eC (.str (Str.ofString "both"))) (aCons (eC (.str (Str.ofString "where"))) aNil)))))) (tb (e2 vNe (e2 vIdx (eVar 1) (eVar 7)) (e2 vIdx (eVar 1) (eVar 5)))))) (sSetI 3 (eC (.bl true)) (eVar 7)) sNext))))
def m_law_kept_b2 : Stm := (sSeq (sSet 6 (e2 vIdx (eVar 0) (eVar 5))) (sSeq (sSetI 3 (eOr (e2 vIdx (eBor 3) (eVar 5)) (e2 (vIn false) (e2 vIdx (eVar 6) (eC (.int 0))) (eFrz (aCons (eC (.str (Str.ofString "given"))) (aCons (eC (.str (Str.ofString "fold"))) (aCons (eC (.str (Str.ofString "run"))) (aCons (eC (.str (Str.ofString "pick"))) aNil))))))) (eVar 5)) (sFor (iB (eCall f_law_reads (aCons (eVar 6) aNil)) itS) (tName 7) [7] m_law_kept_b1)))
def m_law_kept : Stm := (sSeq (sSet 2 (eCall f_law_wanted (aCons (eVar 0) aNil))) (sSeq (sSetO 3 (iB2 (eFrz (aCons (eC (.bl false)) aNil)) (e1 vLen (eVar 0)) lMul)) (sSeq (sSetO 4 (iB2 (eFrz (aCons (eC (.int 0)) aNil)) (e1 vLen (eVar 0)) lMul)) (sSeq (sFor (iB (eVar 2) itS) (tName 5) [5, 6, 7] m_law_kept_b2) (sSeq (sSetI 3 (eC (.bl true)) (e1 vNeg (eC (.int 1)))) (sSeq (sFrz 3) (sRet (eVar 3))))))))
def f_law_kept : List DV → M DV := fnM 8 m_law_kept
theorem d_law_kept {T : Tp} {X : Cx} {c : Cn} (hb : Blt T.mg) (F_law_reads : Fo T "_law_reads" 12 1 1 f_law_reads) (F_law_wanted : Fo T "_law_wanted" 13 2 1 f_law_wanted) (hX : XSt T X c N_law_kept 2 (defScope s_law_kept)) : PSs X (defBody s_law_kept) (RS c m_law_kept) :=
  (s_cons (k_set hX (i := 2) rfl (.inl rfl) (c_call hX.e F_law_wanted (by decide) (hX.e.gl rfl) (c_cons (k_var hX.e 0 rfl (.inl rfl)) c_nil))) (s_cons (k_setO hX (i := 3) rfl (.inl rfl) (c_mulO (c_oB (c_lst (c_cons c_bl c_nil))) (c_len hX.e.kk (hX.e.gl rfl) (hX.e.no hb.len) (c_toB (k_var hX.e 0 rfl (.inl rfl)))))) (s_cons (k_setO hX (i := 4) rfl (.inl rfl) (c_mulO (c_oB (c_lst (c_cons c_int c_nil))) (c_len hX.e.kk (hX.e.gl rfl) (hX.e.no hb.len) (c_toB (k_var hX.e 0 rfl (.inl rfl)))))) (s_cons (k_for [5, 6, 7] hX (i_seq hX.e.kk (k_var hX.e 2 rfl (.inl rfl))) (k_gn hX (i := 5) rfl (.inl rfl)) (s_cons (k_set hX (i := 6) rfl (.inl rfl) (c_idx hX.e.kk (c_toB (k_var hX.e 0 rfl (.inl rfl))) (k_var hX.e 5 rfl (.inl rfl)))) (s_cons (k_setI hX (s0 := 3) rfl (.inl rfl) (c_or (c_idx hX.e.kk (k_bor hX.e 3 rfl (.inl rfl)) (k_var hX.e 5 rfl (.inl rfl))) (c_one (c_in hX.e.kk (c_idx hX.e.kk (c_toB (k_var hX.e 6 rfl (.inl rfl))) c_int) (c_oB (c_lst (c_cons c_str (c_cons c_str (c_cons c_str (c_cons c_str c_nil))))))))) (k_var hX.e 5 rfl (.inl rfl))) (s_one (k_for [7] hX (i_seq hX.e.kk (c_call hX.e F_law_reads (by decide) (hX.e.gl rfl) (c_cons (k_var hX.e 6 rfl (.inl rfl)) c_nil))) (k_gn hX (i := 7) rfl (.inl rfl)) (s_cons (k_setI hX (s0 := 4) rfl (.inl rfl) (c_add hX.e.kk (c_toB (c_idx hX.e.kk (k_bor hX.e 4 rfl (.inl rfl)) (k_var hX.e 7 rfl (.inl rfl)))) (c_toB c_int)) (k_var hX.e 7 rfl (.inl rfl))) (s_cons (s_if (PW.pt (t_or (t_eq hX.e.kk hX.e.u (c_toB (c_idx hX.e.kk (c_toB (k_var hX.e 6 rfl (.inl rfl))) c_int)) (c_toB c_str)) (t_or1 (t_eq hX.e.kk hX.e.u (c_toB (c_idx hX.e.kk (c_toB (k_var hX.e 6 rfl (.inl rfl))) c_int)) (c_toB c_str))))) (s_one (k_setI hX (s0 := 3) rfl (.inl rfl) c_bl (k_var hX.e 7 rfl (.inl rfl)))) s_nil) (s_cons (s_if (PW.pt (t_and (t_ne hX.e.kk hX.e.u (c_toB (c_idx hX.e.kk (c_toB (c_idx hX.e.kk (c_toB (k_var hX.e 0 rfl (.inl rfl))) (k_var hX.e 7 rfl (.inl rfl)))) c_int)) (c_toB c_str)) (t_and1 (t_gt (c_idx hX.e.kk (k_bor hX.e 4 rfl (.inl rfl)) (k_var hX.e 7 rfl (.inl rfl))) c_int)))) (s_one (k_setI hX (s0 := 3) rfl (.inl rfl) c_bl (k_var hX.e 7 rfl (.inl rfl)))) s_nil) (s_one (s_if (PW.pt (t_and (t_ne hX.e.kk hX.e.u (c_toB (c_idx hX.e.kk (c_toB (c_idx hX.e.kk (c_toB (k_var hX.e 0 rfl (.inl rfl))) (k_var hX.e 7 rfl (.inl rfl)))) c_int)) (c_toB c_str)) (t_and (t_in hX.e.kk (c_idx hX.e.kk (c_toB (k_var hX.e 6 rfl (.inl rfl))) c_int) (c_oB (c_lst (c_cons c_str (c_cons c_str (c_cons c_str c_nil)))))) (t_and1 (t_ne hX.e.kk hX.e.u (c_toB (c_idx hX.e.kk (c_toB (k_var hX.e 1 rfl (.inl rfl))) (k_var hX.e 7 rfl (.inl rfl)))) (c_toB (c_idx hX.e.kk (c_toB (k_var hX.e 1 rfl (.inl rfl))) (k_var hX.e 5 rfl (.inl rfl))))))))) (s_one (k_setI hX (s0 := 3) rfl (.inl rfl) c_bl (k_var hX.e 7 rfl (.inl rfl)))) s_nil)))))))))) (s_cons (k_setI hX (s0 := 3) rfl (.inl rfl) c_bl (c_neg c_int)) (s_one (s_frz (i := 3) (s_ret (k_var hX.e 3 rfl (.inl rfl))))))))))
abbrev s_law_truths : Stmt := topS 20
abbrev N_law_truths : List Str := ["_law_found", "_law_due", "_law_one"]
theorem sc_law_truths : FnScope N_law_truths ["_law_found", "_law_due"] (defScope s_law_truths) := ⟨rfl, rfl, rfl, by decide +kernel, rfl, by decide +kernel, by decide +kernel⟩
def m_law_truths_b1 : Stm := (sIf (tNot (tb (e1 (vIsI .bool) (eVar 2)))) (sRet (eC (.bl false))) sNext)
def m_law_truths : Stm := (sSeq (sIf (tOr (tNot (tb (e1 (vIsI .list) (eVar 0)))) (tb (e2 vNe (e1 vLen (eVar 0)) (e1 vLen (eVar 1))))) (sRet (eC (.bl false))) sNext) (sSeq (sForX false (eVar 0) (tName 2) [2] m_law_truths_b1) (sRet (e2 vEqX (eVar 0) (eVar 1)))))
def f_law_truths : List DV → M DV := fnM 3 m_law_truths
theorem d_law_truths {T : Tp} {X : Cx} {c : Cn} (hb : Blt T.mg)  (hX : XSt T X c N_law_truths 0 (defScope s_law_truths)) : PSs X (defBody s_law_truths) (RS c m_law_truths) :=
  (s_cons (s_if (PW.pt (t_or (t_not (t_val (c_isI .list hX.e.kk (hX.e.gl rfl) (hX.e.no hb.isinstance) (hX.e.gl rfl) (hX.e.no hb.list) (by decide +kernel) (c_toB (k_var hX.e 0 rfl (.inl rfl)))))) (t_or1 (t_ne hX.e.kk hX.e.u (c_toB (c_len hX.e.kk (hX.e.gl rfl) (hX.e.no hb.len) (c_toB (k_var hX.e 0 rfl (.inl rfl))))) (c_toB (c_len hX.e.kk (hX.e.gl rfl) (hX.e.no hb.len) (c_toB (k_var hX.e 1 rfl (.inl rfl))))))))) (s_one (s_ret c_bl)) s_nil) (s_cons (k_forX [2] hX (ix_list (k_var hX.e 0 rfl (.inl rfl))) (k_gn hX (i := 2) rfl (.inl rfl)) (s_one (s_if (t_not (t_val (c_isI .bool hX.e.kk (hX.e.gl rfl) (hX.e.no hb.isinstance) (hX.e.gl rfl) (hX.e.no hb.bool) (by decide +kernel) (c_toB (k_var hX.e 2 rfl (.inl rfl)))))) (s_one (s_ret c_bl)) s_nil))) (s_one (s_ret (c_eqX hX.e.kk hX.e.u (c_toB (k_var hX.e 0 rfl (.inl rfl))) (c_toB (k_var hX.e 1 rfl (.inl rfl))))))))
abbrev s_law : Stmt := topS 21
abbrev N_law : List Str := ["_law_script", "_law_drawn", "_law_program_here", "_law_sides", "_law_wanted_here", "_law_due", "_law_found", "_law_kept_here", "_law_at"]
theorem sc_law : FnScope N_law ["_law_script"] (defScope s_law) := ⟨rfl, rfl, rfl, by decide +kernel, rfl, by decide +kernel, by decide +kernel⟩
def m_law_c1 : En → M (List DV) := (mLc [8] (iB (e1 vLen (eVar 2)) itN) (tName 8) mYes (e2 (vIn false) (eVar 8) (eVar 4)))
def m_law_r10 : Stm := (sRet (eAnd (eCall f_law_truths (aCons (eCall f_kept_lines (aCons (eVar 2) (aCons (eVar 3) aNil))) (aCons (eVar 7) aNil))) (eCall f_law_truths (aCons (eCall f_wanted_lines (aCons (eVar 2) aNil)) (aCons (eVar 5) aNil)))))
def m_law_r9 : Stm := (sSeq (sSetH (e1 vNot (e2 vIdx (eVar 6) (eC (.int 0)))) (eVar 6) (eC (.int 0))) m_law_r10)
def m_law_r8 : Stm := (sSeq (sIf (tOr (tNot (tb (eCall f_law_truths (aCons (eVar 6) (aCons (eVar 7) aNil))))) (tOr (tb (e2 vNe (eVar 2) (e2 vIdx (eVar 1) (eC (.int 0))))) (tb (e2 vNe (eVar 3) (e2 vIdx (eVar 1) (eC (.int 1))))))) (sRet (eC (.bl false))) sNext) m_law_r9)
def m_law_r7 : Stm := (sSeq (sSet 7 (eCall f_law_kept (aCons (eVar 2) (aCons (eVar 3) aNil)))) m_law_r8)
def m_law_r6 : Stm := (sSeq (sSet 6 (eCall f_kept_lines (aCons (eVar 2) (aCons (eVar 3) aNil)))) m_law_r7)
def m_law_r5 : Stm := (sSeq (sIf (tNot (tb (eCall f_law_truths (aCons (eCall f_wanted_lines (aCons (eVar 2) aNil)) (aCons (eVar 5) aNil))))) (sRet (eC (.bl false))) sNext) m_law_r6)
def m_law_r4 : Stm := (sSeq (sSetL 5 m_law_c1) m_law_r5)
def m_law_r3 : Stm := (sSeq (sSet 4 (eCall f_law_wanted (aCons (eVar 2) aNil))) m_law_r4)
def m_law_r2 : Stm := (sSeq (sSet 3 (eFrz (iB (e2 vIdx (eVar 1) (eC (.int 1))) lLst))) m_law_r3)
def m_law_r1 : Stm := (sSeq (sSet 2 (eFrz (iB (e2 vIdx (eVar 1) (eC (.int 0))) lLst))) m_law_r2)
def m_law : Stm := (sSeq (sSet 1 (eCall f_law_program (aCons (eNew (aCons (eVar 0) (aCons (eC (.int 0)) aNil))) aNil))) m_law_r1)
def f_law : List DV → M DV := fnM 9 m_law
theorem d_law {T : Tp} {X : Cx} {c : Cn} (hb : Blt T.mg) (F_wanted_lines : Fo T "wanted_lines" 1 2 1 f_wanted_lines) (F_kept_lines : Fo T "kept_lines" 3 3 2 f_kept_lines) (F_law_program : Fo T "_law_program" 11 3 1 f_law_program) (F_law_wanted : Fo T "_law_wanted" 13 2 1 f_law_wanted) (F_law_kept : Fo T "_law_kept" 14 3 2 f_law_kept) (F_law_truths : Fo T "_law_truths" 15 1 2 f_law_truths) (hX : XSt T X c N_law 3 (defScope s_law)) : PSs X (defBody s_law) (RS c m_law) :=
  (s_cons (k_set hX (i := 1) rfl (.inl rfl) (c_call hX.e F_law_program (by decide) (hX.e.gl rfl) (c_cons (c_new (c_lst (c_cons (k_var hX.e 0 rfl (.inl rfl)) (c_cons c_int c_nil)))) c_nil))) (s_cons (k_set hX (i := 2) rfl (.inl rfl) (c_frz (c_listOf hX.e.kk (hX.e.gl rfl) (hX.e.no hb.list) (c_toB (c_idx hX.e.kk (c_toB (k_var hX.e 1 rfl (.inl rfl))) c_int))))) (s_cons (k_set hX (i := 3) rfl (.inl rfl) (c_frz (c_listOf hX.e.kk (hX.e.gl rfl) (hX.e.no hb.list) (c_toB (c_idx hX.e.kk (c_toB (k_var hX.e 1 rfl (.inl rfl))) c_int))))) (s_cons (k_set hX (i := 4) rfl (.inr rfl) (c_call hX.e F_law_wanted (by decide) (hX.e.gl rfl) (c_cons (k_var hX.e 2 rfl (.inl rfl)) c_nil))) (s_cons (s_after (k_setLc hX (i := 5) [("_law_at", 8)] rfl rfl rfl (by decide +kernel) rfl (i_rng (hX.e.gl rfl) (hX.e.no hb.range) (c_len hX.e.kk (hX.e.gl rfl) (hX.e.no hb.len) (c_toB (k_var hX.e 2 rfl (.inl rfl))))) (by decide +kernel) (fun X' b1 => (k_gnB b1 (i := 8) rfl (.inl rfl) (.inr rfl))) (fun X' b1 => ts_nil) (fun X' b1 => (c_in b1.e.kk (k_var b1.e 8 rfl (.inl rfl)) (c_toB (k_var b1.e 4 rfl (.inr (.inl rfl)))))))) (s_cons (s_if (t_not (t_val (c_call hX.e F_law_truths (by decide) (hX.e.gl rfl) (c_cons (c_call hX.e F_wanted_lines (by decide) (hX.e.gl rfl) (c_cons (k_var hX.e 2 rfl (.inl rfl)) c_nil)) (c_cons (k_var hX.e 5 rfl (.inl rfl)) c_nil))))) (s_one (s_ret c_bl)) s_nil) (s_cons (k_set hX (i := 6) rfl (.inl rfl) (c_call hX.e F_kept_lines (by decide) (hX.e.gl rfl) (c_cons (k_var hX.e 2 rfl (.inl rfl)) (c_cons (k_var hX.e 3 rfl (.inl rfl)) c_nil)))) (s_cons (k_set hX (i := 7) rfl (.inl rfl) (c_call hX.e F_law_kept (by decide) (hX.e.gl rfl) (c_cons (k_var hX.e 2 rfl (.inl rfl)) (c_cons (k_var hX.e 3 rfl (.inl rfl)) c_nil)))) (s_cons (s_if (PW.pt (t_or (t_not (t_val (c_call hX.e F_law_truths (by decide) (hX.e.gl rfl) (c_cons (k_var hX.e 6 rfl (.inl rfl)) (c_cons (k_var hX.e 7 rfl (.inl rfl)) c_nil))))) (t_or (t_ne hX.e.kk hX.e.u (c_toB (k_var hX.e 2 rfl (.inl rfl))) (c_toB (c_idx hX.e.kk (c_toB (k_var hX.e 1 rfl (.inl rfl))) c_int))) (t_or1 (t_ne hX.e.kk hX.e.u (c_toB (k_var hX.e 3 rfl (.inl rfl))) (c_toB (c_idx hX.e.kk (c_toB (k_var hX.e 1 rfl (.inl rfl))) c_int))))))) (s_one (s_ret c_bl)) s_nil) (s_cons (s_setH (c_not (c_idx hX.e.kk (c_toB (k_var hX.e 6 rfl (.inl rfl))) c_int)) (k_var hX.e 6 rfl (.inl rfl)) c_int) (s_one (s_ret (c_and (c_call hX.e F_law_truths (by decide) (hX.e.gl rfl) (c_cons (c_call hX.e F_kept_lines (by decide) (hX.e.gl rfl) (c_cons (k_var hX.e 2 rfl (.inl rfl)) (c_cons (k_var hX.e 3 rfl (.inl rfl)) c_nil))) (c_cons (k_var hX.e 7 rfl (.inl rfl)) c_nil))) (c_one (c_call hX.e F_law_truths (by decide) (hX.e.gl rfl) (c_cons (c_call hX.e F_wanted_lines (by decide) (hX.e.gl rfl) (c_cons (k_var hX.e 2 rfl (.inl rfl)) c_nil)) (c_cons (k_var hX.e 5 rfl (.inl rfl)) c_nil)))))))))))))))))
end LM
-- dropped: f_law_whole_is whole_loop f_law_numbers_is sides_turn f_sides_met_is cells_loop f_cells_in_is fit_loop f_sides_fit_is f_without_is f_number_of_is fit_along_shift fit_along_run fit_fold_is fit_pick_is fit_join_is met_turn met_loop f_fit_met_is fit_turn_is fit_cut_is fit_drop_is fit_wide_is fit_spread_is fit_shape_is place_loop line_core line_even line_is line_given sides_turn1 sides_turn2 sides_pre f_sides_ok f_sides_bad cells_go cellsG fit_go fitG horn_go placeG tab_turn tab_go tableG lindexG fld_s fld_c mt_c tab_mk tab_mkL tab_mkR tcell dig_loop f_index_of_is f_spread_is line_ok line_gv
namespace LM
open PySem L2
@[simp] abbrev cTab : Nat := 1
@[simp] abbrev cBad : Nat := 2
@[simp] abbrev cCell : Nat := 3
@[simp] abbrev cT : Nat := 5

/-! ### drawing, told by places -/
def hR (ns : List Int) (k : Nat) : HP := [HObj.lst [.scr ns, .int (k : Int)]]
def tk (ns : List Int) (k : Nat) (m : Int) : Int := if k < ns.length then ns.getD k 0 % m else 0
theorem tk0 (ns : List Int) (k : Nat) {m : Int} (hm : 0 < m) : 0 ≤ tk ns k m := by
  unfold tk
  split
  · exact Int.emod_nonneg _ (by omega)
  · decide
theorem tk1 (ns : List Int) (k : Nat) {m : Int} (hm : 0 < m) : tk ns k m < m := by
  unfold tk
  split
  · exact Int.emod_lt_of_pos _ hm
  · exact hm
theorem tkN (ns : List Int) (k : Nat) {m : Int} (hm : 0 < m) : ∃ t : Nat, tk ns k m = (t : Int) ∧ (t : Int) < m := by
  have a := tk0 ns k hm
  have b := tk1 ns k hm
  exact ⟨(tk ns k m).toNat, by omega, by omega⟩
@[simp] theorem taken_at (ns : List Int) (k : Nat) (m : Int) (hm : 0 < m) : f_law_taken [.ref 0, .int m] (hR ns k) = .ok (.int (tk ns k m)) (hR ns (k + 1)) := by
  unfold hR tk
  have r0 := fun (j : Int) => vIdx_ref 0 1 (HObj.lst [.scr ns, .int j] :: []) [.scr ns, .int j] rfl
  have r1 := fun (j : Int) => vIdx_ref 0 0 (HObj.lst [.scr ns, .int j] :: []) [.scr ns, .int j] rfl
  have st : ∀ j : Int, hSet (HObj.lst [.scr ns, .int j] :: []) (.ref 0) (.int 1) (.int (j + 1)) = some (HObj.lst [.scr ns, .int (j + 1)] :: []) := fun j => rfl
  unfold f_law_taken
  rw [fnM_app]
  by_cases z : k < ns.length
  · have g := getI_nat (HObj.lst [.scr ns, .int ((k : Int) + 1)] :: []) (nums ns) k (nums_at z)
    have z2 : (k : Int) < ns.length := by omega
    simp only [List.getD_eq_getElem?_getD] at g ⊢
    simp [m_law_taken, List.replicate, r0, r1, getI0, getI1, st, z, z2, g, hm]
  · have z2 : ¬ (k : Int) < ns.length := by omega
    simp [m_law_taken, List.replicate, r0, r1, getI0, getI1, st, z, z2]

/-! ### drawing -/
def Row0 (ns : List Int) (h : HP) : Prop := ∃ k : Nat, h = [HObj.lst [.scr ns, .int (k : Int)]]
theorem f_law_taken_is (ns : List Int) (m : Int) (hm : 0 < m) (h : HP) (r : Row0 ns h) : ∃ (t : Int) (h' : HP), 0 ≤ t ∧ t < m ∧ Row0 ns h' ∧ f_law_taken [.ref 0, .int m] h = .ok (.int t) h' := by
  obtain ⟨k, e⟩ := r
  subst e
  have r0 := fun (j : Int) => vIdx_ref 0 1 (HObj.lst [.scr ns, .int j] :: []) [.scr ns, .int j] rfl
  have r1 := fun (j : Int) => vIdx_ref 0 0 (HObj.lst [.scr ns, .int j] :: []) [.scr ns, .int j] rfl
  have st : ∀ j : Int, hSet (HObj.lst [.scr ns, .int j] :: []) (.ref 0) (.int 1) (.int (j + 1)) = some (HObj.lst [.scr ns, .int (j + 1)] :: []) := fun j => rfl
  unfold f_law_taken
  rw [fnM_app]
  by_cases z : k < ns.length
  · have g := getI_nat (HObj.lst [.scr ns, .int ((k : Int) + 1)] :: []) (nums ns) k (nums_at z)
    have z2 : (k : Int) < ns.length := by omega
    refine ⟨ns.getD k 0 % m, _, Int.emod_nonneg _ (by omega), Int.emod_lt_of_pos _ hm, ⟨k + 1, rfl⟩, ?_⟩
    simp only [List.getD_eq_getElem?_getD] at g ⊢
    simp [m_law_taken, List.replicate, r0, r1, getI0, getI1, st, z, z2, g, hm]
  · have z2 : ¬ (k : Int) < ns.length := by omega
    refine ⟨0, _, by decide, hm, ⟨k + 1, rfl⟩, ?_⟩
    simp [m_law_taken, List.replicate, r0, r1, getI0, getI1, st, z, z2]


def padL (a : List Int) (n k : Nat) : Int := if n - a.length ≤ k then a.getD (k + a.length - n) 0 else 1
def padR (a : List Int) (k : Nat) : Int := if k < a.length then a.getD (a.length - 1 - k) 0 else 1
theorem pad_is (a : List Int) (n k : Nat) (hk : k < n) (hn : a.length ≤ n) : padL a n (n - 1 - k) = padR a k := by
  unfold padL padR
  by_cases z : k < a.length
  · rw [if_pos z, if_pos (by omega)]
    congr 1
    omega
  · rw [if_neg z, if_neg (by omega)]
def met (x y : Int) : Int := if x = 1 then y else x
def metOk (x y : Int) : Bool := decide (x = y) || (decide (x = 1) || decide (y = 1))
theorem met_comm {x y : Int} (h : metOk x y = true) : met y x = met x y := by
  unfold metOk at h
  simp only [Bool.or_eq_true, decide_eq_true_eq] at h
  unfold met
  by_cases a : x = 1
  · by_cases b : y = 1
    · simp [a, b]
    · simp [a, b]
  · by_cases b : y = 1
    · simp [a, b]
    · simp [a, b]
      omega
theorem metOk_comm (x y : Int) : metOk y x = metOk x y := by
  unfold metOk
  rw [Bool.eq_iff_iff]
  simp only [Bool.or_eq_true, decide_eq_true_eq]
  omega
def metL (a b : List Int) : DV := if (List.range (max a.length b.length)).all fun k => metOk (padL a (max a.length b.length) k) (padL b (max a.length b.length) k) then
  .tup (nums ((List.range (max a.length b.length)).map fun k => met (padL a (max a.length b.length) k) (padL b (max a.length b.length) k))) else .non
theorem metL_comm (a b : List Int) : metL b a = metL a b := by
  unfold metL
  rw [Nat.max_comm b.length a.length]
  have e : ((List.range (max a.length b.length)).all fun k => metOk (padL b (max a.length b.length) k) (padL a (max a.length b.length) k)) = (List.range (max a.length b.length)).all fun k => metOk (padL a (max a.length b.length) k) (padL b (max a.length b.length) k) := by
    congr 1
    funext k
    exact metOk_comm _ _
  rw [e]
  by_cases z : ((List.range (max a.length b.length)).all fun k => metOk (padL a (max a.length b.length) k) (padL b (max a.length b.length) k)) = true
  · rw [if_pos z, if_pos z]
    congr 2
    apply List.map_congr_left
    intro k hk
    exact met_comm (List.all_eq_true.mp z k hk)
  · rw [if_neg z, if_neg z]
theorem max_if (a b : Nat) : (if a < b then (b : Int) else (a : Int)) = ((max a b : Nat) : Int) := by
  split <;> omega
theorem pad_get (c : List Int) (n k : Nat) (hk : k < n) (hc : c.length ≤ n) (h : HP) (z : (n : Int) - (c.length : Int) ≤ (k : Int)) : getI (nums c) ((k : Int) - (n : Int) + (c.length : Int)) h = .ok (.int (padL c n k)) h := by
  have e1 : (k : Int) - (n : Int) + (c.length : Int) = ((k + c.length - n : Nat) : Int) := by omega
  rw [e1]
  unfold padL
  rw [if_pos (by omega)]
  exact getI_nat h _ _ (nums_at (by omega))
theorem pad_not (c : List Int) (n k : Nat) (z : ¬ (n : Int) - (c.length : Int) ≤ (k : Int)) : padL c n k = 1 := by
  unfold padL
  rw [if_neg (by omega)]
/-! ### words -/
theorem lay_str (a : Str) (h : PyData.strOk a = true) : (PyData.str a).canLay0 = true := by
  unfold PyData.canLay0
  exact h
def words : List String := ["given", "even", "turn", "cut", "drop", "wide", "spread", "shape", "shift", "one", "both", "where", "fold", "run", "pick", "join", "add", "less", "times", "least", "most", "below", "alike", "minus", "half", "none", "place", "number", "sides", "many"]
def isW (a : String) : Bool := words.contains a
theorem words_ok : words.all (fun a => PyData.strOk (Str.ofString a)) = true := by decide +kernel
theorem words_ne : words.all (fun a => words.all fun b => decide (Str.ofString a = Str.ofString b) == decide (a = b)) = true := by decide +kernel
theorem isW_mem {a : String} (h : isW a = true) : a ∈ words := by
  unfold isW at h
  simpa using h
theorem word_lay {a : String} (h : isW a = true) : (PyData.str (Str.ofString a)).canLay0 = true := lay_str _ (List.all_eq_true.mp words_ok a (isW_mem h))
theorem word_eq {a b : String} (ha : isW a = true) (hb : isW b = true) : decide (Str.ofString a = Str.ofString b) = decide (a = b) := by
  have q := List.all_eq_true.mp (List.all_eq_true.mp words_ne a (isW_mem ha)) b (isW_mem hb)
  simpa using q
@[simp] theorem vEq_w (h : HP) (a b : String) (ha : isW a = true) (hb : isW b = true) : vEq (.str (Str.ofString a)) (.str (Str.ofString b)) h = .ok (.bl (decide (a = b))) h := by
  rw [vEq_str h _ _ (word_lay ha) (word_lay hb), word_eq ha hb]
@[simp] theorem isW_given : isW "given" = true := by decide +kernel
@[simp] theorem isW_even : isW "even" = true := by decide +kernel
@[simp] theorem isW_turn : isW "turn" = true := by decide +kernel
@[simp] theorem isW_cut : isW "cut" = true := by decide +kernel
@[simp] theorem isW_drop : isW "drop" = true := by decide +kernel
@[simp] theorem isW_wide : isW "wide" = true := by decide +kernel
@[simp] theorem isW_spread : isW "spread" = true := by decide +kernel
@[simp] theorem isW_shape : isW "shape" = true := by decide +kernel
@[simp] theorem isW_shift : isW "shift" = true := by decide +kernel
@[simp] theorem isW_one : isW "one" = true := by decide +kernel
@[simp] theorem isW_both : isW "both" = true := by decide +kernel
@[simp] theorem isW_where : isW "where" = true := by decide +kernel
@[simp] theorem isW_fold : isW "fold" = true := by decide +kernel
@[simp] theorem isW_run : isW "run" = true := by decide +kernel
@[simp] theorem isW_pick : isW "pick" = true := by decide +kernel
@[simp] theorem isW_join : isW "join" = true := by decide +kernel
@[simp] theorem isW_add : isW "add" = true := by decide +kernel
@[simp] theorem isW_less : isW "less" = true := by decide +kernel
@[simp] theorem isW_times : isW "times" = true := by decide +kernel
@[simp] theorem isW_least : isW "least" = true := by decide +kernel
@[simp] theorem isW_most : isW "most" = true := by decide +kernel
@[simp] theorem isW_below : isW "below" = true := by decide +kernel
@[simp] theorem isW_alike : isW "alike" = true := by decide +kernel
@[simp] theorem isW_minus : isW "minus" = true := by decide +kernel
@[simp] theorem isW_half : isW "half" = true := by decide +kernel
@[simp] theorem isW_none : isW "none" = true := by decide +kernel
@[simp] theorem isW_place : isW "place" = true := by decide +kernel
@[simp] theorem isW_number : isW "number" = true := by decide +kernel
@[simp] theorem isW_sides : isW "sides" = true := by decide +kernel
@[simp] theorem isW_many : isW "many" = true := by decide +kernel

theorem vNe_lst_nil (h : HP) (l : List DV) (q : okD (.lst l) = true) : vNe (.lst l) (.lst []) h = .ok (.bl (!decide (l = []))) h := by
  cases l with
  | nil =>
    rw [vNe_self h q]
    rfl
  | cons x r =>
    have e : eqD (.lst (x :: r)) (.lst []) = some false := by
      unfold okD at q
      unfold eqD
      cases z : toPD (.lst (x :: r)) with
      | none =>
        rw [z] at q
        cases q
      | some y =>
        rw [z] at q
        have z2 : (match toPDs (x :: r) with
          | some r => some (PyData.list r)
          | none => none) = some y := z
        cases z3 : toPDs (x :: r) with
        | none =>
          rw [z3] at z2
          cases z2
        | some t =>
          rw [z3] at z2
          have ey : PyData.list t = y := Option.some.inj z2
          subst ey
          have lt := toPDs_some z3
          cases t with
          | nil => cases lt
          | cons u v =>
            show (if (SeqAt.shaped (PyData.list (u :: v)) && SeqAt.shaped (PyData.list [])) = true then some (PyData.eqv (.list (u :: v)) (.list [])) else none) = _
            have q2 : SeqAt.shaped (PyData.list (u :: v)) = true := q
            rw [q2, if_pos (by rfl)]
            rfl
    unfold vNe
    rw [e]
    rfl
theorem vEq_lst_cons (h : HP) (x : DV) (l : List DV) (q : okD (.lst (x :: l)) = true) : vEq (.lst (x :: l)) (.lst []) h = .ok (.bl false) h := by
  have n := vNe_lst_nil h _ q
  unfold vNe at n
  unfold vEq
  cases z : eqD (.lst (x :: l)) (.lst []) with
  | none =>
    rw [z] at n
    cases n
  | some b =>
    rw [z] at n
    cases b with
    | true => cases n
    | false => rfl

/-! ### sides -/
def prodI (l : List Int) : Int := l.foldl (fun a b => a * b) 1
def small (l : List Int) : Prop := ∀ x ∈ l, 0 ≤ x ∧ x ≤ 64
def okSd (l : List Int) : Bool := decide (l.length ≤ 4) && (l.all fun x => decide (0 ≤ x) && decide (x ≤ 64)) && decide (prodI l ≤ 4096)
theorem small_of {l : List Int} (h : (l.all fun x => decide (0 ≤ x) && decide (x ≤ 64)) = true) : small l := fun x hx => by
  have := List.all_eq_true.mp h x hx
  simpa using this
/-! ### sides changed -/
def chg (l : List Int) (k : Nat) (v : Int) : List Int := l.take k ++ [v] ++ l.drop (k + 1)
def wo (l : List Int) (k : Nat) : List Int := l.take k ++ l.drop (k + 1)
theorem chg_wo {l m : List Int} {k : Nat} (hl : k < l.length) (hm : k < m.length) : chg l k 0 = chg m k 0 ↔ wo l k = wo m k := by
  unfold chg wo
  have a : (l.take k).length = (m.take k).length := by simp; omega
  constructor
  · intro e
    rw [List.append_assoc, List.append_assoc] at e
    obtain ⟨e1, e2⟩ := List.append_inj e a
    have e3 : l.drop (k + 1) = m.drop (k + 1) := by simpa using e2
    rw [e1, e3]
  · intro e
    obtain ⟨e1, e2⟩ := List.append_inj e a
    rw [e1, e2]

/-! ### lines -/
abbrev sx0 (x : String) : DV := .str (Str.ofString x)
inductive Ln where
  | one (d : String) (a : Nat)
  | both (d : String) (a b : Nat)
  | wh (a b c : Nat)
  | shift (a : Nat) (s m n : Int)
  | fold (d : String) (a : Nat) (s : Int)
  | run (d : String) (a : Nat) (s : Int)
  | pick (a : Nat) (s : Int) (b : Nat)
  | join (a b : Nat) (s : Int)
  | even (l : List Int) (n : Int)
  | turn (a : Nat) (o : List Int)
  | cut (a : Nat) (s b t m : Int)
  | drop (a : Nat) (s p : Int)
  | wide (a : Nat) (w : Int)
  | spread (a : Nat) (l : List Int)
  | shape (a : Nat) (l : List Int)
def iN (a : Nat) : DV := .int (a : Int)
def Ln.dv : Ln → DV
  | .one d a => .tup [sx0 "one", sx0 d, iN a]
  | .both d a b => .tup [sx0 "both", sx0 d, iN a, iN b]
  | .wh a b c => .tup [sx0 "where", iN a, iN b, iN c]
  | .shift a s m n => .tup [sx0 "shift", iN a, .int s, .int m, .int n]
  | .fold d a s => .tup [sx0 "fold", sx0 d, iN a, .int s]
  | .run d a s => .tup [sx0 "run", sx0 d, iN a, .int s]
  | .pick a s b => .tup [sx0 "pick", iN a, .int s, iN b]
  | .join a b s => .tup [sx0 "join", iN a, iN b, .int s]
  | .even l n => .tup [sx0 "even", .tup (nums l), .int n]
  | .turn a o => .tup [sx0 "turn", iN a, .tup (nums o)]
  | .cut a s b t m => .tup [sx0 "cut", iN a, .int s, .int b, .int t, .int m]
  | .drop a s p => .tup [sx0 "drop", iN a, .int s, .int p]
  | .wide a w => .tup [sx0 "wide", iN a, .int w]
  | .spread a l => .tup [sx0 "spread", iN a, .tup (nums l)]
  | .shape a l => .tup [sx0 "shape", iN a, .tup (nums l)]
def Ln.refs : Ln → List Nat
  | .one _ a => [a]
  | .both _ a b => [a, b]
  | .wh a b c => [a, b, c]
  | .shift a _ _ _ => [a]
  | .fold _ a _ => [a]
  | .run _ a _ => [a]
  | .pick a _ b => [a, b]
  | .join a b _ => [a, b]
  | .even _ _ => []
  | .turn a _ => [a]
  | .cut a _ _ _ _ => [a]
  | .drop a _ _ => [a]
  | .wide a _ => [a]
  | .spread a _ => [a]
  | .shape a _ => [a]
def Ln.num : Ln → Int
  | .shift _ _ _ n => n
  | .even _ n => n
  | _ => 0
/-! ### what a line reads -/
theorem read_c1 (tag : Str) (l : List DV) (ps : List Int) (f : Int → DV) (h : HP) (lk : tab_READS.lookup tag = some (.tup ps)) (hp : ps.length ≤ 100) (hf : ∀ p ∈ ps, getI (.str tag :: l) p h = .ok (f p) h) :
    f_read_by [.tup (.str tag :: l)] h = .ok (.lst (ps.map f)) h := by
  unfold f_read_by
  rw [fnM_app]
  have vt := vTab_app tab_READS tag h lk
  have g0 := getI0 (.str tag) l h
  have c : m_read_by_c1 [.val (.tup (.str tag :: l)), .none] h = .ok (ps.map f) h := by
    unfold m_read_by_c1
    rw [mLc_ints (A := Int) (l := ps) DV.int f ?_ (by omega) fun p hp => ⟨_, rfl, ?_⟩]
    · simp [g0, vt, Te.dv, nums]
    · have := hf p hp
      simp [this]
  simp [m_read_by, List.replicate, c]
theorem f_read_by_is (ln : Ln) (h : HP) : f_read_by [ln.dv] h = .ok (.lst (ln.refs.map iN)) h := by
  cases ln with
  | one d a => exact read_c1 _ _ [2] (fun _ => iN a) h rfl (by decide) fun p hp => by rw [List.mem_singleton.mp hp]; exact getI_nat h _ 2 rfl
  | both d a b => 
    refine read_c1 _ _ [2, 3] (fun p => if p = 2 then iN a else iN b) h rfl (by decide) fun p hp => ?_
    rcases List.mem_cons.mp hp with e | e
    · rw [e]; exact getI_nat h _ 2 rfl
    · rw [List.mem_singleton.mp e]; exact getI_nat h _ 3 rfl
  | wh a b c =>
    refine read_c1 _ _ [1, 2, 3] (fun p => if p = 1 then iN a else if p = 2 then iN b else iN c) h rfl (by decide) fun p hp => ?_
    rcases List.mem_cons.mp hp with e | e
    · rw [e]; exact getI_nat h _ 1 rfl
    · rcases List.mem_cons.mp e with e | e
      · rw [e]; exact getI_nat h _ 2 rfl
      · rw [List.mem_singleton.mp e]; exact getI_nat h _ 3 rfl
  | shift a s m n => exact read_c1 _ _ [1] (fun _ => iN a) h rfl (by decide) fun p hp => by rw [List.mem_singleton.mp hp]; exact getI_nat h _ 1 rfl
  | fold d a s => exact read_c1 _ _ [2] (fun _ => iN a) h rfl (by decide) fun p hp => by rw [List.mem_singleton.mp hp]; exact getI_nat h _ 2 rfl
  | run d a s => exact read_c1 _ _ [2] (fun _ => iN a) h rfl (by decide) fun p hp => by rw [List.mem_singleton.mp hp]; exact getI_nat h _ 2 rfl
  | pick a s b =>
    refine read_c1 _ _ [1, 3] (fun p => if p = 1 then iN a else iN b) h rfl (by decide) fun p hp => ?_
    rcases List.mem_cons.mp hp with e | e
    · rw [e]; exact getI_nat h _ 1 rfl
    · rw [List.mem_singleton.mp e]; exact getI_nat h _ 3 rfl
  | join a b s =>
    refine read_c1 _ _ [1, 2] (fun p => if p = 1 then iN a else iN b) h rfl (by decide) fun p hp => ?_
    rcases List.mem_cons.mp hp with e | e
    · rw [e]; exact getI_nat h _ 1 rfl
    · rw [List.mem_singleton.mp e]; exact getI_nat h _ 2 rfl
  | even l n => exact read_c1 _ _ [] (fun _ => .non) h rfl (by decide) fun p hp => by cases hp
  | turn a o => exact read_c1 _ _ [1] (fun _ => iN a) h rfl (by decide) fun p hp => by rw [List.mem_singleton.mp hp]; exact getI_nat h _ 1 rfl
  | cut a s b t m => exact read_c1 _ _ [1] (fun _ => iN a) h rfl (by decide) fun p hp => by rw [List.mem_singleton.mp hp]; exact getI_nat h _ 1 rfl
  | drop a s p => exact read_c1 _ _ [1] (fun _ => iN a) h rfl (by decide) fun p hp => by rw [List.mem_singleton.mp hp]; exact getI_nat h _ 1 rfl
  | wide a w => exact read_c1 _ _ [1] (fun _ => iN a) h rfl (by decide) fun p hp => by rw [List.mem_singleton.mp hp]; exact getI_nat h _ 1 rfl
  | spread a l => exact read_c1 _ _ [1] (fun _ => iN a) h rfl (by decide) fun p hp => by rw [List.mem_singleton.mp hp]; exact getI_nat h _ 1 rfl
  | shape a l => exact read_c1 _ _ [1] (fun _ => iN a) h rfl (by decide) fun p hp => by rw [List.mem_singleton.mp hp]; exact getI_nat h _ 1 rfl
/-! ### what fits -/
abbrev tp (l : List Int) : DV := .tup (nums l)
def oD : Option (List Int) → DV
  | some l => tp l
  | none => .non
def inS (s : Int) (l : List Int) : Bool := decide (0 ≤ s) && decide (s < (l.length : Int))
theorem inS_nat {s : Int} {l : List Int} (h : inS s l = true) : ∃ k : Nat, s = (k : Int) ∧ k < l.length := by
  unfold inS at h
  simp only [Bool.and_eq_true, decide_eq_true_eq] at h
  exact ⟨s.toNat, by omega, by omega⟩
def zeroBad (d : String) : Bool := decide (d = "least") || decide (d = "most")
def foldO (d : String) (l : List Int) (s : Int) : Option (List Int) := if inS s l then (if l.getD s.toNat 0 = 0 ∧ zeroBad d = true then none else some (wo l s.toNat)) else none
/-! ### sides that meet -/
def metO (a b : List Int) : Option (List Int) := if (List.range (max a.length b.length)).all fun k => metOk (padL a (max a.length b.length) k) (padL b (max a.length b.length) k) then
  some ((List.range (max a.length b.length)).map fun k => met (padL a (max a.length b.length) k) (padL b (max a.length b.length) k)) else none
theorem metL_oD (a b : List Int) : metL a b = oD (metO a b) := by
  unfold metL metO
  split <;> rfl
theorem metO_len {a b l : List Int} (h : metO a b = some l) : l.length = max a.length b.length := by
  unfold metO at h
  split at h
  · cases h
    simp
  · cases h
def metAll (a : List Int) : List (List Int) → Option (List Int)
  | [] => some a
  | b :: r => match metO a b with
    | some l => metAll l r
    | none => none
/-! ### what views fit -/
def sortedOk (o : List Int) (n : Nat) : Bool := decide (PySem.W.sortI o = (List.range n).map fun (k : Nat) => (k : Int))
def turnO (l o : List Int) : Option (List Int) := if sortedOk o l.length = true then some (o.map fun j => l.getD j.toNat 0) else none
theorem sorted_in {o : List Int} {n : Nat} (h : sortedOk o n = true) : ∀ j ∈ o, 0 ≤ j ∧ j < (n : Int) := fun j hj => by
  have e := of_decide_eq_true h
  have m : j ∈ PySem.W.sortI o := (PySem.W.sortI_perm o).mem_iff.mpr hj
  rw [e] at m
  obtain ⟨k, hk, ek⟩ := List.mem_map.mp m
  have := List.mem_range.mp hk
  omega
theorem sorted_len {o : List Int} {n : Nat} (h : sortedOk o n = true) : o.length = n := by
  have e := of_decide_eq_true h
  have := (PySem.W.sortI_perm o).length_eq
  rw [e] at this
  simpa using this.symm
theorem rng_nums (n : Nat) : rng n = nums ((List.range n).map fun (k : Nat) => (k : Int)) := by
  rw [rng_map, nums_map]
def inR (b n : Int) : Bool := decide (0 ≤ b) && decide (b < n)
def cutO (l : List Int) (s b t m : Int) : Option (List Int) := if (inS s l && (!decide (t = 0) && !decide (m < 0))) = true then
  (if decide (0 < m) = true ∧ (inR b (l.getD s.toNat 0) && inR (b + t * (m - 1)) (l.getD s.toNat 0)) = false then none else some (chg l s.toNat m)) else none
def dropO (l : List Int) (s p : Int) : Option (List Int) := if (inS s l && inR p (l.getD s.toNat 0)) = true then some (wo l s.toNat) else none
def wideO (l : List Int) (w : Int) : Option (List Int) := if (decide (0 ≤ w) && decide (w ≤ (l.length : Int))) = true then some (l.take w.toNat ++ [1] ++ l.drop w.toNat) else none
def spreadO (l m : List Int) : Option (List Int) := if metO l m = some m then some m else none
theorem vNe_non_tup (h : HP) (l : List Int) : vNe .non (.tup (nums l)) h = .ok (.bl true) h := by
  have e : eqD .non (.tup (nums l)) = some false := by
    unfold eqD
    rw [toPD_tup]
    have s0 : toPD .non = some .none := rfl
    rw [s0]
    have s1 : SeqAt.shaped .none = true := rfl
    simp only [s1, sh_tup, Bool.and_self, if_true]
    rfl
  unfold vNe
  rw [e]
  rfl
def shapeO (l m : List Int) : Option (List Int) := if (okSd m && decide (prodI m = prodI l)) = true then some m else none
/-! ### a line's sides -/
def lineR (o : Option (List Int)) (at_ : Int) (h : HP) : Res DV := match o with
  | some l => if okSd l = true then .ok (tp l) h else .exc ⟨cBad, [sx0 "sides", .int at_]⟩ h
  | none => .exc ⟨cBad, [sx0 "sides", .int at_]⟩ h
def Ln.due (S : List (List Int)) : Ln → Option (List Int)
  | .one _ a => some (S.getD a [])
  | .both _ a b => metAll (S.getD a []) [S.getD b []]
  | .wh a b c => metAll (S.getD a []) [S.getD b [], S.getD c []]
  | .shift a s _ _ => if inS s (S.getD a []) then some (S.getD a []) else none
  | .fold d a s => foldO d (S.getD a []) s
  | .run _ a s => if inS s (S.getD a []) then some (S.getD a []) else none
  | .pick a s b => if inS s (S.getD a []) && decide ((S.getD b []).length = 1) then some ((S.getD a []).take s.toNat ++ S.getD b [] ++ (S.getD a []).drop (s.toNat + 1)) else none
  | .join a b s => if inS s (S.getD a []) && (decide ((S.getD a []).length = (S.getD b []).length) && decide (wo (S.getD a []) s.toNat = wo (S.getD b []) s.toNat)) then some (chg (S.getD a []) s.toNat ((S.getD a []).getD s.toNat 0 + (S.getD b []).getD s.toNat 0)) else none
  | .even l _ => some l
  | .turn a o => turnO (S.getD a []) o
  | .cut a s b t m => cutO (S.getD a []) s b t m
  | .drop a s p => dropO (S.getD a []) s p
  | .wide a w => wideO (S.getD a []) w
  | .spread a l => spreadO (S.getD a []) l
  | .shape a l => shapeO (S.getD a []) l
def Ln.ok : Ln → Prop
  | .fold d _ _ => d = "add" ∨ d = "times" ∨ d = "least" ∨ d = "most"
  | .even l _ => l.length ≤ 6
  | .turn _ o => o.length ≤ 900
  | .cut _ _ _ t _ => -1000000 ≤ t ∧ t ≤ 1000000
  | .spread _ l => l.length ≤ 6
  | .shape _ l => l.length ≤ 6
  | _ => True
theorem due_len {S : List (List Int)} (hS : ∀ a, (S.getD a []).length ≤ 4) (ln : Ln) (ok : ln.ok) (l : List Int) (e : ln.due S = some l) : l.length ≤ 6 := by
  have ml : ∀ (r : List (List Int)) (a : List Int), a.length ≤ 4 → (∀ b ∈ r, b.length ≤ 4) → ∀ l, metAll a r = some l → l.length ≤ 4 := by
    intro r
    induction r with
    | nil => exact fun a ha _ l e => by cases e; exact ha
    | cons b r ih =>
      intro a ha hr l e
      unfold metAll at e
      cases z : metO a b with
      | none => rw [z] at e; cases e
      | some x =>
        rw [z] at e
        have := metO_len z
        have := hr b List.mem_cons_self
        exact ih x (by omega) (fun c hc => hr c (List.mem_cons_of_mem _ hc)) l e
  cases ln with
  | one d a => cases e; have := hS a; omega
  | both d a b =>
    have := ml [S.getD b []] (S.getD a []) (hS a) (fun x hx => by rw [List.mem_singleton.mp hx]; exact hS b) l e
    omega
  | wh a b c =>
    have := ml [S.getD b [], S.getD c []] (S.getD a []) (hS a) (fun x hx => by
      rcases List.mem_cons.mp hx with y | y
      · rw [y]; exact hS b
      · rw [List.mem_singleton.mp y]; exact hS c) l e
    omega
  | shift a s m n =>
    simp only [Ln.due] at e
    split at e <;> cases e
    have := hS a
    omega
  | fold d a s =>
    simp only [Ln.due, foldO] at e
    split at e
    · split at e <;> cases e
      have := hS a
      unfold wo
      simp only [List.length_append, List.length_take, List.length_drop]
      omega
    · cases e
  | run d a s =>
    simp only [Ln.due] at e
    split at e <;> cases e
    have := hS a
    omega
  | pick a s b =>
    simp only [Ln.due] at e
    split at e
    · rename_i hz
      cases e
      have := hS a
      simp only [Bool.and_eq_true, decide_eq_true_eq] at hz
      simp only [List.length_append, List.length_take, List.length_drop, hz.2]
      omega
    · cases e
  | join a b s =>
    simp only [Ln.due] at e
    split at e <;> cases e
    have := hS a
    unfold chg
    simp only [List.length_append, List.length_take, List.length_drop, List.length_singleton]
    omega
  | even l n => cases e; exact ok
  | turn a o =>
    simp only [Ln.due, turnO] at e
    split at e
    · rename_i hz
      cases e
      have := hS a
      have := sorted_len hz
      simp
      omega
    · cases e
  | cut a s b t m =>
    simp only [Ln.due, cutO] at e
    split at e
    · split at e <;> cases e
      have := hS a
      unfold chg
      simp only [List.length_append, List.length_take, List.length_drop, List.length_singleton]
      omega
    · cases e
  | drop a s p =>
    simp only [Ln.due, dropO] at e
    split at e <;> cases e
    have := hS a
    unfold wo
    simp only [List.length_append, List.length_take, List.length_drop]
    omega
  | wide a w =>
    simp only [Ln.due, wideO] at e
    split at e <;> cases e
    have := hS a
    simp only [List.length_append, List.length_take, List.length_drop, List.length_singleton]
    omega
  | spread a l =>
    simp only [Ln.due, spreadO] at e
    split at e <;> cases e
    exact ok
  | shape a l =>
    simp only [Ln.due, shapeO] at e
    split at e <;> cases e
    exact ok
def gv (i : Nat) : DV := .tup [.str (Str.ofString "given"), .int (i : Int)]
/-! ### the sides of all -/
theorem flat_nums (l : List Int) : flatR (tp l) = true := by
  induction l with
  | nil => rfl
  | cons x r ih => exact ih
/-! ### the program is not empty -/
theorem ok_word (a : String) (h : PyData.strOk (Str.ofString a) = true) {n : Nat} : okd n (sx0 a) := okd_str _ (lay_str _ h)
theorem okd_gv (i : Nat) : okd 1 (gv i) := okd_tup (n := 0) fun d hd => by
  rcases List.mem_cons.mp hd with e | e
  · rw [e]; exact ok_word "given" (by decide +kernel)
  · rw [List.mem_singleton.mp e]; exact okd_int _
def dOk (d : String) : Prop := PyData.strOk (Str.ofString d) = true
def Ln.wd : Ln → Prop
  | .one d _ => dOk d
  | .both d _ _ => dOk d
  | .fold d _ _ => dOk d
  | .run d _ _ => dOk d
  | _ => True
theorem okd_cons {n : Nat} {a : DV} {l : List DV} (ha : okd n a) (hl : ∀ d ∈ l, okd n d) : ∀ d ∈ a :: l, okd n d := fun d hd => by
  rcases List.mem_cons.mp hd with e | e
  · rw [e]; exact ha
  · exact hl d e
theorem okd_no {n : Nat} : ∀ d ∈ ([] : List DV), okd n d := fun d hd => by cases hd
theorem okd_ln (ln : Ln) (w : ln.wd) : okd 2 ln.dv := by
  cases ln with
  | one d a => exact okd_tup (okd_cons (ok_word "one" (by decide +kernel)) (okd_cons (ok_word d w) (okd_cons (okd_int _) okd_no)))
  | both d a b => exact okd_tup (okd_cons (ok_word "both" (by decide +kernel)) (okd_cons (ok_word d w) (okd_cons (okd_int _) (okd_cons (okd_int _) okd_no))))
  | wh a b c => exact okd_tup (okd_cons (ok_word "where" (by decide +kernel)) (okd_cons (okd_int _) (okd_cons (okd_int _) (okd_cons (okd_int _) okd_no))))
  | shift a s m n => exact okd_tup (okd_cons (ok_word "shift" (by decide +kernel)) (okd_cons (okd_int _) (okd_cons (okd_int _) (okd_cons (okd_int _) (okd_cons (okd_int _) okd_no)))))
  | fold d a s => exact okd_tup (okd_cons (ok_word "fold" (by decide +kernel)) (okd_cons (ok_word d w) (okd_cons (okd_int _) (okd_cons (okd_int _) okd_no))))
  | run d a s => exact okd_tup (okd_cons (ok_word "run" (by decide +kernel)) (okd_cons (ok_word d w) (okd_cons (okd_int _) (okd_cons (okd_int _) okd_no))))
  | pick a s b => exact okd_tup (okd_cons (ok_word "pick" (by decide +kernel)) (okd_cons (okd_int _) (okd_cons (okd_int _) (okd_cons (okd_int _) okd_no))))
  | join a b s => exact okd_tup (okd_cons (ok_word "join" (by decide +kernel)) (okd_cons (okd_int _) (okd_cons (okd_int _) (okd_cons (okd_int _) okd_no))))
  | turn a o => exact okd_tup (okd_cons (ok_word "turn" (by decide +kernel)) (okd_cons (okd_int _) (okd_cons (okd_tup (n := 0) (okd_nums o)) okd_no)))
  | cut a s b t m => exact okd_tup (okd_cons (ok_word "cut" (by decide +kernel)) (okd_cons (okd_int _) (okd_cons (okd_int _) (okd_cons (okd_int _) (okd_cons (okd_int _) (okd_cons (okd_int _) okd_no))))))
  | drop a s p => exact okd_tup (okd_cons (ok_word "drop" (by decide +kernel)) (okd_cons (okd_int _) (okd_cons (okd_int _) (okd_cons (okd_int _) okd_no))))
  | wide a w => exact okd_tup (okd_cons (ok_word "wide" (by decide +kernel)) (okd_cons (okd_int _) (okd_cons (okd_int _) okd_no)))
  | spread a l => exact okd_tup (okd_cons (ok_word "spread" (by decide +kernel)) (okd_cons (okd_int _) (okd_cons (okd_tup (n := 0) (okd_nums l)) okd_no)))
  | shape a l => exact okd_tup (okd_cons (ok_word "shape" (by decide +kernel)) (okd_cons (okd_int _) (okd_cons (okd_tup (n := 0) (okd_nums l)) okd_no)))
  | even l n => exact okd_tup (okd_cons (ok_word "even" (by decide +kernel)) (okd_cons (okd_tup (n := 0) (okd_nums l)) (okd_cons (okd_int _) okd_no)))

/-! ### the sides of all lines, in general -/
theorem flat_hR (ns : List Int) (k : Nat) : (hR ns k).all flatO = true := rfl
theorem cons_of {P : List DV} (h : 0 < P.length) : ∃ d r, P = d :: r := by
  cases P with
  | nil => cases h
  | cons d r => exact ⟨d, r, rfl⟩
/-! ### plain mathematics of places -/
def prod : List Int → Int
  | [] => 1
  | x :: r => x * prod r
def suf : List Int → List Int
  | [] => []
  | _ :: r => prod r :: suf r
def ups : List Int → Int → List Int
  | [], _ => []
  | x :: r, st => st :: ups r (st * x)
theorem prod_app (a b : List Int) : prod (a ++ b) = prod a * prod b := by
  induction a with
  | nil => simp [prod]
  | cons x r ih => simp [prod, ih, Int.mul_assoc]
theorem prod_rev (a : List Int) : prod a.reverse = prod a := by
  induction a with
  | nil => rfl
  | cons x r ih => simp [prod, ih, prod_app, Int.mul_comm]
theorem ups_app (a : List Int) (x st : Int) : ups (a ++ [x]) st = ups a st ++ [st * prod a] := by
  induction a generalizing st with
  | nil => simp [ups, prod]
  | cons y r ih => simp [ups, prod, ih, Int.mul_assoc]
theorem ups_suf (l : List Int) : (ups l.reverse 1).reverse = suf l := by
  induction l with
  | nil => rfl
  | cons x r ih => simp [suf, ups_app, ih, prod_rev]
theorem suf_range (l : List Int) : (List.range l.length).map (fun k => prod (l.drop (k + 1))) = suf l := by
  induction l with
  | nil => rfl
  | cons x r ih =>
    rw [List.length_cons, List.range_succ_eq_map, List.map_cons, List.map_map, suf, ← ih]
    rfl
def dig : List Int → Int → List Int
  | [], _ => []
  | x :: r, p => p % x :: dig r (p / x)
def ixs : List Int → Int → List Int
  | [], _ => []
  | x :: r, p => p / prod r % x :: ixs r p
def pos1 (l : List Int) : Prop := ∀ x ∈ l, 0 < x
theorem pos1.tl {x : Int} {r : List Int} (h : pos1 (x :: r)) : pos1 r := fun y hy => h y (List.mem_cons_of_mem _ hy)
theorem pos1.hd {x : Int} {r : List Int} (h : pos1 (x :: r)) : 0 < x := h x List.mem_cons_self
theorem prod_pos {l : List Int} (h : pos1 l) : 0 < prod l := by
  induction l with
  | nil => decide
  | cons x r ih => exact Int.mul_pos h.hd (ih h.tl)
theorem dig_app (a : List Int) (ha : pos1 a) (x p : Int) : dig (a ++ [x]) p = dig a p ++ [p / prod a % x] := by
  induction a generalizing p with
  | nil => simp [dig, prod]
  | cons y r ih =>
    have e : p / y / prod r = p / (y * prod r) := Int.ediv_ediv_of_nonneg (Int.le_of_lt ha.hd)
    simp [dig, prod, ih ha.tl, e]
theorem dig_ixs (l : List Int) (hl : pos1 l) (p : Int) : (dig l.reverse p).reverse = ixs l p := by
  induction l with
  | nil => rfl
  | cons x r ih =>
    have hr : pos1 r.reverse := fun y hy => hl.tl y (List.mem_reverse.mp hy)
    simp [ixs, dig_app _ hr, ih hl.tl, prod_rev]
theorem ixs_range (l : List Int) (p : Int) : (List.range l.length).map (fun k => p / prod (l.drop (k + 1)) % l.getD k 0) = ixs l p := by
  induction l with
  | nil => rfl
  | cons x r ih =>
    rw [List.length_cons, List.range_succ_eq_map, List.map_cons, List.map_map, ixs, ← ih]
    rfl
def horn : List Int → List Int → Int → Int
  | x :: r, a :: t, f => horn r t (f * x + a)
  | _, _, f => f
def wsum : List Int → List Int → Int
  | x :: r, a :: t => a * prod r + wsum r t
  | _, _ => 0
theorem horn_wsum (l m : List Int) (hm : m.length = l.length) (f : Int) : horn l m f = f * prod l + wsum l m := by
  induction l generalizing m f with
  | nil => cases m <;> simp [horn, wsum, prod]
  | cons x r ih =>
    cases m with
    | nil => simp at hm
    | cons a t =>
      rw [horn, wsum, prod, ih t (by simpa using hm)]
      rw [Int.add_mul, Int.mul_assoc, Int.add_assoc]
theorem ixs_len (l : List Int) (p : Int) : (ixs l p).length = l.length := by
  induction l with
  | nil => rfl
  | cons x r ih => simp [ixs, ih]
theorem wsum_ixs (l : List Int) (hl : pos1 l) (p : Int) : wsum l (ixs l p) = p % prod l := by
  induction l with
  | nil => simp [wsum, ixs, prod, Int.emod_one]
  | cons x r ih =>
    rw [ixs, wsum, ih hl.tl, prod]
    have hR := prod_pos hl.tl
    have hx := hl.hd
    generalize prod r = R at hR ⊢
    have e1 : p = R * (p / R) + p % R := (Int.mul_ediv_add_emod p R).symm
    have e2 : p / R = x * (p / R / x) + p / R % x := (Int.mul_ediv_add_emod _ x).symm
    have b1 : 0 ≤ p % R := Int.emod_nonneg _ (by omega)
    have b2 : p % R < R := Int.emod_lt_of_pos _ hR
    have c1 : 0 ≤ p / R % x := Int.emod_nonneg _ (by omega)
    have c2 : p / R % x < x := Int.emod_lt_of_pos _ hx
    have lo : 0 ≤ p / R % x * R + p % R := Int.add_nonneg (Int.mul_nonneg c1 (by omega)) b1
    have hi : p / R % x * R + p % R < x * R := by
      have : (p / R % x + 1) * R ≤ x * R := Int.mul_le_mul_of_nonneg_right (by omega) (by omega)
      rw [Int.add_mul, Int.one_mul] at this
      omega
    have e3 : p = (p / R % x * R + p % R) + (p / R / x) * (x * R) := by
      rw [Int.mul_comm (p / R % x) R, Int.mul_comm (p / R / x), Int.mul_comm x R, Int.mul_assoc, Int.add_right_comm, ← Int.mul_add, Int.add_comm (p / R % x), ← e2]
      exact e1
    conv => rhs; rw [e3]
    rw [Int.add_mul_emod_self_right, Int.emod_eq_of_lt lo hi]
theorem sum_zip (l m : List Int) (hm : m.length = l.length) : (List.zipWith (· * ·) m (suf l)).sum = wsum l m := by
  induction l generalizing m with
  | nil => cases m <;> simp [suf, wsum]
  | cons x r ih =>
    cases m with
    | nil => simp at hm
    | cons a t => simp [suf, wsum, ih t (by simpa using hm)]
theorem wsum_range (l m : List Int) (hm : m.length = l.length) : ((List.range l.length).map (fun k => m.getD k 0 * prod (l.drop (k + 1)))).sum = wsum l m := by
  induction l generalizing m with
  | nil => cases m <;> simp [wsum]
  | cons x r ih =>
    cases m with
    | nil => simp at hm
    | cons a t =>
      rw [List.length_cons, List.range_succ_eq_map, List.map_cons, List.map_map, wsum, ← ih t (by simpa using hm)]
      rfl
theorem foldl_sum {A : Type} (f : A → Int) (l : List A) (s : Int) : l.foldl (fun s k => s + f k) s = s + (l.map f).sum := by
  induction l generalizing s with
  | nil => simp
  | cons x r ih => simp [ih, Int.add_assoc]
theorem prod_le (l : List Int) (hl : ∀ x ∈ l, 0 ≤ x ∧ x ≤ 64) (n : Nat) (hn : l.length ≤ n) : 0 ≤ prod l ∧ prod l ≤ 64 ^ n := by
  induction l generalizing n with
  | nil =>
    refine ⟨by decide, ?_⟩
    show (1 : Int) ≤ _
    have : (0 : Int) < 64 ^ n := Int.pow_pos (by decide)
    omega
  | cons x r ih =>
    obtain ⟨k, rfl⟩ : ∃ k, n = k + 1 := ⟨n - 1, by rw [List.length_cons] at hn; omega⟩
    obtain ⟨a, b⟩ := ih (fun y hy => hl y (List.mem_cons_of_mem _ hy)) k (by rw [List.length_cons] at hn; omega)
    obtain ⟨c, d⟩ := hl x List.mem_cons_self
    refine ⟨Int.mul_nonneg c a, ?_⟩
    rw [Int.pow_succ, prod, Int.mul_comm (64 ^ k)]
    exact Int.mul_le_mul d b a (by decide)
theorem zero_prod {l : List Int} (hl : ∀ x ∈ l, 0 ≤ x) (h : prod l ≠ 0) : pos1 l := by
  induction l with
  | nil => exact fun x hx => by cases hx
  | cons x r ih =>
    intro y hy
    have a : x ≠ 0 := fun e => h (by rw [prod, e, Int.zero_mul])
    have b : prod r ≠ 0 := fun e => h (by rw [prod, e, Int.mul_zero])
    rcases List.mem_cons.mp hy with e | e
    · subst e
      have := hl y List.mem_cons_self
      omega
    · exact ih (fun z hz => hl z (List.mem_cons_of_mem _ hz)) b y e
theorem foldl_appA {A B : Type} (f : A → B) (l : List A) (s : List B) : l.foldl (fun s k => s ++ [f k]) s = s ++ l.map f := by
  induction l generalizing s with
  | nil => simp
  | cons x r ih => simp [ih]
def midI (l : List Int) : Prop := ∀ x ∈ l, -1000000 ≤ x ∧ x ≤ 1000000
theorem midI.tl {x : Int} {r : List Int} (h : midI (x :: r)) : midI r := fun y hy => h y (List.mem_cons_of_mem _ hy)
theorem midI.hd {x : Int} {r : List Int} (h : midI (x :: r)) : -1000000 ≤ x ∧ x ≤ 1000000 := h x List.mem_cons_self
theorem midI.drop {l : List Int} (h : midI l) (k : Nat) : midI (l.drop k) := fun x hx => h x (List.mem_of_mem_drop hx)
theorem midI.rev {l : List Int} (h : midI l) : midI l.reverse := fun x hx => h x (List.mem_reverse.mp hx)
theorem horn_ixs (l : List Int) (hl : pos1 l) (p : Int) (h0 : 0 ≤ p) (h1 : p < prod l) : horn l (ixs l p) 0 = p := by
  rw [horn_wsum _ _ (ixs_len l p), Int.zero_mul, Int.zero_add, wsum_ixs l hl p, Int.emod_eq_of_lt h0 h1]
/-! ### a tuple or a list of numbers -/
def sq (b : Bool) (l : List Int) : DV := if b then .tup (nums l) else .lst (nums l)
@[simp] theorem sq_it (b : Bool) (l : List Int) (h : HP) : itS (sq b l) h = .ok (nums l) h := by cases b <;> rfl
@[simp] theorem sq_len (b : Bool) (l : List Int) (h : HP) : vLen (sq b l) h = .ok (.int l.length) h := by cases b <;> simp [sq]
@[simp] theorem sq_tup (b : Bool) (l : List Int) (h : HP) : vTup (sq b l) h = .ok (.tup (nums l)) h := by cases b <;> rfl
theorem sq_true (l : List Int) : sq true l = .tup (nums l) := rfl
theorem sq_false (l : List Int) : sq false l = .lst (nums l) := rfl

/-! ### cells_in, sides_fit, place_at -/
def in64 (l : List Int) : Bool := l.all fun x => decide (0 ≤ x) && decide (x ≤ 64)
theorem in64_iff {l : List Int} : in64 l = true ↔ ∀ x ∈ l, 0 ≤ x ∧ x ≤ 64 := by
  unfold in64
  rw [List.all_eq_true]
  constructor
  · intro a x hx
    have := a x hx
    simpa using this
  · intro a x hx
    have := a x hx
    simpa using this
theorem in64_mid {l : List Int} (h : in64 l = true) : midI l := fun x hx => by
  have := in64_iff.mp h x hx
  omega
def okS (l : List Int) : Bool := decide (l.length ≤ 4) && (in64 l && decide (prod l ≤ 4096))
theorem itZM_sq (b : Bool) (l : List DV) (m : List Int) (h : HP) : itZM (.tup l) (sq b m) h = .ok (zipD l (nums m)) h := by cases b <;> rfl
/-! ### Table(sides, cells) -/
def cellOk (x : Int) : Bool := decide (0 ≤ x) && decide (x < 1000003)
def tabOk (l c : List Int) : Bool := okS l && (decide ((c.length : Int) = prod l) && c.all cellOk)
/-! ### the law's cells, index -/
theorem lcells_go : ∀ (l : List Int), midI l → ∀ (S : Slot) (a : Int) (h : HP), forL (tName 2) m_law_cells_b1 [2] (nums l) [S, .val (.int a), .none] h = .nx [S, .val (.int (a * prod l)), .none] h
  | [], _, S, a, h => by simp [prod]
  | x :: r, hb, S, a, h => by
    have mo := mulOk_r a x (by have := hb.hd; omega) (by have := hb.hd; omega)
    have t : turn (tName 2) m_law_cells_b1 [2] (.int x) [S, .val (.int a), .none] h = .nx [S, .val (.int (a * x)), .none] h := by simp [m_law_cells_b1, mo]
    rw [nums_cons, forL_cons, t, lR_nx, lcells_go r hb.tl S (a * x) h, prod, Int.mul_assoc]
theorem lcellsG (b : Bool) (l : List Int) (hb : midI l) (h : HP) : f_law_cells [sq b l] h = .ok (.int (prod l)) h := by
  unfold f_law_cells
  rw [fnM_app]
  have e := lcells_go l hb (.val (sq b l)) 1 h
  simp [m_law_cells, List.replicate, e]

/-! ### the law's index -/
theorem prod_drop_le {l : List Int} (h : in64 l = true) (hn : l.length ≤ 4) (k : Nat) : prod (l.drop k) < 1073741824 := by
  have a := in64_iff.mp h
  have b := (prod_le (l.drop k) (fun x hx => a x (List.mem_of_mem_drop hx)) 4 (by rw [List.length_drop]; omega)).2
  have c : (64 : Int) ^ 4 = 16777216 := by decide
  omega

/-! ### places within sides -/
theorem foldl_prod (l : List Int) (a : Int) : l.foldl (fun a b => a * b) a = a * prod l := by
  induction l generalizing a with
  | nil => simp [prod]
  | cons x r ih => rw [List.foldl_cons, ih, prod, Int.mul_assoc]
theorem prodI_eq (l : List Int) : prodI l = prod l := by
  unfold prodI
  rw [foldl_prod, Int.one_mul]
theorem okSd_eq (l : List Int) : okSd l = okS l := by
  unfold okSd okS in64
  rw [prodI_eq, Bool.and_assoc]
def inB : List Int → List Int → Prop
  | [], [] => True
  | x :: l, a :: m => (0 ≤ a ∧ a < x) ∧ inB l m
  | _, _ => False
theorem inB_len : ∀ {l m : List Int}, inB l m → m.length = l.length
  | [], [], _ => rfl
  | _ :: l, _ :: m, h => by
    rw [List.length_cons, List.length_cons, inB_len h.2]
  | [], _ :: _, h => by cases h
  | _ :: _, [], h => by cases h
theorem inB_app : ∀ {l m l2 m2 : List Int}, inB l m → inB l2 m2 → inB (l ++ l2) (m ++ m2)
  | [], [], _, _, _, h => h
  | _ :: l, _ :: m, _, _, h, h2 => ⟨h.1, inB_app h.2 h2⟩
  | [], _ :: _, _, _, h, _ => by cases h
  | _ :: _, [], _, _, h, _ => by cases h
theorem inB_take : ∀ (k : Nat) {l m : List Int}, inB l m → inB (l.take k) (m.take k)
  | 0, _, _, _ => trivial
  | k + 1, [], [], h => trivial
  | k + 1, _ :: l, _ :: m, h => ⟨h.1, inB_take k h.2⟩
  | _ + 1, [], _ :: _, h => by cases h
  | _ + 1, _ :: _, [], h => by cases h
theorem inB_drop : ∀ (k : Nat) {l m : List Int}, inB l m → inB (l.drop k) (m.drop k)
  | 0, _, _, h => h
  | k + 1, [], [], h => trivial
  | k + 1, _ :: l, _ :: m, h => inB_drop k h.2
  | _ + 1, [], _ :: _, h => by cases h
  | _ + 1, _ :: _, [], h => by cases h
theorem inB_at : ∀ {l m : List Int} (k : Nat), inB l m → k < l.length → 0 ≤ m.getD k 0 ∧ m.getD k 0 < l.getD k 0
  | _ :: _, _ :: _, 0, h, _ => h.1
  | _ :: l, _ :: m, k + 1, h, hk => inB_at (l := l) (m := m) k h.2 (by simpa using hk)
  | [], _, _, _, hk => by cases hk
  | _ :: _, [], _, h, _ => by cases h
theorem inB_ixs (l : List Int) (hl : pos1 l) (p : Int) : inB l (ixs l p) := by
  induction l with
  | nil => trivial
  | cons x r ih => exact ⟨⟨Int.emod_nonneg _ (by have := hl.hd; omega), Int.emod_lt_of_pos _ hl.hd⟩, ih hl.tl⟩
theorem inB_pos : ∀ {l m : List Int}, inB l m → pos1 l
  | [], [], _ => fun x hx => by cases hx
  | x :: l, a :: m, h => fun y hy => by
    rcases List.mem_cons.mp hy with e | e
    · subst e
      have := h.1
      omega
    · exact inB_pos h.2 y e
  | [], _ :: _, h => by cases h
  | _ :: _, [], h => by cases h
theorem inB_wsum : ∀ {l m : List Int}, inB l m → 0 ≤ wsum l m ∧ wsum l m < prod l
  | [], [], _ => by simp [wsum, prod]
  | x :: l, a :: m, h => by
    obtain ⟨i1, i2⟩ := inB_wsum h.2
    obtain ⟨a0, a1⟩ := h.1
    have p := prod_pos (inB_pos h.2)
    rw [wsum, prod]
    have q1 : 0 ≤ a * prod l := Int.mul_nonneg a0 (by omega)
    have q2 : (a + 1) * prod l ≤ x * prod l := Int.mul_le_mul_of_nonneg_right (by omega) (by omega)
    rw [Int.add_mul, Int.one_mul] at q2
    omega
  | [], _ :: _, h => by cases h
  | _ :: _, [], h => by cases h
theorem inB_horn {l m : List Int} (h : inB l m) : horn l m 0 = wsum l m := by
  rw [horn_wsum l m (inB_len h), Int.zero_mul, Int.zero_add]
def at0 (l c m : List Int) : Int := c.getD (wsum l m).toNat 0
theorem take_get_drop (l : List Int) (k : Nat) (hk : k < l.length) : l.take k ++ [l.getD k 0] ++ l.drop (k + 1) = l := by
  rw [List.append_assoc, List.singleton_append, List.getD_eq_getElem?_getD, List.getElem?_eq_getElem hk, Option.getD_some, List.getElem_cons_drop, List.take_append_drop]
theorem chg_self (l : List Int) (k : Nat) (hk : k < l.length) : chg l k (l.getD k 0) = l := take_get_drop l k hk
theorem inB_one {x a : Int} (h0 : 0 ≤ a) (h1 : a < x) : inB [x] [a] := ⟨⟨h0, h1⟩, trivial⟩
theorem take_wo (l : List Int) (k : Nat) (hk : k ≤ l.length) : (wo l k).take k = l.take k := by
  unfold wo
  rw [List.take_append_of_le_length (by simp; omega), List.take_take, Nat.min_self]
theorem drop_wo (l : List Int) (k : Nat) (hk : k ≤ l.length) : (wo l k).drop k = l.drop (k + 1) := by
  unfold wo
  rw [List.drop_append_of_le_length (by simp; omega), List.drop_take, Nat.sub_self, List.take_zero, List.nil_append]
theorem inB_ins {l m : List Int} {k : Nat} {a : Int} (hk : k < l.length) (h : inB (wo l k) m) (a0 : 0 ≤ a) (a1 : a < l.getD k 0) : inB l (m.take k ++ [a] ++ m.drop k) := by
  have h1 := inB_take k h
  have h2 := inB_drop k h
  rw [take_wo l k (by omega)] at h1
  rw [drop_wo l k (by omega)] at h2
  have := inB_app (inB_app h1 (inB_one a0 a1)) h2
  rwa [take_get_drop l k hk] at this
theorem inB_wo {l m : List Int} (k : Nat) (h : inB l m) : inB (wo l k) (wo m k) := inB_app (inB_take k h) (inB_drop (k + 1) h)
theorem inB_chg {l m : List Int} {k : Nat} {a y : Int} (h : inB l m) (a0 : 0 ≤ a) (a1 : a < y) : inB (chg l k y) (chg m k a) := inB_app (inB_app (inB_take k h) (inB_one a0 a1)) (inB_drop (k + 1) h)
theorem take_chg (l : List Int) (k : Nat) (x : Int) (hk : k ≤ l.length) : (chg l k x).take k = l.take k := by
  unfold chg
  rw [List.append_assoc, List.take_append_of_le_length (by simp; omega), List.take_take, Nat.min_self]
theorem drop_chg (l : List Int) (k : Nat) (x : Int) (hk : k < l.length) : (chg l k x).drop (k + 1) = l.drop (k + 1) := by
  unfold chg
  have e : k + 1 = (l.take k ++ [x]).length := by simp; omega
  have q : (l.take k ++ [x] ++ l.drop (k + 1)).drop (l.take k ++ [x]).length = l.drop (k + 1) := List.drop_left
  rw [← e] at q
  exact q
theorem chg_chg (l : List Int) (k : Nat) (x y : Int) (hk : k < l.length) : chg (chg l k x) k y = chg l k y := by
  unfold chg
  have e1 := take_chg l k x (by omega)
  have e2 := drop_chg l k x hk
  unfold chg at e1 e2
  rw [e1, e2]
theorem chg_len (l : List Int) (k : Nat) (x : Int) (hk : k < l.length) : (chg l k x).length = l.length := by
  unfold chg
  simp
  omega
theorem chg_get (l : List Int) (k : Nat) (x : Int) (hk : k < l.length) : (chg l k x).getD k 0 = x := by
  unfold chg
  rw [List.getD_eq_getElem?_getD, List.append_assoc, List.getElem?_append_right (by simp; omega)]
  simp
  rw [show k - min k l.length = 0 by omega]
  rfl
theorem wo_len (l : List Int) (k : Nat) (hk : k < l.length) : (wo l k).length = l.length - 1 := by
  unfold wo
  simp
  omega

/-! ### tables -/
theorem vEq_lit (h : HP) (a b : Str) (v : Bool) (q : eqD (.str a) (.str b) = some v) : vEq (.str a) (.str b) h = .ok (.bl v) h := by
  unfold vEq
  rw [q]
  rfl
@[simp] theorem vEq_bl (h : HP) (a b : Bool) : vEq (.bl a) (.bl b) h = .ok (.bl (a == b)) h := by
  have e : eqD (.bl a) (.bl b) = some (a == b) := rfl
  unfold vEq
  rw [e]
  rfl
abbrev tdv (l : List Int) (p : Nat) : DV := .obj cT [.tup (nums l), .ref p]
def Has (h : HP) (p : Nat) (c : List Int) : Prop := h[p]? = some (HObj.lst (nums c))
theorem asL_has {h : HP} {p : Nat} {c : List Int} (q : Has h p c) : asL h (.ref p) = some (nums c) := asL_ref q
theorem asS_has {h : HP} {p : Nat} {c : List Int} (q : Has h p c) : asS h (.ref p) = some (nums c) := asL_ref q
theorem vLen_has {h : HP} {p : Nat} {c : List Int} (q : Has h p c) : vLen (.ref p) h = .ok (.int c.length) h := by
  show (match asS h (.ref p) with
    | some l => Res.ok (DV.int l.length) h
    | none => Res.bad) = _
  rw [asS_has q]
  simp
theorem vTup_has {h : HP} {p : Nat} {c : List Int} (q : Has h p c) : vTup (.ref p) h = .ok (.tup (nums c)) h := by
  show (match asS h (.ref p) with
    | some l => Res.ok (DV.tup l) h
    | none => Res.bad) = _
  rw [asS_has q]
theorem lLst_has {h : HP} {p : Nat} {c : List Int} (q : Has h p c) : lLst (.ref p) h = .ok (nums c) h := by
  show (match asS h (.ref p) with
    | some l => Res.ok l h
    | none => Res.bad) = _
  rw [asS_has q]
theorem vIdx_has {h : HP} {p : Nat} {c : List Int} (i : Int) (q : Has h p c) : vIdx (.ref p) (.int i) h = getI (nums c) i h := vIdx_ref p i h _ q
theorem isl_has {h : HP} {p : Nat} {c : List Int} (q : Has h p c) : vIsI .list (.ref p) h = .ok (.bl true) h := by
  have e : tyD h (.ref p) = some .list := by
    show (match h[p]? with
      | some (.lst _) => some Ty.list
      | _ => none) = _
    rw [show h[p]? = some (HObj.lst (nums c)) from q]
  have := vIsI_any h .list (.ref p) e
  rw [this]
  rfl
theorem has_app {h : HP} {p : Nat} {c : List Int} (q : Has h p c) (r : List HObj) : Has (h ++ r) p c := by
  unfold Has at *
  rw [List.getElem?_append_left (List.getElem?_eq_some_iff.mp q).1]
  exact q
theorem has_new (h : HP) (c : List Int) : Has (h ++ [HObj.lst (nums c)]) h.length c := by
  unfold Has
  rw [List.getElem?_append_right (Nat.le_refl _), Nat.sub_self]
  rfl
theorem tabOk_of {l c : List Int} (h : tabOk l c = true) : okS l = true ∧ (c.length : Int) = prod l ∧ c.all cellOk = true := by
  unfold tabOk at h
  simpa [Bool.and_eq_true] using h
theorem tabOk_mk {l c : List Int} (h1 : okS l = true) (h2 : (c.length : Int) = prod l) (h3 : c.all cellOk = true) : tabOk l c = true := by
  unfold tabOk
  rw [h1, h3, decide_eq_true h2]
  rfl
theorem okS_len {l : List Int} (h : okS l = true) : l.length ≤ 4 := by
  unfold okS at h
  simp only [Bool.and_eq_true, decide_eq_true_eq] at h
  exact h.1
theorem okS_in {l : List Int} (h : okS l = true) : ∀ x ∈ l, 0 ≤ x ∧ x ≤ 64 := by
  unfold okS at h
  simp only [Bool.and_eq_true, decide_eq_true_eq] at h
  exact in64_iff.mp h.2.1
theorem okS_mid {l : List Int} (h : okS l = true) : midI l := fun x hx => by have := okS_in h x hx; omega
theorem okS_prod {l : List Int} (h : okS l = true) : prod l ≤ 4096 := by
  unfold okS at h
  simp only [Bool.and_eq_true, decide_eq_true_eq] at h
  exact h.2.2
theorem okS_nn {l : List Int} (h : okS l = true) : 0 ≤ prod l := (prod_le l (okS_in h) 4 (okS_len h)).1
theorem at0_get {l c m : List Int} (hb : inB l m) (hc : (c.length : Int) = prod l) (h : HP) : getI (nums c) (wsum l m) h = .ok (.int (at0 l c m)) h := by
  obtain ⟨w0, w1⟩ := inB_wsum hb
  obtain ⟨p, ep⟩ := Int.eq_ofNat_of_zero_le w0
  unfold at0
  rw [ep, Int.toNat_natCast]
  exact getI_nat h (nums c) p (nums_at (by omega))
theorem at0_ok {l c m : List Int} (hb : inB l m) (hc : (c.length : Int) = prod l) (ok : c.all cellOk = true) : 0 ≤ at0 l c m ∧ at0 l c m < 1000003 := by
  obtain ⟨w0, w1⟩ := inB_wsum hb
  unfold at0
  have hk : (wsum l m).toNat < c.length := by omega
  have := List.all_eq_true.mp ok (c.getD (wsum l m).toNat 0) (by rw [List.getD_eq_getElem?_getD, List.getElem?_eq_getElem hk]; exact List.getElem_mem hk)
  unfold cellOk at this
  simpa using this
/-! ### an index -/
/-! ### the last of a list -/
theorem atI_last (l : List DV) (d : DV) : atI (l ++ [d]) (-1) = some d := by
  have e : (-1 + ((l ++ [d]).length : Int)).toNat = l.length := by simp; omega
  unfold atI ixN
  rw [if_neg (by decide), if_pos (by simp; omega)]
  simp only [e]
  simp
theorem getI_last (l : List DV) (d : DV) (h : HP) : getI (l ++ [d]) (-1) h = .ok d h := by
  unfold getI
  rw [atI_last]
  rfl
theorem putAt_last (l : List DV) (x d : DV) : putAt (l ++ [x]) d (.int (-1)) = some (l ++ [d]) := by
  show (match ixN (l ++ [x]).length (-1) with
    | some j => some ((l ++ [x]).set j d)
    | none => none) = _
  have e : (-1 + ((l ++ [x]).length : Int)).toNat = l.length := by simp; omega
  unfold ixN
  rw [if_neg (by decide), if_pos (by simp; omega)]
  simp only [e]
  simp
/-! ### which lines the answer hangs on -/
def bls (l : List Bool) : List DV := l.map DV.bl
theorem bls_len (l : List Bool) : (bls l).length = l.length := List.length_map _
theorem bls_set (l : List Bool) (k : Nat) (b : Bool) : (bls l).set k (.bl b) = bls (l.set k b) := by
  unfold bls
  rw [List.map_set]
theorem bls_at (h : HP) (l : List Bool) (k : Nat) (hk : k < l.length) : getI (bls l) (k : Int) h = .ok (.bl (l.getD k false)) h := getI_nat h _ k (by
  unfold bls
  rw [List.getElem?_map, List.getD_eq_getElem?_getD, List.getElem?_eq_getElem hk]
  rfl)
def Reads (P : List DV) (R : List (List Nat)) : Prop := P.length = R.length ∧ ∀ (k : Nat) (d : DV) (r : List Nat), P[k]? = some d → R[k]? = some r → r.length ≤ 1000 ∧ (∀ x ∈ r, x < k) ∧ ∀ h, f_read_by [d] h = .ok (.lst (r.map iN)) h
def mark (f : List Bool) (r : List Nat) : List Bool := r.foldl (fun f x => f.set x true) f
def wantT (R : List (List Nat)) (f : List Bool) (k : Nat) : List Bool := if f.getD k false = true then mark f (R.getD k []) else f
def wantL (R : List (List Nat)) (n : Nat) (f : List Bool) : List Bool := ((List.range n).map fun k => n - 1 - k).foldl (wantT R) f
def wantF (R : List (List Nat)) : List Bool := wantL R R.length (List.replicate (R.length - 1) false ++ [true])
theorem mark_len (r : List Nat) (f : List Bool) : (mark f r).length = f.length := by
  unfold mark
  induction r generalizing f with
  | nil => rfl
  | cons x r ih => rw [List.foldl_cons, ih, List.length_set]
theorem wantT_len (R : List (List Nat)) (f : List Bool) (k : Nat) : (wantT R f k).length = f.length := by
  unfold wantT
  split
  · exact mark_len _ _
  · rfl
theorem mark_loop (A C : Slot) (h : HP) : ∀ (r : List Nat) (f : List Bool), (∀ x ∈ r, x < f.length) → forL (tName 3) m_wanted_lines_b1 [3] (r.map iN) [A, .own (bls f), C, .none] h = .nx [A, .own (bls (mark f r)), C, .none] h
  | [], f, _ => rfl
  | x :: r, f, hr => by
    have hx := hr x List.mem_cons_self
    have pa := putAt_nat (bls f) (.bl true) x (by rw [bls_len]; exact hx)
    rw [bls_set] at pa
    have t : turn (tName 3) m_wanted_lines_b1 [3] (iN x) [A, .own (bls f), C, .none] h = .nx [A, .own (bls (f.set x true)), C, .none] h := by simp [m_wanted_lines_b1, iN, pa]
    rw [List.map_cons, forL_cons, t, lR_nx, mark_loop A C h r (f.set x true) fun y hy => by rw [List.length_set]; exact hr y (List.mem_cons_of_mem _ hy)]
    rfl
theorem want_turn (P : List DV) (R : List (List Nat)) (rd : Reads P R) (k : Nat) (hk : k < P.length) (f : List Bool) (hf : f.length = P.length) (h : HP) :
    turn (tName 2) m_wanted_lines_b2 [2, 3] (.int (k : Int)) [.val (.lst P), .own (bls f), .none, .none] h = .nx [.val (.lst P), .own (bls (wantT R f k)), .none, .none] h := by
  have ga := bls_at h f k (by omega)
  have e1 : P[k]? = some P[k] := List.getElem?_eq_getElem hk
  have hk2 : k < R.length := rd.1 ▸ hk
  have e2 : R[k]? = some (R.getD k []) := by
    rw [List.getD_eq_getElem?_getD, List.getElem?_eq_getElem hk2]
    rfl
  obtain ⟨rl, rb, rr⟩ := rd.2 k _ _ e1 e2
  have gp := getI_nat h P k e1
  unfold wantT
  cases b : f.getD k false with
  | false =>
    rw [b] at ga
    simp [m_wanted_lines_b2, ga]
  | true =>
    rw [b] at ga
    have ml := mark_loop (.val (.lst P)) (.val (.int (k : Int))) h (R.getD k []) f (fun x hx => by have := rb x hx; omega)
    have rr := rr h
    generalize R.getD k [] = r at *
    generalize P[k] = d at *
    simp [m_wanted_lines_b2, ga, gp, rr, ml]
theorem want_loop (P : List DV) (R : List (List Nat)) (rd : Reads P R) (h : HP) : ∀ (ks : List Nat) (f : List Bool), (∀ k ∈ ks, k < P.length) → f.length = P.length →
    forL (tName 2) m_wanted_lines_b2 [2, 3] (ks.map fun (k : Nat) => DV.int (k : Int)) [.val (.lst P), .own (bls f), .none, .none] h = .nx [.val (.lst P), .own (bls (ks.foldl (wantT R) f)), .none, .none] h
  | [], f, _, _ => rfl
  | k :: ks, f, hk, hf => by
    rw [List.map_cons, forL_cons, want_turn P R rd k (hk k List.mem_cons_self) f hf h, lR_nx, want_loop P R rd h ks _ (fun j hj => hk j (List.mem_cons_of_mem _ hj)) (by rw [wantT_len]; exact hf)]
    rfl
theorem f_wanted_is (P : List DV) (R : List (List Nat)) (rd : Reads P R) (l0 : 0 < P.length) (l1 : P.length ≤ 1000) (h : HP) : f_wanted_lines [.lst P] h = .ok (.lst (bls (wantF R))) h := by
  unfold f_wanted_lines wantF wantL
  rw [fnM_app, ← rd.1]
  have lm := lMul_one (.bl false) P.length (by omega) h
  have rp : List.replicate P.length (DV.bl false) = List.replicate (P.length - 1) (.bl false) ++ [.bl false] := by
    rw [← List.replicate_succ']
    congr 1
    omega
  have pa := putAt_last (List.replicate (P.length - 1) (DV.bl false)) (.bl false) (.bl true)
  rw [← rp] at pa
  have fb : List.replicate (P.length - 1) (DV.bl false) ++ [DV.bl true] = bls (List.replicate (P.length - 1) false ++ [true]) := by simp [bls]
  rw [fb] at pa
  have e := want_loop P R rd h ((List.range P.length).map fun k => P.length - 1 - k) (List.replicate (P.length - 1) false ++ [true]) (fun k hk => by
    obtain ⟨j, hj, ej⟩ := List.mem_map.mp hk
    have := List.mem_range.mp hj
    omega) (by simp; omega)
  have it := itRR_nat P.length h (by omega)
  have rg : (rng P.length).reverse = ((List.range P.length).map fun k => P.length - 1 - k).map fun (k : Nat) => DV.int (k : Int) := by
    rw [rng_map, ← List.map_reverse, range_rev]
  rw [rg] at it
  generalize ((List.range P.length).map fun k => P.length - 1 - k) = ks at *
  have z : ([DV.bl false].length * P.length) ≤ 16777216 := by simp; omega
  simp [m_wanted_lines, List.replicate_succ, lm, pa, it, e]
theorem mark_keep (r : List Nat) (f : List Bool) (k : Nat) (h : f.getD k false = true) : (mark f r).getD k false = true := by
  unfold mark
  induction r generalizing f with
  | nil => exact h
  | cons x r ih =>
    rw [List.foldl_cons]
    apply ih
    rw [List.getD_eq_getElem?_getD] at h ⊢
    by_cases e : x = k
    · subst e
      by_cases z : x < f.length
      · rw [List.getElem?_set_self z]
        rfl
      · rw [List.getElem?_eq_none (by omega)] at h
        cases h
    · rw [List.getElem?_set_ne e]
      exact h
theorem mark_in (r : List Nat) (f : List Bool) (k : Nat) (hk : k ∈ r) (hl : k < f.length) : (mark f r).getD k false = true := by
  induction r generalizing f with
  | nil => cases hk
  | cons x r ih =>
    show (mark (f.set x true) r).getD k false = true
    rcases List.mem_cons.mp hk with e | e
    · subst e
      apply mark_keep
      rw [List.getD_eq_getElem?_getD, List.getElem?_set_self hl]
      rfl
    · exact ih _ e (by rw [List.length_set]; exact hl)
theorem mark_same (r : List Nat) (f : List Bool) (k : Nat) (hk : k ∉ r) : (mark f r).getD k false = f.getD k false := by
  induction r generalizing f with
  | nil => rfl
  | cons x r ih =>
    show (mark (f.set x true) r).getD k false = _
    rw [ih _ (fun m => hk (List.mem_cons_of_mem _ m)), List.getD_eq_getElem?_getD, List.getD_eq_getElem?_getD, List.getElem?_set_ne (fun e => hk (by rw [e]; exact List.mem_cons_self))]
theorem wantT_keep (R : List (List Nat)) (f : List Bool) (j k : Nat) (h : f.getD k false = true) : (wantT R f j).getD k false = true := by
  unfold wantT
  split
  · exact mark_keep _ _ _ h
  · exact h
theorem want_keep (R : List (List Nat)) : ∀ (ks : List Nat) (f : List Bool) (k : Nat), f.getD k false = true → (ks.foldl (wantT R) f).getD k false = true
  | [], _, _, h => h
  | j :: ks, f, k, h => want_keep R ks _ k (wantT_keep R f j k h)
theorem want_len (R : List (List Nat)) : ∀ (ks : List Nat) (f : List Bool), (ks.foldl (wantT R) f).length = f.length
  | [], _ => rfl
  | j :: ks, f => by rw [List.foldl_cons, want_len R ks, wantT_len]
theorem wantF_len (R : List (List Nat)) (h : 0 < R.length) : (wantF R).length = R.length := by
  unfold wantF wantL
  rw [want_len]
  simp
  omega
theorem wantF_last (R : List (List Nat)) (h : 0 < R.length) : (wantF R).getD (R.length - 1) false = true := by
  unfold wantF wantL
  apply want_keep
  simp
theorem wantL_closed (R : List (List Nat)) (hR : ∀ (k : Nat), ∀ x ∈ R.getD k [], x < k) : ∀ (n : Nat) (f : List Bool), n ≤ f.length → ∀ k, k < n → (wantL R n f).getD k false = true → ∀ x ∈ R.getD k [], (wantL R n f).getD x false = true
  | 0, _, _, _, hk, _, _, _ => by cases hk
  | n + 1, f, hf, k, hk, w, x, hx => by
    have e : wantL R (n + 1) f = wantL R n (wantT R f n) := by
      unfold wantL
      rw [List.range_succ_eq_map, List.map_cons, List.foldl_cons, List.map_map]
      simp only [Nat.add_sub_cancel, Nat.sub_zero]
      congr 1
      apply List.map_congr_left
      intro j _
      simp only [Function.comp_apply]
      omega
    rw [e] at w ⊢
    by_cases z : k = n
    · subst z
      have k1 : (f.getD k false) = true := by
        -- behind k nothing marks k
        have key : ∀ (m : Nat) (g : List Bool), m ≤ k → (wantL R m g).getD k false = g.getD k false := by
          intro m
          induction m with
          | zero => intro g _; rfl
          | succ m ih =>
            intro g hm
            have e2 : wantL R (m + 1) g = wantL R m (wantT R g m) := by
              unfold wantL
              rw [List.range_succ_eq_map, List.map_cons, List.foldl_cons, List.map_map]
              simp only [Nat.add_sub_cancel, Nat.sub_zero]
              congr 1
              apply List.map_congr_left
              intro j _
              simp only [Function.comp_apply]
              omega
            rw [e2, ih _ (by omega)]
            unfold wantT
            split
            · exact mark_same _ _ _ fun mm => by have := hR m k mm; omega
            · rfl
        rw [key k _ (Nat.le_refl _)] at w
        unfold wantT at w
        split at w
        · rename_i q
          exact q
        · exact w
      apply want_keep
      unfold wantT
      rw [if_pos k1]
      exact mark_in _ _ _ hx (by have := hR k x hx; omega)
    · exact wantL_closed R hR n (wantT R f n) (by rw [wantT_len]; omega) k (by omega) w x hx
theorem wantF_closed (R : List (List Nat)) (hR : ∀ (k : Nat), ∀ x ∈ R.getD k [], x < k) (k : Nat) (hk : k < R.length) (w : (wantF R).getD k false = true) : ∀ x ∈ R.getD k [], (wantF R).getD x false = true :=
  wantL_closed R hR R.length _ (by simp; omega) k hk w

/-! ### spread -/
theorem inB_of : ∀ {l m : List Int}, m.length = l.length → (∀ k, k < l.length → 0 ≤ m.getD k 0 ∧ m.getD k 0 < l.getD k 0) → inB l m
  | [], [], _, _ => trivial
  | x :: l, a :: m, e, h => ⟨h 0 (by simp), inB_of (by simpa using e) fun k hk => by
      have := h (k + 1) (by simpa using hk)
      simpa using this⟩
  | [], _ :: _, e, _ => by simp at e
  | _ :: _, [], e, _ => by simp at e
def fitsTo (a S : List Int) : Prop := a.length ≤ S.length ∧ ∀ k, k < a.length → a.getD k 0 = 1 ∨ S.getD (S.length - a.length + k) 0 = a.getD k 0
theorem fitsTo_refl (a : List Int) : fitsTo a a := ⟨Nat.le_refl _, fun k _ => .inr (by rw [Nat.sub_self, Nat.zero_add])⟩
theorem fitsTo_trans {a b c : List Int} (h1 : fitsTo a b) (h2 : fitsTo b c) : fitsTo a c := by
  refine ⟨Nat.le_trans h1.1 h2.1, fun k hk => ?_⟩
  have l1 := h1.1
  have l2 := h2.1
  rcases h1.2 k hk with e | e
  · exact .inl e
  · rcases h2.2 (b.length - a.length + k) (by omega) with e2 | e2
    · exact .inl (by rw [← e, e2])
    · exact .inr (by rw [← e, ← e2, show c.length - b.length + (b.length - a.length + k) = c.length - a.length + k by omega])
def spr (l m : List Int) : List Int := (List.range l.length).map fun k => if l.getD k 0 = 1 then 0 else m.getD (m.length - l.length + k) 0
theorem spr_len (l m : List Int) : (spr l m).length = l.length := by simp [spr]
theorem spr_get (l m : List Int) (k : Nat) (hk : k < l.length) : (spr l m).getD k 0 = if l.getD k 0 = 1 then 0 else m.getD (m.length - l.length + k) 0 := by
  unfold spr
  rw [List.getD_eq_getElem?_getD, List.getElem?_map, List.getElem?_range hk]
  rfl
theorem inB_spr {l S m : List Int} (f : fitsTo l S) (h : inB S m) : inB l (spr l m) := by
  have ml := inB_len h
  have f1 := f.1
  refine inB_of (spr_len l m) fun k hk => ?_
  rw [spr_get l m k hk]
  rcases f.2 k hk with e | e
  · rw [if_pos e, e]
    exact ⟨by decide, by decide⟩
  · have := inB_at (S.length - l.length + k) h (by omega)
    rw [e, ← ml] at this
    split
    · omega
    · exact this
theorem getD_ext {a b : List Int} (h : a.length = b.length) (q : ∀ k, k < a.length → a.getD k 0 = b.getD k 0) : a = b := by
  apply List.ext_getElem h
  intro k h1 h2
  have := q k h1
  rw [List.getD_eq_getElem?_getD, List.getD_eq_getElem?_getD, List.getElem?_eq_getElem h1, List.getElem?_eq_getElem h2] at this
  exact this
theorem spr_self {l m : List Int} (h : inB l m) : spr l m = m := by
  have ml := inB_len h
  refine getD_ext (by rw [spr_len, ml]) fun k hk => ?_
  rw [spr_len] at hk
  rw [spr_get l m k hk, ml, Nat.sub_self, Nat.zero_add]
  have := inB_at k h hk
  split
  · omega
  · rfl
theorem padL_lo (a : List Int) (n k : Nat) (hk : k < a.length) (hn : a.length ≤ n) : padL a n (n - a.length + k) = a.getD k 0 := by
  unfold padL
  rw [if_pos (by omega), show n - a.length + k + a.length - n = k by omega]
theorem metO_some {a b S : List Int} (h : metO a b = some S) : S.length = max a.length b.length ∧ ∀ k, k < S.length → metOk (padL a S.length k) (padL b S.length k) = true ∧ S.getD k 0 = met (padL a S.length k) (padL b S.length k) := by
  have hl := metO_len h
  refine ⟨hl, fun k hk => ?_⟩
  unfold metO at h
  split at h
  · rename_i q
    cases h
    rw [hl] at hk ⊢
    have := List.all_eq_true.mp q k (List.mem_range.mpr hk)
    refine ⟨this, ?_⟩
    rw [List.getD_eq_getElem?_getD, List.getElem?_map, List.getElem?_range hk]
    rfl
  · cases h
theorem metO_fits {a b S : List Int} (h : metO a b = some S) : fitsTo a S ∧ fitsTo b S := by
  obtain ⟨hl, hk⟩ := metO_some h
  have la : a.length ≤ S.length := hl ▸ Nat.le_max_left _ _
  have lb : b.length ≤ S.length := hl ▸ Nat.le_max_right _ _
  refine ⟨⟨la, fun k ha => ?_⟩, ⟨lb, fun k hb => ?_⟩⟩
  · obtain ⟨o, e⟩ := hk (S.length - a.length + k) (by omega)
    rw [padL_lo a S.length k ha la] at o e
    by_cases z : a.getD k 0 = 1
    · exact .inl z
    · right
      rw [e]
      unfold met
      rw [if_neg z]
  · obtain ⟨o, e⟩ := hk (S.length - b.length + k) (by omega)
    rw [padL_lo b S.length k hb lb] at o e
    by_cases z : b.getD k 0 = 1
    · exact .inl z
    · right
      rw [e]
      unfold metOk at o
      simp only [Bool.or_eq_true, decide_eq_true_eq] at o
      unfold met
      rcases o with o | o | o
      · split
        · rfl
        · exact o
      · rw [if_pos o]
      · exact absurd o z
theorem met1 {a b S : List Int} (h : metAll a [b] = some S) : metO a b = some S := by
  unfold metAll at h
  cases e : metO a b with
  | none => rw [e] at h; cases h
  | some l => rw [e] at h; exact h
theorem met2 {a b c S : List Int} (h : metAll a [b, c] = some S) : ∃ l, metO a b = some l ∧ metO l c = some S := by
  unfold metAll at h
  cases e : metO a b with
  | none => rw [e] at h; cases h
  | some l => rw [e] at h; exact ⟨l, rfl, met1 h⟩

/-! ### programs of givens and a line -/
theorem flat_row {ns : List Int} {h : HP} (r : Row0 ns h) : h.all flatO = true := by
  obtain ⟨k, e⟩ := r
  subst e
  rfl
theorem read_gv (i : Nat) (h : HP) : f_read_by [gv i] h = .ok (.lst []) h := read_c1 _ _ [] (fun _ => .non) h rfl (by decide) fun p hp => by cases hp
theorem okS_small {l : List Int} (h : okS l = true) : small l := okS_in h
def All2 {A B : Type} (P : A → B → Prop) : List A → List B → Prop
  | [], [] => True
  | a :: l, b :: m => P a b ∧ All2 P l m
  | _, _ => False
theorem All2.len {A B : Type} {P : A → B → Prop} : ∀ {l : List A} {m : List B}, All2 P l m → m.length = l.length
  | [], [], _ => rfl
  | _ :: _, _ :: _, h => by rw [List.length_cons, List.length_cons, All2.len h.2]
  | [], _ :: _, h => by cases h
  | _ :: _, [], h => by cases h
theorem lcL_all {A B : Type} (g : A → DV) (f : B → DV) {t : DV → En → Option En} {me : En → M DV} {e : En} (R : HP → Prop) (P : A → B → Prop) : ∀ (l : List A) (h : HP), R h → (∀ x ∈ l, ∀ h, R h → ∃ (e1 : En) (v : B) (h' : HP), t (g x) e = some e1 ∧ me e1 h = .ok (f v) h' ∧ P x v ∧ R h') →
    ∃ (vs : List B) (h' : HP), lcL t mYes me e (l.map g) h = .ok (vs.map f) h' ∧ All2 P l vs ∧ R h'
  | [], h, r, _ => ⟨[], h, rfl, trivial, r⟩
  | x :: l, h, r, q => by
    obtain ⟨e1, v, h1, a, b, p, r1⟩ := q x List.mem_cons_self h r
    obtain ⟨vs, h2, c, d, r2⟩ := lcL_all g f R P l h1 r1 fun y hy => q y (List.mem_cons_of_mem _ hy)
    refine ⟨v :: vs, h2, ?_, ⟨p, d⟩, r2⟩
    rw [List.map_cons, lcL_is]
    unfold lcOne
    rw [a]
    show bR (bR (me e1 h) _) _ = _
    rw [b, bR_ok, bR_ok, c, bR_ok]
    rfl
theorem mLc_all {A B : Type} (g : A → DV) (f : B → DV) {vs : List Nat} {mi : En → M (List DV)} {t : DV → En → Option En} {me : En → M DV} {e : En} {h h1 : HP} {l : List A} (R : HP → Prop) (P : A → B → Prop) (hi : mi e h = .ok (l.map g) h1) (hl : l.length ≤ 16777216) (r : R h1)
    (q : ∀ x ∈ l, ∀ h, R h → ∃ (e1 : En) (v : B) (h' : HP), t (g x) (wipeE e vs) = some e1 ∧ me e1 h = .ok (f v) h' ∧ P x v ∧ R h') : ∃ (ws : List B) (h' : HP), mLc vs mi t mYes me e h = .ok (ws.map f) h' ∧ All2 P l ws ∧ R h' := by
  obtain ⟨ws, h2, a, b, d⟩ := lcL_all g f R P l h1 r q
  refine ⟨ws, h2, ?_, b, d⟩
  unfold mLc
  rw [bind_app, hi, bR_ok, if_pos (by rw [List.length_map]; exact hl)]
  unfold noX
  rw [a]
theorem metO_of {a S : List Int} (f : fitsTo a S) : metO a S = some S := by
  have f1 := f.1
  have mx : max a.length S.length = S.length := Nat.max_eq_right f1
  have key : ∀ k, k < S.length → metOk (padL a S.length k) (padL S S.length k) = true ∧ met (padL a S.length k) (padL S S.length k) = S.getD k 0 := fun k hk => by
    have pS : padL S S.length k = S.getD k 0 := by
      have := padL_lo S S.length k hk (Nat.le_refl _)
      rwa [Nat.sub_self, Nat.zero_add] at this
    rw [pS]
    by_cases z : S.length - a.length ≤ k
    · have pa := padL_lo a S.length (k - (S.length - a.length)) (by omega) f1
      rw [show S.length - a.length + (k - (S.length - a.length)) = k by omega] at pa
      rcases f.2 (k - (S.length - a.length)) (by omega) with e | e
      · rw [pa, e]
        exact ⟨by simp [metOk], by simp [met]⟩
      · rw [show S.length - a.length + (k - (S.length - a.length)) = k by omega] at e
        rw [pa, ← e]
        refine ⟨by simp [metOk], ?_⟩
        unfold met
        split
        · rfl
        · rfl
    · have pa : padL a S.length k = 1 := by
        unfold padL
        rw [if_neg z]
      rw [pa]
      exact ⟨by simp [metOk], by simp [met]⟩
  unfold metO
  rw [mx, if_pos (List.all_eq_true.mpr fun k hk => (key k (List.mem_range.mp hk)).1)]
  congr 1
  refine getD_ext (by simp) fun k hk => ?_
  have hk : k < S.length := by simpa using hk
  rw [List.getD_eq_getElem?_getD, List.getElem?_map, List.getElem?_range hk]
  exact (key k hk).2
theorem rot_ok (n t : Nat) (hn : n ≤ 4) (ht : t < max 1 n) : sortedOk ((List.range n).map fun (k : Nat) => ((k : Int) + (t : Int)) % (n : Int)) n = true ∧ sortedOk ((List.range n).map fun (k : Nat) => ((k : Int) + (t : Int)) % (n : Int)).reverse n = true := by
  have : n = 0 ∨ n = 1 ∨ n = 2 ∨ n = 3 ∨ n = 4 := by omega
  rcases this with e | e | e | e | e <;> subst e
  · have : t = 0 := by simp at ht; omega
    subst this
    constructor <;> decide +kernel
  · have : t = 0 := by simp at ht; omega
    subst this
    constructor <;> decide +kernel
  · have : t = 0 ∨ t = 1 := by simp at ht; omega
    rcases this with e | e <;> subst e <;> constructor <;> decide +kernel
  · have : t = 0 ∨ t = 1 ∨ t = 2 := by simp at ht; omega
    rcases this with e | e | e <;> subst e <;> constructor <;> decide +kernel
  · have : t = 0 ∨ t = 1 ∨ t = 2 ∨ t = 3 := by simp at ht; omega
    rcases this with e | e | e | e <;> subst e <;> constructor <;> decide +kernel
theorem all2_fits : ∀ {l ws : List Int}, All2 (fun (x v : Int) => (x = 1 ∧ 0 ≤ v ∧ v ≤ 3) ∨ (x ≠ 1 ∧ v = x)) l ws → ∀ k, k < l.length → l.getD k 0 = 1 ∨ ws.getD k 0 = l.getD k 0
  | x :: l, v :: ws, h, 0, _ => by
    rcases h.1 with q | q
    · exact .inl q.1
    · exact .inr q.2
  | x :: l, v :: ws, h, k + 1, hk => all2_fits (l := l) (ws := ws) h.2 k (by simpa using hk)
  | [], _, _, _, hk => by cases hk
  | _ :: _, [], h, _, _ => by cases h

end LM

-- dropped: Good.line Good.sides
namespace LM
open PySem L2
def dD (d : String) (a b : Int) : Int :=
  if d = "add" then (a + b) % 1000003 else if d = "less" then (a - b) % 1000003 else if d = "times" then a * b % 1000003 else if d = "least" then (if b < a then b else a) else
  if d = "most" then (if a < b then b else a) else if d = "below" then (if a < b then 1 else 0) else (if a = b then 1 else 0)
def okN (n : Int) : Prop := 0 ≤ n ∧ n < 1000003
def deed7 (d : String) : Prop := d = "add" ∨ d = "less" ∨ d = "times" ∨ d = "least" ∨ d = "most" ∨ d = "below" ∨ d = "alike"
def deed4 (d : String) : Prop := d = "add" ∨ d = "times" ∨ d = "least" ∨ d = "most"
theorem deed4.to7 {d : String} (h : deed4 d) : deed7 d := by
  unfold deed4 at h
  unfold deed7
  rcases h with e | e | e | e <;> simp [e]
theorem dD_ok {d : String} {a b : Int} (hd : deed7 d) (oa : okN a) (ob : okN b) : okN (dD d a b) := by
  unfold okN at *
  rcases hd with e | e | e | e | e | e | e <;> subst e <;> simp [dD] <;> (try split) <;> (try constructor) <;> (try omega)

def dO (d : String) (a : Int) : Int := if d = "minus" then (0 - a) % 1000003 else if d = "half" then a / 2 else (if a = 0 then 1 else 0)
def deed3 (d : String) : Prop := d = "minus" ∨ d = "half" ∨ d = "none"
theorem dO_ok {d : String} {a : Int} (hd : deed3 d) (oa : okN a) : okN (dO d a) := by
  unfold okN at *
  rcases hd with e | e | e <;> subst e <;> simp [dO] <;> (try split) <;> (try constructor) <;> (try omega)

def Ln.deedOk : Ln → Prop
  | .one d _ => deed3 d
  | .both d _ _ => deed7 d
  | .fold d _ _ => deed4 d
  | .run d _ _ => deed4 d
  | .shift _ _ _ n => okN n
  | .even _ n => okN n
  | _ => True

inductive Li where
  | gv (k : Nat)
  | ln (l : Ln)
def Li.dv : Li → DV
  | .gv k => LM.gv k
  | .ln l => l.dv
def Li.refs : Li → List Nat
  | .gv _ => []
  | .ln l => l.refs
def LineOk (G S : List (List Int)) (k : Nat) (s : List Int) : Li → Prop
  | .gv i => i < G.length ∧ G.getD i [] = s
  | .ln l => (∀ r ∈ l.refs, r < k) ∧ 0 ≤ l.num ∧ l.num < 1000003 ∧ l.ok ∧ l.wd ∧ l.deedOk ∧ l.due S = some s
structure Good (G : List (List Int)) (P : List Li) (S : List (List Int)) : Prop where
  len : S.length = P.length
  l0 : 0 < P.length
  l1 : P.length ≤ 40
  okG : ∀ g ∈ G, okS g = true
  okS : ∀ s ∈ S, okS s = true
  at_ : ∀ (k : Nat) (li : Li), P[k]? = some li → LineOk G S k (S.getD k []) li
theorem due_cut (ln : Ln) (S : List (List Int)) (k : Nat) (h : ∀ r ∈ ln.refs, r < k) : ln.due (S.take k) = ln.due S := by
  have g : ∀ r ∈ ln.refs, (S.take k).getD r [] = S.getD r [] := fun r hr => by
    rw [List.getD_eq_getElem?_getD, List.getD_eq_getElem?_getD, List.getElem?_take_of_lt (h r hr)]
  cases ln <;> simp only [Ln.refs, List.mem_cons, List.not_mem_nil, or_false, forall_eq_or_imp, forall_eq] at g <;> simp only [Ln.due, g]
theorem okd_li (li : Li) (h : ∀ l, li = .ln l → l.wd) : okd 2 li.dv := by
  cases li with
  | gv k => exact okd_mono (okd_gv k) (by decide)
  | ln l => exact okd_mono (okd_ln l (h l rfl)) (by decide)
section
variable {G S : List (List Int)} {P : List Li}
theorem Good.reads (g : Good G P S) : Reads (P.map Li.dv) (P.map Li.refs) := by
  refine ⟨by simp, fun k d r e1 e2 => ?_⟩
  rw [List.getElem?_map] at e1 e2
  cases z : P[k]? with
  | none => rw [z] at e1; cases e1
  | some li =>
    rw [z] at e1 e2
    cases e1
    cases e2
    have lo := g.at_ k li z
    cases li with
    | gv i => exact ⟨by show (0 : Nat) ≤ 1000; decide, (fun x (hx : x ∈ []) => nomatch hx), fun h => read_gv i h⟩
    | ln l => exact ⟨by show l.refs.length ≤ 1000; cases l <;> simp [Ln.refs], lo.1, fun h => f_read_by_is l h⟩
theorem Good.sAt (g : Good G P S) (k : Nat) : LM.okS (S.getD k []) = true := by
  by_cases z : k < S.length
  · rw [List.getD_eq_getElem?_getD, List.getElem?_eq_getElem z, Option.getD_some]
    exact g.okS _ (List.getElem_mem z)
  · rw [List.getD_eq_getElem?_getD, List.getElem?_eq_none (by omega)]
    rfl
theorem okd_prog (hP : ∀ li ∈ P, ∀ l, li = .ln l → l.wd) : okD (.lst (P.map Li.dv)) = true := okd_ok (okd_mono (okd_lst (n := 2) fun d hd => by
  obtain ⟨li, h1, h2⟩ := List.mem_map.mp hd
  rw [← h2]
  exact okd_li li (hP li h1)) (by decide))
theorem Good.wds (g : Good G P S) : ∀ li ∈ P, ∀ l, li = .ln l → l.wd := fun li hli l e => by
  obtain ⟨k, hk, ek⟩ := List.mem_iff_getElem.mp hli
  have lo := g.at_ k li (by rw [List.getElem?_eq_getElem hk, ek])
  subst e
  exact lo.2.2.2.2.1
theorem Good.okD (g : Good G P S) : okD (.lst (P.map Li.dv)) = true := okd_prog g.wds
theorem Good.below {G S : List (List Int)} {P : List Li} (g : Good G P S) (k : Nat) : ∀ x ∈ (P.map Li.refs).getD k [], x < k := fun x hx => by
  rw [List.getD_eq_getElem?_getD, List.getElem?_map] at hx
  cases z : P[k]? with
  | none => rw [z] at hx; cases hx
  | some li =>
    rw [z] at hx
    have lo := g.at_ k li z
    cases li with
    | gv i => cases hx
    | ln l => exact lo.1 x hx
theorem Good.closed {G S : List (List Int)} {P : List Li} (g : Good G P S) (k : Nat) (li : Li) (e : P[k]? = some li) (w : (wantF (P.map Li.refs)).getD k false = true) : ∀ r ∈ li.refs, (wantF (P.map Li.refs)).getD r false = true := fun r hr => by
  refine wantF_closed (P.map Li.refs) g.below k (by rw [List.length_map]; exact (List.getElem?_eq_some_iff.mp e).1) w r ?_
  rw [List.getD_eq_getElem?_getD, List.getElem?_map, e]
  exact hr
end

theorem vadd2 (a b : List Int) (ha : a.length ≤ 1000) (hb : b.length ≤ 1000) (h : HP) : vAdd (.tup (nums a)) (.tup (nums b)) h = .ok (.tup (nums (a ++ b))) h := by
  rw [vAdd_tup]
  · rw [nums_app]
  · rw [nums_len, nums_len]
    show _ ≤ 16777216
    omega
theorem vadd3' (a b : List Int) (j : Int) (ha : a.length ≤ 1000) (hb : b.length ≤ 1000) (h : HP) : vAdd (.tup (nums a)) (.tup [.int j]) h = .ok (.tup (nums (a ++ [j]))) h ∧ vAdd (.tup (nums (a ++ [j]))) (.tup (nums b)) h = .ok (.tup (nums (a ++ [j] ++ b))) h :=
  ⟨vadd2 a [j] ha (by simp) h, by
    rw [vAdd_tup]
    · rw [nums_app (a ++ [j]) b]
    · rw [nums_len, nums_len, List.length_append, List.length_singleton]
      show _ ≤ 16777216
      omega⟩

theorem f_law_changed_is (m : List Int) (k : Nat) (j : Int) (hl : m.length ≤ 1000) (h : HP) : f_law_changed [.tup (nums m), .int (k : Int), .int j] h = .ok (.tup (nums (chg m k j))) h := by
  unfold f_law_changed
  rw [fnM_app]
  have ct := cut_to (nums m) k
  have cf := cut_from (nums m) (k + 1)
  rw [nums_take] at ct
  rw [nums_drop, show ((k + 1 : Nat) : Int) = (k : Int) + 1 by omega] at cf
  obtain ⟨v1, v2⟩ := vadd3' (m.take k) (m.drop (k + 1)) j (by simp; omega) (by simp; omega) h
  unfold chg
  generalize nums (m.take k ++ [j] ++ m.drop (k + 1)) = R at *
  generalize nums (m.take k ++ [j]) = R1 at *
  generalize nums (m.take k) = mt at *
  generalize nums (m.drop (k + 1)) = mf at *
  simp [m_law_changed, List.replicate, ct, cf, v1, v2]

/-! ### the law's own meeting -/
theorem pad_app (a : List Int) (n k : Nat) (ha : a.length ≤ n) (hk : k < n) (h : HP) : getI (nums (List.replicate (n - a.length) 1 ++ a)) (k : Int) h = .ok (.int (padL a n k)) h := by
  have g := getI_nat h (nums (List.replicate (n - a.length) 1 ++ a)) k (nums_at (by simp; omega))
  rw [g]
  congr 2
  unfold padL
  rw [List.getD_eq_getElem?_getD, List.getElem?_append]
  by_cases z : n - a.length ≤ k
  · rw [if_pos z, if_neg (by simpa using z), List.length_replicate, List.getD_eq_getElem?_getD, show k - (n - a.length) = k + a.length - n by omega]
  · rw [if_neg z, if_pos (by simp; omega), List.getElem?_replicate, if_pos (by omega)]
    rfl
theorem own_turn (a b s : List Int) (n k : Nat) (A B C : Slot) (ha : a.length ≤ n) (hb : b.length ≤ n) (hk : k < n) (hs : s.length ≤ 1000) (h : HP) :
    turn (tName 6) m_law_met_b1 [6] (.int (k : Int)) [A, B, C, .val (.tup (nums (List.replicate (n - a.length) 1 ++ a))), .val (.tup (nums (List.replicate (n - b.length) 1 ++ b))), .val (.tup (nums s)), .none] h =
      xR (fun s => [A, B, C, .val (.tup (nums (List.replicate (n - a.length) 1 ++ a))), .val (.tup (nums (List.replicate (n - b.length) 1 ++ b))), .val (.tup (nums s)), .none]) h (if metOk (padL a n k) (padL b n k) then .ok (s ++ [met (padL a n k) (padL b n k)]) else .error .non) := by
  have z : s.length + 1 ≤ 16777216 := by omega
  have a1 := pad_app a n k ha hk h
  have b1 := pad_app b n k hb hk h
  generalize List.replicate (n - a.length) (1 : Int) ++ a = la at *
  generalize List.replicate (n - b.length) (1 : Int) ++ b = lb at *
  unfold metOk met
  generalize padL a n k = x at *
  generalize padL b n k = y at *
  by_cases e1 : x = y <;> by_cases e2 : x = 1 <;> by_cases e3 : y = 1 <;>
    first
      | (exfalso; omega)
      | (subst e2 e3; simp [m_law_met_b1, xR, z, a1, b1, getI0, getI1])
      | (subst e1; simp [m_law_met_b1, xR, z, a1, b1, e2, getI0, getI1])
      | (subst e2; simp [m_law_met_b1, xR, z, a1, b1, e3, getI0, getI1])
      | (subst e3; simp [m_law_met_b1, xR, z, a1, b1, e2, getI0, getI1])
      | simp [m_law_met_b1, xR, z, a1, b1, e1, e2, e3, getI0, getI1]
theorem f_law_met_is (a b : List Int) (ha : a.length ≤ 900) (hb : b.length ≤ 900) (h : HP) : f_law_met [.tup (nums a), .tup (nums b)] h = .ok (metL a b) h := by
  unfold f_law_met
  rw [fnM_app]
  generalize hn : max a.length b.length = n
  have hna : a.length ≤ n := hn ▸ Nat.le_max_left _ _
  have hnb : b.length ≤ n := hn ▸ Nat.le_max_right _ _
  have hn1 : n ≤ 900 := hn ▸ Nat.max_le.mpr ⟨ha, hb⟩
  have e := forL_run (A := Nat) (S := List Int) (t := tName 6) (fg := [6]) (b := m_law_met_b1) (h := h) (fun k => .int (k : Int))
    (fun s => [.val (.tup (nums a)), .val (.tup (nums b)), .val (.int (n : Int)), .val (.tup (nums (List.replicate (n - a.length) 1 ++ a))), .val (.tup (nums (List.replicate (n - b.length) 1 ++ b))), .val (.tup (nums s)), .none])
    (fun s k => if metOk (padL a n k) (padL b n k) then .ok (s ++ [met (padL a n k) (padL b n k)]) else .error .non)
    (fun s ks => s.length + ks.length ≤ 1000 ∧ ∀ k ∈ ks, k < n) (List.range n) [] ⟨by simp; omega, fun k hk => List.mem_range.mp hk⟩ fun s k ks ⟨h1, h2⟩ => by
      rw [List.length_cons] at h1
      refine ⟨fun s2 e2 => ?_, own_turn a b s n k _ _ _ hna hnb (h2 k List.mem_cons_self) (by omega) h⟩
      split at e2
      · cases e2
        exact ⟨by simp; omega, fun j hj => h2 j (List.mem_cons_of_mem _ hj)⟩
      · cases e2
  rw [runE_app] at e
  have z : n ≤ 16777216 := by omega
  have mx := max_if a.length b.length
  rw [hn] at mx
  have va := vMulT_one (.int 1) (n - a.length) h (by omega)
  have vb := vMulT_one (.int 1) (n - b.length) h (by omega)
  rw [show ((n - a.length : Nat) : Int) = (n : Int) - a.length by omega, nums_rep] at va
  rw [show ((n - b.length : Nat) : Int) = (n : Int) - b.length by omega, nums_rep] at vb
  have za : n - a.length + a.length ≤ 16777216 := by omega
  have zb : n - b.length + b.length ≤ 16777216 := by omega
  unfold metL
  rw [hn]
  by_cases q : ((List.range n).all fun k => metOk (padL a n k) (padL b n k)) = true
  · rw [if_pos q] at e ⊢
    simp only [List.nil_append, nums_nil, xR, nums_app] at e
    simp [m_law_met, List.replicate, mx, z, va, vb, za, zb, rng_map, e]
  · rw [if_neg q] at e ⊢
    simp only [List.nil_append, nums_nil, xR, nums_app] at e
    simp [m_law_met, List.replicate, mx, z, va, vb, za, zb, rng_map, e]

/-! ### the row, and what else is on the heap -/
def RowR (ns : List Int) (r : List HObj) (h : HP) : Prop := ∃ k : Nat, h = HObj.lst [.scr ns, .int (k : Int)] :: r
theorem taken_r (ns : List Int) (m : Int) (hm : 0 < m) (r : List HObj) (h : HP) (q : RowR ns r h) : ∃ (t : Int) (h' : HP), 0 ≤ t ∧ t < m ∧ RowR ns r h' ∧ f_law_taken [.ref 0, .int m] h = .ok (.int t) h' := by
  obtain ⟨k, e⟩ := q
  subst e
  have r0 := fun (j : Int) => vIdx_ref 0 1 (HObj.lst [.scr ns, .int j] :: r) [.scr ns, .int j] rfl
  have r1 := fun (j : Int) => vIdx_ref 0 0 (HObj.lst [.scr ns, .int j] :: r) [.scr ns, .int j] rfl
  have st : ∀ j : Int, hSet (HObj.lst [.scr ns, .int j] :: r) (.ref 0) (.int 1) (.int (j + 1)) = some (HObj.lst [.scr ns, .int (j + 1)] :: r) := fun j => rfl
  unfold f_law_taken
  rw [fnM_app]
  by_cases z : k < ns.length
  · have g := getI_nat (HObj.lst [.scr ns, .int ((k : Int) + 1)] :: r) (nums ns) k (nums_at z)
    have z2 : (k : Int) < ns.length := by omega
    refine ⟨ns.getD k 0 % m, _, Int.emod_nonneg _ (by omega), Int.emod_lt_of_pos _ hm, ⟨k + 1, rfl⟩, ?_⟩
    simp only [List.getD_eq_getElem?_getD] at g ⊢
    simp [m_law_taken, List.replicate, r0, r1, getI0, getI1, st, z, z2, g, hm]
  · have z2 : ¬ (k : Int) < ns.length := by omega
    refine ⟨0, _, by decide, hm, ⟨k + 1, rfl⟩, ?_⟩
    simp [m_law_taken, List.replicate, r0, r1, getI0, getI1, st, z, z2]
theorem RowR.flat {ns : List Int} {r : List HObj} {h : HP} (q : RowR ns r h) (hr : r.all flatO = true) : h.all flatO = true := by
  obtain ⟨k, e⟩ := q
  subst e
  rw [List.all_cons, hr]
  rfl
theorem fl_nums (c : List Int) : flatRs (nums c) = true := by
  induction c with
  | nil => rfl
  | cons x r ih => simp [flatRs, flatR, ih]

/-! ### sides of drawn lines -/
structure Sd (l : List Int) : Prop where
  l4 : l.length ≤ 4
  b : ∀ x ∈ l, 0 ≤ x ∧ x ≤ 24
  p : prod l ≤ 27
theorem Sd.ok {l : List Int} (s : Sd l) : okS l = true := by
  unfold okS
  rw [decide_eq_true s.l4, decide_eq_true (show prod l ≤ 4096 by have := s.p; omega), in64_iff.mpr fun x hx => by have := s.b x hx; omega]
  rfl
theorem Sd.at_ {l : List Int} (s : Sd l) (k : Nat) (hk : k < l.length) : 0 ≤ l.getD k 0 ∧ l.getD k 0 ≤ 24 := s.b _ (by
  rw [List.getD_eq_getElem?_getD, List.getElem?_eq_getElem hk]
  exact List.getElem_mem hk)
def Wide5 (s : List Int) : Prop := s.length ≤ 5 ∧ ∀ x ∈ s, 0 ≤ x ∧ x ≤ 100
theorem Sd.w5 {l : List Int} (s : Sd l) : Wide5 l := ⟨by have := s.l4; omega, fun x hx => by have := s.b x hx; omega⟩
theorem Wide5.mid {l : List Int} (s : Wide5 l) : midI l := fun x hx => by have := s.2 x hx; omega
def Dr (G S : List (List Int)) (li : Li) (s : List Int) : Prop := LineOk G S S.length s li ∧ Wide5 s
theorem kn_of {l : List Int} {k : Nat} (hk : k < l.length) : inS (k : Int) l = true := by
  unfold inS
  rw [decide_eq_true (by omega), decide_eq_true (by omega)]
  rfl
theorem wo_mem {l : List Int} {k : Nat} {x : Int} (hx : x ∈ wo l k) : x ∈ l := by
  unfold wo at hx
  rcases List.mem_append.mp hx with q | q
  · exact List.mem_of_mem_take q
  · exact List.mem_of_mem_drop q
theorem wo_w5 {l : List Int} {k : Nat} (s : Wide5 l) (hk : k < l.length) : Wide5 (wo l k) := ⟨by rw [wo_len l k hk]; have := s.1; omega, fun x hx => s.2 x (wo_mem hx)⟩
theorem chg_mem {l : List Int} {k : Nat} {y x : Int} (hx : x ∈ chg l k y) : x = y ∨ x ∈ l := by
  unfold chg at hx
  rcases List.mem_append.mp hx with q | q
  · rcases List.mem_append.mp q with q | q
    · exact .inr (List.mem_of_mem_take q)
    · exact .inl (List.mem_singleton.mp q)
  · exact .inr (List.mem_of_mem_drop q)
theorem chg_w5 {l : List Int} {k : Nat} {y : Int} (s : Wide5 l) (hk : k < l.length) (y0 : 0 ≤ y) (y1 : y ≤ 100) : Wide5 (chg l k y) := ⟨by rw [chg_len l k y hk]; exact s.1, fun x hx => by
  rcases chg_mem hx with e | e
  · omega
  · exact s.2 x e⟩
theorem all2_low24 : ∀ {l ws : List Int}, (∀ x ∈ l, 0 ≤ x ∧ x ≤ 24) → All2 (fun (x v : Int) => (x = 1 ∧ 0 ≤ v ∧ v ≤ 3) ∨ (x ≠ 1 ∧ v = x)) l ws → ∀ x ∈ ws, 0 ≤ x ∧ x ≤ 24
  | [], [], _, _, x, hx => by cases hx
  | y :: l, v :: ws, hl, h, x, hx => by
    rcases List.mem_cons.mp hx with e | e
    · have := hl y List.mem_cons_self
      rcases h.1 with q | q <;> omega
    · exact all2_low24 (fun z hz => hl z (List.mem_cons_of_mem _ hz)) h.2 x e
  | [], _ :: _, _, h, _, _ => by cases h
  | _ :: _, [], _, h, _, _ => by cases h
theorem law_view_is (ns : List Int) (R : List HObj) (G S : List (List Int)) (a : Nat) (ha : a < S.length) (l : List Int) (el : S.getD a [] = l) (sd : Sd l) (w : Int) (w0 : 0 ≤ w) (w1 : w < 4) (h : HP) (r : RowR ns R h) :
    ∃ (ln : Ln) (due : List Int) (h' : HP), Dr G S (.ln ln) due ∧ RowR ns R h' ∧ f_law_view [.ref 0, .int (a : Int), .tup (nums l), .int w] h = .ok (.tup [ln.dv, .tup (nums due)]) h' := by
  have l4 := sd.l4
  unfold f_law_view
  rw [fnM_app]
  have ww : w = 0 ∨ w = 1 ∨ w = 2 ∨ w = 3 := by omega
  rcases ww with e | e | e | e <;> subst e
  · -- turn
    obtain ⟨t, h1, t0, t1, r1, e1⟩ := taken_r ns (max 1 (l.length : Int)) (by omega) R h r
    obtain ⟨t, rfl⟩ := Int.eq_ofNat_of_zero_le t0
    have mx : (if (1 : Int) < (l.length : Int) then (l.length : Int) else 1) = max 1 (l.length : Int) := by omega
    have ok := rot_ok l.length t l4 (by omega)
    have it := itN_nat h1 l.length (by omega)
    rw [rng_map] at it
    have c1 : ∀ (A B C D E F G I : Slot), m_law_view_c1 [A, B, C, D, .val (.int (l.length : Int)), E, F, .val (.int (t : Int)), G, I, .none, .none] h1 = .ok (nums ((List.range l.length).map fun (k : Nat) => ((k : Int) + (t : Int)) % (l.length : Int))) h1 := fun A B C D E F G I => by
      unfold m_law_view_c1
      rw [mLc_ints (A := Nat) (l := List.range l.length) (fun (k : Nat) => .int (k : Int)) (fun (k : Nat) => .int (((k : Int) + (t : Int)) % (l.length : Int))) ?_ (by rw [List.length_range]; omega) fun k hk => ⟨_, rfl, ?_⟩, ← nums_map]
      · simp [it]
      · have := List.mem_range.mp hk
        have z : (0 : Int) < (l.length : Int) := by omega
        clear mx e1 it t1
        generalize (l.length : Int) = n at *
        simp [z]
    obtain ⟨ho1, ho2⟩ := ok
    generalize ho : ((List.range l.length).map fun (k : Nat) => ((k : Int) + (t : Int)) % (l.length : Int)) = o at *
    obtain ⟨f, h5, f0, f1, r5, e5⟩ := taken_r ns 2 (by omega) R h1 r1
    have c2 : ∀ (o : List Int) (so : sortedOk o l.length = true) (A B D E F G H I : Slot), m_law_view_c2 [A, B, .val (.tup (nums l)), D, E, F, G, H, .val (.lst (nums o)), I, .none, .none] h5 = .ok (nums (o.map fun j => l.getD j.toNat 0)) h5 := fun o so A B D E F G H I => by
      unfold m_law_view_c2
      have ol := sorted_len so
      rw [mLc_ints (A := Int) (l := o) DV.int (fun j => .int (l.getD j.toNat 0)) ?_ (by omega) fun j hj => ⟨_, rfl, ?_⟩, ← nums_map]
      · simp [nums]
      · obtain ⟨j0, j1⟩ := sorted_in so j hj
        obtain ⟨k, rfl⟩ := Int.eq_ofNat_of_zero_le j0
        have g := getI_nat h5 (nums l) k (nums_at (by omega))
        rw [Int.toNat_natCast]
        generalize l.getD k 0 = v at *
        simp [g]
    have dr : ∀ o : List Int, sortedOk o l.length = true → Dr G S (.ln (.turn a o)) (o.map fun j => l.getD j.toNat 0) := fun o so => by
      refine ⟨⟨by simp [Ln.refs]; exact ha, by simp [Ln.num], by simp [Ln.num], by show o.length ≤ 900; rw [sorted_len so]; omega, trivial, trivial, ?_⟩, ?_⟩
      · show turnO (S.getD a []) o = _
        unfold turnO
        rw [el, if_pos so]
      · refine ⟨by rw [List.length_map, sorted_len so]; omega, fun x hx => ?_⟩
        obtain ⟨j, hj, e⟩ := List.mem_map.mp hx
        obtain ⟨j0, j1⟩ := sorted_in so j hj
        have := sd.at_ j.toNat (by omega)
        rw [← e]
        omega
    have ff : f = 0 ∨ f = 1 := by omega
    rcases ff with e | e <;> subst e
    · refine ⟨.turn a o, _, h5, dr o ho1, r5, ?_⟩
      have c2 := c2 o ho1
      generalize (o.map fun j => l.getD j.toNat 0) = du at *
      simp [m_law_view, m_law_view_r1, List.replicate, mx, e1, c1, e5, c2, Ln.dv, iN]
    · have rv : lLstRev (.lst (nums o)) h5 = .ok (nums o.reverse) h5 := by
        show Res.ok (nums o).reverse h5 = _
        rw [nums_rev]
      refine ⟨.turn a o.reverse, _, h5, dr _ ho2, r5, ?_⟩
      have c2 := c2 o.reverse ho2
      generalize (o.reverse.map fun j => l.getD j.toNat 0) = du at *
      generalize o.reverse = o2 at *
      simp [m_law_view, m_law_view_r1, List.replicate, mx, e1, c1, e5, c2, rv, Ln.dv, iN]
  · -- wide
    obtain ⟨t, h1, t0, t1, r1, e1⟩ := taken_r ns ((l.length : Int) + 1) (by omega) R h r
    obtain ⟨t, rfl⟩ := Int.eq_ofNat_of_zero_le t0
    refine ⟨.wide a (t : Int), l.take t ++ [1] ++ l.drop t, h1, ⟨⟨by simp [Ln.refs]; exact ha, by simp [Ln.num], by simp [Ln.num], trivial, trivial, trivial, ?_⟩, ?_⟩, r1, ?_⟩
    · show wideO (S.getD a []) (t : Int) = _
      unfold wideO
      rw [el, Int.toNat_natCast, if_pos (by rw [Bool.and_eq_true]; exact ⟨decide_eq_true (by omega), decide_eq_true (by omega)⟩)]
    · refine ⟨by simp; omega, fun x hx => ?_⟩
      simp only [List.mem_append, List.mem_singleton] at hx
      rcases hx with (q | q) | q
      · have := sd.b x (List.mem_of_mem_take q); omega
      · omega
      · have := sd.b x (List.mem_of_mem_drop q); omega
    have ct := cut_to (nums l) t
    have cf := cut_from (nums l) t
    rw [nums_take] at ct
    rw [nums_drop] at cf
    obtain ⟨v1, v2⟩ := vadd3' (l.take t) (l.drop t) 1 (by simp; omega) (by simp; omega) h1
    generalize nums (l.take t ++ [1] ++ l.drop t) = R at *
    generalize nums (l.take t ++ [1]) = R1 at *
    generalize nums (l.take t) = gt at *
    generalize nums (l.drop t) = gf at *
    simp [m_law_view, m_law_view_r1, m_law_view_r2, List.replicate, e1, ct, cf, v1, v2, Ln.dv, iN]
  · -- spread
    obtain ⟨ws, h2, c3, al, r2⟩ := mLc_all (A := Int) (B := Int) (l := l) (vs := [11]) (mi := iB (eVar 2) itS) (t := tName 11)
      (me := e2 vIdx (eFrz (aCons (eVar 11) (aCons (eCall f_law_taken (aCons (eVar 0) (aCons (eC (.int 4)) aNil))) aNil))) (e1 vInt (e2 vEq (eVar 11) (eC (.int 1)))))
      (e := [.val (.ref 0), .val (.int (a : Int)), .val (.tup (nums l)), .val (.int 2), .val (.int (l.length : Int)), .none, .none, .none, .none, .none, .none, .none]) (h := h) (h1 := h) DV.int DV.int (RowR ns R) (fun (x v : Int) => (x = 1 ∧ 0 ≤ v ∧ v ≤ 3) ∨ (x ≠ 1 ∧ v = x)) (by simp [nums]) (by omega) r (fun x _ g rg => by
        obtain ⟨t, g', t0, t1, rg', e8⟩ := taken_r ns 4 (by omega) R g rg
        by_cases z : x = 1
        · exact ⟨_, t, g', rfl, by simp [e8, z, getI1], .inl ⟨z, t0, by omega⟩, rg'⟩
        · exact ⟨_, x, g', rfl, by simp [e8, z, getI0], .inr ⟨z, rfl⟩, rg'⟩)
    have c3 : m_law_view_c3 [.val (.ref 0), .val (.int (a : Int)), .val (.tup (nums l)), .val (.int 2), .val (.int (l.length : Int)), .none, .none, .none, .none, .none, .none, .none] h = .ok (nums ws) h2 := c3
    have wl2 := al.len
    have fz := all2_fits al
    have lw := all2_low24 sd.b al
    obtain ⟨f, h5, f0, f1, r5, e5⟩ := taken_r ns 2 (by omega) R h2 r2
    have dr : ∀ s : List Int, fitsTo l s → s.length ≤ 5 → (∀ x ∈ s, 0 ≤ x ∧ x ≤ 24) → Dr G S (.ln (.spread a s)) s := fun s fs s5 sb => by
      refine ⟨⟨by simp [Ln.refs]; exact ha, by simp [Ln.num], by simp [Ln.num], by show s.length ≤ 6; omega, trivial, trivial, ?_⟩, ⟨s5, fun x hx => by have := sb x hx; omega⟩⟩
      show spreadO (S.getD a []) s = _
      unfold spreadO
      rw [el, if_pos (metO_of fs)]
    have ff : f = 0 ∨ f = 1 := by omega
    rcases ff with e | e <;> subst e
    · have fs : fitsTo l ws := ⟨by omega, fun k hk => by
        rw [wl2, Nat.sub_self, Nat.zero_add]
        exact fz k hk⟩
      refine ⟨_, _, h5, dr ws fs (by omega) lw, r5, ?_⟩
      simp [m_law_view, m_law_view_r1, m_law_view_r2, m_law_view_r3, List.replicate, c3, e5, Ln.dv, iN]
    · obtain ⟨t, h6, t0, t1, r6, e6⟩ := taken_r ns 4 (by omega) R h5 r5
      have fs : fitsTo l (t :: ws) := ⟨by rw [List.length_cons]; omega, fun k hk => by
        rw [List.length_cons, show ws.length + 1 - l.length + k = k + 1 by omega, List.getD_cons_succ]
        exact fz k hk⟩
      refine ⟨_, _, h6, dr _ fs (by rw [List.length_cons]; omega) (fun x hx => by
        rcases List.mem_cons.mp hx with q | q
        · omega
        · exact lw x q), r6, ?_⟩
      have va := vadd2 [t] ws (by simp) (by omega) h6
      have va : vAdd (.tup [.int t]) (.tup (nums ws)) h6 = .ok (.tup (.int t :: nums ws)) h6 := va
      simp [m_law_view, m_law_view_r1, m_law_view_r2, m_law_view_r3, List.replicate, c3, e5, e6, va, Ln.dv, iN]
  · -- shape
    have lc : f_law_cells [.tup (nums l)] h = _ := lcellsG true l (okS_mid sd.ok) h
    obtain ⟨t, h1, t0, t1, r1, e1⟩ := taken_r ns 4 (by omega) R h r
    have p1 := sd.p
    have p0 := okS_nn sd.ok
    have rv : vTupRevA (.tup (nums l)) h = .ok (.tup (nums l.reverse)) h := by rw [vTupRevA_tup, nums_rev]
    have key : ∃ s : List Int, prod s = prod l ∧ s.length ≤ 4 ∧ (∀ x ∈ s, 0 ≤ x ∧ x ≤ 27) ∧ getI [.tup (nums l.reverse), .tup [.int (prod l)], .tup [.int 1, .int (prod l)], .tup [.int (prod l), .int 1]] t h1 = .ok (.tup (nums s)) h1 := by
      have tt : t = 0 ∨ t = 1 ∨ t = 2 ∨ t = 3 := by omega
      rcases tt with e | e | e | e <;> subst e
      · exact ⟨l.reverse, prod_rev l, by rw [List.length_reverse]; omega, fun x hx => by have := sd.b x (List.mem_reverse.mp hx); omega, getI0 _ _ h1⟩
      · exact ⟨[prod l], by simp [prod], by simp, fun x hx => by rw [List.mem_singleton.mp hx]; omega, getI1 _ _ _ h1⟩
      · exact ⟨[1, prod l], by simp [prod], by simp, fun x hx => by
          simp only [List.mem_cons, List.not_mem_nil, or_false] at hx
          rcases hx with e | e <;> rw [e] <;> omega, getI2 _ _ _ _ h1⟩
      · exact ⟨[prod l, 1], by simp [prod], by simp, fun x hx => by
          simp only [List.mem_cons, List.not_mem_nil, or_false] at hx
          rcases hx with e | e <;> rw [e] <;> omega, getI3 _ _ _ _ _ h1⟩
    obtain ⟨s, ps, s4, sb, gs⟩ := key
    have oks : okS s = true := by
      unfold okS
      rw [decide_eq_true s4, decide_eq_true (show prod s ≤ 4096 by omega), in64_iff.mpr fun x hx => by have := sb x hx; omega]
      rfl
    refine ⟨.shape a s, s, h1, ⟨⟨by simp [Ln.refs]; exact ha, by simp [Ln.num], by simp [Ln.num], by show s.length ≤ 6; omega, trivial, trivial, ?_⟩, ⟨by omega, fun x hx => by have := sb x hx; omega⟩⟩, r1, ?_⟩
    · show shapeO (S.getD a []) s = _
      unfold shapeO
      rw [el, okSd_eq, oks, prodI_eq, prodI_eq, ps, decide_eq_true rfl]
      rfl
    generalize prod l = pl at *
    simp [m_law_view, m_law_view_r1, m_law_view_r2, m_law_view_r3, m_law_view_r4, m_law_view_r5, m_law_view_r6, List.replicate, lc, rv, e1, gs, Ln.dv, iN]

end LM

-- dropped: 
namespace LM
open PySem L2
theorem cut_room24 (b s t n r f : Int) (b0 : 0 ≤ b) (b1 : b < s) (t0 : 1 ≤ t) (t1 : t ≤ 3) (hr : r = (s - 1 - b) / t) (f0 : 0 ≤ f) (f1 : f < r + 2) (hn : n = r + 1 - f) : 0 ≤ n ∧ n ≤ s ∧ (0 < n → 0 ≤ b + t * (n - 1) ∧ b + t * (n - 1) < s) := by
  have tt : t = 1 ∨ t = 2 ∨ t = 3 := by omega
  rcases tt with e | e | e <;> subst e <;> refine ⟨by omega, by omega, fun _ => ⟨by omega, by omega⟩⟩
theorem cut_back24 (b s t n r f : Int) (b0 : 0 ≤ b) (b1 : b < s) (t0 : 1 ≤ t) (t1 : t ≤ 3) (hr : r = b / t) (f0 : 0 ≤ f) (f1 : f < r + 2) (hn : n = r + 1 - f) : 0 ≤ n ∧ n ≤ s ∧ (0 < n → 0 ≤ b + (0 - t) * (n - 1) ∧ b + (0 - t) * (n - 1) < s) := by
  have tt : t = 1 ∨ t = 2 ∨ t = 3 := by omega
  rcases tt with e | e | e <;> subst e <;> refine ⟨by omega, by omega, fun _ => ⟨by omega, by omega⟩⟩
theorem deed4_wd {d : String} (hd : deed4 d) : dOk d := by
  rcases hd with e | e | e | e <;> subst e <;> (unfold dOk; decide +kernel)
theorem deed7_wd {d : String} (hd : deed7 d) : dOk d := by
  rcases hd with e | e | e | e | e | e | e <;> subst e <;> (unfold dOk; decide +kernel)
theorem deed3_wd {d : String} (hd : deed3 d) : dOk d := by
  rcases hd with e | e | e <;> subst e <;> (unfold dOk; decide +kernel)
theorem cutO_of {l : List Int} {s : Nat} {b t n : Int} (hs : s < l.length) (n0 : 0 ≤ n) (t0 : t ≠ 0) (b0 : 0 ≤ b) (b1 : b < l.getD s 0) (e0 : 0 < n → 0 ≤ b + t * (n - 1)) (e1 : 0 < n → b + t * (n - 1) < l.getD s 0) : cutO l (s : Int) b t n = some (chg l s n) := by
  unfold cutO
  rw [kn_of hs, Int.toNat_natCast, if_pos (by rw [decide_eq_false t0, decide_eq_false (by omega)]; rfl), if_neg]
  rintro ⟨q1, q2⟩
  have q1 := of_decide_eq_true q1
  unfold inR at q2
  rw [decide_eq_true b0, decide_eq_true b1, decide_eq_true (e0 q1), decide_eq_true (e1 q1)] at q2
  cases q2
theorem foldO_of {d : String} {l : List Int} {k : Nat} (hk : k < l.length) (hz : l.getD k 0 = 0 → zeroBad d = false) : foldO d l (k : Int) = some (wo l k) := by
  unfold foldO
  rw [if_pos (kn_of hk), Int.toNat_natCast, if_neg]
  intro q
  rw [hz q.1] at q
  exact Bool.noConfusion q.2
theorem law_sided_is (ns : List Int) (R : List HObj) (G S : List (List Int)) (a : Nat) (ha : a < S.length) (l : List Int) (el : S.getD a [] = l) (sd : Sd l) (ne : l ≠ []) (w : Int) (w0 : 4 ≤ w) (w1 : w < 9) (h : HP) (r : RowR ns R h) :
    ∃ (ln : Ln) (due : List Int) (h' : HP), Dr G S (.ln ln) due ∧ RowR ns R h' ∧ f_law_sided [.ref 0, .int (a : Int), .tup (nums l), .int w] h = .ok (.tup [ln.dv, .tup (nums due)]) h' := by
  have l4 := sd.l4
  have lp := List.length_pos_iff.mpr ne
  unfold f_law_sided
  rw [fnM_app]
  obtain ⟨s, h1, s0, s1, r1, e1⟩ := taken_r ns (l.length : Int) (by omega) R h r
  obtain ⟨s, rfl⟩ := Int.eq_ofNat_of_zero_le s0
  have hs : s < l.length := by omega
  have g := getI_nat h1 (nums l) s (nums_at hs)
  obtain ⟨x0, x1⟩ := sd.at_ s hs
  have ra : ∀ r ∈ [a], r < S.length := fun r hr => by rw [List.mem_singleton.mp hr]; exact ha
  have wv : ∀ h, vAdd (.tup (nums (l.take s))) (.tup (nums (l.drop (s + 1)))) h = .ok (.tup (nums (wo l s))) h := fun h => vadd2 (l.take s) (l.drop (s + 1)) (by simp; omega) (by simp; omega) h
  have ct := cut_to (nums l) s
  have cf := cut_from (nums l) (s + 1)
  rw [nums_take] at ct
  rw [nums_drop, show ((s + 1 : Nat) : Int) = (s : Int) + 1 by omega] at cf
  have ww : w = 4 ∨ w = 5 ∨ w = 6 ∨ (w = 7 ∨ w = 8) := by omega
  rcases ww with e | e | e | ww
  · -- shift
    subst e
    obtain ⟨t, h2, t0, t1, r2, e2⟩ := taken_r ns 9 (by omega) R h1 r1
    obtain ⟨n, h3, n0, n1, r3, e3⟩ := taken_r ns 1000003 (by omega) R h2 r2
    refine ⟨.shift a (s : Int) (t - 4) n, l, h3, ⟨⟨ra, n0, n1, trivial, trivial, ⟨n0, n1⟩, ?_⟩, sd.w5⟩, r3, ?_⟩
    · show (if inS (s : Int) (S.getD a []) then some (S.getD a []) else none) = _
      rw [el, kn_of hs]
      rfl
    · generalize l.getD s 0 = x at *
      simp [m_law_sided, m_law_sided_r1, m_law_sided_r2, m_law_sided_r3, List.replicate, e1, g, e2, e3, Ln.dv, iN]
  · -- fold
    subst e
    obtain ⟨t, h2, t0, t1, r2, e2⟩ := taken_r ns 4 (by omega) R h1 r1
    have dd : ∃ d : String, deed4 d ∧ (l.getD s 0 = 0 → zeroBad d = false) ∧ getI [sx0 "add", sx0 "times", sx0 "least", sx0 "most"] (t % (if 0 < l.getD s 0 then 4 else 2)) h2 = .ok (sx0 d) h2 := by
      by_cases z : 0 < l.getD s 0
      · rw [if_pos z]
        have : t % 4 = 0 ∨ t % 4 = 1 ∨ t % 4 = 2 ∨ t % 4 = 3 := by omega
        rcases this with e | e | e | e <;> rw [e]
        · exact ⟨"add", .inl rfl, fun _ => rfl, getI_nat h2 _ 0 rfl⟩
        · exact ⟨"times", .inr (.inl rfl), fun _ => rfl, getI_nat h2 _ 1 rfl⟩
        · exact ⟨"least", .inr (.inr (.inl rfl)), fun e => by omega, getI_nat h2 _ 2 rfl⟩
        · exact ⟨"most", .inr (.inr (.inr rfl)), fun e => by omega, getI_nat h2 _ 3 rfl⟩
      · rw [if_neg z]
        have : t % 2 = 0 ∨ t % 2 = 1 := by omega
        rcases this with e | e <;> rw [e]
        · exact ⟨"add", .inl rfl, fun _ => rfl, getI_nat h2 _ 0 rfl⟩
        · exact ⟨"times", .inr (.inl rfl), fun _ => rfl, getI_nat h2 _ 1 rfl⟩
    obtain ⟨d, hd, hz, gd⟩ := dd
    have hx : getI [.int 2, .int 4] (if 0 < l.getD s 0 then 1 else 0) h2 = .ok (.int (if 0 < l.getD s 0 then 4 else 2)) h2 := by
      by_cases z : 0 < l.getD s 0
      · simp only [if_pos z]
        exact getI1 _ _ _ h2
      · simp only [if_neg z]
        exact getI0 _ _ h2
    have hp : 0 < (if 0 < l.getD s 0 then (4 : Int) else 2) := by split <;> omega
    refine ⟨.fold d a (s : Int), wo l s, h2, ⟨⟨ra, by simp [Ln.num], by simp [Ln.num], hd, deed4_wd hd, hd, ?_⟩, wo_w5 sd.w5 hs⟩, r2, ?_⟩
    · show foldO d (S.getD a []) (s : Int) = _
      rw [el]
      exact foldO_of hs hz
    · have wv := wv h2
      generalize nums (wo l s) = RW at *
      generalize nums (l.take s) = gt at *
      generalize nums (l.drop (s + 1)) = gf at *
      generalize l.getD s 0 = x at *
      generalize hu : (if 0 < x then (4 : Int) else 2) = u at *
      simp [m_law_sided, m_law_sided_r1, m_law_sided_r2, m_law_sided_r3, m_law_sided_r4, List.replicate, e1, g, e2, hx, hp, gd, ct, cf, wv, Ln.dv, iN]
  · -- run
    subst e
    obtain ⟨t, h2, t0, t1, r2, e2⟩ := taken_r ns 4 (by omega) R h1 r1
    have dd : ∃ d : String, deed4 d ∧ getI [sx0 "add", sx0 "times", sx0 "least", sx0 "most"] t h2 = .ok (sx0 d) h2 := by
      have : t = 0 ∨ t = 1 ∨ t = 2 ∨ t = 3 := by omega
      rcases this with e | e | e | e <;> rw [e]
      · exact ⟨"add", .inl rfl, getI_nat h2 _ 0 rfl⟩
      · exact ⟨"times", .inr (.inl rfl), getI_nat h2 _ 1 rfl⟩
      · exact ⟨"least", .inr (.inr (.inl rfl)), getI_nat h2 _ 2 rfl⟩
      · exact ⟨"most", .inr (.inr (.inr rfl)), getI_nat h2 _ 3 rfl⟩
    obtain ⟨d, hd, gd⟩ := dd
    refine ⟨.run d a (s : Int), l, h2, ⟨⟨ra, by simp [Ln.num], by simp [Ln.num], trivial, deed4_wd hd, hd, ?_⟩, sd.w5⟩, r2, ?_⟩
    · show (if inS (s : Int) (S.getD a []) then some (S.getD a []) else none) = _
      rw [el, kn_of hs]
      rfl
    · generalize l.getD s 0 = x at *
      simp [m_law_sided, m_law_sided_r1, m_law_sided_r2, m_law_sided_r3, m_law_sided_r4, m_law_sided_r5, List.replicate, e1, g, e2, gd, Ln.dv, iN]
  · by_cases z : l.getD s 0 = 0
    · refine ⟨.one "none" a, l, h1, ⟨⟨ra, by simp [Ln.num], by simp [Ln.num], trivial, deed3_wd (.inr (.inr rfl)), .inr (.inr rfl), by show some (S.getD a []) = _; rw [el]⟩, sd.w5⟩, r1, ?_⟩
      rw [z] at g
      rcases ww with e | e <;> subst e <;> simp [m_law_sided, m_law_sided_r1, m_law_sided_r2, m_law_sided_r3, m_law_sided_r4, m_law_sided_r5, m_law_sided_r6, List.replicate, e1, g, Ln.dv, iN]
    · obtain ⟨b, h2, b0, b1, r2, e2⟩ := taken_r ns (l.getD s 0) (by omega) R h1 r1
      rcases ww with e | e <;> subst e
      · -- drop
        refine ⟨.drop a (s : Int) b, wo l s, h2, ⟨⟨ra, by simp [Ln.num], by simp [Ln.num], trivial, trivial, trivial, ?_⟩, wo_w5 sd.w5 hs⟩, r2, ?_⟩
        · show dropO (S.getD a []) (s : Int) b = _
          unfold dropO
          rw [el, kn_of hs, Int.toNat_natCast]
          unfold inR
          rw [decide_eq_true b0, decide_eq_true b1]
          rfl
        · have wv := wv h2
          generalize nums (wo l s) = RW at *
          generalize nums (l.take s) = gt at *
          generalize nums (l.drop (s + 1)) = gf at *
          generalize l.getD s 0 = x at *
          simp [m_law_sided, m_law_sided_r1, m_law_sided_r2, m_law_sided_r3, m_law_sided_r4, m_law_sided_r5, m_law_sided_r6, m_law_sided_r7, m_law_sided_r8, List.replicate, e1, g, z, e2, ct, cf, wv, Ln.dv, iN]
      · -- cut
        obtain ⟨t, h3, t0, t1, r3, e3⟩ := taken_r ns 3 (by omega) R h2 r2
        obtain ⟨f, h4, f0, f1, r4, e4⟩ := taken_r ns 2 (by omega) R h3 r3
        have tp1 : 0 < 1 + t := by omega
        have tp2 : 1 + t < 1073741824 := by omega
        have ff : f = 0 ∨ f = 1 := by omega
        rcases ff with e | e <;> subst e
        · have rp : 0 ≤ (l.getD s 0 - 1 - b) / (1 + t) := Int.ediv_nonneg (by omega) (by omega)
          obtain ⟨q, h5, q0, q1, r5, e5⟩ := taken_r ns ((l.getD s 0 - 1 - b) / (1 + t) + 2) (by omega) R h4 r4
          obtain ⟨n0, n1, n2⟩ := cut_room24 b (l.getD s 0) (1 + t) _ _ q b0 b1 (by omega) (by omega) rfl q0 q1 rfl
          refine ⟨.cut a (s : Int) b (1 + t) ((l.getD s 0 - 1 - b) / (1 + t) + 1 - q), chg l s ((l.getD s 0 - 1 - b) / (1 + t) + 1 - q), h5, ⟨⟨ra, by simp [Ln.num], by simp [Ln.num], ⟨by omega, by omega⟩, trivial, trivial, ?_⟩, chg_w5 sd.w5 hs n0 (by omega)⟩, r5, ?_⟩
          · show cutO (S.getD a []) (s : Int) b _ _ = _
            rw [el]
            exact cutO_of hs n0 (by omega) b0 b1 (fun z => (n2 z).1) (fun z => (n2 z).2)
          · have ch := f_law_changed_is l s ((l.getD s 0 - 1 - b) / (1 + t) + 1 - q) (by omega) h5
            generalize l.getD s 0 = x at *
            generalize nums (chg l s ((x - 1 - b) / (1 + t) + 1 - q)) = RW at *
            simp [m_law_sided, m_law_sided_r1, m_law_sided_r2, m_law_sided_r3, m_law_sided_r4, m_law_sided_r5, m_law_sided_r6, m_law_sided_r7, m_law_sided_r8, m_law_sided_r9, m_law_sided_r10, m_law_sided_r11, m_law_sided_r12, m_law_sided_r13, List.replicate, e1, g, z, e2, e3, e4, e5, tp1, tp2, ch, Ln.dv, iN]
        · have rp : 0 ≤ b / (1 + t) := Int.ediv_nonneg b0 (by omega)
          obtain ⟨q, h5, q0, q1, r5, e5⟩ := taken_r ns (b / (1 + t) + 2) (by omega) R h4 r4
          obtain ⟨n0, n1, n2⟩ := cut_back24 b (l.getD s 0) (1 + t) _ _ q b0 b1 (by omega) (by omega) rfl q0 q1 rfl
          refine ⟨.cut a (s : Int) b (0 - (1 + t)) (b / (1 + t) + 1 - q), chg l s (b / (1 + t) + 1 - q), h5, ⟨⟨ra, by simp [Ln.num], by simp [Ln.num], ⟨by omega, by omega⟩, trivial, trivial, ?_⟩, chg_w5 sd.w5 hs n0 (by omega)⟩, r5, ?_⟩
          · show cutO (S.getD a []) (s : Int) b _ _ = _
            rw [el]
            exact cutO_of hs n0 (by omega) b0 b1 (fun z => (n2 z).1) (fun z => (n2 z).2)
          · have ch := f_law_changed_is l s (b / (1 + t) + 1 - q) (by omega) h5
            generalize l.getD s 0 = x at *
            generalize nums (chg l s (b / (1 + t) + 1 - q)) = RW at *
            generalize hT : 0 - (1 + t) = T at *
            simp [m_law_sided, m_law_sided_r1, m_law_sided_r2, m_law_sided_r3, m_law_sided_r4, m_law_sided_r5, m_law_sided_r6, m_law_sided_r7, m_law_sided_r8, m_law_sided_r9, m_law_sided_r10, m_law_sided_r11, m_law_sided_r12, m_law_sided_r13, List.replicate, e1, g, z, e2, e3, e4, e5, tp1, tp2, ch, Ln.dv, iN, hT]

theorem padL_24 {a : List Int} (ha : ∀ x ∈ a, 0 ≤ x ∧ x ≤ 24) (n k : Nat) : 0 ≤ padL a n k ∧ padL a n k ≤ 24 := by
  unfold padL
  split
  · rw [List.getD_eq_getElem?_getD]
    cases e : a[k + a.length - n]? with
    | none => exact ⟨by decide, by decide⟩
    | some v => exact ha v (List.mem_of_getElem? e)
  · exact ⟨by decide, by decide⟩
def S24 (l : List Int) : Prop := l.length ≤ 4 ∧ ∀ x ∈ l, 0 ≤ x ∧ x ≤ 24
theorem Sd.s24 {l : List Int} (s : Sd l) : S24 l := ⟨s.l4, s.b⟩
theorem S24.w5 {l : List Int} (s : S24 l) : Wide5 l := ⟨by have := s.1; omega, fun x hx => by have := s.2 x hx; omega⟩
theorem metO_24 {a b s : List Int} (ha : S24 a) (hb : S24 b) (h : metO a b = some s) : S24 s := by
  obtain ⟨hl, hk⟩ := metO_some h
  refine ⟨by rw [hl]; exact Nat.max_le.mpr ⟨ha.1, hb.1⟩, fun x hx => ?_⟩
  obtain ⟨k, lt, e⟩ := List.mem_iff_getElem.mp hx
  have e2 := (hk k lt).2
  rw [List.getD_eq_getElem?_getD, List.getElem?_eq_getElem lt, Option.getD_some, e] at e2
  rw [e2]
  unfold met
  split
  · exact padL_24 hb.2 _ _
  · exact padL_24 ha.2 _ _
theorem oD_inj {a b : Option (List Int)} (h : oD a = oD b) : a = b := by
  cases a with
  | none =>
    cases b with
    | none => rfl
    | some y => cases h
  | some x =>
    cases b with
    | none => cases h
    | some y =>
      have h : DV.tup (nums x) = .tup (nums y) := h
      have := nums_inj.mp (DV.tup.inj h)
      rw [this]
theorem metO_comm (a b : List Int) : metO a b = metO b a := oD_inj (by rw [← metL_oD, ← metL_oD]; exact metL_comm b a)
theorem metO_self (a : List Int) : metO a a = some a := metO_of (fitsTo_refl a)
theorem metAll1 {a b s : List Int} (h : metO a b = some s) : metAll a [b] = some s := by
  unfold metAll
  rw [h]
  rfl
theorem metAll2 {a b c l s : List Int} (h : metO a b = some l) (h2 : metO l c = some s) : metAll a [b, c] = some s := by
  unfold metAll
  rw [h]
  exact metAll1 h2
theorem lmet_is (a b : List Int) (ha : a.length ≤ 900) (hb : b.length ≤ 900) (h : HP) : f_law_met [.tup (nums a), .tup (nums b)] h = .ok (oD (metO a b)) h := by
  rw [f_law_met_is a b ha hb h, metL_oD]
theorem chg0_wo {a b : List Int} {k : Nat} (ha : k < a.length) (hl : a.length = b.length) : chg a k 0 = chg b k 0 ↔ wo a k = wo b k := by
  constructor
  · intro h
    have h1 := congrArg (fun l => l.take k) h
    have h2 := congrArg (fun l => l.drop (k + 1)) h
    simp only [take_chg a k 0 (by omega), take_chg b k 0 (by omega)] at h1
    simp only [drop_chg a k 0 (by omega), drop_chg b k 0 (by omega)] at h2
    unfold wo
    rw [h1, h2]
  · intro h
    have h1 := congrArg (fun l => l.take k) h
    have h2 := congrArg (fun l => l.drop k) h
    simp only [take_wo a k (by omega), take_wo b k (by omega)] at h1
    simp only [drop_wo a k (by omega), drop_wo b k (by omega)] at h2
    unfold chg
    rw [h1, h2]
theorem isNon_oD (o : Option (List Int)) : isNon (oD o) = o.isNone := by cases o <;> rfl
theorem law_more_is (ns : List Int) (R : List HObj) (G S : List (List Int)) (hS : ∀ s ∈ S, Sd s) (s40 : S.length ≤ 40) (a ix : Nat) (ha : a < S.length) (hix : ix < S.length) (ix1 : (S.getD ix []).length = 1) (w : Int) (w0 : 4 ≤ w) (w1 : w < 15) (w2 : w < 9 → S.getD a [] = []) (h : HP) (r : RowR ns R h) :
    ∃ (ln : Ln) (due : List Int) (h' : HP), Dr G S (.ln ln) due ∧ RowR ns R h' ∧ f_law_more [.ref 0, .int (a : Int), .lst (S.map tp), .int w, .int (ix : Int)] h = .ok (.tup [ln.dv, .tup (nums due)]) h' := by
  have sdAt : ∀ b, b < S.length → Sd (S.getD b []) := fun b hb => by
    rw [List.getD_eq_getElem?_getD, List.getElem?_eq_getElem hb]
    exact hS _ (List.getElem_mem hb)
  have gS : ∀ b, b < S.length → ∀ h, getI (S.map tp) (b : Int) h = .ok (.tup (nums (S.getD b []))) h := fun b hb h => getI_nat h _ b (by
    rw [List.getElem?_map, List.getD_eq_getElem?_getD, List.getElem?_eq_getElem hb]
    rfl)
  have sl : (S.map tp).length = S.length := List.length_map _
  have sd := sdAt a ha
  have l4 := sd.l4
  unfold f_law_more
  rw [fnM_app]
  obtain ⟨b, h1, b0, b1, r1, e1⟩ := taken_r ns (S.length : Int) (by omega) R h r
  obtain ⟨b, rfl⟩ := Int.eq_ofNat_of_zero_le b0
  have hb : b < S.length := by omega
  have sdb := sdAt b hb
  have ga := gS a ha
  have gb := gS b hb
  have ra : ∀ r ∈ [a], r < S.length := fun r hr => by rw [List.mem_singleton.mp hr]; exact ha
  have vl : ∀ h, vLen (.lst (S.map tp)) h = .ok (.int (S.length : Int)) h := fun h => by rw [vLen_lst, sl]
  generalize hSt : S.map tp = St at *
  have up : ∀ (k : Stm), (∀ h, sSeq (sSet 5 (LM.e2 vIdx (eVar 2) (eVar 1))) (sSeq (sSet 6 (eCall f_law_taken (aCons (eVar 0) (aCons (LM.e1 vLen (eVar 2)) aNil)))) k) [.val (.ref 0), .val (.int (a : Int)), .val (.lst St), .val (.int w), .val (.int (ix : Int)), .none, .none, .none, .none, .none, .none, .none] h =
      qR (uR (f_law_taken [.ref 0, .int (S.length : Int)] h) [.val (.ref 0), .val (.int (a : Int)), .val (.lst St), .val (.int w), .val (.int (ix : Int)), .val (.tup (nums (S.getD a []))), .none, .none, .none, .none, .none, .none] fun d e h => .nx (e.set 6 (.val d)) h) k) := fun k h => by
    simp [ga, sl]
  have st0 : m_law_more ([DV.ref 0, .int (a : Int), .lst St, .int w, .int (ix : Int)].map .val ++ List.replicate (12 - [DV.ref 0, .int (a : Int), .lst St, .int w, .int (ix : Int)].length) .none) h =
      m_law_more_r2 [.val (.ref 0), .val (.int (a : Int)), .val (.lst St), .val (.int w), .val (.int (ix : Int)), .val (.tup (nums (S.getD a []))), .val (.int (b : Int)), .none, .none, .none, .none, .none] h1 := by
    show m_law_more [.val (.ref 0), .val (.int (a : Int)), .val (.lst St), .val (.int w), .val (.int (ix : Int)), .none, .none, .none, .none, .none, .none, .none] h = _
    unfold m_law_more m_law_more_r1
    rw [up, e1]
    rfl
  rw [st0]
  by_cases w9 : w = 9
  · -- one
    subst w9
    obtain ⟨t, h2, t0, t1, r2, e2⟩ := taken_r ns 3 (by omega) R h1 r1
    have dd : ∃ d : String, deed3 d ∧ getI [sx0 "minus", sx0 "half", sx0 "none"] t h2 = .ok (sx0 d) h2 := by
      have : t = 0 ∨ t = 1 ∨ t = 2 := by omega
      rcases this with e | e | e <;> rw [e]
      · exact ⟨"minus", .inl rfl, getI_nat h2 _ 0 rfl⟩
      · exact ⟨"half", .inr (.inl rfl), getI_nat h2 _ 1 rfl⟩
      · exact ⟨"none", .inr (.inr rfl), getI_nat h2 _ 2 rfl⟩
    obtain ⟨d, hd, gd⟩ := dd
    refine ⟨.one d a, S.getD a [], h2, ⟨⟨ra, by simp [Ln.num], by simp [Ln.num], trivial, deed3_wd hd, hd, rfl⟩, sd.w5⟩, r2, ?_⟩
    generalize S.getD a [] = l at *
    simp [m_law_more_r2, e2, gd, Ln.dv, iN]
  by_cases w10 : w = 10
  · -- both
    subst w10
    obtain ⟨t, h2, t0, t1, r2, e2⟩ := taken_r ns 7 (by omega) R h1 r1
    have dd : ∃ d : String, deed7 d ∧ getI [sx0 "add", sx0 "less", sx0 "times", sx0 "least", sx0 "most", sx0 "below", sx0 "alike"] t h2 = .ok (sx0 d) h2 := by
      have : t = 0 ∨ t = 1 ∨ t = 2 ∨ t = 3 ∨ t = 4 ∨ t = 5 ∨ t = 6 := by omega
      unfold deed7
      rcases this with e | e | e | e | e | e | e <;> rw [e]
      · exact ⟨"add", by simp, getI_nat h2 _ 0 rfl⟩
      · exact ⟨"less", by simp, getI_nat h2 _ 1 rfl⟩
      · exact ⟨"times", by simp, getI_nat h2 _ 2 rfl⟩
      · exact ⟨"least", by simp, getI_nat h2 _ 3 rfl⟩
      · exact ⟨"most", by simp, getI_nat h2 _ 4 rfl⟩
      · exact ⟨"below", by simp, getI_nat h2 _ 5 rfl⟩
      · exact ⟨"alike", by simp, getI_nat h2 _ 6 rfl⟩
    obtain ⟨d, hd, gd⟩ := dd
    have lm := lmet_is (S.getD a []) (S.getD b []) (by omega) (by have := sdb.l4; omega) h2
    cases z : metO (S.getD a []) (S.getD b []) with
    | none =>
      have lm2 := lmet_is (S.getD a []) (S.getD a []) (by omega) (by omega) h2
      rw [z] at lm
      rw [metO_self] at lm2
      have ga := ga h2
      have gb := gb h2
      refine ⟨.both d a a, S.getD a [], h2, ⟨⟨by simp [Ln.refs]; exact ha, by simp [Ln.num], by simp [Ln.num], trivial, deed7_wd hd, hd, metAll1 (metO_self _)⟩, sd.w5⟩, r2, ?_⟩
      generalize S.getD a [] = l at *
      generalize S.getD b [] = lb at *
      simp [m_law_more_r2, m_law_more_r3, e2, gd, ga, gb, lm, lm2, oD, tp, Ln.dv, iN]
    | some s =>
      rw [z] at lm
      have gb := gb h2
      refine ⟨.both d a b, s, h2, ⟨⟨by simp [Ln.refs]; exact ⟨ha, hb⟩, by simp [Ln.num], by simp [Ln.num], trivial, deed7_wd hd, hd, metAll1 z⟩, (metO_24 sd.s24 sdb.s24 z).w5⟩, r2, ?_⟩
      generalize S.getD a [] = l at *
      generalize S.getD b [] = lb at *
      simp [m_law_more_r2, m_law_more_r3, e2, gd, gb, lm, oD, tp, Ln.dv, iN]
  by_cases w11 : w = 11
  · -- where
    subst w11
    obtain ⟨c, h2, c0, c1, r2, e2⟩ := taken_r ns (S.length : Int) (by omega) R h1 r1
    obtain ⟨c, rfl⟩ := Int.eq_ofNat_of_zero_le c0
    have hc : c < S.length := by omega
    have sdc := sdAt c hc
    have gc := gS c hc h2
    have gb := gb h2
    have vl := vl h1
    have lm := lmet_is (S.getD a []) (S.getD b []) (by omega) (by have := sdb.l4; omega) h2
    have w3 : Dr G S (.ln (.wh a a a)) (S.getD a []) := ⟨⟨by simp [Ln.refs]; exact ha, by simp [Ln.num], by simp [Ln.num], trivial, trivial, trivial, metAll2 (metO_self _) (metO_self _)⟩, sd.w5⟩
    cases z : metO (S.getD a []) (S.getD b []) with
    | none =>
      rw [z] at lm
      refine ⟨.wh a a a, _, h2, w3, r2, ?_⟩
      generalize S.getD a [] = l at *
      generalize S.getD b [] = lb at *
      simp [m_law_more_r2, m_law_more_r3, m_law_more_r4, sl, e2, gb, lm, oD, tp, Ln.dv, iN]
    | some s =>
      rw [z] at lm
      have s24 := metO_24 sd.s24 sdb.s24 z
      have lm2 := lmet_is s (S.getD c []) (by have := s24.1; omega) (by have := sdc.l4; omega) h2
      cases z2 : metO s (S.getD c []) with
      | none =>
        rw [z2] at lm2
        refine ⟨.wh a a a, _, h2, w3, r2, ?_⟩
        generalize S.getD a [] = l at *
        generalize S.getD b [] = lb at *
        generalize S.getD c [] = lc at *
        simp [m_law_more_r2, m_law_more_r3, m_law_more_r4, sl, e2, gb, gc, lm, lm2, oD, tp, Ln.dv, iN]
      | some s2 =>
        rw [z2] at lm2
        refine ⟨.wh b a c, s2, h2, ⟨⟨by simp [Ln.refs]; exact ⟨hb, ha, hc⟩, by simp [Ln.num], by simp [Ln.num], trivial, trivial, trivial, metAll2 (by rw [metO_comm]; exact z) z2⟩, (metO_24 s24 sdc.s24 z2).w5⟩, r2, ?_⟩
        generalize S.getD a [] = l at *
        generalize S.getD b [] = lb at *
        generalize S.getD c [] = lc at *
        simp [m_law_more_r2, m_law_more_r3, m_law_more_r4, sl, e2, gb, gc, lm, lm2, oD, tp, Ln.dv, iN]
  by_cases w12 : w = 12
  · -- even
    subst w12
    obtain ⟨t, h2, t0, t1, r2, e2⟩ := taken_r ns 3 (by omega) R h1 r1
    obtain ⟨k, rfl⟩ := Int.eq_ofNat_of_zero_le t0
    have it := itN_nat h2 k (by omega)
    rw [rng_map] at it
    obtain ⟨ws, h3, c1, wl, wp, r3⟩ := mLc_nums (A := Nat) (l := List.range k) (vs := [11]) (mi := iB (eCall f_law_taken (aCons (eVar 0) (aCons (eC (.int 3)) aNil))) itN) (t := tName 11)
      (me := LM.e2 vAdd (eC (.int 1)) (eCall f_law_taken (aCons (eVar 0) (aCons (eC (.int 3)) aNil))))
      (e := [.val (.ref 0), .val (.int (a : Int)), .val (.lst St), .val (.int 12), .val (.int (ix : Int)), .val (.tup (nums (S.getD a []))), .val (.int (b : Int)), .none, .none, .none, .none, .none]) (h := h1) (h1 := h2) (fun (k : Nat) => .int (k : Int)) (RowR ns R) (fun _ v => 1 ≤ v ∧ v ≤ 3) (by simp [e2, it]) (by simp; omega) r2 (fun x _ g rg => by
        obtain ⟨t, g', t0, t1, rg', e8⟩ := taken_r ns 3 (by omega) R g rg
        exact ⟨_, 1 + t, g', rfl, by simp [e8], ⟨by omega, by omega⟩, rg'⟩)
    have c1 : m_law_more_c1 [.val (.ref 0), .val (.int (a : Int)), .val (.lst St), .val (.int 12), .val (.int (ix : Int)), .val (.tup (nums (S.getD a []))), .val (.int (b : Int)), .none, .none, .none, .none, .none] h1 = .ok (nums ws) h3 := c1
    have wl : ws.length ≤ 2 := by rw [wl]; simp; omega
    have wb : ∀ x ∈ ws, 1 ≤ x ∧ x ≤ 3 := fun x hx => by
      obtain ⟨_, _, q⟩ := wp x hx
      exact q
    obtain ⟨n, h4, n0, n1, r4, e4⟩ := taken_r ns 1000003 (by omega) R h3 r3
    refine ⟨.even ws n, ws, h4, ⟨⟨(fun x (hx : x ∈ ([] : List Nat)) => nomatch hx), n0, n1, by show ws.length ≤ 6; omega, trivial, ⟨n0, n1⟩, rfl⟩, ⟨by omega, fun x hx => by have := wb x hx; omega⟩⟩, r4, ?_⟩
    generalize S.getD a [] = l at *
    simp [m_law_more_r2, m_law_more_r3, m_law_more_r4, m_law_more_r5, c1, e4, Ln.dv, iN]
  have e9 : decide (w = 9) = false := decide_eq_false w9
  have e10 : decide (w = 10) = false := decide_eq_false w10
  have e11 : decide (w = 11) = false := decide_eq_false w11
  have e12 : decide (w = 12) = false := decide_eq_false w12
  have ne := vEq_tup h1 (S.getD a []) []
  rw [nums_nil] at ne
  by_cases z : S.getD a [] = []
  · -- no side
    rw [decide_eq_true z] at ne
    refine ⟨.one "minus" a, S.getD a [], h1, ⟨⟨ra, by simp [Ln.num], by simp [Ln.num], trivial, deed3_wd (.inl rfl), .inl rfl, rfl⟩, sd.w5⟩, r1, ?_⟩
    generalize S.getD a [] = l at *
    simp [m_law_more_r2, m_law_more_r3, m_law_more_r4, m_law_more_r5, m_law_more_r6, w9, w10, w11, w12, ne, Ln.dv, iN]
  rw [decide_eq_false z] at ne
  have lp := List.length_pos_iff.mpr z
  obtain ⟨s, h2, s0, s1, r2, e2⟩ := taken_r ns ((S.getD a []).length : Int) (by omega) R h1 r1
  obtain ⟨s, rfl⟩ := Int.eq_ofNat_of_zero_le s0
  have hs : s < (S.getD a []).length := by omega
  have gas := fun h => getI_nat h (nums (S.getD a [])) s (nums_at hs)
  by_cases w13 : w = 13
  · -- pick
    subst w13
    obtain ⟨t, h3, t0, t1, r3, e3⟩ := taken_r ns 5 (by omega) R h2 r2
    have pk : ∀ j, j < S.length → (S.getD j []).length = 1 → ∃ x, S.getD j [] = [x] ∧ 0 ≤ x ∧ x ≤ 24 ∧ Dr G S (.ln (.pick a (s : Int) j)) (chg (S.getD a []) s x) := fun j hj j1 => by
      obtain ⟨x, ex⟩ := List.length_eq_one_iff.mp j1
      have xb := (sdAt j hj).b x (by rw [ex]; exact List.mem_singleton_self x)
      refine ⟨x, ex, xb.1, xb.2, ⟨⟨by simp [Ln.refs]; exact ⟨ha, hj⟩, by simp [Ln.num], by simp [Ln.num], trivial, trivial, trivial, ?_⟩, chg_w5 sd.w5 hs xb.1 (by omega)⟩⟩
      show (if inS (s : Int) (S.getD a []) && decide ((S.getD j []).length = 1) then some ((S.getD a []).take ((s : Int)).toNat ++ S.getD j [] ++ (S.getD a []).drop (((s : Int)).toNat + 1)) else none) = _
      rw [kn_of hs, decide_eq_true j1, ex, Int.toNat_natCast]
      rfl
    have gb := gb h3
    have gx := gS ix hix h3
    by_cases y : t < 4 ∨ ¬ (S.getD b []).length = 1
    · obtain ⟨x, ex, x0, x1, dr⟩ := pk ix hix ix1
      rw [ex] at gx
      have ch := f_law_changed_is (S.getD a []) s x (by omega) h3
      refine ⟨_, _, h3, dr, r3, ?_⟩
      generalize chg (S.getD a []) s x = sx at *
      by_cases y4 : t < 4
      · generalize S.getD a [] = l at *
        generalize S.getD b [] = lb at *
        simp [m_law_more_r2, m_law_more_r3, m_law_more_r4, m_law_more_r5, m_law_more_r6, m_law_more_r7, m_law_more_r8, ne, e2, e3, y4, gx, getI0, ch, Ln.dv, iN]
      · have yb : ¬ ((S.getD b []).length : Int) = 1 := by
          rcases y with y | y
          · exact absurd y y4
          · omega
        generalize S.getD a [] = l at *
        generalize S.getD b [] = lb at *
        simp [m_law_more_r2, m_law_more_r3, m_law_more_r4, m_law_more_r5, m_law_more_r6, m_law_more_r7, m_law_more_r8, ne, e2, e3, y4, gb, yb, gx, getI0, ch, Ln.dv, iN]
    · rw [not_or, Classical.not_not] at y
      obtain ⟨x, ex, x0, x1, dr⟩ := pk b hb y.2
      have ch := f_law_changed_is (S.getD a []) s x (by omega) h3
      refine ⟨_, _, h3, dr, r3, ?_⟩
      generalize chg (S.getD a []) s x = sx at *
      generalize S.getD a [] = l at *
      generalize S.getD b [] = lb at *
      subst ex
      simp [m_law_more_r2, m_law_more_r3, m_law_more_r4, m_law_more_r5, m_law_more_r6, m_law_more_r7, m_law_more_r8, ne, e2, e3, y.1, gb, getI0, ch, Ln.dv, iN]
  · -- join
    have jn : ∀ j, j < S.length → (S.getD a []).length = (S.getD j []).length → wo (S.getD a []) s = wo (S.getD j []) s → Dr G S (.ln (.join a j (s : Int))) (chg (S.getD a []) s ((S.getD a []).getD s 0 + (S.getD j []).getD s 0)) ∧ ∀ h, getI (nums (S.getD j [])) (s : Int) h = .ok (.int ((S.getD j []).getD s 0)) h := fun j hj jl jw => by
      have x1 := sd.at_ s hs
      have x2 := (sdAt j hj).at_ s (by omega)
      refine ⟨⟨⟨by simp [Ln.refs]; exact ⟨ha, hj⟩, by simp [Ln.num], by simp [Ln.num], trivial, trivial, trivial, ?_⟩, chg_w5 sd.w5 hs (by omega) (by omega)⟩, fun h => getI_nat h _ s (nums_at (by omega))⟩
      show (if inS (s : Int) (S.getD a []) && (decide ((S.getD a []).length = (S.getD j []).length) && decide (wo (S.getD a []) ((s : Int)).toNat = wo (S.getD j []) ((s : Int)).toNat)) then some (chg (S.getD a []) ((s : Int)).toNat ((S.getD a []).getD ((s : Int)).toNat 0 + (S.getD j []).getD ((s : Int)).toNat 0)) else none) = _
      rw [kn_of hs, Int.toNat_natCast, decide_eq_true jl, decide_eq_true jw]
      rfl
    have gb := gb h2
    have ga := ga h2
    have gas := gas h2
    have c0 := f_law_changed_is (S.getD a []) s 0 (by omega) h2
    by_cases y : (S.getD a []).length = (S.getD b []).length ∧ wo (S.getD a []) s = wo (S.getD b []) s
    · obtain ⟨dr, gbs⟩ := jn b hb y.1 y.2
      have gbs := gbs h2
      have c1 := f_law_changed_is (S.getD b []) s 0 (by have := sdb.l4; omega) h2
      have cq := (chg0_wo hs y.1).mpr y.2
      rw [← cq] at c1
      have ch := f_law_changed_is (S.getD a []) s ((S.getD a []).getD s 0 + (S.getD b []).getD s 0) (by omega) h2
      have vq := vNe_tup h2 (chg (S.getD a []) s 0) (chg (S.getD a []) s 0)
      rw [decide_eq_true rfl] at vq
      have yl : ((S.getD b []).length : Int) = ((S.getD a []).length : Int) := by omega
      refine ⟨_, _, h2, dr, r2, ?_⟩
      generalize chg (S.getD a []) s ((S.getD a []).getD s 0 + (S.getD b []).getD s 0) = sx at *
      generalize nums (chg (S.getD a []) s 0) = n0 at *
      generalize (S.getD a []).getD s 0 = xa at *
      generalize (S.getD b []).getD s 0 = xb at *
      generalize S.getD a [] = l at *
      generalize S.getD b [] = lb at *
      simp [m_law_more_r2, m_law_more_r3, m_law_more_r4, m_law_more_r5, m_law_more_r6, m_law_more_r7, m_law_more_r8, m_law_more_r9, m_law_more_r10, w9, w10, w11, w12, w13, ne, e2, gb, yl, c0, c1, vq, gas, gbs, ch, Ln.dv, iN]
    · obtain ⟨dr, _⟩ := jn a ha rfl rfl
      have ch := f_law_changed_is (S.getD a []) s ((S.getD a []).getD s 0 + (S.getD a []).getD s 0) (by omega) h2
      refine ⟨_, _, h2, dr, r2, ?_⟩
      by_cases yl : (S.getD a []).length = (S.getD b []).length
      · have yw : ¬ chg (S.getD a []) s 0 = chg (S.getD b []) s 0 := fun e => y ⟨yl, (chg0_wo hs yl).mp e⟩
        have c1 := f_law_changed_is (S.getD b []) s 0 (by have := sdb.l4; omega) h2
        have vq := vNe_tup h2 (chg (S.getD a []) s 0) (chg (S.getD b []) s 0)
        rw [decide_eq_false yw] at vq
        have yl2 : ((S.getD b []).length : Int) = ((S.getD a []).length : Int) := by omega
        generalize chg (S.getD a []) s ((S.getD a []).getD s 0 + (S.getD a []).getD s 0) = sx at *
        generalize nums (chg (S.getD a []) s 0) = n0 at *
        generalize nums (chg (S.getD b []) s 0) = n1 at *
        generalize (S.getD a []).getD s 0 = xa at *
        generalize S.getD a [] = l at *
        generalize S.getD b [] = lb at *
        simp [m_law_more_r2, m_law_more_r3, m_law_more_r4, m_law_more_r5, m_law_more_r6, m_law_more_r7, m_law_more_r8, m_law_more_r9, m_law_more_r10, w9, w10, w11, w12, w13, ne, e2, ga, gb, yl2, c0, c1, vq, gas, ch, Ln.dv, iN]
      · have yl2 : ¬ ((S.getD b []).length : Int) = ((S.getD a []).length : Int) := by omega
        generalize chg (S.getD a []) s ((S.getD a []).getD s 0 + (S.getD a []).getD s 0) = sx at *
        generalize (S.getD a []).getD s 0 = xa at *
        generalize S.getD a [] = l at *
        generalize S.getD b [] = lb at *
        simp [m_law_more_r2, m_law_more_r3, m_law_more_r4, m_law_more_r5, m_law_more_r6, m_law_more_r7, m_law_more_r8, m_law_more_r9, m_law_more_r10, w9, w10, w11, w12, w13, ne, e2, ga, gb, yl2, gas, ch, Ln.dv, iN]

end LM

-- dropped: 
namespace LM
open PySem L2
theorem mxO_le : ∀ (l : List Int) (d x : Int), x ∈ l → x ≤ mxO l d := by
  have key : ∀ (l : List Int) (y : Int), y ≤ l.foldl max y ∧ ∀ x ∈ l, x ≤ l.foldl max y := by
    intro l
    induction l with
    | nil => exact fun y => ⟨Int.le_refl y, fun x hx => by cases hx⟩
    | cons a r ih =>
      intro y
      obtain ⟨h1, h2⟩ := ih (max y a)
      refine ⟨by rw [List.foldl_cons]; omega, fun x hx => ?_⟩
      rw [List.foldl_cons]
      rcases List.mem_cons.mp hx with e | e
      · rw [e]; omega
      · exact h2 x e
  intro l d x hx
  cases l with
  | nil => cases hx
  | cons a r =>
    obtain ⟨h1, h2⟩ := key r a
    rcases List.mem_cons.mp hx with e | e
    · rw [e]; exact h1
    · exact h2 x e

structure DrawnP (G : List (List Int)) (P : List Li) (S : List (List Int)) (n : Nat) : Prop where
  good : Good G P S
  gl : G.length = n
  n2 : 2 ≤ n
  n3 : n ≤ 3
  sdG : ∀ g ∈ G, Sd g
  sdS : ∀ s ∈ S, Sd s
  last : ∃ x, G.getD (n - 1) [] = [x] ∧ 1 ≤ x ∧ x ≤ 4
  p1 : n < P.length
  p2 : P.length ≤ n + 10
  gv : ∃ t, t < n ∧ ∀ k, k < n → P[k]? = some (.gv ((k + t) % n))
structure Part (G : List (List Int)) (P : List Li) (S : List (List Int)) : Prop where
  len : S.length = P.length
  sd : ∀ s ∈ S, Sd s
  at_ : ∀ (k : Nat) (li : Li), P[k]? = some li → LineOk G S k (S.getD k []) li
theorem LineOk.mono {G S : List (List Int)} {k : Nat} {s : List Int} {li : Li} (h : LineOk G S k s li) (hk : k ≤ S.length) (T : List (List Int)) : LineOk G (S ++ T) k s li := by
  cases li with
  | gv i => exact h
  | ln l =>
    obtain ⟨h1, h2⟩ := h
    refine ⟨h1, h2.1, h2.2.1, h2.2.2.1, h2.2.2.2.1, h2.2.2.2.2.1, ?_⟩
    rw [← due_cut l (S ++ T) k h1, List.take_append_of_le_length hk, due_cut l S k h1]
    exact h2.2.2.2.2.2
theorem Part.snoc {G S : List (List Int)} {P : List Li} {li : Li} {s : List Int} (p : Part G P S) (lo : LineOk G S S.length s li) (sd : Sd s) : Part G (P ++ [li]) (S ++ [s]) := by
  refine ⟨by simp [p.len], fun x hx => ?_, fun k l e => ?_⟩
  · rcases List.mem_append.mp hx with q | q
    · exact p.sd x q
    · rw [List.mem_singleton.mp q]
      exact sd
  · by_cases z : k < P.length
    · rw [List.getElem?_append_left z] at e
      have := (p.at_ k l e).mono (by rw [p.len]; omega) [s]
      rwa [List.getD_eq_getElem?_getD, List.getElem?_append_left (by rw [p.len]; exact z), ← List.getD_eq_getElem?_getD]
    · have e2 : k = P.length := by
        have := (List.getElem?_eq_some_iff.mp e).1
        rw [List.length_append, List.length_singleton] at this
        omega
      subst e2
      rw [List.getElem?_append_right (Nat.le_refl _), Nat.sub_self] at e
      cases e
      have := lo.mono (Nat.le_refl _) [s]
      rw [p.len] at this
      rwa [List.getD_eq_getElem?_getD, List.getElem?_append_right (by rw [p.len]; exact Nat.le_refl _), p.len, Nat.sub_self]
theorem tp_len (l : List (List Int)) : (l.map tp).length = l.length := List.length_map _
theorem small27 {l : List Int} (h3 : l.length ≤ 3) (h : ∀ x ∈ l, 0 ≤ x ∧ x ≤ 4) (h27 : ∀ x ∈ l, x ≤ 3 ∨ l.length ≤ 1) : Sd l := by
  refine ⟨by omega, fun x hx => by have := h x hx; omega, ?_⟩
  have mul3 : ∀ x y : Int, 0 ≤ x → x ≤ 3 → 0 ≤ y → y ≤ 9 → 0 ≤ x * y ∧ x * y ≤ 3 * y := fun x y a b c d => ⟨Int.mul_nonneg a c, Int.mul_le_mul_of_nonneg_right b c⟩
  match l, h3, h, h27 with
  | [], _, _, _ => decide
  | [a], _, h, _ =>
    have := h a (by simp)
    show a * 1 ≤ 27
    omega
  | [a, b], _, h, h27 =>
    have ha := h a (by simp)
    have hb := h b (by simp)
    have h1 := h27 a (by simp)
    have h2 := h27 b (by simp)
    simp at h1 h2
    show a * (b * 1) ≤ 27
    have := mul3 a (b * 1) ha.1 h1 (by omega) (by omega)
    omega
  | [a, b, c], _, h, h27 =>
    have ha := h a (by simp)
    have hb := h b (by simp)
    have hc := h c (by simp)
    have h1 := h27 a (by simp)
    have h2 := h27 b (by simp)
    have h3 := h27 c (by simp)
    simp at h1 h2 h3
    show a * (b * (c * 1)) ≤ 27
    have m1 := mul3 b (c * 1) hb.1 h2 (by omega) (by omega)
    have m2 := mul3 a (b * (c * 1)) ha.1 h1 m1.1 (by omega)
    omega
  | _ :: _ :: _ :: _ :: _, h3, _, _ => simp at h3
theorem pick8 (t : Int) (h0 : 0 ≤ t) (h1 : t < 8) (h : HP) : ∃ v : Int, 0 ≤ v ∧ v ≤ 3 ∧ getI [.int 2, .int 3, .int 1, .int 2, .int 3, .int 1, .int 2, .int 0] t h = .ok (.int v) h := by
  obtain ⟨k, rfl⟩ := Int.eq_ofNat_of_zero_le h0
  have : k = 0 ∨ k = 1 ∨ k = 2 ∨ k = 3 ∨ k = 4 ∨ k = 5 ∨ k = 6 ∨ k = 7 := by omega
  rcases this with e | e | e | e | e | e | e | e <;> subst e
  · exact ⟨2, by decide, by decide, getI_nat _ _ 0 rfl⟩
  · exact ⟨3, by decide, by decide, getI_nat _ _ 1 rfl⟩
  · exact ⟨1, by decide, by decide, getI_nat _ _ 2 rfl⟩
  · exact ⟨2, by decide, by decide, getI_nat _ _ 3 rfl⟩
  · exact ⟨3, by decide, by decide, getI_nat _ _ 4 rfl⟩
  · exact ⟨1, by decide, by decide, getI_nat _ _ 5 rfl⟩
  · exact ⟨2, by decide, by decide, getI_nat _ _ 6 rfl⟩
  · exact ⟨0, by decide, by decide, getI_nat _ _ 7 rfl⟩
theorem pick4 (t : Int) (h0 : 0 ≤ t) (h1 : t < 4) (h : HP) : ∃ v : Int, 1 ≤ v ∧ v ≤ 4 ∧ getI [.int 2, .int 3, .int 1, .int 4] t h = .ok (.int v) h := by
  obtain ⟨k, rfl⟩ := Int.eq_ofNat_of_zero_le h0
  have : k = 0 ∨ k = 1 ∨ k = 2 ∨ k = 3 := by omega
  rcases this with e | e | e | e <;> subst e
  · exact ⟨2, by decide, by decide, getI_nat _ _ 0 rfl⟩
  · exact ⟨3, by decide, by decide, getI_nat _ _ 1 rfl⟩
  · exact ⟨1, by decide, by decide, getI_nat _ _ 2 rfl⟩
  · exact ⟨4, by decide, by decide, getI_nat _ _ 3 rfl⟩
def env1 (Gs : List (List Int)) : En := [.val (.ref 0), .own (Gs.map tp), .none, .none, .none, .none, .none, .none, .none, .none, .none, .none, .none, .none]
theorem prog_b1 (ns : List Int) (R : List HObj) (n : Nat) (hn : n ≤ 1000) (h : HP) (r : RowR ns R h) : ∃ (Gs : List (List Int)) (h' : HP), forL (tName 2) m_law_program_b1 [2, 8] ((List.range n).map fun (k : Nat) => DV.int (k : Int)) (env1 []) h = .nx (env1 Gs) h' ∧ Gs.length = n ∧ (∀ g ∈ Gs, Sd g) ∧ RowR ns R h' := by
  obtain ⟨e', h', q, i⟩ := forL_inv (A := Nat) (t := tName 2) (b := m_law_program_b1) (fg := [2, 8]) (fun (k : Nat) => DV.int (k : Int))
    (fun l e h => ∃ Gs : List (List Int), e = env1 Gs ∧ Gs.length + l.length = n ∧ (∀ g ∈ Gs, Sd g) ∧ RowR ns R h) (List.range n) (env1 []) h ⟨[], rfl, by simp, (fun g (hg : g ∈ []) => nomatch hg), r⟩ (fun k l e h => by
      rintro ⟨Gs, rfl, gl, sg, r⟩
      rw [List.length_cons] at gl
      obtain ⟨m, h1, m0, m1, r1, e1⟩ := taken_r ns 4 (by omega) R h r
      obtain ⟨m, rfl⟩ := Int.eq_ofNat_of_zero_le m0
      have it := itN_nat h1 m (by omega)
      rw [rng_map] at it
      obtain ⟨ws, h2, c1, wl, wp, r2⟩ := mLc_nums (A := Nat) (l := List.range m) (vs := [13]) (mi := iB (eVar 8) itN) (t := tName 13)
        (me := LM.e2 vIdx (eFrz (aCons (eC (.int 2)) (aCons (eC (.int 3)) (aCons (eC (.int 1)) (aCons (eC (.int 2)) (aCons (eC (.int 3)) (aCons (eC (.int 1)) (aCons (eC (.int 2)) (aCons (eC (.int 0)) aNil))))))))) (eCall f_law_taken (aCons (eVar 0) (aCons (eC (.int 8)) aNil))))
        (e := [.val (.ref 0), .own (Gs.map tp), .val (.int (k : Int)), .none, .none, .none, .none, .none, .val (.int (m : Int)), .none, .none, .none, .none, .none]) (h := h1) (h1 := h1) (fun (k : Nat) => .int (k : Int)) (RowR ns R) (fun _ v => 0 ≤ v ∧ v ≤ 3) (by simp [it]) (by simp; omega) r1 (fun x _ g rg => by
          obtain ⟨t, g', t0, t1, rg', e8⟩ := taken_r ns 8 (by omega) R g rg
          obtain ⟨v, v0, v1, gv⟩ := pick8 t t0 t1 g'
          exact ⟨_, v, g', rfl, by simp [e8, gv], ⟨v0, v1⟩, rg'⟩)
      have c1 : m_law_program_c1 [.val (.ref 0), .own (Gs.map tp), .val (.int (k : Int)), .none, .none, .none, .none, .none, .val (.int (m : Int)), .none, .none, .none, .none, .none] h1 = .ok (nums ws) h2 := c1
      have wb : ∀ x ∈ ws, 0 ≤ x ∧ x ≤ 3 := fun x hx => by
        obtain ⟨_, _, q⟩ := wp x hx
        exact q
      have wl3 : ws.length ≤ 3 := by rw [wl]; simp; omega
      have sw : Sd ws := small27 wl3 (fun x hx => by have := wb x hx; omega) fun x hx => .inl (wb x hx).2
      have z : (Gs.map tp).length < 16777216 := by rw [tp_len]; omega
      refine ⟨env1 (Gs ++ [ws]), h2, ?_, Gs ++ [ws], rfl, by simp; omega, fun g hg => ?_, r2⟩
      · unfold env1
        rw [List.map_append]
        generalize Gs.map tp = gs at *
        simp [m_law_program_b1, e1, c1, z, tp]
      · rcases List.mem_append.mp hg with q | q
        · exact sg g q
        · rw [List.mem_singleton.mp q]
          exact sw)
  obtain ⟨Gs, rfl, gl, sg, r2⟩ := i
  exact ⟨Gs, h', q, by simpa using gl, sg, r2⟩
def env2 (G : List (List Int)) (n t ix : Nat) (P : List Li) (S : List (List Int)) : En :=
  [.val (.ref 0), .own (G.map tp), .none, .val (.int (n : Int)), .val (.int (t : Int)), .own (P.map Li.dv), .own (S.map tp), .val (.int (ix : Int)), .none, .none, .none, .none, .none, .none]
theorem prog_turn (ns : List Int) (R : List HObj) (hR : R.all flatO = true) (G : List (List Int)) (n t ix : Nat) (P : List Li) (S : List (List Int)) (p : Part G P S) (gl : G.length = n) (n0 : 0 < n) (sg : ∀ g ∈ G, Sd g) (s0 : 0 < S.length) (s40 : S.length ≤ 40) (hix : ix < S.length) (ix1 : (S.getD ix []).length = 1) (k : Nat) (h : HP) (r : RowR ns R h) :
    ∃ (li : Li) (s : List Int) (h' : HP), turn (tName 2) m_law_program_b2 [2, 9, 10, 11] (.int (k : Int)) (env2 G n t ix P S) h = .nx (env2 G n t ix (P ++ [li]) (S ++ [s])) h' ∧ LineOk G S S.length s li ∧ Sd s ∧ RowR ns R h' := by
  have sdAt : ∀ b, b < S.length → Sd (S.getD b []) := fun b hb => by
    rw [List.getD_eq_getElem?_getD, List.getElem?_eq_getElem hb]
    exact p.sd _ (List.getElem_mem hb)
  have gS : ∀ b, b < S.length → ∀ h, getI (S.map tp) (b : Int) h = .ok (.tup (nums (S.getD b []))) h := fun b hb h => getI_nat h _ b (by
    rw [List.getElem?_map, List.getD_eq_getElem?_getD, List.getElem?_eq_getElem hb]
    rfl)
  have pl : (P.map Li.dv).length = S.length := by rw [List.length_map, p.len]
  obtain ⟨u, h1, u0, u1, r1, e1⟩ := taken_r ns (S.length : Int) (by omega) R h r
  obtain ⟨a, ea⟩ : ∃ a : Nat, (S.length : Int) - 1 - u = (a : Int) := ⟨((S.length : Int) - 1 - u).toNat, by omega⟩
  have ha : a < S.length := by omega
  have sda := sdAt a ha
  obtain ⟨w, h2, w0, w1, r2, e2⟩ := taken_r ns 16 (by omega) R h1 r1
  have ne := fun h => vNe_tup h (S.getD a []) []
  rw [nums_nil] at ne
  have gsa := gS a ha
  have gl2 : (G.map tp).length = n := by rw [tp_len, gl]
  -- what is drawn
  obtain ⟨li, s, h3, dr, r3, e3⟩ : ∃ (li : Li) (s : List Int) (h' : HP), Dr G S li s ∧ RowR ns R h' ∧
      (sIf (tb (LM.e2 vLt (eVar 10) (eC (.int 4)))) (sSet 11 (eCall f_law_view (aCons (eVar 0) (aCons (eVar 9) (aCons (LM.e2 vIdx (eBor 6) (eVar 9)) (aCons (eVar 10) aNil)))))) (sIf (tAnd (tb (LM.e2 vLt (eVar 10) (eC (.int 9)))) (tb (LM.e2 vNe (LM.e2 vIdx (eBor 6) (eVar 9)) (eTup aNil)))) (sSet 11 (eCall f_law_sided (aCons (eVar 0) (aCons (eVar 9) (aCons (LM.e2 vIdx (eBor 6) (eVar 9)) (aCons (eVar 10) aNil)))))) (sIf (tb (LM.e2 vEq (eVar 10) (eC (.int 15)))) (sSet 11 (eTup (aCons (eTup (aCons (eC (.str (Str.ofString "given"))) (aCons (LM.e2 vMod (eVar 9) (eVar 3)) aNil))) (aCons (LM.e2 vIdx (eBor 1) (LM.e2 vMod (eVar 9) (eVar 3))) aNil)))) (sSet 11 (eCallL f_law_more (aCons (eVar 0) (aCons (eVar 9) (aCons (eBor 6) (aCons (eVar 10) (aCons (eVar 7) aNil)))))))))
        : Stm) [.val (.ref 0), .own (G.map tp), .val (.int (k : Int)), .val (.int (n : Int)), .val (.int (t : Int)), .own (P.map Li.dv), .own (S.map tp), .val (.int (ix : Int)), .none, .val (.int (a : Int)), .val (.int w), .none, .none, .none] h2 =
      .nx [.val (.ref 0), .own (G.map tp), .val (.int (k : Int)), .val (.int (n : Int)), .val (.int (t : Int)), .own (P.map Li.dv), .own (S.map tp), .val (.int (ix : Int)), .none, .val (.int (a : Int)), .val (.int w), .val (.tup [li.dv, .tup (nums s)]), .none, .none] h' := by
    by_cases w4 : w < 4
    · obtain ⟨ln, s, h3, dr, r3, e3⟩ := law_view_is ns R G S a ha _ rfl sda w w0 w4 h2 r2
      refine ⟨.ln ln, s, h3, dr, r3, ?_⟩
      have gsa := gsa h2
      generalize S.getD a [] = l at *
      generalize S.map tp = St at *
      generalize P.map Li.dv = Pt at *
      generalize G.map tp = Gt at *
      simp [w4, gsa, e3, Li.dv]
    by_cases w9 : w < 9 ∧ S.getD a [] ≠ []
    · obtain ⟨ln, s, h3, dr, r3, e3⟩ := law_sided_is ns R G S a ha _ rfl sda w9.2 w (by omega) w9.1 h2 r2
      refine ⟨.ln ln, s, h3, dr, r3, ?_⟩
      have gsa := gsa h2
      have ne := ne h2
      rw [decide_eq_false w9.2] at ne
      have w91 := w9.1
      generalize S.getD a [] = l at *
      generalize S.map tp = St at *
      generalize P.map Li.dv = Pt at *
      generalize G.map tp = Gt at *
      simp [w4, w91, gsa, ne, e3, Li.dv]
    by_cases w15 : w = 15
    · subst w15
      have hi : a % n < n := Nat.mod_lt _ n0
      have gG : getI (G.map tp) ((a % n : Nat) : Int) h2 = .ok (.tup (nums (G.getD (a % n) []))) h2 := getI_nat h2 _ (a % n) (by
        rw [List.getElem?_map, List.getD_eq_getElem?_getD, List.getElem?_eq_getElem (by omega)]
        rfl)
      have sgi : Sd (G.getD (a % n) []) := by
        rw [List.getD_eq_getElem?_getD, List.getElem?_eq_getElem (by omega)]
        exact sg _ (List.getElem_mem (by omega))
      refine ⟨.gv (a % n), G.getD (a % n) [], h2, ⟨⟨by omega, rfl⟩, sgi.w5⟩, r2, ?_⟩
      have np : (0 : Int) < (n : Int) := by omega
      have em : ((a : Int) % (n : Int)) = ((a % n : Nat) : Int) := rfl
      generalize S.map tp = St at *
      generalize P.map Li.dv = Pt at *
      generalize G.map tp = Gt at *
      simp only [sIf_app, tb_app, tAnd_app, LM.e2_app, eVar_app, eC_app, sSet_app, eTup_app, aCons_app, aNil_app, eBor_app, List.getElem?_cons_zero, List.getElem?_cons_succ, slV_val, slB_own, bR_ok, uR_ok, vLt_int, asB_bl, show decide ((15 : Int) < 4) = false from rfl, show decide ((15 : Int) < 9) = false from rfl, Bool.false_eq_true, if_false, vEq_int, decide_true, if_true, vMod_int _ _ _ np, em, vIdx_lst, gG, List.set_cons_zero, List.set_cons_succ]
      rfl
    · have wz : w < 9 → S.getD a [] = [] := fun q => Classical.byContradiction fun z => w9 ⟨q, z⟩
      obtain ⟨ln, s, h3, dr, r3, e3⟩ := law_more_is ns R G S p.sd s40 a ix ha hix ix1 w (by omega) (by omega) wz h2 r2
      refine ⟨.ln ln, s, h3, dr, r3, ?_⟩
      have fl : (flatR (.tup [ln.dv, .tup (nums s)]) && h3.all flatO) = true := by
        rw [r3.flat hR, Bool.and_true]
        have f1 : flatR ln.dv = true := by cases ln <;> simp [Ln.dv, flatR, flatRs, fl_nums, iN]
        simp [flatR, flatRs, f1, fl_nums]
      have fr := flR_ok fl
      have gsa := gsa h2
      have ne := ne h2
      generalize S.map tp = St at *
      generalize P.map Li.dv = Pt at *
      generalize G.map tp = Gt at *
      by_cases w91 : w < 9
      · rw [decide_eq_true (wz w91)] at ne
        generalize S.getD a [] = l at *
        simp [w4, w91, gsa, ne, w15, e3, fr, Li.dv]
      · simp [w4, w91, w15, e3, fr, Li.dv]
  have up : turn (tName 2) m_law_program_b2 [2, 9, 10, 11] (.int (k : Int)) (env2 G n t ix P S) h = wR [2, 9, 10, 11] ((sSeq (sIf (tOr (tb (LM.e2 vGt (eCall f_law_cells (aCons (LM.e2 vIdx (eVar 11) (eC (.int 1))) aNil)) (eC (.int 27)))) (tOr (tb (LM.e2 vGt (LM.e1 vLen (LM.e2 vIdx (eVar 11) (eC (.int 1)))) (eC (.int 4)))) (tb (LM.e2 vGt (LM.e2 vMaxD (LM.e2 vIdx (eVar 11) (eC (.int 1))) (eC (.int 0))) (eC (.int 24)))))) (sSet 11 (eTup (aCons (eTup (aCons (eC (.str (Str.ofString "one"))) (aCons (eC (.str (Str.ofString "minus"))) (aCons (eVar 9) aNil)))) (aCons (LM.e2 vIdx (eBor 6) (eVar 9)) aNil)))) sNext) (sSeq (sApp 5 (LM.e2 vIdx (eVar 11) (eC (.int 0)))) (sApp 6 (LM.e2 vIdx (eVar 11) (eC (.int 1))))))
      [.val (.ref 0), .own (G.map tp), .val (.int (k : Int)), .val (.int (n : Int)), .val (.int (t : Int)), .own (P.map Li.dv), .own (S.map tp), .val (.int (ix : Int)), .none, .val (.int (a : Int)), .val (.int w), .val (.tup [li.dv, .tup (nums s)]), .none, .none] h3) := by
    unfold env2
    generalize S.map tp = St at *
    generalize P.map Li.dv = Pt at *
    generalize G.map tp = Gt at *
    unfold turn m_law_program_b2
    simp only [tName_app, oR, sSeq_app, sSet_app, LM.e2_app, LM.e1_app, eBor_app, eVar_app, eC_app, eCall_app, aCons_app, aNil_app, List.getElem?_cons_zero, List.getElem?_cons_succ, List.set_cons_zero, List.set_cons_succ, slV_val, slB_own, bR_ok, uR_ok, qR_nx, vLen_lst, pl, vSub_int, e1, ea, e2, e3]
  rw [up]
  have lc : f_law_cells [.tup (nums s)] h3 = _ := lcellsG true s dr.2.mid h3
  have z5 : (P.map Li.dv).length < 16777216 := by omega
  have z6 : (S.map tp).length < 16777216 := by rw [tp_len]; omega
  by_cases bad : 27 < prod s ∨ (4 : Int) < (s.length : Int) ∨ 24 < mxO s 0
  · refine ⟨.ln (.one "minus" a), S.getD a [], h3, ?_, ⟨by simp [Ln.refs]; exact ha, by simp [Ln.num], by simp [Ln.num], trivial, deed3_wd (.inl rfl), .inl rfl, rfl⟩, sda, r3⟩
    have gsa := gsa h3
    unfold env2
    rw [List.map_append, List.map_append]
    generalize S.getD a [] = l at *
    generalize S.map tp = St at *
    generalize P.map Li.dv = Pt at *
    generalize G.map tp = Gt at *
    generalize li.dv = ld at *
    rcases bad with b | b | b
    · simp [getI0, getI1, lc, b, gsa, z5, z6, wR, Li.dv, Ln.dv, iN, tp]
    · by_cases b0 : 27 < prod s
      · simp [getI0, getI1, lc, b0, gsa, z5, z6, wR, Li.dv, Ln.dv, iN, tp]
      · simp [getI0, getI1, lc, b0, b, gsa, z5, z6, wR, Li.dv, Ln.dv, iN, tp]
    · by_cases b0 : 27 < prod s
      · simp [getI0, getI1, lc, b0, gsa, z5, z6, wR, Li.dv, Ln.dv, iN, tp]
      · by_cases b1 : (4 : Int) < (s.length : Int)
        · simp [getI0, getI1, lc, b0, b1, gsa, z5, z6, wR, Li.dv, Ln.dv, iN, tp]
        · simp [getI0, getI1, lc, b0, b1, b, gsa, z5, z6, wR, Li.dv, Ln.dv, iN, tp]
  · have b1 : ¬ 27 < prod s := fun q => bad (.inl q)
    have b2 : ¬ (4 : Int) < (s.length : Int) := fun q => bad (.inr (.inl q))
    have b3 : ¬ 24 < mxO s 0 := fun q => bad (.inr (.inr q))
    refine ⟨li, s, h3, ?_, dr.1, ⟨by omega, fun x hx => ⟨(dr.2.2 x hx).1, by have := mxO_le s 0 x hx; omega⟩, by omega⟩, r3⟩
    unfold env2
    rw [List.map_append, List.map_append]
    generalize S.map tp = St at *
    generalize P.map Li.dv = Pt at *
    generalize G.map tp = Gt at *
    simp [getI0, getI1, lc, b1, b2, b3, z5, z6, wR, tp]

end LM

-- dropped: 
namespace LM
open PySem L2
theorem part_nil (G : List (List Int)) : Part G [] [] := ⟨rfl, (fun s (h : s ∈ []) => nomatch h), fun k li e => by simp at e⟩
theorem givens (G : List (List Int)) (n t : Nat) (gl : G.length = n) (n0 : 0 < n) (sg : ∀ g ∈ G, Sd g) : ∀ j, j ≤ n → Part G ((List.range j).map fun k => Li.gv ((k + t) % n)) ((List.range j).map fun k => G.getD ((k + t) % n) [])
  | 0, _ => part_nil G
  | j + 1, h => by
    rw [List.range_succ, List.map_append, List.map_append]
    have hi : (j + t) % n < n := Nat.mod_lt _ n0
    refine (givens G n t gl n0 sg j (by omega)).snoc ⟨by omega, rfl⟩ ?_
    show Sd (G.getD ((j + t) % n) [])
    rw [List.getD_eq_getElem?_getD, List.getElem?_eq_getElem (by omega)]
    exact sg _ (List.getElem_mem (by omega))
theorem f_law_program_is (ns : List Int) (R : List HObj) (hR : R.all flatO = true) (h : HP) (r : RowR ns R h) : ∃ (G : List (List Int)) (P : List Li) (S : List (List Int)) (n : Nat) (h' : HP), DrawnP G P S n ∧ RowR ns R h' ∧
    f_law_program [.ref 0] h = .ok (.tup [.lst (P.map Li.dv), .lst (S.map tp), .int (n : Int), .lst (G.map tp)]) h' := by
  unfold f_law_program
  rw [fnM_app]
  obtain ⟨m, h1, m0, m1, r1, e1⟩ := taken_r ns 2 (by omega) R h r
  obtain ⟨m, rfl⟩ := Int.eq_ofNat_of_zero_le m0
  have it1 := itN_nat h1 (1 + m) (by omega)
  rw [rng_map] at it1
  obtain ⟨Gs, h2, lp1, gl, sg, r2⟩ := prog_b1 ns R (1 + m) (by omega) h1 r1
  obtain ⟨u, h3, u0, u1, r3, e3⟩ := taken_r ns 4 (by omega) R h2 r2
  obtain ⟨x, x0, x1, gx⟩ := pick4 u u0 u1 h3
  generalize hG : Gs ++ [[x]] = G at *
  have gl2 : G.length = 2 + m := by rw [← hG]; simp; omega
  have sg2 : ∀ g ∈ G, Sd g := fun g hg => by
    rw [← hG] at hg
    rcases List.mem_append.mp hg with q | q
    · exact sg g q
    · rw [List.mem_singleton.mp q]
      exact small27 (by simp) (fun y hy => by rw [List.mem_singleton.mp hy]; omega) fun y _ => .inr (by simp)
  have glast : G.getD (2 + m - 1) [] = [x] := by
    rw [← hG, List.getD_eq_getElem?_getD, List.getElem?_append_right (by omega), show 2 + m - 1 - Gs.length = 0 by omega]
    rfl
  obtain ⟨t, h4, t0, t1, r4, e4⟩ := taken_r ns ((2 + m : Nat) : Int) (by omega) R h3 r3
  obtain ⟨t, rfl⟩ := Int.eq_ofNat_of_zero_le t0
  have ht : t < 2 + m := by omega
  have it2 := itN_nat h4 (2 + m) (by omega)
  rw [rng_map] at it2
  have em : ∀ k : Nat, ((k : Int) + (t : Int)) % ((2 + m : Nat) : Int) = (((k + t) % (2 + m) : Nat) : Int) := fun k => by
    rw [← Int.natCast_add]
    rfl
  have np : (0 : Int) < ((2 + m : Nat) : Int) := by omega
  have c2 : ∀ A B C D E F G H I J K L : Slot, m_law_program_c2 [A, B, C, .val (.int ((2 + m : Nat) : Int)), .val (.int (t : Int)), D, E, F, G, H, I, J, K, L] h4 = .ok (((List.range (2 + m)).map fun k => Li.gv ((k + t) % (2 + m))).map Li.dv) h4 := fun A B C D E F G H I J K L => by
    unfold m_law_program_c2
    rw [mLc_ints (A := Nat) (l := List.range (2 + m)) (fun (k : Nat) => .int (k : Int)) (fun (k : Nat) => (Li.gv ((k + t) % (2 + m))).dv) ?_ (by rw [List.length_range]; omega) fun k hk => ⟨_, rfl, ?_⟩]
    · rw [List.map_map]
      rfl
    · generalize ((2 + m : Nat) : Int) = nn at *
      simp [it2]
    · have em := em k
      generalize ((2 + m : Nat) : Int) = nn at *
      simp [np, em, Li.dv, LM.gv]
  have c3 : ∀ A C D E F G2 H I J K : Slot, m_law_program_c3 [A, .own (G.map tp), C, .val (.int ((2 + m : Nat) : Int)), .val (.int (t : Int)), .val (.lst (((List.range (2 + m)).map fun k => Li.gv ((k + t) % (2 + m))).map Li.dv)), D, E, F, G2, H, I, J, K] h4 = .ok (((List.range (2 + m)).map fun k => G.getD ((k + t) % (2 + m)) []).map tp) h4 := fun A C D E F G2 H I J K => by
    unfold m_law_program_c3
    rw [mLc_ints (A := Nat) (l := List.range (2 + m)) (fun k => (Li.gv ((k + t) % (2 + m))).dv) (fun k => tp (G.getD ((k + t) % (2 + m)) [])) ?_ (by rw [List.length_range]; omega) fun k hk => ⟨_, rfl, ?_⟩]
    · rw [List.map_map]
      rfl
    · rw [List.map_map]
      simp only [iB_app, eVar_app, List.getElem?_cons_zero, List.getElem?_cons_succ, slV_val, bR_ok]
      rfl
    · have hi : (k + t) % (2 + m) < 2 + m := Nat.mod_lt _ (by omega)
      have gG : getI (G.map tp) (((k + t) % (2 + m) : Nat) : Int) h4 = .ok (.tup (nums (G.getD ((k + t) % (2 + m)) []))) h4 := getI_nat h4 _ _ (by
        rw [List.getElem?_map, List.getD_eq_getElem?_getD, List.getElem?_eq_getElem (by omega)]
        rfl)
      generalize (k + t) % (2 + m) = i at *
      generalize G.getD i [] = l at *
      generalize G.map tp = Gt at *
      simp [Li.dv, LM.gv, getI1, gG, tp]
  have pt := givens G (2 + m) t gl2 (by omega) sg2 (2 + m) (Nat.le_refl _)
  generalize hP : ((List.range (2 + m)).map fun k => Li.gv ((k + t) % (2 + m))) = P0 at *
  generalize hS : ((List.range (2 + m)).map fun k => G.getD ((k + t) % (2 + m)) []) = S0 at *
  have pl0 : P0.length = 2 + m := by rw [← hP]; simp
  have sl0 : S0.length = 2 + m := by rw [← hS]; simp
  have s0at : ∀ k, k < 2 + m → S0.getD k [] = G.getD ((k + t) % (2 + m)) [] := fun k hk => by
    rw [← hS, List.getD_eq_getElem?_getD, List.getElem?_map, List.getElem?_range hk]
    rfl
  -- where the small table is
  obtain ⟨ix, hix⟩ : ∃ ix : Nat, (((2 + m : Nat) : Int) - 1 - (t : Int)) % ((2 + m : Nat) : Int) = (ix : Int) ∧ ix < 2 + m ∧ (ix + t) % (2 + m) = 2 + m - 1 := by
    refine ⟨2 + m - 1 - t, ?_, by omega, ?_⟩
    · rw [Int.emod_eq_of_lt (by omega) (by omega)]
      omega
    · rw [show 2 + m - 1 - t + t = 2 + m - 1 by omega]
      exact Nat.mod_eq_of_lt (by omega)
  have ixl : S0.getD ix [] = [x] := by rw [s0at ix hix.2.1, hix.2.2, glast]
  obtain ⟨q, h5, q0, q1, r5, e5⟩ := taken_r ns 10 (by omega) R h4 r4
  obtain ⟨q, rfl⟩ := Int.eq_ofNat_of_zero_le q0
  have it3 := itN_nat h5 (1 + q) (by omega)
  rw [rng_map] at it3
  obtain ⟨e', h6, lp2, i2⟩ := forL_inv (A := Nat) (t := tName 2) (b := m_law_program_b2) (fg := [2, 9, 10, 11]) (fun (k : Nat) => DV.int (k : Int))
    (fun l e h => ∃ (P : List Li) (S : List (List Int)), e = env2 G (2 + m) t ix (P0 ++ P) (S0 ++ S) ∧ Part G (P0 ++ P) (S0 ++ S) ∧ P.length + l.length = 1 + q ∧ RowR ns R h) (List.range (1 + q)) (env2 G (2 + m) t ix P0 S0) h5
    ⟨[], [], by rw [List.append_nil, List.append_nil], by rw [List.append_nil, List.append_nil]; exact pt, by simp, r5⟩ (fun k l e h => by
      rintro ⟨P, S, rfl, p, pl, r⟩
      rw [List.length_cons] at pl
      have sl : (S0 ++ S).length = 2 + m + P.length := by rw [p.len, List.length_append, pl0]
      have ixl2 : (S0 ++ S).getD ix [] = [x] := by rw [List.getD_eq_getElem?_getD, List.getElem?_append_left (by omega), ← List.getD_eq_getElem?_getD, ixl]
      obtain ⟨li, s, h', tn, lo, sd, r'⟩ := prog_turn ns R hR G (2 + m) t ix (P0 ++ P) (S0 ++ S) p gl2 (by omega) sg2 (by omega) (by omega) (by omega) (by rw [ixl2]; rfl) k h r
      refine ⟨_, h', tn, P ++ [li], S ++ [s], by rw [List.append_assoc, List.append_assoc], ?_, by simp; omega, r'⟩
      rw [← List.append_assoc, ← List.append_assoc]
      exact p.snoc lo sd)
  obtain ⟨P, S, rfl, p, pl, r6⟩ := i2
  have pl : P.length = 1 + q := by simpa using pl
  have gt : ∀ g : List (List Int), g.map tp ++ [.tup [.int x]] = (g ++ [[x]]).map tp := fun g => by simp [tp]
  refine ⟨G, P0 ++ P, S0 ++ S, 2 + m, h6, ⟨⟨p.len, by rw [List.length_append]; omega, by rw [List.length_append]; omega, fun g hg => (sg2 g hg).ok, fun s hs => (p.sd s hs).ok, p.at_⟩, gl2, by omega, by omega, sg2, p.sd, ⟨x, glast, x0, x1⟩, by rw [List.length_append]; omega, by rw [List.length_append]; omega, ⟨t, ht, fun k hk => ?_⟩⟩, r6, ?_⟩
  · rw [List.getElem?_append_left (by omega), ← hP, List.getElem?_map, List.getElem?_range hk]
    rfl
  · have st : [DV.ref 0].map Slot.val ++ List.replicate (14 - [DV.ref 0].length) Slot.none = [.val (.ref 0), .none, .none, .none, .none, .none, .none, .none, .none, .none, .none, .none, .none, .none] := rfl
    rw [st]
    unfold env1 at lp1
    have gs := gt Gs
    rw [hG] at gs
    have zg : (Gs.map tp).length < 16777216 := by rw [tp_len]; omega
    have vg : (G.map tp).length = 2 + m := by rw [tp_len, gl2]
    have fl : flL (.ok (S0.map tp) h4) = .ok (S0.map tp) h4 := flL_ok (by
      have : ∀ l : List (List Int), flatRs (l.map tp) = true := fun l => by
        induction l with
        | nil => rfl
        | cons y r ih => simp [flatRs, flatR, tp, fl_nums] at ih ⊢; exact ih
      exact this S0) (r4.flat hR)
    unfold env2 at lp2
    rw [List.map_nil] at lp1
    have ix1 := hix.1
    have e1p : (1 : Int) + (m : Int) = ((1 + m : Nat) : Int) := by omega
    have e5p : (1 : Int) + (q : Int) = ((1 + q : Nat) : Int) := by omega
    have vgi : ((G.map tp).length : Int) = ((2 + m : Nat) : Int) := by rw [vg]
    generalize (S0 ++ S).map tp = S2 at *
    generalize (P0 ++ P).map Li.dv = P2 at *
    generalize S0.map tp = St at *
    generalize P0.map Li.dv = Pt at *
    generalize G.map tp = Gt at *
    generalize ((2 + m : Nat) : Int) = nn at *
    generalize ((1 + m : Nat) : Int) = n1 at *
    generalize ((1 + q : Nat) : Int) = n5 at *
    generalize Gs.map tp = gst at *
    simp [m_law_program, m_law_program_r1, m_law_program_r2, m_law_program_r3, e1, e1p, it1, lp1, e3, gx, zg, gs, vgi, m_law_program_r4, e4, m_law_program_r5, c2, m_law_program_r6, c3, fl, m_law_program_r7, np, ix1, m_law_program_r8, e5, e5p, it3, lp2, m_law_program_r9]

end LM

-- dropped: 
namespace LM
open PySem L2
/-! ### kinds of lines -/
@[simp] theorem vNe_w (h : HP) (a b : String) (ha : isW a = true) (hb : isW b = true) : vNe (.str (Str.ofString a)) (.str (Str.ofString b)) h = .ok (.bl (!decide (a = b))) h := by
  have q := vEq_w h a b ha hb
  unfold vEq at q
  unfold vNe
  cases z : eqD (.str (Str.ofString a)) (.str (Str.ofString b)) with
  | none => rw [z] at q; cases q
  | some v =>
    rw [z] at q
    have q2 : Res.ok (DV.bl v) h = .ok (.bl (decide (a = b))) h := q
    have e : v = decide (a = b) := by
      injection q2 with q3
      exact DV.bl.inj q3
    rw [e]
    rfl
def Ln.kd : Ln → String
  | .one _ _ => "one" | .both _ _ _ => "both" | .wh _ _ _ => "where" | .shift _ _ _ _ => "shift" | .fold _ _ _ => "fold" | .run _ _ _ => "run" | .pick _ _ _ => "pick" | .join _ _ _ => "join"
  | .even _ _ => "even" | .turn _ _ => "turn" | .cut _ _ _ _ _ => "cut" | .drop _ _ _ => "drop" | .wide _ _ => "wide" | .spread _ _ => "spread" | .shape _ _ => "shape"
def Li.kd : Li → String
  | .gv _ => "given"
  | .ln l => l.kd
theorem kd_w (li : Li) : isW li.kd = true := by
  cases li with
  | gv k => exact isW_given
  | ln l => cases l <;> simp [Li.kd, Ln.kd]
theorem dv_kd (li : Li) : ∃ r, li.dv = .tup (sx0 li.kd :: r) := by
  cases li with
  | gv k => exact ⟨_, rfl⟩
  | ln l => cases l <;> exact ⟨_, rfl⟩
def Li.always (li : Li) : Bool := decide (li.kd = "given") || (decide (li.kd = "fold") || (decide (li.kd = "run") || decide (li.kd = "pick")))
def Li.even (li : Li) : Bool := decide (li.kd = "even")
def Li.holds (li : Li) : Bool := decide (li.kd = "shape") || decide (li.kd = "pick")
def Li.meets (li : Li) : Bool := decide (li.kd = "spread") || (decide (li.kd = "both") || decide (li.kd = "where"))
theorem in_always (li : Li) (h : HP) : vIn false (sx0 li.kd) (.tup [sx0 "given", sx0 "fold", sx0 "run", sx0 "pick"]) h = .ok (.bl li.always) h := by
  cases li with
  | gv k => rfl
  | ln l => cases l <;> rfl
theorem in_holds (li : Li) (h : HP) : vIn false (sx0 li.kd) (.tup [sx0 "shape", sx0 "pick"]) h = .ok (.bl li.holds) h := by
  cases li with
  | gv k => rfl
  | ln l => cases l <;> rfl
theorem in_meets (li : Li) (h : HP) : vIn false (sx0 li.kd) (.tup [sx0 "spread", sx0 "both", sx0 "where"]) h = .ok (.bl li.meets) h := by
  cases li with
  | gv k => rfl
  | ln l => cases l <;> rfl
theorem in_alwaysL (li : Li) (h : HP) : vIn false (sx0 li.kd) (.lst [sx0 "given", sx0 "fold", sx0 "run", sx0 "pick"]) h = .ok (.bl li.always) h := by
  cases li with
  | gv k => rfl
  | ln l => cases l <;> rfl
theorem in_meetsL (li : Li) (h : HP) : vIn false (sx0 li.kd) (.lst [sx0 "spread", sx0 "both", sx0 "where"]) h = .ok (.bl li.meets) h := by
  cases li with
  | gv k => rfl
  | ln l => cases l <;> rfl
/-! ### how often a line is named -/
def bump (r : List Nat) (f : List Int) : List Int := r.foldl (fun f p => f.set p (f.getD p 0 + 1)) f
theorem bump_len (r : List Nat) (f : List Int) : (bump r f).length = f.length := by
  unfold bump
  induction r generalizing f with
  | nil => rfl
  | cons x r ih => rw [List.foldl_cons, ih, List.length_set]
theorem bump_get (r : List Nat) (f : List Int) (k : Nat) (hk : k < f.length) : (bump r f).getD k 0 = f.getD k 0 + (r.count k : Int) := by
  induction r generalizing f with
  | nil => show f.getD k 0 = f.getD k 0 + ((([] : List Nat).count k : Nat) : Int); simp
  | cons x r ih =>
    show (bump r (f.set x (f.getD x 0 + 1))).getD k 0 = _
    rw [ih _ (by rw [List.length_set]; exact hk), List.count_cons]
    by_cases e : x = k
    · subst e
      rw [List.getD_eq_getElem?_getD, List.getElem?_set_self hk]
      simp
      omega
    · rw [List.getD_eq_getElem?_getD, List.getElem?_set_ne e, ← List.getD_eq_getElem?_getD]
      simp [e]
theorem bump_loop (A B C D : Slot) (h : HP) : ∀ (r : List Nat) (f : List Int), (∀ x ∈ r, x < f.length) → forL (tName 5) m_times_read_b1 [5] (r.map iN) [A, B, .own (nums f), C, D, .none] h = .nx [A, B, .own (nums (bump r f)), C, D, .none] h
  | [], f, _ => rfl
  | x :: r, f, hr => by
    have hx := hr x List.mem_cons_self
    have pa := putAt_nat (nums f) (.int (f.getD x 0 + 1)) x (by rw [nums_len]; exact hx)
    rw [nums_set] at pa
    have g := getI_nat h (nums f) x (nums_at hx)
    have t : turn (tName 5) m_times_read_b1 [5] (iN x) [A, B, .own (nums f), C, D, .none] h = .nx [A, B, .own (nums (f.set x (f.getD x 0 + 1))), C, D, .none] h := by
      generalize f.getD x 0 = v at *
      simp [m_times_read_b1, iN, ownAt, g, pa]
    rw [List.map_cons, forL_cons, t, lR_nx, bump_loop A B C D h r _ fun y hy => by rw [List.length_set]; exact hr y (List.mem_cons_of_mem _ hy)]
    rfl
def bumps : List (List Nat) → List Bool → List Int → List Int
  | r :: R, w :: W, f => bumps R W (if w = true then bump r f else f)
  | _, _, f => f
theorem bumps_len : ∀ (R : List (List Nat)) (W : List Bool) (f : List Int), (bumps R W f).length = f.length
  | r :: R, w :: W, f => by
    unfold bumps
    rw [bumps_len R W]
    split
    · exact bump_len r f
    · rfl
  | [], _, _ => rfl
  | _ :: _, [], _ => rfl
def cntW (k : Nat) : List (List Nat) → List Bool → Nat
  | r :: R, w :: W => (if w = true then r.count k else 0) + cntW k R W
  | _, _ => 0
theorem bumps_get (k : Nat) : ∀ (R : List (List Nat)) (W : List Bool) (f : List Int), k < f.length → (bumps R W f).getD k 0 = f.getD k 0 + (cntW k R W : Int)
  | r :: R, w :: W, f, hk => by
    unfold bumps cntW
    by_cases z : w = true
    · rw [if_pos z, if_pos z, bumps_get k R W _ (by rw [bump_len]; exact hk), bump_get r f k hk]
      omega
    · rw [if_neg z, if_neg z, bumps_get k R W f hk]
      omega
  | [], _, f, _ => by show f.getD k 0 = f.getD k 0 + ((0 : Nat) : Int); omega
  | _ :: _, [], f, _ => by show f.getD k 0 = f.getD k 0 + ((0 : Nat) : Int); omega
theorem times_loop (A B : Slot) (h : HP) (n : Nat) : ∀ (Q : List Li) (W : List Bool) (f : List Int), f.length = n → (∀ li ∈ Q, ∀ x ∈ li.refs, x < n) → forL (tTup [3, 4]) m_times_read_b2 [3, 4, 5] (zipD (Q.map Li.dv) (bls W)) [A, B, .own (nums f), .none, .none, .none] h =
    .nx [A, B, .own (nums (bumps (Q.map Li.refs) W f)), .none, .none, .none] h
  | [], _, _, _, _ => rfl
  | li :: Q, [], f, _, _ => rfl
  | li :: Q, w :: W, f, hf, hQ => by
    have rr : f_read_by [li.dv] h = .ok (.lst (li.refs.map iN)) h := by
      cases li with
      | gv i => exact read_gv i h
      | ln l => exact f_read_by_is l h
    have bl := bump_loop A B (.val li.dv) (.val (.bl true)) h li.refs f fun x hx => by rw [hf]; exact hQ li List.mem_cons_self x hx
    have t : turn (tTup [3, 4]) m_times_read_b2 [3, 4, 5] (.tup [li.dv, .bl w]) [A, B, .own (nums f), .none, .none, .none] h = .nx [A, B, .own (nums (if w = true then bump li.refs f else f)), .none, .none, .none] h := by
      generalize li.dv = d at *
      generalize li.refs.map iN = r at *
      cases w with
      | false => simp [m_times_read_b2]
      | true => simp [m_times_read_b2, rr, bl]
    show forL _ _ _ (.tup [li.dv, .bl w] :: zipD (Q.map Li.dv) (bls W)) _ h = _
    rw [forL_cons, t, lR_nx, times_loop A B h n Q W _ (by split <;> simp [bump_len, hf]) fun l hl => hQ l (List.mem_cons_of_mem _ hl)]
    rfl
theorem f_times_is (P : List Li) (W : List Bool) (hl : P.length ≤ 1000) (hP : ∀ li ∈ P, ∀ x ∈ li.refs, x < P.length) (h : HP) : f_times_read [.lst (P.map Li.dv), .lst (bls W)] h = .ok (.lst (nums (bumps (P.map Li.refs) W (List.replicate P.length 0)))) h := by
  unfold f_times_read
  rw [fnM_app]
  have lm := lMul_one (.int 0) P.length (by omega) h
  rw [nums_rep] at lm
  have lp := times_loop (.val (.lst (P.map Li.dv))) (.val (.lst (bls W))) h P.length P W (List.replicate P.length 0) (by simp) hP
  have pl : (P.map Li.dv).length = P.length := List.length_map _
  generalize P.map Li.dv = PD at *
  generalize bls W = WD at *
  generalize nums (List.replicate P.length 0) = r0 at *
  generalize nums (bumps (P.map Li.refs) W (List.replicate P.length 0)) = r1 at *
  simp [m_times_read, List.replicate, pl, lm, lp]
/-! ### which lines are kept -/
def firstK (P : List Li) (often : List Int) (k : Nat) : Bool := (P.getD k (.gv 0)).always || (decide (1 < often.getD k 0) && !(P.getD k (.gv 0)).even)
def holdsB (P : List Li) (S : List (List Int)) (W : List Bool) (k p : Nat) : Bool := W.getD k false && ((P.getD k (.gv 0)).holds || ((P.getD k (.gv 0)).meets && (!decide (S.getD p [] = S.getD k []) && !(P.getD p (.gv 0)).even)))
def hold (P : List Li) (S : List (List Int)) (W : List Bool) (k : Nat) (r : List Nat) (f : List Bool) : List Bool := r.foldl (fun f p => if holdsB P S W k p = true then f.set p true else f) f
def holdA (P : List Li) (S : List (List Int)) (W : List Bool) (ks : List Nat) (f : List Bool) : List Bool := ks.foldl (fun f k => hold P S W k (P.getD k (.gv 0)).refs f) f
theorem hold_len (P : List Li) (S : List (List Int)) (W : List Bool) (k : Nat) (r : List Nat) (f : List Bool) : (hold P S W k r f).length = f.length := by
  unfold hold
  induction r generalizing f with
  | nil => rfl
  | cons x r ih =>
    rw [List.foldl_cons, ih]
    split
    · rw [List.length_set]
    · rfl
theorem holdA_len (P : List Li) (S : List (List Int)) (W : List Bool) : ∀ (ks : List Nat) (f : List Bool), (holdA P S W ks f).length = f.length
  | [], _ => rfl
  | k :: ks, f => by
    show (holdA P S W ks (hold P S W k (P.getD k (.gv 0)).refs f)).length = _
    rw [holdA_len P S W ks, hold_len]
theorem set_true_get (f : List Bool) (p k : Nat) (hp : p < f.length) : ((f.set p true).getD k false = true) ↔ (f.getD k false = true ∨ k = p) := by
  by_cases e : p = k
  · subst e
    rw [List.getD_eq_getElem?_getD, List.getElem?_set_self hp]
    simp
  · rw [List.getD_eq_getElem?_getD, List.getElem?_set_ne e, ← List.getD_eq_getElem?_getD]
    constructor
    · exact .inl
    · rintro (q | q)
      · exact q
      · exact absurd q.symm e
theorem hold_get (P : List Li) (S : List (List Int)) (W : List Bool) (k : Nat) : ∀ (r : List Nat) (f : List Bool), (∀ x ∈ r, x < f.length) → ∀ j, ((hold P S W k r f).getD j false = true ↔ (f.getD j false = true ∨ (j ∈ r ∧ holdsB P S W k j = true)))
  | [], f, _, j => by
    show f.getD j false = true ↔ _
    simp
  | x :: r, f, hr, j => by
    have hx := hr x List.mem_cons_self
    show (hold P S W k r (if holdsB P S W k x = true then f.set x true else f)).getD j false = true ↔ _
    have l2 : (if holdsB P S W k x = true then f.set x true else f).length = f.length := by split <;> simp
    rw [hold_get P S W k r _ (fun y hy => by rw [l2]; exact hr y (List.mem_cons_of_mem _ hy)) j, List.mem_cons]
    by_cases z : holdsB P S W k x = true
    · rw [if_pos z, set_true_get f x j hx]
      constructor
      · rintro ((q | q) | q)
        · exact .inl q
        · exact .inr ⟨.inl q, by rw [q]; exact z⟩
        · exact .inr ⟨.inr q.1, q.2⟩
      · rintro (q | ⟨q | q, q2⟩)
        · exact .inl (.inl q)
        · exact .inl (.inr q)
        · exact .inr ⟨q, q2⟩
    · rw [if_neg z]
      constructor
      · rintro (q | q)
        · exact .inl q
        · exact .inr ⟨.inr q.1, q.2⟩
      · rintro (q | ⟨q | q, q2⟩)
        · exact .inl q
        · rw [q] at q2
          exact absurd q2 z
        · exact .inr ⟨q, q2⟩
theorem holdA_get (P : List Li) (S : List (List Int)) (W : List Bool) : ∀ (ks : List Nat) (f : List Bool), (∀ k ∈ ks, ∀ x ∈ (P.getD k (.gv 0)).refs, x < f.length) → ∀ j, ((holdA P S W ks f).getD j false = true ↔ (f.getD j false = true ∨ ∃ k ∈ ks, j ∈ (P.getD k (.gv 0)).refs ∧ holdsB P S W k j = true))
  | [], f, _, j => by
    show f.getD j false = true ↔ _
    simp
  | k :: ks, f, hk, j => by
    show (holdA P S W ks (hold P S W k (P.getD k (.gv 0)).refs f)).getD j false = true ↔ _
    rw [holdA_get P S W ks _ (fun k' h' x hx => by rw [hold_len]; exact hk k' (List.mem_cons_of_mem _ h') x hx) j, hold_get P S W k _ f (hk k List.mem_cons_self) j]
    constructor
    · rintro ((q | q) | ⟨k', h1, q⟩)
      · exact .inl q
      · exact .inr ⟨k, List.mem_cons_self, q⟩
      · exact .inr ⟨k', List.mem_cons_of_mem _ h1, q⟩
    · rintro (q | ⟨k', h1, q⟩)
      · exact .inl (.inl q)
      · rcases List.mem_cons.mp h1 with e | e
        · rw [e] at q
          exact .inl (.inr q)
        · exact .inr ⟨k', e, q⟩
def keptL (P : List Li) (S : List (List Int)) : List Bool :=
  List.zipWith (fun a b => a && b) ((holdA P S (wantF (P.map Li.refs)) (List.range P.length) ((List.range P.length).map (firstK P (bumps (P.map Li.refs) (wantF (P.map Li.refs)) (List.replicate P.length 0))))).set (P.length - 1) true) (wantF (P.map Li.refs))
section
variable {G S : List (List Int)} {P : List Li}
theorem sAtL (hS : S.length = P.length) (p : Nat) (hp : p < P.length) (h : HP) : getI (S.map tp) (p : Int) h = .ok (.tup (nums (S.getD p []))) h := getI_nat h _ p (by
  rw [List.getElem?_map, List.getD_eq_getElem?_getD, List.getElem?_eq_getElem (by omega)]
  rfl)
theorem pAtL (p : Nat) (hp : p < P.length) (h : HP) : getI (P.map Li.dv) (p : Int) h = .ok (P.getD p (.gv 0)).dv h := getI_nat h _ p (by
  rw [List.getElem?_map, List.getD_eq_getElem?_getD, List.getElem?_eq_getElem hp]
  rfl)
theorem kept_b1 (A B C D : Slot) (often : List Int) (ho : often.length = P.length) (h : HP) (k : Nat) (hk : k < P.length) (f : List Bool) (hf : f.length ≤ 1000) :
    turn (tTup [5, 6]) m_kept_lines_b1 [5, 6] (.tup [.int (k : Int), (P.getD k (.gv 0)).dv]) [A, B, C, .val (.lst (nums often)), .own (bls f), .none, .none, D, .none, .none] h = .nx [A, B, C, .val (.lst (nums often)), .own (bls (f ++ [firstK P often k])), .none, .none, D, .none, .none] h := by
  unfold firstK
  generalize P.getD k (.gv 0) = li at *
  obtain ⟨r, e⟩ := dv_kd li
  have ia := in_always li h
  have g := getI_nat h (nums often) k (nums_at (by omega))
  have ne : vNe (.str (Str.ofString li.kd)) (.str (Str.ofString "even")) h = _ := vNe_w h li.kd "even" (kd_w li) isW_even
  have z : (bls f).length < 16777216 := by rw [bls_len]; omega
  have ap : bls f ++ [.bl (li.always || (decide (1 < often.getD k 0) && !li.even))] = bls (f ++ [li.always || (decide (1 < often.getD k 0) && !li.even)]) := by simp [bls]
  rw [e, ← ap]
  unfold Li.even
  generalize often.getD k 0 = o at *
  generalize li.always = al at *
  generalize bls f = bf at *
  cases al with
  | true => simp [m_kept_lines_b1, getI0, ia, z]
  | false =>
    by_cases y : 1 < o
    · simp [m_kept_lines_b1, getI0, ia, g, y, ne, z]
    · simp [m_kept_lines_b1, getI0, ia, g, y, z]
theorem kept_b2 (E N9 : Slot) (W : List Bool) (hS : S.length = P.length) (hW : W.length = P.length) (h : HP) (k : Nat) (hk : k < P.length) (x : Nat) (hx : x < P.length) (f : List Bool) (hf : f.length = P.length) :
    turn (tName 7) m_kept_lines_b2 [7] (iN x) [.val (.lst (P.map Li.dv)), .val (.lst (S.map tp)), .val (.lst (bls W)), E, .own (bls f), .val (.int (k : Int)), .val (P.getD k (.gv 0)).dv, .none, N9, N9] h =
      .nx [.val (.lst (P.map Li.dv)), .val (.lst (S.map tp)), .val (.lst (bls W)), E, .own (bls (if holdsB P S W k x = true then f.set x true else f)), .val (.int (k : Int)), .val (P.getD k (.gv 0)).dv, .none, N9, N9] h := by
  have gw := bls_at h W k (by omega)
  have gx := sAtL hS x hx h
  have gk := sAtL hS k hk h
  have px := pAtL x hx h
  unfold holdsB
  have ne := vNe_tup h (S.getD x []) (S.getD k [])
  have pa := putAt_nat (bls f) (.bl true) x (by rw [bls_len]; omega)
  rw [bls_set] at pa
  generalize P.getD k (.gv 0) = li at *
  generalize P.getD x (.gv 0) = lx at *
  obtain ⟨r, e⟩ := dv_kd li
  obtain ⟨rx, ex⟩ := dv_kd lx
  have ih := in_holds li h
  have im := in_meets li h
  have nx : vNe (.str (Str.ofString lx.kd)) (.str (Str.ofString "even")) h = _ := vNe_w h lx.kd "even" (kd_w lx) isW_even
  rw [ex] at px
  rw [e]
  unfold Li.even
  generalize W.getD k false = w at *
  generalize li.holds = ho at *
  generalize li.meets = me at *
  generalize S.getD x [] = sx at *
  generalize S.getD k [] = sk at *
  generalize hsd : decide (sx = sk) = sd at *
  generalize hse : decide (lx.kd = "even") = se at *
  generalize S.map tp = SD at *
  generalize P.map Li.dv = PD at *
  cases w with
  | false => simp [m_kept_lines_b2, gw, iN]
  | true =>
    cases ho with
    | true =>
      have pa2 := putAt_nat (bls (f.set x true)) (.bl true) x (by rw [bls_len, List.length_set]; omega)
      rw [bls_set, List.set_set] at pa2
      cases me with
      | false => simp [m_kept_lines_b2, gw, ih, im, iN, ownAt, pa, getI0]
      | true => cases sd <;> cases se <;> simp [m_kept_lines_b2, gw, ih, im, iN, ownAt, pa, pa2, getI0, gx, gk, ne, px, nx]
    | false =>
      cases me with
      | false => simp [m_kept_lines_b2, gw, ih, im, iN, getI0]
      | true => cases sd <;> cases se <;> simp [m_kept_lines_b2, gw, ih, im, iN, ownAt, pa, getI0, gx, gk, ne, px, nx]
theorem kept_b2L (E N9 : Slot) (W : List Bool) (hS : S.length = P.length) (hW : W.length = P.length) (h : HP) (k : Nat) (hk : k < P.length) : ∀ (r : List Nat) (f : List Bool), (∀ x ∈ r, x < P.length) → f.length = P.length →
    forL (tName 7) m_kept_lines_b2 [7] (r.map iN) [.val (.lst (P.map Li.dv)), .val (.lst (S.map tp)), .val (.lst (bls W)), E, .own (bls f), .val (.int (k : Int)), .val (P.getD k (.gv 0)).dv, .none, N9, N9] h =
      .nx [.val (.lst (P.map Li.dv)), .val (.lst (S.map tp)), .val (.lst (bls W)), E, .own (bls (hold P S W k r f)), .val (.int (k : Int)), .val (P.getD k (.gv 0)).dv, .none, N9, N9] h
  | [], f, _, _ => rfl
  | x :: r, f, hr, hf => by
    rw [List.map_cons, forL_cons, kept_b2 E N9 W hS hW h k hk x (hr x List.mem_cons_self) f hf, lR_nx, kept_b2L E N9 W hS hW h k hk r _ (fun y hy => hr y (List.mem_cons_of_mem _ hy)) (by split <;> simp [hf])]
    rfl
theorem kept_b3 (E : Slot) (W : List Bool) (hS : S.length = P.length) (hW : W.length = P.length) (h : HP) (hP : ∀ li ∈ P, ∀ x ∈ li.refs, x < P.length) (k : Nat) (hk : k < P.length) (f : List Bool) (hf : f.length = P.length) :
    turn (tTup [5, 6]) m_kept_lines_b3 [5, 6, 7] (.tup [.int (k : Int), (P.getD k (.gv 0)).dv]) [.val (.lst (P.map Li.dv)), .val (.lst (S.map tp)), .val (.lst (bls W)), E, .own (bls f), .none, .none, .none, .none, .none] h =
      .nx [.val (.lst (P.map Li.dv)), .val (.lst (S.map tp)), .val (.lst (bls W)), E, .own (bls (hold P S W k (P.getD k (.gv 0)).refs f)), .none, .none, .none, .none, .none] h := by
  have rr : f_read_by [(P.getD k (.gv 0)).dv] h = .ok (.lst ((P.getD k (.gv 0)).refs.map iN)) h := by
    generalize P.getD k (.gv 0) = li
    cases li with
    | gv i => exact read_gv i h
    | ln l => exact f_read_by_is l h
  have mem : P.getD k (.gv 0) ∈ P := by
    rw [List.getD_eq_getElem?_getD, List.getElem?_eq_getElem hk]
    exact List.getElem_mem hk
  have lp := kept_b2L E .none W hS hW h k hk (P.getD k (.gv 0)).refs f (hP _ mem) hf
  generalize P.getD k (.gv 0) = li at *
  generalize li.dv = d at *
  generalize S.map tp = SD at *
  generalize P.map Li.dv = PD at *
  generalize li.refs.map iN = r at *
  simp [m_kept_lines_b3, rr, lp]
theorem enD_range (P : List Li) : ∀ (Q : List Li) (k : Nat), P.drop k = Q → enD k (Q.map Li.dv) = (List.range' k Q.length).map fun (j : Nat) => DV.tup [.int (j : Int), (P.getD j (.gv 0)).dv]
  | [], _, _ => rfl
  | li :: Q, k, e => by
    have ek : P[k]? = some li := by
      have := congrArg (fun l => l[0]?) e
      simpa [List.getElem?_drop] using this
    have e2 : P.drop (k + 1) = Q := by
      have := congrArg (fun l => l.drop 1) e
      simpa [List.drop_drop] using this
    show DV.tup [.int (k : Int), li.dv] :: enD (k + 1) (Q.map Li.dv) = _
    rw [enD_range P Q (k + 1) e2, List.length_cons, List.range'_succ, List.map_cons, List.getD_eq_getElem?_getD, ek]
    rfl
theorem enD_all (P : List Li) : enD 0 (P.map Li.dv) = (List.range P.length).map fun (j : Nat) => DV.tup [.int (j : Int), (P.getD j (.gv 0)).dv] := by
  rw [enD_range P P 0 rfl, ← List.range_eq_range']
theorem f_kept_pre (hS : S.length = P.length) (l0 : 0 < P.length) (l1 : P.length ≤ 1000) (rd : Reads (P.map Li.dv) (P.map Li.refs)) (hP : ∀ li ∈ P, ∀ x ∈ li.refs, x < P.length) (h : HP) :
    ∃ D : Slot, m_kept_lines [.val (.lst (P.map Li.dv)), .val (.lst (S.map tp)), .none, .none, .none, .none, .none, .none, .none, .none] h =
      m_kept_lines_r6 [.val (.lst (P.map Li.dv)), .val (.lst (S.map tp)), .val (.lst (bls (wantF (P.map Li.refs)))), D, .own (bls ((holdA P S (wantF (P.map Li.refs)) (List.range P.length) ((List.range P.length).map (firstK P (bumps (P.map Li.refs) (wantF (P.map Li.refs)) (List.replicate P.length 0))))).set (P.length - 1) true)), .none, .none, .none, .none, .none] h := by
  have R0 : 0 < (P.map Li.refs).length := by rw [List.length_map]; exact l0
  have w := f_wanted_is (P.map Li.dv) (P.map Li.refs) rd (by rw [List.length_map]; exact l0) (by rw [List.length_map]; omega) h
  have wl : (wantF (P.map Li.refs)).length = P.length := by rw [wantF_len _ R0, List.length_map]
  generalize wantF (P.map Li.refs) = W at *
  have tm := f_times_is P W l1 hP h
  have ol : (bumps (P.map Li.refs) W (List.replicate P.length 0)).length = P.length := by rw [bumps_len]; simp
  generalize bumps (P.map Li.refs) W (List.replicate P.length 0) = often at *
  have lp1 := forL_fold (A := Nat) (S := List Bool) (t := tTup [5, 6]) (b := m_kept_lines_b1) (fg := [5, 6]) (h := h) (fun (j : Nat) => DV.tup [.int (j : Int), (P.getD j (.gv 0)).dv])
    (fun f => [.val (.lst (P.map Li.dv)), .val (.lst (S.map tp)), .val (.lst (bls W)), .val (.lst (nums often)), .own (bls f), .none, .none, .none, .none, .none]) (fun f k => f ++ [firstK P often k])
    (fun f ks => f.length + ks.length ≤ 1000 ∧ ∀ k ∈ ks, k < P.length) (List.range P.length) [] ⟨by simp; omega, fun k hk => List.mem_range.mp hk⟩ (fun f k ks ⟨h1, h2⟩ => by
      rw [List.length_cons] at h1
      exact ⟨⟨by simp; omega, fun j hj => h2 j (List.mem_cons_of_mem _ hj)⟩, kept_b1 _ _ _ _ often ol h k (h2 k List.mem_cons_self) f (by omega)⟩)
  rw [foldl_app2, List.nil_append] at lp1
  have lp2 := forL_fold (A := Nat) (S := List Bool) (t := tTup [5, 6]) (b := m_kept_lines_b3) (fg := [5, 6, 7]) (h := h) (fun (j : Nat) => DV.tup [.int (j : Int), (P.getD j (.gv 0)).dv])
    (fun f => [.val (.lst (P.map Li.dv)), .val (.lst (S.map tp)), .val (.lst (bls W)), .val (.lst (nums often)), .own (bls f), .none, .none, .none, .none, .none]) (fun f k => hold P S W k (P.getD k (.gv 0)).refs f)
    (fun f ks => f.length = P.length ∧ ∀ k ∈ ks, k < P.length) (List.range P.length) ((List.range P.length).map (firstK P often)) ⟨by simp, fun k hk => List.mem_range.mp hk⟩ (fun f k ks ⟨h1, h2⟩ =>
      ⟨⟨by rw [hold_len]; exact h1, fun j hj => h2 j (List.mem_cons_of_mem _ hj)⟩, kept_b3 _ W hS wl h hP k (h2 k List.mem_cons_self) f h1⟩)
  have lp2 : forL (tTup [5, 6]) m_kept_lines_b3 [5, 6, 7] ((List.range P.length).map fun (j : Nat) => DV.tup [.int (j : Int), (P.getD j (.gv 0)).dv]) [.val (.lst (P.map Li.dv)), .val (.lst (S.map tp)), .val (.lst (bls W)), .val (.lst (nums often)), .own (bls ((List.range P.length).map (firstK P often))), .none, .none, .none, .none, .none] h =
    .nx [.val (.lst (P.map Li.dv)), .val (.lst (S.map tp)), .val (.lst (bls W)), .val (.lst (nums often)), .own (bls (holdA P S W (List.range P.length) ((List.range P.length).map (firstK P often)))), .none, .none, .none, .none, .none] h := lp2
  have hl : (holdA P S W (List.range P.length) ((List.range P.length).map (firstK P often))).length = P.length := by rw [holdA_len]; simp
  generalize holdA P S W (List.range P.length) ((List.range P.length).map (firstK P often)) = f2 at *
  generalize (List.range P.length).map (firstK P often) = f1 at *
  have pa : putAt (bls f2) (.bl true) (.int (-1)) = some (bls (f2.set (P.length - 1) true)) := by
    obtain ⟨a, b, e⟩ : ∃ a b, f2 = a ++ [b] := by
      have lt : P.length - 1 < f2.length := by omega
      have e := List.take_append_getElem lt
      rw [show P.length - 1 + 1 = f2.length by omega, List.take_length] at e
      exact ⟨_, _, e.symm⟩
    have al : a.length = P.length - 1 := by rw [e] at hl; simp at hl; omega
    rw [e, ← al]
    have e1 : bls (a ++ [b]) = bls a ++ [.bl b] := by simp [bls]
    have e2 : (a ++ [b]).set a.length true = a ++ [true] := by
      rw [List.set_append_right _ _ (Nat.le_refl _), Nat.sub_self]
      rfl
    rw [e1, putAt_last, e2]
    simp [bls]
  refine ⟨.val (.lst (nums often)), ?_⟩
  have nb : (bls ([] : List Bool)) = [] := rfl
  rw [nb] at lp1
  rw [← enD_all] at lp1 lp2
  generalize S.map tp = SD at *
  generalize P.map Li.dv = PD at *
  generalize bls W = WD at *
  generalize nums often = OD at *
  generalize bls f1 = F1 at *
  generalize bls (f2.set (P.length - 1) true) = F3 at *
  generalize bls f2 = F2 at *
  simp [m_kept_lines, m_kept_lines_r1, m_kept_lines_r2, m_kept_lines_r3, m_kept_lines_r4, m_kept_lines_r5, w, tm, lp1, lp2, ownAt, pa]
theorem kept_c1 (A B D : Slot) (f W : List Bool) (hl : f.length ≤ 1000) (h : HP) : m_kept_lines_c1 [A, B, .val (.lst (bls W)), D, .val (.lst (bls f)), .none, .none, .none, .none, .none] h = .ok (bls (List.zipWith (fun a b => a && b) f W)) h := by
  unfold m_kept_lines_c1
  have zm : zipD (bls f) (bls W) = (f.zip W).map fun q => .tup [.bl q.1, .bl q.2] := zipD_map DV.bl DV.bl f W
  rw [mLc_ints (A := Bool × Bool) (l := f.zip W) (fun q => .tup [.bl q.1, .bl q.2]) (fun q => .bl (q.1 && q.2)) ?_ (by rw [List.length_zip]; omega) fun q hq => ⟨_, rfl, ?_⟩]
  · unfold bls
    rw [List.zip, List.map_zipWith, List.map_zipWith]
  · simp [zm]
  · obtain ⟨a, b⟩ := q
    cases a <;> cases b <;> simp
end

end LM

-- dropped: 
namespace LM
open PySem L2
/-! ### the lines that the answer hangs on, as the law finds them -/
theorem f_law_reads_is (li : Li) (h : HP) : f_law_reads [li.dv] h = .ok (.lst (li.refs.map iN)) h := by
  unfold f_law_reads
  rw [fnM_app]
  cases li with
  | gv k => simp [m_law_reads, List.replicate, Li.dv, LM.gv, Li.refs, getI0]
  | ln l => cases l <;> simp [m_law_reads, m_law_reads_r1, m_law_reads_r2, m_law_reads_r3, m_law_reads_r4, m_law_reads_r5, m_law_reads_r6, List.replicate, Li.dv, Ln.dv, Li.refs, Ln.refs, getI0, getI1, getI2, getI3, iN]
theorem eqF_iN (x y : Nat) : eqF (iN y) (iN x) = decide (y = x) := by
  show decide ((y : Int) = (x : Int)) = _
  by_cases z : y = x
  · rw [z]; simp
  · rw [decide_eq_false z, decide_eq_false (by omega)]
theorem flat_iN (V : List Nat) : (V.map iN).all flatD = true := by
  rw [List.all_map]
  exact List.all_eq_true.mpr fun x _ => rfl
theorem any_iN (V : List Nat) (x : Nat) : ((V.map iN).any fun y => eqF y (iN x)) = decide (x ∈ V) := by
  rw [List.any_map]
  induction V with
  | nil => rfl
  | cons y V ih =>
    rw [List.any_cons, ih]
    show (eqF (iN y) (iN x) || _) = _
    rw [eqF_iN]
    by_cases z : y = x
    · subst z; simp
    · have z2 : ¬ x = y := fun q => z q.symm
      simp [z, z2]
theorem vIn_iN (V : List Nat) (x : Nat) (h : HP) : vIn false (iN x) (.lst (V.map iN)) h = .ok (.bl (decide (x ∈ V))) h ∧ vIn true (iN x) (.lst (V.map iN)) h = .ok (.bl (!decide (x ∈ V))) h := by
  have a := any_iN V x
  have f := flat_iN V
  have fx : flatD (iN x) = true := rfl
  unfold vIn
  have e : asS h (.lst (V.map iN)) = some (V.map iN) := rfl
  rw [e]
  simp only [fx, f, Bool.and_self, if_true, a]
  first | exact ⟨rfl, rfl⟩ | exact ⟨trivial, rfl⟩ | simp
def push (s : List Nat × List Nat) (x : Nat) : List Nat × List Nat := if x ∈ s.1 then s else (s.1 ++ [x], s.2 ++ [x])
theorem push_mem (s : List Nat × List Nat) (x y : Nat) : y ∈ (push s x).1 ↔ y ∈ s.1 ∨ y = x := by
  unfold push
  split
  · constructor
    · exact .inl
    · rintro (q | q)
      · exact q
      · rw [q]; assumption
  · simp
def pushes (s : List Nat × List Nat) (r : List Nat) : List Nat × List Nat := r.foldl push s
theorem pushes_mem (r : List Nat) : ∀ (s : List Nat × List Nat) (y : Nat), y ∈ (pushes s r).1 ↔ y ∈ s.1 ∨ y ∈ r := by
  induction r with
  | nil => intro s y; show y ∈ s.1 ↔ _; simp
  | cons x r ih =>
    intro s y
    show y ∈ (pushes (push s x) r).1 ↔ _
    rw [ih, push_mem, List.mem_cons, or_assoc]
theorem push_q (s : List Nat × List Nat) (x y : Nat) (h : y ∈ (push s x).1) : y ∈ s.1 ∨ y ∈ (push s x).2 := by
  unfold push at h ⊢
  split at h
  · exact .inl h
  · rename_i z
    rcases List.mem_append.mp h with q | q
    · exact .inl q
    · exact .inr (by rw [if_neg z]; exact List.mem_append_right _ q)
theorem push_q2 (s : List Nat × List Nat) (x y : Nat) (h : y ∈ s.2) : y ∈ (push s x).2 := by
  unfold push
  split
  · exact h
  · exact List.mem_append_left _ h
theorem pushes_q2 (r : List Nat) : ∀ (s : List Nat × List Nat) (y : Nat), y ∈ s.2 → y ∈ (pushes s r).2 := by
  induction r with
  | nil => intro s y q; exact q
  | cons x r ih => intro s y q; exact ih (push s x) y (push_q2 s x y q)
theorem pushes_q (r : List Nat) : ∀ (s : List Nat × List Nat) (y : Nat), y ∈ (pushes s r).1 → y ∈ s.1 ∨ y ∈ (pushes s r).2 := by
  induction r with
  | nil => intro s y q; exact .inl q
  | cons x r ih =>
    intro s y q
    rcases ih (push s x) y q with q2 | q2
    · rcases push_q s x y q2 with q3 | q3
      · exact .inl q3
      · exact .inr (pushes_q2 r (push s x) y q3)
    · exact .inr q2
structure Ahead (n : Nat) (s : List Nat × List Nat) : Prop where
  nd : s.1.Nodup
  b : ∀ x ∈ s.1, x < n
  q : ∀ x ∈ s.2, x ∈ s.1
theorem nodup_le : ∀ (n : Nat) (V : List Nat), V.Nodup → (∀ x ∈ V, x < n) → V.length ≤ n
  | 0, [], _, _ => Nat.le_refl _
  | 0, x :: _, _, b => absurd (b x List.mem_cons_self) (Nat.not_lt_zero _)
  | n + 1, V, nd, b => by
    have h := nodup_le n (V.erase n) (nd.erase n) fun x hx => by
      have h1 := (nd.mem_erase_iff.mp hx)
      have := b x h1.2
      have := h1.1
      omega
    by_cases z : n ∈ V
    · rw [List.length_erase_of_mem z] at h
      omega
    · rw [List.erase_of_not_mem z] at h
      omega
theorem Ahead.push {n : Nat} {s : List Nat × List Nat} (a : Ahead n s) (x : Nat) (hx : x < n) : Ahead n (push s x) ∧ s.2.length + (push s x).1.length = s.1.length + (push s x).2.length := by
  unfold LM.push
  split
  · exact ⟨a, by omega⟩
  · rename_i z
    refine ⟨⟨?_, fun y hy => ?_, fun y hy => ?_⟩, by simp; omega⟩
    · show (s.1 ++ [x]).Nodup
      rw [List.nodup_append]
      refine ⟨a.nd, by simp, fun u hu v hv e => ?_⟩
      rw [List.mem_singleton.mp hv] at e
      exact z (e ▸ hu)
    · rcases List.mem_append.mp hy with q | q
      · exact a.b y q
      · rw [List.mem_singleton.mp q]; exact hx
    · rcases List.mem_append.mp hy with q | q
      · exact List.mem_append_left _ (a.q y q)
      · exact List.mem_append_right _ q
theorem Ahead.pushes {n : Nat} : ∀ (r : List Nat) {s : List Nat × List Nat} (_ : Ahead n s) (_ : ∀ x ∈ r, x < n), Ahead n (pushes s r) ∧ s.2.length + (pushes s r).1.length = s.1.length + (pushes s r).2.length
  | [], s, a, _ => ⟨a, by show s.2.length + s.1.length = _; exact Nat.add_comm _ _⟩
  | x :: r, s, a, hr => by
    obtain ⟨a1, e1⟩ := a.push x (hr x List.mem_cons_self)
    obtain ⟨a2, e2⟩ := Ahead.pushes r a1 fun y hy => hr y (List.mem_cons_of_mem _ hy)
    exact ⟨a2, by
      show s.2.length + (LM.pushes (LM.push s x) r).1.length = _ + (LM.pushes (LM.push s x) r).2.length
      omega⟩
theorem want_in_loop (A : Slot) (p : Nat) : ∀ (r : List Nat) (s : List Nat × List Nat) (h : HP), Ahead 1000 s → (∀ x ∈ r, x < 1000) → s.2.length ≤ s.1.length → h[p]? = some (.lst (s.2.map iN)) →
    forL (tName 3) m_law_wanted_b1 [3] (r.map iN) [A, .own (s.1.map iN), .val (.ref p), .none] h = .nx [A, .own ((pushes s r).1.map iN), .val (.ref p), .none] (h.set p (.lst ((pushes s r).2.map iN)))
  | [], s, h, _, _, _, hp => by
    show SRes.nx _ h = .nx _ (h.set p (.lst (s.2.map iN)))
    have e : h.set p (.lst (s.2.map iN)) = h := by
      apply List.ext_getElem?
      intro j
      by_cases z : p = j
      · subst z
        rw [List.getElem?_set_self (List.getElem?_eq_some_iff.mp hp).1, hp]
      · rw [List.getElem?_set_ne z]
    rw [e]
    rfl
  | x :: r, s, h, a, hr, hl, hp => by
    have hx := hr x List.mem_cons_self
    obtain ⟨a2, e2⟩ := a.push x hx
    have l1 := nodup_le 1000 s.1 a.nd a.b
    have hlt := (List.getElem?_eq_some_iff.mp hp).1
    have t : turn (tName 3) m_law_wanted_b1 [3] (iN x) [A, .own (s.1.map iN), .val (.ref p), .none] h = .nx [A, .own ((push s x).1.map iN), .val (.ref p), .none] (h.set p (.lst ((push s x).2.map iN))) := by
      have vi := (vIn_iN s.1 x h).2
      have la := lstAt_ref hp
      have ap := appH_ref (iN x) hp (by rw [List.length_map]; omega)
      have zl : (s.1.map iN).length < 16777216 := by rw [List.length_map]; omega
      unfold push
      by_cases z : x ∈ s.1
      · rw [if_pos z]
        have e : h.set p (.lst (s.2.map iN)) = h := by
          apply List.ext_getElem?
          intro j
          by_cases z : p = j
          · subst z
            rw [List.getElem?_set_self hlt, hp]
          · rw [List.getElem?_set_ne z]
        rw [e]
        rw [decide_eq_true z] at vi
        generalize s.1.map iN = V at *
        simp [m_law_wanted_b1, vi]
      · rw [if_neg z]
        rw [decide_eq_false z] at vi
        rw [List.map_append, List.map_append]
        show _ = SRes.nx [A, .own (s.1.map iN ++ [iN x]), .val (.ref p), .none] (h.set p (.lst (s.2.map iN ++ [iN x])))
        generalize s.1.map iN = V at *
        generalize s.2.map iN = Q at *
        generalize iN x = X at *
        simp [m_law_wanted_b1, vi, la, ap, zl]
    rw [List.map_cons, forL_cons, t, lR_nx, want_in_loop A p r (push s x) _ a2 (fun y hy => hr y (List.mem_cons_of_mem _ hy)) (by omega) (List.getElem?_set_self hlt), List.set_set]
    rfl
def Seen (R : List (List Nat)) (s : List Nat × List Nat) : Prop := ∀ k ∈ s.1, k ∈ s.2 ∨ ∀ x ∈ R.getD k [], x ∈ s.1
theorem want_while (P : List Li) (n : Nat) (hn : P.length = n) (n1 : n ≤ 40) (hP : ∀ li ∈ P, ∀ x ∈ li.refs, x < n) (C : Nat → Prop) (hC : ∀ k, C k → ∀ x ∈ (P.map Li.refs).getD k [], C x) (p : Nat) :
    ∀ (m f : Nat) (s : List Nat × List Nat) (h : HP), Ahead n s → n + s.2.length = s.1.length + m → s.2.length ≤ s.1.length → m < f → h[p]? = some (.lst (s.2.map iN)) → Seen (P.map Li.refs) s → (∀ x ∈ s.1, C x) →
    ∃ V : List Nat, whL (tb (e2 vNeX (eVar 2) (eFrz aNil))) m_law_wanted_b2 [3] f [.val (.lst (P.map Li.dv)), .own (s.1.map iN), .val (.ref p), .none] h = .nx [.val (.lst (P.map Li.dv)), .own (V.map iN), .val (.ref p), .none] (h.set p (.lst [])) ∧
      V.Nodup ∧ (∀ x ∈ V, x < n) ∧ (∀ x ∈ s.1, x ∈ V) ∧ (∀ x ∈ V, C x) ∧ ∀ k ∈ V, ∀ x ∈ (P.map Li.refs).getD k [], x ∈ V := by
  intro m
  induction m with
  | zero =>
    intro f s h a e l1 hf hp sn hc
    have hV := nodup_le n s.1 a.nd a.b
    have q0 : s.2 = [] := List.eq_nil_of_length_eq_zero (by omega)
    obtain ⟨f, rfl⟩ : ∃ g, f = g + 1 := ⟨f - 1, by omega⟩
    refine ⟨s.1, ?_, a.nd, a.b, fun x q => q, hc, fun k hk => ?_⟩
    · rw [q0] at hp
      have hd : dr h (.ref p) = .lst [] := dr_ref hp
      have e2 : h.set p (.lst []) = h := by
        apply List.ext_getElem?
        intro j
        by_cases z : p = j
        · subst z
          rw [List.getElem?_set_self (List.getElem?_eq_some_iff.mp hp).1, hp]
          rfl
        · rw [List.getElem?_set_ne z]
      have vn : vNe (.lst []) (.lst []) h = .ok (.bl false) h := rfl
      rw [e2]
      unfold whL
      simp [hd, vn]
    · rcases sn k hk with q | q
      · rw [q0] at q
        cases q
      · exact q
  | succ m ih =>
    intro f s h a e l1 hf hp sn hc
    obtain ⟨f, rfl⟩ : ∃ g, f = g + 1 := ⟨f - 1, by omega⟩
    have hlt := (List.getElem?_eq_some_iff.mp hp).1
    have hV := nodup_le n s.1 a.nd a.b
    by_cases q0 : s.2 = []
    · refine ⟨s.1, ?_, a.nd, a.b, fun x q => q, hc, fun k hk => ?_⟩
      · rw [q0] at hp
        have hd : dr h (.ref p) = .lst [] := dr_ref hp
        have e2 : h.set p (.lst []) = h := by
          apply List.ext_getElem?
          intro j
          by_cases z : p = j
          · subst z
            rw [List.getElem?_set_self (List.getElem?_eq_some_iff.mp hp).1, hp]
            rfl
          · rw [List.getElem?_set_ne z]
        have vn : vNe (.lst []) (.lst []) h = .ok (.bl false) h := rfl
        rw [e2]
        unfold whL
        simp [hd, vn]
      · rcases sn k hk with q | q
        · rw [q0] at q
          cases q
        · exact q
    · obtain ⟨Q, k, eq⟩ : ∃ Q k, s.2 = Q ++ [k] := ⟨s.2.dropLast, s.2.getLast q0, (List.dropLast_concat_getLast q0).symm⟩
      have hk : k ∈ s.1 := a.q k (by rw [eq]; simp)
      have kn := a.b k hk
      have hd : dr h (.ref p) = .lst (s.2.map iN) := dr_ref hp
      have hp2 : h[p]? = some (.lst (Q.map iN ++ [iN k])) := by rw [hp, eq, List.map_append]; rfl
      have po := popH_ref hp2
      have vn : vNe (.lst (s.2.map iN)) (.lst []) h = .ok (.bl true) h := by
        have e : s.2.map iN = nums (s.2.map fun (x : Nat) => (x : Int)) := by
          unfold nums
          rw [List.map_map]
          rfl
        rw [e]
        have q := vNe_lst h (s.2.map fun (x : Nat) => (x : Int)) []
        rw [decide_eq_false (by rw [eq]; simp)] at q
        exact q
      have px : getI (P.map Li.dv) (k : Int) (h.set p (.lst (Q.map iN))) = .ok (P.getD k (.gv 0)).dv _ := pAtL k (by omega) _
      have rd := f_law_reads_is (P.getD k (.gv 0)) (h.set p (.lst (Q.map iN)))
      have rk : (P.map Li.refs).getD k [] = (P.getD k (.gv 0)).refs := by
        rw [List.getD_eq_getElem?_getD, List.getD_eq_getElem?_getD, List.getElem?_map, List.getElem?_eq_getElem (by omega)]
        rfl
      have mem : P.getD k (.gv 0) ∈ P := by
        rw [List.getD_eq_getElem?_getD, List.getElem?_eq_getElem (by omega)]
        exact List.getElem_mem _
      have hr := hP _ mem
      have a1 : Ahead n (s.1, Q) := ⟨a.nd, a.b, fun x hx => a.q x (by rw [eq]; exact List.mem_append_left _ hx)⟩
      have ql : s.2.length = Q.length + 1 := by rw [eq]; simp
      have lp := want_in_loop (.val (.lst (P.map Li.dv))) p (P.getD k (.gv 0)).refs (s.1, Q) (h.set p (.lst (Q.map iN))) ⟨a1.nd, fun x hx => by have := a1.b x hx; omega, a1.q⟩ (fun x hx => by have := hr x hx; omega) (by show Q.length ≤ s.1.length; omega) (List.getElem?_set_self hlt)
      rw [List.set_set] at lp
      obtain ⟨a2, e2⟩ := Ahead.pushes (P.getD k (.gv 0)).refs a1 hr
      have e2 : Q.length + (pushes (s.1, Q) (P.getD k (.gv 0)).refs).1.length = s.1.length + (pushes (s.1, Q) (P.getD k (.gv 0)).refs).2.length := e2
      have sn2 : Seen (P.map Li.refs) (pushes (s.1, Q) (P.getD k (.gv 0)).refs) := fun j hj => by
        rcases pushes_q _ (s.1, Q) j hj with q | q
        · by_cases z : j = k
          · subst z
            rw [rk]
            exact .inr fun x hx => (pushes_mem _ (s.1, Q) x).mpr (.inr hx)
          · rcases sn j q with q2 | q2
            · rw [eq] at q2
              rcases List.mem_append.mp q2 with q3 | q3
              · exact .inl (pushes_q2 _ (s.1, Q) j q3)
              · exact absurd (List.mem_singleton.mp q3) z
            · exact .inr fun x hx => (pushes_mem _ (s.1, Q) x).mpr (.inl (q2 x hx))
        · exact .inl q
      have hc2 : ∀ x ∈ (pushes (s.1, Q) (P.getD k (.gv 0)).refs).1, C x := fun x hx => by
        rcases (pushes_mem _ (s.1, Q) x).mp hx with q | q
        · exact hc x q
        · exact hC k (hc k hk) x (by rw [rk]; exact q)
      have sub : ∀ x ∈ s.1, x ∈ (pushes (s.1, Q) (P.getD k (.gv 0)).refs).1 := fun x hx => (pushes_mem _ (s.1, Q) x).mpr (.inl hx)
      have lp : forL (tName 3) m_law_wanted_b1 [3] ((P.getD k (.gv 0)).refs.map iN) [.val (.lst (P.map Li.dv)), .own (s.1.map iN), .val (.ref p), .none] (h.set p (.lst (Q.map iN))) = .nx [.val (.lst (P.map Li.dv)), .own ((pushes (s.1, Q) (P.getD k (.gv 0)).refs).1.map iN), .val (.ref p), .none] (h.set p (.lst ((pushes (s.1, Q) (P.getD k (.gv 0)).refs).2.map iN))) := lp
      generalize (P.getD k (.gv 0)).refs = rr at *
      generalize pushes (s.1, Q) rr = s2 at *
      have ih2 := ih f s2 (h.set p (.lst (s2.2.map iN))) a2 (by omega) (by omega) (by omega) (List.getElem?_set_self hlt) sn2 hc2
      obtain ⟨V, w, v1, v2, v3, v4, v5⟩ := ih2
      rw [List.set_set] at w
      refine ⟨V, ?_, v1, v2, fun x hx => v3 x (sub x hx), v4, v5⟩
      rw [← w]
      have b : m_law_wanted_b2 [.val (.lst (P.map Li.dv)), .own (s.1.map iN), .val (.ref p), .none] h = .nx [.val (.lst (P.map Li.dv)), .own (s2.1.map iN), .val (.ref p), .none] (h.set p (.lst (s2.2.map iN))) := by
        generalize P.map Li.dv = PD at *
        generalize (P.getD k (.gv 0)).dv = d at *
        have px : getI PD (k : Int) (h.set p (.lst (Q.map iN))) = .ok d (h.set p (.lst (Q.map iN))) := px
        have po : popH h (.ref p) = some (.int (k : Int), h.set p (.lst (Q.map iN))) := po
        generalize h.set p (.lst (Q.map iN)) = h2 at *
        simp [m_law_wanted_b2, po, popR, px, rd, lp]
      conv => lhs; unfold whL
      have tt : tb (LM.e2 vNeX (eVar 2) (eFrz aNil)) [.val (.lst (P.map Li.dv)), .own (s.1.map iN), .val (.ref p), .none] h = .ok true h := by
        generalize s.2.map iN = q2 at *
        simp [hd, vn]
      rw [tt]
      simp only []
      rw [b]
      rfl
theorem wantM_in (C : Nat → Prop) : ∀ (r : List Nat) (f : List Bool), (∀ x ∈ r, C x) → (∀ j, f.getD j false = true → C j) → ∀ j, (mark f r).getD j false = true → C j
  | [], f, _, hf, j, q => hf j q
  | x :: r, f, hr, hf, j, q => by
    refine wantM_in C r (f.set x true) (fun y hy => hr y (List.mem_cons_of_mem _ hy)) (fun i hi => ?_) j q
    by_cases z : x = i
    · rw [← z]; exact hr x List.mem_cons_self
    · rw [List.getD_eq_getElem?_getD, List.getElem?_set_ne z, ← List.getD_eq_getElem?_getD] at hi
      exact hf i hi
theorem wantK_in (R : List (List Nat)) (C : Nat → Prop) (hC : ∀ k, C k → ∀ x ∈ R.getD k [], C x) : ∀ (ks : List Nat) (f : List Bool), (∀ j, f.getD j false = true → C j) → ∀ j, (ks.foldl (wantT R) f).getD j false = true → C j
  | [], f, hf, j, q => hf j q
  | k :: ks, f, hf, j, q => by
    refine wantK_in R C hC ks (wantT R f k) (fun i hi => ?_) j q
    unfold wantT at hi
    by_cases z : f.getD k false = true
    · rw [if_pos z] at hi
      exact wantM_in C _ f (hC k (hf k z)) hf i hi
    · rw [if_neg z] at hi
      exact hf i hi
theorem wantF_in (R : List (List Nat)) (C : Nat → Prop) (hC : ∀ k, C k → ∀ x ∈ R.getD k [], C x) (h : C (R.length - 1)) (j : Nat) (q : (wantF R).getD j false = true) : C j := by
  refine wantK_in R C hC _ _ (fun i hi => ?_) j q
  by_cases z : i < R.length - 1
  · rw [List.getD_eq_getElem?_getD, List.getElem?_append_left (by simpa using z)] at hi
    simp [z] at hi
  · by_cases z2 : i = R.length - 1
    · rw [z2]; exact h
    · rw [List.getD_eq_getElem?_getD, List.getElem?_eq_none (by simp; omega)] at hi
      cases hi
theorem f_law_wanted_is {G S : List (List Int)} {P : List Li} (g : Good G P S) (h : HP) :
    ∃ V : List Nat, f_law_wanted [.lst (P.map Li.dv)] h = .ok (.lst (V.map iN)) (h ++ [.lst []]) ∧ V.Nodup ∧ (∀ k, k ∈ V ↔ (wantF (P.map Li.refs)).getD k false = true) ∧ ∀ k ∈ V, k < P.length := by
  have l0 := g.l0
  have l1 := g.l1
  have bel : ∀ li ∈ P, ∀ x ∈ li.refs, x < P.length := fun li hli x hx => by
    obtain ⟨k, hk, e⟩ := List.mem_iff_getElem.mp hli
    have b := g.below k x (by
      rw [List.getD_eq_getElem?_getD, List.getElem?_map, List.getElem?_eq_getElem hk, e]
      exact hx)
    omega
  have wl : (wantF (P.map Li.refs)).length = P.length := by rw [wantF_len _ (by rw [List.length_map]; exact l0), List.length_map]
  have la := wantF_last (P.map Li.refs) (by rw [List.length_map]; exact l0)
  rw [List.length_map] at la
  have cl : ∀ k, (wantF (P.map Li.refs)).getD k false = true → ∀ x ∈ (P.map Li.refs).getD k [], (wantF (P.map Li.refs)).getD x false = true := fun k w => by
    refine wantF_closed (P.map Li.refs) g.below k ?_ w
    by_cases z : k < (P.map Li.refs).length
    · exact z
    · rw [List.length_map] at z
      rw [List.getD_eq_getElem?_getD, List.getElem?_eq_none (by omega)] at w
      cases w
  obtain ⟨V, w, v1, v2, v3, v4, v5⟩ := want_while P P.length rfl l1 bel (fun k => (wantF (P.map Li.refs)).getD k false = true) cl h.length P.length 1000 ([P.length - 1], [P.length - 1]) (h ++ [.lst [iN (P.length - 1)]])
    ⟨by simp, fun x hx => by rw [List.mem_singleton.mp hx]; omega, fun x hx => hx⟩ (by simp; omega) (by simp) (by omega) (by simp) (fun k hk => .inl hk) (fun x hx => by rw [List.mem_singleton.mp hx]; exact la)
  have lv : P.length - 1 ∈ V := v3 _ (by simp)
  refine ⟨V, ?_, v1, fun k => ⟨v4 k, fun q => wantF_in (P.map Li.refs) (· ∈ V) v5 (by rw [List.length_map]; exact lv) k q⟩, v2⟩
  have st : (h ++ [HObj.lst [iN (P.length - 1)]]).set h.length (.lst []) = h ++ [.lst []] := by simp
  rw [st] at w
  have w : whL (tb (e2 vNeX (eVar 2) (eFrz aNil))) m_law_wanted_b2 [3] 1000 [.val (.lst (P.map Li.dv)), .own [iN (P.length - 1)], .val (.ref h.length), .none] (h ++ [.lst [iN (P.length - 1)]]) = .nx [.val (.lst (P.map Li.dv)), .own (V.map iN), .val (.ref h.length), .none] (h ++ [.lst []]) := w
  unfold f_law_wanted
  rw [fnM_app]
  have pl : (P.map Li.dv).length = P.length := List.length_map _
  have ci : (P.length : Int) - 1 = ((P.length - 1 : Nat) : Int) := by omega
  generalize P.length - 1 = n1 at *
  generalize P.map Li.dv = PD at *
  generalize V.map iN = VD at *
  unfold iN at w
  simp [m_law_wanted, List.replicate, pl, ci, sWhile, w]

end LM

-- dropped: 
namespace LM
open PySem L2
/-! ### which lines are kept, as the law counts -/
def lhold (P : List Li) (S : List (List Int)) (k p : Nat) : Bool := (P.getD k (.gv 0)).holds || ((P.getD k (.gv 0)).meets && (!decide (S.getD p [] = S.getD k []) && !(P.getD p (.gv 0)).even))
def lstep (P : List Li) (S : List (List Int)) (k : Nat) (s : List Bool × List Int) (x : Nat) : List Bool × List Int :=
  (if (lhold P S k x || (!(P.getD x (.gv 0)).even && decide (1 < s.2.getD x 0 + 1))) = true then s.1.set x true else s.1, s.2.set x (s.2.getD x 0 + 1))
def lvis (P : List Li) (S : List (List Int)) (s : List Bool × List Int) (k : Nat) : List Bool × List Int :=
  (P.getD k (.gv 0)).refs.foldl (lstep P S k) (s.1.set k (s.1.getD k false || (P.getD k (.gv 0)).always), s.2)
structure KInv (P : List Li) (n : Nat) (Q : Nat → Prop) (C : Nat → Nat) (s : List Bool × List Int) : Prop where
  l1 : s.1.length = n
  l2 : s.2.length = n
  c : ∀ j, j < n → s.2.getD j 0 = (C j : Int)
  f : ∀ j, j < n → (s.1.getD j false = true ↔ (Q j ∨ ((P.getD j (.gv 0)).even = false ∧ 1 < C j)))
theorem getD_set_ne {A : Type} (l : List A) (i j : Nat) (a d : A) (h : i ≠ j) : (l.set i a).getD j d = l.getD j d := by
  rw [List.getD_eq_getElem?_getD, List.getElem?_set_ne h, ← List.getD_eq_getElem?_getD]
theorem getD_set_eq {A : Type} (l : List A) (i : Nat) (a d : A) (h : i < l.length) : (l.set i a).getD i d = a := by
  rw [List.getD_eq_getElem?_getD, List.getElem?_set_self h]
  rfl
theorem lstep_inv {P : List Li} {S : List (List Int)} {n : Nat} {Q : Nat → Prop} {C : Nat → Nat} {s : List Bool × List Int} (k x : Nat) (hx : x < n) (i : KInv P n Q C s) :
    KInv P n (fun j => Q j ∨ (j = x ∧ lhold P S k x = true)) (fun j => C j + if j = x then 1 else 0) (lstep P S k s x) := by
  have fl : (lstep P S k s x).1.length = n := by
    unfold lstep
    simp only []
    split <;> simp [i.l1]
  refine ⟨fl, by unfold lstep; simp [i.l2], fun j hj => ?_, fun j hj => ?_⟩
  · unfold lstep
    simp only []
    by_cases z : j = x
    · subst z
      rw [getD_set_eq _ _ _ _ (by rw [i.l2]; exact hj), i.c j hj, if_pos rfl]
      omega
    · rw [getD_set_ne _ _ _ _ _ (fun q => z q.symm), i.c j hj, if_neg z]
      rfl
  · have cx := i.c x hx
    have fj := i.f j hj
    unfold lstep
    simp only []
    rw [cx]
    by_cases z : j = x
    · subst z
      rw [if_pos rfl]
      by_cases y : (lhold P S k j || (!(P.getD j (.gv 0)).even && decide (1 < (C j : Int) + 1))) = true
      · rw [if_pos y, getD_set_eq _ _ _ _ (by rw [i.l1]; exact hj)]
        simp only [Bool.or_eq_true, Bool.and_eq_true, Bool.not_eq_true', decide_eq_true_eq] at y
        refine ⟨fun _ => ?_, fun _ => rfl⟩
        rcases y with y | y
        · exact .inl (.inr ⟨rfl, y⟩)
        · exact .inr ⟨y.1, by omega⟩
      · rw [if_neg y, fj]
        simp only [Bool.or_eq_true, Bool.and_eq_true, Bool.not_eq_true', decide_eq_true_eq, not_or, not_and] at y
        constructor
        · rintro (q | ⟨q, q2⟩)
          · exact .inl (.inl q)
          · exact .inr ⟨q, by omega⟩
        · rintro ((q | q) | ⟨q, q2⟩)
          · exact .inl q
          · exact absurd q.2 y.1
          · exact absurd (by omega) (y.2 q)
    · have e : (if (lhold P S k x || (!(P.getD x (.gv 0)).even && decide (1 < (C x : Int) + 1))) = true then s.1.set x true else s.1).getD j false = s.1.getD j false := by
        split
        · exact getD_set_ne _ _ _ _ _ fun q => z q.symm
        · rfl
      rw [e, fj, if_neg z, Nat.add_zero]
      constructor
      · rintro (q | q)
        · exact .inl (.inl q)
        · exact .inr q
      · rintro ((q | q) | q)
        · exact .inl q
        · exact absurd q.1 z
        · exact .inr q
theorem KInv.congr {P : List Li} {n : Nat} {Q Q2 : Nat → Prop} {C C2 : Nat → Nat} {s : List Bool × List Int} (i : KInv P n Q C s) (h1 : ∀ j, Q j ↔ Q2 j) (h2 : ∀ j, C j = C2 j) : KInv P n Q2 C2 s :=
  ⟨i.l1, i.l2, fun j hj => by rw [← h2]; exact i.c j hj, fun j hj => by rw [← h2, ← h1]; exact i.f j hj⟩
theorem lsteps_inv {P : List Li} {S : List (List Int)} {n : Nat} (k : Nat) : ∀ (r : List Nat) {Q : Nat → Prop} {C : Nat → Nat} {s : List Bool × List Int}, (∀ x ∈ r, x < n) → KInv P n Q C s →
    KInv P n (fun j => Q j ∨ (j ∈ r ∧ lhold P S k j = true)) (fun j => C j + r.count j) (r.foldl (lstep P S k) s)
  | [], Q, C, s, _, i => i.congr (fun j => by simp) (fun j => by simp)
  | x :: r, Q, C, s, hr, i => by
    have i2 := lsteps_inv (S := S) k r (fun y hy => hr y (List.mem_cons_of_mem _ hy)) (lstep_inv (S := S) k x (hr x List.mem_cons_self) i)
    refine i2.congr (fun j => ?_) fun j => ?_
    · rw [List.mem_cons]
      constructor
      · rintro ((q | ⟨q, q2⟩) | ⟨q, q2⟩)
        · exact .inl q
        · exact .inr ⟨.inl q, by rw [q]; exact q2⟩
        · exact .inr ⟨.inr q, q2⟩
      · rintro (q | ⟨q | q, q2⟩)
        · exact .inl (.inl q)
        · exact .inl (.inr ⟨q, by rw [q] at q2; exact q2⟩)
        · exact .inr ⟨q, q2⟩
    · rw [List.count_cons]
      by_cases z : j = x
      · subst z
        simp
        omega
      · have z2 : ¬ x = j := fun q => z q.symm
        simp [z, z2]
theorem lvis_inv {P : List Li} {S : List (List Int)} {n : Nat} {Q : Nat → Prop} {C : Nat → Nat} {s : List Bool × List Int} (k : Nat) (hk : k < n) (hr : ∀ x ∈ (P.getD k (.gv 0)).refs, x < n) (i : KInv P n Q C s) :
    KInv P n (fun j => (Q j ∨ (j = k ∧ (P.getD k (.gv 0)).always = true)) ∨ (j ∈ (P.getD k (.gv 0)).refs ∧ lhold P S k j = true)) (fun j => C j + (P.getD k (.gv 0)).refs.count j) (lvis P S s k) := by
  refine lsteps_inv (S := S) k _ hr ⟨by simp [i.l1], i.l2, i.c, fun j hj => ?_⟩
  have fj := i.f j hj
  simp only []
  by_cases z : j = k
  · subst z
    rw [getD_set_eq _ _ _ _ (by rw [i.l1]; exact hj), Bool.or_eq_true, fj]
    constructor
    · rintro ((q | q) | q)
      · exact .inl (.inl q)
      · exact .inr q
      · exact .inl (.inr ⟨rfl, q⟩)
    · rintro ((q | q) | q)
      · exact .inl (.inl q)
      · exact .inr q.2
      · exact .inl (.inr q)
  · rw [getD_set_ne _ _ _ _ _ (fun q => z q.symm), fj]
    constructor
    · rintro (q | q)
      · exact .inl (.inl q)
      · exact .inr q
    · rintro ((q | q) | q)
      · exact .inl q
      · exact absurd q.1 z
      · exact .inr q
theorem lall_inv {P : List Li} {S : List (List Int)} {n : Nat} : ∀ (V : List Nat) {Q : Nat → Prop} {C : Nat → Nat} {s : List Bool × List Int}, (∀ k ∈ V, k < n ∧ ∀ x ∈ (P.getD k (.gv 0)).refs, x < n) → KInv P n Q C s →
    KInv P n (fun j => Q j ∨ ((j ∈ V ∧ (P.getD j (.gv 0)).always = true) ∨ ∃ k ∈ V, j ∈ (P.getD k (.gv 0)).refs ∧ lhold P S k j = true)) (fun j => C j + (V.map fun k => (P.getD k (.gv 0)).refs.count j).sum) (V.foldl (lvis P S) s)
  | [], Q, C, s, _, i => i.congr (fun j => by simp) (fun j => by simp)
  | k :: V, Q, C, s, hV, i => by
    have h1 := hV k List.mem_cons_self
    have i2 := lall_inv (S := S) V (fun y hy => hV y (List.mem_cons_of_mem _ hy)) (lvis_inv (S := S) k h1.1 h1.2 i)
    refine i2.congr (fun j => ?_) fun j => ?_
    · simp only [List.mem_cons]
      constructor
      · rintro (((q | q) | q) | (q | ⟨k', q1, q2⟩))
        · exact .inl q
        · exact .inr (.inl ⟨.inl q.1, by rw [q.1]; exact q.2⟩)
        · exact .inr (.inr ⟨k, .inl rfl, q⟩)
        · exact .inr (.inl ⟨.inr q.1, q.2⟩)
        · exact .inr (.inr ⟨k', .inr q1, q2⟩)
      · rintro (q | (⟨q | q, q2⟩ | ⟨k', q1 | q1, q2⟩))
        · exact .inl (.inl (.inl q))
        · exact .inl (.inl (.inr ⟨q, by rw [q] at q2; exact q2⟩))
        · exact .inr (.inl ⟨q, q2⟩)
        · rw [q1] at q2
          exact .inl (.inr q2)
        · exact .inr (.inr ⟨k', q1, q2⟩)
    · rw [List.map_cons, List.sum_cons]
      omega
theorem cntW_filter (j : Nat) (R : Nat → List Nat) (W : Nat → Bool) : ∀ l : List Nat, cntW j (l.map R) (l.map W) = ((l.filter W).map fun i => (R i).count j).sum
  | [] => rfl
  | x :: l => by
    show (if W x = true then (R x).count j else 0) + cntW j (l.map R) (l.map W) = _
    rw [cntW_filter j R W l, List.filter_cons]
    split
    · rw [List.map_cons, List.sum_cons]
    · rw [Nat.zero_add]
theorem getD_range {A : Type} (l : List A) (d : A) : l = (List.range l.length).map fun i => l.getD i d := by
  apply List.ext_getElem?
  intro j
  by_cases hj : j < l.length
  · rw [List.getElem?_map, List.getElem?_range hj, List.getElem?_eq_getElem hj]
    simp only [Option.map_some]
    rw [List.getD_eq_getElem?_getD, List.getElem?_eq_getElem hj]
    rfl
  · rw [List.getElem?_eq_none (by omega), List.getElem?_eq_none (by simp; omega)]
theorem ext_bool {a b : List Bool} (n : Nat) (ha : a.length = n) (hb : b.length = n) (h : ∀ j, j < n → (a.getD j false = true ↔ b.getD j false = true)) : a = b := by
  apply List.ext_getElem?
  intro j
  by_cases hj : j < n
  · have q := h j hj
    rw [List.getD_eq_getElem?_getD, List.getD_eq_getElem?_getD, List.getElem?_eq_getElem (by omega), List.getElem?_eq_getElem (by omega)] at q
    rw [List.getElem?_eq_getElem (by omega), List.getElem?_eq_getElem (by omega)]
    congr 1
    exact Bool.eq_iff_iff.mpr q
  · rw [List.getElem?_eq_none (by omega), List.getElem?_eq_none (by omega)]
def lkept (P : List Li) (S : List (List Int)) (V : List Nat) : List Bool := (V.foldl (lvis P S) (List.replicate P.length false, List.replicate P.length 0)).1.set (P.length - 1) true
theorem set_last_get (f : List Bool) (n j : Nat) (hl : f.length = n) (hj : j < n) : (f.set (n - 1) true).getD j false = true ↔ (f.getD j false = true ∨ j = n - 1) := set_true_get f (n - 1) j (by omega)
theorem lkept_eq {G S : List (List Int)} {P : List Li} (g : Good G P S) (V : List Nat) (v1 : V.Nodup) (v2 : ∀ k, k ∈ V ↔ (wantF (P.map Li.refs)).getD k false = true) (v3 : ∀ k ∈ V, k < P.length) : lkept P S V = keptL P S := by
  have l0 := g.l0
  have R0 : 0 < (P.map Li.refs).length := by rw [List.length_map]; exact l0
  have wl : (wantF (P.map Li.refs)).length = P.length := by rw [wantF_len _ R0, List.length_map]
  have la := wantF_last (P.map Li.refs) R0
  rw [List.length_map] at la
  have rk : ∀ k, (P.map Li.refs).getD k [] = (P.getD k (.gv 0)).refs := fun k => by
    by_cases z : k < P.length
    · rw [List.getD_eq_getElem?_getD, List.getD_eq_getElem?_getD, List.getElem?_map, List.getElem?_eq_getElem z]
      rfl
    · rw [List.getD_eq_getElem?_getD, List.getD_eq_getElem?_getD, List.getElem?_map, List.getElem?_eq_none (by omega)]
      rfl
  have bel : ∀ k, ∀ x ∈ (P.getD k (.gv 0)).refs, x < k := fun k x hx => g.below k x (by rw [rk]; exact hx)
  have cl : ∀ k ∈ V, ∀ x ∈ (P.getD k (.gv 0)).refs, x ∈ V := fun k hk x hx => (v2 x).mpr (wantF_closed (P.map Li.refs) g.below k (by rw [List.length_map]; exact v3 k hk) ((v2 k).mp hk) x (by rw [rk]; exact hx))
  have ct : ∀ j, (V.map fun k => (P.getD k (.gv 0)).refs.count j).sum = cntW j (P.map Li.refs) (wantF (P.map Li.refs)) := fun j => by
    have e1 := getD_range (P.map Li.refs) []
    have e2 := getD_range (wantF (P.map Li.refs)) false
    rw [wl] at e2
    rw [List.length_map] at e1
    have c1 := cntW_filter j (fun i => (P.map Li.refs).getD i []) (fun i => (wantF (P.map Li.refs)).getD i false) (List.range P.length)
    rw [← e1, ← e2] at c1
    rw [c1]
    have pm : V.Perm ((List.range P.length).filter fun i => (wantF (P.map Li.refs)).getD i false) := (List.perm_ext_iff_of_nodup v1 (List.nodup_range.filter _)).mpr fun a => by
      rw [List.mem_filter, List.mem_range]
      exact ⟨fun q => ⟨v3 a q, (v2 a).mp q⟩, fun q => (v2 a).mpr q.2⟩
    have s := (pm.map fun k => (P.getD k (.gv 0)).refs.count j).sum_nat
    rw [s]
    congr 1
    apply List.map_congr_left
    intro i _
    rw [rk]
  have i0 : KInv P P.length (fun _ => False) (fun _ => 0) (List.replicate P.length false, List.replicate P.length 0) := ⟨by simp, by simp, fun j hj => by simp [hj], fun j hj => by simp [hj]⟩
  have i := lall_inv (S := S) V (fun k hk => ⟨v3 k hk, fun x hx => by have := bel k x hx; have := v3 k hk; omega⟩) i0
  have kl : (keptL P S).length = P.length := by
    unfold keptL
    simp [holdA_len, wl]
  refine ext_bool P.length (by unfold lkept; simp [i.l1]) kl fun j hj => ?_
  have ij := i.f j hj
  simp only [false_or, Nat.zero_add, ct] at ij
  unfold lkept
  rw [set_last_get _ _ j i.l1 hj, ij]
  have rb : ∀ k ∈ List.range P.length, ∀ x ∈ (P.getD k (.gv 0)).refs, x < ((List.range P.length).map (firstK P (bumps (P.map Li.refs) (wantF (P.map Li.refs)) (List.replicate P.length 0)))).length := fun k hk x hx => by
    have := bel k x hx
    have := List.mem_range.mp hk
    simp
    omega
  have hg := holdA_get P S (wantF (P.map Li.refs)) (List.range P.length) _ rb j
  have fk : ((List.range P.length).map (firstK P (bumps (P.map Li.refs) (wantF (P.map Li.refs)) (List.replicate P.length 0)))).getD j false = firstK P (bumps (P.map Li.refs) (wantF (P.map Li.refs)) (List.replicate P.length 0)) j := by
    rw [List.getD_eq_getElem?_getD, List.getElem?_map, List.getElem?_range hj]
    rfl
  have bg := bumps_get j (P.map Li.refs) (wantF (P.map Li.refs)) (List.replicate P.length 0) (by simpa using hj)
  have r0 : (List.replicate P.length (0 : Int)).getD j 0 = 0 := by simp [hj]
  rw [r0, Int.zero_add] at bg
  have fk2 : firstK P (bumps (P.map Li.refs) (wantF (P.map Li.refs)) (List.replicate P.length 0)) j = ((P.getD j (.gv 0)).always || (decide ((1 : Int) < (cntW j (P.map Li.refs) (wantF (P.map Li.refs)) : Nat)) && !(P.getD j (.gv 0)).even)) := by
    unfold firstK
    rw [bg]
  rw [fk, fk2] at hg
  have kz : (keptL P S).getD j false = (((holdA P S (wantF (P.map Li.refs)) (List.range P.length) ((List.range P.length).map (firstK P (bumps (P.map Li.refs) (wantF (P.map Li.refs)) (List.replicate P.length 0))))).set (P.length - 1) true).getD j false && (wantF (P.map Li.refs)).getD j false) := by
    unfold keptL
    have h1 : j < ((holdA P S (wantF (P.map Li.refs)) (List.range P.length) ((List.range P.length).map (firstK P (bumps (P.map Li.refs) (wantF (P.map Li.refs)) (List.replicate P.length 0))))).set (P.length - 1) true).length := by simp [holdA_len, hj]
    have h2 : j < (wantF (P.map Li.refs)).length := by omega
    rw [List.getD_eq_getElem?_getD, List.getElem?_zipWith, List.getElem?_eq_getElem h1, List.getElem?_eq_getElem h2, List.getD_eq_getElem?_getD, List.getD_eq_getElem?_getD, List.getElem?_eq_getElem h1, List.getElem?_eq_getElem h2]
    rfl
  rw [kz, Bool.and_eq_true, set_last_get _ _ j (by simp [holdA_len]) hj, hg]
  simp only [Bool.or_eq_true, Bool.and_eq_true, Bool.not_eq_true', decide_eq_true_eq]
  have hb : ∀ k, holdsB P S (wantF (P.map Li.refs)) k j = true ↔ k ∈ V ∧ lhold P S k j = true := fun k => by
    unfold holdsB lhold
    rw [Bool.and_eq_true, v2 k]
  have wj : ∀ q : (wantF (P.map Li.refs)).getD j false = true, j ∈ V := fun q => (v2 j).mpr q
  have cpos : 1 < cntW j (P.map Li.refs) (wantF (P.map Li.refs)) → j ∈ V := fun q => by
    rw [← ct j] at q
    by_cases z : ∃ k ∈ V, j ∈ (P.getD k (.gv 0)).refs
    · obtain ⟨k, hk, hj2⟩ := z
      exact cl k hk j hj2
    · have e0 : (V.map fun k => (P.getD k (.gv 0)).refs.count j) = V.map fun _ => 0 := List.map_congr_left fun k hk => List.count_eq_zero.mpr fun hh => z ⟨k, hk, hh⟩
      have s0 : ∀ l : List Nat, (l.map fun _ => 0).sum = 0 := fun l => by
        induction l with
        | nil => rfl
        | cons x l ih => rw [List.map_cons, List.sum_cons, ih]
      rw [e0, s0] at q
      omega
  constructor
  · rintro (((q | ⟨k, q1, q2, q3⟩) | ⟨q1, q2⟩) | q)
    · exact ⟨.inl (.inl (.inl q.2)), (v2 j).mp q.1⟩
    · exact ⟨.inl (.inr ⟨k, List.mem_range.mpr (v3 k q1), q2, (hb k).mpr ⟨q1, q3⟩⟩), (v2 j).mp (cl k q1 j q2)⟩
    · exact ⟨.inl (.inl (.inr ⟨by omega, q1⟩)), (v2 j).mp (cpos q2)⟩
    · exact ⟨.inr q, by rw [q]; exact la⟩
  · rintro ⟨((q | ⟨q1, q2⟩) | ⟨k, q1, q2, q3⟩) | q, w⟩
    · exact .inl (.inl (.inl ⟨wj w, q⟩))
    · exact .inl (.inr ⟨q2, by omega⟩)
    · exact .inl (.inl (.inr ⟨k, ((hb k).mp q3).1, q2, ((hb k).mp q3).2⟩))
    · exact .inr q

end LM

-- dropped: 
namespace LM
open PySem L2
/-! ### the law's own kept lines -/
theorem setif (A B C D E F : Slot) (t : En → M Bool) (c : Bool) (f : List Bool) (x : Nat) (hx : x < f.length) (h : HP) (ht : t [A, B, C, .own (bls f), D, E, F, .val (iN x)] h = .ok c h) :
    sIf t (sSetI 3 (eC (.bl true)) (eVar 7)) sNext [A, B, C, .own (bls f), D, E, F, .val (iN x)] h = .nx [A, B, C, .own (bls (if c = true then f.set x true else f)), D, E, F, .val (iN x)] h := by
  have pa := putAt_nat (bls f) (.bl true) x (by rw [bls_len]; exact hx)
  rw [bls_set] at pa
  unfold iN at *
  cases c with
  | true =>
    rw [if_pos rfl]
    generalize bls (f.set x true) = F2 at *
    simp [ht, ownAt, pa]
  | false =>
    rw [if_neg (by decide)]
    simp [ht]
theorem lkept_b1 (V : DV) {P : List Li} {S : List (List Int)} (hS : S.length = P.length) (h : HP) (k : Nat) (hk : k < P.length) (x : Nat) (hx : x < P.length) (s : List Bool × List Int) (h1 : s.1.length = P.length) (h2 : s.2.length = P.length) :
    turn (tName 7) m_law_kept_b1 [7] (iN x) [.val (.lst (P.map Li.dv)), .val (.lst (S.map tp)), .val V, .own (bls s.1), .own (nums s.2), .val (.int (k : Int)), .val (P.getD k (.gv 0)).dv, .none] h =
      .nx [.val (.lst (P.map Li.dv)), .val (.lst (S.map tp)), .val V, .own (bls (lstep P S k s x).1), .own (nums (lstep P S k s x).2), .val (.int (k : Int)), .val (P.getD k (.gv 0)).dv, .none] h := by
  have gx := sAtL hS x hx h
  have gk := sAtL hS k hk h
  have px := pAtL x hx h
  unfold lstep lhold
  simp only []
  have ne := vNe_tup h (S.getD x []) (S.getD k [])
  have g := getI_nat h (nums s.2) x (nums_at (by omega))
  have po := putAt_nat (nums s.2) (.int (s.2.getD x 0 + 1)) x (by rw [nums_len]; omega)
  rw [nums_set] at po
  have g2 := getI_nat h (nums (s.2.set x (s.2.getD x 0 + 1))) x (nums_at (by rw [List.length_set]; omega))
  rw [getD_set_eq _ _ _ _ (by omega)] at g2
  generalize P.getD k (.gv 0) = li at *
  generalize P.getD x (.gv 0) = lx at *
  obtain ⟨r, e⟩ := dv_kd li
  obtain ⟨rx, ex⟩ := dv_kd lx
  have im := in_meetsL li h
  have q1 : vEq (.str (Str.ofString li.kd)) (.str (Str.ofString "shape")) h = _ := vEq_w h li.kd "shape" (kd_w li) isW_shape
  have q2 : vEq (.str (Str.ofString li.kd)) (.str (Str.ofString "pick")) h = _ := vEq_w h li.kd "pick" (kd_w li) isW_pick
  have nx : vNe (.str (Str.ofString lx.kd)) (.str (Str.ofString "even")) h = _ := vNe_w h lx.kd "even" (kd_w lx) isW_even
  rw [ex] at px
  rw [e]
  unfold Li.even Li.holds
  generalize s.2.set x (s.2.getD x 0 + 1) = o2 at *
  generalize s.2.getD x 0 = o at *
  generalize li.meets = me at *
  generalize S.getD x [] = sx at *
  generalize S.getD k [] = sk at *
  generalize hsd : decide (sx = sk) = sd at *
  generalize hse : decide (lx.kd = "even") = se at *
  generalize hs1 : decide (li.kd = "shape") = z1 at *
  generalize hs2 : decide (li.kd = "pick") = z2 at *
  generalize S.map tp = SD at *
  generalize P.map Li.dv = PD at *
  generalize nums s.2 = O1 at *
  generalize nums o2 = O2 at *
  have e1 : m_law_kept_b1 = sSeq (sSetI 4 (LM.e2 vAdd (LM.e2 vIdx (eBor 4) (eVar 7)) (eC (.int 1))) (eVar 7)) (sSeq (sIf (tOr (tb (LM.e2 vEq (LM.e2 vIdx (eVar 6) (eC (.int 0))) (eC (.str (Str.ofString "shape"))))) (tb (LM.e2 vEq (LM.e2 vIdx (eVar 6) (eC (.int 0))) (eC (.str (Str.ofString "pick")))))) (sSetI 3 (eC (.bl true)) (eVar 7)) sNext) (sSeq (sIf (tAnd (tb (LM.e2 vNe (LM.e2 vIdx (LM.e2 vIdx (eVar 0) (eVar 7)) (eC (.int 0))) (eC (.str (Str.ofString "even"))))) (tb (LM.e2 vGt (LM.e2 vIdx (eBor 4) (eVar 7)) (eC (.int 1))))) (sSetI 3 (eC (.bl true)) (eVar 7)) sNext) (sIf (tAnd (tb (LM.e2 vNe (LM.e2 vIdx (LM.e2 vIdx (eVar 0) (eVar 7)) (eC (.int 0))) (eC (.str (Str.ofString "even"))))) (tAnd (tb (LM.e2 (vIn false) (LM.e2 vIdx (eVar 6) (eC (.int 0))) (eFrz (aCons (eC (.str (Str.ofString "spread"))) (aCons (eC (.str (Str.ofString "both"))) (aCons (eC (.str (Str.ofString "where"))) aNil)))))) (tb (LM.e2 vNe (LM.e2 vIdx (eVar 1) (eVar 7)) (LM.e2 vIdx (eVar 1) (eVar 5)))))) (sSetI 3 (eC (.bl true)) (eVar 7)) sNext))) := rfl
  have st1 : sSetI 4 (LM.e2 vAdd (LM.e2 vIdx (eBor 4) (eVar 7)) (eC (.int 1))) (eVar 7) [.val (.lst PD), .val (.lst SD), .val V, .own (bls s.1), .own O1, .val (.int (k : Int)), .val (.tup (sx0 li.kd :: r)), .val (iN x)] h = .nx [.val (.lst PD), .val (.lst SD), .val V, .own (bls s.1), .own O2, .val (.int (k : Int)), .val (.tup (sx0 li.kd :: r)), .val (iN x)] h := by
    generalize bls s.1 = F1 at *
    simp [iN, ownAt, g, po]
  have hx1 : x < s.1.length := by omega
  generalize s.1 = f0 at *
  have st2 := setif (.val (.lst PD)) (.val (.lst SD)) (.val V) (.own O2) (.val (.int (k : Int))) (.val (.tup (sx0 li.kd :: r))) (tOr (tb (LM.e2 vEq (LM.e2 vIdx (eVar 6) (eC (.int 0))) (eC (.str (Str.ofString "shape"))))) (tb (LM.e2 vEq (LM.e2 vIdx (eVar 6) (eC (.int 0))) (eC (.str (Str.ofString "pick")))))) (z1 || z2) f0 x hx1 h (by
    generalize bls f0 = F1 at *
    generalize li.kd = kd at *
    cases z1 <;> simp [getI0, q1, q2])
  have f1l : x < (if (z1 || z2) = true then f0.set x true else f0).length := by split <;> simp [hx1]
  have f1e := congrArg (fun l => l) (rfl : (if (z1 || z2) = true then f0.set x true else f0) = _)
  generalize hf1 : (if (z1 || z2) = true then f0.set x true else f0) = f1 at *
  have st3 := setif (.val (.lst PD)) (.val (.lst SD)) (.val V) (.own O2) (.val (.int (k : Int))) (.val (.tup (sx0 li.kd :: r))) (tAnd (tb (LM.e2 vNe (LM.e2 vIdx (LM.e2 vIdx (eVar 0) (eVar 7)) (eC (.int 0))) (eC (.str (Str.ofString "even"))))) (tb (LM.e2 vGt (LM.e2 vIdx (eBor 4) (eVar 7)) (eC (.int 1))))) (!se && decide (1 < o + 1)) f1 x f1l h (by
    generalize bls f1 = F1 at *
    generalize li.kd = kd at *
    generalize lx.kd = kx at *
    by_cases y : 1 < o + 1
    · cases se <;> simp [getI0, iN, px, nx, g2, y]
    · cases se <;> simp [getI0, iN, px, nx, g2, y])
  have f2l : x < (if (!se && decide (1 < o + 1)) = true then f1.set x true else f1).length := by split <;> simp [f1l]
  generalize hf2 : (if (!se && decide (1 < o + 1)) = true then f1.set x true else f1) = f2 at *
  have st4 := setif (.val (.lst PD)) (.val (.lst SD)) (.val V) (.own O2) (.val (.int (k : Int))) (.val (.tup (sx0 li.kd :: r))) (tAnd (tb (LM.e2 vNe (LM.e2 vIdx (LM.e2 vIdx (eVar 0) (eVar 7)) (eC (.int 0))) (eC (.str (Str.ofString "even"))))) (tAnd (tb (LM.e2 (vIn false) (LM.e2 vIdx (eVar 6) (eC (.int 0))) (eFrz (aCons (eC (.str (Str.ofString "spread"))) (aCons (eC (.str (Str.ofString "both"))) (aCons (eC (.str (Str.ofString "where"))) aNil)))))) (tb (LM.e2 vNe (LM.e2 vIdx (eVar 1) (eVar 7)) (LM.e2 vIdx (eVar 1) (eVar 5)))))) (!se && (me && !sd)) f2 x f2l h (by
    generalize bls f2 = F1 at *
    generalize li.kd = kd at *
    generalize lx.kd = kx at *
    cases se <;> cases me <;> simp [getI0, iN, px, nx, im, gx, gk, ne])
  have fin : (if (!se && (me && !sd)) = true then f2.set x true else f2) = if (z1 || z2 || (me && (!sd && !se)) || (!se && decide (1 < o + 1))) = true then f0.set x true else f0 := by
    rw [← hf2, ← hf1]
    generalize decide (1 < o + 1) = y
    cases z1 <;> cases z2 <;> cases se <;> cases me <;> cases sd <;> cases y <;> simp
  rw [fin] at st4
  generalize bls (if (z1 || z2 || (me && (!sd && !se)) || (!se && decide (1 < o + 1))) = true then f0.set x true else f0) = F9 at *
  rw [e1]
  generalize sSetI 4 (LM.e2 vAdd (LM.e2 vIdx (eBor 4) (eVar 7)) (eC (.int 1))) (eVar 7) = s1 at *
  generalize sIf (tOr (tb (LM.e2 vEq (LM.e2 vIdx (eVar 6) (eC (.int 0))) (eC (.str (Str.ofString "shape"))))) (tb (LM.e2 vEq (LM.e2 vIdx (eVar 6) (eC (.int 0))) (eC (.str (Str.ofString "pick")))))) (sSetI 3 (eC (.bl true)) (eVar 7)) sNext = s2 at *
  generalize sIf (tAnd (tb (LM.e2 vNe (LM.e2 vIdx (LM.e2 vIdx (eVar 0) (eVar 7)) (eC (.int 0))) (eC (.str (Str.ofString "even"))))) (tb (LM.e2 vGt (LM.e2 vIdx (eBor 4) (eVar 7)) (eC (.int 1))))) (sSetI 3 (eC (.bl true)) (eVar 7)) sNext = s3 at *
  generalize sIf (tAnd (tb (LM.e2 vNe (LM.e2 vIdx (LM.e2 vIdx (eVar 0) (eVar 7)) (eC (.int 0))) (eC (.str (Str.ofString "even"))))) (tAnd (tb (LM.e2 (vIn false) (LM.e2 vIdx (eVar 6) (eC (.int 0))) (eFrz (aCons (eC (.str (Str.ofString "spread"))) (aCons (eC (.str (Str.ofString "both"))) (aCons (eC (.str (Str.ofString "where"))) aNil)))))) (tb (LM.e2 vNe (LM.e2 vIdx (eVar 1) (eVar 7)) (LM.e2 vIdx (eVar 1) (eVar 5)))))) (sSetI 3 (eC (.bl true)) (eVar 7)) sNext = s4 at *
  simp [st1, st2, st3, st4]
theorem lstep_len (P : List Li) (S : List (List Int)) (k : Nat) (s : List Bool × List Int) (x : Nat) : (lstep P S k s x).1.length = s.1.length ∧ (lstep P S k s x).2.length = s.2.length := by
  unfold lstep
  simp only []
  refine ⟨?_, by simp⟩
  split <;> simp
theorem lsteps_len (P : List Li) (S : List (List Int)) (k : Nat) : ∀ (r : List Nat) (s : List Bool × List Int), (r.foldl (lstep P S k) s).1.length = s.1.length ∧ (r.foldl (lstep P S k) s).2.length = s.2.length
  | [], s => ⟨rfl, rfl⟩
  | x :: r, s => by
    obtain ⟨a, b⟩ := lsteps_len P S k r (lstep P S k s x)
    obtain ⟨c, d⟩ := lstep_len P S k s x
    exact ⟨by rw [List.foldl_cons, a, c], by rw [List.foldl_cons, b, d]⟩
theorem lkept_b1L (V : DV) {P : List Li} {S : List (List Int)} (hS : S.length = P.length) (h : HP) (k : Nat) (hk : k < P.length) : ∀ (r : List Nat) (s : List Bool × List Int), (∀ x ∈ r, x < P.length) → s.1.length = P.length → s.2.length = P.length →
    forL (tName 7) m_law_kept_b1 [7] (r.map iN) [.val (.lst (P.map Li.dv)), .val (.lst (S.map tp)), .val V, .own (bls s.1), .own (nums s.2), .val (.int (k : Int)), .val (P.getD k (.gv 0)).dv, .none] h =
      .nx [.val (.lst (P.map Li.dv)), .val (.lst (S.map tp)), .val V, .own (bls (r.foldl (lstep P S k) s).1), .own (nums (r.foldl (lstep P S k) s).2), .val (.int (k : Int)), .val (P.getD k (.gv 0)).dv, .none] h
  | [], s, _, _, _ => rfl
  | x :: r, s, hr, h1, h2 => by
    obtain ⟨c, d⟩ := lstep_len P S k s x
    rw [List.map_cons, forL_cons, lkept_b1 V hS h k hk x (hr x List.mem_cons_self) s h1 h2, lR_nx, lkept_b1L V hS h k hk r _ (fun y hy => hr y (List.mem_cons_of_mem _ hy)) (by rw [c, h1]) (by rw [d, h2])]
    rfl
theorem lkept_b2 (V : DV) {P : List Li} {S : List (List Int)} (hS : S.length = P.length) (h : HP) (hP : ∀ li ∈ P, ∀ x ∈ li.refs, x < P.length) (k : Nat) (hk : k < P.length) (s : List Bool × List Int) (h1 : s.1.length = P.length) (h2 : s.2.length = P.length) :
    turn (tName 5) m_law_kept_b2 [5, 6, 7] (iN k) [.val (.lst (P.map Li.dv)), .val (.lst (S.map tp)), .val V, .own (bls s.1), .own (nums s.2), .none, .none, .none] h =
      .nx [.val (.lst (P.map Li.dv)), .val (.lst (S.map tp)), .val V, .own (bls (lvis P S s k).1), .own (nums (lvis P S s k).2), .none, .none, .none] h := by
  have pk := pAtL k hk h
  have rr := f_law_reads_is (P.getD k (.gv 0)) h
  have mem : P.getD k (.gv 0) ∈ P := by
    rw [List.getD_eq_getElem?_getD, List.getElem?_eq_getElem hk]
    exact List.getElem_mem hk
  have lp := lkept_b1L V hS h k hk (P.getD k (.gv 0)).refs (s.1.set k (s.1.getD k false || (P.getD k (.gv 0)).always), s.2) (hP _ mem) (by simp [h1]) h2
  have ia := in_alwaysL (P.getD k (.gv 0)) h
  unfold lvis
  have gk := bls_at h s.1 k (by omega)
  have pa := putAt_nat (bls s.1) (.bl (s.1.getD k false || (P.getD k (.gv 0)).always)) k (by rw [bls_len]; omega)
  rw [bls_set] at pa
  simp only [] at lp
  generalize (P.getD k (.gv 0)).refs.foldl (lstep P S k) (s.1.set k (s.1.getD k false || (P.getD k (.gv 0)).always), s.2) = s9 at *
  generalize P.getD k (.gv 0) = li at *
  obtain ⟨r, e⟩ := dv_kd li
  rw [e] at pk rr lp
  generalize li.refs.map iN = rs at *
  generalize S.map tp = SD at *
  generalize P.map Li.dv = PD at *
  generalize s.1.getD k false = fk at *
  generalize li.always = al at *
  generalize bls (s.1.set k (fk || al)) = F2 at *
  generalize bls s.1 = F1 at *
  generalize nums s.2 = O1 at *
  generalize li.kd = kd at *
  have e1 : m_law_kept_b2 = sSeq (sSet 6 (LM.e2 vIdx (eVar 0) (eVar 5))) (sSeq (sSetI 3 (eOr (LM.e2 vIdx (eBor 3) (eVar 5)) (LM.e2 (vIn false) (LM.e2 vIdx (eVar 6) (eC (.int 0))) (eFrz (aCons (eC (.str (Str.ofString "given"))) (aCons (eC (.str (Str.ofString "fold"))) (aCons (eC (.str (Str.ofString "run"))) (aCons (eC (.str (Str.ofString "pick"))) aNil))))))) (eVar 5)) (sFor (iB (eCall f_law_reads (aCons (eVar 6) aNil)) itS) (tName 7) [7] m_law_kept_b1)) := rfl
  cases fk with
  | true =>
    rw [Bool.true_or] at pa
    simp [e1, iN, ownAt, pk, gk, pa, rr, lp]
  | false =>
    rw [Bool.false_or] at pa
    simp [e1, iN, ownAt, pk, gk, pa, rr, lp, ia, getI0]
theorem lkept_loop (VD : DV) {P : List Li} {S : List (List Int)} (hS : S.length = P.length) (h : HP) (hP : ∀ li ∈ P, ∀ x ∈ li.refs, x < P.length) : ∀ (V : List Nat) (s : List Bool × List Int), (∀ x ∈ V, x < P.length) → s.1.length = P.length → s.2.length = P.length →
    forL (tName 5) m_law_kept_b2 [5, 6, 7] (V.map iN) [.val (.lst (P.map Li.dv)), .val (.lst (S.map tp)), .val VD, .own (bls s.1), .own (nums s.2), .none, .none, .none] h =
      .nx [.val (.lst (P.map Li.dv)), .val (.lst (S.map tp)), .val VD, .own (bls (V.foldl (lvis P S) s).1), .own (nums (V.foldl (lvis P S) s).2), .none, .none, .none] h
  | [], s, _, _, _ => rfl
  | k :: V, s, hV, h1, h2 => by
    obtain ⟨c, d⟩ := lsteps_len P S k (P.getD k (.gv 0)).refs (s.1.set k (s.1.getD k false || (P.getD k (.gv 0)).always), s.2)
    rw [List.map_cons, forL_cons, lkept_b2 VD hS h hP k (hV k List.mem_cons_self) s h1 h2, lR_nx, lkept_loop VD hS h hP V _ (fun y hy => hV y (List.mem_cons_of_mem _ hy)) (by unfold lvis; rw [c]; simp [h1]) (by unfold lvis; rw [d]; exact h2)]
    rfl
theorem putAt_lastB (f : List Bool) (n : Nat) (hl : f.length = n) (l0 : 0 < n) : putAt (bls f) (.bl true) (.int (-1)) = some (bls (f.set (n - 1) true)) := by
  obtain ⟨a, b, e⟩ : ∃ a b, f = a ++ [b] := by
    have lt : n - 1 < f.length := by omega
    have e := List.take_append_getElem lt
    rw [show n - 1 + 1 = f.length by omega, List.take_length] at e
    exact ⟨_, _, e.symm⟩
  have al : a.length = n - 1 := by rw [e] at hl; simp at hl; omega
  rw [e, ← al]
  have e1 : bls (a ++ [b]) = bls a ++ [.bl b] := by simp [bls]
  have e2 : (a ++ [b]).set a.length true = a ++ [true] := by
    rw [List.set_append_right _ _ (Nat.le_refl _), Nat.sub_self]
    rfl
  rw [e1, putAt_last, e2]
  simp [bls]
theorem bls_rep (n : Nat) : bls (List.replicate n false) = List.replicate n (.bl false) := by simp [bls]
section
variable {G S : List (List Int)} {P : List Li}
theorem Good.bel (g : Good G P S) : ∀ li ∈ P, ∀ x ∈ li.refs, x < P.length := fun li hli x hx => by
  obtain ⟨k, hk, e⟩ := List.mem_iff_getElem.mp hli
  have b := g.below k x (by
    rw [List.getD_eq_getElem?_getD, List.getElem?_map, List.getElem?_eq_getElem hk, e]
    exact hx)
  omega
theorem f_law_kept_is (g : Good G P S) (h : HP) : f_law_kept [.lst (P.map Li.dv), .lst (S.map tp)] h = .ok (.lst (bls (keptL P S))) (h ++ [.lst []]) := by
  obtain ⟨V, w, v1, v2, v3⟩ := f_law_wanted_is g h
  have l0 := g.l0
  have l1 := g.l1
  rw [← lkept_eq g V v1 v2 v3]
  have lp := lkept_loop (.lst (V.map iN)) g.len (h ++ [.lst []]) g.bel V (List.replicate P.length false, List.replicate P.length 0) v3 (by simp) (by simp)
  have i0 : KInv P P.length (fun _ => False) (fun _ => 0) (List.replicate P.length false, List.replicate P.length 0) := ⟨by simp, by simp, fun j hj => by simp [hj], fun j hj => by simp [hj]⟩
  have i := lall_inv (S := S) V (fun k hk => ⟨v3 k hk, fun x hx => by
    have mem : P.getD k (.gv 0) ∈ P := by
      rw [List.getD_eq_getElem?_getD, List.getElem?_eq_getElem (v3 k hk)]
      exact List.getElem_mem (v3 k hk)
    exact g.bel _ mem x hx⟩) i0
  have pa := putAt_lastB _ P.length i.l1 l0
  unfold lkept
  simp only [bls_rep] at lp
  have lm := lMul_one (.int 0) P.length (by omega) (h ++ [.lst []])
  have lmb := lMul_one (.bl false) P.length (by omega) (h ++ [.lst []])
  rw [nums_rep] at lm
  have pl : (P.map Li.dv).length = P.length := List.length_map _
  generalize V.foldl (lvis P S) (List.replicate P.length false, List.replicate P.length 0) = s9 at *
  generalize bls (s9.1.set (P.length - 1) true) = F9 at *
  generalize nums (List.replicate P.length 0) = r0 at *
  generalize List.replicate P.length (DV.bl false) = b0 at *
  generalize nums s9.2 = o9 at *
  generalize bls s9.1 = f9 at *
  unfold f_law_kept
  rw [fnM_app]
  generalize S.map tp = SD at *
  generalize P.map Li.dv = PD at *
  generalize V.map iN = VD at *
  simp [m_law_kept, List.replicate, w, pl, lm, lmb, lp, ownAt, pa]
theorem f_kept_is (g : Good G P S) (h : HP) : f_kept_lines [.lst (P.map Li.dv), .lst (S.map tp)] h = .ok (.ref h.length) (h ++ [.lst (bls (keptL P S))]) := by
  have l0 := g.l0
  have l1 := g.l1
  obtain ⟨D, e⟩ := f_kept_pre g.len l0 (by omega) g.reads g.bel h
  unfold f_kept_lines
  rw [fnM_app]
  show fR (m_kept_lines [.val (.lst (P.map Li.dv)), .val (.lst (S.map tp)), .none, .none, .none, .none, .none, .none, .none, .none] h) = _
  rw [e]
  have c := kept_c1 (.val (.lst (P.map Li.dv))) (.val (.lst (S.map tp))) D ((holdA P S (wantF (P.map Li.refs)) (List.range P.length) ((List.range P.length).map (firstK P (bumps (P.map Li.refs) (wantF (P.map Li.refs)) (List.replicate P.length 0))))).set (P.length - 1) true) (wantF (P.map Li.refs)) (by simp [holdA_len]; omega) h
  unfold keptL
  generalize (holdA P S (wantF (P.map Li.refs)) (List.range P.length) ((List.range P.length).map (firstK P (bumps (P.map Li.refs) (wantF (P.map Li.refs)) (List.replicate P.length 0))))).set (P.length - 1) true = f9 at *
  generalize bls (List.zipWith (fun a b => a && b) f9 (wantF (P.map Li.refs))) = K at *
  generalize bls f9 = F9 at *
  generalize bls (wantF (P.map Li.refs)) = WD at *
  generalize S.map tp = SD at *
  generalize P.map Li.dv = PD at *
  simp [m_kept_lines_r6, c]
end
/-! ### two lists of truths -/
theorem okd_bls (A : List Bool) : okd 1 (.lst (bls A)) := okd_lst (n := 0) fun d hd => by
  obtain ⟨b, _, e⟩ := List.mem_map.mp hd
  rw [← e]
  exact okd_bl b
theorem truths_core (o : DV) (A : List Bool) (h : HP) (q1 : vIsI .list o h = .ok (.bl true) h) (q2 : vLen o h = .ok (.int A.length) h) (q3 : asL h o = some (bls A)) (q4 : dr h o = .lst (bls A)) : f_law_truths [o, .lst (bls A)] h = .ok (.bl true) h := by
  unfold f_law_truths
  rw [fnM_app]
  have t : ∀ (AD : Slot) (b : Bool), turn (tName 2) m_law_truths_b1 [2] (.bl b) [.val o, AD, .none] h = .nx [.val o, AD, .none] h := fun AD b => by
    have z : vIsI .bool (.bl b) h = .ok (.bl true) h := rfl
    simp [m_law_truths_b1, z]
  have lpA : ∀ (AD : Slot) (B : List Bool), forL (tName 2) m_law_truths_b1 [2] (bls B) [.val o, AD, .none] h = .nx [.val o, AD, .none] h := fun AD B => by
    induction B with
    | nil => rfl
    | cons b B ih =>
      show forL _ _ _ (.bl b :: bls B) _ h = _
      rw [forL_cons, t, lR_nx]
      exact ih
  have lp : forX false (tName 2) m_law_truths_b1 [2] o (lenX h o) 0 [.val o, .val (.lst (bls A)), .none] h = .nx [.val o, .val (.lst (bls A)), .none] h := by
    have ll : lenX h o = (bls A).length := by unfold lenX; rw [q3]
    rw [ll, forX_inv (l := bls A) (fun e h' => h' = h ∧ e = [.val o, .val (.lst (bls A)), .none]) (fun e h' q => by rw [q.1]; exact q3) (fun d e h' hd q e' h2 z => ?_) _ _ ⟨rfl, rfl⟩]
    · exact lpA _ A
    · obtain ⟨b, _, e3⟩ := List.mem_map.mp hd
      obtain ⟨u1, u2⟩ := q
      subst u1
      subst u2
      rw [← e3, t] at z
      injection z with z1 z2
      exact ⟨z2.symm, z1.symm⟩
  have se := eqD_self (okd_ok (okd_mono (okd_bls A) (by decide)))
  have ve : vEq (.lst (bls A)) (.lst (bls A)) h = .ok (.bl true) h := by
    unfold vEq
    rw [se]
    rfl
  have bl : (bls A).length = A.length := bls_len A
  generalize bls A = AD at *
  simp [m_law_truths, List.replicate, q1, q2, bl, lp, q4, ve]
/-! ### the law -/
theorem truths_ref (p : Nat) (A : List Bool) (h : HP) (e : h[p]? = some (.lst (bls A))) : f_law_truths [.ref p, .lst (bls A)] h = .ok (.bl true) h := by
  have a := asL_ref e
  refine truths_core (.ref p) A h ?_ ?_ a (dr_ref e)
  · have t : tyD h (.ref p) = some .list := by
      show (match h[p]? with
        | some (.lst _) => some Ty.list
        | _ => _) = _
      rw [e]
    unfold vIsI
    rw [t]
    rfl
  · rw [← bls_len A]
    show (match asS h (.ref p) with
      | some l => Res.ok (DV.int l.length) h
      | none => .bad) = _
    have a2 : asS h (.ref p) = some (bls A) := a
    rw [a2]
theorem truths_lst (A : List Bool) (h : HP) : f_law_truths [.lst (bls A), .lst (bls A)] h = .ok (.bl true) h :=
  truths_core (.lst (bls A)) A h rfl (by rw [← bls_len A]; rfl) rfl rfl
theorem law_good (ns : List Int) (hl : ns.length ≤ 63) (hbt : ∀ k ∈ ns, Builtin.Int.intBits k ≤ 1048576) : ∃ h', f_law [.scr ns] [] = .ok (.bl true) h' := by
  unfold f_law
  rw [fnM_app]
  obtain ⟨G, P, S, n, h1, dp, r1, e1⟩ := f_law_program_is ns [] rfl [HObj.lst [.scr ns, .int 0]] ⟨0, rfl⟩
  have g := dp.good
  obtain ⟨kk, r1⟩ := r1
  have l1 : h1.length = 1 := by rw [r1]; rfl
  obtain ⟨V, w, v1, v2, v3⟩ := f_law_wanted_is g h1
  have l0 := g.l0
  have l4 := g.l1
  have R0 : 0 < (P.map Li.refs).length := by rw [List.length_map]; exact l0
  have wl : (wantF (P.map Li.refs)).length = P.length := by rw [wantF_len _ R0, List.length_map]
  have c1 : ∀ (A B C : Slot) (h : HP), m_law_c1 [A, B, .val (.lst (P.map Li.dv)), C, .val (.lst (V.map iN)), .none, .none, .none, .none] h = .ok (bls (wantF (P.map Li.refs))) h := fun A B C h => by
    unfold m_law_c1
    have pl : (P.map Li.dv).length = P.length := List.length_map _
    have it := itN_nat h P.length (by omega)
    have vi := fun x => (vIn_iN V x h).1
    rw [mLc_ints (A := Nat) (l := List.range P.length) (fun k => iN k) (fun k => .bl (decide (k ∈ V))) ?_ (by simp; omega) fun k hk => ⟨_, rfl, ?_⟩]
    · congr 1
      have e2 := getD_range (wantF (P.map Li.refs)) false
      rw [wl] at e2
      conv => rhs; rw [e2]
      unfold bls
      rw [List.map_map]
      apply List.map_congr_left
      intro k _
      show DV.bl (decide (k ∈ V)) = DV.bl ((wantF (P.map Li.refs)).getD k false)
      congr 1
      have q := v2 k
      cases z : (wantF (P.map Li.refs)).getD k false with
      | true => exact decide_eq_true (q.mpr z)
      | false => exact decide_eq_false fun u => by rw [q.mp u] at z; cases z
    · generalize P.map Li.dv = PD at *
      simp [pl, it, iN]
      rfl
    · have v := vi k
      generalize V.map iN = VD at *
      simp [v]
  have wa := fun h => f_wanted_is (P.map Li.dv) (P.map Li.refs) g.reads (by rw [List.length_map]; exact l0) (by rw [List.length_map]; omega) h
  have tl := fun h => truths_lst (wantF (P.map Li.refs)) h
  have ks := fun h => f_kept_is g h
  have lk := fun h => f_law_kept_is g h
  have kl : (keptL P S).length = P.length := by
    unfold keptL
    simp [holdA_len, wl]
  have nP := fun h => vNe_self h g.okD
  have nS := fun h => vNe_self h (d := .lst (S.map tp)) (okd_ok (okd_mono (okd_lst (n := 1) fun d hd => by
    obtain ⟨s, _, e⟩ := List.mem_map.mp hd
    rw [← e]
    exact okd_tup (n := 0) (okd_nums s)) (by decide)))
  have tr1 := truths_ref 2 (keptL P S)
  obtain ⟨b, K, ek⟩ : ∃ b K, keptL P S = b :: K := by
    cases z : keptL P S with
    | nil => rw [z] at kl; simp at kl; omega
    | cons b K => exact ⟨b, K, rfl⟩
  have tr := truths_ref
  subst r1
  have w : f_law_wanted [.lst (P.map Li.dv)] [.lst [.scr ns, .int (kk : Int)]] = .ok (.lst (V.map iN)) [.lst [.scr ns, .int (kk : Int)], .lst []] := w
  have ks1 : f_kept_lines [.lst (P.map Li.dv), .lst (S.map tp)] [.lst [.scr ns, .int (kk : Int)], .lst []] = .ok (.ref 2) [.lst [.scr ns, .int (kk : Int)], .lst [], .lst (bls (keptL P S))] := ks _
  have lk1 : f_law_kept [.lst (P.map Li.dv), .lst (S.map tp)] [.lst [.scr ns, .int (kk : Int)], .lst [], .lst (bls (keptL P S))] = .ok (.lst (bls (keptL P S))) [.lst [.scr ns, .int (kk : Int)], .lst [], .lst (bls (keptL P S)), .lst []] := lk _
  have t1 := truths_ref 2 (keptL P S) [.lst [.scr ns, .int (kk : Int)], .lst [], .lst (bls (keptL P S)), .lst []] rfl
  have ks2 : f_kept_lines [.lst (P.map Li.dv), .lst (S.map tp)] [.lst [.scr ns, .int (kk : Int)], .lst [], .lst (bls ((!b) :: K)), .lst []] = .ok (.ref 4) [.lst [.scr ns, .int (kk : Int)], .lst [], .lst (bls ((!b) :: K)), .lst [], .lst (bls (keptL P S))] := ks _
  have t2 := truths_ref 4 (keptL P S) [.lst [.scr ns, .int (kk : Int)], .lst [], .lst (bls ((!b) :: K)), .lst [], .lst (bls (keptL P S))] rfl
  have hs : hSet [.lst [.scr ns, .int (kk : Int)], .lst [], .lst (bls (keptL P S)), .lst []] (.ref 2) (.int 0) (.bl (!b)) = some [.lst [.scr ns, .int (kk : Int)], .lst [], .lst (bls ((!b) :: K)), .lst []] := by
    rw [ek]
    have pa : putAt (bls (b :: K)) (.bl (!b)) (.int 0) = some (bls ((!b) :: K)) := by
      have q := putAt_nat (bls (b :: K)) (.bl (!b)) 0 (by rw [bls_len]; simp)
      rw [bls_set] at q
      exact q
    show (match putAt (bls (b :: K)) (.bl (!b)) (.int 0) with
      | some l2 => some _
      | none => none) = _
    rw [pa]
    rfl
  have gi : vIdx (.ref 2) (.int 0) [.lst [.scr ns, .int (kk : Int)], .lst [], .lst (bls (keptL P S)), .lst []] = .ok (.bl b) [.lst [.scr ns, .int (kk : Int)], .lst [], .lst (bls (keptL P S)), .lst []] := by
    rw [vIdx_ref 2 0 _ (bls (keptL P S)) rfl, ek]
    exact getI0 ..
  have cc := c1 (.val (.scr ns)) (.val (.tup [.lst (P.map Li.dv), .lst (S.map tp), .int (n : Int), .lst (G.map tp)])) (.val (.lst (S.map tp))) [.lst [.scr ns, .int (kk : Int)], .lst []]
  generalize bls (wantF (P.map Li.refs)) = WD at *
  generalize bls (keptL P S) = KD at *
  generalize bls ((!b) :: K) = KD2 at *
  generalize V.map iN = VD at *
  generalize S.map tp = SD at *
  generalize P.map Li.dv = PD at *
  generalize G.map tp = GD at *
  simp only [List.length_cons, List.length_nil, List.replicate, List.map_cons, List.map_nil, List.cons_append, List.nil_append]
  have k5 : m_law [.val (.scr ns), .none, .none, .none, .none, .none, .none, .none, .none] [] = m_law_r5 [.val (.scr ns), .val (.tup [.lst PD, .lst SD, .int (n : Int), .lst GD]), .val (.lst PD), .val (.lst SD), .val (.lst VD), .val (.lst WD), .none, .none, .none] [.lst [.scr ns, .int (kk : Int)], .lst []] := by
    simp [m_law, m_law_r1, m_law_r2, m_law_r3, m_law_r4, e1, getI0, getI1, w, cc]
  have k9 : m_law_r5 [.val (.scr ns), .val (.tup [.lst PD, .lst SD, .int (n : Int), .lst GD]), .val (.lst PD), .val (.lst SD), .val (.lst VD), .val (.lst WD), .none, .none, .none] [.lst [.scr ns, .int (kk : Int)], .lst []] = m_law_r9 [.val (.scr ns), .val (.tup [.lst PD, .lst SD, .int (n : Int), .lst GD]), .val (.lst PD), .val (.lst SD), .val (.lst VD), .val (.lst WD), .val (.ref 2), .val (.lst KD), .none] [.lst [.scr ns, .int (kk : Int)], .lst [], .lst KD, .lst []] := by
    simp [m_law_r5, m_law_r6, m_law_r7, m_law_r8, wa, tl, ks1, lk1, t1, nP, nS, getI0, getI1]
  refine ⟨[.lst [.scr ns, .int (kk : Int)], .lst [], .lst KD2, .lst [], .lst KD], ?_⟩
  refine (congrArg fR (k5.trans k9)).trans ?_
  simp [m_law_r9, m_law_r10, gi, hs, ks2, t2, wa, tl]

end LM

namespace LM
open PySem L2
def glu (K : PySem.W.Frag) : Glue := ⟨K, fun i => He.ga K (fnames.getD i Str.empty), fun i => cAd K i, cfl⟩
def tp_ (w : World) (K : PySem.W.Frag) (mg : Str → Option Value) (base : Heap) : Tp := ⟨PySem.Challenge.rw_loomarrays_k16_wanted_and_kept.prog, w, mg, base, glu K⟩
section
variable {w : World} {K : PySem.W.Frag} {h base : Heap} {mg : Str → Option Value}
theorem blt_ (X : K.In h) (G : h.Ns mainGlobals mg) (c : SaysL fa_ fns_ ts_ ck_ w K) : Blt mg := ⟨He.free_ok X G (c.d.fact 17 (f := .free "len") rfl), He.free_ok X G (c.d.fact 18 (f := .free "range") rfl), He.free_ok X G (c.d.fact 19 (f := .free "tuple") rfl), He.free_ok X G (c.d.fact 20 (f := .free "list") rfl), He.free_ok X G (c.d.fact 21 (f := .free "int") rfl), He.free_ok X G (c.d.fact 22 (f := .free "bool") rfl), He.free_ok X G (c.d.fact 23 (f := .free "str") rfl), He.free_ok X G (c.d.fact 24 (f := .free "isinstance") rfl), He.free_ok X G (c.d.fact 25 (f := .free "max") rfl), He.free_ok X G (c.d.fact 26 (f := .free "min") rfl), He.free_ok X G (c.d.fact 27 (f := .free "sum") rfl), He.free_ok X G (c.d.fact 28 (f := .free "zip") rfl), He.free_ok X G (c.d.fact 29 (f := .free "reversed") rfl), He.free_ok X G (c.d.fact 30 (f := .free "enumerate") rfl), He.free_ok X G (c.d.fact 31 (f := .free "sorted") rfl), He.free_ok X G (c.d.fact 32 (f := .free "set") rfl), He.free_ok X G (c.d.fact 33 (f := .free "dict") rfl), He.free_ok X G (c.d.fact 34 (f := .free "ValueError") rfl), He.free_ok X G (c.d.fact 35 (f := .free "any") rfl), He.free_ok X G (c.d.fact 36 (f := .free "all") rfl)⟩
theorem tb_READS (X : K.In h) (G : h.Ns mainGlobals mg) (c : SaysL fa_ fns_ ts_ ck_ w K) : TabOk (tp_ w K mg base) "READS" tab_READS := by
  obtain ⟨es, n, D⟩ := c.t.tab 0 (t := (fun K => He.ga K "READS", ["given", "even", "turn", "cut", "drop", "wide", "spread", "shape", "shift", "one", "both", "where", "fold", "run", "pick", "join"])) rfl
  exact tab_of (T := tp_ w K mg base) (He.glo_ok X G (c.d.fact 37 (f := .glo "READS") rfl)) D (ckAll_at c.c 0 rfl) (by
    intro q hq x id e
    simp only [tab_READS, List.mem_cons, List.not_mem_nil, or_false] at hq
    rcases hq with hq | hq | hq | hq | hq | hq | hq | hq | hq | hq | hq | hq | hq | hq | hq | hq <;> subst hq <;> cases e <;> rfl)
theorem e_hCt_ALWAYS (X : K.In h) (G : h.Ns mainGlobals mg) (c : SaysL fa_ fns_ ts_ ck_ w K) : CstOk (tp_ w K mg base) "ALWAYS" [Str.ofString "given", Str.ofString "fold", Str.ofString "run", Str.ofString "pick"] := cst_of (He.glo_ok X G (c.d.fact 38 (f := .glo "ALWAYS") rfl)) (ckAll_at c.c 1 (b := fun K => cstB (He.ga K "ALWAYS") [Str.ofString "given", Str.ofString "fold", Str.ofString "run", Str.ofString "pick"] K) rfl)
theorem o_read_by (X : K.In h) (G : h.Ns mainGlobals mg) (c : SaysL fa_ fns_ ts_ ck_ w K)  : Fo (tp_ w K mg base) "read_by" 0 1 1 f_read_by := by
  obtain ⟨fd, F⟩ := c.d.def_ 0 (d := dRec "read_by" 2) rfl
  exact ⟨He.glo_ok X G (c.d.fact 0 (f := .glo "read_by") rfl), F.kp, fd, ["line"], F.bindsN fun _ _ _ _ _ _ us hl => match us, hl with | [_], _ => rfl, fn_rule (T := tp_ w K mg base) F sc_read_by fun X' c' hX => d_read_by (blt_ X G c) (tb_READS X G c) hX⟩
theorem o_wanted_lines (X : K.In h) (G : h.Ns mainGlobals mg) (c : SaysL fa_ fns_ ts_ ck_ w K) (F_read_by : Fo (tp_ w K mg base) "read_by" 0 1 1 f_read_by) : Fo (tp_ w K mg base) "wanted_lines" 1 2 1 f_wanted_lines := by
  obtain ⟨fd, F⟩ := c.d.def_ 1 (d := dRec "wanted_lines" 5) rfl
  exact ⟨He.glo_ok X G (c.d.fact 1 (f := .glo "wanted_lines") rfl), F.kp, fd, ["program"], F.bindsN fun _ _ _ _ _ _ us hl => match us, hl with | [_], _ => rfl, fn_rule (T := tp_ w K mg base) F sc_wanted_lines fun X' c' hX => d_wanted_lines (blt_ X G c) F_read_by hX⟩
theorem o_times_read (X : K.In h) (G : h.Ns mainGlobals mg) (c : SaysL fa_ fns_ ts_ ck_ w K) (F_read_by : Fo (tp_ w K mg base) "read_by" 0 1 1 f_read_by) : Fo (tp_ w K mg base) "times_read" 2 2 2 f_times_read := by
  obtain ⟨fd, F⟩ := c.d.def_ 2 (d := dRec "times_read" 6) rfl
  exact ⟨He.glo_ok X G (c.d.fact 2 (f := .glo "times_read") rfl), F.kp, fd, ["program", "wanted"], F.bindsN fun _ _ _ _ _ _ us hl => match us, hl with | [_, _], _ => rfl, fn_rule (T := tp_ w K mg base) F sc_times_read fun X' c' hX => d_times_read (blt_ X G c) F_read_by hX⟩
theorem o_kept_lines (X : K.In h) (G : h.Ns mainGlobals mg) (c : SaysL fa_ fns_ ts_ ck_ w K) (F_read_by : Fo (tp_ w K mg base) "read_by" 0 1 1 f_read_by) (F_wanted_lines : Fo (tp_ w K mg base) "wanted_lines" 1 2 1 f_wanted_lines) (F_times_read : Fo (tp_ w K mg base) "times_read" 2 2 2 f_times_read) : Fo (tp_ w K mg base) "kept_lines" 3 3 2 f_kept_lines := by
  obtain ⟨fd, F⟩ := c.d.def_ 3 (d := dRec "kept_lines" 7) rfl
  exact ⟨He.glo_ok X G (c.d.fact 3 (f := .glo "kept_lines") rfl), F.kp, fd, ["program", "sides"], F.bindsN fun _ _ _ _ _ _ us hl => match us, hl with | [_, _], _ => rfl, fn_rule (T := tp_ w K mg base) F sc_kept_lines fun X' c' hX => d_kept_lines (blt_ X G c) F_read_by F_wanted_lines F_times_read (e_hCt_ALWAYS X G c) hX⟩
theorem o_law_taken (X : K.In h) (G : h.Ns mainGlobals mg) (c : SaysL fa_ fns_ ts_ ck_ w K)  : Fo (tp_ w K mg base) "_law_taken" 4 1 2 f_law_taken := by
  obtain ⟨fd, F⟩ := c.d.def_ 4 (d := dRec "_law_taken" 9) rfl
  exact ⟨He.glo_ok X G (c.d.fact 4 (f := .glo "_law_taken") rfl), F.kp, fd, ["_law_row", "_law_many"], F.bindsN fun _ _ _ _ _ _ us hl => match us, hl with | [_, _], _ => rfl, fn_rule (T := tp_ w K mg base) F sc_law_taken fun X' c' hX => d_law_taken (blt_ X G c)  hX⟩
theorem o_law_cells (X : K.In h) (G : h.Ns mainGlobals mg) (c : SaysL fa_ fns_ ts_ ck_ w K)  : Fo (tp_ w K mg base) "_law_cells" 5 1 1 f_law_cells := by
  obtain ⟨fd, F⟩ := c.d.def_ 5 (d := dRec "_law_cells" 10) rfl
  exact ⟨He.glo_ok X G (c.d.fact 5 (f := .glo "_law_cells") rfl), F.kp, fd, ["_law_sides"], F.bindsN fun _ _ _ _ _ _ us hl => match us, hl with | [_], _ => rfl, fn_rule (T := tp_ w K mg base) F sc_law_cells fun X' c' hX => d_law_cells (blt_ X G c)  hX⟩
theorem o_law_met (X : K.In h) (G : h.Ns mainGlobals mg) (c : SaysL fa_ fns_ ts_ ck_ w K)  : Fo (tp_ w K mg base) "_law_met" 6 1 2 f_law_met := by
  obtain ⟨fd, F⟩ := c.d.def_ 6 (d := dRec "_law_met" 11) rfl
  exact ⟨He.glo_ok X G (c.d.fact 6 (f := .glo "_law_met") rfl), F.kp, fd, ["_law_one", "_law_other"], F.bindsN fun _ _ _ _ _ _ us hl => match us, hl with | [_, _], _ => rfl, fn_rule (T := tp_ w K mg base) F sc_law_met fun X' c' hX => d_law_met (blt_ X G c)  hX⟩
theorem o_law_changed (X : K.In h) (G : h.Ns mainGlobals mg) (c : SaysL fa_ fns_ ts_ ck_ w K)  : Fo (tp_ w K mg base) "_law_changed" 7 1 3 f_law_changed := by
  obtain ⟨fd, F⟩ := c.d.def_ 7 (d := dRec "_law_changed" 12) rfl
  exact ⟨He.glo_ok X G (c.d.fact 7 (f := .glo "_law_changed") rfl), F.kp, fd, ["_law_sides", "_law_side", "_law_size"], F.bindsN fun _ _ _ _ _ _ us hl => match us, hl with | [_, _, _], _ => rfl, fn_rule (T := tp_ w K mg base) F sc_law_changed fun X' c' hX => d_law_changed (blt_ X G c)  hX⟩
theorem o_law_view (X : K.In h) (G : h.Ns mainGlobals mg) (c : SaysL fa_ fns_ ts_ ck_ w K) (F_law_taken : Fo (tp_ w K mg base) "_law_taken" 4 1 2 f_law_taken) (F_law_cells : Fo (tp_ w K mg base) "_law_cells" 5 1 1 f_law_cells) : Fo (tp_ w K mg base) "_law_view" 8 2 4 f_law_view := by
  obtain ⟨fd, F⟩ := c.d.def_ 8 (d := dRec "_law_view" 13) rfl
  exact ⟨He.glo_ok X G (c.d.fact 8 (f := .glo "_law_view") rfl), F.kp, fd, ["_law_row", "_law_a", "_law_own", "_law_way"], F.bindsN fun _ _ _ _ _ _ us hl => match us, hl with | [_, _, _, _], _ => rfl, fn_rule (T := tp_ w K mg base) F sc_law_view fun X' c' hX => d_law_view (blt_ X G c) F_law_taken F_law_cells hX⟩
theorem o_law_sided (X : K.In h) (G : h.Ns mainGlobals mg) (c : SaysL fa_ fns_ ts_ ck_ w K) (F_law_taken : Fo (tp_ w K mg base) "_law_taken" 4 1 2 f_law_taken) (F_law_changed : Fo (tp_ w K mg base) "_law_changed" 7 1 3 f_law_changed) : Fo (tp_ w K mg base) "_law_sided" 9 2 4 f_law_sided := by
  obtain ⟨fd, F⟩ := c.d.def_ 9 (d := dRec "_law_sided" 14) rfl
  exact ⟨He.glo_ok X G (c.d.fact 9 (f := .glo "_law_sided") rfl), F.kp, fd, ["_law_row", "_law_a", "_law_own", "_law_way"], F.bindsN fun _ _ _ _ _ _ us hl => match us, hl with | [_, _, _, _], _ => rfl, fn_rule (T := tp_ w K mg base) F sc_law_sided fun X' c' hX => d_law_sided (blt_ X G c) F_law_taken F_law_changed hX⟩
theorem o_law_more (X : K.In h) (G : h.Ns mainGlobals mg) (c : SaysL fa_ fns_ ts_ ck_ w K) (F_law_taken : Fo (tp_ w K mg base) "_law_taken" 4 1 2 f_law_taken) (F_law_met : Fo (tp_ w K mg base) "_law_met" 6 1 2 f_law_met) (F_law_changed : Fo (tp_ w K mg base) "_law_changed" 7 1 3 f_law_changed) : Fo (tp_ w K mg base) "_law_more" 10 2 5 f_law_more := by
  obtain ⟨fd, F⟩ := c.d.def_ 10 (d := dRec "_law_more" 15) rfl
  exact ⟨He.glo_ok X G (c.d.fact 10 (f := .glo "_law_more") rfl), F.kp, fd, ["_law_row", "_law_a", "_law_sides", "_law_way", "_law_index"], F.bindsN fun _ _ _ _ _ _ us hl => match us, hl with | [_, _, _, _, _], _ => rfl, fn_rule (T := tp_ w K mg base) F sc_law_more fun X' c' hX => d_law_more (blt_ X G c) F_law_taken F_law_met F_law_changed hX⟩
theorem o_law_program (X : K.In h) (G : h.Ns mainGlobals mg) (c : SaysL fa_ fns_ ts_ ck_ w K) (F_law_taken : Fo (tp_ w K mg base) "_law_taken" 4 1 2 f_law_taken) (F_law_cells : Fo (tp_ w K mg base) "_law_cells" 5 1 1 f_law_cells) (F_law_view : Fo (tp_ w K mg base) "_law_view" 8 2 4 f_law_view) (F_law_sided : Fo (tp_ w K mg base) "_law_sided" 9 2 4 f_law_sided) (F_law_more : Fo (tp_ w K mg base) "_law_more" 10 2 5 f_law_more) : Fo (tp_ w K mg base) "_law_program" 11 3 1 f_law_program := by
  obtain ⟨fd, F⟩ := c.d.def_ 11 (d := dRec "_law_program" 16) rfl
  exact ⟨He.glo_ok X G (c.d.fact 11 (f := .glo "_law_program") rfl), F.kp, fd, ["_law_row"], F.bindsN fun _ _ _ _ _ _ us hl => match us, hl with | [_], _ => rfl, fn_rule (T := tp_ w K mg base) F sc_law_program fun X' c' hX => d_law_program (blt_ X G c) F_law_taken F_law_cells F_law_view F_law_sided F_law_more hX⟩
theorem o_law_reads (X : K.In h) (G : h.Ns mainGlobals mg) (c : SaysL fa_ fns_ ts_ ck_ w K)  : Fo (tp_ w K mg base) "_law_reads" 12 1 1 f_law_reads := by
  obtain ⟨fd, F⟩ := c.d.def_ 12 (d := dRec "_law_reads" 17) rfl
  exact ⟨He.glo_ok X G (c.d.fact 12 (f := .glo "_law_reads") rfl), F.kp, fd, ["_law_line"], F.bindsN fun _ _ _ _ _ _ us hl => match us, hl with | [_], _ => rfl, fn_rule (T := tp_ w K mg base) F sc_law_reads fun X' c' hX => d_law_reads (blt_ X G c)  hX⟩
theorem o_law_wanted (X : K.In h) (G : h.Ns mainGlobals mg) (c : SaysL fa_ fns_ ts_ ck_ w K) (F_law_reads : Fo (tp_ w K mg base) "_law_reads" 12 1 1 f_law_reads) : Fo (tp_ w K mg base) "_law_wanted" 13 2 1 f_law_wanted := by
  obtain ⟨fd, F⟩ := c.d.def_ 13 (d := dRec "_law_wanted" 18) rfl
  exact ⟨He.glo_ok X G (c.d.fact 13 (f := .glo "_law_wanted") rfl), F.kp, fd, ["_law_program_here"], F.bindsN fun _ _ _ _ _ _ us hl => match us, hl with | [_], _ => rfl, fn_rule (T := tp_ w K mg base) F sc_law_wanted fun X' c' hX => d_law_wanted (blt_ X G c) F_law_reads hX⟩
theorem o_law_kept (X : K.In h) (G : h.Ns mainGlobals mg) (c : SaysL fa_ fns_ ts_ ck_ w K) (F_law_reads : Fo (tp_ w K mg base) "_law_reads" 12 1 1 f_law_reads) (F_law_wanted : Fo (tp_ w K mg base) "_law_wanted" 13 2 1 f_law_wanted) : Fo (tp_ w K mg base) "_law_kept" 14 3 2 f_law_kept := by
  obtain ⟨fd, F⟩ := c.d.def_ 14 (d := dRec "_law_kept" 19) rfl
  exact ⟨He.glo_ok X G (c.d.fact 14 (f := .glo "_law_kept") rfl), F.kp, fd, ["_law_program_here", "_law_sides"], F.bindsN fun _ _ _ _ _ _ us hl => match us, hl with | [_, _], _ => rfl, fn_rule (T := tp_ w K mg base) F sc_law_kept fun X' c' hX => d_law_kept (blt_ X G c) F_law_reads F_law_wanted hX⟩
theorem o_law_truths (X : K.In h) (G : h.Ns mainGlobals mg) (c : SaysL fa_ fns_ ts_ ck_ w K)  : Fo (tp_ w K mg base) "_law_truths" 15 1 2 f_law_truths := by
  obtain ⟨fd, F⟩ := c.d.def_ 15 (d := dRec "_law_truths" 20) rfl
  exact ⟨He.glo_ok X G (c.d.fact 15 (f := .glo "_law_truths") rfl), F.kp, fd, ["_law_found", "_law_due"], F.bindsN fun _ _ _ _ _ _ us hl => match us, hl with | [_, _], _ => rfl, fn_rule (T := tp_ w K mg base) F sc_law_truths fun X' c' hX => d_law_truths (blt_ X G c)  hX⟩
theorem o_law (X : K.In h) (G : h.Ns mainGlobals mg) (c : SaysL fa_ fns_ ts_ ck_ w K) (F_wanted_lines : Fo (tp_ w K mg base) "wanted_lines" 1 2 1 f_wanted_lines) (F_kept_lines : Fo (tp_ w K mg base) "kept_lines" 3 3 2 f_kept_lines) (F_law_program : Fo (tp_ w K mg base) "_law_program" 11 3 1 f_law_program) (F_law_wanted : Fo (tp_ w K mg base) "_law_wanted" 13 2 1 f_law_wanted) (F_law_kept : Fo (tp_ w K mg base) "_law_kept" 14 3 2 f_law_kept) (F_law_truths : Fo (tp_ w K mg base) "_law_truths" 15 1 2 f_law_truths) : Fo (tp_ w K mg base) "law" 16 4 1 f_law := by
  obtain ⟨fd, F⟩ := c.d.def_ 16 (d := dRec "law" 21) rfl
  exact ⟨He.glo_ok X G (c.d.fact 16 (f := .glo "law") rfl), F.kp, fd, ["_law_script"], F.bindsN fun _ _ _ _ _ _ us hl => match us, hl with | [_], _ => rfl, fn_rule (T := tp_ w K mg base) F sc_law fun X' c' hX => d_law (blt_ X G c) F_wanted_lines F_kept_lines F_law_program F_law_wanted F_law_kept F_law_truths hX⟩
theorem law_fo (w : World) (mg : Str → Option Value) (h : Heap) (K : PySem.W.Frag) (X : K.In h) (G : h.Ns mainGlobals mg) (c : SaysL fa_ fns_ ts_ ck_ w K) : mg "law" = some (.ref (He.ga K "law")) ∧
    ∃ fd, (∀ (s : Shared) (u : Value), BindsTo s fd ⟨[u], []⟩ [("_law_script", u)]) ∧ ∀ base : Heap, K.In base → base.Ns mainGlobals mg → FnOk PySem.Challenge.rw_loomarrays_k16_wanted_and_kept.prog w K mg base (L2N.CX PySem.Challenge.rw_loomarrays_k16_wanted_and_kept.prog w) 4 (He.ga K "law") fd ["_law_script"] (spF (glu K) 1 f_law) := by
  obtain ⟨fd, F⟩ := c.d.def_ 16 (d := dRec "law" 21) rfl
  have b := FunD.bindsA (ps := ["_law_script"]) F fun _ _ _ _ _ _ us hl => match us, hl with | [_], _ => rfl
  refine ⟨He.glo_ok X G (c.d.fact 16 (f := .glo "law") rfl), fd, fun s v => b s [v] rfl, fun base _ _ => ?_⟩
  have F_read_by : Fo (tp_ w K mg base) "read_by" 0 1 1 f_read_by := o_read_by X G c 
  have F_wanted_lines : Fo (tp_ w K mg base) "wanted_lines" 1 2 1 f_wanted_lines := o_wanted_lines X G c F_read_by
  have F_times_read : Fo (tp_ w K mg base) "times_read" 2 2 2 f_times_read := o_times_read X G c F_read_by
  have F_kept_lines : Fo (tp_ w K mg base) "kept_lines" 3 3 2 f_kept_lines := o_kept_lines X G c F_read_by F_wanted_lines F_times_read
  have F_law_taken : Fo (tp_ w K mg base) "_law_taken" 4 1 2 f_law_taken := o_law_taken X G c 
  have F_law_cells : Fo (tp_ w K mg base) "_law_cells" 5 1 1 f_law_cells := o_law_cells X G c 
  have F_law_met : Fo (tp_ w K mg base) "_law_met" 6 1 2 f_law_met := o_law_met X G c 
  have F_law_changed : Fo (tp_ w K mg base) "_law_changed" 7 1 3 f_law_changed := o_law_changed X G c 
  have F_law_view : Fo (tp_ w K mg base) "_law_view" 8 2 4 f_law_view := o_law_view X G c F_law_taken F_law_cells
  have F_law_sided : Fo (tp_ w K mg base) "_law_sided" 9 2 4 f_law_sided := o_law_sided X G c F_law_taken F_law_changed
  have F_law_more : Fo (tp_ w K mg base) "_law_more" 10 2 5 f_law_more := o_law_more X G c F_law_taken F_law_met F_law_changed
  have F_law_program : Fo (tp_ w K mg base) "_law_program" 11 3 1 f_law_program := o_law_program X G c F_law_taken F_law_cells F_law_view F_law_sided F_law_more
  have F_law_reads : Fo (tp_ w K mg base) "_law_reads" 12 1 1 f_law_reads := o_law_reads X G c 
  have F_law_wanted : Fo (tp_ w K mg base) "_law_wanted" 13 2 1 f_law_wanted := o_law_wanted X G c F_law_reads
  have F_law_kept : Fo (tp_ w K mg base) "_law_kept" 14 3 2 f_law_kept := o_law_kept X G c F_law_reads F_law_wanted
  have F_law_truths : Fo (tp_ w K mg base) "_law_truths" 15 1 2 f_law_truths := o_law_truths X G c 
  exact fn_rule (T := tp_ w K mg base) F sc_law fun X' c' hX => d_law (blt_ X G c) F_wanted_lines F_kept_lines F_law_program F_law_wanted F_law_kept F_law_truths hX
end
end LM
open PySem PySem.W PySem.Calls PyProof.Rows
theorem PySem.Challenge.cw_loomarrays_k16_wanted_and_kept_holds : PySem.Challenge.rw_loomarrays_k16_wanted_and_kept.Holds := by
  w_on; o_law
  refine HandSHeadRun.head_any (r := OpenLaw.row PySem.Challenge.rw_loomarrays_k16_wanted_and_kept) (q := view (OpenLaw.row PySem.Challenge.rw_loomarrays_k16_wanted_and_kept).prog [21]) (H := LM.hk_) (ob := LM.ob_) (M := 1720) (loose := LM.lo_) (d := HandSHeadRun.topDef (OpenLaw.row PySem.Challenge.rw_loomarrays_k16_wanted_and_kept).prog 21) (kwd := []) LM.ob_is
    (by kernel_rfl) (fun s => by kernel_rfl) LM.run_ (by kernel_rfl) (by kernel_rfl) (by kernel_rfl) (by rfl) (by first | assumption | decide +kernel) (by decide +kernel) ⟨rfl, rfl, rfl, rfl, rfl, by decide +kernel⟩ ?hw ?hc
  case hw => w_witness2
  case hc => exact LM.end_ofL (l := PySem.Challenge.rw_loomarrays_k16_wanted_and_kept) (k := 4) (x := "_law_script") rfl (by kernel_rfl) (by kernel_rfl) ⟨rfl, by decide, by decide⟩ (fun K => rfl) (fun w mg h K => LM.law_fo w mg h K) LM.law_good
