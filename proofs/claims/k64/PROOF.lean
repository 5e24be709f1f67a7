import PyProof.Rows.All
import HandS.Head0
import HandS.Head1
import HandS.Head2
import HandS.HeadEnd
import HandS.WordsExc
import HandS.ForMost
import HandS.ForExc
import HandS.Defaults
import HandS.MakeKw
import HandS.MakeKwOnly
import HandS.HeadHook1
import HandS.HeadHook2
import HandS.CallSlots
import HandS.IsInst
import HandS.ExcInit
import HandS.ExcIs
import HandS.ExcField
import HandS.OwnEq
import HandS.Set
import HandS.SetKeys
import HandS.SetBool
import HandS.Comp
import HandS.Strs
import HandS.TupAny
import HandS.Style
import HandS.More
import KE.KDictKeyed
import KE.KDictDisplayH
import HandS.TupLen
import HandS.TupSets
import HandS.ExcValue
import HandS.DictComp
import HandS.Lambda
import HandS.Rev
import HandS.Zip
import KE.GoesMore
import KE.GoesEnum
import KE.GoesZip
import HandS.Small
import HandS.WordsDict
import HandS.Deep
import PyProof.TupleOfSeq
import PyProof.Rows.SortShellAny
import HandS.SortInts
import HandS.DeepEq
import KE.KIndexOf
import HandS.Finally
import KE.KSortTupG
import KE.KDictCopyH
import KE.KDictPairs
import HandS.SortKw
import KE.DataMinMax
import HandS.HeadWalk
import HandS.TupLe
import KE.LtData
import HandS.Sort
import KE.KDictList
import KE.KDictWalk
import PyProof.SumAny
import HandS.SetFor
import PySem.Challenge.RW_wishshelf_k64_refusals_by_hand
set_option Elab.async false
set_option linter.all false
set_option maxRecDepth 100000
set_option maxHeartbeats 2000000
set_option autoImplicit false
namespace Ws
open PySem PySem.Spec PyProof.Rows L2
inductive Ty where
  | b (n : String) | c (x : Str)
  deriving DecidableEq
def Ty.v (K : PySem.W.Frag) : Ty → Value
  | .b n => .type n
  | .c x => .ref (He.ga K x)
structure Kit where
  tys : List Ty
  cls : List Ty
  sub : Ty → Ty → Bool
abbrev Chk := PySem.W.Frag → Bool
def obsB (fa : List Chk) (fn : List He.DefD) (K : PySem.W.Frag) : He.AlD := ((fa.all fun f => f K) && fn.all fun d => d.ok K, fn.map fun d => He.fnW K d.at_)
def SaysB (fa : List Chk) (fn : List He.DefD) (K : PySem.W.Frag) : Prop := obsB fa fn K = He.valD fn
def cFa (f : He.Fa) : Chk := fun K => f.ok K
def cExc (x : Str) : Chk := fun K => He.eqO (PySem.W.findIn K (.ref (He.ga K x)) "__getattribute__") (some (some (.builtin "BaseException.__getattribute__"))) && (He.eqO (PySem.W.findIn K (.ref (He.ga K x)) "__getattr__") (some none) && (decide (PySem.W.subIn K (.ref (He.ga K x)) (.type "BaseException") = some true) && (PySem.W.hasDictIn K (He.ga K x) &&
  (He.eqO (PySem.W.findIn K (.ref (He.ga K x)) "__class__") (some (some (.builtin "object.__class__"))) && (decide (PySem.W.specialIn K (.builtin "object.__class__") "__get__" = some (some (.builtin "getset_descriptor.__get__"))) &&
  (decide (PySem.W.takesIn K (.builtin "object.__class__") = some true) && decide (PySem.W.mroIn K (He.ga K x) (.type "object") = some true)))))))
def cOexO (K : PySem.W.Frag) (C : Addr) : Bool := match K.lookup C with
  | some ⟨.type "type", _, .cls cd, sl⟩ => (match cd.mro, sl.toList with
    | .ref C' :: bm, [_, _, _, _, some (.builtin n), _] => C' == C && (n == "ValueError.__new__" && (!cd.hasDel && (cd.hasDict && PySem.HandSPX.refsVE bm)))
    | _, _ => false)
  | _ => false
def cOex (x : Str) : Chk := fun K => cOexO K (He.ga K x) && (He.eqO (PySem.W.findIn K (.ref (He.ga K x)) "__setattr__") (some (some (.builtin "object.__setattr__"))) && (decide (PySem.W.subIn K (.ref (He.ga K x)) (.type "BaseException") = some true) && (decide (PySem.W.typeIn K (.ref (He.ga K x)) = some (.type "type")) && PySem.W.keepIn K (.ref (He.ga K x)))))
def cNo (x y : Str) : Chk := fun K => He.eqO (PySem.W.findIn K (.ref (He.ga K x)) y) (some none)
def cXf (cs : List Str) (y : Str) : Chk := fun K => cs.all fun c => xfB K (He.ga K c) && cNo c y K
/-- B.__init__ is ValueError's -/
def cBase (b : Str) : Chk := fun K => decide (PySem.W.specialIn K (.ref (He.ga K b)) "__getattribute__" = some (some (.builtin "type.__getattribute__"))) && (PySem.W.readsIn K (He.ga K b) (.type "type") && (match PySem.W.findCls K (.ref (He.ga K b)) (.type "type") "__init__" with
  | some (.val (.builtin n)) => n == "ValueError.__init__"
  | _ => false))
def cEkit (kt : Kit) : Chk := fun K => (kt.tys.all fun t => match t with
  | .c c => cExc c K
  | _ => true) && kt.tys.all fun t => kt.cls.all fun c => decide (PySem.W.kitOne K (t.v K) (c.v K) = some (kt.sub t c))
def clsDefs : Stmt → List Stmt
  | .ClassDef _ _ _ body _ _ _ _ _ _ _ => body
  | _ => []
def bitA (m a : Nat) : Bool := Nat.beq (Nat.land (Nat.shiftRight m a) 1) 1
def markA {α : Type} (k : Nat → List Addr → α) : List Addr → Nat → List Addr → α
  | [], m, acc => k m acc
  | a :: r, m, acc => HandSHeadRun.frNat a fun a => match bitA m a with
    | true => markA k r m acc
    | false => HandSHeadRun.frNat (Nat.lor m (Nat.shiftLeft 1 a)) fun m => markA k r m (a :: acc)
def refsA (g : Addr → Option Obj) (a : Addr) : List Addr := match g a with
  | some o => He.refsD o
  | none => []
def goA (g : Addr → Option Obj) : Nat → Nat → List Addr → List Addr → List Addr
  | 0, _, _, all => all
  | n + 1, m, fr, all => markA (fun m new => goA g n m new (all ++ new)) (fr.flatMap (refsA g)) m []
def asA (g : Addr → Option Obj) (n : Nat) : List Addr := goA g n (Nat.shiftLeft 1 mainGlobals) [mainGlobals] [mainGlobals]
def obsCG (n : Nat) (fa : List Chk) (fn : List He.DefD) (g : Addr → Option Obj) : He.AlD := obsB fa fn (He.frG g (asA g n ++ [cStatics]))
def hookC (n : Nat) (fa : List Chk) (fn : List He.DefD) : PySem.W.Hook where
  α := He.AlD
  obs := fun s => obsCG n fa fn s.heap.get?
  val := fun _ => He.valD fn
  says := fun _ h => ∃ K : PySem.W.Frag, K.In h ∧ SaysB fa fn K
  of := fun _ _ e => ⟨_, He.frG_in, e⟩
  keeps := fun _ _ _ ⟨K, hK, c⟩ k => ⟨K, PySem.W.Frag.In.keeps hK k, c⟩
theorem obsCG_eq {n : Nat} {fa : List Chk} {fn : List He.DefD} {g : Addr → Option Obj} {s : Shared} (h : ∀ a, g a = s.heap.get? a) : obsCG n fa fn g = (hookC n fa fn).obs s := by
  have e : g = s.heap.get? := funext h
  rw [e] <;> rfl
def cOexI (c : Str) (p : Str × Option Str) : Chk := fun K => He.eqO (PySem.W.findIn K (.ref (He.ga K c)) "__init__") (some (some (.ref (He.fAd K p)))) && decide (PySem.W.typeIn K (.ref (He.fAd K p)) = some (.type "function"))
end Ws
namespace Ws
open PySem PySem.Spec PyProof.Rows L2
def codeOf (K : PySem.W.Frag) (p : Str × Option Str) : Addr := match K.lookup (He.fAd K p) with
  | some ⟨_, _, .func fd, _⟩ => (match fd.code with
    | .ref c => c
    | _ => 0)
  | _ => 0
def tabAt (K : PySem.W.Frag) (p : Str × Option Str) : Addr := match K.lookup (codeOf K p) with
  | some ⟨.type "code", _, .fields vs, _⟩ => (match (vs[11]? : Option Value) with
    | some (.ref P) => P
    | _ => 0)
  | _ => 0
end Ws
set_option Elab.async false
set_option linter.all false
set_option maxRecDepth 100000
set_option maxHeartbeats 4000000
set_option autoImplicit false
namespace Lk64
open PySem PySem.Spec PyProof.Rows L2 Ws
def top (i : Nat) : Stmt := PySem.Challenge.pw_wishshelf_k64_refusals_by_hand.main.body.getD i (.Pass ⟨0, 0, 0, 0⟩)
def esubs : List (Ty × Ty) := [(.c "ShelfError", .b "ValueError"), (.c "NoRule", .c "ShelfError"), (.c "NoRule", .b "ValueError"), (.c "NoOrder", .c "ShelfError"), (.c "NoOrder", .b "ValueError"), (.c "NoTrace", .c "ShelfError"), (.c "NoTrace", .b "ValueError"), (.c "NoPattern", .c "ShelfError"), (.c "NoPattern", .b "ValueError"), (.c "Nothing", .c "ShelfError"), (.c "Nothing", .b "ValueError"), (.c "Busy", .c "ShelfError"), (.c "Busy", .b "ValueError"), (.c "NoThing", .c "ShelfError"), (.c "NoThing", .b "ValueError"), (.c "NoHouse", .c "ShelfError"), (.c "NoHouse", .b "ValueError"), (.c "NoWish", .c "ShelfError"), (.c "NoWish", .b "ValueError"), (.c "NoBeat", .c "ShelfError"), (.c "NoBeat", .b "ValueError"), (.c "NoPaper", .c "ShelfError"), (.c "NoPaper", .b "ValueError"), (.c "NoSight", .c "ShelfError"), (.c "NoSight", .b "ValueError"), (.c "NoPlan", .c "ShelfError"), (.c "NoPlan", .b "ValueError"), (.c "NoPrice", .c "ShelfError"), (.c "NoPrice", .b "ValueError"), (.c "NoRate", .c "ShelfError"), (.c "NoRate", .b "ValueError"), (.c "TooMany", .c "ShelfError"), (.c "TooMany", .b "ValueError")]
def ekt : Kit := ⟨[.c "ShelfError", .c "NoRule", .c "NoOrder", .c "NoTrace", .c "NoPattern", .c "Nothing", .c "Busy", .c "NoThing", .c "NoHouse", .c "NoWish", .c "NoBeat", .c "NoPaper", .c "NoSight", .c "NoPlan", .c "NoPrice", .c "NoRate", .c "TooMany"], [.c "ShelfError", .b "ValueError", .c "TooMany", .c "NoRate", .c "NoPrice", .c "NoPlan", .c "NoSight", .c "NoPaper", .c "NoBeat", .c "NoWish", .c "NoHouse", .c "NoThing", .c "Busy", .c "Nothing", .c "NoPattern", .c "NoTrace", .c "NoOrder", .c "NoRule"], fun t c => decide (t = c) || esubs.contains (t, c)⟩
def lts : List ((Str × Option Str) × Str) := []
def fa1 : List Chk := [cFa (.glo "_law_with"), cFa (.glo "_law_field"), cFa (.glo "_law_kinds"), cFa (.glo "ShelfError"), cEkit ekt, cFa (.free "isinstance"), cFa (.free "ValueError"), cFa (.glo "_law_plain"), cFa (.free "str"), cOex "TooMany", cNo "TooMany" "many", cOexI "TooMany" ("TooMany", some "__init__"), cFa (.glo "TooMany"), cOex "NoRate", cNo "NoRate" "thing", cOexI "NoRate" ("NoRate", some "__init__"), cFa (.glo "NoRate"), cOex "NoPrice", cNo "NoPrice" "thing", cOexI "NoPrice" ("NoPrice", some "__init__"), cFa (.glo "NoPrice"), cOex "NoPlan", cNo "NoPlan" "at", cOexI "NoPlan" ("NoPlan", some "__init__"), cFa (.glo "NoPlan"), cOex "NoSight", cNo "NoSight" "at", cOexI "NoSight" ("NoSight", some "__init__"), cFa (.glo "NoSight"), cOex "NoPaper", cNo "NoPaper" "at", cOexI "NoPaper" ("NoPaper", some "__init__"), cFa (.glo "NoPaper"), cOex "NoBeat", cNo "NoBeat" "thing", cOexI "NoBeat" ("NoBeat", some "__init__"), cFa (.glo "NoBeat"), cOex "NoWish", cNo "NoWish" "at", cOexI "NoWish" ("NoWish", some "__init__"), cFa (.glo "NoWish"), cOex "NoHouse", cNo "NoHouse" "what", cOexI "NoHouse" ("NoHouse", some "__init__"), cFa (.glo "NoHouse"), cOex "NoThing", cNo "NoThing" "what", cOexI "NoThing" ("NoThing", some "__init__"), cFa (.glo "NoThing"), cXf ["NoBeat", "NoPrice", "NoRate"] "thing", cXf ["TooMany"] "many", cXf ["NoWish", "NoPaper", "NoSight", "NoPlan"] "at", cXf ["NoThing", "NoHouse"] "what", cFa (.glo "Busy"), cFa (.glo "Nothing"), cFa (.glo "NoPattern"), cFa (.glo "NoTrace"), cFa (.glo "NoOrder"), cFa (.glo "NoRule"), cFa (.exc "Busy"), cFa (.exc "NoRule"), cFa (.exc "Nothing"), cFa (.exc "NoPattern"), cFa (.exc "NoTrace"), cFa (.exc "NoOrder"), cBase "ShelfError", cFa (.glo "law")]
def fa : List Chk := fa1
def fn1 : List He.DefD := [⟨("TooMany", some "__init__"), "__init__", "TooMany.__init__", defArgs ((clsDefs (top 17)).getD 0 (.Pass ⟨0, 0, 0, 0⟩)), defBody ((clsDefs (top 17)).getD 0 (.Pass ⟨0, 0, 0, 0⟩)), defScope ((clsDefs (top 17)).getD 0 (.Pass ⟨0, 0, 0, 0⟩)), [], []⟩,
  ⟨("NoRate", some "__init__"), "__init__", "NoRate.__init__", defArgs ((clsDefs (top 16)).getD 0 (.Pass ⟨0, 0, 0, 0⟩)), defBody ((clsDefs (top 16)).getD 0 (.Pass ⟨0, 0, 0, 0⟩)), defScope ((clsDefs (top 16)).getD 0 (.Pass ⟨0, 0, 0, 0⟩)), [], []⟩,
  ⟨("NoPrice", some "__init__"), "__init__", "NoPrice.__init__", defArgs ((clsDefs (top 15)).getD 0 (.Pass ⟨0, 0, 0, 0⟩)), defBody ((clsDefs (top 15)).getD 0 (.Pass ⟨0, 0, 0, 0⟩)), defScope ((clsDefs (top 15)).getD 0 (.Pass ⟨0, 0, 0, 0⟩)), [], []⟩,
  ⟨("NoPlan", some "__init__"), "__init__", "NoPlan.__init__", defArgs ((clsDefs (top 14)).getD 0 (.Pass ⟨0, 0, 0, 0⟩)), defBody ((clsDefs (top 14)).getD 0 (.Pass ⟨0, 0, 0, 0⟩)), defScope ((clsDefs (top 14)).getD 0 (.Pass ⟨0, 0, 0, 0⟩)), [], []⟩,
  ⟨("NoSight", some "__init__"), "__init__", "NoSight.__init__", defArgs ((clsDefs (top 13)).getD 0 (.Pass ⟨0, 0, 0, 0⟩)), defBody ((clsDefs (top 13)).getD 0 (.Pass ⟨0, 0, 0, 0⟩)), defScope ((clsDefs (top 13)).getD 0 (.Pass ⟨0, 0, 0, 0⟩)), [], []⟩,
  ⟨("NoPaper", some "__init__"), "__init__", "NoPaper.__init__", defArgs ((clsDefs (top 12)).getD 0 (.Pass ⟨0, 0, 0, 0⟩)), defBody ((clsDefs (top 12)).getD 0 (.Pass ⟨0, 0, 0, 0⟩)), defScope ((clsDefs (top 12)).getD 0 (.Pass ⟨0, 0, 0, 0⟩)), [], []⟩,
  ⟨("NoBeat", some "__init__"), "__init__", "NoBeat.__init__", defArgs ((clsDefs (top 11)).getD 0 (.Pass ⟨0, 0, 0, 0⟩)), defBody ((clsDefs (top 11)).getD 0 (.Pass ⟨0, 0, 0, 0⟩)), defScope ((clsDefs (top 11)).getD 0 (.Pass ⟨0, 0, 0, 0⟩)), [], []⟩,
  ⟨("NoWish", some "__init__"), "__init__", "NoWish.__init__", defArgs ((clsDefs (top 10)).getD 0 (.Pass ⟨0, 0, 0, 0⟩)), defBody ((clsDefs (top 10)).getD 0 (.Pass ⟨0, 0, 0, 0⟩)), defScope ((clsDefs (top 10)).getD 0 (.Pass ⟨0, 0, 0, 0⟩)), [], []⟩,
  ⟨("NoHouse", some "__init__"), "__init__", "NoHouse.__init__", defArgs ((clsDefs (top 9)).getD 0 (.Pass ⟨0, 0, 0, 0⟩)), defBody ((clsDefs (top 9)).getD 0 (.Pass ⟨0, 0, 0, 0⟩)), defScope ((clsDefs (top 9)).getD 0 (.Pass ⟨0, 0, 0, 0⟩)), [], []⟩,
  ⟨("NoThing", some "__init__"), "__init__", "NoThing.__init__", defArgs ((clsDefs (top 8)).getD 0 (.Pass ⟨0, 0, 0, 0⟩)), defBody ((clsDefs (top 8)).getD 0 (.Pass ⟨0, 0, 0, 0⟩)), defScope ((clsDefs (top 8)).getD 0 (.Pass ⟨0, 0, 0, 0⟩)), [], []⟩,
  ⟨("_law_with", none), "_law_with", "_law_with", defArgs (top 22), defBody (top 22), defScope (top 22), [], []⟩,
  ⟨("_law_field", none), "_law_field", "_law_field", defArgs (top 23), defBody (top 23), defScope (top 23), [], []⟩,
  ⟨("_law_kinds", none), "_law_kinds", "_law_kinds", defArgs (top 24), defBody (top 24), defScope (top 24), [], []⟩,
  ⟨("_law_plain", none), "_law_plain", "_law_plain", defArgs (top 21), defBody (top 21), defScope (top 21), [], []⟩,
  ⟨("law", none), "law", "law", defArgs (top 25), defBody (top 25), defScope (top 25), [], []⟩]
def fnl : List He.DefD := fn1
namespace Hd
open HandSHeadRun PySem PySem.W PySem.Calls PyProof.Rows
abbrev Rw : PySem.W.OpenRow := PySem.W.OpenLaw.row PySem.Challenge.rw_wishshelf_k64_refusals_by_hand
def loose : List PySem.Str := (["__name__", "ShelfError", "NoRule", "NoOrder", "NoTrace", "NoPattern", "Nothing", "Busy", "NoThing", "NoHouse", "NoWish", "NoBeat", "NoPaper", "NoSight", "NoPlan", "NoPrice", "NoRate", "TooMany", "_law_cell_at", "_law_digit", "_law_plain", "_law_with", "_law_field", "_law_kinds"] : List PySem.Str)
abbrev hk : PySem.W.Hook := hookC 6 fa fnl
def ob (s : PySem.W.SharedT) : He.AlD := obsCG 6 fa fnl (HandSHeadRun.getT s)
theorem ob_eq (s : PySem.W.SharedT) : ob s = hk.obs s.abs := obsCG_eq (HandSHeadRun.getT_eq s)
theorem run (w : World) : HandSHeadRun.RunEq Rw (PySem.W.view Rw.prog [25]) hk ob 8000 loose w := by
  intro os
  kernel_rfl
end Hd
end Lk64
set_option Elab.async false
set_option linter.all false
set_option maxRecDepth 100000
set_option maxHeartbeats 2000000
set_option autoImplicit false
namespace Ws
open PySem PySem.Spec PyProof.Rows L2
def keyM (e : Int × Value) : Key := match e.2 with
  | .int k _ => .inl k
  | .str x _ => .inr x
  | _ => .inl 0
def GoodM (P : Program) (w : World) (e : Int × Value) : Prop := ∃ k, RelV (kV k) e.2 ∧ e.1 = (mixKind P w).hash k
def SetMR (P : Program) (w : World) (h : Heap) (a : Addr) (ks : List Key) : Prop :=
  ∃ o es ep t, (h.get? a = some o ∧ o.ExactSet ∧ o.data = .set es ep t) ∧ (∀ e ∈ es.toList, GoodM P w e) ∧ (es.toList.map keyM).Perm ks ∧ ks.Nodup ∧ es.size < scanBound ∧ (t.fits es.size = true ∧ Ris t.place.toList ∧ (w.params.followText "set-order" = true ∨ t.led = true))
section
variable {P : Program} {w : World} {A : Around} {E : Value → Shared → Prop} {s : Shared} {a : Addr} {ks : List Key}
theorem SetMR.size {h : Heap} {o : Obj} {es : Array (Int × Value)} (pk : (es.toList.map keyM).Perm ks) : es.size = ks.length := by
  have := pk.length_eq
  simpa using this
theorem SetMR.at {h h' : Heap} (R : SetMR P w h a ks) (k : ∀ o, h.get? a = some o → h'.get? a = some o) : SetMR P w h' a ks := by
  obtain ⟨o, es, ep, t, ⟨ho, r1⟩, r2⟩ := R
  exact ⟨o, es, ep, t, ⟨k o ho, r1⟩, r2⟩
/-- the keys behind an addition -/
instance (ks : List Key) (k : Key) : Decidable (k ∈ ks) := @List.instDecidableMemOfLawfulBEq Key instBEqOfDecidableEq _ k ks
end
end Ws
set_option Elab.async false
set_option linter.all false
set_option maxRecDepth 100000
set_option maxHeartbeats 2000000
set_option autoImplicit false
namespace Ws
open PySem PySem.Spec PyProof.Rows L2
/-- what a turn brings in -/
def Kept (vs : List Nat) (σ σ' : L2.St) : Prop := σ.length = σ'.length ∧ ∀ (j : Nat) v, (wipe σ vs)[j]? = some (some v) → σ'[j]? = some (some v)
theorem Kept.refl (vs : List Nat) (σ : L2.St) : Kept vs σ σ := ⟨rfl, fun _ _ e => (wipe_some e).1⟩
abbrev TM := Addr → L2.St → Hp → (Hp → Prop) → Prop
def tCc (O0 : Addr → HO) (wi : TI) (g : TG) (tt : TT) (tm : TM) (vs : List Nat) : TE := fun σ H Q => wi σ H fun J H1 => ∀ D, H1 D = none → ∃ W : Nat → Nat → Hp → Prop, (∃ m, W 0 m (upd H1 D (O0 D))) ∧ ∀ i m H, W i m H →
  (J.stop i H ∧ Q (.ref D) H) ∨ (J.go i H ∧ ∃ Nx : Hp → Prop, (∀ H', Nx H' → ∃ m', m' < m ∧ W (i + 1) m' H') ∧ ∀ x H', J.yld i H x H' → g x (wipe σ vs) H' fun σ2 H2 => wipe σ2 vs = wipe σ vs ∧ tt σ2 H2 fun b H3 => if b = true then tm D σ2 H3 Nx else Nx H3)
abbrev InBlk (X : Cx) (scope : Scope) (p : Cx → Prop) : Prop := ∀ (s : Shared) (H : Hp) (C : Addr) (cl : List (Str × Addr)) (fp : List Addr), p (X.blk s H scope (compEnvC scope cl C X.env) fp)
end Ws
set_option Elab.async false
set_option linter.all false
set_option maxRecDepth 100000
set_option maxHeartbeats 2000000
set_option autoImplicit false
namespace Ws
open PySem PySem.Spec PyProof.Rows L2
def SetM (P : Program) (w : World) (a : Addr) (ks : List Key) : HO := .ext fun h => SetMR P w h a ks
end Ws
set_option Elab.async false
set_option linter.all false
set_option maxRecDepth 100000
set_option autoImplicit false
namespace Ws
open PySem PySem.Spec PyProof.Rows L2
/-- the tuple at a is a plain one -/
def TupP (H : Hp) (a : Addr) (ys : List V) : Prop := ∃ o : Obj, H a = some (.frz o (.tup ys)) ∧ o.dict = none
theorem TupP.sq {H : Hp} {K : PySem.W.Frag} {a : Addr} {ys : List V} (h : TupP H a ys) : SqT K H a ys := let ⟨o, e, _⟩ := h; .inl (.inr ⟨o, e⟩)
/-- a new plain tuple -/
abbrev newT (H : Hp) (ys : List V) (Q : VK) : Prop := ∀ (p : Addr) (o : Obj), H p = none → o.dict = none → Q (.ref p) (upd H p (.frz o (.tup ys)))
section
variable {X : Cx} {pins : List (Addr × Obj)} {σ : L2.St} {H : Hp} {s : Shared}
theorem laid_tup (I : Inv X pins σ H s) {us : List Value} {ys : List V} (r : Vals ys us) (z : ys.length ≤ sizeLine) {m : Nat} {t' : Nat} :
    Inv X pins σ (upd H s.heap.objs.size (.frz { cls := .type "tuple", data := .seq us.toArray m } (.tup ys))) { s with heap := s.heap.push { cls := .type "tuple", data := .seq us.toArray m }, toks := t' } := by
  refine I.laid (t' := t') (fun b u e => Heap.get?_push_of_some _ e) (Nat.le_refl _) ?_
  exact ⟨Heap.get?_push_size _ rfl, z, us, r, ⟨_, Heap.get?_push_size _ rfl, rfl, m, rfl⟩⟩
end
section
variable {X : Cx} {es : List Expr} {t : TA} {pos : Pos}
def tTupP (t : TA) : TE := fun σ H Q => t σ H fun xs H1 => xs.length ≤ sizeLine ∧ newT H1 xs Q
theorem pe_tupP {k : Nat} (h : PA X es t) : PE X (.Tuple es k pos) (tTupP t) := ⟨fun pins s σ H Q I hq => by
  refine wpAny_Tuple_spliced (thn (h.run pos pins s σ H _ I hq) fun us s1 ⟨xs, H1, I1, r, z, q⟩ => ⟨r.length ▸ z, ?_⟩)
  exact ⟨.ref _, _, laid_tup I1 r z, rfl, q _ _ (I1.hok.fresh (Nat.le_refl _)) rfl⟩⟩
def rCatP (K : PySem.W.Frag) : R2 := fun x y H Q => ∃ a b xs ys, (x = .ref a ∧ y = .ref b) ∧ (SqT K H a xs ∧ SqT K H b ys) ∧ xs.length + ys.length ≤ sizeLine ∧
  (xs = [] → Q (.ref b) H) ∧ (xs ≠ [] → ys = [] → Q (.ref a) H) ∧ (xs ≠ [] → ys ≠ [] → newT H (xs ++ ys) Q)
theorem op_catP : OpR X (binaryOp .Add) (rCatP X.K) := by
  rintro pins s σ H x y v u Q I rx ry ⟨a, b, xs, ys, ⟨rfl, rfl⟩, ⟨ha, hb⟩, hz, q0, q1, q2⟩
  cases rx
  cases ry
  obtain ⟨ia, ra, pa, _⟩ := I.tuple ha
  obtain ⟨ib, rb, pb, _⟩ := I.tuple hb
  by_cases hx : xs = []
  · subst hx
    cases ra
    exact cat_tup0 pa pb ⟨.ref b, H, I, rfl, q0 rfl⟩
  · refine HT.cat_tup pa pb (fun z => hx (ra.nil_iff.mp z)) (fun z => ⟨.ref a, H, I, rfl, q1 hx (rb.nil_iff.mp z)⟩) (fun z => ?_) (by rw [← ra.length, ← rb.length]; exact hz)
    exact ⟨.ref _, _, laid_tup I (ra.append rb) (by rw [List.length_append]; exact hz), rfl, q2 hx (fun e => z (rb.nil_iff.mpr e)) _ _ (I.hok.fresh (Nat.le_refl _)) rfl⟩
def rSlP (K : PySem.W.Frag) : V → Option Int → Option Int → Hp → VK → Prop := fun x lo hi H Q => ∃ a xs, x = .ref a ∧ SqT K H a xs ∧
  (HT.sIx xs.length 0 lo = 0 ∧ HT.sIx xs.length xs.length hi = xs.length → Q (.ref a) H) ∧ (¬ (HT.sIx xs.length 0 lo = 0 ∧ HT.sIx xs.length xs.length hi = xs.length) → newT H (cutV xs lo hi) Q)
theorem sl_tupP : SlR X (rSlP X.K) := by
  rintro pins s σ H x v vl vu lo hi sl Q I rx hs pl pu ⟨a, xs, rfl, hx, q1, q2⟩
  cases rx
  obtain ⟨its, r, ht, hz⟩ := I.tuple hx
  have hlen : its.toArray.size = xs.length := by simp [r.length]
  refine ⟨"tuple", _, PyProof.Rows.slot_tuple_getitem.lookup, ht.typeIs, ?_⟩
  by_cases hw : HT.sIx xs.length 0 lo = 0 ∧ HT.sIx xs.length xs.length hi = xs.length
  · exact getItem_tuple_whole ht hs pl pu (by rw [hlen]; exact hw) ⟨.ref a, H, I, rfl, q1 hw⟩
  · refine HT.getItem_tuple_cut ht hs pl pu (by rw [hlen]; exact hw) ?_ (by rw [hlen]; exact hz)
    rw [hlen]
    exact ⟨.ref _, _, laid_tup I ((r.drop (HT.sIx xs.length 0 lo)).take (HT.sIx xs.length xs.length hi - HT.sIx xs.length 0 lo)) (Nat.le_trans (cutV_length xs lo hi) hz), rfl, q2 hw _ _ (I.hok.fresh (Nat.le_refl _)) rfl⟩
end
/-- the value at x is of the type T, and has no dict -/
def TyN (X : Cx) (T : String) (x : V) (H : Hp) : Prop := ∀ (pins : List (Addr × Obj)) (s : Shared) (σ : L2.St) (v : Value), Inv X pins σ H s → RelV x v → s.TypeIs v T ∧ ∀ a, v = .ref a → ∃ ob, s.heap.get? a = some ob ∧ ob.dict = none
theorem TyN.of {X : Cx} {T : String} {x : V} {H : Hp} (h : tyV X.K T x H) : TyN X T x H := fun _ _ _ _ I r => tyV_is I r h
theorem TyN.tup {X : Cx} {a : Addr} {ys : List V} {H : Hp} (h : TupP H a ys) : TyN X "tuple" (.ref a) H := fun pins s σ v I r => by
  cases (show v = Value.ref a from r)
  obtain ⟨o, e, hd⟩ := h
  obtain ⟨go, z, us, rv, tp⟩ := I.hok a _ e
  obtain ⟨o', go', hc, _⟩ := tp
  rw [go] at go'
  cases go'
  exact ⟨⟨o, go, hc⟩, fun b eb => by cases eb; exact ⟨o, go, hd⟩⟩
end Ws
set_option Elab.async false
set_option linter.all false
set_option maxRecDepth 100000
set_option autoImplicit false
namespace Ws
open PySem PySem.Spec PyProof.Rows L2
abbrev NK := NestedKey
mutual
/-- the value v is the key k -/
def nkV (H : Hp) : NK → V → Prop
  | .none, v => v = .non
  | .num i, v => v = .int i ∨ ∃ b : Bool, v = .bl b ∧ i = if b = true then 1 else 0
  | .text x, v => v = .str x
  | .tup ks, v => ∃ a ys, v = .ref a ∧ Rd H a (.tup ys) ∧ nkVs H ks ys
def nkVs (H : Hp) : List NK → List V → Prop
  | [], vs => vs = []
  | k :: ks, vs => ∃ v r, vs = v :: r ∧ nkV H k v ∧ nkVs H ks r
end
section
variable {P : Program} {w : World} {H : Hp} {h : Heap}
mutual
theorem nk_is (hok : HOk P w H h) : ∀ {k : NK} {v : V} {u : Value}, nkV H k v → RelV v u → NestedIs h k u
  | .none, v, u, e, r => by unfold nkV at e; subst e; cases (show u = Value.none from r); exact .none
  | .num i, v, u, e, r => by
    unfold nkV at e
    rcases e with e | ⟨b, e, ei⟩
    · subst e; obtain ⟨t, rfl⟩ := (show ∃ t, u = Value.int i t from r); exact .int i t
    · subst e; cases (show u = Value.bool b from r); exact .bool ei
  | .text x, v, u, e, r => by unfold nkV at e; subst e; obtain ⟨t, rfl⟩ := (show ∃ t, u = Value.str x t from r); exact .text x t
  | .tup ks, v, u, e, r => by
    unfold nkV at e
    obtain ⟨a, ys, rfl, rd, q⟩ := e
    cases (show u = Value.ref a from r)
    obtain ⟨z, us, rv, o, go, hc, n, hd⟩ := rd.ok hok
    exact .tup go hc hd (by simpa using nks_is hok q rv)
theorem nks_is (hok : HOk P w H h) : ∀ {ks : List NK} {vs : List V} {us : List Value}, nkVs H ks vs → Vals vs us → NestedAll h ks us
  | [], vs, us, e, r => by unfold nkVs at e; subst e; cases r; exact .nil
  | k :: ks, vs, us, e, r => by
    unfold nkVs at e
    obtain ⟨v, t, rfl, a, b⟩ := e
    cases r with
    | cons r1 r2 => exact .cons (nk_is hok a r1) (nks_is hok b r2)
end
end
/-- a key's own tuple stands at b -/
structure KeyAt (H : Hp) (k : NK) (b : Addr) : Prop where
  at_ : nkV H k (.ref b)
  dp : k.depth ≤ 8
theorem KeyAt.is {P : Program} {w : World} {H : Hp} {h : Heap} {k : NK} {b : Addr} (x : KeyAt H k b) (hok : HOk P w H h) : (nestedKind P w).is h k b := ⟨nk_is hok x.at_ rfl, x.dp⟩
abbrev NP := List (NK × Addr × V)
abbrev relN : (NK × Addr × V) → (NK × Addr × Value) → Prop := fun p q => p.1 = q.1 ∧ p.2.1 = q.2.1 ∧ RelV p.2.2 q.2.2
def dN (P : Program) (w : World) (a : Addr) (ps : NP) (h : Heap) : Prop := (a == sysModules) = false ∧ ps.length ≤ sizeLine ∧ ∃ xs : List (NK × Addr × Value), Paired relN ps xs ∧
  ∃ (o : Obj) (es : Array DictEntry) (ep : Nat), h.get? a = some o ∧ o.ExactDict ∧ o.data = .dict es ep ∧ es.toList = xs.map (entryOfKey (nestedKind P w)) ∧ (xs.map (·.1)).Nodup
/-- the dict at a, as it stands in the abstract heap -/
def dictN (P : Program) (w : World) (a : Addr) (ps : NP) : HO := .ext (dN P w a ps)
def KeysAt (H : Hp) (ps : NP) : Prop := ∀ p ∈ ps, KeyAt H p.1 p.2.1
section
variable {X : Cx} {pins : List (Addr × Obj)} {σ : L2.St} {H : Hp} {s : Shared} {a : Addr} {ps : NP}
theorem relN_keys {xs : List (NK × Addr × Value)} (h : Paired relN ps xs) : ∀ x ∈ xs, ∃ p ∈ ps, p.1 = x.1 ∧ p.2.1 = x.2.1 := by
  induction h with
  | nil => intro x hx; cases hx
  | cons r _ ih =>
    intro x hx
    rcases List.mem_cons.mp hx with e | e
    · subst e; exact ⟨_, List.mem_cons_self, r.1, r.2.1⟩
    · obtain ⟨p, hp, q⟩ := ih x e; exact ⟨p, List.mem_cons_of_mem _ hp, q⟩
theorem dN_at (I : Inv X pins σ H s) (hd : Rd H a (dictN X.prog X.w a ps)) (hk : KeysAt H ps) : (a == sysModules) = false ∧ ps.length ≤ sizeLine ∧ ∃ xs, Paired relN ps xs ∧ s.heap.DictOfH (nestedKind X.prog X.w) a xs := by
  obtain ⟨⟨hs, hl, xs, pr, o, es, ep, go, h1, h2, h3, h4⟩, _⟩ := hd.ok I.hok
  refine ⟨hs, hl, xs, pr, o, es, ep, go, h1, h2, h3, fun x hx => ?_, h4⟩
  obtain ⟨p, hp, e1, e2⟩ := relN_keys pr x hx
  rw [← e1, ← e2]
  exact (hk p hp).is I.hok
def valN (ps : NP) (k : NK) : Option V := (ps.find? fun p => decide (p.1 = k)).map (·.2.2)
def putN (ps : NP) (k : NK) (b : Addr) (v : V) : NP := if (ps.find? fun p => decide (p.1 = k)).isSome then ps.map (fun p => if p.1 = k then (p.1, p.2.1, v) else p) else ps ++ [(k, b, v)]
theorem relN_find {xs : List (NK × Addr × Value)} (h : Paired relN ps xs) (k : NK) : (∀ v, valN ps k = some v → ∃ u, valueAt (pairsH xs) k = some u ∧ RelV v u) ∧ (valN ps k = none → valueAt (pairsH xs) k = none) ∧ (ps.find? fun p => decide (p.1 = k)).isSome = (atKey xs k).isSome := by
  unfold valN valueAt atKey pairsH
  induction h with
  | nil => exact ⟨fun v e => (nomatch e), fun _ => rfl, rfl⟩
  | @cons p q ps xs r _ ih =>
    obtain ⟨e1, e2, e3⟩ := r
    rw [List.map_cons, List.find?_cons, List.find?_cons, List.find?_cons]
    by_cases hk : p.1 = k
    · have hq : q.1 = k := e1.symm.trans hk
      simp only [hk, hq, decide_true]
      exact ⟨fun v e => by cases e; exact ⟨_, rfl, e3⟩, fun e => (nomatch e), rfl⟩
    · have hq : q.1 ≠ k := fun z => hk (e1.trans z)
      simp only [hk, hq, decide_false]
      exact ih
theorem roomN {A : Around} (hu : A.units + 64 < cLine) : (nestedKind X.prog X.w).room A.in1 := by show A.units + 1 + 8 < cLine; omega
end
/-- H holds the dict ps at a -/
structure HasN (X : Cx) (H : Hp) (a : Addr) (ps : NP) : Prop where
  rd : Rd H a (dictN X.prog X.w a ps)
  ks : KeysAt H ps
def rGetN (X : Cx) : V → V → Hp → VK → Prop := fun x y H Q => ∃ a b ps k v, (x = .ref a ∧ y = .ref b) ∧ HasN X H a ps ∧ KeyAt H k b ∧ valN ps k = some v ∧ Q v H
section
variable {X : Cx}
theorem HasN.at {pins : List (Addr × Obj)} {σ : L2.St} {H : Hp} {s : Shared} {a : Addr} {ps : NP} (h : HasN X H a ps) (I : Inv X pins σ H s) : (a == sysModules) = false ∧ ps.length ≤ sizeLine ∧ ∃ xs, Paired relN ps xs ∧ s.heap.DictOfH (nestedKind X.prog X.w) a xs := dN_at I h.rd h.ks
/-- a[b], a dict by tuples -/
def tGetN (X : Cx) (ta tb : TE) : TE := fun σ H Q => ta σ H fun x H1 => tb σ H1 fun y H2 => rGetN X x y H2 Q
theorem pe_getN {o i : Expr} {td ty : TE} {pos : Pos} (hu : X.A.units + 64 < cLine) (ho : PE X o td) (hi : PE X i ty) (hs : NoSl i) : PE X (.Subscript o i pos) (tGetN X td ty) := ⟨fun pins s σ H Q I h => by
  refine subD_of PySem.F.slot_dict_getitem.lookup hs (thn (ho.run pins s σ H _ I h) fun u s1 ⟨x, H1, I1, rx, q1⟩ => thn (hi.run pins s1 σ H1 _ I1 q1) fun iv s2 ⟨y, H2, I2, ry, a, b, ps, k, v, ⟨e1, e2⟩, hd, hk, hv, q2⟩ => ?_)
  subst e1 e2
  cases (show u = Value.ref a from rx)
  cases (show iv = Value.ref b from ry)
  obtain ⟨hs, hl, xs, pr, dd⟩ := hd.at I2
  obtain ⟨w', e, rw'⟩ := (relN_find pr k).1 v hv
  exact ⟨dd.typeIs, getItem_keyed (knd := nestedKind X.prog X.w) (roomN hu) (hk.is I2.hok) ⟨xs, dd, rfl⟩ e ⟨v, H2, I2.tok _, rw', q2⟩⟩⟩
end
end Ws
set_option Elab.async false
set_option linter.all false
set_option maxRecDepth 100000
set_option maxHeartbeats 2000000
set_option autoImplicit false
namespace Ws
open PySem PySem.Spec PyProof.Rows L2
abbrev NR := List (NK × Addr)
abbrev AtN (P : Program) (w : World) (h : Heap) (k : NK) (b : Addr) : Prop := (nestedKind P w).is h k b
section
variable {P : Program} {w : World} {A : Around} {E : Value → Shared → Prop} {s : Shared}
def NoCls (P : Program) (w : World) (n : Nat) (s : Shared) (v : Value) : Prop := ∀ (A : Around) (E : Value → Shared → Prop) (Q : Bool → Shared → Prop), Q false s → wpAny (model P w) A (ofAClassStatement n v) Q E s
def TellsH (P : Program) (w : World) (n : Nat) (s : Shared) (v : Value) : Prop := ∀ (A : Around) (E : Value → Shared → Prop) (Q : Bool → Shared → Prop), (∀ b, Q b s) → wpAny (model P w) A (hashByValue n v) Q E s
theorem NoCls.tup {n m : Nat} {a : Addr} {o : Obj} {vs : Array Value} (g : s.heap.get? a = some o) (c : o.cls = .type "tuple") (d : o.data = .seq vs m) (all : ∀ v ∈ vs.toList, NoCls P w n s v) : NoCls P w (n + 1) s (.ref a) := fun A E Q q => by
  have self : (("tuple" : String) == ("tuple" : String)) = true := by decide
  unfold ofAClassStatement
  refine wpAny_bind (wpAny_typeOf (T := "tuple") ⟨o, g, c⟩ ?_)
  dsimp only
  simp only [self, Bool.not_true, if_true, Bool.false_eq_true, if_false]
  try refine wpAny_bind (wpAny_pure ?_)
  try simp only [Bool.not_true, if_false, Bool.false_eq_true]
  show wpAny _ _ (seqItems? (.ref a) >>= _) _ _ s
  refine wpAny_bind (wpAny_seqItems g d ?_); dsimp only
  refine wpAny_bind ?_
  show wpAny _ _ (forIn vs _ _) _ _ s
  rw [← Array.forIn_toList]
  refine wpAny_forIn_list _ (fun l r t => t = s ∧ r.1 = none ∧ ∀ v ∈ l, NoCls P w n t v) _ ?_ ?_ _ _ ⟨rfl, rfl, all⟩
  · rintro v l r t ⟨et, er, ha⟩
    subst et
    refine wpAny_bind (ha v List.mem_cons_self _ _ _ ?_)
    simp only [if_false, Bool.false_eq_true]
    exact wpAny_pure ⟨rfl, rfl, fun u hu => ha u (List.mem_cons_of_mem _ hu)⟩
  · rintro ⟨r1, r2⟩ t ⟨et, er, _⟩
    simp only at er; subst er; subst et
    exact wpAny_pure q
theorem TellsH.tup {n m : Nat} {a : Addr} {o : Obj} {vs : Array Value} (g : s.heap.get? a = some o) (c : o.cls = .type "tuple") (d : o.data = .seq vs m) (all : ∀ v ∈ vs.toList, TellsH P w n s v) : TellsH P w (n + 1) s (.ref a) := fun A E Q q => by
  unfold hashByValue
  refine wpAny_bind (wpAny_specialOf (T := "tuple") ⟨o, g, c⟩ F.slot_tuple_hash.lookup ?_)
  show wpAny _ _ (seqItems? (.ref a) >>= _) _ _ s
  refine wpAny_bind (wpAny_seqItems g d (wpAny_bind ?_))
  show wpAny _ _ (forIn vs _ _) _ _ s
  rw [← Array.forIn_toList]
  refine wpAny_forIn_list _ (fun l r t => t = s ∧ r.1 = none ∧ ∀ v ∈ l, TellsH P w n t v) _ ?_ ?_ _ _ ⟨rfl, rfl, all⟩
  · rintro v l r t ⟨et, er, ha⟩
    subst et
    refine wpAny_bind (ha v List.mem_cons_self _ _ _ fun b => ?_)
    cases b with
    | true =>
      simp only [Bool.not_true, if_false, Bool.false_eq_true]
      exact wpAny_pure ⟨rfl, rfl, fun u hu => ha u (List.mem_cons_of_mem _ hu)⟩
    | false =>
      simp only [Bool.not_false, if_true]
      exact wpAny_pure (wpAny_pure (q false))
  · rintro ⟨r1, r2⟩ t ⟨et, er, _⟩
    simp only at er; subst er; subst et
    exact wpAny_pure (q true)
def rowN (w : World) (L : NR) : List (Int × Value) := L.map fun p => (p.1.hash w, Value.ref p.2)
structure SetNR (P : Program) (w : World) (h : Heap) (a : Addr) (L : NR) (es : Array (Int × Value)) (ep : Nat) (t : SetTable) : Prop where
  obj : ∃ o, h.get? a = some o ∧ o.ExactSet ∧ o.data = .set es ep t
  row : es.toList = rowN w L
  tab : TabOk t (L.map fun p => p.1.hash w)
  nod : (L.map (·.1)).Nodup
  key : ∀ p ∈ L, AtN P w h p.1 p.2
  led : w.params.followText "set-order" = true ∨ t.led = true
  sp : L.length * 5 < t.mask * 3
  lt : L.length < 64
variable {a : Addr} {L : NR} {es : Array (Int × Value)} {ep : Nat} {t : SetTable}
theorem rowN_len {L : NR} {es : Array (Int × Value)} (h : es.toList = rowN w L) : es.size = L.length := by
  have := congrArg List.length h
  unfold rowN at this
  simpa using this
theorem SetNR.fits (R : SetNR P w s.heap a L es ep t) : t.fits es.size = true := by
  have z1 := R.tab.sz
  have z2 := rowN_len R.row
  have z3 := R.sp
  rw [List.length_map] at z1
  unfold SetTable.fits SetTable.fill
  rw [R.tab.dm, Bool.and_eq_true, decide_eq_true_eq, beq_iff_eq]
  exact ⟨by omega, by show t.place.size + 0 ≤ t.mask; omega⟩
end
end Ws
set_option Elab.async false
set_option linter.all false
set_option maxRecDepth 100000
set_option maxHeartbeats 2000000
set_option autoImplicit false
namespace Ws
open PySem PySem.Spec PyProof.Rows L2
section
variable {P : Program} {w : World} {A : Around} {E : Value → Shared → Prop} {s : Shared}
variable {a : Addr} {L : NR} {es : Array (Int × Value)} {ep : Nat} {t : SetTable}
theorem AtN.mono {h h' : Heap} {k : NK} {b : Addr} (x : AtN P w h k b) (z : ∀ c o vs n, h.get? c = some o → o.data = .seq vs n → h'.get? c = some o) : AtN P w h' k b := ⟨NestedIs.at z k _ x.1, x.2⟩
end
end Ws
set_option Elab.async false
set_option linter.all false
set_option maxRecDepth 100000
set_option maxHeartbeats 2000000
set_option autoImplicit false
namespace Ws
open PySem PySem.Spec PyProof.Rows L2
def sN (w : World) (a : Addr) (L : NR) (h : Heap) : Prop := ∃ (L2 : NR) (es : Array (Int × Value)) (ep : Nat) (t : SetTable), L2.Perm L ∧ ((∃ o, h.get? a = some o ∧ o.ExactSet ∧ o.data = .set es ep t) ∧ es.toList = rowN w L2 ∧ TabOk t (L2.map fun p => p.1.hash w) ∧ (L2.map (·.1)).Nodup) ∧
  (w.params.followText "set-order" = true ∨ t.led = true) ∧ L2.length * 5 < t.mask * 3 ∧ L2.length < 64
def setN (w : World) (a : Addr) (L : NR) : HO := .ext (sN w a L)
theorem sN.len {w : World} {a : Addr} {L : NR} {h : Heap} (x : sN w a L h) : L.length < 64 := by
  obtain ⟨L2, es, ep, t, pm, _, _, _, lt⟩ := x
  rw [← pm.length_eq]
  exact lt
end Ws
set_option Elab.async false
set_option linter.all false
set_option maxRecDepth 100000
namespace Ws
open PySem L2
inductive D where
  | non | bl (b : Bool) | int (i : Int) | str (x : Str) | ty (n : String) | glo (x : Str)
  | tup (xs : List D) | rtp (xs : List D) | lst (xs : List D) | dct (kvs : List (D × D)) | dcT (kvs : List (D × D)) | ins (c : Str) (fs : List (Str × D))
  | set (xs : List D) | scr (ns : List Int) | cell (n : Nat) | exn (c : Str) (fs : List (Str × D)) | lam (cs : List D) | seT (xs : List D)
  | exv (c y : Str) (x : D)
/-- what a cell holds -/
inductive OB where
  | lst (xs : List D) | dct (kvs : List (D × D)) | dcT (kvs : List (D × D)) | ins (c : Str) (fs : List (Str × D)) | set (xs : List D)
abbrev AH := List (Option OB)
def AH.get (h : AH) (n : Nat) : Option OB := (h[n]?).getD none
abbrev Sl := List (Option D)
structure Exc where
  c : Str
  fs : List (Str × D)
inductive Out (α : Type) where
  | ok (a : α) (h : AH) | exc (x : Exc) (h : AH) | bad
/-- cells' addresses; the exception of the suite: its address, its class, its dict -/
structure Rho where
  c : Nat → Option Addr
  x : Option (Addr × Str × Option Addr)
/-- a lambda handed over: its object, its code object and name, what it holds -/
structure LamV where
  f : Addr
  c : Addr
  q : Str
  us : List V
/-- K: the written part; T: the tables of code objects; f: the lambda that was handed over -/
structure Cf where
  P : Program
  w : World
  K : PySem.W.Frag
  T : List (Addr × Str)
  f : Option LamV
mutual
/-- what is a key (nested), and which -/
def nkOf : D → Option NK
  | .non => some .none
  | .bl b => some (.num (if b = true then 1 else 0))
  | .int i => some (.num i)
  | .str x => some (.text x)
  | .tup xs => (nkOfs xs).map .tup
  | .rtp xs => (nkOfs xs).map .tup
  | _ => none
def nkOfs : List D → Option (List NK)
  | [] => some []
  | d :: ds => (match nkOf d, nkOfs ds with
    | some k, some ks => some (k :: ks)
    | _, _ => none)
end
def keyD : Key → D
  | .inl i => .int i
  | .inr x => .str x
mutual
def R (C : Cf) (F : Hp) (ρ : Rho) : D → V → Prop
  | .non, v => v = .non
  | .bl b, v => v = .bl b
  | .int i, v => v = .int i
  | .str x, v => v = .str x
  | .ty n, v => v = .ty n
  | .glo x, v => v = .ref (He.ga C.K x)
  | .tup xs, v => ∃ a ys, v = .ref a ∧ TupP F a ys ∧ Rs C F ρ xs ys
  | .rtp xs, v => ∃ a ys, v = .ref a ∧ F a = some (.tup ys) ∧ Rs C F ρ xs ys
  | .lst xs, v => ∃ a ys, v = .ref a ∧ F a = some (.lst ys) ∧ Rs C F ρ xs ys
  | .dct kvs, v => ∃ a o ks, v = .ref a ∧ F a = some (.frz o (.dK ks)) ∧ Rk C F ρ kvs ks
  | .dcT kvs, v => ∃ a o ks, v = .ref a ∧ F a = some (.frz o (dictN C.P C.w a ks)) ∧ Rt C F ρ kvs ks
  | .ins c fs, v => ∃ a dx gs, v = .ref a ∧ F a = some (.ins (He.ga C.K c) dx gs) ∧ Rf C F ρ fs gs
  | .set xs, v => ∃ (a : Addr) (ks : List Key), v = .ref a ∧ F a = some (SetM C.P C.w a ks) ∧ xs = ks.map keyD
  | .scr ns, v => ∃ a, v = .ref a ∧ SqL C.K F a (ns.map V.int)
  | .cell n, v => ∃ a, v = .ref a ∧ ρ.c n = some a
  | .exn c fs, v => ∃ a od, v = .ref a ∧ ρ.x = some (a, c, od) ∧ ((od = none ∧ fs = []) ∨ ∃ d gs, od = some d ∧ F d = some (.xd gs) ∧ Rf C F ρ fs gs)
  | .lam cs, v => ∃ L, C.f = some L ∧ v = .ref L.f ∧ F L.c = some (LamX.CodeO L.c L.q) ∧ Rs C F ρ cs L.us
  | .seT xs, v => ∃ (a : Addr) (ks : NR), v = .ref a ∧ F a = some (setN C.w a ks) ∧ Rn C F ρ xs ks
  | .exv c y x, v => ∃ a, v = .ref a ∧ ((y = "" ∧ F a = some (ExO (.ref (He.ga C.K c)) a)) ∨ (y ≠ "" ∧ ∃ d u k, F a = some (exo a (He.ga C.K c) (some d)) ∧ F d = some (exd d [(y, u)]) ∧ nkOf x = some k ∧ R C F ρ x u))
def Rs (C : Cf) (F : Hp) (ρ : Rho) : List D → List V → Prop
  | [], vs => vs = []
  | d :: ds, vs => ∃ v r, vs = v :: r ∧ R C F ρ d v ∧ Rs C F ρ ds r
def Rf (C : Cf) (F : Hp) (ρ : Rho) : List (Str × D) → List (Str × V) → Prop
  | [], vs => vs = []
  | (x, d) :: ds, vs => ∃ v r, vs = (x, v) :: r ∧ R C F ρ d v ∧ Rf C F ρ ds r
/-- a dict by ints and texts -/
def Rk (C : Cf) (F : Hp) (ρ : Rho) : List (D × D) → List (Key × V) → Prop
  | [], vs => vs = []
  | (k, d) :: ds, vs => ∃ key v r, vs = (key, v) :: r ∧ k = keyD key ∧ R C F ρ d v ∧ Rk C F ρ ds r
/-- a set of tuples -/
def Rn (C : Cf) (F : Hp) (ρ : Rho) : List D → NR → Prop
  | [], ks => ks = []
  | d :: ds, ks => ∃ k b r, ks = (k, b) :: r ∧ nkOf d = some k ∧ k.depth ≤ 8 ∧ R C F ρ d (.ref b) ∧ Rn C F ρ ds r
/-- a dict by tuples -/
def Rt (C : Cf) (F : Hp) (ρ : Rho) : List (D × D) → NP → Prop
  | [], vs => vs = []
  | (k, d) :: ds, vs => ∃ key b v r, vs = (key, b, v) :: r ∧ nkOf k = some key ∧ key.depth ≤ 8 ∧ R C F ρ k (.ref b) ∧ R C F ρ d v ∧ Rt C F ρ ds r
end
def Sub (F F' : Hp) : Prop := ∀ a o, F a = some o → F' a = some o
theorem Sub.refl (F : Hp) : Sub F F := fun _ _ h => h
theorem Sub.trans {F G H : Hp} (a : Sub F G) (b : Sub G H) : Sub F H := fun x o h => b x o (a x o h)
structure RSub (ρ ρ' : Rho) : Prop where
  c : ∀ n a, ρ.c n = some a → ρ'.c n = some a
  x : ρ'.x = ρ.x
theorem RSub.refl (ρ : Rho) : RSub ρ ρ := ⟨fun _ _ h => h, rfl⟩
theorem RSub.trans {a b c : Rho} (h : RSub a b) (k : RSub b c) : RSub a c := ⟨fun n x e => k.c n x (h.c n x e), k.x.trans h.x⟩
theorem TupP.sub {F F' : Hp} {a : Addr} {ys : List V} (h : TupP F a ys) (s : Sub F F') : TupP F' a ys := let ⟨o, e, n⟩ := h; ⟨o, s _ _ e, n⟩
theorem Sub.sqL {K : PySem.W.Frag} {F F' : Hp} {a : Addr} {xs : List V} (s : Sub F F') (h : SqL K F a xs) : SqL K F' a xs := Same.seq s h
mutual
theorem R.mono {C : Cf} {F F' : Hp} {ρ ρ' : Rho} (s : Sub F F') (r : RSub ρ ρ') : ∀ {d : D} {v : V}, R C F ρ d v → R C F' ρ' d v
  | .non, _, h | .bl _, _, h | .int _, _, h | .str _, _, h | .ty _, _, h | .glo _, _, h => by unfold R at h ⊢; exact h
  | .tup _, _, h => by unfold R at h ⊢; obtain ⟨a, ys, e, f, q⟩ := h; exact ⟨a, ys, e, f.sub s, Rs.mono s r q⟩
  | .rtp _, _, h => by unfold R at h ⊢; obtain ⟨a, ys, e, f, q⟩ := h; exact ⟨a, ys, e, s _ _ f, Rs.mono s r q⟩
  | .lst _, _, h => by unfold R at h ⊢; obtain ⟨a, ys, e, f, q⟩ := h; exact ⟨a, ys, e, s _ _ f, Rs.mono s r q⟩
  | .dct _, _, h => by unfold R at h ⊢; obtain ⟨a, o, ks, e, f, q⟩ := h; exact ⟨a, o, ks, e, s _ _ f, Rk.mono s r q⟩
  | .dcT _, _, h => by unfold R at h ⊢; obtain ⟨a, o, ks, e, f, q⟩ := h; exact ⟨a, o, ks, e, s _ _ f, Rt.mono s r q⟩
  | .ins _ _, _, h => by unfold R at h ⊢; obtain ⟨a, dx, gs, e, f, q⟩ := h; exact ⟨a, dx, gs, e, s _ _ f, Rf.mono s r q⟩
  | .set _, _, h => by unfold R at h ⊢; obtain ⟨a, ks, e, f, q⟩ := h; exact ⟨a, ks, e, s _ _ f, q⟩
  | .scr _, _, h => by unfold R at h ⊢; obtain ⟨a, e, f⟩ := h; exact ⟨a, e, s.sqL f⟩
  | .cell n, _, h => by unfold R at h ⊢; obtain ⟨a, e, f⟩ := h; exact ⟨a, e, r.c n a f⟩
  | .exn _ _, _, h => by
    unfold R at h ⊢
    obtain ⟨a, od, e, f, z⟩ := h
    refine ⟨a, od, e, r.x.trans f, ?_⟩
    rcases z with z | ⟨d, gs, e1, e2, q⟩
    · exact .inl z
    · exact .inr ⟨d, gs, e1, s _ _ e2, Rf.mono s r q⟩
  | .lam _, _, h => by unfold R at h ⊢; obtain ⟨L, e1, e2, e3, q⟩ := h; exact ⟨L, e1, e2, s _ _ e3, Rs.mono s r q⟩
  | .seT _, _, h => by unfold R at h ⊢; obtain ⟨a, ks, e, f, q⟩ := h; exact ⟨a, ks, e, s _ _ f, Rn.mono s r q⟩
  | .exv _ _ x, _, h => by
    unfold R at h ⊢
    obtain ⟨a, e, z⟩ := h
    refine ⟨a, e, ?_⟩
    rcases z with ⟨z1, z2⟩ | ⟨z1, d, u, k, z2, z3, z4, z5⟩
    · exact .inl ⟨z1, s _ _ z2⟩
    · exact .inr ⟨z1, d, u, k, s _ _ z2, s _ _ z3, z4, R.mono s r z5⟩
theorem Rs.mono {C : Cf} {F F' : Hp} {ρ ρ' : Rho} (s : Sub F F') (r : RSub ρ ρ') : ∀ {d : List D} {v : List V}, Rs C F ρ d v → Rs C F' ρ' d v
  | [], _, h => by unfold Rs at h ⊢; exact h
  | _ :: _, _, h => by unfold Rs at h ⊢; obtain ⟨v, t, e, a, b⟩ := h; exact ⟨v, t, e, R.mono s r a, Rs.mono s r b⟩
theorem Rf.mono {C : Cf} {F F' : Hp} {ρ ρ' : Rho} (s : Sub F F') (r : RSub ρ ρ') : ∀ {d : List (Str × D)} {v : List (Str × V)}, Rf C F ρ d v → Rf C F' ρ' d v
  | [], _, h => by unfold Rf at h ⊢; exact h
  | (_, _) :: _, _, h => by unfold Rf at h ⊢; obtain ⟨v, t, e, a, b⟩ := h; exact ⟨v, t, e, R.mono s r a, Rf.mono s r b⟩
theorem Rk.mono {C : Cf} {F F' : Hp} {ρ ρ' : Rho} (s : Sub F F') (r : RSub ρ ρ') : ∀ {d : List (D × D)} {v : List (Key × V)}, Rk C F ρ d v → Rk C F' ρ' d v
  | [], _, h => by unfold Rk at h ⊢; exact h
  | (_, _) :: _, _, h => by unfold Rk at h ⊢; obtain ⟨k, v, t, e, ek, a, b⟩ := h; exact ⟨k, v, t, e, ek, R.mono s r a, Rk.mono s r b⟩
theorem Rn.mono {C : Cf} {F F' : Hp} {ρ ρ' : Rho} (s : Sub F F') (r : RSub ρ ρ') : ∀ {d : List D} {v : NR}, Rn C F ρ d v → Rn C F' ρ' d v
  | [], _, h => by unfold Rn at h ⊢; exact h
  | _ :: _, _, h => by unfold Rn at h ⊢; obtain ⟨k, b, t, e, ek, ed, rk, a⟩ := h; exact ⟨k, b, t, e, ek, ed, R.mono s r rk, Rn.mono s r a⟩
theorem Rt.mono {C : Cf} {F F' : Hp} {ρ ρ' : Rho} (s : Sub F F') (r : RSub ρ ρ') : ∀ {d : List (D × D)} {v : NP}, Rt C F ρ d v → Rt C F' ρ' d v
  | [], _, h => by unfold Rt at h ⊢; exact h
  | (_, _) :: _, _, h => by unfold Rt at h ⊢; obtain ⟨k, b0, v, t, e, ek, ed, rk, a, b⟩ := h; exact ⟨k, b0, v, t, e, ek, ed, R.mono s r rk, R.mono s r a, Rt.mono s r b⟩
end
section
variable {C : Cf} {F H : Hp} {ρ : Rho}
mutual
theorem nk_rel (sb : Sub F H) : ∀ {d : D} {v : V} {k : NK}, R C F ρ d v → nkOf d = some k → nkV H k v
  | .non, v, k, r, e => by unfold R at r; unfold nkOf at e; cases e; unfold nkV; exact r
  | .bl b, v, k, r, e => by unfold R at r; unfold nkOf at e; cases e; unfold nkV; exact .inr ⟨b, r, rfl⟩
  | .int i, v, k, r, e => by unfold R at r; unfold nkOf at e; cases e; unfold nkV; exact .inl r
  | .str x, v, k, r, e => by unfold R at r; unfold nkOf at e; cases e; unfold nkV; exact r
  | .tup xs, v, k, r, e => by
    unfold R at r
    unfold nkOf at e
    obtain ⟨a, ys, rfl, ⟨o, f, _⟩, rr⟩ := r
    cases q : nkOfs xs with
    | none => rw [q] at e; cases e
    | some ks => rw [q] at e; cases e; unfold nkV; exact ⟨a, ys, rfl, .inr ⟨o, sb _ _ f⟩, nks_rel sb rr q⟩
  | .rtp xs, v, k, r, e => by
    unfold R at r
    unfold nkOf at e
    obtain ⟨a, ys, rfl, f, rr⟩ := r
    cases q : nkOfs xs with
    | none => rw [q] at e; cases e
    | some ks => rw [q] at e; cases e; unfold nkV; exact ⟨a, ys, rfl, .inl (sb _ _ f), nks_rel sb rr q⟩
  | .ty _, _, _, _, e | .glo _, _, _, _, e | .lst _, _, _, _, e | .dct _, _, _, _, e | .dcT _, _, _, _, e | .ins _ _, _, _, _, e | .set _, _, _, _, e | .scr _, _, _, _, e | .cell _, _, _, _, e | .exn _ _, _, _, _, e | .lam _, _, _, _, e | .seT _, _, _, _, e | .exv _ _ _, _, _, _, e => by unfold nkOf at e; cases e
theorem nks_rel (sb : Sub F H) : ∀ {ds : List D} {vs : List V} {ks : List NK}, Rs C F ρ ds vs → nkOfs ds = some ks → nkVs H ks vs
  | [], vs, ks, r, e => by unfold Rs at r; unfold nkOfs at e; cases e; unfold nkVs; exact r
  | d :: ds, vs, ks, r, e => by
    unfold Rs at r
    unfold nkOfs at e
    obtain ⟨v, t, rfl, a, b⟩ := r
    cases q1 : nkOf d with
    | none => rw [q1] at e; cases e
    | some k =>
      cases q2 : nkOfs ds with
      | none => rw [q1, q2] at e; cases e
      | some ks => rw [q1, q2] at e; cases e; unfold nkVs; exact ⟨v, t, rfl, nk_rel sb a q1, nks_rel sb b q2⟩
end
mutual
theorem R.free {ρ' : Rho} : ∀ {d : D} {v : V} {k : NK}, nkOf d = some k → R C F ρ d v → R C F ρ' d v
  | .non, v, k, e, r => by unfold R at r ⊢; exact r
  | .bl b, v, k, e, r => by unfold R at r ⊢; exact r
  | .int i, v, k, e, r => by unfold R at r ⊢; exact r
  | .str x, v, k, e, r => by unfold R at r ⊢; exact r
  | .tup xs, v, k, e, r => by
    unfold R at r ⊢
    unfold nkOf at e
    obtain ⟨a, ys, rfl, f, rr⟩ := r
    cases q : nkOfs xs with
    | none => rw [q] at e; cases e
    | some ks => exact ⟨a, ys, rfl, f, Rs.free q rr⟩
  | .rtp xs, v, k, e, r => by
    unfold R at r ⊢
    unfold nkOf at e
    obtain ⟨a, ys, rfl, f, rr⟩ := r
    cases q : nkOfs xs with
    | none => rw [q] at e; cases e
    | some ks => exact ⟨a, ys, rfl, f, Rs.free q rr⟩
  | .ty _, _, _, e, _ | .glo _, _, _, e, _ | .lst _, _, _, e, _ | .dct _, _, _, e, _ | .dcT _, _, _, e, _ | .ins _ _, _, _, e, _ | .set _, _, _, e, _ | .scr _, _, _, e, _ | .cell _, _, _, e, _ | .exn _ _, _, _, e, _ | .lam _, _, _, e, _ | .seT _, _, _, e, _ | .exv _ _ _, _, _, e, _ => by unfold nkOf at e; cases e
theorem Rs.free {ρ' : Rho} : ∀ {ds : List D} {vs : List V} {ks : List NK}, nkOfs ds = some ks → Rs C F ρ ds vs → Rs C F ρ' ds vs
  | [], vs, ks, e, r => by unfold Rs at r ⊢; exact r
  | d :: ds, vs, ks, e, r => by
    unfold Rs at r ⊢
    unfold nkOfs at e
    obtain ⟨v, t, rfl, a, b⟩ := r
    cases q1 : nkOf d with
    | none => rw [q1] at e; cases e
    | some k =>
      cases q2 : nkOfs ds with
      | none => rw [q1, q2] at e; cases e
      | some ks => exact ⟨v, t, rfl, R.free q1 a, Rs.free q2 b⟩
end
theorem Rn.free {ρ' : Rho} : ∀ {ds : List D} {ks : NR}, Rn C F ρ ds ks → Rn C F ρ' ds ks
  | [], _, h => by unfold Rn at h ⊢; exact h
  | _ :: _, _, h => by unfold Rn at h ⊢; obtain ⟨k, b, t, e, ek, ed, rk, a⟩ := h; exact ⟨k, b, t, e, ek, ed, rk.free ek, Rn.free a⟩
theorem Rn.len : ∀ {ds : List D} {ks : NR}, Rn C F ρ ds ks → ds.length = ks.length
  | [], ks, h => by unfold Rn at h; subst h; rfl
  | d :: ds, ks, h => by
    unfold Rn at h
    obtain ⟨key, b, r, rfl, ek, ed, rk, hr⟩ := h
    simp [Rn.len hr]
theorem Rt.keysAt (sb : Sub F H) : ∀ {kvs : List (D × D)} {ps : NP}, Rt C F ρ kvs ps → KeysAt H ps
  | [], ps, h => by unfold Rt at h; subst h; intro p hp; cases hp
  | (k, d) :: ds, ps, h => by
    unfold Rt at h
    obtain ⟨key, b, v, r, rfl, ek, ed, rk, _, hr⟩ := h
    intro p hp
    rcases List.mem_cons.mp hp with e | e
    · subst e; exact ⟨nk_rel sb rk ek, ed⟩
    · exact Rt.keysAt sb hr p e
end
end Ws
set_option Elab.async false
set_option linter.all false
set_option maxRecDepth 100000
namespace Ws
open PySem L2
structure Sx where
  F : Hp
  ρ : Rho
  H : Hp
  ah : AH
def OR (C : Cf) (F : Hp) (ρ : Rho) (H : Hp) (a : Addr) : OB → Prop
  | .lst xs => ∃ ys, H a = some (.lst ys) ∧ Rs C F ρ xs ys
  | .dct kvs => ∃ ks, H a = some (.dK ks) ∧ Rk C F ρ kvs ks
  | .dcT kvs => ∃ ks, H a = some (dictN C.P C.w a ks) ∧ Rt C F ρ kvs ks
  | .ins c fs => ∃ dx gs, H a = some (.ins (He.ga C.K c) dx gs) ∧ Rf C F ρ fs gs
  | .set xs => ∃ (ks : List Key), H a = some (SetM C.P C.w a ks) ∧ xs = ks.map keyD
theorem OR.mono {C : Cf} {F F' : Hp} {ρ ρ' : Rho} {H H' : Hp} {a : Addr} {ob : OB} (s : Sub F F') (r : RSub ρ ρ') (e : H' a = H a) (h : OR C F ρ H a ob) : OR C F' ρ' H' a ob := by
  cases ob with
  | lst xs => obtain ⟨ys, q, z⟩ := h; exact ⟨ys, e.trans q, Rs.mono s r z⟩
  | dct kvs => obtain ⟨ks, q, z⟩ := h; exact ⟨ks, e.trans q, Rk.mono s r z⟩
  | dcT kvs => obtain ⟨ks, q, z⟩ := h; exact ⟨ks, e.trans q, Rt.mono s r z⟩
  | ins c fs => obtain ⟨dx, gs, q, z⟩ := h; exact ⟨dx, gs, e.trans q, Rf.mono s r z⟩
  | set xs => obtain ⟨ks, q, z⟩ := h; exact ⟨ks, e.trans q, z⟩
/-- not a table of code objects -/
def NT (o : HO) : Prop := ∀ ps, o ≠ .tbl ps
theorem OR.thereN {C : Cf} {F : Hp} {ρ : Rho} {H : Hp} {a : Addr} {ob : OB} (h : OR C F ρ H a ob) : ∃ o, H a = some o ∧ NT o := by
  cases ob with
  | lst xs => obtain ⟨ys, q, z⟩ := h; exact ⟨_, q, fun _ z => nomatch z⟩
  | dct kvs => obtain ⟨ks, q, z⟩ := h; exact ⟨_, q, fun _ z => nomatch z⟩
  | dcT kvs => obtain ⟨ks, q, z⟩ := h; exact ⟨_, q, fun ps z => nomatch (show HO.tbl ps = HO.ext _ from z.symm)⟩
  | ins c fs => obtain ⟨dx, gs, q, z⟩ := h; exact ⟨_, q, fun _ z => nomatch z⟩
  | set xs => obtain ⟨ks, q, z⟩ := h; exact ⟨_, q, fun ps z => nomatch (show HO.tbl ps = HO.ext _ from z.symm)⟩
theorem OR.there {C : Cf} {F : Hp} {ρ : Rho} {H : Hp} {a : Addr} {ob : OB} (h : OR C F ρ H a ob) : ∃ o, H a = some o := let ⟨o, e, _⟩ := h.thereN; ⟨o, e⟩
/-- the table at P: each code object that it tells bears the name q and stays -/
def TabF (F H : Hp) (P : Addr) (q : Str) : Prop := ∃ ps : Array Value, H P = some (.tbl ps) ∧ F P = none ∧ TriplesOk ps.toList ∧ ∀ (pos : Pos) (cv : Value), codeAmong pos ps.toList = some cv → ∃ c, cv = .ref c ∧ F c = some (LamX.CodeO c q)
theorem TabF.step {F F' H H' : Hp} {P : Addr} {q : Str} (t : TabF F H P q) (sb : Sub F F') (e : H' P = H P) (n : F' P = none) : TabF F' H' P q := by
  obtain ⟨ps, h1, _, h2, h3⟩ := t
  refine ⟨ps, e.trans h1, n, h2, fun pos cv hc => ?_⟩
  obtain ⟨c, e1, e2⟩ := h3 pos cv hc
  exact ⟨c, e1, sb _ _ e2⟩
def TabsF (T : List (Addr × Str)) (F H : Hp) : Prop := ∀ p ∈ T, TabF F H p.1 p.2
/-- a table is no object of another kind -/
theorem TabF.ne {F H : Hp} {P a : Addr} {q : Str} {o : HO} (t : TabF F H P q) (e : H a = some o) (n : NT o) : P ≠ a := by
  obtain ⟨ps, h1, _⟩ := t
  intro z
  rw [z, e] at h1
  exact n ps (Option.some.inj h1)
theorem TabF.ne0 {F H : Hp} {P a : Addr} {q : Str} (t : TabF F H P q) (e : H a = none) : P ≠ a := by
  obtain ⟨ps, h1, _⟩ := t
  intro z
  rw [z, e] at h1
  cases h1
theorem TabF.nF {F H : Hp} {P : Addr} {q : Str} (t : TabF F H P q) : F P = none := let ⟨_, _, n, _⟩ := t; n
structure Good (C : Cf) (s : Sx) : Prop where
  sub : Sub s.F s.H
  tups : ∀ a ys, s.H a = some (.tup ys) → s.F a = some (.tup ys)
  own : ∀ n ob, s.ah.get n = some ob → ∃ a, s.ρ.c n = some a ∧ s.F a = none ∧ OR C s.F s.ρ s.H a ob
  inj : ∀ n m a, s.ah.get n ≠ none → s.ah.get m ≠ none → s.ρ.c n = some a → s.ρ.c m = some a → n = m
  dom : ∀ n, s.ah.length ≤ n → s.ρ.c n = none
  tabs : TabsF C.T s.F s.H
structure Fwd (s s' : Sx) : Prop where
  sub : Sub s.F s'.F
  rho : RSub s.ρ s'.ρ
  frame : ∀ a o, s.H a = some o → NT o → (∀ n, s.ρ.c n = some a → s.ah.get n = none) → s'.H a = some o
  fresh : ∀ n a, s'.ρ.c n = some a → s'.ah.get n ≠ none → (s.ρ.c n = some a ∧ s.ah.get n ≠ none) ∨ s.H a = none
  there : ∀ a o, s.H a = some o → ∃ o', s'.H a = some o' ∧ (NT o → NT o')
  still : ∀ a o, s'.F a = some o → s.F a = some o ∨ s.H a = none ∨ ∃ n, s.ρ.c n = some a ∧ s.ah.get n ≠ none
structure Mon (s t : Sx) : Prop where
  sub : Sub s.F t.F
  rho : RSub s.ρ t.ρ
theorem Fwd.mon {s t : Sx} (f : Fwd s t) : Mon s t := ⟨f.sub, f.rho⟩
theorem Mon.refl (s : Sx) : Mon s s := ⟨.refl _, .refl _⟩
theorem Mon.trans {s t u : Sx} (a : Mon s t) (b : Mon t u) : Mon s u := ⟨a.sub.trans b.sub, a.rho.trans b.rho⟩
theorem R.mon {C : Cf} {s t : Sx} {d : D} {v : V} (f : Mon s t) (h : R C s.F s.ρ d v) : R C t.F t.ρ d v := R.mono f.sub f.rho h
theorem Rs.mon {C : Cf} {s t : Sx} {d : List D} {v : List V} (f : Mon s t) (h : Rs C s.F s.ρ d v) : Rs C t.F t.ρ d v := Rs.mono f.sub f.rho h
theorem Fwd.refl (s : Sx) : Fwd s s := ⟨.refl _, .refl _, fun _ _ h _ _ => h, fun _ _ h k => .inl ⟨h, k⟩, fun _ o h => ⟨o, h, id⟩, fun _ _ h => .inl h⟩
theorem Fwd.trans {s t u : Sx} (a : Fwd s t) (b : Fwd t u) : Fwd s u where
  sub := a.sub.trans b.sub
  rho := a.rho.trans b.rho
  frame := fun x o h nt k => b.frame x o (a.frame x o h nt k) nt fun n e => by
    cases q : t.ah.get n with
    | none => rfl
    | some ob =>
      rcases a.fresh n x e (by rw [q]; exact fun z => nomatch z) with ⟨z1, z2⟩ | z
      · exact absurd (k n z1) z2
      · rw [h] at z; cases z
  fresh := fun n x e k => by
    rcases b.fresh n x e k with ⟨z1, z2⟩ | z
    · exact a.fresh n x z1 z2
    · refine .inr ?_
      cases q : s.H x with
      | none => rfl
      | some o =>
        obtain ⟨o', z', _⟩ := a.there x o q
        rw [z] at z'; cases z'
  there := fun x o h => by
    obtain ⟨o', z, n1⟩ := a.there x o h
    obtain ⟨o2, z2, n2⟩ := b.there x o' z
    exact ⟨o2, z2, fun n => n2 (n1 n)⟩
  still := fun x o h => by
    rcases b.still x o h with z | z | ⟨n, z1, z2⟩
    · exact a.still x o z
    · refine .inr (.inl ?_)
      cases q : s.H x with
      | none => rfl
      | some o =>
        obtain ⟨o', z', _⟩ := a.there x o q
        rw [z] at z'; cases z'
    · rcases a.fresh n x z1 z2 with ⟨y1, y2⟩ | y
      · exact .inr (.inr ⟨n, y1, y2⟩)
      · exact .inr (.inl y)
def RS (C : Cf) (s : Sx) (σ : St) (dσ : Sl) : Prop := σ.length = dσ.length ∧ ∀ (i : Nat) (d : D), dσ[i]? = some (some d) → ∃ v : V, σ[i]? = some (some v) ∧ R C s.F s.ρ d v
theorem R.fwd {C : Cf} {s s' : Sx} {d : D} {v : V} (f : Fwd s s') (h : R C s.F s.ρ d v) : R C s'.F s'.ρ d v := R.mono f.sub f.rho h
theorem Rs.fwd {C : Cf} {s s' : Sx} {d : List D} {v : List V} (f : Fwd s s') (h : Rs C s.F s.ρ d v) : Rs C s'.F s'.ρ d v := Rs.mono f.sub f.rho h
theorem RS.mon {C : Cf} {s s' : Sx} {σ : St} {dσ : Sl} (f : Mon s s') (h : RS C s σ dσ) : RS C s' σ dσ := ⟨h.1, fun i d e => let ⟨v, a, b⟩ := h.2 i d e; ⟨v, a, b.mon f⟩⟩
theorem RS.fwd {C : Cf} {s s' : Sx} {σ : St} {dσ : Sl} (f : Fwd s s') (h : RS C s σ dσ) : RS C s' σ dσ := ⟨h.1, fun i d e => let ⟨v, a, b⟩ := h.2 i d e; ⟨v, a, b.fwd f⟩⟩
theorem RS.set {C : Cf} {s : Sx} {σ : St} {dσ : Sl} {i : Nat} {d : D} {v : V} (h : RS C s σ dσ) (r : R C s.F s.ρ d v) : RS C s (σ.set i (some v)) (dσ.set i (some d)) := by
  refine ⟨by simp [h.1], fun j d' e => ?_⟩
  rw [List.getElem?_set] at e ⊢
  by_cases hj : i = j
  · rw [if_pos hj] at e ⊢
    split at e
    · rename_i hlt
      cases e
      exact ⟨v, by rw [if_pos (by rw [h.1]; exact hlt)], r⟩
    · cases e
  · rw [if_neg hj] at e ⊢
    exact h.2 j d' e
/-- a thing that stays -/
def Sx.frz (s : Sx) (p : Addr) (o : HO) : Sx := { s with F := upd s.F p o, H := upd s.H p o }
theorem Good.notF {C : Cf} {s : Sx} (g : Good C s) {p : Addr} (h : s.H p = none) : s.F p = none := by
  cases q : s.F p with
  | none => rfl
  | some o => rw [g.sub p o q] at h; cases h
theorem Good.notC {C : Cf} {s : Sx} (g : Good C s) {p : Addr} (h : s.H p = none) {n : Nat} (e : s.ρ.c n = some p) : s.ah.get n = none := by
  cases q : s.ah.get n with
  | none => rfl
  | some ob =>
    obtain ⟨a, e1, _, o⟩ := g.own n ob q
    rw [e] at e1; cases e1
    obtain ⟨o', z⟩ := o.there
    rw [h] at z; cases z
theorem Sub.upd' {F : Hp} {p : Addr} {o : HO} (h : F p = none) : Sub F (upd F p o) := fun a u e => by
  rw [upd_ne (ne_of_none e h)]; exact e
theorem Good.frz {C : Cf} {s : Sx} (g : Good C s) {p : Addr} {o : HO} (h : s.H p = none) : Good C (s.frz p o) where
  sub := fun a u e => by
    by_cases hp : a = p
    · subst hp; rw [show (s.frz a o).F a = _ from upd_same] at e; rw [show (s.frz a o).H a = _ from upd_same]; exact e
    · rw [show (s.frz p o).F a = _ from upd_ne hp] at e; rw [show (s.frz p o).H a = _ from upd_ne hp]; exact g.sub a u e
  tups := fun a ys e => by
    by_cases hp : a = p
    · subst hp; rw [show (s.frz a o).H a = _ from upd_same] at e; rw [show (s.frz a o).F a = _ from upd_same]; exact e
    · rw [show (s.frz p o).H a = _ from upd_ne hp] at e; rw [show (s.frz p o).F a = _ from upd_ne hp]; exact g.tups a ys e
  own := fun n ob e => by
    obtain ⟨a, e1, e2, e3⟩ := g.own n ob e
    obtain ⟨o', z⟩ := e3.there
    have ne : a ≠ p := ne_of_none z h
    exact ⟨a, e1, (show (s.frz p o).F a = none by rw [show (s.frz p o).F a = _ from upd_ne ne]; exact e2), e3.mono (Sub.upd' (g.notF h)) (.refl _) (show (s.frz p o).H a = s.H a from upd_ne ne)⟩
  inj := g.inj
  dom := g.dom
  tabs := fun p' hp => by
    have t := g.tabs p' hp
    have ne := t.ne0 h
    exact t.step (Sub.upd' (g.notF h)) (show (s.frz p o).H p'.1 = _ from upd_ne ne) (show (s.frz p o).F p'.1 = none from (upd_ne ne).trans t.nF)
theorem Fwd.frz {C : Cf} {s : Sx} (g : Good C s) {p : Addr} {o : HO} (h : s.H p = none) : Fwd s (s.frz p o) :=
  ⟨Sub.upd' (g.notF h), .refl _, fun a u e _ _ => by rw [show (s.frz p o).H a = _ from upd_ne (ne_of_none e h)]; exact e, fun _ _ e k => .inl ⟨e, k⟩, fun a u e => ⟨u, by rw [show (s.frz p o).H a = _ from upd_ne (ne_of_none e h)]; exact e, id⟩, fun a u e => by
    by_cases hp : a = p
    · subst hp; exact .inr (.inl h)
    · rw [show (s.frz p o).F a = _ from upd_ne hp] at e; exact .inl e⟩
/-- a new cell -/
def Rho.put (ρ : Rho) (n : Nat) (p : Addr) : Rho := { ρ with c := fun k => if k = n then some p else ρ.c k }
def Sx.own (s : Sx) (p : Addr) (o : HO) (ob : OB) : Sx := { F := s.F, ρ := s.ρ.put s.ah.length p, H := upd s.H p o, ah := s.ah ++ [some ob] }
theorem RSub.put {ρ : Rho} {n : Nat} {p : Addr} (h : ρ.c n = none) : RSub ρ (ρ.put n p) := ⟨fun k a e => by
  unfold Rho.put
  by_cases q : k = n
  · subst q; rw [h] at e; cases e
  · simp only [if_neg q]; exact e, rfl⟩
/-- a cell is written -/
def AH.put (h : AH) (n : Nat) (ob : OB) : AH := h.set n (some ob)
end Ws
set_option Elab.async false
set_option linter.all false
set_option maxRecDepth 100000
namespace Ws
open PySem L2
abbrev M (α : Type) := Sl → AH → Out α
def Out.bind {α β : Type} (o : Out α) (k : α → AH → Out β) : Out β := match o with
  | .ok a h => k a h
  | .exc x h => .exc x h
  | .bad => .bad
@[simp] theorem Out.bind_ok {α β : Type} (a : α) (h : AH) (k : α → AH → Out β) : (Out.ok a h).bind k = k a h := rfl
@[simp] theorem Out.bind_exc {α β : Type} (x : Exc) (h : AH) (k : α → AH → Out β) : (Out.exc x h).bind k = .exc x h := rfl
@[simp] theorem Out.bind_bad {α β : Type} (k : α → AH → Out β) : (Out.bad : Out α).bind k = .bad := rfl
def XR (C : Cf) (s : Sx) (x : Exc) (od : Option Addr) : Prop := (od = none ∧ x.fs = []) ∨ ∃ d gs, od = some d ∧ s.F d = some (.xd gs) ∧ Rf C s.F s.ρ x.fs gs
abbrev Rl (α β : Type) := Sx → α → β → Prop
abbrev rD (C : Cf) : Rl D V := fun s d v => R C s.F s.ρ d v
abbrev rDs (C : Cf) : Rl (List D) (List V) := fun s d v => Rs C s.F s.ρ d v
abbrev rB : Rl Bool Bool := fun _ a b => a = b
section
variable {α β γ δ : Type}
def Post (C : Cf) (W : WX) (σ : St) (rl : Rl α β) (s : Sx) (Q : β → Hp → Prop) : Out α → Prop
  | .ok d h => ∀ s' v, s'.ah = h → Fwd s s' → Good C s' → rl s' d v → Q v s'.H
  | .exc x h => ∀ s' od, s'.ah = h → Fwd s s' → Good C s' → XR C s' x od → W (.ref (He.ga C.K x.c)) od σ s'.H
  | .bad => False
/-- the reading of what reckons m -/
def tG (C : Cf) (ε : Option (Addr × Str × Option Addr)) (W : WX) (rl : Rl α β) (m : M α) : St → Hp → (β → Hp → Prop) → Prop := fun σ H Q =>
  ∃ s dσ, s.H = H ∧ s.ρ.x = ε ∧ Good C s ∧ RS C s σ dσ ∧ Post C W σ rl s Q (m dσ s.ah)
variable {C : Cf} {ε : Option (Addr × Str × Option Addr)} {W : WX} {σ : St}
theorem Post.fwd {rl : Rl α β} {s s' : Sx} {Q : β → Hp → Prop} {o : Out α} (f : Fwd s s') (h : Post C W σ rl s Q o) : Post C W σ rl s' Q o := by
  cases o with
  | ok d h' => exact fun t v e g k r => h t v e (f.trans g) k r
  | exc x h' => exact fun t od e g k r => h t od e (f.trans g) k r
  | bad => exact h
/-- the value as it stands -/
theorem Post.here {rl : Rl α β} {s : Sx} {Q : β → Hp → Prop} {d : α} {v : β} (g : Good C s) (h : Post C W σ rl s Q (.ok d s.ah)) (r : rl s d v) : Q v s.H := h s v rfl (.refl s) g r
theorem tG.mk {rl : Rl α β} {m : M α} {s : Sx} {dσ : Sl} {Q : β → Hp → Prop} (ex : s.ρ.x = ε) (g : Good C s) (rs : RS C s σ dσ) (h : Post C W σ rl s Q (m dσ s.ah)) : tG C ε W rl m σ s.H Q := ⟨s, dσ, rfl, ex, g, rs, h⟩
/-- one behind another -/
theorem Post.bind {r1 : Rl α β} {r2 : Rl γ δ} {m : M α} {k : α → AH → Out γ} {s : Sx} {dσ : Sl} {Q : δ → Hp → Prop} {T : β → Hp → Prop} (ex : s.ρ.x = ε) (g : Good C s) (rs : RS C s σ dσ)
    (h : Post C W σ r2 s Q ((m dσ s.ah).bind k)) (hk : ∀ s' a b, s'.ρ.x = ε → Fwd s s' → Good C s' → RS C s' σ dσ → r1 s' a b → Post C W σ r2 s' Q (k a s'.ah) → T b s'.H) : tG C ε W r1 m σ s.H T := by
  refine ⟨s, dσ, rfl, ex, g, rs, ?_⟩
  cases e : m dσ s.ah with
  | ok a h' =>
    rw [e] at h
    intro s' b e1 f g' r
    subst e1
    exact hk s' a b (f.rho.x.trans ex) f g' (rs.fwd f) r (Post.fwd f h)
  | exc x h' =>
    rw [e] at h
    exact h
  | bad =>
    rw [e] at h
    exact h
end
theorem _root_.L2.PE.imp {X : Cx} {e : Expr} {t t' : TE} (h : PE X e t) (k : ∀ σ H Q, t' σ H Q → t σ H Q) : PE X e t' := ⟨fun pins s σ H Q I q => h.run pins s σ H Q I (k σ H Q q)⟩
theorem _root_.L2.PT.imp {X : Cx} {e : Expr} {t t' : TT} (h : PT X e t) (k : ∀ σ H Q, t' σ H Q → t σ H Q) : PT X e t' := ⟨fun pins s σ H Q I q => h.run pins s σ H Q I (k σ H Q q)⟩
theorem _root_.L2.PW.imp {X : Cx} {e : Expr} {t t' : TT} (h : PW X e t) (k : ∀ σ H Q, t' σ H Q → t σ H Q) : PW X e t' := ⟨fun wh pins s σ H Q I q => h.run wh pins s σ H Q I (k σ H Q q)⟩
theorem _root_.L2.PA.imp {X : Cx} {e : List Expr} {t t' : TA} (h : PA X e t) (k : ∀ σ H Q, t' σ H Q → t σ H Q) : PA X e t' := ⟨fun pos pins s σ H Q I q => h.run pos pins s σ H Q I (k σ H Q q)⟩
theorem _root_.L2.PS.imp {X : Cx} {e : Stmt} {t t' : TS} (h : PS X e t) (k : ∀ D σ H, t' D σ H → t D σ H) : PS X e t' := ⟨fun pins s σ H D I q => h.run pins s σ H D I (k D σ H q)⟩
theorem _root_.L2.PSs.imp {X : Cx} {e : List Stmt} {t t' : TS} (h : PSs X e t) (k : ∀ D σ H, t' D σ H → t D σ H) : PSs X e t' := ⟨fun pins s σ H D I q => h.run pins s σ H D I (k D σ H q)⟩
/-- an expression reckons m -/
abbrev ME (X : Cx) (C : Cf) (ε : Option (Addr × Str × Option Addr)) (W : WX) (e : Expr) (m : M D) : Prop := PE X e (tG C ε W (rD C) m)
abbrev MT (X : Cx) (C : Cf) (ε : Option (Addr × Str × Option Addr)) (W : WX) (e : Expr) (m : M Bool) : Prop := PT X e (tG C ε W rB m)
abbrev MW (X : Cx) (C : Cf) (ε : Option (Addr × Str × Option Addr)) (W : WX) (e : Expr) (m : M Bool) : Prop := PW X e (tG C ε W rB m)
abbrev MA (X : Cx) (C : Cf) (ε : Option (Addr × Str × Option Addr)) (W : WX) (e : List Expr) (m : M (List D)) : Prop := PA X e (tG C ε W (rDs C) m)
def var (i : Nat) : M D := fun σ h => match σ[i]? with
  | some (some d) => .ok d h
  | _ => .bad
def cst (d : D) : M D := fun _ h => .ok d h
def bin (g : D → D → AH → Out D) (a b : M D) : M D := fun σ h => (a σ h).bind fun x h1 => (b σ h1).bind fun y h2 => g x y h2
def nilA : M (List D) := fun _ h => .ok [] h
def consA (a : M D) (b : M (List D)) : M (List D) := fun σ h => (a σ h).bind fun x h1 => (b σ h1).bind fun y h2 => .ok (x :: y) h2
def app (g : List D → AH → Out D) (a : M (List D)) : M D := fun σ h => (a σ h).bind fun x h1 => g x h1
/-- a truth -/
def isBl (x : D) (h : AH) : Out Bool := match x with
  | .bl b => .ok b h
  | _ => .bad
@[simp] theorem isBl_bl (b : Bool) (h : AH) : isBl (.bl b) h = .ok b h := rfl
def asB (a : M D) : M Bool := fun σ h => (a σ h).bind isBl
def notB (a : M Bool) : M Bool := fun σ h => (a σ h).bind fun x h1 => .ok (!x) h1
def orB (a b : M Bool) : M Bool := fun σ h => (a σ h).bind fun x h1 => if x = true then .ok true h1 else b σ h1
def ifE (c : M Bool) (a b : M D) : M D := fun σ h => (c σ h).bind fun x h1 => if x = true then a σ h1 else b σ h1
def OpS (C : Cf) (r : R2) (g : D → D → AH → Out D) : Prop := ∀ (W : WX) (σ : St) (s : Sx) (x y : D) (v u : V) (Q : VK), Good C s → R C s.F s.ρ x v → R C s.F s.ρ y u → Post C W σ (rD C) s Q (g x y s.ah) → r v u s.H Q
def CallS (C : Cf) (r : List V → Hp → VK → Prop) (g : List D → AH → Out D) : Prop := ∀ (W : WX) (σ : St) (s : Sx) (x : List D) (v : List V) (Q : VK), Good C s → Rs C s.F s.ρ x v → Post C W σ (rD C) s Q (g x s.ah) → r v s.H Q
section
variable {X : Cx} {C : Cf} {ε : Option (Addr × Str × Option Addr)} {W : WX} {a b c : Expr} {es : List Expr} {ma mb : M D} {mc mt mu : M Bool} {mr : M (List D)} {pos : Pos}
theorem me_var (i : Nat) {x : Str} (hN : X.N[i]? = some x := by rfl) (hv : Vis X.env.scope x := by first | exact Or.inl rfl | exact Or.inr (Or.inl rfl) | exact Or.inr (Or.inr rfl)) (hd : (x == ("__debug__" : Str)) = false := by decide)
    (hcd : (x == ("__classdict__" : Str)) = false := by decide) : ME X C ε W (.Name x pos) (var i) := by
  refine (pe_var hN hv hd hcd).imp fun σ H Q h => ?_
  obtain ⟨s, dσ, rfl, ex, g, rs, h⟩ := h
  unfold var at h
  split at h
  · rename_i d e
    obtain ⟨v, e1, r⟩ := rs.2 i d e
    exact ⟨v, e1, Post.here g h r⟩
  · exact h.elim
theorem me_int {i : Int} {j : Nat} : ME X C ε W (.Constant (.int i) j pos) (cst (.int i)) := pe_int.imp fun σ H Q h => by
  obtain ⟨s, dσ, rfl, ex, g, rs, h⟩ := h
  exact Post.here g h (by unfold R; rfl)
theorem me_bl {i : Bool} {j : Nat} : ME X C ε W (.Constant (.bool i) j pos) (cst (.bl i)) := pe_bl.imp fun σ H Q h => by
  obtain ⟨s, dσ, rfl, ex, g, rs, h⟩ := h
  exact Post.here g h (by unfold R; rfl)
theorem me_str {i : Str} {j : Nat} : ME X C ε W (.Constant (.str i) j pos) (cst (.str i)) := pe_str.imp fun σ H Q h => by
  obtain ⟨s, dσ, rfl, ex, g, rs, h⟩ := h
  exact Post.here g h (by unfold R; rfl)
theorem me_non {j : Nat} : ME X C ε W (.Constant .none j pos) (cst .non) := pe_non.imp fun σ H Q h => by
  obtain ⟨s, dσ, rfl, ex, g, rs, h⟩ := h
  exact Post.here g h (by unfold R; rfl)
/-- a class or a def of the module as a value -/
theorem me_glo {x : Str} (hg : Gl X x) (hm : X.mg x = some (.ref (He.ga C.K x))) (hd : (x == ("__debug__" : Str)) = false := by decide) : ME X C ε W (.Name x pos) (cst (.glo x)) := (pe_glob (v := .ref (He.ga C.K x)) hg hm rfl hd).imp fun σ H Q h => by
  obtain ⟨s, dσ, rfl, ex, g, rs, h⟩ := h
  exact Post.here g h (by unfold R; rfl)
theorem me_ty {x : Str} {n : String} (hg : Gl X x) (hm : X.mg x = none) (hv : bootBuiltins x = some (.type n)) (hn : x ≠ "__name__" := by decide) (hd : (x == ("__debug__" : Str)) = false := by decide) : ME X C ε W (.Name x pos) (cst (.ty n)) := (pe_bltn (v := .ty n) hg hm hv rfl hn hd).imp fun σ H Q h => by
  obtain ⟨s, dσ, rfl, ex, g, rs, h⟩ := h
  exact Post.here g h (by unfold R; rfl)
theorem me_bin {op : Operator} {r : R2} {g : D → D → AH → Out D} (ho : OpR X (binaryOp op) r) (hg : OpS C r g) (ha : ME X C ε W a ma) (hb : ME X C ε W b mb) : ME X C ε W (.BinOp a op b pos) (bin g ma mb) :=
  (pe_op ho ha hb).imp fun σ H Q h => by
    obtain ⟨s, dσ, rfl, ex, gd, rs, h⟩ := h
    refine Post.bind ex gd rs h fun s1 x v e1 f1 g1 rs1 r1 h1 => ?_
    exact Post.bind e1 g1 rs1 h1 fun s2 y u e2 f2 g2 rs2 r2 h2 => hg W σ s2 x y v u Q g2 (r1.fwd f2) r2 h2
theorem Post.asB {s : Sx} {σ : St} {Q : Bool → Hp → Prop} {x : D} {v : V} (g : Good C s) (r : R C s.F s.ρ x v) (h : Post C W σ rB s Q (isBl x s.ah)) : ∃ k, v = .bl k ∧ Q k s.H := by
  cases x with
  | bl b => exact ⟨b, (by unfold R at r; exact r), Post.here g h rfl⟩
  | _ => exact h.elim
theorem mt_cmp {op : CmpOp} {r : R2} {g : D → D → AH → Out D} (ho : OpR X (compareOp op) r) (hg : OpS C r g) (ha : ME X C ε W a ma) (hb : ME X C ε W b mb) (hm : behindInMarks op b = false := by first | exact nomark _ | rfl) : MT X C ε W (.Compare a [op] [b] pos) (asB (bin g ma mb)) :=
  (pt_cmpR ho ha hb hm).imp fun σ H Q h => by
    obtain ⟨s, dσ, rfl, ex, gd, rs, h⟩ := h
    have h' : Post C W σ rB s Q ((ma dσ s.ah).bind fun x h1 => ((mb dσ h1).bind fun y h2 => g x y h2).bind isBl) := by
      have e : asB (bin g ma mb) dσ s.ah = ((ma dσ s.ah).bind fun x h1 => ((mb dσ h1).bind fun y h2 => g x y h2).bind isBl) := by
        unfold asB bin
        cases ma dσ s.ah <;> rfl
      rw [← e]; exact h
    refine Post.bind ex gd rs h' fun s1 x v e1 f1 g1 rs1 r1 h1 => ?_
    have h1' : Post C W σ rB s1 Q ((mb dσ s1.ah).bind fun y h2 => (g x y h2).bind isBl) := by
      have e : (((mb dσ s1.ah).bind fun y h2 => g x y h2).bind isBl) = ((mb dσ s1.ah).bind fun y h2 => (g x y h2).bind isBl) := by
        cases mb dσ s1.ah <;> rfl
      rw [← e]; exact h1
    refine Post.bind e1 g1 rs1 h1' fun s2 y u e2 f2 g2 rs2 r2 h2 => ?_
    refine hg W σ s2 x y v u _ g2 (r1.fwd f2) r2 ?_
    cases e : g x y s2.ah with
    | ok d ah' =>
      rw [e] at h2
      intro s3 w e3 f3 g3 r3
      subst e3
      exact Post.asB g3 r3 (Post.fwd f3 h2)
    | exc z ah' => rw [e] at h2; exact h2
    | bad => rw [e] at h2; exact h2
theorem mt_val (ha : ME X C ε W a ma) (he : ∀ whole, isTrue a X.env whole = (do let v ← whole; standAt a.pos; holding [v] (truthy v)) := by intro _; rfl) : MT X C ε W a (asB ma) :=
  (pt_val ha he).imp fun σ H Q h => by
    obtain ⟨s, dσ, rfl, ex, gd, rs, h⟩ := h
    exact Post.bind ex gd rs h fun s1 x v e1 f1 g1 rs1 r1 h1 => Post.asB g1 r1 h1
theorem mt_not (ha : MT X C ε W a mt) : MT X C ε W (.UnaryOp .Not a pos) (notB mt) := (pt_not ha).imp fun σ H Q h => by
  obtain ⟨s, dσ, rfl, ex, gd, rs, h⟩ := h
  exact Post.bind ex gd rs h fun s1 x v e1 f1 g1 rs1 r1 h1 => by subst r1; exact Post.here g1 h1 rfl
theorem mw_or1 (ha : MT X C ε W a mt) : MW X C ε W (.BoolOp .Or [a] pos) mt := pw_or1 ha
theorem mw_or (ha : MT X C ε W a mt) (hb : MW X C ε W (.BoolOp .Or (b :: es) pos) mu) : MW X C ε W (.BoolOp .Or (a :: b :: es) pos) (orB mt mu) := (pw_or ha hb).imp fun σ H Q h => by
  obtain ⟨s, dσ, rfl, ex, gd, rs, h⟩ := h
  refine Post.bind ex gd rs h fun s1 x v e1 f1 g1 rs1 r1 h1 => ?_
  subst r1
  by_cases hx : x = true
  · rw [if_pos hx] at h1 ⊢; exact Post.here g1 h1 rfl
  · rw [if_neg hx] at h1 ⊢; exact tG.mk e1 g1 rs1 h1
theorem mt_w (h : MW X C ε W a mt) : MT X C ε W a mt := PW.pt h
theorem me_if (hc : MT X C ε W c mc) (ha : ME X C ε W a ma) (hb : ME X C ε W b mb) : ME X C ε W (.IfExp c a b pos) (ifE mc ma mb) := (pe_ifExp hc ha hb).imp fun σ H Q h => by
  obtain ⟨s, dσ, rfl, ex, gd, rs, h⟩ := h
  refine Post.bind ex gd rs h fun s1 x v e1 f1 g1 rs1 r1 h1 => ?_
  subst r1
  by_cases hx : x = true
  · rw [if_pos hx] at h1 ⊢; exact tG.mk e1 g1 rs1 h1
  · rw [if_neg hx] at h1 ⊢; exact tG.mk e1 g1 rs1 h1
theorem ma_nil : MA X C ε W [] nilA := pa_nil.imp fun σ H Q h => by
  obtain ⟨s, dσ, rfl, ex, g, rs, h⟩ := h
  exact Post.here g h (by unfold Rs; rfl)
theorem ma_cons (ha : ME X C ε W a ma) (hr : MA X C ε W es mr) (hs : starEach (a :: es) X.env = (false, eval a X.env) :: starEach es X.env := by rfl) : MA X C ε W (a :: es) (consA ma mr) := (pa_cons ha hr hs).imp fun σ H Q h => by
  obtain ⟨s, dσ, rfl, ex, gd, rs, h⟩ := h
  refine Post.bind ex gd rs h fun s1 x v e1 f1 g1 rs1 r1 h1 => ?_
  refine Post.bind e1 g1 rs1 h1 fun s2 y u e2 f2 g2 rs2 r2 h2 => ?_
  exact Post.here g2 h2 (by unfold Rs; exact ⟨v, u, rfl, r1.fwd f2, r2⟩)
/-- a built-in function -/
theorem me_callB {id : String} {x : Str} {p : Pos} {r : List V → Hp → VK → Prop} {g : List D → AH → Out D} (hc : CallR X (.builtin id) r) (hcs : CallS C r g) (hg : Gl X x) (hm : X.mg x = none) (hv : bootBuiltins x = some (.builtin id)) (ha : MA X C ε W (a :: es) mr) (hn : x ≠ "__name__" := by decide)
    (hdb : (x == ("__debug__" : Str)) = false := by decide) (he : starEach (a :: es) X.env = (false, eval a X.env) :: starEach es X.env := by rfl) (hpl : (backTo pos (starEach es X.env)).any (·.1) = false := by rfl) : ME X C ε W (.Call (.Name x p) (a :: es) [] pos) (app g mr) :=
  (pe_callB hc hg hm hv ha hn hdb he hpl).imp fun σ H Q h => by
    obtain ⟨s, dσ, rfl, ex, gd, rs, h⟩ := h
    exact Post.bind ex gd rs h fun s1 x v e1 f1 g1 rs1 r1 h1 => hcs W σ s1 x v Q g1 r1 h1
theorem me_callTy {id : String} {x : Str} {p : Pos} {r : List V → Hp → VK → Prop} {g : List D → AH → Out D} (hc : CallR X (.type id) r) (hcs : CallS C r g) (hg : Gl X x) (hm : X.mg x = none) (hv : bootBuiltins x = some (.type id)) (ha : MA X C ε W (a :: es) mr) (hn : x ≠ "__name__" := by decide)
    (hdb : (x == ("__debug__" : Str)) = false := by decide) (he : starEach (a :: es) X.env = (false, eval a X.env) :: starEach es X.env := by rfl) (hpl : (backTo pos (starEach es X.env)).any (·.1) = false := by rfl) : ME X C ε W (.Call (.Name x p) (a :: es) [] pos) (app g mr) :=
  (pe_callTy hc hg hm hv ha hn hdb he hpl).imp fun σ H Q h => by
    obtain ⟨s, dσ, rfl, ex, gd, rs, h⟩ := h
    exact Post.bind ex gd rs h fun s1 x v e1 f1 g1 rs1 r1 h1 => hcs W σ s1 x v Q g1 r1 h1
end
end Ws
set_option Elab.async false
set_option linter.all false
set_option maxRecDepth 100000
namespace Ws
open PySem L2
mutual
def pureD (L : Nat) : D → Bool
  | .tup xs => pureDs L xs
  | .rtp xs => pureDs L xs
  | .lst xs => pureDs L xs
  | .dct kvs => pureK L kvs
  | .dcT kvs => pureK L kvs
  | .ins _ fs => pureF L fs
  | .cell n => decide (n < L)
  | .exn _ _ => false
  | .lam _ => false
  | _ => true
def pureDs (L : Nat) : List D → Bool
  | [] => true
  | d :: ds => pureD L d && pureDs L ds
def pureK (L : Nat) : List (D × D) → Bool
  | [] => true
  | (_, d) :: ds => pureD L d && pureK L ds
def pureF (L : Nat) : List (Str × D) → Bool
  | [] => true
  | (_, d) :: ds => pureD L d && pureF L ds
end
def REq (L : Nat) (ρ ρ' : Rho) : Prop := ∀ n, n < L → ρ'.c n = ρ.c n
mutual
theorem R.pure {C : Cf} {F : Hp} {ρ ρ' : Rho} {L : Nat} (q : REq L ρ ρ') : ∀ {d : D} {v : V}, pureD L d = true → R C F ρ d v → R C F ρ' d v
  | .non, _, _, h | .bl _, _, _, h | .int _, _, _, h | .str _, _, _, h | .ty _, _, _, h | .glo _, _, _, h | .set _, _, _, h | .scr _, _, _, h => by unfold R at h ⊢; exact h
  | .tup _, _, p, h => by unfold pureD at p; unfold R at h ⊢; obtain ⟨a, ys, e, f, z⟩ := h; exact ⟨a, ys, e, f, Rs.pure q p z⟩
  | .rtp _, _, p, h => by unfold pureD at p; unfold R at h ⊢; obtain ⟨a, ys, e, f, z⟩ := h; exact ⟨a, ys, e, f, Rs.pure q p z⟩
  | .lst _, _, p, h => by unfold pureD at p; unfold R at h ⊢; obtain ⟨a, ys, e, f, z⟩ := h; exact ⟨a, ys, e, f, Rs.pure q p z⟩
  | .dct _, _, p, h => by unfold pureD at p; unfold R at h ⊢; obtain ⟨a, o, ks, e, f, z⟩ := h; exact ⟨a, o, ks, e, f, Rk.pure q p z⟩
  | .dcT _, _, p, h => by unfold pureD at p; unfold R at h ⊢; obtain ⟨a, o, ks, e, f, z⟩ := h; exact ⟨a, o, ks, e, f, Rt.pure q p z⟩
  | .ins _ _, _, p, h => by unfold pureD at p; unfold R at h ⊢; obtain ⟨a, dx, gs, e, f, z⟩ := h; exact ⟨a, dx, gs, e, f, Rf.pure q p z⟩
  | .cell n, _, p, h => by unfold pureD at p; unfold R at h ⊢; obtain ⟨a, e, f⟩ := h; exact ⟨a, e, (q n (of_decide_eq_true p)).trans f⟩
  | .exn _ _, _, p, h => by unfold pureD at p; cases p
  | .lam _, _, p, h => by unfold pureD at p; cases p
  | .seT _, _, _, h => by unfold R at h ⊢; obtain ⟨a, ks, e, f, z⟩ := h; exact ⟨a, ks, e, f, z.free⟩
  | .exv _ _ _, _, _, h => by
    unfold R at h ⊢
    obtain ⟨a, e, z⟩ := h
    refine ⟨a, e, ?_⟩
    rcases z with z | ⟨z1, d, u, k, z2, z3, z4, z5⟩
    · exact .inl z
    · exact .inr ⟨z1, d, u, k, z2, z3, z4, z5.free z4⟩
theorem Rs.pure {C : Cf} {F : Hp} {ρ ρ' : Rho} {L : Nat} (q : REq L ρ ρ') : ∀ {d : List D} {v : List V}, pureDs L d = true → Rs C F ρ d v → Rs C F ρ' d v
  | [], _, _, h => by unfold Rs at h ⊢; exact h
  | _ :: _, _, p, h => by
    unfold pureDs at p
    have p := Bool.and_eq_true_iff.mp p
    unfold Rs at h ⊢; obtain ⟨v, t, e, a, b⟩ := h; exact ⟨v, t, e, R.pure q p.1 a, Rs.pure q p.2 b⟩
theorem Rk.pure {C : Cf} {F : Hp} {ρ ρ' : Rho} {L : Nat} (q : REq L ρ ρ') : ∀ {d : List (D × D)} {v : List (Key × V)}, pureK L d = true → Rk C F ρ d v → Rk C F ρ' d v
  | [], _, _, h => by unfold Rk at h ⊢; exact h
  | (_, _) :: _, _, p, h => by
    unfold pureK at p
    have p := Bool.and_eq_true_iff.mp p
    unfold Rk at h ⊢; obtain ⟨k, v, t, e, ek, a, b⟩ := h; exact ⟨k, v, t, e, ek, R.pure q p.1 a, Rk.pure q p.2 b⟩
theorem Rt.pure {C : Cf} {F : Hp} {ρ ρ' : Rho} {L : Nat} (q : REq L ρ ρ') : ∀ {d : List (D × D)} {v : NP}, pureK L d = true → Rt C F ρ d v → Rt C F ρ' d v
  | [], _, _, h => by unfold Rt at h ⊢; exact h
  | (_, _) :: _, _, p, h => by
    unfold pureK at p
    have p := Bool.and_eq_true_iff.mp p
    unfold Rt at h ⊢; obtain ⟨k, b0, v, t, e, ek, ed, rk, a, b⟩ := h; exact ⟨k, b0, v, t, e, ek, ed, rk.free ek, R.pure q p.1 a, Rt.pure q p.2 b⟩
theorem Rf.pure {C : Cf} {F : Hp} {ρ ρ' : Rho} {L : Nat} (q : REq L ρ ρ') : ∀ {d : List (Str × D)} {v : List (Str × V)}, pureF L d = true → Rf C F ρ d v → Rf C F ρ' d v
  | [], _, _, h => by unfold Rf at h ⊢; exact h
  | (_, _) :: _, _, p, h => by
    unfold pureF at p
    have p := Bool.and_eq_true_iff.mp p
    unfold Rf at h ⊢; obtain ⟨v, t, e, a, b⟩ := h; exact ⟨v, t, e, R.pure q p.1 a, Rf.pure q p.2 b⟩
end
/-- what a cell holds, without cells from L on -/
def pureO (L : Nat) : OB → Bool
  | .lst xs => pureDs L xs
  | .dct kvs => pureK L kvs
  | .dcT kvs => pureK L kvs
  | .ins _ fs => pureF L fs
  | .set _ => true
theorem OR.pure {C : Cf} {F : Hp} {ρ ρ' : Rho} {H : Hp} {a : Addr} {L : Nat} {ob : OB} (q : REq L ρ ρ') (p : pureO L ob = true) (h : OR C F ρ H a ob) : OR C F ρ' H a ob := by
  cases ob with
  | lst xs => obtain ⟨ys, e, z⟩ := h; exact ⟨ys, e, Rs.pure q p z⟩
  | dct kvs => obtain ⟨ks, e, z⟩ := h; exact ⟨ks, e, Rk.pure q p z⟩
  | dcT kvs => obtain ⟨ks, e, z⟩ := h; exact ⟨ks, e, Rt.pure q p z⟩
  | ins c fs => obtain ⟨dx, gs, e, z⟩ := h; exact ⟨dx, gs, e, Rf.pure q p z⟩
  | set xs => exact h
/-- all cells of a heap speak of lesser cells alone -/
def pureH (L : Nat) : AH → Bool
  | [] => true
  | none :: r => pureH L r
  | some ob :: r => pureO L ob && pureH L r
theorem pureH_get {L : Nat} : ∀ {h : AH} {n : Nat} {ob : OB}, pureH L h = true → h.get n = some ob → pureO L ob = true
  | [], n, ob, _, e => by simp [AH.get] at e
  | none :: r, 0, ob, _, e => by simp [AH.get] at e
  | none :: r, n + 1, ob, p, e => pureH_get (h := r) (n := n) p (by simpa [AH.get] using e)
  | some x :: r, 0, ob, p, e => by
    unfold pureH at p
    simp [AH.get] at e
    subst e
    exact (Bool.and_eq_true_iff.mp p).1
  | some x :: r, n + 1, ob, p, e => by
    unfold pureH at p
    exact pureH_get (h := r) (n := n) (Bool.and_eq_true_iff.mp p).2 (by simpa [AH.get] using e)
def Rho.cut (ρ : Rho) (L : Nat) : Rho := { ρ with c := fun n => if n < L then ρ.c n else none }
def Sx.cut (s : Sx) (L : Nat) : Sx := { s with ρ := s.ρ.cut L, ah := s.ah.take L }
theorem AH.get_take (h : AH) (L n : Nat) : AH.get (h.take L) n = if n < L then h.get n else none := by
  unfold AH.get
  by_cases l : n < L
  · rw [List.getElem?_take_of_lt l, if_pos l]
  · rw [List.getElem?_take_eq_none (by omega), if_neg l]; rfl
theorem REq.cut (ρ : Rho) (L : Nat) : REq L ρ (ρ.cut L) := fun n l => if_pos l
theorem Good.cut {C : Cf} {s : Sx} (g : Good C s) {L : Nat} (p : pureH L (s.ah.take L) = true) : Good C (s.cut L) where
  sub := g.sub
  tups := g.tups
  own := fun n ob e => by
    have e' : AH.get (s.ah.take L) n = some ob := e
    have p' := pureH_get p e'
    rw [AH.get_take] at e'
    by_cases l : n < L
    · rw [if_pos l] at e'
      obtain ⟨a, e1, e2, e3⟩ := g.own n ob e'
      exact ⟨a, (show (if n < L then s.ρ.c n else none) = some a by rw [if_pos l]; exact e1), e2, e3.pure (REq.cut s.ρ L) p'⟩
    · rw [if_neg l] at e'; cases e'
  inj := fun n m a k1 k2 e1 e2 => by
    have k1' : AH.get (s.ah.take L) n ≠ none := k1
    have k2' : AH.get (s.ah.take L) m ≠ none := k2
    rw [AH.get_take] at k1' k2'
    have e1' : (if n < L then s.ρ.c n else none) = some a := e1
    have e2' : (if m < L then s.ρ.c m else none) = some a := e2
    by_cases l1 : n < L
    · by_cases l2 : m < L
      · rw [if_pos l1] at k1' e1'; rw [if_pos l2] at k2' e2'
        exact g.inj n m a k1' k2' e1' e2'
      · rw [if_neg l2] at e2'; cases e2'
    · rw [if_neg l1] at e1'; cases e1'
  dom := fun n e => by
    have e' : (s.ah.take L).length ≤ n := e
    rw [List.length_take] at e'
    show (if n < L then s.ρ.c n else none) = none
    by_cases l : n < L
    · rw [if_pos l]; exact g.dom n (by omega)
    · rw [if_neg l]
  tabs := g.tabs
theorem Fwd.cut {s t : Sx} (f : Fwd s t) {L : Nat} (hd : ∀ n, L ≤ n → s.ρ.c n = none) : Fwd s (t.cut L) where
  sub := f.sub
  rho := ⟨fun n a e => by
    show (if n < L then t.ρ.c n else none) = some a
    have l : n < L := by
      by_cases l : n < L
      · exact l
      · rw [hd n (by omega)] at e; cases e
    rw [if_pos l]; exact f.rho.c n a e, f.rho.x⟩
  frame := f.frame
  fresh := fun n a e k => by
    have e' : (if n < L then t.ρ.c n else none) = some a := e
    have k' : AH.get (t.ah.take L) n ≠ none := k
    rw [AH.get_take] at k'
    by_cases l : n < L
    · rw [if_pos l] at e' k'; exact f.fresh n a e' k'
    · rw [if_neg l] at e'; cases e'
  there := f.there
  still := f.still
def pureX (L : Nat) (x : Exc) : Bool := pureF L x.fs
/-- what a def hands back: the cells that it made are forgotten -/
def leave (L : Nat) : Out D → Out D
  | .ok d h => if pureD L d = true ∧ pureH L (h.take L) = true then .ok d (h.take L) else .bad
  | .exc x h => if pureX L x = true ∧ pureH L (h.take L) = true then .exc x (h.take L) else .bad
  | .bad => .bad
theorem Post.leave {C : Cf} {W : WX} {σ : St} {s : Sx} {Q : VK} (g : Good C s) {o : Out D} (h : Post C W σ (rD C) s Q (leave s.ah.length o)) : Post C W σ (rD C) s Q o := by
  cases o with
  | ok d ah' =>
    by_cases p : pureD s.ah.length d = true ∧ pureH s.ah.length (ah'.take s.ah.length) = true
    · rw [show Ws.leave s.ah.length (.ok d ah') = .ok d (ah'.take s.ah.length) from if_pos p] at h
      intro t v e f gt r
      subst e
      exact h (t.cut s.ah.length) v rfl (f.cut g.dom) (gt.cut p.2) (R.pure (REq.cut t.ρ _) p.1 r)
    · rw [show Ws.leave s.ah.length (.ok d ah') = .bad from if_neg p] at h
      exact h.elim
  | exc x ah' =>
    by_cases p : pureX s.ah.length x = true ∧ pureH s.ah.length (ah'.take s.ah.length) = true
    · rw [show Ws.leave s.ah.length (.exc x ah') = .exc x (ah'.take s.ah.length) from if_pos p] at h
      intro t od e f gt r
      subst e
      refine h (t.cut s.ah.length) od rfl (f.cut g.dom) (gt.cut p.2) ?_
      rcases r with r | ⟨d, gs, e1, e2, r⟩
      · exact .inl r
      · exact .inr ⟨d, gs, e1, e2, Rf.pure (REq.cut t.ρ _) p.1 r⟩
    · rw [show Ws.leave s.ah.length (.exc x ah') = .bad from if_neg p] at h
      exact h.elim
  | bad => exact h
/-- a def of n parameters that reckons f -/
def spM (C : Cf) (n : Nat) (f : List D → AH → Out D) : Sp := fun vs H Q E => ∃ s ds, s.H = H ∧ s.ρ.x = none ∧ Good C s ∧ Rs C s.F s.ρ ds vs ∧ ds.length = n ∧ Post C (fun cls od _ H => E cls od H) [] (rD C) s Q (f ds s.ah)
theorem Rs.length {C : Cf} {F : Hp} {ρ : Rho} : ∀ {ds : List D} {vs : List V}, Rs C F ρ ds vs → ds.length = vs.length
  | [], vs, h => by unfold Rs at h; subst h; rfl
  | d :: ds, vs, h => by
    unfold Rs at h
    obtain ⟨v, r, rfl, _, h⟩ := h
    simp [Rs.length h]
theorem spM.len {C : Cf} {n : Nat} {f : List D → AH → Out D} {vs : List V} {H : Hp} {Q : VK} {E : XK} (h : spM C n f vs H Q E) : vs.length = n := by
  obtain ⟨s, ds, _, _, _, r, l, _⟩ := h
  rw [← r.length]; exact l
/-- at a call: where no argument holds a cell the callee sees none -/
def call (f : List D → AH → Out D) (ds : List D) (h : AH) : Out D :=
  if pureDs 0 ds = true then (match f ds [] with
    | .ok d h' => if pureD 0 d = true then .ok d h else .bad
    | .exc x h' => if pureX 0 x = true then .exc x h else .bad
    | .bad => .bad)
  else f ds h
def Sx.bare (s : Sx) : Sx := { s with ρ := { c := fun _ => none, x := none }, ah := [] }
theorem Good.bare {C : Cf} {s : Sx} (g : Good C s) : Good C s.bare where
  sub := g.sub
  tups := g.tups
  own := fun n ob e => by simp [Sx.bare, AH.get] at e
  inj := fun n m a k => by simp [Sx.bare, AH.get] at k
  dom := fun _ _ => rfl
  tabs := g.tabs
/-- back from a callee that saw no cells -/
def Sx.back (s t : Sx) : Sx := { F := t.F, ρ := s.ρ, H := t.H, ah := s.ah }
theorem back_ok {C : Cf} {s t : Sx} (g : Good C s) (f : Fwd s.bare t) (gt : Good C t) : Fwd s (s.back t) ∧ Good C (s.back t) := by
  have fr : ∀ a o, s.H a = some o → NT o → t.H a = some o := fun a o e nt => f.frame a o e nt fun n z => nomatch z
  refine ⟨⟨f.sub, .refl _, fun a o e nt _ => fr a o e nt, fun n a e k => .inl ⟨e, k⟩, f.there, fun a o e => ?_⟩, ⟨gt.sub, gt.tups, fun n ob e => ?_, g.inj, g.dom, gt.tabs⟩⟩
  · rcases f.still a o e with z | z | ⟨n, z, _⟩
    · exact .inl z
    · exact .inr (.inl z)
    · exact nomatch z
  · obtain ⟨a, e1, e2, e3⟩ := g.own n ob e
    obtain ⟨o', z, nt⟩ := e3.thereN
    refine ⟨a, e1, ?_, e3.mono f.sub (.refl _) ((fr a o' z nt).trans z.symm)⟩
    cases q : t.F a with
    | none => exact q
    | some o =>
      rcases f.still a o q with y | y | ⟨n, y, _⟩
      · exact absurd (show s.F a = some o from y) (by rw [e2]; exact fun z => nomatch z)
      · exact absurd (show s.H a = none from y) (by rw [z]; exact fun z => nomatch z)
      · exact nomatch y
theorem REq.zero (ρ ρ' : Rho) : REq 0 ρ ρ' := fun n l => absurd l (by omega)
/-- the promise as a caller takes it -/
theorem spM.call {C : Cf} {W : WX} {σ : St} {s : Sx} {Q : VK} {n : Nat} {f : List D → AH → Out D} {ds : List D} {vs : List V} (ex : s.ρ.x = none ∨ pureDs 0 ds = true) (g : Good C s) (r : Rs C s.F s.ρ ds vs) (l : ds.length = n) (h : Post C W σ (rD C) s Q (call f ds s.ah)) :
    spM C n f vs s.H Q (fun cls od H => W cls od σ H) := by
  unfold Ws.call at h
  by_cases p : pureDs 0 ds = true
  · rw [if_pos p] at h
    refine ⟨s.bare, ds, rfl, rfl, g.bare, Rs.pure (REq.zero _ _) p r, l, ?_⟩
    show Post C _ _ _ s.bare Q (f ds [])
    cases e : f ds [] with
    | ok d h' =>
      rw [e] at h
      dsimp only at h
      split at h
      · rename_i pd
        intro t v e1 ft gt rt
        obtain ⟨f2, g2⟩ := back_ok g ft gt
        exact h (s.back t) v rfl f2 g2 (R.pure (REq.zero _ _) pd rt)
      · exact h.elim
    | exc x h' =>
      rw [e] at h
      dsimp only at h
      split at h
      · rename_i pd
        intro t od e1 ft gt rt
        obtain ⟨f2, g2⟩ := back_ok g ft gt
        refine h (s.back t) od rfl f2 g2 ?_
        rcases rt with rt | ⟨d, gs, e1, e2, rt⟩
        · exact .inl rt
        · exact .inr ⟨d, gs, e1, e2, Rf.pure (REq.zero _ _) pd rt⟩
      · exact h.elim
    | bad => rw [e] at h; exact h
  · rw [if_neg p] at h
    refine ⟨s, ds, rfl, ex.resolve_right p, g, r, l, ?_⟩
    cases e : f ds s.ah with
    | ok d h' => rw [e] at h; exact h
    | exc x h' => rw [e] at h; exact h
    | bad => rw [e] at h; exact h
end Ws
set_option Elab.async false
set_option linter.all false
set_option maxRecDepth 100000
namespace Ws
open PySem L2
inductive SOut where
  | nx (σ : Sl) (h : AH) | rt (d : D) (h : AH) | bk (σ : Sl) (h : AH) | ct (σ : Sl) (h : AH) | exc (x : Exc) (σ : Sl) (h : AH) | bad
abbrev SM := Sl → AH → SOut
def PostS (C : Cf) (W : WX) (s : Sx) (D : Ends) : SOut → Prop
  | .nx dσ h => ∀ s' σ, s'.ah = h → Fwd s s' → Good C s' → RS C s' σ dσ → D.nx σ s'.H
  | .rt d h => ∀ s' v, s'.ah = h → Fwd s s' → Good C s' → R C s'.F s'.ρ d v → D.rt v s'.H
  | .bk dσ h => ∀ s' σ, s'.ah = h → Fwd s s' → Good C s' → RS C s' σ dσ → D.bk σ s'.H
  | .ct dσ h => ∀ s' σ, s'.ah = h → Fwd s s' → Good C s' → RS C s' σ dσ → D.ct σ s'.H
  | .exc x dσ h => ∀ s' σ od, s'.ah = h → Fwd s s' → Good C s' → RS C s' σ dσ → XR C s' x od → W (.ref (He.ga C.K x.c)) od σ s'.H
  | .bad => False
def tS (C : Cf) (ε : Option (Addr × Str × Option Addr)) (W : WX) (m : SM) : TS := fun D σ H => ∃ s dσ, s.H = H ∧ s.ρ.x = ε ∧ Good C s ∧ RS C s σ dσ ∧ PostS C W s D (m dσ s.ah)
abbrev MS (X : Cx) (C : Cf) (ε : Option (Addr × Str × Option Addr)) (W : WX) (st : Stmt) (m : SM) : Prop := PS X st (tS C ε W m)
abbrev MSs (X : Cx) (C : Cf) (ε : Option (Addr × Str × Option Addr)) (W : WX) (st : List Stmt) (m : SM) : Prop := PSs X st (tS C ε W m)
section
variable {C : Cf} {ε : Option (Addr × Str × Option Addr)} {W : WX} {s s' : Sx} {D : Ends} {o : SOut} {σ : St} {dσ : Sl}
theorem PostS.fwd (f : Fwd s s') (h : PostS C W s D o) : PostS C W s' D o := by
  cases o with
  | nx => exact fun t v e g k r => h t v e (f.trans g) k r
  | rt => exact fun t v e g k r => h t v e (f.trans g) k r
  | bk => exact fun t v e g k r => h t v e (f.trans g) k r
  | ct => exact fun t v e g k r => h t v e (f.trans g) k r
  | exc => exact fun t v od e g k r => h t v od e (f.trans g) k r
  | bad => exact h
theorem PostS.here {h' : AH} (g : Good C s) (rs : RS C s σ dσ) (e : s.ah = h') (h : PostS C W s D (.nx dσ h')) : D.nx σ s.H := h s σ e (.refl s) g rs
/-- an expression, then what comes of its value -/
def bindS {α : Type} (o : Out α) (dσ : Sl) (k : α → AH → SOut) : SOut := match o with
  | .ok a h => k a h
  | .exc x h => .exc x dσ h
  | .bad => .bad
@[simp] theorem bindS_ok {α : Type} (a : α) (h : AH) (dσ : Sl) (k : α → AH → SOut) : bindS (.ok a h) dσ k = k a h := rfl
@[simp] theorem bindS_exc {α : Type} (x : Exc) (h : AH) (dσ : Sl) (k : α → AH → SOut) : bindS (.exc x h) dσ k = .exc x dσ h := rfl
@[simp] theorem bindS_bad {α : Type} (dσ : Sl) (k : α → AH → SOut) : bindS (.bad : Out α) dσ k = .bad := rfl
theorem PostS.bind {α β : Type} {r1 : Rl α β} {m : M α} {k : α → AH → SOut} {T : β → Hp → Prop} (ex : s.ρ.x = ε) (g : Good C s) (rs : RS C s σ dσ) (h : PostS C W s D (bindS (m dσ s.ah) dσ k))
    (hk : ∀ s' a b, s'.ρ.x = ε → Fwd s s' → Good C s' → RS C s' σ dσ → r1 s' a b → PostS C W s' D (k a s'.ah) → T b s'.H) : tG C ε W r1 m σ s.H T := by
  refine ⟨s, dσ, rfl, ex, g, rs, ?_⟩
  cases e : m dσ s.ah with
  | ok a h' =>
    rw [e] at h
    intro s' b e1 f g' r
    subst e1
    exact hk s' a b (f.rho.x.trans ex) f g' (rs.fwd f) r (PostS.fwd f h)
  | exc x h' =>
    rw [e] at h
    exact fun s' od e1 f g' r => h s' σ od e1 f g' (rs.fwd f) r
  | bad => rw [e] at h; exact h
end
def skip : SM := fun σ h => .nx σ h
def seqS (a b : SM) : SM := fun σ h => match a σ h with
  | .nx σ' h' => b σ' h'
  | o => o
def drop (m : M D) : SM := fun σ h => bindS (m σ h) σ fun _ h1 => .nx σ h1
def ret (m : M D) : SM := fun σ h => bindS (m σ h) σ fun d h1 => .rt d h1
def brk : SM := fun σ h => .bk σ h
def cont : SM := fun σ h => .ct σ h
def ifS (c : M Bool) (a b : SM) : SM := fun σ h => bindS (c σ h) σ fun x h1 => if x = true then a σ h1 else b σ h1
/-- targets -/
abbrev Tg := D → Sl → AH → Out Sl
def tgN (i : Nat) : Tg := fun d σ h => .ok (σ.set i (some d)) h
abbrev Tgs := List D → Sl → AH → Out Sl
def tgNil : Tgs := fun ds σ h => match ds with
  | [] => .ok σ h
  | _ => .bad
def tgCons (a : Tg) (b : Tgs) : Tgs := fun ds σ h => match ds with
  | d :: r => (a d σ h).bind fun σ1 h1 => b r σ1 h1
  | [] => .bad
def tgTup (b : Tgs) : Tg := fun d σ h => match d with
  | .tup xs => b xs σ h
  | .rtp xs => b xs σ h
  | _ => .bad
def asg (m : M D) (t : Tg) : SM := fun σ h => bindS (m σ h) σ fun d h1 => match t d σ h1 with
  | .ok σ2 h2 => .nx σ2 h2
  | _ => .bad
section
variable {X : Cx} {C : Cf} {ε : Option (Addr × Str × Option Addr)} {W : WX} {st : Stmt} {sts a b : List Stmt} {m1 m2 : SM} {e c : Expr} {me : M D} {mc : M Bool} {pos : Pos}
theorem ms_nil : MSs X C ε W [] skip := pss_nil.imp fun D σ H h => by
  obtain ⟨s, dσ, rfl, ex, g, rs, h⟩ := h
  exact PostS.here g rs rfl h
theorem ms_cons (h1 : MS X C ε W st m1) (h2 : MSs X C ε W sts m2) : MSs X C ε W (st :: sts) (seqS m1 m2) := (pss_cons h1 h2).imp fun D σ H h => by
  obtain ⟨s, dσ, rfl, ex, g, rs, h⟩ := h
  refine ⟨s, dσ, rfl, ex, g, rs, ?_⟩
  unfold seqS at h
  cases q : m1 dσ s.ah with
  | nx σ1 h1 =>
    rw [q] at h
    intro s' σ' e f g' rs'
    subst e
    exact ⟨s', σ1, rfl, f.rho.x.trans ex, g', rs', PostS.fwd f h⟩
  | rt => rw [q] at h; exact h
  | bk => rw [q] at h; exact h
  | ct => rw [q] at h; exact h
  | exc => rw [q] at h; exact h
  | bad => rw [q] at h; exact h
theorem ms_one (h1 : MS X C ε W st m1) : MSs X C ε W [st] m1 := pss_one h1
theorem ms_ret (he : ME X C ε W e me) : MS X C ε W (.Return (some e) pos) (ret me) := (ps_ret he).imp fun D σ H h => by
  obtain ⟨s, dσ, rfl, ex, g, rs, h⟩ := h
  exact PostS.bind ex g rs h fun s1 x v e1 f1 g1 rs1 r1 h1 => h1 s1 v rfl (.refl s1) g1 r1
theorem ms_if (hc : MT X C ε W c mc) (ha : MSs X C ε W a m1) (hb : MSs X C ε W b m2) : MS X C ε W (.If c a b pos) (ifS mc m1 m2) := (ps_if hc ha hb).imp fun D σ H h => by
  obtain ⟨s, dσ, rfl, ex, g, rs, h⟩ := h
  refine PostS.bind ex g rs h fun s1 x v e1 f1 g1 rs1 r1 h1 => ?_
  subst r1
  by_cases hx : x = true
  · rw [if_pos hx] at h1 ⊢; exact ⟨s1, dσ, rfl, e1, g1, rs1, h1⟩
  · rw [if_neg hx] at h1 ⊢; exact ⟨s1, dσ, rfl, e1, g1, rs1, h1⟩
def PostT (C : Cf) (s : Sx) (Q : St → Hp → Prop) : Out Sl → Prop
  | .ok dσ h => ∀ s' σ, s'.ah = h → Fwd s s' → Good C s' → RS C s' σ dσ → Q σ s'.H
  | _ => False
theorem PostT.fwd {s s' : Sx} {Q : St → Hp → Prop} {o : Out Sl} (f : Fwd s s') (h : PostT C s Q o) : PostT C s' Q o := by
  cases o with
  | ok => exact fun t v e g k r => h t v e (f.trans g) k r
  | _ => exact h
def tT (C : Cf) (ε : Option (Addr × Str × Option Addr)) (t : Tg) : TG := fun v σ H Q => ∃ s dσ d, s.H = H ∧ s.ρ.x = ε ∧ Good C s ∧ RS C s σ dσ ∧ R C s.F s.ρ d v ∧ PostT C s Q (t d dσ s.ah)
def tTs (C : Cf) (ε : Option (Addr × Str × Option Addr)) (t : Tgs) : TGs := fun vs σ H Q => ∃ s dσ ds, s.H = H ∧ s.ρ.x = ε ∧ Good C s ∧ RS C s σ dσ ∧ Rs C s.F s.ρ ds vs ∧ PostT C s Q (t ds dσ s.ah)
abbrev MG (X : Cx) (C : Cf) (ε : Option (Addr × Str × Option Addr)) (e : Expr) (t : Tg) : Prop := PG X e (tT C ε t)
abbrev MGs (X : Cx) (C : Cf) (ε : Option (Addr × Str × Option Addr)) (e : List Expr) (t : Tgs) : Prop := PGs X e (tTs C ε t)
theorem _root_.L2.PG.imp {X : Cx} {e : Expr} {t t' : TG} (h : PG X e t) (k : ∀ v σ H Q, t' v σ H Q → t v σ H Q) : PG X e t' := ⟨fun pins s σ H v u Q I r q => h.run pins s σ H v u Q I r (k v σ H Q q)⟩
theorem _root_.L2.PGs.imp {X : Cx} {e : List Expr} {t t' : TGs} (h : PGs X e t) (k : ∀ v σ H Q, t' v σ H Q → t v σ H Q) : PGs X e t' := ⟨fun pins s σ H v u Q I r q => h.run pins s σ H v u Q I r (k v σ H Q q)⟩
theorem mg_name {i : Nat} {x : Str} (hN : X.N.Nodup) (hi : X.N[i]? = some x) (hx : Loc X.env.scope x) (hf : X.fn x = true ∨ X.env.scope.names.lookup x = some .local := by first | exact .inl rfl | exact .inr rfl | assumption) : MG X C ε (.Name x pos) (tgN i) :=
  (pg_name hN hi hx hf).imp fun v σ H Q h => by
    obtain ⟨s, dσ, d, rfl, ex, g, rs, r, h⟩ := h
    exact h s _ rfl (.refl s) g (rs.set r)
theorem mgs_nil : MGs X C ε [] tgNil := pgs_nil.imp fun v σ H Q h => by
  obtain ⟨s, dσ, ds, rfl, ex, g, rs, r, h⟩ := h
  cases ds with
  | nil => exact ⟨by unfold Rs at r; exact r, h s _ rfl (.refl s) g rs⟩
  | cons => exact h.elim
theorem mgs_cons {es : List Expr} {t : Tg} {u : Tgs} (h1 : MG X C ε e t) (h2 : MGs X C ε es u) (hs : (assignEach (e :: es) X.env).map (·.2) = assign e X.env :: (assignEach es X.env).map (·.2) := by rfl) : MGs X C ε (e :: es) (tgCons t u) :=
  (pgs_cons h1 h2 hs).imp fun v σ H Q h => by
    obtain ⟨s, dσ, ds, rfl, ex, g, rs, r, h⟩ := h
    cases ds with
    | nil => exact h.elim
    | cons d ds =>
      unfold Rs at r
      obtain ⟨v1, vr, rfl, rd, rr⟩ := r
      refine ⟨v1, vr, rfl, s, dσ, d, rfl, ex, g, rs, rd, ?_⟩
      have h' : PostT C s Q ((t d dσ s.ah).bind fun σ1 h1 => u ds σ1 h1) := h
      cases q : t d dσ s.ah with
      | ok σ1 h1 =>
        rw [q] at h'
        intro s' σ' e f g' rs'
        subst e
        exact ⟨s', σ1, ds, rfl, f.rho.x.trans ex, g', rs', rr.fwd f, PostT.fwd f h'⟩
      | exc => rw [q] at h'; exact h'
      | bad => rw [q] at h'; exact h'
theorem mg_tup {es : List Expr} {k : Nat} {t : Tgs} {n : Nat} (hc : X.calm = true) (hK : C.K = X.K) (h : MGs X C ε es t) (hn : (assignEach es X.env).length = n := by rfl) (hst : (assignEach es X.env).findIdx? (·.1) = none := by rfl)
    (hl : ∀ ds dσ h, t ds dσ h ≠ .bad → ds.length = n) : MG X C ε (.Tuple es k pos) (tgTup t) := (pg_tup hc h hn hst).imp fun v σ H Q h => by
  obtain ⟨s, dσ, d, rfl, ex, g, rs, r, h⟩ := h
  cases d with
  | tup xs =>
    unfold R at r
    obtain ⟨a, ys, rfl, fa, rr⟩ := r
    have h' : PostT C s Q (t xs dσ s.ah) := h
    refine ⟨a, ys, rfl, (fa.sub g.sub).sq, ?_, s, dσ, xs, rfl, ex, g, rs, rr, h'⟩
    rw [← rr.length]
    exact hl xs dσ s.ah fun z => by rw [z] at h'; exact h'
  | rtp xs =>
    unfold R at r
    obtain ⟨a, ys, rfl, fa, rr⟩ := r
    have h' : PostT C s Q (t xs dσ s.ah) := h
    refine ⟨a, ys, rfl, SqT.of (g.sub _ _ fa), ?_, s, dσ, xs, rfl, ex, g, rs, rr, h'⟩
    rw [← rr.length]
    exact hl xs dσ s.ah fun z => by rw [z] at h'; exact h'
  | _ => exact h.elim
theorem ms_set {i : Nat} {x : Str} {pos' : Pos} (hN : X.N.Nodup) (hi : X.N[i]? = some x) (hx : Loc X.env.scope x) (he : ME X C ε W e me) (hs : swapsWith e (some (.Name x pos')) pos.line X.env = pure false := by rfl) (hf : X.fn x = true ∨ X.env.scope.names.lookup x = some .local := by first | exact .inl rfl | exact .inr rfl | assumption) :
    MS X C ε W (.Assign [.Name x pos'] e pos) (asg me (tgN i)) := (ps_set hN hi hx he hs hf).imp fun D σ H h => by
  obtain ⟨s, dσ, rfl, ex, g, rs, h⟩ := h
  refine PostS.bind ex g rs h fun s1 x v e1 f1 g1 rs1 r1 h1 => ?_
  exact PostS.here g1 (rs1.set r1) rfl h1
end
def startD (n : Nat) (ds : List D) : Sl := ds.map some ++ List.replicate (n - ds.length) none
def outD : SOut → Out D
  | .nx _ h => .ok .non h
  | .rt d h => .ok d h
  | .exc x _ h => .exc x h
  | _ => .bad
/-- a def with n names, its body m -/
def fn (n : Nat) (m : SM) : List D → AH → Out D := fun ds h => leave h.length (outD (m (startD n ds) h))
theorem Rs.get {C : Cf} {F : Hp} {ρ : Rho} : ∀ {ds : List D} {vs : List V} {i : Nat} {d : D}, Rs C F ρ ds vs → ds[i]? = some d → ∃ v, vs[i]? = some v ∧ R C F ρ d v
  | [], _, _, _, _, e => by simp at e
  | x :: xs, vs, 0, d, h, e => by
    unfold Rs at h
    obtain ⟨v, r, rfl, a, b⟩ := h
    simp at e; subst e
    exact ⟨v, rfl, a⟩
  | x :: xs, vs, i + 1, d, h, e => by
    unfold Rs at h
    obtain ⟨v, r, rfl, a, b⟩ := h
    obtain ⟨w, h1, h2⟩ := Rs.get (i := i) b (by simpa using e)
    exact ⟨w, by simpa using h1, h2⟩
theorem RS.start {C : Cf} {s : Sx} {N : List Str} {ds : List D} {vs : List V} (r : Rs C s.F s.ρ ds vs) : RS C s (L2.start N vs) (startD N.length ds) := by
  refine ⟨by unfold L2.start startD; simp [r.length], fun i d e => ?_⟩
  unfold startD at e
  have hi : i < ds.length := by
    by_cases hi : i < ds.length
    · exact hi
    · rw [List.getElem?_append_right (by simpa using hi), List.getElem?_replicate] at e
      split at e <;> cases e
  rw [List.getElem?_append_left (by simpa using hi), List.getElem?_map] at e
  cases q : ds[i]? with
  | none => rw [q] at e; cases e
  | some d' =>
    rw [q] at e; cases e
    obtain ⟨v, h1, h2⟩ := r.get q
    refine ⟨v, ?_, h2⟩
    unfold L2.start
    rw [List.getElem?_append_left (by rw [List.length_map, ← r.length]; exact hi), List.getElem?_map, h1]
    rfl
section
variable {C : Cf} {mg : Str → Option Value} {base : Heap} {x qual : Str} {params : Arguments} {body : List Stmt} {scope : Scope} {dvs : List V} {kws : List (Str × V)} {f : Addr} {fd : FuncData} {N ps : List Str} {k : Nat}
/-- THE RULE of a def -/
theorem fn_ok (F : FunD C.K x qual params body scope dvs kws f fd) (S : FnScope N ps scope) {m : SM}
    (hbody : ∀ (cdv : Value) (A : Around) (outer : List Env) (s : Shared) (H : Hp) (E : XK), Room k (A.deeper (PyProof.Rows.envOfC qual scope s.heap.objs.size f cdv)) →
      MSs (cxOf (L2.CX C.P C.w) C.P C.w C.K mg base N qual scope f cdv A outer s H E) C none (fun cls od _ H => E cls od H) body m) :
    FnOk C.P C.w C.K mg base (L2.CX C.P C.w) (k + 1) f fd ps (spM C ps.length (fn N.length m)) := by
  refine F.ok S (fun vs H Q E h => h.len) fun cdv A outer s H vs Q E hr hsp => ⟨_, hbody cdv A outer s H E hr, ?_⟩
  obtain ⟨sx, ds, rfl, ex, g, r, l, h⟩ := hsp
  have h := Post.leave g h
  refine ⟨sx, startD N.length ds, rfl, ex, g, RS.start r, ?_⟩
  cases q : m (startD N.length ds) sx.ah with
  | nx σ' h' =>
    rw [q] at h
    exact fun s' σ e f g' rs => h s' .non e f g' (by unfold R; rfl)
  | rt d h' =>
    rw [q] at h
    exact fun s' v e f g' r => h s' v e f g' r
  | exc x σ' h' =>
    rw [q] at h
    exact fun s' σ od e f g' rs r => h s' od e f g' r
  | bk => rw [q] at h; exact h.elim
  | ct => rw [q] at h; exact h.elim
  | bad => rw [q] at h; exact h.elim
end
end Ws
set_option Elab.async false
set_option linter.all false
set_option maxRecDepth 100000
set_option autoImplicit false
namespace Ws
open PySem PySem.Spec PyProof.Rows L2
abbrev Ep := Option (Addr × Str × Option Addr)
abbrev FnM (X : Cx) (C : Cf) (k : Nat) (f : Addr) (fd : FuncData) (ps : List Str) (g : List D → AH → Out D) : Prop := FnOk X.prog X.w X.K X.mg X.base (L2.CX X.prog X.w) k f fd ps (spM C ps.length g)
section
variable {X : Cx} {C : Cf} {W : WX} {k : Nat} {f cA : Addr} {fd : FuncData} {ps : List Str} {g : List D → AH → Out D} {x m c : Str} {p pos apos : Pos} {e o : Expr} {es : List Expr} {mr : M (List D)} {mo : M D} {ds : List Value} {dvs : List V} {dds : List D}
/-- the constants that fill up -/
def Filled (C : Cf) (dds : List D) (dvs : List V) : Prop := ∀ F ρ, Rs C F ρ dds dvs
theorem Filled.nil : Filled C [] [] := fun _ _ => by unfold Rs; rfl
theorem Rs.app {F : Hp} {ρ : Rho} : ∀ {a b : List D} {u v : List V}, Rs C F ρ a u → Rs C F ρ b v → Rs C F ρ (a ++ b) (u ++ v)
  | [], b, u, v, h, k => by unfold Rs at h; subst h; exact k
  | d :: a, b, u, v, h, k => by
    unfold Rs at h
    obtain ⟨y, r, rfl, q, h⟩ := h
    show Rs C F ρ (d :: (a ++ b)) (y :: (r ++ v))
    unfold Rs
    exact ⟨y, r ++ v, rfl, q, Rs.app h k⟩
/-- n arguments at least -/
def callN (n : Nat) (g : List D → AH → Out D) (ds : List D) (h : AH) : Out D := if ds.length = n then call g ds h else .bad
/-- .. and what fills up -/
def cal (n : Nat) (dds : List D) (g : List D → AH → Out D) (ds : List D) (h : AH) : Out D := callN n g (ds ++ dds) h
theorem me_call (tk : Takes X W) (F : FnM X C k f fd ps g) (hr : Room k X.A) (hg : Gl X x) (hm : X.mg x = some (.ref f)) (hk : PySem.W.keepIn X.K (.ref f) = true) (hb : Binds X.K fd ps ds) (hd : Vals dvs ds) (fl : Filled C dds dvs)
    (ha : MA X C none W (e :: es) mr) (hdb : (x == ("__debug__" : Str)) = false := by decide) (he : starEach (e :: es) X.env = (false, eval e X.env) :: starEach es X.env := by rfl) (hpl : (backTo pos (starEach es X.env)).any (·.1) = false := by rfl) :
    ME X C none W (.Call (.Name x p) (e :: es) [] pos) (app (cal ps.length dds g) mr) :=
  (pe_callSD (E := fun σ cls od H => W cls od σ H) F hr hg hm hk hb hd (fun σ => passAt tk σ) ha hdb he hpl).imp fun σ H Q h => by
    obtain ⟨s, dσ, rfl, ex, gd, rs, h⟩ := h
    refine Post.bind ex gd rs h fun s1 x v e1 f1 g1 rs1 r1 h1 => ?_
    unfold cal callN at h1
    split at h1
    · rename_i l
      exact spM.call (.inl e1) g1 (Rs.app r1 (fl _ _)) l h1
    · exact h1.elim
theorem Rf.lookup {F : Hp} {ρ : Rho} {y : Str} : ∀ {fs : List (Str × D)} {gs : List (Str × V)}, Rf C F ρ fs gs → match fs.lookup y with
    | some d => ∃ v, gs.lookup y = some v ∧ R C F ρ d v
    | none => gs.lookup y = none
  | [], gs, h => by unfold Rf at h; subst h; simp
  | (z, d) :: fs, gs, h => by
    unfold Rf at h
    obtain ⟨v, r, rfl, q, h⟩ := h
    rw [List.lookup_cons, List.lookup_cons]
    cases e : y == z with
    | true => exact ⟨v, rfl, q⟩
    | false => exact Rf.lookup h
end
end Ws
set_option Elab.async false
set_option linter.all false
set_option maxRecDepth 100000
set_option autoImplicit false
namespace Ws
open PySem PySem.Spec PyProof.Rows L2
/-- C(..): the new instance stands in a cell while __init__ (g) runs; then it stays as it is -/
def make (c : Str) (g : List D → AH → Out D) (ds : List D) (h : AH) : Out D :=
  if pureDs 0 ds = true then (match g (.cell 0 :: ds) [some (.ins c [])] with
    | .ok .non [some (.ins c' fs)] => if pureF 0 fs = true then .ok (.ins c' fs) h else .bad
    | .exc x _ => if pureX 0 x = true then .exc x h else .bad
    | _ => .bad)
  else .bad
section
variable {C : Cf} {c : Str} {s : Sx}
/-- the state in which __init__ begins -/
def Sx.born (s : Sx) (c : Str) (C : Cf) (x dx : Addr) : Sx :=
  { F := s.F, ρ := { c := fun n => if n = 0 then some x else none, x := none }, H := upd (upd s.H dx (.own x)) x (.ins (He.ga C.K c) dx []), ah := [some (.ins c [])] }
theorem born_H {x dx a : Addr} {o : HO} (hx : s.H x = none) (hd : s.H dx = none) (e : s.H a = some o) : (s.born c C x dx).H a = some o := by
  show upd (upd s.H dx (.own x)) x _ a = some o
  rw [upd_ne (ne_of_none e hx), upd_ne (ne_of_none e hd)]; exact e
theorem born_get {n : Nat} {ob : OB} {x dx : Addr} (h : AH.get (s.born c C x dx).ah n = some ob) : n = 0 ∧ ob = .ins c [] := by
  cases n with
  | zero => simp [Sx.born, AH.get] at h; exact ⟨rfl, h.symm⟩
  | succ n => simp [Sx.born, AH.get] at h
theorem Good.born (g : Good C s) {x dx : Addr} (hx : s.H x = none) (hd : s.H dx = none) : Good C (s.born c C x dx) where
  sub := fun a o e => born_H hx hd (g.sub a o e)
  tups := fun a ys e => by
    have e' : upd (upd s.H dx (.own x)) x (.ins (He.ga C.K c) dx []) a = some (.tup ys) := e
    by_cases h1 : a = x
    · rw [h1, upd_same] at e'; cases e'
    · rw [upd_ne h1] at e'
      by_cases h2 : a = dx
      · rw [h2, upd_same] at e'; cases e'
      · rw [upd_ne h2] at e'; exact g.tups a ys e'
  own := fun n ob e => by
    obtain ⟨rfl, rfl⟩ := born_get e
    exact ⟨x, (rfl : (if (0 : Nat) = 0 then some x else none) = some x), g.notF hx, dx, [], upd_same, by unfold Rf; rfl⟩
  inj := fun n m a k1 k2 _ _ => by
    cases e1 : AH.get (s.born c C x dx).ah n with
    | none => exact absurd e1 k1
    | some o1 =>
      cases e2 : AH.get (s.born c C x dx).ah m with
      | none => exact absurd e2 k2
      | some o2 => rw [(born_get e1).1, (born_get e2).1]
  dom := fun n e => if_neg (by have e' : 1 ≤ n := e; omega)
  tabs := fun p' hp => by
    have t := g.tabs p' hp
    exact t.step (.refl _) (show upd (upd s.H dx (.own x)) x _ p'.1 = _ from (upd_ne (t.ne0 hx)).trans (upd_ne (t.ne0 hd))) t.nF
/-- behind __init__: the instance stays -/
theorem born_back (g : Good C s) {x dx : Addr} (hx : s.H x = none) (hd : s.H dx = none) {t : Sx} (f : Fwd (s.born c C x dx) t) (gt : Good C t) {o : HO} (ht : t.H x = some o) (nto : NT o := by (intro ps z; first | exact nomatch z | exact nomatch (show HO.ext _ = HO.tbl ps from z))) :
    Fwd s { F := upd t.F x o, ρ := s.ρ, H := t.H, ah := s.ah } ∧ Good C { F := upd t.F x o, ρ := s.ρ, H := t.H, ah := s.ah } ∧ Sub t.F (upd t.F x o) := by
  have fr : ∀ a u, s.H a = some u → NT u → t.H a = some u := fun a u e nt => f.frame a u (born_H hx hd e) nt fun n z => by
    have z' : (if n = 0 then some x else none) = some a := z
    split at z'
    · cases z'
      rw [hx] at e; cases e
    · cases z'
  have sub : Sub t.F (upd t.F x o) := fun a u e => by
    by_cases h : a = x
    · subst h; rw [upd_same]; rw [← ht]; exact gt.sub a u e
    · rw [upd_ne h]; exact e
  have st : ∀ a u, t.F a = some u → s.F a = some u ∨ s.H a = none := fun a u e => by
    rcases f.still a u e with z | z | ⟨n, z, _⟩
    · exact .inl z
    · refine .inr ?_
      cases q : s.H a with
      | none => rfl
      | some v => rw [born_H hx hd q] at z; cases z
    · have z' : (if n = 0 then some x else none) = some a := z
      split at z'
      · cases z'; exact .inr hx
      · cases z'
  refine ⟨⟨(f.sub).trans sub, .refl _, fun a u e nt _ => fr a u e nt, fun n a e k => .inl ⟨e, k⟩, fun a u e => f.there a u (born_H hx hd e), fun a u e => ?_⟩, ⟨fun a u e => ?_, fun a ys e => sub a _ (gt.tups a ys e), fun n ob e => ?_, g.inj, g.dom, fun p' hp => (gt.tabs p' hp).step sub rfl ((show upd t.F x o p'.1 = _ from upd_ne ((gt.tabs p' hp).ne ht nto)).trans (gt.tabs p' hp).nF)⟩, sub⟩
  · by_cases h : a = x
    · subst h; exact .inr (.inl hx)
    · have e' : upd t.F x o a = some u := e
      rw [upd_ne h] at e'
      rcases st a u e' with z | z
      · exact .inl z
      · exact .inr (.inl z)
  · by_cases h : a = x
    · subst h
      have e' : upd t.F a o a = some u := e
      rw [upd_same] at e'
      cases e'
      exact ht
    · have e' : upd t.F x o a = some u := e
      rw [upd_ne h] at e'
      exact gt.sub a u e'
  · obtain ⟨a, e1, e2, e3⟩ := g.own n ob e
    obtain ⟨u, z, nu⟩ := e3.thereN
    have ne : a ≠ x := ne_of_none z hx
    refine ⟨a, e1, ?_, e3.mono ((f.sub).trans sub) (.refl _) ((fr a u z nu).trans z.symm)⟩
    show upd t.F x o a = none
    rw [upd_ne ne]
    cases q : t.F a with
    | none => rfl
    | some v =>
      rcases st a v q with y | y
      · rw [e2] at y; cases y
      · rw [z] at y; cases y
theorem spM.make {W : WX} {σ : L2.St} {Q : VK} {n : Nat} {f : List D → AH → Out D} {ds : List D} {vs : List V} {x dx : Addr} (g : Good C s) (r : Rs C s.F s.ρ ds vs) (l : ds.length + 1 = n) (hx : s.H x = none) (hd : s.H dx = none)
    (h : Post C W σ (rD C) s Q (make c f ds s.ah)) :
    spM C n f (.ref x :: vs) (upd (upd s.H dx (.own x)) x (.ins (He.ga C.K c) dx [])) (fun v H2 => v = .non ∧ Q (.ref x) H2) (fun cls od H => W cls od σ H) := by
  unfold Ws.make at h
  split at h
  · rename_i p
    refine ⟨s.born c C x dx, .cell 0 :: ds, rfl, rfl, g.born hx hd, ?_, by simpa using l, ?_⟩
    · unfold Rs
      exact ⟨_, vs, rfl, (by unfold R; exact ⟨x, rfl, (rfl : (if (0 : Nat) = 0 then some x else none) = some x)⟩), Rs.pure (REq.zero _ _) p r⟩
    · show Post C _ _ _ _ _ (f (.cell 0 :: ds) [some (.ins c [])])
      split at h
      · rename_i c' fs e
        rw [e]
        split at h
        · rename_i pf
          intro t v et ft gt rt
          refine ⟨by unfold R at rt; exact rt, ?_⟩
          obtain ⟨a, e1, e2, dx', gs, e3, e4⟩ := gt.own 0 (.ins c' fs) (by rw [et]; rfl)
          have ea : a = x := by
            have z := ft.rho.c 0 x (rfl : (if (0 : Nat) = 0 then some x else none) = some x)
            rw [z] at e1; exact (Option.some.inj e1).symm
          subst ea
          obtain ⟨f2, g2, sb⟩ := born_back g hx hd ft gt e3
          exact h { F := upd t.F a (.ins (He.ga C.K c') dx' gs), ρ := s.ρ, H := t.H, ah := s.ah } (.ref a) rfl f2 g2 (by
            unfold R
            exact ⟨a, dx', gs, rfl, upd_same, Rf.mono sb (.refl _) (Rf.pure (REq.zero _ _) pf e4)⟩)
        · exact h.elim
      · rename_i e
        rw [e]
        split at h
        · rename_i pf
          intro t od et ft gt rt
          obtain ⟨o, ho, no⟩ := ft.there x _ upd_same
          obtain ⟨f2, g2, sb⟩ := born_back g hx hd ft gt ho (no (fun _ z => nomatch z))
          refine h { F := upd t.F x o, ρ := s.ρ, H := t.H, ah := s.ah } od rfl f2 g2 ?_
          rcases rt with rt | ⟨d, gs, y1, y2, rt⟩
          · exact .inl rt
          · exact .inr ⟨d, gs, y1, sb _ _ y2, Rf.mono sb (.refl _) (Rf.pure (REq.zero _ _) pf rt)⟩
        · exact h.elim
      · exact h.elim
  · exact h.elim
end
section
variable {X : Cx} {C : Cf} {W : WX} {k n : Nat} {f : Addr} {fd : FuncData} {ps ks : List Str} {g : List D → AH → Out D} {x c : Str} {p pos : Pos} {e : Expr} {es : List Expr} {mr mk : M (List D)} {kws : List Keyword} {ds : List Value} {dvs : List V} {dds : List D} {gA : List Value → List Value → List Value} {gV : List V → List V → List V} {gD : List D → List D → List D}
theorem _root_.L2.PK.imp {X : Cx} {kws : List Keyword} {t t' : TA} (h : PK X kws t) (k : ∀ σ H Q, t' σ H Q → t σ H Q) : PK X kws t' := ⟨fun pos pins s σ H Q I q => h.run pos pins s σ H Q I (k σ H Q q)⟩
def putD (y : Str) (d : D) : List (Str × D) → List (Str × D)
  | [] => [(y, d)]
  | (z, x) :: r => if z = y then (z, d) :: r else (z, x) :: putD y d r
theorem Rf.put {F : Hp} {ρ : Rho} {y : Str} {d : D} {v : V} (q : R C F ρ d v) : ∀ {fs : List (Str × D)} {gs : List (Str × V)}, Rf C F ρ fs gs → Rf C F ρ (putD y d fs) (putF y v gs)
  | [], gs, h => by unfold Rf at h; subst h; unfold putD putF Rf; exact ⟨v, [], rfl, q, by unfold Rf; rfl⟩
  | (z, x) :: fs, gs, h => by
    unfold Rf at h
    obtain ⟨u, r, rfl, a, h⟩ := h
    unfold putD putF
    by_cases e : z = y
    · rw [if_pos e, if_pos e]; unfold Rf; exact ⟨v, r, rfl, q, h⟩
    · rw [if_neg e, if_neg e]; unfold Rf; exact ⟨u, _, rfl, a, Rf.put q h⟩
theorem Rf.length {F : Hp} {ρ : Rho} : ∀ {fs : List (Str × D)} {gs : List (Str × V)}, Rf C F ρ fs gs → fs.length = gs.length
  | [], gs, h => by unfold Rf at h; subst h; rfl
  | (z, x) :: fs, gs, h => by
    unfold Rf at h
    obtain ⟨u, r, rfl, a, h⟩ := h
    simp [Rf.length h]
end
end Ws
set_option Elab.async false
set_option linter.all false
set_option maxRecDepth 100000
set_option autoImplicit false
namespace Ws
open PySem PySem.Spec L2
/-- J hands out the data ds, one by one, whatever comes of the heap meanwhile -/
def Iter (C : Cf) (s : Sx) (ds : List D) (J : It) : Prop := ∀ t (i : Nat), Mon s t → Good C t →
  (i < ds.length → J.go i t.H ∧ ∀ x H', J.yld i t.H x H' → ∃ t' d, t'.H = H' ∧ Fwd t t' ∧ Good C t' ∧ t'.ah = t.ah ∧ ds[i]? = some d ∧ R C t'.F t'.ρ d x) ∧ (ds.length ≤ i → J.stop i t.H)
abbrev rIt (C : Cf) : Rl (List D) It := fun s ds J => Iter C s ds J
abbrev MI (X : Cx) (C : Cf) (ε : Ep) (W : WX) (tg e : Expr) (m : M (List D)) : Prop := PI X tg e (tG C ε W (rIt C) m)
theorem _root_.L2.PI.imp {X : Cx} {tg e : Expr} {t t' : TI} (h : PI X tg e t) (k : ∀ σ H Q, t' σ H Q → t σ H Q) : PI X tg e t' := ⟨fun pins s σ H Q I q => h.run pins s σ H Q I (k σ H Q q)⟩
def wipeD (σ : Sl) : List Nat → Sl
  | [] => σ
  | v :: vs => (wipeD σ vs).set v none
def pureSl (L : Nat) : Sl → Bool
  | [] => true
  | none :: r => pureSl L r
  | some d :: r => pureD L d && pureSl L r
theorem pureSl_get {L : Nat} : ∀ {σ : Sl} {i : Nat} {d : D}, pureSl L σ = true → σ[i]? = some (some d) → pureD L d = true
  | [], i, d, _, e => by simp at e
  | none :: r, 0, d, _, e => by simp at e
  | none :: r, i + 1, d, p, e => pureSl_get (σ := r) (i := i) p (by simpa using e)
  | some x :: r, 0, d, p, e => by
    unfold pureSl at p
    simp at e; subst e
    exact (Bool.and_eq_true_iff.mp p).1
  | some x :: r, i + 1, d, p, e => by
    unfold pureSl at p
    exact pureSl_get (σ := r) (i := i) (Bool.and_eq_true_iff.mp p).2 (by simpa using e)
/-- between two turns: the slots js and the cells from L on are forgotten -/
def trim (L : Nat) (js : List Nat) (σ : Sl) (h : AH) : Out Sl := if pureSl L (wipeD σ js) = true ∧ pureH L (h.take L) = true then .ok (wipeD σ js) (h.take L) else .bad
def keepAll (σ : Sl) (h : AH) : Out Sl := .ok σ h
def TrOK (C : Cf) (s1 : Sx) (tr : Sl → AH → Out Sl) : Prop := ∀ s (σ : L2.St) dσ, Fwd s1 s → Good C s → RS C s σ dσ → ∀ dσ' h', tr dσ s.ah = .ok dσ' h' → ∃ s', s'.ah = h' ∧ s'.H = s.H ∧ Fwd s1 s' ∧ Good C s' ∧ RS C s' σ dσ'
theorem wipeD_some {σ : Sl} {i : Nat} {x : D} : ∀ {vs : List Nat}, (wipeD σ vs)[i]? = some (some x) → σ[i]? = some (some x) ∧ i ∉ vs
  | [], h => ⟨h, by simp⟩
  | v :: vs, h => by
    unfold wipeD at h
    by_cases hi : v = i
    · subst hi
      rw [List.getElem?_set] at h
      simp only [if_true] at h
      split at h <;> cases h
    · rw [List.getElem?_set_ne hi] at h
      obtain ⟨h1, h2⟩ := wipeD_some h
      exact ⟨h1, by simp only [List.mem_cons, not_or]; exact ⟨fun e => hi e.symm, h2⟩⟩
theorem wipeD_length (σ : Sl) : ∀ vs : List Nat, (wipeD σ vs).length = σ.length
  | [] => rfl
  | v :: vs => by unfold wipeD; rw [List.length_set, wipeD_length σ vs]
theorem trim_ok {C : Cf} {s1 : Sx} {js : List Nat} (g1 : Good C s1) : TrOK C s1 (trim s1.ah.length js) := fun s σ dσ f g rs dσ' h' e => by
  unfold trim at e
  split at e
  · rename_i p
    cases e
    refine ⟨s.cut s1.ah.length, rfl, rfl, f.cut g1.dom, g.cut p.2, by rw [wipeD_length]; exact rs.1, fun i d e => ?_⟩
    obtain ⟨v, e1, r⟩ := rs.2 i d (wipeD_some e).1
    exact ⟨v, e1, R.pure (REq.cut s.ρ _) (pureSl_get p.1 e) r⟩
  · cases e
theorem keep_ok {C : Cf} {s1 : Sx} : TrOK C s1 keepAll := fun s σ dσ f g rs dσ' h' e => by
  cases e
  exact ⟨s, rfl, rfl, f, g, rs⟩
def forGo (tr : Sl → AH → Out Sl) (t : Tg) (m : SM) : List D → SM
  | [] => fun σ h => .nx σ h
  | d :: ds => fun σ h => match t d σ h with
    | .ok σ1 h1 => (match m σ1 h1 with
      | .nx σ2 h2 => (match tr σ2 h2 with
        | .ok σ3 h3 => forGo tr t m ds σ3 h3
        | _ => .bad)
      | .ct σ2 h2 => (match tr σ2 h2 with
        | .ok σ3 h3 => forGo tr t m ds σ3 h3
        | _ => .bad)
      | .bk σ2 h2 => .nx σ2 h2
      | o => o)
    | _ => .bad
def forS (mi : M (List D)) (t : Tg) (m : SM) : SM := fun σ h => bindS (mi σ h) σ fun ds h1 => forGo keepAll t m ds σ h1
def forT (js : List Nat) (mi : M (List D)) (t : Tg) (m : SM) : SM := fun σ h => bindS (mi σ h) σ fun ds h1 => forGo (trim h1.length js) t m ds σ h1
section
variable {X : Cx} {C : Cf} {ε : Ep} {W : WX} {tg iter : Expr} {body : List Stmt} {mi : M (List D)} {t : Tg} {m : SM} {pos : Pos}
theorem for_core {D : Ends} {σ : L2.St} {s1 : Sx} {dσ : Sl} {ds : List Ws.D} {J : It} {tr : Sl → AH → Out Sl} (ex : s1.ρ.x = ε) (g1 : Good C s1) (rs : RS C s1 σ dσ) (it : Iter C s1 ds J) (to : TrOK C s1 tr) (h : PostS C W s1 D (forGo tr t m ds dσ s1.ah)) :
    ∃ V : Nat → Nat → L2.St → Hp → Prop, (∃ m, V 0 m σ s1.H) ∧ ∀ i k σ H, V i k σ H → (J.stop i H ∧ D.nx σ H) ∨ (J.go i H ∧ ∃ N : L2.St → Hp → Prop, (∀ σ' H', N σ' H' → ∃ k', k' < k ∧ V (i + 1) k' σ' H') ∧
      ∀ x H', J.yld i H x H' → tT C ε t x σ H' fun σ2 H2 => tS C ε W m { D with nx := N, ct := N, bk := D.nx } σ2 H2) := by
  refine ⟨fun i k σ H => k = ds.length - i ∧ i ≤ ds.length ∧ ∃ s dσ, s.H = H ∧ Fwd s1 s ∧ Good C s ∧ RS C s σ dσ ∧ PostS C W s1 D (forGo tr t m (ds.drop i) dσ s.ah), ⟨_, rfl, Nat.zero_le _, s1, dσ, rfl, .refl _, g1, rs, h⟩, ?_⟩
  rintro i k σ H ⟨rfl, hi, s, dσ, rfl, f, g, rs, h⟩
  by_cases hlt : i < ds.length
  · obtain ⟨go, yl⟩ := (it s i f.mon g).1 hlt
    refine .inr ⟨go, fun σ' H' => ∃ s dσ, s.H = H' ∧ Fwd s1 s ∧ Good C s ∧ RS C s σ' dσ ∧ PostS C W s1 D (forGo tr t m (ds.drop (i + 1)) dσ s.ah), fun σ' H' z => ⟨ds.length - (i + 1), by omega, rfl, hlt, z⟩, fun x H' y => ?_⟩
    obtain ⟨t', d, rfl, f', g', eh, ed, r⟩ := yl x H' y
    have hd : ds.drop i = d :: ds.drop (i + 1) := by
      rw [List.drop_eq_getElem_cons hlt]
      rw [List.getElem?_eq_getElem hlt] at ed
      cases ed; rfl
    rw [hd] at h
    refine ⟨t', dσ, d, rfl, ((f.trans f').rho.x).trans ex, g', rs.fwd f', r, ?_⟩
    unfold forGo at h
    rw [← eh] at h
    cases q : t d dσ t'.ah with
    | ok σ1 h1 =>
      rw [q] at h
      intro s2 σ2 e2 f2 g2 rs2
      subst e2
      have f12 := (f.trans f').trans f2
      refine ⟨s2, σ1, rfl, f12.rho.x.trans ex, g2, rs2, ?_⟩
      dsimp only at h
      have nxt : ∀ σ3 h3, PostS C W s1 D (match tr σ3 h3 with
          | .ok σ4 h4 => forGo tr t m (ds.drop (i + 1)) σ4 h4
          | _ => .bad) → ∀ s3 σ3', s3.ah = h3 → Fwd s2 s3 → Good C s3 → RS C s3 σ3' σ3 → ∃ s dσ, s.H = s3.H ∧ Fwd s1 s ∧ Good C s ∧ RS C s σ3' dσ ∧ PostS C W s1 D (forGo tr t m (ds.drop (i + 1)) dσ s.ah) := fun σ3 h3 hq s3 σ3' e3 f3 g3 rs3 => by
        subst e3
        cases qt : tr σ3 s3.ah with
        | ok σ4 h4 =>
          rw [qt] at hq
          obtain ⟨s4, e4, eH, f4, g4, rs4⟩ := to s3 σ3' σ3 (f12.trans f3) g3 rs3 σ4 h4 qt
          subst e4
          exact ⟨s4, σ4, eH, f4, g4, rs4, hq⟩
        | exc => rw [qt] at hq; exact hq.elim
        | bad => rw [qt] at hq; exact hq.elim
      cases qm : m σ1 s2.ah with
      | nx σ3 h3 => rw [qm] at h; exact fun s3 σ3' e3 f3 g3 rs3 => nxt σ3 h3 h s3 σ3' e3 f3 g3 rs3
      | ct σ3 h3 => rw [qm] at h; exact fun s3 σ3' e3 f3 g3 rs3 => nxt σ3 h3 h s3 σ3' e3 f3 g3 rs3
      | bk σ3 h3 => rw [qm] at h; exact PostS.fwd (o := .nx σ3 h3) f12 h
      | rt d h3 => rw [qm] at h; exact PostS.fwd (o := .rt d h3) f12 h
      | exc x σ3 h3 => rw [qm] at h; exact PostS.fwd (o := .exc x σ3 h3) f12 h
      | bad => rw [qm] at h; exact h
    | exc => rw [q] at h; exact h.elim
    | bad => rw [q] at h; exact h.elim
  · have e : i = ds.length := by omega
    subst e
    rw [List.drop_length] at h
    exact .inl ⟨(it s _ f.mon g).2 (Nat.le_refl _), h s σ rfl f g rs⟩
theorem ms_for (hp : PassesOwn (model X.prog X.w) X.A X.env X.xe) (hc : X.calm = true) (hi : MI X C ε W tg iter mi) (hg : MG X C ε tg t) (hb : MSs X C ε W body m) (hs : ∀ x, foldedSetIterable iter X.env x = pure x := by intro _; rfl) :
    MS X C ε W (.For tg iter body [] pos) (forS mi t m) := (ps_for hp hc hi hg hb hs).imp fun D σ H h => by
  obtain ⟨s, dσ, rfl, ex, g, rs, h⟩ := h
  exact PostS.bind ex g rs h fun s1 ds J e1 f1 g1 rs1 r1 h1 => for_core e1 g1 rs1 r1 keep_ok h1
theorem ms_forT (js : List Nat) (hp : PassesOwn (model X.prog X.w) X.A X.env X.xe) (hc : X.calm = true) (hi : MI X C ε W tg iter mi) (hg : MG X C ε tg t) (hb : MSs X C ε W body m) (hs : ∀ x, foldedSetIterable iter X.env x = pure x := by intro _; rfl) :
    MS X C ε W (.For tg iter body [] pos) (forT js mi t m) := (ps_for hp hc hi hg hb hs).imp fun D σ H h => by
  obtain ⟨s, dσ, rfl, ex, g, rs, h⟩ := h
  exact PostS.bind ex g rs h fun s1 ds J e1 f1 g1 rs1 r1 h1 => for_core e1 g1 rs1 r1 (trim_ok g1) h1
end
end Ws
set_option Elab.async false
set_option linter.all false
set_option maxRecDepth 100000
set_option autoImplicit false
namespace Ws
open PySem PySem.Spec PyProof.Rows L2
section
variable {X : Cx} {pins : List (Addr × Obj)} {σ : L2.St} {H : Hp} {s : Shared} {d : Addr} {o : Obj} {ps : NP}
theorem frzN (I : Inv X pins σ H s) (h : H d = some (.frz o (dictN X.prog X.w d ps))) : (d == sysModules) = false ∧ s.heap.get? d = some o ∧ o.ExactDict ∧ ∃ (es : Array DictEntry) (ep : Nat), o.data = .dict es ep ∧ es.size = ps.length ∧
    ∀ (i : Nat) (p : NK × Addr × V), ps[i]? = some p → ∃ en : DictEntry, es[i]? = some en ∧ en.key = .ref p.2.1 ∧ RelV p.2.2 en.val := by
  obtain ⟨go, ⟨hs, hl, xs, pr, o', es, ep, go', h1, h2, h3, h4⟩, _⟩ := I.hok d _ h
  rw [go] at go'
  cases go'
  refine ⟨hs, go, h1, es, ep, h2, (size_of_entries h3).trans (Paired.length pr).symm, fun i p e => ?_⟩
  obtain ⟨q, hq, e1, e2, e3⟩ := paired_get pr e
  have en := entry_at h3 i
  rw [hq] at en
  exact ⟨_, en, by rw [e2]; rfl, e3⟩
end
/-- the keys | the values | the pairs of the locked dict at d -/
def itKN (P : Program) (w : World) (d : Addr) (o : Obj) (ps : NP) : It := ⟨fun i H => H d = some (.frz o (dictN P w d ps)) ∧ i < ps.length, fun i H x H' => H' = H ∧ ∃ p, ps[i]? = some p ∧ x = .ref p.2.1, fun i H => H d = some (.frz o (dictN P w d ps)) ∧ ps.length ≤ i⟩
section
variable {P : Program} {w : World} {K : PySem.W.Frag} {tg : Expr} {d : Addr} {o : Obj} {es : Array DictEntry} {ep : Nat} {ps : NP}
theorem only {it b : Addr} (h : b ∈ [it]) : b = it := by simpa using h
theorem turnKN (it : Addr) (hod : o.data = .dict es ep) : Turn P w K tg (itKN P w d o ps) [it] it (fun i h => h.IsKeyIter it d i ps.length ep) where
  mem := List.mem_singleton.mpr rfl
  obj := fun i h st b hb => by
    obtain rfl := only hb
    obtain ⟨oi, e, c, dd⟩ := st
    exact ⟨oi, e, fun v z => by rw [dd] at z; cases z⟩
  keep := fun i h h' st k => st.at fun oi e => k it (List.mem_singleton.mpr rfl) oi e
  item := by
    rintro X rfl rfl rfl hc i pins s σ H E I hf st ⟨hd, hi⟩
    obtain ⟨f0, f1, f2, f3, f4, f5⟩ := hf it (List.mem_singleton.mpr rfl)
    obtain ⟨hs, go, hx, es', ep', hdt, hsz, ent⟩ := frzN I hd
    obtain ⟨rfl, rfl⟩ := dict_ep hod hdt
    obtain ⟨en, hen, hkey, hval⟩ := ent i _ (List.getElem?_eq_getElem hi)
    refine next_key_item st go hdt hsz hen fun h' st' sb => ?_
    have I1 : Inv X pins σ H { s with heap := h' } := I.turned (t' := s.toks) (fun b ob hb e => (sb.2 b hb).trans e) f0 f1 f3 f4 f5
    obtain ⟨oi, e, c, dd⟩ := id st'
    refine ⟨en.key, rfl, go_of (s := { s with heap := h' }) e c dd (by decide) ?_⟩
    exact ⟨.ref ps[i].2.1, H, I1, hkey, ⟨rfl, _, List.getElem?_eq_getElem hi, rfl⟩, st', fun b hb => (hf b hb).1⟩
  done := by
    rintro X rfl rfl rfl hc i pins s σ H E I hf st ⟨hd, hi⟩
    obtain ⟨f0, f1, f2, f3, f4, f5⟩ := hf it (List.mem_singleton.mpr rfl)
    obtain ⟨hs, go, hx, es', ep', hdt, hsz, ent⟩ := frzN I hd
    obtain ⟨rfl, rfl⟩ := dict_ep hod hdt
    exact next_key_end (I.ok.hd hc) st go hdt hsz hi fun h' eb => ⟨rfl, I.turned (t' := s.toks) (fun b ob hb e => eb b ob hb e) f0 f1 f3 f4 f5⟩
  self := fun A i s Q E st h => by
    refine wpAny_pyIter_slot st.typeIs F.slot_dict_keyiterator_iter (wpAny_call_entry F.slot_dict_keyiterator_iter st.typeIs F.entry_dict_keyiterator_iter ?_ (F.args_dict_keyiterator_iter_1 _))
    exact wpAny_pure ⟨_, rfl, "dict_keyiterator", _, st.typeIs, F.slot_dict_keyiterator_next.lookup, h⟩
end
def iKN (X : Cx) (td : TE) : TI := fun σ H R => td σ H fun x H1 => ∃ d o ps, x = .ref d ∧ H1 d = some (.frz o (dictN X.prog X.w d ps)) ∧ R (itKN X.prog X.w d o ps) H1
section
variable {X : Cx} {tg e : Expr} {td : TE}
theorem pi_keysN (he : PE X e td) : PI X tg e (iKN X td) := ⟨fun pins s σ H R I h => by
  refine thn (he.run pins s σ H _ I h) fun u s1 ⟨x, H1, I1, rx, d, o, ps, ex, hd, q⟩ => ?_
  subst ex
  cases (show u = Value.ref d from rx)
  obtain ⟨hs, go, hx, es, ep, hdt, hsz, ent⟩ := frzN I1 hd
  refine iter_keys hs go hx hdt (pi_one (tk := s1.toks) I1 _ (turnKN _ hdt) ⟨_, Heap.get?_push_size _ rfl, rfl, ?_⟩ q)
  rw [hsz] <;> rfl⟩
end
end Ws
set_option Elab.async false
set_option linter.all false
set_option maxRecDepth 100000
set_option autoImplicit false
namespace Ws
open PySem PySem.Spec L2
section
variable {C : Cf} {s : Sx}
/-- a list that stays -/
theorem Iter.lst {a : Addr} {ys : List V} {xs : List D} {K : PySem.W.Frag} (f : s.F a = some (.lst ys)) (r : Rs C s.F s.ρ xs ys) : Iter C s xs (Itl K a) := fun t i ft gt => by
  have sq : SqL K t.H a ys := SqL.of (gt.sub _ _ (ft.sub _ _ f))
  refine ⟨fun hi => ?_, fun hi => ⟨ys, sq, by rw [← r.length]; exact hi⟩⟩
  obtain ⟨v, e1, rv⟩ := (r.mon ft).get (List.getElem?_eq_getElem hi)
  exact ⟨⟨ys, v, sq, e1⟩, fun x H' y => by
    obtain ⟨rfl, y⟩ := y
    have := y ys sq
    rw [e1] at this; cases this
    exact ⟨t, _, rfl, .refl _, gt, rfl, List.getElem?_eq_getElem hi, rv⟩⟩
theorem Iter.tup {a : Addr} {ys : List V} {xs : List D} {K : PySem.W.Frag} (f : TupP s.F a ys) (r : Rs C s.F s.ρ xs ys) : Iter C s xs (Itt K a) := fun t i ft gt => by
  have sq : SqT K t.H a ys := ((f.sub ft.sub).sub gt.sub).sq
  refine ⟨fun hi => ?_, fun hi => ⟨ys, sq, by rw [← r.length]; exact hi⟩⟩
  obtain ⟨v, e1, rv⟩ := (r.mon ft).get (List.getElem?_eq_getElem hi)
  exact ⟨⟨ys, v, sq, e1⟩, fun x H' y => by
    obtain ⟨rfl, y⟩ := y
    have := y ys sq
    rw [e1] at this; cases this
    exact ⟨t, _, rfl, .refl _, gt, rfl, List.getElem?_eq_getElem hi, rv⟩⟩
def sgn (c : Nat) : D := .str ⟨#[c]⟩
theorem Iter.str (x : Str) : Iter C s (x.cps.toList.map sgn) (Its x) := fun t i ft gt => by
  refine ⟨fun hi => ⟨(show i < x.cps.size by simpa using hi), fun v H' y => ?_⟩, fun hi => (show x.cps.size ≤ i by simpa using hi)⟩
  obtain ⟨rfl, c, e, rfl⟩ := y
  refine ⟨t, sgn c, rfl, .refl _, gt, rfl, ?_, by unfold sgn R; rfl⟩
  rw [List.getElem?_map, Array.getElem?_toList, e]; rfl
theorem Rk.len {F : Hp} {ρ : Rho} : ∀ {kvs : List (D × D)} {ks : List (Key × V)}, Rk C F ρ kvs ks → kvs.length = ks.length
  | [], ks, h => by unfold Rk at h; subst h; rfl
  | (k, d) :: kvs, ks, h => by
    unfold Rk at h
    obtain ⟨key, v, r, rfl, _, _, h⟩ := h
    simp [Rk.len h]
theorem Rt.len {F : Hp} {ρ : Rho} : ∀ {kvs : List (D × D)} {ks : NP}, Rt C F ρ kvs ks → kvs.length = ks.length
  | [], ks, h => by unfold Rt at h; subst h; rfl
  | (k, d) :: kvs, ks, h => by
    unfold Rt at h
    obtain ⟨key, b, v, r, rfl, _, _, _, _, h⟩ := h
    simp [Rt.len h]
theorem Rk.get {F : Hp} {ρ : Rho} : ∀ {kvs : List (D × D)} {ks : List (Key × V)} {i : Nat} {k d : D}, Rk C F ρ kvs ks → kvs[i]? = some (k, d) → ∃ key v, ks[i]? = some (key, v) ∧ k = keyD key ∧ R C F ρ d v
  | [], ks, i, k, d, h, e => by simp at e
  | (k', d') :: kvs, ks, 0, k, d, h, e => by
    unfold Rk at h
    obtain ⟨key, v, r, rfl, a, b, h⟩ := h
    simp at e
    obtain ⟨rfl, rfl⟩ := e
    exact ⟨key, v, rfl, a, b⟩
  | (k', d') :: kvs, ks, i + 1, k, d, h, e => by
    unfold Rk at h
    obtain ⟨key, v, r, rfl, a, b, h⟩ := h
    obtain ⟨key2, v2, e1, e2, e3⟩ := Rk.get (i := i) h (by simpa using e)
    exact ⟨key2, v2, by simpa using e1, e2, e3⟩
theorem Rt.get {F : Hp} {ρ : Rho} : ∀ {kvs : List (D × D)} {ks : NP} {i : Nat} {k d : D}, Rt C F ρ kvs ks → kvs[i]? = some (k, d) → ∃ key b v, ks[i]? = some (key, b, v) ∧ nkOf k = some key ∧ R C F ρ k (.ref b) ∧ R C F ρ d v
  | [], ks, i, k, d, h, e => by simp at e
  | (k', d') :: kvs, ks, 0, k, d, h, e => by
    unfold Rt at h
    obtain ⟨key, b, v, r, rfl, a1, _, a2, a3, h⟩ := h
    simp at e
    obtain ⟨rfl, rfl⟩ := e
    exact ⟨key, b, v, rfl, a1, a2, a3⟩
  | (k', d') :: kvs, ks, i + 1, k, d, h, e => by
    unfold Rt at h
    obtain ⟨key, b, v, r, rfl, _, _, _, _, h⟩ := h
    obtain ⟨key2, b2, v2, e1, e2, e3, e4⟩ := Rt.get (i := i) h (by simpa using e)
    exact ⟨key2, b2, v2, by simpa using e1, e2, e3, e4⟩
theorem R.key {F : Hp} {ρ : Rho} (k : Key) : R C F ρ (keyD k) (kV k) := by cases k <;> (unfold keyD kV R; rfl)
theorem Rs.keys {F : Hp} {ρ : Rho} : ∀ ks : List Key, Rs C F ρ (ks.map keyD) (ks.map kV)
  | [] => by simp [Rs]
  | k :: ks => by
    show Rs C F ρ (keyD k :: ks.map keyD) (kV k :: ks.map kV)
    unfold Rs
    exact ⟨_, _, rfl, R.key k, Rs.keys ks⟩
theorem get_fst {kvs : List (D × D)} {i : Nat} (hi : i < kvs.length) : ∃ k d, kvs[i]? = some (k, d) := ⟨_, _, List.getElem?_eq_getElem hi⟩
theorem Iter.keysK {a : Addr} {o : Obj} {ks : List (Key × V)} {kvs : List (D × D)} (f : s.F a = some (.frz o (.dK ks))) (r : Rk C s.F s.ρ kvs ks) : Iter C s (kvs.map (·.1)) (Itk a o ks) := fun t i ft gt => by
  have hd := gt.sub _ _ (ft.sub _ _ f)
  refine ⟨fun hi => ⟨⟨hd, by rw [← r.len]; simpa using hi⟩, fun x H' y => ?_⟩, fun hi => ⟨hd, by rw [← r.len]; simpa using hi⟩⟩
  obtain ⟨rfl, k, v, e, rfl⟩ := y
  obtain ⟨kd, d, e1⟩ := get_fst (kvs := kvs) (i := i) (by simpa using hi)
  obtain ⟨key, v', e2, e3, _⟩ := r.get e1
  rw [e] at e2; cases e2
  exact ⟨t, kd, rfl, .refl _, gt, rfl, by rw [List.getElem?_map, e1]; rfl, by rw [e3]; exact R.key k⟩
theorem Iter.keysT {a : Addr} {o : Obj} {ks : NP} {kvs : List (D × D)} (f : s.F a = some (.frz o (dictN C.P C.w a ks))) (r : Rt C s.F s.ρ kvs ks) : Iter C s (kvs.map (·.1)) (itKN C.P C.w a o ks) := fun t i ft gt => by
  have hd := gt.sub _ _ (ft.sub _ _ f)
  refine ⟨fun hi => ⟨⟨hd, by rw [← r.len]; simpa using hi⟩, fun x H' y => ?_⟩, fun hi => ⟨hd, by rw [← r.len]; simpa using hi⟩⟩
  obtain ⟨rfl, p, e, rfl⟩ := y
  obtain ⟨kd, d, e1⟩ := get_fst (kvs := kvs) (i := i) (by simpa using hi)
  obtain ⟨key, b, v', e2, _, rk, _⟩ := (Rt.mono ft.sub ft.rho r).get e1
  rw [e] at e2; cases e2
  exact ⟨t, kd, rfl, .refl _, gt, rfl, by rw [List.getElem?_map, e1]; rfl, rk⟩
end
/-- a list, a tuple, a text, a dict's keys: what a plain walk hands out -/
def itemsL : D → AH → Out (List D) := fun d h => match d with
  | .lst xs => .ok xs h
  | _ => .bad
def itemsT : D → AH → Out (List D) := fun d h => match d with
  | .tup xs => .ok xs h
  | _ => .bad
def itemsS : D → AH → Out (List D) := fun d h => match d with
  | .str x => .ok (x.cps.toList.map sgn) h
  | _ => .bad
def itemsK : D → AH → Out (List D) := fun d h => match d with
  | .dct kvs => .ok (kvs.map (·.1)) h
  | _ => .bad
def itemsKT : D → AH → Out (List D) := fun d h => match d with
  | .dcT kvs => .ok (kvs.map (·.1)) h
  | _ => .bad
def walk (g : D → AH → Out (List D)) (m : M D) : M (List D) := fun σ h => (m σ h).bind g
section
variable {X : Cx} {C : Cf} {ε : Ep} {W : WX} {tg e e2 : Expr} {me : M D} {mr : M (List D)} {p pos apos : Pos}
theorem mi_lst (hK : X.K = C.K) (he : ME X C ε W e me) : MI X C ε W tg e (walk itemsL me) := (pi_list he).imp fun σ H Q h => by
  obtain ⟨s, dσ, rfl, ex, g, rs, h⟩ := h
  refine Post.bind ex g rs h fun s1 d v e1 f1 g1 rs1 r1 h1 => ?_
  cases d with
  | lst xs =>
    unfold R at r1
    obtain ⟨a, ys, rfl, fa, rr⟩ := r1
    exact ⟨a, rfl, ⟨ys, SqL.of (g1.sub _ _ fa)⟩, Post.here g1 h1 (Iter.lst fa rr)⟩
  | _ => exact h1.elim
theorem mi_tup (he : ME X C ε W e me) : MI X C ε W tg e (walk itemsT me) := (pi_tup he).imp fun σ H Q h => by
  obtain ⟨s, dσ, rfl, ex, g, rs, h⟩ := h
  refine Post.bind ex g rs h fun s1 d v e1 f1 g1 rs1 r1 h1 => ?_
  cases d with
  | tup xs =>
    unfold R at r1
    obtain ⟨a, ys, rfl, fa, rr⟩ := r1
    exact ⟨a, rfl, ⟨ys, (fa.sub g1.sub).sq⟩, Post.here g1 h1 (Iter.tup fa rr)⟩
  | _ => exact h1.elim
theorem mi_str (he : ME X C ε W e me) : MI X C ε W tg e (walk itemsS me) := (pi_str he).imp fun σ H Q h => by
  obtain ⟨s, dσ, rfl, ex, g, rs, h⟩ := h
  refine Post.bind ex g rs h fun s1 d v e1 f1 g1 rs1 r1 h1 => ?_
  cases d with
  | str x =>
    unfold R at r1
    exact ⟨x, r1, Post.here g1 h1 (Iter.str x)⟩
  | _ => exact h1.elim
theorem mi_keys (he : ME X C ε W e me) : MI X C ε W tg e (walk itemsK me) := (pi_keys he).imp fun σ H Q h => by
  obtain ⟨s, dσ, rfl, ex, g, rs, h⟩ := h
  refine Post.bind ex g rs h fun s1 d v e1 f1 g1 rs1 r1 h1 => ?_
  cases d with
  | dct kvs =>
    unfold R at r1
    obtain ⟨a, o, ks, rfl, fa, rr⟩ := r1
    exact ⟨a, o, rfl, .inl ⟨ks, g1.sub _ _ fa, Post.here g1 h1 (Iter.keysK fa rr)⟩⟩
  | _ => exact h1.elim
theorem mi_keysT (hP : X.prog = C.P) (hw : X.w = C.w) (he : ME X C ε W e me) : MI X C ε W tg e (walk itemsKT me) := (pi_keysN he).imp fun σ H Q h => by
  obtain ⟨s, dσ, rfl, ex, g, rs, h⟩ := h
  refine Post.bind ex g rs h fun s1 d v e1 f1 g1 rs1 r1 h1 => ?_
  cases d with
  | dcT kvs =>
    unfold R at r1
    obtain ⟨a, o, ks, rfl, fa, rr⟩ := r1
    rw [hP, hw]
    exact ⟨a, o, ks, rfl, g1.sub _ _ fa, Post.here g1 h1 (Iter.keysT fa rr)⟩
  | _ => exact h1.elim
end
end Ws
set_option Elab.async false
set_option linter.all false
set_option maxRecDepth 100000
set_option autoImplicit false
namespace Ws
open PySem PySem.Spec L2
/-- a target within a block: the names' own slots vs -/
def TgW (C : Cf) (ε : Ep) (vs : List Nat) (g : TG) (t : Tg) : Prop := ∀ (s : Sx) (σ : L2.St) (dσ : Sl) (d : D) (v : V) (Q : L2.St → Hp → Prop), s.ρ.x = ε → Good C s → RS C s σ dσ → R C s.F s.ρ d v →
  (match t d dσ s.ah with
    | .ok dσ' h' => ∀ σ', h' = s.ah → wipe σ' vs = wipe σ vs → RS C s σ' dσ' → Q σ' s.H
    | _ => False) → g v σ s.H Q
theorem wipe_set {σ : L2.St} {i : Nat} {x : Option V} : ∀ {vs : List Nat}, i ∈ vs → wipe (σ.set i x) vs = wipe σ vs
  | [], h => by cases h
  | v :: vs, h => by
    unfold wipe
    by_cases hv : i ∈ vs
    · rw [wipe_set hv]
    · have e : i = v := by
        rcases List.mem_cons.mp h with h | h
        · exact h
        · exact absurd h hv
      subst e
      have out : ∀ (vs : List Nat) (σ : L2.St), i ∉ vs → wipe (σ.set i x) vs = (wipe σ vs).set i x := by
        intro vs
        induction vs with
        | nil => intro σ _; rfl
        | cons a r ih =>
          intro σ hn
          simp only [List.mem_cons, not_or] at hn
          unfold wipe
          rw [ih σ hn.2, List.set_comm _ _ (Ne.symm hn.1)]
      rw [out vs σ hv, List.set_set]
def TgsW (C : Cf) (ε : Ep) (vs : List Nat) (g : TGs) (t : Tgs) : Prop := ∀ (s : Sx) (σ : L2.St) (dσ : Sl) (d : List D) (v : List V) (Q : L2.St → Hp → Prop), s.ρ.x = ε → Good C s → RS C s σ dσ → Rs C s.F s.ρ d v →
  (match t d dσ s.ah with
    | .ok dσ' h' => ∀ σ', h' = s.ah → wipe σ' vs = wipe σ vs → RS C s σ' dσ' → Q σ' s.H
    | _ => False) → g v σ s.H Q
theorem tgw_nil {C : Cf} {ε : Ep} {vs : List Nat} : TgsW C ε vs gNil tgNil := fun s σ dσ d v Q ex g rs r h => by
  cases d with
  | nil => exact ⟨by unfold Rs at r; exact r, h σ rfl rfl rs⟩
  | cons => exact h.elim
theorem tgw_cons {C : Cf} {ε : Ep} {vs : List Nat} {i : Nat} {g : TGs} {t : Tgs} (hi : i ∈ vs) (h2 : TgsW C ε vs g t) : TgsW C ε vs (gCons (gName i) g) (tgCons (tgN i) t) := fun s σ dσ d v Q ex gd rs r h => by
  cases d with
  | nil => exact h.elim
  | cons d ds =>
    unfold Rs at r
    obtain ⟨v1, vr, rfl, rd, rr⟩ := r
    refine ⟨v1, vr, rfl, ?_⟩
    refine h2 s (σ.set i (some v1)) (dσ.set i (some d)) ds vr Q ex gd (rs.set rd) rr ?_
    have h' : (match t ds (dσ.set i (some d)) s.ah with
      | .ok dσ' h' => ∀ σ', h' = s.ah → wipe σ' vs = wipe σ vs → RS C s σ' dσ' → Q σ' s.H
      | _ => False) := h
    cases q : t ds (dσ.set i (some d)) s.ah with
    | ok dσ' h1 => rw [q] at h'; exact fun σ' e1 e2 e3 => h' σ' e1 (e2.trans (wipe_set hi)) e3
    | exc => rw [q] at h'; exact h'
    | bad => rw [q] at h'; exact h'
theorem tgw_tup {C : Cf} {ε : Ep} {vs : List Nat} {K : PySem.W.Frag} {n : Nat} {g : TGs} {t : Tgs} (h2 : TgsW C ε vs g t) (hl : ∀ ds dσ h, t ds dσ h ≠ .bad → ds.length = n) : TgW C ε vs (gTup K n g) (tgTup t) := fun s σ dσ d v Q ex gd rs r h => by
  cases d with
  | tup xs =>
    unfold R at r
    obtain ⟨a, ys, rfl, fa, rr⟩ := r
    have h' : (match t xs dσ s.ah with
      | .ok dσ' h' => ∀ σ', h' = s.ah → wipe σ' vs = wipe σ vs → RS C s σ' dσ' → Q σ' s.H
      | _ => False) := h
    refine ⟨a, ys, rfl, (fa.sub gd.sub).sq, ?_, h2 s σ dσ xs ys Q ex gd rs rr h'⟩
    rw [← rr.length]
    exact hl xs dσ s.ah fun z => by rw [z] at h'; exact h'
  | rtp xs =>
    unfold R at r
    obtain ⟨a, ys, rfl, fa, rr⟩ := r
    have h' : (match t xs dσ s.ah with
      | .ok dσ' h' => ∀ σ', h' = s.ah → wipe σ' vs = wipe σ vs → RS C s σ' dσ' → Q σ' s.H
      | _ => False) := h
    refine ⟨a, ys, rfl, SqT.of (gd.sub _ _ fa), ?_, h2 s σ dσ xs ys Q ex gd rs rr h'⟩
    rw [← rr.length]
    exact hl xs dσ s.ah fun z => by rw [z] at h'; exact h'
  | _ => exact h.elim
theorem RS.wipe {C : Cf} {s : Sx} {σ : L2.St} {dσ : Sl} (vs : List Nat) (h : RS C s σ dσ) : RS C s (L2.wipe σ vs) (wipeD dσ vs) := by
  refine ⟨by rw [wipe_length, wipeD_length]; exact h.1, fun i d e => ?_⟩
  obtain ⟨e1, hn⟩ := wipeD_some e
  obtain ⟨v, e2, r⟩ := h.2 i d e1
  exact ⟨v, by rw [wipe_out hn]; exact e2, r⟩
/-- the wish of a block: nothing is let out -/
abbrev WF : WX := fun _ _ _ _ => False
def yesB : M Bool := fun _ h => .ok true h
abbrev MTs (X : Cx) (C : Cf) (ε : Ep) (ifs : List Expr) (m : M Bool) : Prop := PTs X ifs (tG C ε WF rB m)
theorem _root_.L2.PTs.imp {X : Cx} {e : List Expr} {t t' : TT} (h : PTs X e t) (k : ∀ σ H Q, t' σ H Q → t σ H Q) : PTs X e t' := ⟨fun pins s σ H Q I q => h.run pins s σ H Q I (k σ H Q q)⟩
theorem mts_nil {X : Cx} {C : Cf} {ε : Ep} : MTs X C ε [] yesB := pts_nil.imp fun σ H Q h => by
  obtain ⟨s, dσ, rfl, ex, g, rs, h⟩ := h
  exact Post.here g h rfl
/-- a thing at p that is being filled: no cell, not yet kept -/
structure Fill (s : Sx) (p : Addr) (o : HO) : Prop where
  at_ : s.H p = some o
  nF : s.F p = none
  nC : ∀ n, s.ρ.c n = some p → s.ah.get n = none
  nt : NT o
theorem Fill.fwd {s t : Sx} {p : Addr} {o : HO} (i : Fill s p o) (f : Fwd s t) : Fill t p o where
  at_ := f.frame p o i.at_ i.nt i.nC
  nF := by
    cases q : t.F p with
    | none => rfl
    | some u =>
      rcases f.still p u q with z | z | ⟨n, z1, z2⟩
      · rw [i.nF] at z; cases z
      · rw [i.at_] at z; cases z
      · exact absurd (i.nC n z1) z2
  nC := fun n e => by
    cases q : t.ah.get n with
    | none => rfl
    | some ob =>
      rcases f.fresh n p e (by rw [q]; exact fun z => nomatch z) with ⟨z1, z2⟩ | z
      · exact absurd (i.nC n z1) z2
      · rw [i.at_] at z; cases z
  nt := i.nt
/-- what is being filled, changed -/
def Sx.setp (s : Sx) (p : Addr) (o : HO) : Sx := { s with H := upd s.H p o }
theorem Good.setp {C : Cf} {s : Sx} (g : Good C s) {p : Addr} {o o' : HO} (i : Fill s p o') (nt : ∀ ys, o ≠ .tup ys) : Good C (s.setp p o) where
  sub := fun a u e => by
    show upd s.H p o a = _
    have e' : s.F a = some u := e
    rw [upd_ne (fun z => by rw [z, i.nF] at e'; cases e')]; exact g.sub a u e
  tups := fun a ys e => by
    have e' : upd s.H p o a = some (.tup ys) := e
    by_cases h : a = p
    · rw [h, upd_same] at e'; exact absurd (Option.some.inj e') (nt ys)
    · rw [upd_ne h] at e'; exact g.tups a ys e'
  own := fun n ob e => by
    obtain ⟨a, e1, e2, e3⟩ := g.own n ob e
    have ne : a ≠ p := fun z => by
      subst z
      have e' : s.ah.get n = some ob := e
      rw [i.nC n e1] at e'; cases e'
    exact ⟨a, e1, e2, e3.mono (.refl _) (.refl _) (show upd s.H p o a = s.H a from upd_ne ne)⟩
  inj := g.inj
  dom := g.dom
  tabs := fun p' hp => by
    have t := g.tabs p' hp
    exact t.step (.refl _) (show upd s.H p o p'.1 = _ from upd_ne (t.ne i.at_ i.nt)) t.nF
theorem Fwd.setp {s t : Sx} (f : Fwd s t) {p : Addr} {o : HO} (h : s.H p = none) : Fwd s (t.setp p o) where
  sub := f.sub
  rho := f.rho
  frame := fun a u e nt k => by show upd t.H p o a = _; rw [upd_ne (ne_of_none e h)]; exact f.frame a u e nt k
  fresh := f.fresh
  there := fun a u e => by
    obtain ⟨u', z, n⟩ := f.there a u e
    exact ⟨u', by show upd t.H p o a = _; rw [upd_ne (ne_of_none e h)]; exact z, n⟩
  still := f.still
theorem Fill.setp {s : Sx} {p : Addr} {o o' : HO} (i : Fill s p o') (nt : NT o := by (intro ps z; first | exact nomatch z | exact nomatch (show HO.ext _ = HO.tbl ps from z))) : Fill (s.setp p o) p o := ⟨upd_same, i.nF, i.nC, nt⟩
/-- it is full: it stays -/
def Sx.done (s : Sx) (p : Addr) (o : HO) : Sx := { s with F := upd s.F p o }
theorem Good.done {C : Cf} {s : Sx} (g : Good C s) {p : Addr} {o : HO} (i : Fill s p o) : Good C (s.done p o) ∧ Sub s.F (s.done p o).F := by
  have sb : Sub s.F (s.done p o).F := Sub.upd' i.nF
  refine ⟨⟨fun a u e => ?_, fun a ys e => sb _ _ (g.tups a ys e), fun n ob e => ?_, g.inj, g.dom, fun p' hp => (g.tabs p' hp).step sb rfl ((show upd s.F p o p'.1 = _ from upd_ne ((g.tabs p' hp).ne i.at_ i.nt)).trans (g.tabs p' hp).nF)⟩, sb⟩
  · have e' : upd s.F p o a = some u := e
    by_cases h : a = p
    · rw [h, upd_same] at e'; cases e'; rw [h]; exact i.at_
    · rw [upd_ne h] at e'; exact g.sub a u e'
  · obtain ⟨a, e1, e2, e3⟩ := g.own n ob e
    have ne : a ≠ p := fun z => by
      subst z
      have e' : s.ah.get n = some ob := e
      rw [i.nC n e1] at e'; cases e'
    exact ⟨a, e1, (show upd s.F p o a = none by rw [upd_ne ne]; exact e2), e3.mono sb (.refl _) rfl⟩
theorem Fwd.done {s t : Sx} (f : Fwd s t) {p : Addr} {o : HO} (h : s.H p = none) (i : Fill t p o) : Fwd s (t.done p o) where
  sub := f.sub.trans (Sub.upd' i.nF)
  rho := f.rho
  frame := f.frame
  fresh := f.fresh
  there := f.there
  still := fun a u e => by
    have e' : upd t.F p o a = some u := e
    by_cases h' : a = p
    · rw [h']; exact .inr (.inl h)
    · rw [upd_ne h'] at e'; exact f.still a u e'
theorem Fill.new {C : Cf} {s : Sx} (g : Good C s) {p : Addr} {o : HO} (h : s.H p = none) (nt : NT o := by (intro ps z; first | exact nomatch z | exact nomatch (show HO.ext _ = HO.tbl ps from z))) : Fill (s.setp p o) p o := ⟨upd_same, g.notF h, fun n e => g.notC h e, nt⟩
theorem Good.fill {C : Cf} {s : Sx} (g : Good C s) {p : Addr} {o : HO} (h : s.H p = none) (nt : ∀ ys, o ≠ .tup ys) : Good C (s.setp p o) where
  sub := fun a u e => by
    show upd s.H p o a = _
    rw [upd_ne (ne_of_none (g.sub a u e) h)]; exact g.sub a u e
  tups := fun a ys e => by
    have e' : upd s.H p o a = some (.tup ys) := e
    by_cases h : a = p
    · rw [h, upd_same] at e'; exact absurd (Option.some.inj e') (nt ys)
    · rw [upd_ne h] at e'; exact g.tups a ys e'
  own := fun n ob e => by
    obtain ⟨a, e1, e2, e3⟩ := g.own n ob e
    obtain ⟨u, z⟩ := e3.there
    exact ⟨a, e1, e2, e3.mono (.refl _) (.refl _) (show upd s.H p o a = s.H a from upd_ne (ne_of_none z h))⟩
  inj := g.inj
  dom := g.dom
  tabs := fun p' hp => by
    have t := g.tabs p' hp
    exact t.step (.refl _) (show upd s.H p o p'.1 = _ from upd_ne (t.ne0 h)) t.nF
theorem Rs.snoc {C : Cf} {F : Hp} {ρ : Rho} {d : D} {v : V} {ds : List D} {vs : List V} (r : Rs C F ρ ds vs) (q : R C F ρ d v) : Rs C F ρ (ds ++ [d]) (vs ++ [v]) := Rs.app r (by unfold Rs; exact ⟨v, [], rfl, q, by unfold Rs; rfl⟩)
section
variable {X : Cx} {C : Cf} {ε : Ep} {W : WX} {elt tg iter : Expr} {ifs : List Expr} {scope : Scope} {own : List (Str × Nat)} {pos : Pos} {mi : M (List D)} {g : TG} {t : Tg} {c : M Bool} {e : M D}
theorem lim_lt {n : Nat} (h : n < 1000000) : n < sizeLine := Nat.lt_of_lt_of_le h (by rw [sizeLine_eq]; decide)
end
end Ws
set_option Elab.async false
set_option linter.all false
set_option maxRecDepth 100000
set_option autoImplicit false
namespace Ws
open PySem PySem.Spec L2
def lim : Nat := 1000000
theorem lim_le {n : Nat} (h : n ≤ lim) : n ≤ sizeLine := Nat.le_trans h (by rw [sizeLine_eq]; decide)
/-- a list: kept, or in a cell -/
def lstOf (d : D) (h : AH) : Option (List D) := match d with
  | .lst xs => some xs
  | .cell n => (match h.get n with
    | some (.lst xs) => some xs
    | _ => none)
  | _ => none
theorem lstOf_ok {C : Cf} {s : Sx} {d : D} {v : V} {xs : List D} (g : Good C s) (r : R C s.F s.ρ d v) (h : lstOf d s.ah = some xs) : ∃ a ys, v = .ref a ∧ s.H a = some (.lst ys) ∧ Rs C s.F s.ρ xs ys := by
  cases d with
  | lst xs' =>
    unfold lstOf at h
    cases h
    unfold R at r
    obtain ⟨a, ys, e, q, z⟩ := r
    exact ⟨a, ys, e, g.sub _ _ q, z⟩
  | cell n =>
    unfold lstOf at h
    unfold R at r
    obtain ⟨a, e, q⟩ := r
    dsimp only at h
    split at h
    · rename_i xs' e'
      cases h
      obtain ⟨a', q1, q2, ys, z1, z2⟩ := g.own n _ e'
      rw [q] at q1; cases q1
      exact ⟨a, ys, e, z1, z2⟩
    · cases h
  | _ => unfold lstOf at h; cases h
theorem frz_lst {C : Cf} {s : Sx} (g : Good C s) {p : Addr} (hp : s.H p = none) {xs : List D} {ys : List V} (r : Rs C s.F s.ρ xs ys) : R C (s.frz p (.lst ys)).F (s.frz p (.lst ys)).ρ (.lst xs) (.ref p) := by
  unfold R
  exact ⟨p, ys, rfl, upd_same, r.fwd (Fwd.frz g hp)⟩
theorem frz_tup {C : Cf} {s : Sx} (g : Good C s) {p : Addr} {o : Obj} (hp : s.H p = none) (ho : o.dict = none) {xs : List D} {ys : List V} (r : Rs C s.F s.ρ xs ys) : R C (s.frz p (.frz o (.tup ys))).F (s.frz p (.frz o (.tup ys))).ρ (.tup xs) (.ref p) := by
  unfold R
  exact ⟨p, ys, rfl, ⟨o, upd_same, ho⟩, r.fwd (Fwd.frz g hp)⟩
theorem frz_rtp {C : Cf} {s : Sx} (g : Good C s) {p : Addr} (hp : s.H p = none) {xs : List D} {ys : List V} (r : Rs C s.F s.ρ xs ys) : R C (s.frz p (.tup ys)).F (s.frz p (.tup ys)).ρ (.rtp xs) (.ref p) := by
  unfold R
  exact ⟨p, ys, rfl, upd_same, r.fwd (Fwd.frz g hp)⟩
/-- the value is a new list | tuple -/
theorem Post.lst {C : Cf} {W : WX} {σ : L2.St} {s : Sx} {Q : VK} (g : Good C s) {xs : List D} {ys : List V} (h : Post C W σ (rD C) s Q (.ok (.lst xs) s.ah)) (r : Rs C s.F s.ρ xs ys) : ∀ p, s.H p = none → Q (.ref p) (upd s.H p (.lst ys)) := fun p hp =>
  h (s.frz p (.lst ys)) (.ref p) rfl (Fwd.frz g hp) (g.frz hp) (frz_lst g hp r)
theorem Post.tup {C : Cf} {W : WX} {σ : L2.St} {s : Sx} {Q : VK} (g : Good C s) {xs : List D} {ys : List V} (h : Post C W σ (rD C) s Q (.ok (.tup xs) s.ah)) (r : Rs C s.F s.ρ xs ys) : newT s.H ys Q := fun p o hp ho =>
  h (s.frz p (.frz o (.tup ys))) (.ref p) rfl (Fwd.frz g hp) (g.frz hp) (frz_tup g hp ho r)
theorem Post.rtp {C : Cf} {W : WX} {σ : L2.St} {s : Sx} {Q : VK} (g : Good C s) {xs : List D} {ys : List V} (h : Post C W σ (rD C) s Q (.ok (.rtp xs) s.ah)) (r : Rs C s.F s.ρ xs ys) : ∀ p, s.H p = none → Q (.ref p) (upd s.H p (.tup ys)) := fun p hp =>
  h (s.frz p (.tup ys)) (.ref p) rfl (Fwd.frz g hp) (g.frz hp) (frz_rtp g hp r)
theorem Post.int {C : Cf} {W : WX} {σ : L2.St} {s : Sx} {Q : VK} (g : Good C s) {i : Int} (h : Post C W σ (rD C) s Q (.ok (.int i) s.ah)) : Q (.int i) s.H := Post.here g h (by unfold R; rfl)
theorem Post.bl {C : Cf} {W : WX} {σ : L2.St} {s : Sx} {Q : VK} (g : Good C s) {i : Bool} (h : Post C W σ (rD C) s Q (.ok (.bl i) s.ah)) : Q (.bl i) s.H := Post.here g h (by unfold R; rfl)
theorem Post.str {C : Cf} {W : WX} {σ : L2.St} {s : Sx} {Q : VK} (g : Good C s) {i : Str} (h : Post C W σ (rD C) s Q (.ok (.str i) s.ah)) : Q (.str i) s.H := Post.here g h (by unfold R; rfl)
theorem Post.non {C : Cf} {W : WX} {σ : L2.St} {s : Sx} {Q : VK} (g : Good C s) (h : Post C W σ (rD C) s Q (.ok .non s.ah)) : Q .non s.H := Post.here g h (by unfold R; rfl)
theorem R.int_eq {C : Cf} {F : Hp} {ρ : Rho} {i : Int} {v : V} (r : R C F ρ (.int i) v) : v = .int i := by unfold R at r; exact r
theorem R.str_eq {C : Cf} {F : Hp} {ρ : Rho} {i : Str} {v : V} (r : R C F ρ (.str i) v) : v = .str i := by unfold R at r; exact r
theorem R.bl_eq {C : Cf} {F : Hp} {ρ : Rho} {i : Bool} {v : V} (r : R C F ρ (.bl i) v) : v = .bl i := by unfold R at r; exact r
theorem R.non_eq {C : Cf} {F : Hp} {ρ : Rho} {v : V} (r : R C F ρ .non v) : v = .non := by unfold R at r; exact r
theorem Rs.nil_iff {C : Cf} {F : Hp} {ρ : Rho} {xs : List D} {ys : List V} (r : Rs C F ρ xs ys) : ys = [] ↔ xs = [] := by
  have := r.length
  constructor
  · intro h; subst h; exact List.eq_nil_of_length_eq_zero (by simpa using this)
  · intro h; subst h; exact List.eq_nil_of_length_eq_zero (by simpa using this.symm)
def gAdd (x y : D) (h : AH) : Out D := match x, y with
  | .int i, .int j => .ok (.int (i + j)) h
  | .str i, .str j => if i.length + j.length ≤ lim then .ok (.str (i ++ j)) h else .bad
  | .tup a, .tup b => if a.length + b.length ≤ lim then .ok (.tup (a ++ b)) h else .bad
  | x, y => (match lstOf x h, lstOf y h with
    | some a, some b => if a.length + b.length ≤ lim then .ok (.lst (a ++ b)) h else .bad
    | _, _ => .bad)
def rAddA (K : PySem.W.Frag) : R2 := fun x y H Q => (rI0 (fun i j => .int (i + j)) x y H Q) ∨ ((∃ i j, x = .str i ∧ y = .str j ∧ i.length + j.length ≤ sizeLine ∧ Q (.str (i ++ j)) H) ∨ (rCatP K x y H Q ∨ rCat x y H Q))
theorem or_add {X : Cx} : OpR X (binaryOp .Add) (rAddA X.K) := op_add.or (op_add_str.or (op_catP.or op_cat))
theorem lst_add {C : Cf} {W : WX} {σ : L2.St} {s : Sx} {x y : D} {v u : V} {Q : VK} (g : Good C s) (rx : R C s.F s.ρ x v) (ry : R C s.F s.ρ y u)
    (h : Post C W σ (rD C) s Q (match lstOf x s.ah, lstOf y s.ah with
    | some a, some b => if a.length + b.length ≤ lim then .ok (.lst (a ++ b)) s.ah else .bad
    | _, _ => .bad)) : rCat v u s.H Q := by
  cases ex : lstOf x s.ah with
  | none => rw [ex] at h; exact h.elim
  | some a =>
    cases ey : lstOf y s.ah with
    | none => rw [ex, ey] at h; exact h.elim
    | some b =>
      rw [ex, ey] at h
      dsimp only at h
      split at h
      · rename_i hl
        obtain ⟨p, ys, rfl, hp, r1⟩ := lstOf_ok g rx ex
        obtain ⟨q, zs, rfl, hq, r2⟩ := lstOf_ok g ry ey
        exact ⟨p, q, ys, zs, rfl, rfl, hp, hq, lim_le (by rw [← r1.length, ← r2.length]; exact hl), Post.lst g h (Rs.app r1 r2)⟩
      · exact h.elim
theorem os_add {C : Cf} {K : PySem.W.Frag} : OpS C (rAddA K) gAdd := by
  intro W σ s x y v u Q g rx ry h
  unfold gAdd at h
  split at h
  · rw [rx.int_eq, ry.int_eq]
    exact .inl ⟨_, _, rfl, rfl, Post.int g h⟩
  · rw [rx.str_eq, ry.str_eq]
    split at h
    · rename_i hl
      exact .inr (.inl ⟨_, _, rfl, rfl, lim_le hl, Post.str g h⟩)
    · exact h.elim
  · split at h
    · rename_i a b hl
      have rx' := rx
      have ry' := ry
      unfold R at rx' ry'
      obtain ⟨p, ys, rfl, hp, r1⟩ := rx'
      obtain ⟨q, zs, rfl, hq, r2⟩ := ry'
      refine .inr (.inr (.inl ⟨p, q, ys, zs, ⟨rfl, rfl⟩, ⟨(hp.sub g.sub).sq, (hq.sub g.sub).sq⟩, lim_le (by rw [← r1.length, ← r2.length]; exact hl), fun e => ?_, fun _ e => ?_, fun _ _ => Post.tup g h (Rs.app r1 r2)⟩))
      · have := r1.nil_iff.mp e
        subst this
        exact Post.here g h ry
      · have := r2.nil_iff.mp e
        subst this
        rw [List.append_nil] at h
        exact Post.here g h rx
    · exact h.elim
  · exact .inr (.inr (.inr (lst_add g rx ry h)))
/-- two ints -/
def gInt (ok : Int → Int → Bool) (f : Int → Int → Int) (x y : D) (h : AH) : Out D := match x, y with
  | .int i, .int j => if ok i j = true then .ok (.int (f i j)) h else .bad
  | _, _ => .bad
theorem os_int {C : Cf} {P : Int → Int → Prop} {ok : Int → Int → Bool} {f : Int → Int → Int} (hp : ∀ i j, ok i j = true → P i j) : OpS C (rI P fun i j => .int (f i j)) (gInt ok f) := by
  intro W σ s x y v u Q g rx ry h
  unfold gInt at h
  split at h
  · split at h
    · rename_i hk
      rw [rx.int_eq, ry.int_eq]
      exact ⟨_, _, rfl, rfl, hp _ _ hk, Post.int g h⟩
    · exact h.elim
  · exact h.elim
def gInt0 (f : Int → Int → Int) (x y : D) (h : AH) : Out D := match x, y with
  | .int i, .int j => .ok (.int (f i j)) h
  | _, _ => .bad
theorem os_int0 {C : Cf} {f : Int → Int → Int} : OpS C (rI0 fun i j => .int (f i j)) (gInt0 f) := by
  intro W σ s x y v u Q g rx ry h
  unfold gInt0 at h
  split at h
  · rw [rx.int_eq, ry.int_eq]
    exact ⟨_, _, rfl, rfl, Post.int g h⟩
  · exact h.elim
def gSub := gInt0 fun i j => i - j
def gMod := gInt (fun _ j => decide (0 < j)) fun i j => i % j
def gPow := gInt (fun i j => decide (0 ≤ j) && decide (j ≤ 1000000) && decide (i.natAbs < 2 ^ 64)) fun i j => i ^ j.toNat
theorem os_sub {C : Cf} : OpS C (rI0 fun i j => .int (i - j)) gSub := os_int0
theorem os_mod {C : Cf} : OpS C (rI (fun _ j => 0 < j) fun i j => .int (i % j)) gMod := os_int fun i j h => by
  simp only [decide_eq_true_eq] at h
  exact h
theorem os_pow {C : Cf} : OpS C (rI CPow fun i j => .int (i ^ j.toNat)) gPow := os_int fun i j h => by
  simp only [Bool.and_eq_true, decide_eq_true_eq] at h
  exact ⟨h.1.1, h.1.2, h.2⟩
def ltS (i j : Str) : Bool := decide (i.cps.toList < j.cps.toList)
def gNot (g : D → D → AH → Out D) (x y : D) (h : AH) : Out D := match g x y h with
  | .ok (.bl b) h' => .ok (.bl (!b)) h'
  | _ => .bad
mutual
def toPy : D → Option PyData
  | .non => some .none
  | .bl b => some (.bool b)
  | .int i => some (.int i)
  | .str x => some (.str x)
  | .tup xs => (toPys xs).map .tuple
  | .rtp xs => (toPys xs).map .tuple
  | .lst xs => (toPys xs).map .list
  | _ => none
def toPys : List D → Option (List PyData)
  | [] => some []
  | d :: ds => (match toPy d, toPys ds with
    | some a, some b => some (a :: b)
    | _, _ => none)
end
mutual
theorem toPy_ok {C : Cf} {K : PySem.W.Frag} {F H : Hp} {ρ : Rho} (sb : Sub F H) : ∀ {d : D} {v : V} {p : PyData}, R C F ρ d v → toPy d = some p → Dp K H v p
  | .non, v, p, r, e => by rw [r.non_eq]; unfold toPy at e; cases e; exact .non
  | .bl b, v, p, r, e => by rw [r.bl_eq]; unfold toPy at e; cases e; exact .bl b
  | .int b, v, p, r, e => by rw [r.int_eq]; unfold toPy at e; cases e; exact .int b
  | .str b, v, p, r, e => by rw [r.str_eq]; unfold toPy at e; cases e; exact .str b
  | .tup xs, v, p, r, e => by
    unfold toPy at e
    cases q : toPys xs with
    | none => rw [q] at e; cases e
    | some ps =>
      rw [q] at e; cases e
      unfold R at r
      obtain ⟨a, ys, rfl, fa, rr⟩ := r
      exact .tup ((fa.sub sb).sq) (toPys_ok sb rr q)
  | .rtp xs, v, p, r, e => by
    unfold toPy at e
    cases q : toPys xs with
    | none => rw [q] at e; cases e
    | some ps =>
      rw [q] at e; cases e
      unfold R at r
      obtain ⟨a, ys, rfl, fa, rr⟩ := r
      exact .tup (SqT.of (sb _ _ fa)) (toPys_ok sb rr q)
  | .lst xs, v, p, r, e => by
    unfold toPy at e
    cases q : toPys xs with
    | none => rw [q] at e; cases e
    | some ps =>
      rw [q] at e; cases e
      unfold R at r
      obtain ⟨a, ys, rfl, fa, rr⟩ := r
      exact .lst (SqL.of (sb _ _ fa)) (toPys_ok sb rr q)
  | .ty _, _, _, _, e | .glo _, _, _, _, e | .dct _, _, _, _, e | .dcT _, _, _, _, e | .ins _ _, _, _, _, e | .set _, _, _, _, e | .scr _, _, _, _, e | .cell _, _, _, _, e | .exn _ _, _, _, _, e | .lam _, _, _, _, e | .seT _, _, _, _, e | .exv _ _ _, _, _, _, e => by unfold toPy at e; cases e
theorem toPys_ok {C : Cf} {K : PySem.W.Frag} {F H : Hp} {ρ : Rho} (sb : Sub F H) : ∀ {d : List D} {v : List V} {p : List PyData}, Rs C F ρ d v → toPys d = some p → DpAll K H v p
  | [], v, p, r, e => by unfold Rs at r; subst r; unfold toPys at e; cases e; exact .nil
  | d :: ds, v, p, r, e => by
    unfold Rs at r
    obtain ⟨v1, vr, rfl, r1, r2⟩ := r
    unfold toPys at e
    cases q1 : toPy d with
    | none => rw [q1] at e; cases e
    | some a =>
      cases q2 : toPys ds with
      | none => rw [q1, q2] at e; cases e
      | some b =>
        rw [q1, q2] at e; cases e
        exact .cons (toPy_ok sb r1 q1) (toPys_ok sb r2 q2)
end
/-- a list in a cell is read as it stands -/
def seen (d : D) (h : AH) : D := match d with
  | .cell n => (match h.get n with
    | some (.lst xs) => .lst xs
    | _ => d)
  | _ => d
theorem seen_ok {C : Cf} {K : PySem.W.Frag} {s : Sx} {d : D} {v : V} {p : PyData} (g : Good C s) (r : R C s.F s.ρ d v) (e : toPy (seen d s.ah) = some p) : Dp K s.H v p := by
  cases d with
  | cell n =>
    unfold seen at e
    dsimp only at e
    split at e
    · rename_i xs en
      unfold R at r
      obtain ⟨a, rfl, ea⟩ := r
      obtain ⟨a', q1, q2, ys, z1, z2⟩ := g.own n _ en
      rw [ea] at q1; cases q1
      unfold toPy at e
      cases q : toPys xs with
      | none => rw [q] at e; cases e
      | some ps =>
        rw [q] at e; cases e
        exact .lst (SqL.of z1) (toPys_ok g.sub z2 q)
    · unfold toPy at e; cases e
  | _ => exact toPy_ok g.sub r e
def gEqD (x y : D) (h : AH) : Out D := match toPy (seen x h), toPy (seen y h) with
  | some a, some b => if (SeqAt.shaped a && SeqAt.shaped b) = true then .ok (.bl (PyData.eqv a b)) h else .bad
  | _, _ => .bad
theorem os_eq {C : Cf} {K : PySem.W.Frag} : OpS C (rEqD K) gEqD := by
  intro W σ s x y v u Q g rx ry h
  unfold gEqD at h
  split at h
  · rename_i a b ea eb
    split at h
    · rename_i hs
      have hs := Bool.and_eq_true_iff.mp hs
      exact ⟨a, b, seen_ok g rx ea, seen_ok g ry eb, hs.1, hs.2, Post.bl g h⟩
    · exact h.elim
  · exact h.elim
theorem os_ne {C : Cf} {K : PySem.W.Frag} : OpS C (rNeD K) (gNot gEqD) := by
  intro W σ s x y v u Q g rx ry h
  unfold gNot gEqD at h
  split at h
  · rename_i z h' e
    split at e
    · rename_i a b ea eb
      split at e
      · rename_i hs
        have hs := Bool.and_eq_true_iff.mp hs
        cases e
        exact ⟨a, b, seen_ok g rx ea, seen_ok g ry eb, hs.1, hs.2, Post.bl g h⟩
      · cases e
    · cases e
  · exact h.elim
end Ws
set_option Elab.async false
set_option linter.all false
set_option maxRecDepth 100000
set_option autoImplicit false
namespace Ws
open PySem PySem.Spec L2
/-- a class named in isinstance -/
def clsTy : D → Option Ty
  | .ty n => some (.b n)
  | .glo x => some (.c x)
  | _ => none
theorem clsTy_ok {C : Cf} {F : Hp} {ρ : Rho} {d : D} {v : V} {u : Ty} (r : R C F ρ d v) (e : clsTy d = some u) : ClsV v (u.v C.K) := by
  cases d with
  | ty n => unfold R at r; subst r; cases e; exact .ty n
  | glo x => unfold R at r; subst r; cases e; exact .own _
  | _ => cases e
end Ws
set_option Elab.async false
set_option linter.all false
set_option maxRecDepth 100000
set_option autoImplicit false
namespace Ws
open PySem PySem.Spec L2
def gTup (ds : List D) (h : AH) : Out D := if ds.length ≤ lim then .ok (.tup ds) h else .bad
def gLst (ds : List D) (h : AH) : Out D := if ds.length ≤ lim then .ok (.lst ds) h else .bad
section
variable {X : Cx} {C : Cf} {ε : Ep} {W : WX} {es : List Expr} {mr : M (List D)} {pos : Pos}
theorem me_tup {x1 : Nat} (h : MA X C ε W es mr) : ME X C ε W (.Tuple es x1 pos) (app gTup mr) := (pe_tupP h).imp fun σ H Q h => by
  obtain ⟨s, dσ, rfl, ex, g, rs, h⟩ := h
  refine Post.bind ex g rs h fun s1 d v e1 f1 g1 rs1 r1 h1 => ?_
  unfold gTup at h1
  split at h1
  · rename_i hl
    exact ⟨lim_le (by rw [← r1.length]; exact hl), Post.tup g1 h1 r1⟩
  · exact h1.elim
theorem me_lst (h : MA X C ε W es mr) : ME X C ε W (.List es pos) (app gLst mr) := (pe_lst h).imp fun σ H Q h => by
  obtain ⟨s, dσ, rfl, ex, g, rs, h⟩ := h
  refine Post.bind ex g rs h fun s1 d v e1 f1 g1 rs1 r1 h1 => ?_
  unfold gLst at h1
  split at h1
  · rename_i hl
    exact ⟨lim_le (by rw [← r1.length]; exact hl), Post.lst g1 h1 r1⟩
  · exact h1.elim
end
def gIx (x y : D) (h : AH) : Out D := match x, y with
  | .tup xs, .int i => (match atI xs i with
    | some d => .ok d h
    | none => .bad)
  | .rtp xs, .int i => (match atI xs i with
    | some d => .ok d h
    | none => .bad)
  | .str z, .int i => (match atI z.cps.toList i with
    | some c => if z.length ≤ lim then .ok (sgn c) h else .bad
    | none => .bad)
  | .scr ns, .int i => (match atI ns i with
    | some n => .ok (.int n) h
    | none => .bad)
  | x, .int i => (match lstOf x h with
    | some xs => (match atI xs i with
      | some d => .ok d h
      | none => .bad)
    | none => .bad)
  | _, _ => .bad
theorem atI_rel {C : Cf} {F : Hp} {ρ : Rho} {xs : List D} {ys : List V} {i : Int} {d : D} (r : Rs C F ρ xs ys) (e : atI xs i = some d) : ∃ v, atI ys i = some v ∧ R C F ρ d v := by
  unfold atI at e ⊢
  rw [← r.length]
  cases q : ixN xs.length i with
  | none => rw [q] at e; cases e
  | some j =>
    rw [q] at e
    exact r.get (show xs[j]? = some d from e)
theorem os_ix {C : Cf} : OpS C (rIx C.K) gIx := by
  intro W σ s x y v u Q g rx ry h
  unfold gIx at h
  split at h
  · rename_i xs i
    split at h
    · rename_i d e
      rw [ry.int_eq]
      unfold R at rx
      obtain ⟨a, ys, rfl, fa, rr⟩ := rx
      obtain ⟨w, e1, r1⟩ := atI_rel rr e
      exact .inr (.inl ⟨a, ys, i, w, rfl, rfl, (fa.sub g.sub).sq, e1, Post.here g h r1⟩)
    · exact h.elim
  · rename_i xs i
    split at h
    · rename_i d e
      rw [ry.int_eq]
      unfold R at rx
      obtain ⟨a, ys, rfl, fa, rr⟩ := rx
      obtain ⟨w, e1, r1⟩ := atI_rel rr e
      exact .inr (.inl ⟨a, ys, i, w, rfl, rfl, SqT.of (g.sub _ _ fa), e1, Post.here g h r1⟩)
    · exact h.elim
  · rename_i z i
    split at h
    · rename_i c e
      split at h
      · rename_i hl
        rw [rx.str_eq, ry.int_eq]
        exact .inr (.inr ⟨z, i, c, rfl, rfl, lim_le hl, e, Post.here g h (by unfold sgn R; rfl)⟩)
      · exact h.elim
    · exact h.elim
  · rename_i ns i
    split at h
    · rename_i n e
      rw [ry.int_eq]
      unfold R at rx
      obtain ⟨a, rfl, sq⟩ := rx
      refine .inl ⟨a, ns.map V.int, i, .int n, rfl, rfl, g.sub.sqL sq, ?_, Post.int g h⟩
      unfold atI at e ⊢
      rw [List.length_map]
      cases q : ixN ns.length i with
      | none => rw [q] at e; cases e
      | some j =>
        rw [q] at e
        have e' : ns[j]? = some n := e
        show (ns.map V.int)[j]? = some (V.int n)
        rw [List.getElem?_map, e']; rfl
    · exact h.elim
  · rename_i x i _ _ _ _
    split at h
    · rename_i xs e0
      split at h
      · rename_i d e
        rw [ry.int_eq]
        obtain ⟨a, ys, rfl, ha, rr⟩ := lstOf_ok g rx e0
        obtain ⟨w, e1, r1⟩ := atI_rel rr e
        exact .inl ⟨a, ys, i, w, rfl, rfl, SqL.of ha, e1, Post.here g h r1⟩
      · exact h.elim
    · exact h.elim
  · exact h.elim
section
variable {X : Cx} {C : Cf} {ε : Ep} {W : WX} {a b : Expr} {ma mb : M D} {pos p2 : Pos}
theorem me_ix (hK : X.K = C.K) (ha : ME X C ε W a ma) (hb : ME X C ε W b mb) (hs : PlainIx b := by intro _ _; rfl) : ME X C ε W (.Subscript a b pos) (bin gIx ma mb) := (pe_ix (ix_seq (X := X)) ha hb hs).imp fun σ H Q h => by
  obtain ⟨s, dσ, rfl, ex, gd, rs, h⟩ := h
  refine Post.bind ex gd rs h fun s1 x v e1 f1 g1 rs1 r1 h1 => ?_
  refine Post.bind e1 g1 rs1 h1 fun s2 y u e2 f2 g2 rs2 r2 h2 => ?_
  rw [hK]
  exact os_ix W σ s2 x y v u Q g2 (r1.fwd f2) r2 h2
abbrev MO (X : Cx) (C : Cf) (ε : Ep) (W : WX) (e : Option Expr) (m : M (Option Int)) : Prop := PO X e (tG C ε W (fun _ a b => a = b) m)
theorem _root_.L2.PO.imp {X : Cx} {e : Option Expr} {t t' : TO} (h : PO X e t) (k : ∀ σ H Q, t' σ H Q → t σ H Q) : PO X e t' := ⟨fun pins s σ H Q I q => h.run pins s σ H Q I (k σ H Q q)⟩
def noPart : M (Option Int) := fun _ h => .ok none h
def part (m : M D) : M (Option Int) := fun σ h => (m σ h).bind fun d h1 => match d with
  | .int i => .ok (some i) h1
  | _ => .bad
theorem mo_none : MO X C ε W none noPart := po_none.imp fun σ H Q h => by
  obtain ⟨s, dσ, rfl, ex, g, rs, h⟩ := h
  exact Post.here (rl := fun _ a b => a = b) g h rfl
theorem mo_some (ha : ME X C ε W a ma) : MO X C ε W (some a) (part ma) := (po_some ha).imp fun σ H Q h => by
  obtain ⟨s, dσ, rfl, ex, g, rs, h⟩ := h
  refine Post.bind ex g rs h fun s1 x v e1 f1 g1 rs1 r1 h1 => ?_
  cases x with
  | int i => exact ⟨i, r1.int_eq, Post.here (rl := fun _ a b => a = b) g1 h1 rfl⟩
  | _ => exact h1.elim
def cutD {α : Type} (xs : List α) (lo hi : Option Int) : List α := (xs.drop (HT.sIx xs.length 0 lo)).take (HT.sIx xs.length xs.length hi - HT.sIx xs.length 0 lo)
def gSl (x : D) (lo hi : Option Int) (h : AH) : Out D := match x with
  | .tup xs => .ok (.tup (cutD xs lo hi)) h
  | .str z => if z.length ≤ lim then .ok (.str (cutS z lo hi)) h else .bad
  | .scr ns => .ok (.lst ((cutD ns lo hi).map .int)) h
  | x => (match lstOf x h with
    | some xs => .ok (.lst (cutD xs lo hi)) h
    | none => .bad)
def sl (a : M D) (lo hi : M (Option Int)) : M D := fun σ h => (a σ h).bind fun x h1 => (lo σ h1).bind fun l h2 => (hi σ h2).bind fun u h3 => gSl x l u h3
theorem Rs.drop {F : Hp} {ρ : Rho} : ∀ (n : Nat) {xs : List D} {ys : List V}, Rs C F ρ xs ys → Rs C F ρ (xs.drop n) (ys.drop n)
  | 0, xs, ys, r => by simpa using r
  | n + 1, [], ys, r => by unfold Rs at r; subst r; simp [Rs]
  | n + 1, x :: xs, ys, r => by
    unfold Rs at r
    obtain ⟨v, t, rfl, _, r⟩ := r
    simpa using Rs.drop n r
theorem Rs.take {F : Hp} {ρ : Rho} : ∀ (n : Nat) {xs : List D} {ys : List V}, Rs C F ρ xs ys → Rs C F ρ (xs.take n) (ys.take n)
  | 0, xs, ys, r => by simp [Rs]
  | n + 1, [], ys, r => by unfold Rs at r; subst r; simp [Rs]
  | n + 1, x :: xs, ys, r => by
    unfold Rs at r
    obtain ⟨v, t, rfl, a, r⟩ := r
    simp only [List.take_succ_cons]
    unfold Rs
    exact ⟨v, _, rfl, a, Rs.take n r⟩
theorem Rs.cut {F : Hp} {ρ : Rho} {xs : List D} {ys : List V} {lo hi : Option Int} (r : Rs C F ρ xs ys) : Rs C F ρ (cutD xs lo hi) (cutV ys lo hi) := by
  unfold cutD cutV
  rw [← r.length]
  exact Rs.take _ (Rs.drop _ r)
def rSlAll (K : PySem.W.Frag) : V → Option Int → Option Int → Hp → VK → Prop := fun x lo hi H Q => rSlL K x lo hi H Q ∨ (rSlP K x lo hi H Q ∨ rSlS x lo hi H Q)
theorem sr_all : SlR X (rSlAll X.K) := sl_list.or (sl_tupP.or sl_str)
theorem Rs.ints {F : Hp} {ρ : Rho} : ∀ ns : List Int, Rs C F ρ (ns.map .int) (ns.map V.int)
  | [] => by simp [Rs]
  | n :: ns => by
    show Rs C F ρ (.int n :: ns.map .int) (V.int n :: ns.map V.int)
    unfold Rs
    exact ⟨_, _, rfl, by unfold R; rfl, Rs.ints ns⟩
theorem cut_map (ns : List Int) (lo hi : Option Int) : cutV (ns.map V.int) lo hi = (cutD ns lo hi).map V.int := by
  unfold cutV cutD
  rw [List.length_map, ← List.map_drop, ← List.map_take]
theorem me_sl {lo hi : Option Expr} {ml mh : M (Option Int)} (hK : X.K = C.K) (ha : ME X C ε W a ma) (hl : MO X C ε W lo ml) (hh : MO X C ε W hi mh) : ME X C ε W (.Subscript a (.Slice lo hi none p2) pos) (sl ma ml mh) := (pe_slice sr_all ha hl hh).imp fun σ H Q h => by
  obtain ⟨s, dσ, rfl, ex, gd, rs, h⟩ := h
  refine Post.bind ex gd rs h fun s1 x v e1 f1 g1 rs1 r1 h1 => ?_
  refine Post.bind e1 g1 rs1 h1 fun s2 l l' e2 f2 g2 rs2 r2 h2 => ?_
  subst r2
  refine Post.bind e2 g2 rs2 h2 fun s3 u u' e3 f3 g3 rs3 r3 h3 => ?_
  subst r3
  replace r1 : R C s3.F s3.ρ x v := (R.fwd f2 r1).fwd f3
  rw [hK]
  unfold gSl at h3
  split at h3
  · rename_i xs
    unfold R at r1
    obtain ⟨p, ys, rfl, fa, rr⟩ := id r1
    refine .inr (.inl ⟨p, ys, rfl, (fa.sub g3.sub).sq, fun hw => ?_, fun _ => Post.tup g3 h3 rr.cut⟩)
    refine Post.here g3 h3 ?_
    have e : cutD xs l u = xs := by
      unfold cutD
      rw [rr.length, hw.1, hw.2, List.drop_zero, Nat.sub_zero, ← rr.length, List.take_length]
    rw [e]
    unfold R
    exact r1
  · split at h3
    · rename_i z hz
      exact .inr (.inr ⟨z, r1.str_eq, lim_le hz, Post.str g3 h3⟩)
    · exact h3.elim
  · rename_i ns
    unfold R at r1
    obtain ⟨p, rfl, sq⟩ := r1
    refine .inl ⟨p, ns.map V.int, rfl, g3.sub.sqL sq, ?_⟩
    rw [cut_map]
    exact Post.lst g3 h3 (Rs.ints _)
  · split at h3
    · rename_i xs e0
      obtain ⟨p, ys, rfl, hp, rr⟩ := lstOf_ok g3 r1 e0
      exact .inl ⟨p, ys, rfl, SqL.of hp, Post.lst g3 h3 rr.cut⟩
    · exact h3.elim
end
theorem Rs.one {C : Cf} {F : Hp} {ρ : Rho} {d : D} {vs : List V} (r : Rs C F ρ [d] vs) : ∃ v, vs = [v] ∧ R C F ρ d v := by
  unfold Rs at r
  obtain ⟨v, t, rfl, a, r⟩ := r
  unfold Rs at r
  subst r
  exact ⟨v, rfl, a⟩
theorem Rs.two {C : Cf} {F : Hp} {ρ : Rho} {d e : D} {vs : List V} (r : Rs C F ρ [d, e] vs) : ∃ v w, vs = [v, w] ∧ R C F ρ d v ∧ R C F ρ e w := by
  unfold Rs at r
  obtain ⟨v, t, rfl, a, r⟩ := r
  obtain ⟨w, rfl, b⟩ := r.one
  exact ⟨v, w, rfl, a, b⟩
end Ws
set_option Elab.async false
set_option linter.all false
set_option maxRecDepth 100000
set_option autoImplicit false
namespace Ws
open PySem PySem.Spec L2
def MtS (C : Cf) (r : V → List V → Hp → VK → Prop) (g : D → List D → AH → Out D) : Prop := ∀ (W : WX) (σ : L2.St) (s : Sx) (o : D) (ds : List D) (v : V) (us : List V) (Q : VK), Good C s → R C s.F s.ρ o v → Rs C s.F s.ρ ds us → Post C W σ (rD C) s Q (g o ds s.ah) → r v us s.H Q
/-- the receiver's kind is looked at ahead of the arguments -/
def bm (ty : D → AH → Bool) (g : D → List D → AH → Out D) (mo : M D) (mr : M (List D)) : M D := fun σ h => (mo σ h).bind fun o h1 => if ty o h1 = true then (mr σ h1).bind fun ds h2 => g o ds h2 else .bad
def isLst (d : D) (h : AH) : Bool := (lstOf d h).isSome
def TyS (C : Cf) (T : String) (ty : D → AH → Bool) : Prop := ∀ (s : Sx) (d : D) (v : V), Good C s → R C s.F s.ρ d v → ty d s.ah = true → tyV C.K T v s.H
theorem ts_lst {C : Cf} : TyS C "list" isLst := fun s d v g r e => by
  obtain ⟨xs, e'⟩ := Option.isSome_iff_exists.mp e
  obtain ⟨a, ys, rfl, ha, rr⟩ := lstOf_ok g r e'
  exact .inl ⟨rfl, ys, SqL.of ha⟩
section
variable {X : Cx} {C : Cf} {ε : Ep} {W : WX} {o e : Expr} {es : List Expr} {mo : M D} {mr : M (List D)} {name : Str} {apos pos : Pos} {T id : String} {r : V → List V → Hp → VK → Prop} {ty : D → AH → Bool} {g : D → List D → AH → Out D}
theorem me_bm (hK : X.K = C.K) (pa : PlainAttrs T) (slot : Slot T name id) (hty : typeOf (.builtin id) = pure (.type "method_descriptor")) (hm : MtR X id r) (ts : TyS C T ty) (hg : MtS C r g) (ho : ME X C ε W o mo) (ha : MA X C ε W (e :: es) mr) (hbase : attributeBase o name X.env (eval o X.env) = eval o X.env := by rfl)
    (hfew : ((backTo pos (starEach (e :: es) X.env)).all (fun x => !x.1) && (backToKw pos (keywordEach [] X.env)).all (fun x => x.1.isSome) && decide ((e :: es).length + ([] : List Keyword).length + (if ([] : List Keyword).isEmpty then 0 else 1) < 30)) = true := by rfl)
    (hline : (apos.endLine == pos.line) = true := by rfl) (hs : starEach (e :: es) X.env = (false, eval e X.env) :: starEach es X.env := by rfl) (hplain : (backTo pos (starEach es X.env)).any (·.1) = false := by rfl) :
    ME X C ε W (.Call (.Attribute o name apos) (e :: es) [] pos) (bm ty g mo mr) := (pe_bm pa slot hty hm ho ha hbase hfew hline hs hplain).imp fun σ H Q h => by
  obtain ⟨s, dσ, rfl, ex, gd, rs, h⟩ := h
  refine Post.bind ex gd rs h fun s1 x v e1 f1 g1 rs1 r1 h1 => ?_
  split at h1
  · rename_i ht
    refine ⟨by rw [hK]; exact ts s1 x v g1 r1 ht, Post.bind e1 g1 rs1 h1 fun s2 ds us e2 f2 g2 rs2 r2 h2 => ?_⟩
    exact hg W σ s2 x ds v us Q g2 (r1.fwd f2) r2 h2
  · exact h1.elim
end
theorem Rs.set {C : Cf} {F : Hp} {ρ : Rho} {d : D} {v : V} (q : R C F ρ d v) : ∀ (j : Nat) {xs : List D} {ys : List V}, Rs C F ρ xs ys → Rs C F ρ (xs.set j d) (ys.set j v)
  | _, [], ys, r => by unfold Rs at r; subst r; simp [Rs]
  | 0, x :: xs, ys, r => by
    unfold Rs at r
    obtain ⟨w, t, rfl, a, r⟩ := r
    simp only [List.set_cons_zero]
    unfold Rs
    exact ⟨v, t, rfl, q, r⟩
  | j + 1, x :: xs, ys, r => by
    unfold Rs at r
    obtain ⟨w, t, rfl, a, r⟩ := r
    simp only [List.set_cons_succ]
    unfold Rs
    exact ⟨w, _, rfl, a, Rs.set q j r⟩
end Ws
set_option Elab.async false
set_option linter.all false
set_option maxRecDepth 100000
set_option maxHeartbeats 2000000
set_option autoImplicit false
namespace Ws
open PySem PySem.Spec PySem.W
section
variable {prog : Program} {w : World} {A : Around} {E : Value → Shared → Prop} {s : Shared} {K : Frag} {x cA : Addr} {ox : Obj} {od : Option Obj}
theorem find_data {name : Str} {a g : Value} (hc : (clsIn K cA).isSome = true) (ha : findIn K (.ref cA) name = some (some a)) (hg : specialIn K a "__get__" = some (some g)) (ht : takesIn K a = some true) : findObj K cA od name = some (.bind g a) := by
  obtain ⟨cd, hc⟩ := Option.isSome_iff_exists.mp hc
  unfold findObj
  simp [hc, ha, hg, ht]
theorem err_class {Q : Option Value → Shared → Prop} (T : L2.ExcC K cA) (X : K.In s.heap) (I : InstAt s.heap x ox cA od) (h : Q (some (.ref cA)) { s with toks := s.toks + 1 }) : wpAny (model prog w) A (getAttr? (.ref x) "__class__") Q E s := by
  have hsome : (clsIn K cA).isSome = true := by
    have hd := T.hd
    unfold hasDictIn at hd
    cases q : clsIn K cA with
    | none => rw [q] at hd; cases hd
    | some _ => rfl
  have hf : findObj K cA od "__class__" = some (.bind (.builtin "getset_descriptor.__get__") (.builtin "object.__class__")) := find_data hsome T.ha T.hn T.ht
  obtain ⟨hp, gs, dr, tk, os⟩ := s
  have l0 := I.type (M := model prog w)
  have l1 := looks_findIn (M := model prog w) X T.hg
  have l2 := looks_findIn (M := model prog w) X T.hk
  have l3 := looks_find (M := model prog w) X I hf
  have sub : Looks (model prog w) hp (isInstance (.ref x) (.type "BaseException")) true := l0.andThen (looks_subIn X T.hs)
  have n0 : (false && onTheHeap (Value.builtin "BaseException.__getattribute__")) = false := rfl
  have n2 : (Value.builtin "BaseException.__getattribute__" == Value.builtin "object.__getattribute__") = false := by decide +kernel
  have n1 : (onTheHeap (Value.ref cA) && Value.builtin "BaseException.__getattribute__" == Value.builtin "object.__getattribute__") = false := by rw [n2]; rfl
  unfold getAttr? getAttrBy? getAttrBy
  refine wpAny_bind (wpAny_mkText (wpAny_bind (wpAny_attempt (wpAny_holding (wpAny_bind (l0.at (wpAny_bind (l1.at ?_))))))))
  show wpAny _ _ (if (onTheHeap (Value.ref cA) && Value.builtin "BaseException.__getattribute__" == Value.builtin "object.__getattribute__") = true then _ else _) _ _ _
  rw [n1, if_neg Bool.false_ne_true]
  unfold getAttrByItsOwn hookBefore
  refine wpAny_bind ?_
  rw [if_pos (show onTheHeap (Value.ref cA) = true from rfl)]
  refine l2.at ?_
  refine wpAny_bind (wpAny_attempt (wpAny_holding ?_))
  unfold callGetattribute
  rw [n0, if_neg Bool.false_ne_true]
  unfold boundAndCalled
  rw [PySem.F.excAttr_ValueError.ga.bind (.ref x)]
  refine wpAny_bind (wpAny_pure ?_)
  show wpAny _ _ (PySem.call (.builtin "BaseException.__getattribute__") [.ref x, .str "__class__" tk]) _ _ _
  refine wpAny_call (codeAny_call_builtin PySem.F.excAttr_ValueError.ga.plain PySem.F.entry_bexc_ga ?_)
  refine @check_slot (model prog w) _ _ ⟨hp, gs, dr, tk + 1, os⟩ "BaseException.__getattribute__" "BaseException" "__getattribute__" (.ref x) [.str "__class__" tk] [] _ (by decide +kernel) (by decide +kernel) sub (PySem.F.args_bexc_ga (.ref x) (.str "__class__" tk)) ?_
  unfold Builtin.«object.__getattribute__»
  refine wpAny_bind (wpAny_of_eq (a := ((Value.ref x : Value), [Value.str "__class__" tk])) (by first | rfl | (simp only [slotArgs]; rfl)) ?_)
  refine wpAny_bind (wpAny_pure (wpAny_bind (l0.at (wpAny_bind (l3.at ?_)))))
  show wpAny _ _ (holding [Value.builtin "object.__class__"] (PySem.call (.builtin "getset_descriptor.__get__") [.builtin "object.__class__", .ref x, .ref cA]) >>= PySem.ret) _ _ _
  refine wpAny_bind (wpAny_holding (wpAny_call (class_get (s := ⟨hp, gs, dr, tk + 1, os⟩) (ox := ox) (od := od) X I T.hm ?_)))
  refine wpAny_pure ?_
  show wpAny _ _ (handedOut (.ref cA)) _ _ _
  rw [handedOut_of (v := .ref cA) rfl]
  first
    | exact wpAny_pure (wpAny_pure h)
    | exact wpAny_pure h
    | exact wpAny_pure (wpAny_bind (wpAny_pure (wpAny_pure h)))
theorem err_kit (T : L2.ExcC K cA) : KitX K (.ref x) (.ref cA) (fun h => InstAt h x ox cA od) where
  ty := fun _ _ _ I => I.type
  it := fun _ _ X _ => by
    have hd := T.hd
    unfold hasDictIn at hd
    cases q : clsIn K cA with
    | none => rw [q] at hd; cases hd
    | some cd =>
      unfold clsIn at q
      split at q
      · rename_i c' d' cd' sl' ho
        intro A' Q' E' s' k z
        unfold isType loadHead
        exact wpAny_bind (wpAny_loadPart (k _ _ (X _ _ ho)) (wpAny_pure z))
      · cases q
  ne := fun h tp dd its n sl X htp => by
    have hd := T.hd
    unfold hasDictIn at hd
    refine Bool.eq_false_iff.mpr fun z => ?_
    have e : cA = tp := Value.ref.inj (beq_iff_eq.mp z)
    subst e
    cases q : clsIn K cA with
    | none => rw [q] at hd; cases hd
    | some cd =>
      unfold clsIn at q
      split at q
      · rename_i c' d' cd' sl' ho
        have z := (X _ _ ho).symm.trans htp
        cases z
      · cases q
  ca := fun X I k => err_class T X I k
end
end Ws
namespace Ws
open PySem PySem.Spec L2
/-- the classes of errors: kinds of their own -/
structure EKit (K : PySem.W.Frag) (kt : Kit) : Prop where
  cls : ∀ c, Ty.c c ∈ kt.tys → ExcC K (He.ga K c)
  one : ∀ t ∈ kt.tys, ∀ c ∈ kt.cls, PySem.W.kitOne K (t.v K) (c.v K) = some (kt.sub t c)
def rIsX (K : PySem.W.Frag) (a : Addr) (cA : Addr) : List V → Hp → VK → Prop := fun xs H Q => (∃ (k : V) (cv : Value) (b : Bool), xs = [.ref a, k] ∧ ClsV k cv ∧ PySem.W.kitOne K (.ref cA) cv = some b ∧ Q (.bl b) H) ∨
  ∃ (tp : Addr) (cs : List V) (us : List Value) (b : Bool), xs = [.ref a, .ref tp] ∧ H tp = some (.tup cs) ∧ Paired ClsV cs us ∧ PySem.W.kitAny K (.ref cA) us = some b ∧ Q (.bl b) H
end Ws
set_option Elab.async false
set_option linter.all false
set_option maxRecDepth 100000
set_option maxHeartbeats 2000000
set_option autoImplicit false
namespace Ws
open PySem PySem.Spec PyProof.Rows L2
section
variable {X : Cx} {C : Cf} {ε : Ep} {W : WX} {pos : Pos}
/-- what an own __init__ of an error keeps: it bears y -/
def spX (K : PySem.W.Frag) (y : Str) : Sp := fun vs H Q _ => ∃ (a cA : Addr) (v : V), vs = [.ref a, v] ∧ OexC K cA ∧ PySem.W.findIn K (.ref cA) y = some none ∧ H a = some (exo a cA none) ∧ ∀ dx, H dx = none → dx ≠ a → Q .non (upd (upd H dx (exd dx [(y, v)])) a (exo a cA (some dx)))
/-- B.__init__(self, ..), B without an own one -/
theorem pe_binit {pl : Sem Bool} {b : Str} {e : Expr} {es : List Expr} {ta : TA} {p1 p2 : Pos} (hg : Gl X b) (hm : X.mg b = some (.ref (He.ga X.K b))) (hdb : (b == ("__debug__" : Str)) = false) (h1 : PySem.W.specialIn X.K (.ref (He.ga X.K b)) "__getattribute__" = some (some (.builtin "type.__getattribute__")))
    (hr : PySem.W.readsIn X.K (He.ga X.K b) (.type "type") = true) (vV : PySem.W.findCls X.K (.ref (He.ga X.K b)) (.type "type") "__init__" = some (.val (.builtin "ValueError.__init__"))) (ha : PA X (e :: es) ta)
    (hc : eval (.Call (.Attribute (.Name b p1) "__init__" p2) (e :: es) [] pos) X.env = (do
      let ov ← eval (.Name b p1) X.env
      standAt p2.atName
      let (f, first) ← holding [ov] (getMethod ov "__init__" pl)
      callWith pos f first (backTo pos (starEach (e :: es) X.env)) (backToKw pos (keywordEach [] X.env))) := by rfl)
    (he : starEach (e :: es) X.env = (false, eval e X.env) :: starEach es X.env := by rfl) (hpl : (backTo pos (starEach es X.env)).any (·.1) = false := by rfl) :
    PE X (.Call (.Attribute (.Name b p1) "__init__" p2) (e :: es) [] pos) (tVeI X.K ta) := by
  refine ⟨fun pins s σ H Q I h => ?_⟩
  refine PySem.W.methodCall_KW (ld_glob I hg hm ?_ hdb) hc
  refine PySem.W.method_cls I.kIn h1 (PySem.W.cls_value I.kIn hr vV (by decide +kernel) ?_)
  show wpAny _ _ (callWith pos (Value.builtin "ValueError.__init__") [] (backTo pos (starEach (e :: es) X.env)) []) _ _ _
  refine PyProof.Rows.callWith_method1 (thn (ha.run pos pins _ σ H _ (I.tok _) h) fun us s1 ⟨vs, H1, I1, r1, a, cA, ws, ev, hl, T, ea, q⟩ => ?_) he hpl
  subst ev
  cases r1 with
  | @cons _ u0 _ ur ra rw' =>
    obtain rfl : u0 = Value.ref a := ra
    have hlen : ur.length ≤ sizeLine := by
      rw [← Paired.length rw', sizeLine_eq]
      omega
    exact oinit_ok T I1 ea hlen fun s' J => ⟨.non, H1, J, rfl, q⟩
end
section
variable {C : Cf} {mg : Str → Option Value} {base : Heap} {x qual : Str} {params : Arguments} {body : List Stmt} {scope : Scope} {dvs : List V} {kws : List (Str × V)} {f : Addr} {fd : FuncData} {N ps : List Str} {k : Nat}
theorem oxi_ok {m y : Str} (F : FunD C.K x qual params body scope dvs kws f fd) (S : FnScope N ps scope) (hps : ps.length = 2)
    (hbody : ∀ (cdv : Value) (A : Around) (outer : List Env) (s : Shared) (H : Hp) (E : XK), PSs (cxOf (L2.CX C.P C.w) C.P C.w C.K mg base N qual scope f cdv A outer s H E) body
      (tSeq (tDrop (tVeI C.K (tCons (tVar 0) (tCons (tC (.str m)) tNil)))) (tOst C.K y (tVar 0) (tVar 1)))) :
    FnOk C.P C.w C.K mg base (L2.CX C.P C.w) (k + 1) f fd ps (spX C.K y) := by
  refine F.ok S (fun vs H Q E h => ?_) fun cdv A outer s H vs Q E hr hsp => ⟨_, hbody cdv A outer s H E, ?_⟩
  · obtain ⟨_, _, _, rfl, _⟩ := h
    exact hps.symm
  · obtain ⟨a, cA, v, rfl, T, hno, ea, q⟩ := hsp
    refine ⟨.ref a, rfl, a, cA, [.str m], rfl, (by show (1:Nat) ≤ 1000; omega), T, ea, ?_⟩
    exact ⟨v, rfl, .ref a, rfl, a, cA, rfl, T, hno, .inl ⟨ea, fun dx h1 h2 => q dx h1 h2⟩⟩
end
section
variable {X : Cx} {C : Cf} {ε : Ep} {W : WX} {pos : Pos}
theorem XR.one {s : Sx} {c y : Str} {d : D} {v : V} {dx : Addr} (r : R C s.F s.ρ d v) (g : Good C s) (h : s.H dx = none) : XR C (s.frz dx (.xd [(y, v)])) ⟨c, [(y, d)]⟩ (some dx) :=
  .inr ⟨dx, [(y, v)], rfl, upd_same, by unfold Rf; exact ⟨v, [], rfl, r.fwd (Fwd.frz g h), by unfold Rf; rfl⟩⟩
end
end Ws
set_option Elab.async false
set_option linter.all false
set_option maxRecDepth 100000
set_option maxHeartbeats 2000000
set_option autoImplicit false
namespace Ws
open PySem PySem.Spec PyProof.Rows L2
def Rho.hold (ρ : Rho) (x : Option (Addr × Str × Option Addr)) : Rho := { ρ with x := x }
mutual
theorem R.hold {C : Cf} {F : Hp} {ρ : Rho} {e : Ep} (n : ρ.x = none) : ∀ {d : D} {v : V}, R C F ρ d v → R C F (ρ.hold e) d v
  | .non, _, h | .bl _, _, h | .int _, _, h | .str _, _, h | .ty _, _, h | .glo _, _, h | .set _, _, h | .scr _, _, h | .cell _, _, h => by unfold R at h ⊢; exact h
  | .tup _, _, h => by unfold R at h ⊢; obtain ⟨a, ys, e, f, z⟩ := h; exact ⟨a, ys, e, f, Rs.hold n z⟩
  | .rtp _, _, h => by unfold R at h ⊢; obtain ⟨a, ys, e, f, z⟩ := h; exact ⟨a, ys, e, f, Rs.hold n z⟩
  | .lst _, _, h => by unfold R at h ⊢; obtain ⟨a, ys, e, f, z⟩ := h; exact ⟨a, ys, e, f, Rs.hold n z⟩
  | .dct _, _, h => by unfold R at h ⊢; obtain ⟨a, o, ks, e, f, z⟩ := h; exact ⟨a, o, ks, e, f, Rk.hold n z⟩
  | .dcT _, _, h => by unfold R at h ⊢; obtain ⟨a, o, ks, e, f, z⟩ := h; exact ⟨a, o, ks, e, f, Rt.hold n z⟩
  | .ins _ _, _, h => by unfold R at h ⊢; obtain ⟨a, dx, gs, e, f, z⟩ := h; exact ⟨a, dx, gs, e, f, Rf.hold n z⟩
  | .exn _ _, _, h => by unfold R at h; obtain ⟨a, od, e, f, z⟩ := h; rw [n] at f; cases f
  | .lam _, _, h => by unfold R at h ⊢; obtain ⟨L, e1, e2, e3, z⟩ := h; exact ⟨L, e1, e2, e3, Rs.hold n z⟩
  | .seT _, _, h => by unfold R at h ⊢; obtain ⟨a, ks, e, f, z⟩ := h; exact ⟨a, ks, e, f, z.free⟩
  | .exv _ _ _, _, h => by
    unfold R at h ⊢
    obtain ⟨a, e, z⟩ := h
    refine ⟨a, e, ?_⟩
    rcases z with z | ⟨z1, d, u, k, z2, z3, z4, z5⟩
    · exact .inl z
    · exact .inr ⟨z1, d, u, k, z2, z3, z4, z5.free z4⟩
theorem Rs.hold {C : Cf} {F : Hp} {ρ : Rho} {e : Ep} (n : ρ.x = none) : ∀ {d : List D} {v : List V}, Rs C F ρ d v → Rs C F (ρ.hold e) d v
  | [], _, h => by unfold Rs at h ⊢; exact h
  | _ :: _, _, h => by unfold Rs at h ⊢; obtain ⟨v, t, e, a, b⟩ := h; exact ⟨v, t, e, R.hold n a, Rs.hold n b⟩
theorem Rf.hold {C : Cf} {F : Hp} {ρ : Rho} {e : Ep} (n : ρ.x = none) : ∀ {d : List (Str × D)} {v : List (Str × V)}, Rf C F ρ d v → Rf C F (ρ.hold e) d v
  | [], _, h => by unfold Rf at h ⊢; exact h
  | (_, _) :: _, _, h => by unfold Rf at h ⊢; obtain ⟨v, t, e, a, b⟩ := h; exact ⟨v, t, e, R.hold n a, Rf.hold n b⟩
theorem Rk.hold {C : Cf} {F : Hp} {ρ : Rho} {e : Ep} (n : ρ.x = none) : ∀ {d : List (D × D)} {v : List (Key × V)}, Rk C F ρ d v → Rk C F (ρ.hold e) d v
  | [], _, h => by unfold Rk at h ⊢; exact h
  | (_, _) :: _, _, h => by unfold Rk at h ⊢; obtain ⟨k, v, t, e, ek, a, b⟩ := h; exact ⟨k, v, t, e, ek, R.hold n a, Rk.hold n b⟩
theorem Rt.hold {C : Cf} {F : Hp} {ρ : Rho} {e : Ep} (n : ρ.x = none) : ∀ {d : List (D × D)} {v : NP}, Rt C F ρ d v → Rt C F (ρ.hold e) d v
  | [], _, h => by unfold Rt at h ⊢; exact h
  | (_, _) :: _, _, h => by unfold Rt at h ⊢; obtain ⟨k, b0, v, t, e, ek, ed, rk, a, b⟩ := h; exact ⟨k, b0, v, t, e, ek, ed, rk.free ek, R.hold n a, Rt.hold n b⟩
end
def Sx.hold (s : Sx) (x : Ep) : Sx := { s with ρ := s.ρ.hold x }
section
variable {C : Cf} {s t : Sx} {x : Ep}
theorem OR.hold {a : Addr} {ob : OB} (n : s.ρ.x = none) (h : OR C s.F s.ρ s.H a ob) : OR C s.F (s.ρ.hold x) s.H a ob := by
  cases ob with
  | lst xs => obtain ⟨ys, q, z⟩ := h; exact ⟨ys, q, Rs.hold n z⟩
  | dct kvs => obtain ⟨ks, q, z⟩ := h; exact ⟨ks, q, Rk.hold n z⟩
  | dcT kvs => obtain ⟨ks, q, z⟩ := h; exact ⟨ks, q, Rt.hold n z⟩
  | ins c fs => obtain ⟨dx, gs, q, z⟩ := h; exact ⟨dx, gs, q, Rf.hold n z⟩
  | set xs => exact h
theorem Good.hold (g : Good C s) (n : s.ρ.x = none) : Good C (s.hold x) :=
  ⟨g.sub, g.tups, fun k ob e => let ⟨a, e1, e2, e3⟩ := g.own k ob e; ⟨a, e1, e2, OR.hold (s := s) n e3⟩, g.inj, g.dom, g.tabs⟩
theorem RS.hold {σ : L2.St} {dσ : Sl} (n : s.ρ.x = none) (h : RS C s σ dσ) : RS C (s.hold x) σ dσ := ⟨h.1, fun i d e => let ⟨v, a, b⟩ := h.2 i d e; ⟨v, a, b.hold n⟩⟩
theorem REq.hold {L : Nat} {ρ : Rho} : REq L ρ (ρ.hold x) := fun _ _ => rfl
theorem Good.let (g : Good C s) (p : pureH s.ah.length s.ah = true) : Good C (s.hold x) :=
  ⟨g.sub, g.tups, fun k ob e => let ⟨a, e1, e2, e3⟩ := g.own k ob e; ⟨a, e1, e2, e3.pure REq.hold (pureH_get p e)⟩, g.inj, g.dom, g.tabs⟩
theorem RS.let {σ : L2.St} {dσ : Sl} {L : Nat} (h : RS C s σ dσ) (p : pureSl L dσ = true) : RS C (s.hold x) σ dσ := ⟨h.1, fun i d e => let ⟨v, a, b⟩ := h.2 i d e; ⟨v, a, b.pure REq.hold (pureSl_get p e)⟩⟩
theorem Fwd.hold {y : Ep} (n : s.ρ.x = x) (f : Fwd (s.hold y) t) : Fwd s (t.hold x) := ⟨f.sub, ⟨f.rho.c, n.symm⟩, f.frame, f.fresh, f.there, f.still⟩
end
end Ws
set_option Elab.async false
set_option linter.all false
set_option maxRecDepth 100000
set_option maxHeartbeats 2000000
set_option autoImplicit false
namespace PySem
end PySem
namespace Ws
open PySem PySem.Spec L2
end Ws
set_option Elab.async false
set_option linter.all false
set_option maxRecDepth 100000
set_option maxHeartbeats 2000000
set_option autoImplicit false
namespace Ws
open PySem PySem.Spec PyProof.Rows L2
end Ws
set_option Elab.async false
set_option linter.all false
set_option maxRecDepth 100000
set_option maxHeartbeats 2000000
set_option autoImplicit false
namespace Ws
open PySem PySem.Spec PyProof.Rows L2
section
variable {fa : List Chk} {fn : List He.DefD} {K : PySem.W.Frag}
theorem SaysB.fact (c : SaysB fa fn K) (i : Nat) {f : Chk} (h : fa[i]? = some f := by rfl) : f K = true := by
  have c1 := (He.ba (show ((fa.all fun f => f K) && fn.all fun d => d.ok K) = true from congrArg (fun z : He.AlD => z.1) c)).1
  exact List.all_eq_true.mp c1 f (List.mem_of_getElem? h)
theorem SaysB.def_ (c : SaysB fa fn K) (i : Nat) {d : He.DefD} (h : fn[i]? = some d := by rfl) : ∃ fd, FunD K d.name d.qual d.params d.body d.scope (d.dvs K) (d.kws K) (He.fAd K d.at_) fd := by
  have c2 := (He.ba (show ((fa.all fun f => f K) && fn.all fun d => d.ok K) = true from congrArg (fun z : He.AlD => z.1) c)).2
  have e : fn.map (fun d => He.fnW K d.at_) = fn.map He.DefD.val := congrArg (fun z : He.AlD => z.2) c
  have e2 : (fn.map fun d => He.fnW K d.at_)[i]? = (fn.map He.DefD.val)[i]? := by rw [e]
  rw [List.getElem?_map, List.getElem?_map, h] at e2
  exact He.DefD.funD (Option.some.inj e2) (List.all_eq_true.mp c2 d (List.mem_of_getElem? h))
end
section
variable {K : PySem.W.Frag}
theorem exc_ok {x : Str} (c : cExc x K = true) : ExcC K (He.ga K x) := by
  obtain ⟨c1, c⟩ := He.ba c
  obtain ⟨c2, c⟩ := He.ba c
  obtain ⟨c3, c⟩ := He.ba c
  obtain ⟨c4, c⟩ := He.ba c
  obtain ⟨c5, c⟩ := He.ba c
  obtain ⟨c6, c⟩ := He.ba c
  obtain ⟨c7, c8⟩ := He.ba c
  exact ⟨He.eqO_ok c1, He.eqO_ok c2, of_decide_eq_true c3, c4, He.eqO_ok c5, of_decide_eq_true c6, of_decide_eq_true c7, of_decide_eq_true c8⟩
theorem oexO_ok {C : Addr} (q : cOexO K C = true) : ∃ nm q N bs bm sn sub ab col dd k0 k1 k2 k3 k5, K.lookup C = some (excClassObj nm q C N bs bm true sn sub ab col dd k0 k1 k2 k3 k5 "ValueError.__new__") ∧ PySem.HandSPX.refsVE bm = true := by
  unfold cOexO at q
  split at q
  · rename_i dd cd sl ho
    split at q
    · rename_i C' bm k0 k1 k2 k3 n k5 hm hs
      simp only [Bool.and_eq_true, beq_iff_eq, Bool.not_eq_true'] at q
      obtain ⟨rfl, rfl, hdel, hdc, hr⟩ := q
      obtain ⟨nm, bs, mro, ns, qn, hd, sn, sub, ab, col, del⟩ := cd
      dsimp only at hm hdel hdc
      subst hm hdel hdc
      have hsl : sl = #[k0, k1, k2, k3, some (.builtin "ValueError.__new__"), k5] := by
        obtain ⟨l⟩ := sl
        simp only at hs
        rw [hs]
      subst hsl
      exact ⟨nm, qn, ns, bs, bm, sn, sub, ab, col, dd, k0, k1, k2, k3, k5, ho, hr⟩
    · cases q
  · cases q
theorem oex_ok {x : Str} (c : cOex x K = true) : OexC K (He.ga K x) := by
  obtain ⟨c1, c⟩ := He.ba c
  obtain ⟨c2, c⟩ := He.ba c
  obtain ⟨c3, c⟩ := He.ba c
  obtain ⟨c4, c5⟩ := He.ba c
  exact ⟨oexO_ok c1, He.eqO_ok c2, of_decide_eq_true c3, of_decide_eq_true c4, c5⟩
theorem no_ok {x y : Str} (c : cNo x y K = true) : PySem.W.findIn K (.ref (He.ga K x)) y = some none := He.eqO_ok c
theorem xf_ok {cs : List Str} {y c : Str} (h : cXf cs y K = true) : c ∈ cs → XfC K (He.ga K c) ∧ PySem.W.findIn K (.ref (He.ga K c)) y = some none := fun hc => by
  obtain ⟨h1, h2⟩ := He.ba (List.all_eq_true.mp h c hc)
  exact ⟨xfB_ok h1, no_ok h2⟩
theorem ekit_ok {kt : Kit} (h : cEkit kt K = true) : EKit K kt := by
  obtain ⟨h1, h2⟩ := He.ba h
  exact ⟨fun c hc => exc_ok (List.all_eq_true.mp h1 _ hc), fun t ht c hc => of_decide_eq_true (List.all_eq_true.mp (List.all_eq_true.mp h2 t ht) c hc)⟩
theorem base_ok {b : Str} (h : cBase b K = true) : PySem.W.specialIn K (.ref (He.ga K b)) "__getattribute__" = some (some (.builtin "type.__getattribute__")) ∧ PySem.W.readsIn K (He.ga K b) (.type "type") = true ∧ PySem.W.findCls K (.ref (He.ga K b)) (.type "type") "__init__" = some (.val (.builtin "ValueError.__init__")) := by
  obtain ⟨h1, h⟩ := He.ba h
  obtain ⟨h2, h3⟩ := He.ba h
  refine ⟨of_decide_eq_true h1, h2, ?_⟩
  split at h3
  · rename_i n e
    rw [e, beq_iff_eq.mp h3]
  · cases h3
end
end Ws
set_option Elab.async false
set_option linter.all false
set_option maxRecDepth 100000
set_option maxHeartbeats 2000000
set_option autoImplicit false
namespace Ws
open PySem PySem.Spec PyProof.Rows L2
def itemsA : D → AH → Out (List D) := fun d h => match d with
  | .lst xs => itemsL (.lst xs) h
  | .tup xs => itemsT (.tup xs) h
  | .str x => itemsS (.str x) h
  | .dcT x => itemsKT (.dcT x) h
  | d => itemsK d h
section
variable {X : Cx} {C : Cf} {ε : Ep} {W : WX} {tg e : Expr} {me : M D} {mr : M (List D)} {p pos tpos : Pos} {elts : List Expr} {kk : Nat}
theorem mi_as {a b : M (List D)} (h : ∀ σ ah, b σ ah ≠ .bad → ∃ c : M (List D), c σ ah = b σ ah ∧ MI X C ε W tg e c) : MI X C ε W tg e b := ⟨fun pins s σ H Q I hh => by
  obtain ⟨sx, dσ, rfl, ex, gd, rs, hh⟩ := hh
  obtain ⟨c, ec, hc⟩ := h dσ sx.ah (fun z => by rw [z] at hh; exact hh)
  exact hc.run pins s σ _ Q I ⟨sx, dσ, rfl, ex, gd, rs, (by rw [ec]; exact hh)⟩⟩
theorem mi_any (hK : X.K = C.K) (he : ME X C ε W e me) (hP : X.prog = C.P := by rfl) (hw : X.w = C.w := by rfl) : MI X C ε W tg e (walk itemsA me) := mi_as (a := walk itemsA me) fun σ ah hb => by
  unfold walk at hb ⊢
  cases q : me σ ah with
  | ok d h1 =>
    cases d with
    | lst xs => exact ⟨walk itemsL me, by unfold walk; rw [q]; rfl, mi_lst hK he⟩
    | tup xs => exact ⟨walk itemsT me, by unfold walk; rw [q]; rfl, mi_tup he⟩
    | str x => exact ⟨walk itemsS me, by unfold walk; rw [q]; rfl, mi_str he⟩
    | dcT x => exact ⟨walk itemsKT me, by unfold walk; rw [q]; rfl, mi_keysT hP hw he⟩
    | _ => exact ⟨walk itemsK me, by unfold walk; rw [q]; rfl, mi_keys he⟩
  | exc x h1 => exact ⟨walk itemsL me, by unfold walk; rw [q]; rfl, mi_lst hK he⟩
  | bad => rw [q] at hb; exact absurd rfl hb
end
def blkB (N : List Str) (sc scope : Scope) (own : List (Str × Nat)) : Bool := (scope.names.all fun y => decide (scope.names.lookup y.1 = some y.2)) && ((own.all fun p => decide (N[p.2]? = some p.1)) && ((scope.names.all fun y => decide (y.2 ≠ .free) || (decide (sc.names.lookup y.1 = some .cell) || decide (sc.names.lookup y.1 = some .free))) &&
  scope.names.all fun y => decide (y.2 ≠ .local ∧ y.2 ≠ .cell) || (decide (y.1 ∈ own.map (·.1)) || decide (y.1 ∉ N))))
theorem blk_of {N : List Str} {sc scope : Scope} {own : List (Str × Nat)} (hk : scope.kind = .function) (h : blkB N sc scope own = true) : BlkOk N sc scope own := by
  obtain ⟨h1, h⟩ := He.ba h
  obtain ⟨h2, h⟩ := He.ba h
  obtain ⟨h3, h4⟩ := He.ba h
  refine ⟨hk, fun y hy => of_decide_eq_true (List.all_eq_true.mp h1 y hy), fun p hp => of_decide_eq_true (List.all_eq_true.mp h2 p hp), fun y hy e => ?_, fun y hy e => ?_⟩
  · have z := List.all_eq_true.mp h3 y hy
    simp only [Bool.or_eq_true, decide_eq_true_eq] at z
    rcases z with z | z
    · exact absurd e z
    · exact z
  · have z := List.all_eq_true.mp h4 y hy
    simp only [Bool.or_eq_true, decide_eq_true_eq] at z
    rcases z with z | z
    · rcases e with e | e
      · exact absurd e z.1
      · exact absurd e z.2
    · exact z
def TgLen (t : Tgs) (n : Nat) : Prop := ∀ ds dσ h, t ds dσ h ≠ .bad → ds.length = n
theorem tgl_nil : TgLen tgNil 0 := fun ds dσ h e => by
  cases ds with
  | nil => rfl
  | cons => exact absurd rfl e
theorem tgl_cons {i : Nat} {t : Tgs} {n : Nat} (k : TgLen t n) : TgLen (tgCons (tgN i) t) (n + 1) := fun ds dσ h e => by
  cases ds with
  | nil => exact absurd rfl e
  | cons d ds => exact congrArg Nat.succ (k ds _ _ e)
section
variable {K : PySem.W.Frag}
theorem oexI_ok {c : Str} {p : Str × Option Str} (h : cOexI c p K = true) : PySem.W.findIn K (.ref (He.ga K c)) "__init__" = some (some (.ref (He.fAd K p))) ∧ PySem.W.typeIn K (.ref (He.fAd K p)) = some (.type "function") := by
  obtain ⟨c1, c2⟩ := He.ba h
  exact ⟨He.eqO_ok c1, of_decide_eq_true c2⟩
/-- all but the tables stays -/
def noTab (H : Hp) : Hp := fun a => match H a with
  | some (.tbl _) => none
  | o => o
theorem noTab_of {H : Hp} {a : Addr} {o : HO} (e : H a = some o) (n : NT o) : noTab H a = some o := by
  unfold noTab
  rw [e]
  cases o with
  | tbl ps => exact absurd rfl (n ps)
  | _ => rfl
theorem noTab_sub (H : Hp) : Sub (noTab H) H := fun a o e => by
  unfold noTab at e
  split at e
  · cases e
  · exact e
theorem noTab_sqL {K : PySem.W.Frag} {H : Hp} {a : Addr} {xs : List V} (h : SqL K H a xs) : SqL K (noTab H) a xs := by
  rcases h with (h | ⟨o, h⟩) | h
  · exact .inl (.inl (noTab_of h (fun _ z => nomatch z)))
  · exact .inl (.inr ⟨o, noTab_of h (fun _ z => nomatch z)⟩)
  · exact .inr h
theorem spM_lawT {C : Cf} {f : List D → AH → Out D} {H : Hp} {a : Addr} {ns : List Int} (hT : ∀ p ∈ C.T, H p.1 = some (.tbl #[])) (hS : SqL C.K H a (ns.map V.int)) {h' : AH} (e : f [.scr ns] [] = .ok (.bl true) h') : spM C 1 f [.ref a] H (fun v _ => v = .bl true) fun _ _ _ => False := by
  refine ⟨⟨noTab H, ⟨fun _ => none, none⟩, H, []⟩, [.scr ns], rfl, rfl, ⟨noTab_sub H, fun _ _ e => noTab_of e (fun _ z => nomatch z), fun n ob e => by simp [AH.get] at e, fun n m a k => by simp [AH.get] at k, fun _ _ => rfl, fun p hp => ⟨#[], hT p hp, ?_, True.intro, fun pos cv hc => ?_⟩⟩, ?_, rfl, ?_⟩
  · show noTab H p.1 = none
    unfold noTab
    rw [hT p hp]
  · have z : codeAmong pos [] = some cv := hc
    simp [codeAmong] at z
  · unfold Rs
    refine ⟨_, [], rfl, ?_, by unfold Rs; rfl⟩
    unfold R
    exact ⟨a, rfl, noTab_sqL hS⟩
  · show Post C _ _ _ _ _ (f [.scr ns] [])
    rw [e]
    exact fun s' v _ _ _ r => r.bl_eq
theorem spM_law {C : Cf} (nT : C.T = []) {f : List D → AH → Out D} {H : Hp} {a : Addr} {ns : List Int} (hS : SqL C.K H a (ns.map V.int)) {h' : AH} (e : f [.scr ns] [] = .ok (.bl true) h') : spM C 1 f [.ref a] H (fun v _ => v = .bl true) fun _ _ _ => False := by
  exact spM_lawT (fun p hp => by rw [nT] at hp; cases hp) hS e
end
/-- a def that lets nothing out -/
theorem fn_quiet {C : Cf} {mg : Str → Option Value} {base : Heap} {k n : Nat} {f : Addr} {fd : FuncData} {ps : List Str} {g : List D → AH → Out D} (F : FnOk C.P C.w C.K mg base (L2.CX C.P C.w) k f fd ps (spM C n g)) :
    FnOk C.P C.w C.K mg base (fun _ _ _ _ _ _ => False) k f fd ps (fun vs H Q _ => spM C n g vs H Q fun _ _ _ => False) := by
  refine ⟨fun vs H Q E h => F.len vs H Q _ h, fun A outer s H args us vs Q E hr he hb hv hs => ?_⟩
  refine codeAny_mono (F.run A outer s H args us vs Q _ hr he hb hv hs) fun r s' h => ?_
  cases r with
  | error e =>
    obtain ⟨_, _, _, _, _, _, _, _, _, _, _, _, z⟩ := h
    exact z.elim
  | ok fl => cases fl <;> exact h
theorem fun_same {K : PySem.W.Frag} {x x' qual qual' : Str} {params params' : Arguments} {body body' : List Stmt} {scope scope' : Scope} {dvs dvs' : List V} {kws kws' : List (Str × V)} {f : Addr} {fd fd' : FuncData} (F : FunD K x qual params body scope dvs kws f fd) (F' : FunD K x' qual' params' body' scope' dvs' kws' f fd') : fd = fd' := by
  obtain ⟨oc, od, dV, kV, doc, pm, an, cdv, ct, osl, e1, l1, _⟩ := F.ex
  obtain ⟨oc', od', dV', kV', doc', pm', an', cdv', ct', osl', e2, l2, _⟩ := F'.ex
  rw [l1] at l2
  injection l2 with l2
  injection l2 with a b c d
  injection c
end Ws
set_option Elab.async false
set_option linter.all false
set_option maxRecDepth 100000
set_option maxHeartbeats 2000000
set_option autoImplicit false
namespace Ws
open PySem
mutual
def fit : Nat → D → Bool
  | _, .non => true
  | _, .bl _ => true
  | _, .int _ => true
  | _, .str x => PyData.canLay0 (.str x)
  | n + 1, .tup xs => fits n xs
  | n + 1, .lst xs => fits n xs
  | _, _ => false
def fits : Nat → List D → Bool
  | _, [] => true
  | n, d :: ds => fit n d && fits n ds
end
mutual
theorem fit_py : ∀ {n : Nat} {d : D}, fit n d = true → ∃ p, toPy d = some p ∧ p.canLay0 = true ∧ p.depth ≤ n
  | n, .non, h => ⟨.none, by unfold toPy; rfl, by unfold PyData.canLay0; rfl, by unfold PyData.depth; omega⟩
  | n, .bl b, h => ⟨.bool b, by unfold toPy; rfl, by unfold PyData.canLay0; rfl, by unfold PyData.depth; omega⟩
  | n, .int b, h => ⟨.int b, by unfold toPy; rfl, by unfold PyData.canLay0; rfl, by unfold PyData.depth; omega⟩
  | n, .str b, h => ⟨.str b, by unfold toPy; rfl, by unfold fit at h; exact h, by unfold PyData.depth; omega⟩
  | n + 1, .tup xs, h => by
    unfold fit at h
    obtain ⟨ps, e, a, b⟩ := fits_py h
    exact ⟨.tuple ps, by unfold toPy; rw [e]; rfl, by unfold PyData.canLay0; exact a, by unfold PyData.depth; omega⟩
  | n + 1, .lst xs, h => by
    unfold fit at h
    obtain ⟨ps, e, a, b⟩ := fits_py h
    exact ⟨.list ps, by unfold toPy; rw [e]; rfl, by unfold PyData.canLay0; exact a, by unfold PyData.depth; omega⟩
  | 0, .tup xs, h => by unfold fit at h; cases h
  | 0, .lst xs, h => by unfold fit at h; cases h
  | n, .ty _, h | n, .glo _, h | n, .dct _, h | n, .dcT _, h | n, .ins _ _, h | n, .set _, h | n, .scr _, h | n, .cell _, h | n, .exn _ _, h | n, .lam _, h | n, .seT _, h | n, .exv _ _ _, h => by unfold fit at h; cases h
theorem fits_py : ∀ {n : Nat} {d : List D}, fits n d = true → ∃ p, toPys d = some p ∧ PyData.canLayAll0 p = true ∧ PyData.depthAll p ≤ n
  | n, [], h => ⟨[], by unfold toPys; rfl, by unfold PyData.canLayAll0; rfl, by unfold PyData.depthAll; omega⟩
  | n, d :: ds, h => by
    unfold fits at h
    obtain ⟨h1, h2⟩ := Bool.and_eq_true_iff.mp h
    obtain ⟨p, e1, a1, b1⟩ := fit_py h1
    obtain ⟨ps, e2, a2, b2⟩ := fits_py h2
    exact ⟨p :: ps, by unfold toPys; rw [e1, e2], by unfold PyData.canLayAll0; rw [a1, a2]; rfl, by unfold PyData.depthAll; omega⟩
end
def eqB (x y : D) : Bool := match toPy x, toPy y with
  | some p, some q => PyData.eqv p q
  | _, _ => false
theorem gEq_of {x y : D} {h : AH} (hx : fit 64 (seen x h) = true) (hy : fit 64 (seen y h) = true) : gEqD x y h = .ok (.bl (eqB (seen x h) (seen y h))) h := by
  obtain ⟨p, e1, a1, b1⟩ := fit_py hx
  obtain ⟨q, e2, a2, b2⟩ := fit_py hy
  unfold gEqD eqB
  rw [e1, e2]
  have s1 : SeqAt.shaped p = true := by unfold SeqAt.shaped; rw [a1, decide_eq_true b1]; rfl
  have s2 : SeqAt.shaped q = true := by unfold SeqAt.shaped; rw [a2, decide_eq_true b2]; rfl
  simp only [s1, s2, Bool.and_self, if_true]
theorem eqB_self {n : Nat} {x : D} (hx : fit n x = true) : eqB x x = true := by
  obtain ⟨p, e1, a1, b1⟩ := fit_py hx
  unfold eqB
  rw [e1]
  first | exact PySem.eqv_refl p a1 | exact PySem.PyData.eqv_refl p a1 | exact PySem.SeqAt.eqv_refl p a1
theorem gEq_self {x y : D} {h : AH} (e : seen x h = seen y h) (hx : fit 64 (seen x h) = true) : gEqD x y h = .ok (.bl true) h := by
  rw [gEq_of hx (by rw [← e]; exact hx), ← e, eqB_self hx]
@[simp] theorem gEq_int (i j : Int) (h : AH) : gEqD (.int i) (.int j) h = .ok (.bl (decide (i = j))) h := by
  rw [gEq_of (by rfl) (by rfl)]
  simp [eqB, seen, toPy, PyData.eqv]
  by_cases e : i = j <;> simp [e]
theorem eqB_nil {n : Nat} {xs : List D} (hx : fits n xs = true) : eqB (.lst xs) (.lst []) = xs.isEmpty := by
  obtain ⟨ps, e, a, b⟩ := fits_py hx
  unfold eqB toPy
  rw [e]
  cases xs with
  | nil => unfold toPys at e; cases e; simp [toPys, PyData.eqv, PyData.eqvAll]
  | cons d ds =>
    unfold toPys at e
    split at e
    · cases e; simp [toPys, PyData.eqv, PyData.eqvAll]
    · cases e
theorem fits_all : ∀ {n : Nat} {xs : List D}, (∀ d ∈ xs, fit n d = true) → fits n xs = true
  | n, [], _ => by unfold fits; rfl
  | n, d :: ds, h => by
    unfold fits
    rw [h d (List.mem_cons_self ..), fits_all fun x hx => h x (List.mem_cons_of_mem _ hx)]; rfl
/-- each turn leaves all as it stood, but the slots js -/
theorem forGo_trim {t : Tg} {m : SM} {L : Nat} {js : List Nat} {σ : Sl} {h : AH} : ∀ {ds : List D}, (∀ d ∈ ds, ∃ σ1 h1 σ2 h2, t d σ h = .ok σ1 h1 ∧ m σ1 h1 = .nx σ2 h2 ∧ trim L js σ2 h2 = .ok σ h) → forGo (trim L js) t m ds σ h = .nx σ h
  | [], _ => rfl
  | d :: ds, st => by
    obtain ⟨σ1, h1, σ2, h2, e1, e2, e3⟩ := st d (List.mem_cons_self ..)
    unfold forGo
    rw [e1]
    dsimp only
    rw [e2]
    dsimp only
    rw [e3]
    exact forGo_trim fun x hx => st x (List.mem_cons_of_mem _ hx)
section
variable {a b k : SM} {σ σ' : Sl} {h h' : AH} {m : M D} {c : M Bool} {d : D} {i : Nat}
theorem seq_nx (e : a σ h = .nx σ' h') : seqS a b σ h = b σ' h' := by unfold seqS; rw [e]
theorem seq_asg (e : m σ h = .ok d h') : seqS (asg m (tgN i)) b σ h = b (σ.set i (some d)) h' := by unfold seqS asg; rw [e]; rfl
theorem bin_ok {g : D → D → AH → Out D} {x y : M D} {u v : D} {h1 h2 : AH} (e1 : x σ h = .ok u h1) (e2 : y σ h1 = .ok v h2) : Ws.bin g x y σ h = g u v h2 := by unfold Ws.bin; rw [e1]; simp only [Out.bind_ok]; rw [e2]; rfl
theorem fn_rt {n : Nat} {m : SM} {ds : List D} (e : m (startD n ds) h = .rt d h') (p : pureD h.length d = true) (q : pureH h.length (h'.take h.length) = true) : fn n m ds h = .ok d (h'.take h.length) := by
  unfold fn
  rw [e]
  show (if pureD h.length d = true ∧ pureH h.length (h'.take h.length) = true then Out.ok d (h'.take h.length) else .bad) = _
  rw [if_pos ⟨p, q⟩]
theorem fn_rt0 {n : Nat} {m : SM} {ds : List D} (e : m (startD n ds) [] = .rt d h') (p : pureD 0 d = true) : fn n m ds [] = .ok d [] := fn_rt (h := []) e p rfl
/-- at a call without cells -/
theorem cal_pure {n : Nat} {g : List D → AH → Out D} {ds : List D} {h0 : AH} (l : ds.length = n) (p : pureDs 0 ds = true) (e : g ds [] = .ok d h0) (q : pureD 0 d = true) : cal n [] g ds h = .ok d h := by
  unfold cal callN call
  rw [List.append_nil, if_pos l, if_pos p, e]
  show (if pureD 0 d = true then Out.ok d h else .bad) = _
  rw [if_pos q]
theorem for_at {mi : M (List D)} {t : Tg} {m : SM} {o : SOut} {ds : List D} (e : mi σ h = .ok ds h') (g : forGo keepAll t m ds σ h' = o) : forS mi t m σ h = o := by
  unfold forS
  rw [e]
  exact g
end
end Ws
set_option Elab.async false
set_option linter.all false
set_option maxRecDepth 100000
set_option maxHeartbeats 2000000
set_option autoImplicit false
namespace Ws
open PySem PySem.Spec L2
/-- what is gone through: a text, a list, a tuple -/
inductive Sq where
  | txt (x : Str) (t : Tok) | lst (a : Addr) | tup (a : Addr)
def Sq.v : Sq → Value
  | .txt x t => .str x t
  | .lst a => .ref a
  | .tup a => .ref a
def Sq.at (H : Hp) : Sq → List V → Prop
  | .txt x _, xs => xs = x.cps.toList.map fun c => V.str ⟨#[c]⟩
  | .lst a, xs => H a = some (.lst xs)
  | .tup a, xs => TupP H a xs
def Sq.st (it : Addr) (i : Nat) (h : Heap) : Sq → Prop
  | .txt x t => h.IsStrIter it (strIterType x) x t i
  | .lst a => h.IsListIter it a i
  | .tup a => h.IsTupleIter it a i
theorem Sq.there {q : Sq} {it : Addr} {i : Nat} {h : Heap} (st : q.st it i h) : ∃ o, h.get? it = some o ∧ ∀ v, o.data ≠ .cell v := by
  cases q with
  | txt x t => obtain ⟨o, ho, _, hd⟩ := st; exact ⟨o, ho, fun v z => by rw [hd] at z; cases z⟩
  | lst a => obtain ⟨o, ho, _, hd⟩ := st; exact ⟨o, ho, fun v z => by rw [hd] at z; cases z⟩
  | tup a => obtain ⟨o, ho, _, hd⟩ := st; exact ⟨o, ho, fun v z => by rw [hd] at z; cases z⟩
theorem Sq.inj {H : Hp} {q : Sq} {xs ys : List V} (h1 : q.at H xs) (h2 : q.at H ys) : xs = ys := by
  cases q with
  | txt x t => exact h1.trans h2.symm
  | lst a =>
    have e : some (HO.lst xs) = some (HO.lst ys) := h1.symm.trans h2
    injection e with e; injection e
  | tup a =>
    obtain ⟨o, e1, _⟩ := (show TupP H a xs from h1)
    obtain ⟨o', e2, _⟩ := (show TupP H a ys from h2)
    rw [e1] at e2
    injection e2 with e; injection e with _ e; injection e
/-- a value that can be gone through -/
def SqV (H : Hp) (v : V) (xs : List V) : Prop := (∃ x : Str, v = .str x ∧ xs = x.cps.toList.map fun c => V.str ⟨#[c]⟩) ∨ ∃ a : Addr, v = .ref a ∧ (H a = some (.lst xs) ∨ TupP H a xs)
def SqIs (H : Hp) (v : V) : Sq → Prop
  | .txt x _ => v = .str x
  | .lst a => v = .ref a ∧ ∃ xs, H a = some (.lst xs)
  | .tup a => v = .ref a ∧ ∃ xs, TupP H a xs
theorem SqV.sq {H : Hp} {v : V} {xs : List V} {u : Value} (h : SqV H v xs) (r : RelV v u) : ∃ q : Sq, q.v = u ∧ q.at H xs ∧ SqIs H v q := by
  rcases h with ⟨x, rfl, rfl⟩ | ⟨a, rfl, h | h⟩
  · obtain ⟨t, rfl⟩ := r
    exact ⟨.txt x t, rfl, rfl, rfl⟩
  · obtain rfl : u = Value.ref a := r
    exact ⟨.lst a, rfl, h, rfl, _, h⟩
  · obtain rfl : u = Value.ref a := r
    exact ⟨.tup a, rfl, h, rfl, _, h⟩
end Ws
set_option Elab.async false
set_option linter.all false
set_option maxRecDepth 100000
set_option maxHeartbeats 2000000
set_option autoImplicit false
namespace Ws
open PySem PySem.Spec L2
def leS (x y : Str) : Bool := !ltS y x
theorem leS_iff {x y : Str} : leS x y = true ↔ x.cps.toList ≤ y.cps.toList := by
  unfold leS ltS
  simp only [Bool.not_eq_true', decide_eq_false_iff_not]
  exact List.not_lt
theorem leS_trans (a b c : Str) (h1 : leS a b = true) (h2 : leS b c = true) : leS a c = true := leS_iff.mpr (List.le_trans (leS_iff.mp h1) (leS_iff.mp h2))
theorem leS_total (a b : Str) : (leS a b || leS b a) = true := by
  rcases List.le_total a.cps.toList b.cps.toList with h | h
  · rw [leS_iff.mpr h]; rfl
  · rw [leS_iff.mpr h, Bool.or_true]
end Ws
set_option Elab.async false
set_option linter.all false
set_option maxRecDepth 100000
set_option maxHeartbeats 2000000
set_option autoImplicit false
namespace Ws
open PySem PySem.Spec L2
end Ws
set_option Elab.async false
set_option linter.all false
set_option maxRecDepth 100000
set_option maxHeartbeats 2000000
set_option autoImplicit false
namespace Ws
open PySem PySem.Spec L2
theorem wipe_idem : ∀ (l : List Nat) (τ : L2.St), wipe (wipe τ l) l = wipe τ l := by
  intro l
  induction l with
  | nil => intro τ; rfl
  | cons a r ih =>
    intro τ
    show ((wipe ((wipe τ r).set a none) r).set a none) = (wipe τ r).set a none
    by_cases ha : a ∈ r
    · rw [wipe_set ha, ih]
    · have out : ∀ (vs : List Nat) (σ : L2.St), a ∉ vs → wipe (σ.set a none) vs = (wipe σ vs).set a none := by
        intro vs
        induction vs with
        | nil => intro σ _; rfl
        | cons b r ih =>
          intro σ hn
          simp only [List.mem_cons, not_or] at hn
          unfold wipe
          rw [ih σ hn.2, List.set_comm _ _ (Ne.symm hn.1)]
      rw [out r _ ha, ih, List.set_set]
section
variable {α : Type}
abbrev Em (α : Type) := Sl → α → AH → Out α
def emE (e : M D) (step : D → α → Option α) : Em α := fun σ a h => match e σ h with
  | .ok y h1 => (match step y a with
    | some a' => .ok a' h1
    | none => .bad)
  | _ => .bad
def turnC (t : Tg) (c : M Bool) (em : Em α) (σ : Sl) (d : D) (a : α) (h : AH) : Out α := match t d σ h with
  | .ok σ1 h1 => (match c σ1 h1 with
    | .ok true h2 => em σ1 a h2
    | .ok false h2 => .ok a h2
    | _ => .bad)
  | _ => .bad
def ccGo (f : D → α → AH → Out α) : List D → α → AH → Out α
  | [], a, h => .ok a h
  | d :: ds, a, h => match f d a h with
    | .ok a' h' => ccGo f ds a' h'
    | _ => .bad
def cc (vs : List Nat) (mi : M (List D)) (t : Tg) (c : M Bool) (em : Em α) (a0 : α) (fin : α → D) : M D := fun σ h => (mi σ h).bind fun ds h1 => match ccGo (turnC t c em (wipeD σ vs)) ds a0 h1 with
  | .ok a h2 => .ok (fin a) h2
  | _ => .bad
/-- what stands at p while it is being filled; it does not look at other cells -/
abbrev Acc (α : Type) := Sx → Addr → α → HO → Prop
def EmS (C : Cf) (ε : Ep) (A : Acc α) (vs : List Nat) (tm : TM) (em : Em α) : Prop := ∀ (s0 s : Sx) (σ : L2.St) (dσ : Sl) (p : Addr) (a : α) (o : HO) (N : Hp → Prop), s.ρ.x = ε → Fwd s0 s → s0.H p = none → Good C s → RS C s σ dσ → Fill s p o → A s p a o →
  (match em dσ a s.ah with
    | .ok a' h' => ∀ s' o', s'.ah = h' → Mon s s' → Fwd s0 s' → Good C s' → Fill s' p o' → A s' p a' o' → N s'.H
    | _ => False) → tm p σ s.H N
variable {C : Cf} {ε : Ep} {W : WX} {A : Acc α} {g : TG} {t : Tg} {c : M Bool} {em : Em α} {tm : TM}
/-- one turn -/
theorem turnC_core {vs : List Nat} {σ : L2.St} {dσ : Sl} {s0 s : Sx} {d : D} {x : V} {p : Addr} {a : α} {o : HO} {N : Hp → Prop} (tw : TgW C ε vs g t) (ht : EmS C ε A vs tm em) (mA : ∀ s s' p a o, Mon s s' → A s p a o → A s' p a o) (ex : s.ρ.x = ε) (f0 : Fwd s0 s) (hp : s0.H p = none) (gd : Good C s)
    (rs : RS C s (wipe σ vs) (wipeD dσ vs)) (r : R C s.F s.ρ d x) (fi : Fill s p o) (ha : A s p a o)
    (h : match turnC t c em (wipeD dσ vs) d a s.ah with
      | .ok a' h' => ∀ s' o', s'.ah = h' → Mon s s' → Fwd s0 s' → Good C s' → Fill s' p o' → A s' p a' o' → N s'.H
      | _ => False) :
    g x (wipe σ vs) s.H fun σ2 H2 => wipe σ2 vs = wipe σ vs ∧ tG C ε WF rB c σ2 H2 fun b H3 => if b = true then tm p σ2 H3 N else N H3 := by
  refine tw s _ _ d x _ ex gd rs r ?_
  unfold turnC at h
  cases q : t d (wipeD dσ vs) s.ah with
  | ok σ1 h1 =>
    rw [q] at h
    dsimp only at h
    intro σ' e1 e2 rs'
    subst e1
    refine ⟨e2.trans (wipe_idem vs σ), ⟨s, σ1, rfl, ex, gd, rs', ?_⟩⟩
    cases qc : c σ1 s.ah with
    | ok b h2 =>
      rw [qc] at h
      cases b with
      | true =>
        dsimp only at h
        intro s' b' e3 f3 g3 rb
        subst rb e3
        rw [if_pos rfl]
        refine ht s0 s' σ' σ1 p a o N (f3.rho.x.trans ex) (f0.trans f3) hp g3 (rs'.fwd f3) (fi.fwd f3) (mA _ _ _ _ _ f3.mon ha) ?_
        cases qe : em σ1 a s'.ah with
        | ok y h3 =>
          rw [qe] at h
          exact fun s4 o4 e4 m4 f4 g4 i4 a4 => h s4 o4 e4 (f3.mon.trans m4) f4 g4 i4 a4
        | exc => rw [qe] at h; exact h.elim
        | bad => rw [qe] at h; exact h.elim
      | false =>
        dsimp only at h
        intro s' b' e3 f3 g3 rb
        subst rb
        rw [if_neg Bool.false_ne_true]
        exact h s' o e3 f3.mon (f0.trans f3) g3 (fi.fwd f3) (mA _ _ _ _ _ f3.mon ha)
    | exc => rw [qc] at h; exact h.elim
    | bad => rw [qc] at h; exact h.elim
  | exc => rw [q] at h; exact h.elim
  | bad => rw [q] at h; exact h.elim
/-- the loop of a clause -/
theorem ccGo_core {vs : List Nat} {σ : L2.St} {dσ : Sl} {s0 s1 : Sx} {ds : List D} {J : It} {p : Addr} {a : α} {o : HO} {N : Hp → Prop} (tw : TgW C ε vs g t) (ht : EmS C ε A vs tm em) (mA : ∀ s s' p a o, Mon s s' → A s p a o → A s' p a o) (ex : s1.ρ.x = ε) (it : Iter C s1 ds J)
    (rs : RS C s1 σ dσ) (s2 : Sx) (m2 : Mon s1 s2) (f2 : Fwd s0 s2) (hp : s0.H p = none) (g2 : Good C s2) (fi : Fill s2 p o) (ha : A s2 p a o)
    (h : match ccGo (turnC t c em (wipeD dσ vs)) ds a s2.ah with
      | .ok a' h' => ∀ s' o', s'.ah = h' → Mon s1 s' → Fwd s0 s' → Good C s' → Fill s' p o' → A s' p a' o' → N s'.H
      | _ => False) :
    ∃ W1 : Nat → Nat → Hp → Prop, (∃ m, W1 0 m s2.H) ∧ ∀ j k H, W1 j k H → (J.stop j H ∧ N H) ∨ (J.go j H ∧ ∃ Nx1 : Hp → Prop, (∀ H', Nx1 H' → ∃ k', k' < k ∧ W1 (j + 1) k' H') ∧
      ∀ x H', J.yld j H x H' → g x (wipe σ vs) H' fun σ3 H5 => wipe σ3 vs = wipe σ vs ∧ tG C ε WF rB c σ3 H5 fun b H6 => if b = true then tm p σ3 H6 Nx1 else Nx1 H6) := by
  refine ⟨fun i k H => k = ds.length - i ∧ i ≤ ds.length ∧ ∃ s o a, s.H = H ∧ Mon s1 s ∧ Fwd s0 s ∧ Good C s ∧ Fill s p o ∧ A s p a o ∧ (match ccGo (turnC t c em (wipeD dσ vs)) (ds.drop i) a s.ah with
      | .ok a' h' => ∀ s' o', s'.ah = h' → Mon s1 s' → Fwd s0 s' → Good C s' → Fill s' p o' → A s' p a' o' → N s'.H
      | _ => False), ⟨_, rfl, Nat.zero_le _, s2, o, a, rfl, m2, f2, g2, fi, ha, h⟩, ?_⟩
  rintro i k H ⟨rfl, hi, s, o, a, rfl, m1, f, g', fi, ha, h⟩
  by_cases hlt : i < ds.length
  · obtain ⟨go, yl⟩ := (it s i m1 g').1 hlt
    refine .inr ⟨go, fun H => ∃ s o a, s.H = H ∧ Mon s1 s ∧ Fwd s0 s ∧ Good C s ∧ Fill s p o ∧ A s p a o ∧ (match ccGo (turnC t c em (wipeD dσ vs)) (ds.drop (i + 1)) a s.ah with
      | .ok a' h' => ∀ s' o', s'.ah = h' → Mon s1 s' → Fwd s0 s' → Good C s' → Fill s' p o' → A s' p a' o' → N s'.H
      | _ => False), fun H' z => ⟨_, by omega, rfl, hlt, z⟩, fun x H' y => ?_⟩
    obtain ⟨t', d, rfl, f', gt', eh, ed, r⟩ := yl x H' y
    have hd : ds.drop i = d :: ds.drop (i + 1) := by
      rw [List.drop_eq_getElem_cons hlt]
      rw [List.getElem?_eq_getElem hlt] at ed
      cases ed; rfl
    rw [hd] at h
    unfold ccGo at h
    rw [← eh] at h
    have mx := m1.trans f'.mon
    refine turnC_core tw ht mA (mx.rho.x.trans ex) (f.trans f') hp gt' ((rs.mon mx).wipe vs) r (fi.fwd f') (mA _ _ _ _ _ f'.mon ha) ?_
    cases q : turnC t c em (wipeD dσ vs) d a t'.ah with
    | ok a2 h2 =>
      rw [q] at h
      exact fun s' o' e2 m2 f2 g2 i2 a2' => ⟨s', o', a2, rfl, mx.trans m2, f2, g2, i2, a2', by rw [e2]; exact h⟩
    | exc => rw [q] at h; exact h.elim
    | bad => rw [q] at h; exact h.elim
  · have e : i = ds.length := by omega
    subst e
    rw [List.drop_length] at h
    exact .inl ⟨(it s _ m1 g').2 (Nat.le_refl _), h s o rfl m1 f g' fi ha⟩
end
end Ws
set_option Elab.async false
set_option linter.all false
set_option maxRecDepth 100000
set_option maxHeartbeats 2000000
set_option autoImplicit false
namespace Ws
open PySem PySem.Spec PyProof.Rows L2
section
variable {α : Type} {C : Cf} {ε : Ep} {W : WX} {A : Acc α} {g : TG} {t : Tg} {c : M Bool} {em : Em α} {tm : TM}
/-- how the whole ends: Q' asked of the machine, Q of what is reckoned -/
def FinS (C : Cf) (W : WX) (σ : L2.St) (A : Acc α) (fin : α → AH → Out D) (Q Q' : VK) : Prop := ∀ (s1 s : Sx) (p : Addr) (a : α) (o : HO), s1.H p = none → Fwd s1 s → Good C s → Fill s p o → A s p a o → Post C W σ (rD C) s1 Q (fin a s.ah) → Q' (.ref p) s.H
def ccF (vs : List Nat) (mi : M (List D)) (t : Tg) (c : M Bool) (em : Em α) (a0 : α) (fin : α → AH → Out D) : M D := fun σ h => (mi σ h).bind fun ds h1 => match ccGo (turnC t c em (wipeD σ vs)) ds a0 h1 with
  | .ok a h2 => fin a h2
  | _ => .bad
theorem ccF_read {O0 : Addr → HO} {mi : M (List D)} {a0 : α} {fin : α → AH → Out D} {vs : List Nat} {σ : L2.St} {H : Hp} {Q Q' : VK} (tw : TgW C ε vs g t) (ht : EmS C ε A vs tm em) (mA : ∀ s s' p a o, Mon s s' → A s p a o → A s' p a o) (nt : ∀ p ys, O0 p ≠ .tup ys) (h0 : ∀ s p, A s p a0 (O0 p)) (hf : FinS C W σ A fin Q Q')
    (h : tG C ε W (rD C) (ccF vs mi t c em a0 fin) σ H Q) (nu : ∀ p, NT (O0 p) := by intro p; (intro ps z; first | exact nomatch z | exact nomatch (show HO.ext _ = HO.tbl ps from z))) : tCc O0 (tG C ε W (rIt C) mi) g (tG C ε WF rB c) tm vs σ H Q' := by
  obtain ⟨s, dσ, rfl, ex, gd, rs, h⟩ := h
  refine Post.bind ex gd rs h fun s1 ds J e1 f1 g1 rs1 it h1 => ?_
  intro p hp
  refine ccGo_core (s2 := s1.setp p (O0 p)) (s0 := s1) tw ht mA e1 it rs1 ⟨.refl _, .refl _⟩ ((Fwd.refl s1).setp hp) hp (g1.fill hp (nt p)) (Fill.new g1 hp (nu p)) (h0 _ p) ?_
  cases q : ccGo (turnC t c em (wipeD dσ vs)) ds a0 (s1.setp p (O0 p)).ah with
  | ok a' h' =>
    have q' : ccGo (turnC t c em (wipeD dσ vs)) ds a0 s1.ah = .ok a' h' := q
    rw [q'] at h1
    intro s' o' e2 m2 f2 g2 i2 a2
    exact hf s1 s' p a' o' hp f2 g2 i2 a2 (by rw [e2]; exact h1)
  | exc => have q' : ccGo (turnC t c em (wipeD dσ vs)) ds a0 s1.ah = _ := q; rw [q'] at h1; exact h1.elim
  | bad => have q' : ccGo (turnC t c em (wipeD dσ vs)) ds a0 s1.ah = _ := q; rw [q'] at h1; exact h1.elim
theorem fin_stay {fin : α → D} {σ : L2.St} {Q : VK} (hf : ∀ s s' p a o, A s p a o → Mon s s' → s'.F p = some o → R C s'.F s'.ρ (fin a) (.ref p)) : FinS C W σ A (fun a h => .ok (fin a) h) Q Q := fun s1 s p a o hp f g fi ha h => by
  obtain ⟨g3, sb⟩ := g.done fi
  exact h (s.done p o) (.ref p) rfl (f.done hp fi) g3 (hf s _ p a o ha ⟨sb, .refl _⟩ upd_same)
end
section
variable {C : Cf} {ε : Ep} {W : WX}
def accL (C : Cf) : Acc (List D) := fun s _ acc o => ∃ accV, o = .lst accV ∧ Rs C s.F s.ρ acc accV
def stepL (y : D) (acc : List D) : Option (List D) := if acc.length < 1000000 then some (acc ++ [y]) else none
def tApp (te : TE) : TM := fun D σ H N => te σ H fun y H7 => ∃ acc, H7 D = some (.lst acc) ∧ acc.length < sizeLine ∧ N (upd H7 D (.lst (acc ++ [y])))
theorem accL_mon : ∀ s s' p a o, Mon s s' → accL C s p a o → accL C s' p a o := fun _ _ _ _ _ m ⟨v, e, r⟩ => ⟨v, e, r.mon m⟩
theorem ems_list {e : M D} {vs : List Nat} : EmS C ε (accL C) vs (tApp (tG C ε WF (rD C) e)) (emE e stepL) := by
  intro s0 s σ dσ p a o N ex f0 hp gd rs fi ha h
  unfold emE at h
  refine ⟨s, dσ, rfl, ex, gd, rs, ?_⟩
  cases q : e dσ s.ah with
  | ok y h1 =>
    rw [q] at h
    dsimp only at h
    intro s' v e1 f1 g1 r1
    obtain ⟨accV, rfl, ra⟩ := ha
    have fi1 := fi.fwd f1
    unfold stepL at h
    by_cases hl : a.length < 1000000
    · rw [if_pos hl] at h
      have f2 := (f0.trans f1).setp (o := .lst (accV ++ [v])) hp
      exact ⟨accV, fi1.at_, lim_lt (by rw [← ra.length]; exact hl), h (s'.setp p (.lst (accV ++ [v]))) _ e1 ⟨f1.sub, f1.rho⟩ f2 (g1.setp fi1 (fun _ z => nomatch z)) fi1.setp ⟨_, rfl, (show Rs C s'.F s'.ρ _ _ from Rs.snoc (ra.fwd f1) r1)⟩⟩
    · rw [if_neg hl] at h; exact h.elim
  | exc => rw [q] at h; exact h.elim
  | bad => rw [q] at h; exact h.elim
end
def keyOfD : D → Option Key
  | .int i => some (.inl i)
  | .str x => some (.inr x)
  | _ => none
theorem keyOfD_rel {C : Cf} {F : Hp} {ρ : Rho} {d : D} {v : V} {k : Key} (r : R C F ρ d v) (e : keyOfD d = some k) : v = kV k ∧ d = keyD k := by
  cases d with
  | int i => cases e; exact ⟨r.int_eq, rfl⟩
  | str x => cases e; exact ⟨r.str_eq, rfl⟩
  | _ => cases e
def putKD (kvs : List (Key × D)) (k : Key) (d : D) : List (Key × D) := if (kvs.any fun kv => decide (kv.1 = k)) = true then kvs.map (fun kv => if kv.1 = k then (kv.1, d) else kv) else kvs ++ [(k, d)]
/-- a dict's pairs -/
def Rq (C : Cf) (F : Hp) (ρ : Rho) : List (Key × D) → List (Key × V) → Prop
  | [], vs => vs = []
  | (k, d) :: ds, vs => ∃ v r, vs = (k, v) :: r ∧ R C F ρ d v ∧ Rq C F ρ ds r
section
variable {C : Cf} {F F' : Hp} {ρ ρ' : Rho}
theorem Rq.mono (s : Sub F F') (r : RSub ρ ρ') : ∀ {a : List (Key × D)} {b : List (Key × V)}, Rq C F ρ a b → Rq C F' ρ' a b
  | [], _, h => h
  | (_, _) :: _, _, h => by obtain ⟨v, t, e, a, b⟩ := h; exact ⟨v, t, e, R.mono s r a, Rq.mono s r b⟩
theorem Rq.length : ∀ {a : List (Key × D)} {b : List (Key × V)}, Rq C F ρ a b → a.length = b.length
  | [], _, h => by cases h; rfl
  | (_, _) :: _, _, h => by obtain ⟨v, t, rfl, a, b⟩ := h; simp [Rq.length b]
theorem Rq.keys : ∀ {a : List (Key × D)} {b : List (Key × V)}, Rq C F ρ a b → a.map (·.1) = b.map (·.1)
  | [], _, h => by cases h; rfl
  | (_, _) :: _, _, h => by obtain ⟨v, t, rfl, a, b⟩ := h; simp [Rq.keys b]
theorem Rq.any {a : List (Key × D)} {b : List (Key × V)} (h : Rq C F ρ a b) (k : Key) : (a.any fun kv => decide (kv.1 = k)) = b.any fun kv => decide (kv.1 = k) := by
  have := congrArg (fun l => l.any fun x => decide (x = k)) h.keys
  rw [List.any_map, List.any_map] at this
  exact this
theorem Rq.set (k : Key) {d : D} {v : V} (r : R C F ρ d v) : ∀ {a : List (Key × D)} {b : List (Key × V)}, Rq C F ρ a b → Rq C F ρ (a.map fun kv => if kv.1 = k then (kv.1, d) else kv) (b.map fun kv => if kv.1 = k then (kv.1, v) else kv)
  | [], _, h => by cases h; rfl
  | (x, y) :: l, _, h => by
    obtain ⟨u, t, rfl, a, b⟩ := h
    simp only [List.map_cons]
    by_cases e : x = k
    · rw [if_pos e, if_pos e]; exact ⟨v, _, rfl, r, Rq.set k r b⟩
    · rw [if_neg e, if_neg e]; exact ⟨u, _, rfl, a, Rq.set k r b⟩
theorem Rq.snoc {k : Key} {d : D} {v : V} (r : R C F ρ d v) : ∀ {a : List (Key × D)} {b : List (Key × V)}, Rq C F ρ a b → Rq C F ρ (a ++ [(k, d)]) (b ++ [(k, v)])
  | [], _, h => by cases h; exact ⟨v, [], rfl, r, rfl⟩
  | (x, y) :: l, _, h => by obtain ⟨u, t, rfl, a, b⟩ := h; exact ⟨u, _, rfl, a, Rq.snoc r b⟩
theorem Rq.put {a : List (Key × D)} {b : List (Key × V)} (h : Rq C F ρ a b) (k : Key) {d : D} {v : V} (r : R C F ρ d v) : Rq C F ρ (putKD a k d) (putK b k v) := by
  unfold putKD putK
  rw [h.any k]
  by_cases e : (b.any fun kv => decide (kv.1 = k)) = true
  · rw [if_pos e, if_pos e]; exact h.set k r
  · rw [if_neg e, if_neg e]; exact h.snoc r
end
end Ws
set_option Elab.async false
set_option linter.all false
set_option maxRecDepth 100000
set_option maxHeartbeats 2000000
set_option autoImplicit false
namespace Ws
open PySem PySem.Spec PyProof.Rows L2
section
variable {X : Cx} {C : Cf} {ε : Ep} {W : WX} {elt tg iter tg1 iter1 kx vx : Expr} {ifs ifs1 : List Expr} {scope : Scope} {own : List (Str × Nat)} {pos spos : Pos} {mi mi1 : M (List D)} {g g1 : TG} {t t1 : Tg} {c c1 : M Bool} {e k : M D} {vs1 : List Nat}
def sc (vs : List Nat) (mi : M (List D)) (t : Tg) (c : M Bool) (em : Em (List Key)) : M D := ccF vs mi t c em [] fun ks h => .ok (.set (ks.map keyD)) h
def finL (xs : List D) (h : AH) : Out D := .ok (.lst xs) h
theorem fin_lst {σ : L2.St} {Q : VK} : FinS C W σ (accL C) finL Q Q := fin_stay fun s s' p a o ha m hp => by
  obtain ⟨v, rfl, r⟩ := ha
  unfold R
  exact ⟨p, v, rfl, hp, r.mon m⟩
theorem me_lcF {fin : List D → AH → Out D} (hf : ∀ (W : WX) (σ : L2.St) (Q : VK), FinS C W σ (accL C) fin Q Q) (hc : X.calm = true) (hN : X.N.Nodup) (hi : MI X C ε W tg iter mi) (ok : BlkOk X.N X.env.scope scope own) (hg : InBlk X scope fun Y => PG Y tg g) (tw : TgW C ε (own.map (·.2)) g t)
    (ht : InBlk X scope fun Y => MTs Y C ε ifs c) (he : InBlk X scope fun Y => ME Y C ε WF elt e) (hs : ∀ x, foldedSetIterable iter X.env x = pure x := by intro _; rfl) :
    ME X C ε W (.ListComp elt [⟨tg, iter, ifs, 0⟩] scope pos) (ccF (own.map (·.2)) mi t c (emE e stepL) [] fin) := (pe_lc hc hN hi ok hg ht he hs).imp fun σ H Q h =>
  ccF_read (O0 := fun _ => .lst []) (tm := tApp (tG C ε WF (rD C) e)) tw ems_list accL_mon (fun _ _ z => nomatch z) (fun _ _ => ⟨[], rfl, by unfold Rs; rfl⟩) (hf W σ Q) h
end
end Ws
set_option Elab.async false
set_option linter.all false
set_option maxRecDepth 100000
set_option maxHeartbeats 2000000
set_option autoImplicit false
namespace Ws
open PySem PySem.Spec PyProof.Rows L2
section
variable {X : Cx} {C : Cf} {ε : Ep} {W : WX}
theorem me_as {e : Expr} {b : M D} (h : ∀ σ ah, b σ ah ≠ .bad → ∃ c : M D, c σ ah = b σ ah ∧ ME X C ε W e c) : ME X C ε W e b := ⟨fun pins s σ H Q I hh => by
  obtain ⟨sx, dσ, rfl, ex, gd, rs, hh⟩ := hh
  obtain ⟨c, ec, hc⟩ := h dσ sx.ah (fun z => by rw [z] at hh; exact hh)
  exact hc.run pins s σ _ Q I ⟨sx, dσ, rfl, ex, gd, rs, (by rw [ec]; exact hh)⟩⟩
end
def dK (d : D) (h : AH) : Option (List (D × D)) := match d with
  | .dct kvs => some kvs
  | .cell n => (match h.get n with
    | some (.dct kvs) => some kvs
    | _ => none)
  | _ => none
def dT (d : D) (h : AH) : Option (List (D × D)) := match d with
  | .dcT kvs => some kvs
  | .cell n => (match h.get n with
    | some (.dcT kvs) => some kvs
    | _ => none)
  | _ => none
/-- what may stand as a key in a dict by tuples -/
def tkOf (d : D) : Option NK := match nkOf d with
  | some (.tup ks) => if (NestedKey.tup ks).depth ≤ 8 then some (.tup ks) else none
  | _ => none
def getK (kvs : List (D × D)) (k : Key) : Option D := (kvs.find? fun p => decide (keyOfD p.1 = some k)).map (·.2)
def getT (kvs : List (D × D)) (k : NK) : Option D := (kvs.find? fun p => decide (nkOf p.1 = some k)).map (·.2)
theorem keyOfD_keyD (k : Key) : keyOfD (keyD k) = some k := by cases k <;> rfl
section
variable {C : Cf} {F : Hp} {ρ : Rho} {s : Sx}
theorem dK_ok {d : D} {v : V} {kvs : List (D × D)} (g : Good C s) (r : R C s.F s.ρ d v) (h : dK d s.ah = some kvs) : ∃ a ks, v = .ref a ∧ Rd s.H a (.dK ks) ∧ Rk C s.F s.ρ kvs ks := by
  unfold dK at h
  split at h
  · unfold R at r
    obtain ⟨a, o, ks, rfl, fa, rr⟩ := r
    cases h
    exact ⟨a, ks, rfl, .inr ⟨o, g.sub _ _ fa⟩, rr⟩
  · rename_i n
    split at h
    · rename_i kvs' e
      cases h
      unfold R at r
      obtain ⟨a, rfl, ea⟩ := r
      obtain ⟨a', q1, q2, ks, z1, z2⟩ := g.own n _ e
      rw [ea] at q1; cases q1
      exact ⟨a, ks, rfl, .inl z1, z2⟩
    · cases h
  · cases h
theorem dT_ok {d : D} {v : V} {kvs : List (D × D)} (g : Good C s) (r : R C s.F s.ρ d v) (h : dT d s.ah = some kvs) : ∃ a ks, v = .ref a ∧ Rd s.H a (dictN C.P C.w a ks) ∧ Rt C s.F s.ρ kvs ks := by
  unfold dT at h
  split at h
  · unfold R at r
    obtain ⟨a, o, ks, rfl, fa, rr⟩ := r
    cases h
    exact ⟨a, ks, rfl, .inr ⟨o, g.sub _ _ fa⟩, rr⟩
  · rename_i n
    split at h
    · rename_i kvs' e
      cases h
      unfold R at r
      obtain ⟨a, rfl, ea⟩ := r
      obtain ⟨a', q1, q2, ks, z1, z2⟩ := g.own n _ e
      rw [ea] at q1; cases q1
      exact ⟨a, ks, rfl, .inl z1, z2⟩
    · cases h
  · cases h
theorem Rk.look (k : Key) : ∀ {kvs : List (D × D)} {ks : List (Key × V)}, Rk C F ρ kvs ks → (∀ d, getK kvs k = some d → ∃ v, valV ks k = some v ∧ R C F ρ d v) ∧ (getK kvs k = none → valV ks k = none)
  | [], _, h => by unfold Rk at h; subst h; exact ⟨fun d e => (nomatch e), fun _ => rfl⟩
  | (x, d) :: r, _, h => by
    unfold Rk at h
    obtain ⟨key, v, t, rfl, rfl, rd, rr⟩ := h
    unfold getK valV
    rw [List.find?_cons, List.find?_cons]
    dsimp only
    rw [keyOfD_keyD]
    by_cases e : key = k
    · subst e
      simp only [decide_true]
      exact ⟨fun d' e' => by cases e'; exact ⟨v, rfl, rd⟩, fun e' => (nomatch e')⟩
    · rw [decide_eq_false (fun z => e (Option.some.inj z)), decide_eq_false e]
      exact Rk.look k rr
theorem Rt.look (k : NK) : ∀ {kvs : List (D × D)} {ks : NP}, Rt C F ρ kvs ks → (∀ d, getT kvs k = some d → ∃ v, valN ks k = some v ∧ R C F ρ d v) ∧ (getT kvs k = none → valN ks k = none)
  | [], _, h => by unfold Rt at h; subst h; exact ⟨fun d e => (nomatch e), fun _ => rfl⟩
  | (x, d) :: r, _, h => by
    unfold Rt at h
    obtain ⟨key, b, v, t, rfl, ek, _, _, rd, rr⟩ := h
    unfold getT valN
    rw [List.find?_cons, List.find?_cons]
    dsimp only
    rw [ek]
    by_cases e : key = k
    · subst e
      simp only [decide_true]
      exact ⟨fun d' e' => by cases e'; exact ⟨v, rfl, rd⟩, fun e' => (nomatch e')⟩
    · rw [decide_eq_false (fun z => e (Option.some.inj z)), decide_eq_false e]
      exact Rt.look k rr
theorem tkOf_nk {d : D} {k : NK} (e : tkOf d = some k) : nkOf d = some k ∧ k.depth ≤ 8 ∧ ∃ ks, k = .tup ks := by
  unfold tkOf at e
  split at e
  · rename_i ks q
    split at e
    · rename_i hd
      cases e
      exact ⟨q, hd, _, rfl⟩
    · cases e
  · cases e
theorem tkOf_rel {d : D} {v : V} {k : NK} (g : Good C s) (r : R C s.F s.ρ d v) (e : tkOf d = some k) : ∃ b, v = .ref b ∧ KeyAt s.H k b := by
  obtain ⟨q, hd, ks, rfl⟩ := tkOf_nk e
  have z := nk_rel g.sub r q
  have z' := z
  unfold nkV at z'
  obtain ⟨a, ys, rfl, _⟩ := z'
  exact ⟨a, rfl, z, hd⟩
end
/-- what a dict holds by a key (none: no dict, or no key) -/
def look (x y : D) (h : AH) : Option (Option D) := match dK x h with
  | some kvs => (keyOfD y).map fun k => getK kvs k
  | none => (match dT x h with
    | some kvs => (tkOf y).map fun k => getT kvs k
    | none => none)
theorem look_ok {C : Cf} {s : Sx} {x y : D} {v u : V} {o : Option D} (g : Good C s) (rx : R C s.F s.ρ x v) (ry : R C s.F s.ρ y u) (h : look x y s.ah = some o) (hk : (dK x s.ah).isSome = true) : ∃ a o', v = .ref a ∧ DGet s.H a u o' ∧ (∀ d, o = some d → ∃ w, o' = some w ∧ R C s.F s.ρ d w) ∧ (o = none → o' = none) := by
  unfold look at h
  split at h
  · rename_i kvs e
    obtain ⟨a, ks, rfl, rd, rr⟩ := dK_ok g rx e
    cases ek : keyOfD y with
    | none => rw [ek] at h; cases h
    | some k =>
      rw [ek] at h; cases h
      obtain ⟨z1, z2⟩ := rr.look k
      exact ⟨a, valV ks k, rfl, .inl ⟨ks, k, rd, (keyOfD_rel ry ek).1, rfl⟩, z1, z2⟩
  · rename_i e
    rw [e] at hk; cases hk
theorem lookT_ok {X : Cx} {C : Cf} {s : Sx} {x y : D} {v u : V} {o : Option D} (hP : X.prog = C.P) (hw : X.w = C.w) (g : Good C s) (rx : R C s.F s.ρ x v) (ry : R C s.F s.ρ y u) (h : look x y s.ah = some o) (hk : (dK x s.ah).isSome = false) :
    ∃ a b ps k, v = .ref a ∧ u = .ref b ∧ HasN X s.H a ps ∧ KeyAt s.H k b ∧ (∀ d, o = some d → ∃ w, valN ps k = some w ∧ R C s.F s.ρ d w) ∧ (o = none → valN ps k = none) := by
  unfold look at h
  split at h
  · rename_i kvs e
    rw [e] at hk; cases hk
  · split at h
    · rename_i kvs e
      obtain ⟨a, ks, rfl, rd, rr⟩ := dT_ok g rx e
      cases ek : tkOf y with
      | none => rw [ek] at h; cases h
      | some k =>
        rw [ek] at h; cases h
        obtain ⟨z1, z2⟩ := rr.look k
        obtain ⟨b, rfl, hb⟩ := tkOf_rel g ry ek
        exact ⟨a, b, ks, k, rfl, rfl, ⟨by rw [hP, hw]; exact rd, rr.keysAt g.sub⟩, hb, z1, z2⟩
    · cases h
def gDg (x y : D) (h : AH) : Out D := match look x y h with
  | some (some d) => .ok d h
  | _ => .bad
def gDgK (x y : D) (h : AH) : Out D := if (dK x h).isSome = true then gDg x y h else .bad
def gDgT (x y : D) (h : AH) : Out D := if (dK x h).isSome = true then .bad else gDg x y h
/-- x[y], whatever x is -/
def gAt (x y : D) (h : AH) : Out D := if (look x y h).isSome = true then gDg x y h else gIx x y h
section
variable {X : Cx} {C : Cf} {ε : Ep} {W : WX} {a b : Expr} {ma mb : M D} {pos : Pos}
theorem me_dgK (hu : X.A.units + 1 < cLine) (ha : ME X C ε W a ma) (hb : ME X C ε W b mb) (hs : NoSl b := by intro _ _; rfl) : ME X C ε W (.Subscript a b pos) (bin gDgK ma mb) := (pe_dget hu ha hb hs).imp fun σ H Q h => by
  obtain ⟨s, dσ, rfl, ex, gd, rs, h⟩ := h
  refine Post.bind ex gd rs h fun s1 x v e1 f1 g1 rs1 r1 h1 => ?_
  refine Post.bind e1 g1 rs1 h1 fun s2 y u e2 f2 g2 rs2 r2 h2 => ?_
  unfold gDgK at h2
  split at h2
  · rename_i hk
    unfold gDg at h2
    split at h2
    · rename_i d e
      obtain ⟨a', o', rfl, dg, z1, _⟩ := look_ok g2 (r1.fwd f2) r2 e hk
      obtain ⟨w, rfl, rw'⟩ := z1 d rfl
      exact ⟨a', w, rfl, dg, Post.here g2 h2 rw'⟩
    · exact h2.elim
  · exact h2.elim
theorem me_dgT (hP : X.prog = C.P) (hw : X.w = C.w) (hu : X.A.units + 64 < cLine) (ha : ME X C ε W a ma) (hb : ME X C ε W b mb) (hs : NoSl b := by intro _ _; rfl) : ME X C ε W (.Subscript a b pos) (bin gDgT ma mb) := (pe_getN hu ha hb hs).imp fun σ H Q h => by
  obtain ⟨s, dσ, rfl, ex, gd, rs, h⟩ := h
  refine Post.bind ex gd rs h fun s1 x v e1 f1 g1 rs1 r1 h1 => ?_
  refine Post.bind e1 g1 rs1 h1 fun s2 y u e2 f2 g2 rs2 r2 h2 => ?_
  unfold gDgT at h2
  split at h2
  · exact h2.elim
  · rename_i hk
    unfold gDg at h2
    split at h2
    · rename_i d e
      obtain ⟨a', b', ps, k, rfl, rfl, hn, hb, z1, _⟩ := lookT_ok hP hw g2 (r1.fwd f2) r2 e (by simpa using hk)
      obtain ⟨w, ew, rw'⟩ := z1 d rfl
      exact ⟨a', b', ps, k, w, ⟨rfl, rfl⟩, hn, hb, ew, Post.here g2 h2 rw'⟩
    · exact h2.elim
theorem bin_if {p : D → D → AH → Bool} {g g1 g2 : D → D → AH → Out D} (hg : ∀ x y h, g x y h = if p x y h = true then g1 x y h else g2 x y h) (σ : Sl) (ah : AH) : bin g ma mb σ ah = bin g1 ma mb σ ah ∨ bin g ma mb σ ah = bin g2 ma mb σ ah := by
  unfold bin
  cases ma σ ah with
  | ok x h1 =>
    show ((mb σ h1).bind _) = ((mb σ h1).bind _) ∨ ((mb σ h1).bind _) = ((mb σ h1).bind _)
    cases mb σ h1 with
    | ok y h2 =>
      show g x y h2 = g1 x y h2 ∨ g x y h2 = g2 x y h2
      rw [hg]
      by_cases q : p x y h2 = true
      · rw [if_pos q]; exact .inl rfl
      · rw [if_neg q]; exact .inr rfl
    | exc => exact .inl rfl
    | bad => exact .inl rfl
  | exc => exact .inl rfl
  | bad => exact .inl rfl
theorem me_dg (hP : X.prog = C.P) (hw : X.w = C.w) (hu : X.A.units + 64 < cLine) (ha : ME X C ε W a ma) (hb : ME X C ε W b mb) (hs : NoSl b := by intro _ _; rfl) : ME X C ε W (.Subscript a b pos) (bin gDg ma mb) := me_as fun σ ah _ => by
  rcases bin_if (ma := ma) (mb := mb) (p := fun x y h => (dK x h).isSome) (g := gDg) (g1 := gDgK) (g2 := gDgT) (fun x y h => by
    unfold gDgK gDgT
    by_cases q : (dK x h).isSome = true
    · rw [if_pos q, if_pos q]
    · rw [if_neg q, if_neg q]) σ ah with e | e
  · exact ⟨_, e.symm, me_dgK (by omega) ha hb hs⟩
  · exact ⟨_, e.symm, me_dgT hP hw hu ha hb hs⟩
theorem me_at (hK : X.K = C.K) (hu : X.A.units + 64 < cLine) (ha : ME X C ε W a ma) (hb : ME X C ε W b mb) (hs : PlainIx b := by intro _ _; rfl) (hs2 : NoSl b := by intro _ _; rfl) (hP : X.prog = C.P := by rfl) (hw : X.w = C.w := by rfl) : ME X C ε W (.Subscript a b pos) (bin gAt ma mb) := me_as fun σ ah _ => by
  rcases bin_if (ma := ma) (mb := mb) (p := fun x y h => (look x y h).isSome) (g := gAt) (g1 := gDg) (g2 := gIx) (fun _ _ _ => rfl) σ ah with e | e
  · exact ⟨_, e.symm, me_dg hP hw hu ha hb hs2⟩
  · exact ⟨_, e.symm, me_ix hK ha hb hs⟩
end
end Ws
set_option Elab.async false
set_option linter.all false
set_option maxRecDepth 100000
set_option maxHeartbeats 2000000
set_option autoImplicit false
namespace Ws
open PySem PySem.Spec PyProof.Rows L2
def putDK (kvs : List (D × D)) (k : Key) (d : D) : List (D × D) := if (kvs.any fun p => decide (keyOfD p.1 = some k)) = true then kvs.map (fun p => if keyOfD p.1 = some k then (p.1, d) else p) else kvs ++ [(keyD k, d)]
def putDT (kvs : List (D × D)) (k : NK) (kd d : D) : List (D × D) := if (kvs.any fun p => decide (nkOf p.1 = some k)) = true then kvs.map (fun p => if nkOf p.1 = some k then (p.1, d) else p) else kvs ++ [(kd, d)]
section
variable {C : Cf} {F : Hp} {ρ : Rho} {s : Sx}
theorem Rk.length : ∀ {a : List (D × D)} {b : List (Key × V)}, Rk C F ρ a b → a.length = b.length
  | [], _, h => by unfold Rk at h; cases h; rfl
  | (_, _) :: _, _, h => by unfold Rk at h; obtain ⟨k, v, t, rfl, _, _, b⟩ := h; simp [Rk.length b]
theorem Rt.length : ∀ {a : List (D × D)} {b : NP}, Rt C F ρ a b → a.length = b.length
  | [], _, h => by unfold Rt at h; cases h; rfl
  | (_, _) :: _, _, h => by unfold Rt at h; obtain ⟨k, b0, v, t, rfl, _, _, _, _, b⟩ := h; simp [Rt.length b]
theorem Rk.any (k : Key) : ∀ {a : List (D × D)} {b : List (Key × V)}, Rk C F ρ a b → (a.any fun p => decide (keyOfD p.1 = some k)) = b.any fun kv => decide (kv.1 = k)
  | [], _, h => by unfold Rk at h; cases h; rfl
  | (_, _) :: _, _, h => by
    unfold Rk at h
    obtain ⟨x, v, t, rfl, rfl, _, b⟩ := h
    rw [List.any_cons, List.any_cons, Rk.any k b, keyOfD_keyD]
    congr 1
    simp
theorem Rt.any (k : NK) : ∀ {a : List (D × D)} {b : NP}, Rt C F ρ a b → (a.any fun p => decide (nkOf p.1 = some k)) = (b.find? fun p => decide (p.1 = k)).isSome
  | [], _, h => by unfold Rt at h; cases h; rfl
  | (_, _) :: _, _, h => by
    unfold Rt at h
    obtain ⟨x, b0, v, t, rfl, ek, _, _, _, b⟩ := h
    rw [List.any_cons, List.find?_cons, Rt.any k b]
    dsimp only
    rw [ek]
    by_cases e : x = k
    · simp [e]
    · rw [decide_eq_false (fun z => e (Option.some.inj z)), decide_eq_false e, Bool.false_or]
theorem Rk.upd (k : Key) {d : D} {v : V} (r : R C F ρ d v) : ∀ {a : List (D × D)} {b : List (Key × V)}, Rk C F ρ a b → Rk C F ρ (a.map fun p => if keyOfD p.1 = some k then (p.1, d) else p) (b.map fun kv => if kv.1 = k then (kv.1, v) else kv)
  | [], _, h => by unfold Rk at h; cases h; unfold Rk; rfl
  | (_, _) :: _, _, h => by
    unfold Rk at h
    obtain ⟨x, u, t, rfl, rfl, ru, b⟩ := h
    simp only [List.map_cons]
    rw [keyOfD_keyD]
    by_cases e : x = k
    · subst e
      rw [if_pos rfl, if_pos rfl]; unfold Rk; exact ⟨_, v, _, rfl, rfl, r, Rk.upd x r b⟩
    · rw [if_neg (fun z => e (Option.some.inj z)), if_neg e]; unfold Rk; exact ⟨x, u, _, rfl, rfl, ru, Rk.upd k r b⟩
theorem Rt.upd (k : NK) {d : D} {v : V} (r : R C F ρ d v) : ∀ {a : List (D × D)} {b : NP}, Rt C F ρ a b → Rt C F ρ (a.map fun p => if nkOf p.1 = some k then (p.1, d) else p) (b.map fun p => if p.1 = k then (p.1, p.2.1, v) else p)
  | [], _, h => by unfold Rt at h; cases h; unfold Rt; rfl
  | (_, _) :: _, _, h => by
    unfold Rt at h
    obtain ⟨x, b0, u, t, rfl, ek, ed, rk, ru, b⟩ := h
    simp only [List.map_cons]
    rw [ek]
    by_cases e : x = k
    · subst e
      rw [if_pos rfl, if_pos rfl]; unfold Rt; exact ⟨x, b0, v, _, rfl, ek, ed, rk, r, Rt.upd x r b⟩
    · rw [if_neg (fun z => e (Option.some.inj z)), if_neg e]; unfold Rt; exact ⟨x, b0, u, _, rfl, ek, ed, rk, ru, Rt.upd k r b⟩
theorem Rk.snoc (k : Key) {d : D} {v : V} (r : R C F ρ d v) : ∀ {a : List (D × D)} {b : List (Key × V)}, Rk C F ρ a b → Rk C F ρ (a ++ [(keyD k, d)]) (b ++ [(k, v)])
  | [], _, h => by unfold Rk at h; cases h; show Rk C F ρ [(keyD k, d)] [(k, v)]; unfold Rk; exact ⟨k, v, [], rfl, rfl, r, by unfold Rk; rfl⟩
  | (_, _) :: _, _, h => by
    unfold Rk at h
    obtain ⟨x, u, t, rfl, rfl, ru, b⟩ := h
    simp only [List.cons_append]
    unfold Rk
    exact ⟨x, u, _, rfl, rfl, ru, Rk.snoc k r b⟩
theorem Rt.snoc {k : NK} {kd : D} {b0 : Addr} (ek : nkOf kd = some k) (ed : k.depth ≤ 8) (rk : R C F ρ kd (.ref b0)) {d : D} {v : V} (r : R C F ρ d v) : ∀ {a : List (D × D)} {b : NP}, Rt C F ρ a b → Rt C F ρ (a ++ [(kd, d)]) (b ++ [(k, b0, v)])
  | [], _, h => by unfold Rt at h; cases h; show Rt C F ρ [(kd, d)] [(k, b0, v)]; unfold Rt; exact ⟨k, b0, v, [], rfl, ek, ed, rk, r, by unfold Rt; rfl⟩
  | (_, _) :: _, _, h => by
    unfold Rt at h
    obtain ⟨x, b1, u, t, rfl, ek1, ed1, rk1, ru, b⟩ := h
    simp only [List.cons_append]
    unfold Rt
    exact ⟨x, b1, u, _, rfl, ek1, ed1, rk1, ru, Rt.snoc ek ed rk r b⟩
theorem Rk.put {a : List (D × D)} {b : List (Key × V)} (h : Rk C F ρ a b) (k : Key) {d : D} {v : V} (r : R C F ρ d v) : Rk C F ρ (putDK a k d) (putK b k v) := by
  unfold putDK putK
  rw [h.any k]
  by_cases e : (b.any fun kv => decide (kv.1 = k)) = true
  · rw [if_pos e, if_pos e]; exact h.upd k r
  · rw [if_neg e, if_neg e]; exact h.snoc k r
theorem Rt.put {a : List (D × D)} {b : NP} (h : Rt C F ρ a b) {k : NK} {kd : D} {b0 : Addr} (ek : nkOf kd = some k) (ed : k.depth ≤ 8) (rk : R C F ρ kd (.ref b0)) {d : D} {v : V} (r : R C F ρ d v) : Rt C F ρ (putDT a k kd d) (putN b k b0 v) := by
  unfold putDT putN
  rw [h.any k]
  by_cases e : (b.find? fun p => decide (p.1 = k)).isSome = true
  · rw [if_pos e, if_pos e]; exact h.upd k r
  · rw [if_neg e, if_neg e]; exact Rt.snoc ek ed rk r h
end
end Ws
set_option Elab.async false
set_option linter.all false
set_option maxRecDepth 100000
set_option maxHeartbeats 2000000
set_option autoImplicit false
namespace Ws
open PySem PySem.Spec PyProof.Rows L2
mutual
def sbD (n : Nat) (d : D) : D → D
  | .tup xs => .tup (sbDs n d xs)
  | .rtp xs => .rtp (sbDs n d xs)
  | .lst xs => .lst (sbDs n d xs)
  | .dct kvs => .dct (sbK n d kvs)
  | .dcT kvs => .dcT (sbK n d kvs)
  | .ins c fs => .ins c (sbF n d fs)
  | .exn c fs => .exn c (sbF n d fs)
  | .cell m => if m = n then d else .cell m
  | x => x
def sbDs (n : Nat) (d : D) : List D → List D
  | [] => []
  | x :: xs => sbD n d x :: sbDs n d xs
def sbK (n : Nat) (d : D) : List (D × D) → List (D × D)
  | [] => []
  | (k, x) :: xs => (k, sbD n d x) :: sbK n d xs
def sbF (n : Nat) (d : D) : List (Str × D) → List (Str × D)
  | [] => []
  | (k, x) :: xs => (k, sbD n d x) :: sbF n d xs
end
section
variable {C : Cf} {F : Hp} {ρ : Rho} {n : Nat} {d : D} {a : Addr}
mutual
theorem R.sb (ea : ρ.c n = some a) (rd : R C F ρ d (.ref a)) : ∀ {x : D} {v : V}, R C F ρ x v → R C F ρ (sbD n d x) v
  | .tup xs, _, h => by unfold sbD; unfold R at h ⊢; obtain ⟨b, ys, e, f, q⟩ := h; exact ⟨b, ys, e, f, Rs.sb ea rd q⟩
  | .rtp xs, _, h => by unfold sbD; unfold R at h ⊢; obtain ⟨b, ys, e, f, q⟩ := h; exact ⟨b, ys, e, f, Rs.sb ea rd q⟩
  | .lst xs, _, h => by unfold sbD; unfold R at h ⊢; obtain ⟨b, ys, e, f, q⟩ := h; exact ⟨b, ys, e, f, Rs.sb ea rd q⟩
  | .dct kvs, _, h => by unfold sbD; unfold R at h ⊢; obtain ⟨b, o, ks, e, f, q⟩ := h; exact ⟨b, o, ks, e, f, Rk.sb ea rd q⟩
  | .dcT kvs, _, h => by unfold sbD; unfold R at h ⊢; obtain ⟨b, o, ks, e, f, q⟩ := h; exact ⟨b, o, ks, e, f, Rt.sb ea rd q⟩
  | .ins c fs, _, h => by unfold sbD; unfold R at h ⊢; obtain ⟨b, dx, gs, e, f, q⟩ := h; exact ⟨b, dx, gs, e, f, Rf.sb ea rd q⟩
  | .exn c fs, _, h => by
    unfold sbD; unfold R at h ⊢
    obtain ⟨b, od, e, f, z⟩ := h
    refine ⟨b, od, e, f, ?_⟩
    rcases z with ⟨z1, z2⟩ | ⟨d', gs, e1, e2, q⟩
    · subst z2; exact .inl ⟨z1, by unfold sbF; rfl⟩
    · exact .inr ⟨d', gs, e1, e2, Rf.sb ea rd q⟩
  | .cell m, _, h => by
    unfold sbD
    by_cases e : m = n
    · subst e
      rw [if_pos rfl]
      unfold R at h
      obtain ⟨b, rfl, eb⟩ := h
      rw [ea] at eb; cases eb
      exact rd
    · rw [if_neg e]; exact h
  | .non, _, h | .bl _, _, h | .int _, _, h | .str _, _, h | .ty _, _, h | .glo _, _, h | .set _, _, h | .scr _, _, h | .lam _, _, h | .seT _, _, h | .exv _ _ _, _, h => by unfold sbD; exact h
theorem Rs.sb (ea : ρ.c n = some a) (rd : R C F ρ d (.ref a)) : ∀ {x : List D} {v : List V}, Rs C F ρ x v → Rs C F ρ (sbDs n d x) v
  | [], _, h => by unfold sbDs; exact h
  | _ :: _, _, h => by unfold sbDs; unfold Rs at h ⊢; obtain ⟨v, t, e, p, q⟩ := h; exact ⟨v, t, e, R.sb ea rd p, Rs.sb ea rd q⟩
theorem Rf.sb (ea : ρ.c n = some a) (rd : R C F ρ d (.ref a)) : ∀ {x : List (Str × D)} {v : List (Str × V)}, Rf C F ρ x v → Rf C F ρ (sbF n d x) v
  | [], _, h => by unfold sbF; exact h
  | (_, _) :: _, _, h => by unfold sbF; unfold Rf at h ⊢; obtain ⟨v, t, e, p, q⟩ := h; exact ⟨v, t, e, R.sb ea rd p, Rf.sb ea rd q⟩
theorem Rk.sb (ea : ρ.c n = some a) (rd : R C F ρ d (.ref a)) : ∀ {x : List (D × D)} {v : List (Key × V)}, Rk C F ρ x v → Rk C F ρ (sbK n d x) v
  | [], _, h => by unfold sbK; exact h
  | (_, _) :: _, _, h => by unfold sbK; unfold Rk at h ⊢; obtain ⟨k, v, t, e, ek, p, q⟩ := h; exact ⟨k, v, t, e, ek, R.sb ea rd p, Rk.sb ea rd q⟩
theorem Rt.sb (ea : ρ.c n = some a) (rd : R C F ρ d (.ref a)) : ∀ {x : List (D × D)} {v : NP}, Rt C F ρ x v → Rt C F ρ (sbK n d x) v
  | [], _, h => by unfold sbK; exact h
  | (_, _) :: _, _, h => by unfold sbK; unfold Rt at h ⊢; obtain ⟨k, b0, v, t, e, ek, ed, rk, p, q⟩ := h; exact ⟨k, b0, v, t, e, ek, ed, rk, R.sb ea rd p, Rt.sb ea rd q⟩
end
end
end Ws
set_option Elab.async false
set_option linter.all false
set_option maxRecDepth 100000
set_option maxHeartbeats 2000000
set_option autoImplicit false
namespace Ws
open PySem PySem.Spec PyProof.Rows L2
end Ws
set_option Elab.async false
set_option linter.all false
set_option maxRecDepth 100000
set_option maxHeartbeats 2000000
set_option autoImplicit false
namespace Ws
open PySem PySem.Spec PyProof.Rows L2
theorem Rk.keys {C : Cf} {F : Hp} {ρ : Rho} : ∀ {a : List (D × D)} {b : List (Key × V)}, Rk C F ρ a b → a.map (·.1) = (b.map (·.1)).map keyD
  | [], _, h => by unfold Rk at h; cases h; rfl
  | (_, _) :: _, _, h => by unfold Rk at h; obtain ⟨k, v, t, rfl, rfl, _, b⟩ := h; simp [Rk.keys b]
end Ws
set_option Elab.async false
set_option linter.all false
set_option maxRecDepth 100000
set_option maxHeartbeats 2000000
set_option autoImplicit false
namespace Ws
open PySem PySem.Spec PyProof.Rows L2
end Ws
set_option Elab.async false
set_option linter.all false
namespace Ws
open PySem PySem.Spec L2
end Ws
set_option Elab.async false
set_option linter.all false
set_option maxRecDepth 100000
set_option maxHeartbeats 2000000
set_option autoImplicit false
namespace Ws
open PySem PySem.Spec PyProof.Rows L2
end Ws
set_option Elab.async false
set_option linter.all false
set_option maxRecDepth 100000
set_option autoImplicit false
namespace Ws
open PySem
theorem x_bind_ok {α β : Type} (a : α) (h : AH) (k : α → AH → Out β) : (Out.ok a h).bind k = k a h := (rfl)
theorem x_bindS_ok {α : Type} (a : α) (h : AH) (dσ : Sl) (k : α → AH → SOut) : bindS (.ok a h) dσ k = k a h := (rfl)
theorem x_isBl (b : Bool) (h : AH) : isBl (.bl b) h = .ok b h := (rfl)
section
variable {σ : Sl} {h : AH}
theorem ap_var (i : Nat) : var i σ h = match σ[i]? with
  | some (some d) => .ok d h
  | _ => .bad := (rfl)
theorem ap_cst (d : D) : cst d σ h = .ok d h := (rfl)
theorem ap_bin (g : D → D → AH → Out D) (a b : M D) : bin g a b σ h = (a σ h).bind fun x h1 => (b σ h1).bind fun y h2 => g x y h2 := (rfl)
theorem ap_nil : nilA σ h = .ok [] h := (rfl)
theorem ap_cons (a : M D) (b : M (List D)) : consA a b σ h = (a σ h).bind fun x h1 => (b σ h1).bind fun y h2 => .ok (x :: y) h2 := (rfl)
theorem ap_app (g : List D → AH → Out D) (a : M (List D)) : app g a σ h = (a σ h).bind fun x h1 => g x h1 := (rfl)
theorem ap_asB (a : M D) : asB a σ h = (a σ h).bind isBl := (rfl)
theorem ap_notB (a : M Bool) : notB a σ h = (a σ h).bind fun x h1 => .ok (!x) h1 := (rfl)
theorem ap_orB (a b : M Bool) : orB a b σ h = (a σ h).bind fun x h1 => if x = true then .ok true h1 else b σ h1 := (rfl)
theorem ap_ifE (c : M Bool) (a b : M D) : ifE c a b σ h = (c σ h).bind fun x h1 => if x = true then a σ h1 else b σ h1 := (rfl)
theorem ap_skip : skip σ h = .nx σ h := (rfl)
theorem ap_seq (a b : SM) : seqS a b σ h = match a σ h with
  | .nx σ' h' => b σ' h'
  | o => o := (rfl)
theorem ap_ret (m : M D) : Ws.ret m σ h = bindS (m σ h) σ fun d h1 => .rt d h1 := (rfl)
theorem ap_ifS (c : M Bool) (a b : SM) : ifS c a b σ h = bindS (c σ h) σ fun x h1 => if x = true then a σ h1 else b σ h1 := (rfl)
theorem ap_asg (m : M D) (t : Tg) : asg m t σ h = bindS (m σ h) σ fun d h1 => match t d σ h1 with
  | .ok σ2 h2 => .nx σ2 h2
  | _ => .bad := (rfl)
theorem ap_tgN (i : Nat) (d : D) : tgN i d σ h = .ok (σ.set i (some d)) h := (rfl)
theorem ap_walk (g : D → AH → Out (List D)) (m : M D) : walk g m σ h = (m σ h).bind g := (rfl)
theorem ap_ccF {α : Type} (vs : List Nat) (mi : M (List D)) (t : Tg) (c : M Bool) (em : Em α) (a0 : α) (fin : α → AH → Out D) : ccF vs mi t c em a0 fin σ h = (mi σ h).bind fun ds h1 => match ccGo (turnC t c em (wipeD σ vs)) ds a0 h1 with
  | .ok a h2 => fin a h2
  | _ => .bad := (rfl)
theorem ap_bm (ty : D → AH → Bool) (g : D → List D → AH → Out D) (mo : M D) (mr : M (List D)) : bm ty g mo mr σ h = (mo σ h).bind fun o h1 => if ty o h1 = true then (mr σ h1).bind fun ds h2 => g o ds h2 else .bad := (rfl)
theorem ap_sl (a : M D) (lo hi : M (Option Int)) : sl a lo hi σ h = (a σ h).bind fun x h1 => (lo σ h1).bind fun l h2 => (hi σ h2).bind fun u h3 => gSl x l u h3 := (rfl)
end
section
variable (i j : Int) (h : AH)
theorem o_sub : gSub (.int i) (.int j) h = .ok (.int (i - j)) h := (rfl)
theorem o_eq : gEqD (.int i) (.int j) h = .ok (.bl (decide (i = j))) h := gEq_int i j h
theorem o_tup2 (a b : D) : gTup [a, b] h = .ok (.tup [a, b]) h := (rfl)
end
/-- one turn -/
def turnS (t : Tg) (m : SM) (d : D) (σ : Sl) (h : AH) : SOut := match t d σ h with
  | .ok σ1 h1 => m σ1 h1
  | _ => .bad
theorem ap_turn (t : Tg) (m : SM) (d : D) (σ : Sl) (h : AH) : turnS t m d σ h = match t d σ h with
  | .ok σ1 h1 => m σ1 h1
  | _ => .bad := (rfl)
/-- comprehensions: lists, nothing else changes -/
theorem ccGo_cons {α : Type} (f : D → α → AH → Out α) (d : D) (ds : List D) (a : α) (h : AH) : ccGo f (d :: ds) a h = match f d a h with
    | .ok a' h' => ccGo f ds a' h'
    | _ => .bad := (rfl)
theorem turnC_yes {α : Type} {t : Tg} {c : M Bool} {em : Em α} {σ σ1 : Sl} {d : D} {a : α} {h h1 h2 : AH} (e1 : t d σ h = .ok σ1 h1) (e2 : c σ1 h1 = .ok true h2) : turnC t c em σ d a h = em σ1 a h2 := by unfold turnC; rw [e1]; dsimp only; rw [e2]
theorem turnC_no {α : Type} {t : Tg} {c : M Bool} {em : Em α} {σ σ1 : Sl} {d : D} {a : α} {h h1 h2 : AH} (e1 : t d σ h = .ok σ1 h1) (e2 : c σ1 h1 = .ok false h2) : turnC t c em σ d a h = .ok a h2 := by unfold turnC; rw [e1]; dsimp only; rw [e2]
theorem emE_ok {α : Type} {e : M D} {st : D → α → Option α} {σ : Sl} {a a' : α} {h h' : AH} {y : D} (e1 : e σ h = .ok y h') (e2 : st y a = some a') : emE e st σ a h = .ok a' h' := by unfold emE; rw [e1]; dsimp only; rw [e2]
theorem ccGo_list {α : Type} {t : Tg} {c : M Bool} {e : M D} {σ : Sl} {h : AH} {g f : α → D} {p : α → Bool} : ∀ {xs : List α} {acc : List D}, (∀ x ∈ xs, ∃ σ1, t (g x) σ h = .ok σ1 h ∧ c σ1 h = .ok (p x) h ∧ (p x = true → e σ1 h = .ok (f x) h)) → acc.length + xs.length ≤ 1000000 →
    ccGo (turnC t c (emE e stepL) σ) (xs.map g) acc h = .ok (acc ++ (xs.filter p).map f) h
  | [], acc, _, _ => by simp [ccGo]
  | x :: xs, acc, hm, hl => by
    obtain ⟨σ1, e1, e2, e3⟩ := hm x List.mem_cons_self
    simp only [List.length_cons] at hl
    rw [List.map_cons, ccGo_cons]
    by_cases q : p x = true
    · rw [q] at e2
      rw [turnC_yes e1 e2, emE_ok (a' := acc ++ [f x]) (e3 q) (by unfold stepL; rw [if_pos (by omega)])]
      dsimp only
      have ih := ccGo_list (xs := xs) (acc := acc ++ [f x]) (fun z hz => hm z (List.mem_cons_of_mem _ hz)) (by simp; omega)
      rw [ih, List.filter_cons_of_pos q]
      simp
    · simp only [Bool.not_eq_true] at q
      rw [q] at e2
      rw [turnC_no e1 e2]
      dsimp only
      have ih := ccGo_list (xs := xs) (acc := acc) (fun z hz => hm z (List.mem_cons_of_mem _ hz)) (by omega)
      rw [ih, List.filter_cons_of_neg (by rw [q]; exact Bool.false_ne_true)]
theorem ccGo_map {α : Type} {t : Tg} {c : M Bool} {e : M D} {σ : Sl} {h : AH} {g f : α → D} {xs : List α} {acc : List D} (hm : ∀ x ∈ xs, ∃ σ1, t (g x) σ h = .ok σ1 h ∧ c σ1 h = .ok true h ∧ e σ1 h = .ok (f x) h) (hl : acc.length + xs.length ≤ 1000000) :
    ccGo (turnC t c (emE e stepL) σ) (xs.map g) acc h = .ok (acc ++ xs.map f) h := by
  rw [ccGo_list (p := fun _ => true) (f := f) (fun x hx => by
    obtain ⟨σ1, e1, e2, e3⟩ := hm x hx
    exact ⟨σ1, e1, e2, fun _ => e3⟩) hl, List.filter_eq_self.mpr (fun _ _ => rfl)]
end Ws
set_option Elab.async false
set_option linter.all false
set_option maxRecDepth 100000
set_option autoImplicit false
namespace Ws
open PySem
inductive Go where
  | front | steps (n : Int) | half | like
structure Th where
  name : Str
  marks : Str
  weight : Int
  rule : Go
structure Hs where
  things : List Th
  lift : Option Int
  press : Nat
  hold : Int
def dft : Th := ⟨"", "", 0, .front⟩
def cps (x : Str) : List Nat := x.cps.toList
/-- small letters -/
def letter (c : Nat) : Prop := 97 ≤ c ∧ c ≤ 122
structure OkN (x : Str) : Prop where
  lo : 1 ≤ (cps x).length
  hi : (cps x).length ≤ 8
  al : ∀ c ∈ cps x, letter c
structure OkM (x : Str) : Prop where
  al : ∀ c ∈ cps x, letter c
  up : (cps x).Pairwise (· < ·)
structure Th.Ok (t : Th) : Prop where
  nm : OkN t.name
  ma : OkM t.marks
  w0 : 0 ≤ t.weight
  w1 : t.weight ≤ 99
  rl : ∀ n, t.rule = .steps n → 0 ≤ n
structure Hs.Ok (H : Hs) : Prop where
  nd : (H.things.map (·.name)).Nodup
  th : ∀ t ∈ H.things, t.Ok
  lo : 1 ≤ H.things.length
  hi : H.things.length ≤ 6
  sm : ∃ t ∈ H.things, t.marks ≠ ""
  l0 : ∀ l, H.lift = some l → 0 ≤ l ∧ l ≤ 99
  pr : H.press ≤ 3
  h0 : 0 ≤ H.hold
  h1 : H.hold ≤ 99
/-- an order: all things, each once -/
structure IsO (H : Hs) (o : List Th) : Prop where
  pm : o.Perm H.things
theorem IsO.mem {H : Hs} {o : List Th} (h : IsO H o) {t : Th} (ht : t ∈ o) : t ∈ H.things := h.pm.mem_iff.mp ht
theorem IsO.len {H : Hs} {o : List Th} (h : IsO H o) : o.length = H.things.length := h.pm.length_eq
def has (c : Nat) (t : Th) : Bool := decide (c ∈ cps t.marks)
def nearest (o : List Th) (c : Nat) : Option Nat := (List.range o.length).find? fun i => has c (o.getD i dft)
def meet (x z : Str) : Bool := (cps x).any fun c => decide (c ∈ cps z)
def likeV (o : List Th) (p : Nat) : Nat := match (List.range p).reverse.find? fun q => meet (o.getD p dft).marks (o.getD q dft).marks with
  | some q => q + 1
  | none => p
def aimS (o : List Th) (p : Nat) : Nat := match (o.getD p dft).rule with
  | .front => 0
  | .steps n => ((p : Int) - n).toNat
  | .half => p / 2
  | .like => likeV o p
def heavy (H : Hs) (a b : Th) : Bool := match H.lift with
  | none => false
  | some l => decide (l < a.weight - b.weight)
def goalGo (ok : Nat → Bool) (aim : Nat) : Nat → Nat
  | 0 => 0
  | g + 1 => if aim < g + 1 ∧ ok g = true then goalGo ok aim g else g + 1
def goalS (H : Hs) (o : List Th) (p : Nat) : Nat := goalGo (fun g => !heavy H (o.getD g dft) (o.getD p dft)) (aimS o p) p
def moved {α : Type} (d : α) (o : List α) (p g : Nat) : List α := ((o.take p ++ o.drop (p + 1)).take g ++ [o.getD p d]) ++ (o.take p ++ o.drop (p + 1)).drop g
def exch {α : Type} (d : α) (o : List α) (i : Nat) : List α := (o.take i ++ [o.getD (i + 1) d, o.getD i d]) ++ o.drop (i + 2)
def loose (H : Hs) (o : List Th) (i : Nat) : Bool := decide (H.hold < (o.getD i dft).weight - (o.getD (i + 1) dft).weight)
def foremost (H : Hs) (o : List Th) : Option Nat := (List.range (o.length - 1)).find? fun i => loose H o i
def pressStep (H : Hs) (s : List Th × List Nat) : List Th × List Nat := match foremost H s.1 with
  | some i => (exch dft s.1 i, s.2 ++ [i])
  | none => s
def pressGo (H : Hs) : Nat → List Th × List Nat → List Th × List Nat
  | 0, s => s
  | k + 1, s => pressGo H k (pressStep H s)
def pressed (H : Hs) (o : List Th) : List Th × List Nat := pressGo H H.press (o, [])
/-- what a round tells -/
structure Tr where
  who : Option (Str × Nat × Nat)
  ps : List Nat
def roundS (H : Hs) (o : List Th) (c : Nat) : List Th × Tr := match nearest o c with
  | none => let r := pressed H o; (r.1, ⟨none, r.2⟩)
  | some p => let g := goalS H o p; let r := pressed H (moved dft o p g); (r.1, ⟨some ((o.getD p dft).name, p, g), r.2⟩)
theorem pureDs_map {α : Type} {L : Nat} {f : α → D} : ∀ {xs : List α}, (∀ x ∈ xs, pureD L (f x) = true) → pureDs L (xs.map f) = true
  | [], _ => rfl
  | x :: xs, h => by
    simp only [List.map_cons, pureDs]
    rw [h x List.mem_cons_self, pureDs_map fun z hz => h z (List.mem_cons_of_mem _ hz)]; rfl
theorem atI_map {α β : Type} {f : α → β} {xs : List α} {d : α} {i : Int} {n : Nat} (e : i = n) (hn : n < xs.length) : L2.atI (xs.map f) i = some (f (xs.getD n d)) := by
  subst e
  unfold L2.atI L2.ixN
  rw [List.length_map, if_pos (by omega), if_pos (by omega)]
  simp [hn]
theorem at_lst {α : Type} {f : α → D} {xs : List α} {i : Int} {n : Nat} (d : α) (h : AH) (e : i = n) (hn : n < xs.length) : gAt (.lst (xs.map f)) (.int i) h = .ok (f (xs.getD n d)) h := by
  show gIx (.lst (xs.map f)) (.int i) h = _
  have := atI_map (f := f) (d := d) e hn
  unfold gIx lstOf
  dsimp only
  rw [this]
end Ws
set_option Elab.async false
set_option linter.all false
set_option maxRecDepth 100000
set_option autoImplicit false
namespace Ws
open PySem
section
variable {α : Type} {d : α}
theorem exch_eq {o : List α} {i : Nat} (hi : i + 1 < o.length) : o = (o.take i ++ [o.getD i d, o.getD (i + 1) d]) ++ o.drop (i + 2) := by
  have h1 : i < o.length := by omega
  conv => lhs; rw [← List.take_append_drop i o, List.drop_eq_getElem_cons h1, List.drop_eq_getElem_cons hi]
  simp [h1, hi]
theorem exch_perm {o : List α} {i : Nat} (hi : i + 1 < o.length) : (exch d o i).Perm o := by
  conv => rhs; rw [exch_eq (d := d) hi]
  unfold exch
  refine List.Perm.append_right _ (List.Perm.append_left _ ?_)
  exact .swap _ _ _
theorem moved_perm {o : List α} {p g : Nat} (hp : p < o.length) : (moved d o p g).Perm o := by
  have e : o.Perm (o.getD p d :: (o.take p ++ o.drop (p + 1))) := by
    conv => lhs; rw [← List.take_append_drop p o, List.drop_eq_getElem_cons hp]
    rw [show o.getD p d = o[p] by simp [hp]]
    exact List.perm_middle
  refine .trans ?_ e.symm
  unfold moved
  conv => rhs; rw [← List.take_append_drop g (o.take p ++ o.drop (p + 1))]
  rw [List.append_assoc]
  exact List.perm_middle
end
theorem foremost_lt {H : Hs} {o : List Th} {i : Nat} (e : foremost H o = some i) : i + 1 < o.length := by
  unfold foremost at e
  have := List.mem_of_find?_eq_some e
  simp at this
  omega
theorem IsO.step {H : Hs} {s : List Th × List Nat} (h : IsO H s.1) : IsO H (pressStep H s).1 := by
  unfold pressStep
  cases e : foremost H s.1 with
  | none => exact h
  | some i => exact ⟨(exch_perm (foremost_lt e)).trans h.pm⟩
theorem IsO.go {H : Hs} : ∀ {k : Nat} {s : List Th × List Nat}, IsO H s.1 → IsO H (pressGo H k s).1
  | 0, _, h => h
  | k + 1, _, h => IsO.go (k := k) h.step
theorem IsO.pressed {H : Hs} {o : List Th} (h : IsO H o) : IsO H (pressed H o).1 := IsO.go (s := (o, [])) h
theorem nearest_lt {o : List Th} {c p : Nat} (e : nearest o c = some p) : p < o.length := by
  unfold nearest at e
  have := List.mem_of_find?_eq_some e
  simpa using this
theorem IsO.moved {H : Hs} {o : List Th} {p g : Nat} (h : IsO H o) (hp : p < o.length) : IsO H (moved dft o p g) := ⟨(moved_perm hp).trans h.pm⟩
theorem IsO.round {H : Hs} {o : List Th} {c : Nat} (h : IsO H o) : IsO H (roundS H o c).1 := by
  unfold roundS
  cases e : nearest o c with
  | none => exact h.pressed
  | some p => exact (h.moved (nearest_lt e)).pressed
end Ws
set_option Elab.async false
set_option linter.all false
set_option maxRecDepth 100000
set_option autoImplicit false
namespace Ws
open PySem
def mkS (l : List Nat) : Str := ⟨l.toArray⟩
def alpha : List Nat := (List.range 26).map (· + 97)
theorem alpha_lt : alpha.Pairwise (· < ·) := by decide +kernel
def lettersS (H : Hs) : List Nat := alpha.filter fun c => H.things.any (has c)
def wishesS (H : Hs) : List Nat := 45 :: lettersS H
theorem letters_lt (H : Hs) : (lettersS H).Pairwise (· < ·) := alpha_lt.filter _
theorem okStr {x : Str} (h : ∀ c ∈ cps x, c < 1114112) : PyData.canLay0 (.str x) = true := by
  unfold PyData.canLay0 PyData.strOk
  rw [Array.all_eq_true_iff_forall_mem]
  intro c hc
  have := h c (by unfold cps; simpa using hc)
  simpa using this
theorem fit_str {n : Nat} {x : Str} (h : PyData.canLay0 (.str x) = true) : fit n (.str x) = true := by cases n <;> exact h
theorem fit_int {n : Nat} (i : Int) : fit n (.int i) = true := by cases n <;> rfl
theorem fit_non {n : Nat} : fit n .non = true := by cases n <;> rfl
theorem fit_lst {n : Nat} {xs : List D} (h : ∀ d ∈ xs, fit n d = true) : fit (n + 1) (.lst xs) = true := fits_all h
theorem fit_tup {n : Nat} {xs : List D} (h : ∀ d ∈ xs, fit n d = true) : fit (n + 1) (.tup xs) = true := fits_all h
theorem o_eqSelf {x : D} (h : AH) (hs : seen x h = x) (hf : fit 64 x = true) : gEqD x x h = .ok (.bl true) h := gEq_self rfl (by rw [hs]; exact hf)
theorem o_neSelf {x : D} (h : AH) (hs : seen x h = x) (hf : fit 64 x = true) : gNot gEqD x x h = .ok (.bl false) h := by
  unfold gNot
  rw [o_eqSelf h hs hf]
  rfl
end Ws
set_option Elab.async false
set_option linter.all false
set_option maxRecDepth 100000
set_option autoImplicit false
namespace Ws
open PySem
theorem o_eqS {x y : Str} (h : AH) (hx : PyData.canLay0 (.str x) = true) (hy : PyData.canLay0 (.str y) = true) : gEqD (.str x) (.str y) h = .ok (.bl (decide (x = y))) h := by
  rw [gEq_of (x := .str x) (y := .str y) (fit_str hx) (fit_str hy)]
  congr 2
end Ws
set_option Elab.async false
set_option linter.all false
set_option maxRecDepth 100000
set_option autoImplicit false
namespace Ws
open PySem
theorem o_neNil {xs : List D} (h : AH) (hf : ∀ d ∈ xs, fit 63 d = true) : gNot gEqD (.lst xs) (.lst []) h = .ok (.bl (!xs.isEmpty)) h := by
  unfold gNot
  rw [gEq_of (x := .lst xs) (y := .lst []) (fit_lst hf) rfl]
  dsimp only
  rw [show eqB (seen (.lst xs) h) (seen (.lst []) h) = xs.isEmpty from eqB_nil (n := 63) (fits_all hf)]
theorem ccF_map {α : Type} {vs : List Nat} {mi : M (List D)} {t : Tg} {c : M Bool} {e : M D} {σ : Sl} {h : AH} {g f : α → D} {xs : List α} (ei : mi σ h = .ok (xs.map g) h) (hm : ∀ x ∈ xs, ∃ σ1, t (g x) (wipeD σ vs) h = .ok σ1 h ∧ c σ1 h = .ok true h ∧ e σ1 h = .ok (f x) h) (hl : xs.length ≤ 1000000) :
    ccF vs mi t c (emE e stepL) [] finL σ h = .ok (.lst (xs.map f)) h := by
  rw [ap_ccF, ei, x_bind_ok, ccGo_map (f := f) hm (by simpa using hl)]
  rfl
end Ws
set_option Elab.async false
set_option linter.all false
set_option maxRecDepth 100000
set_option autoImplicit false
namespace Ws
open PySem
theorem o_mod {i j : Int} (hj : 0 < j) (h : AH) : gMod (.int i) (.int j) h = .ok (.int (i % j)) h := by
  unfold gMod gInt
  dsimp only
  rw [if_pos (decide_eq_true hj)]
/-- the state of the draws: one number, or three -/
inductive Dr : List D → Prop where
  | one (a : Int) : Dr [.int a]
  | three (a u c : Int) : Dr [.int a, .int u, .int c]
theorem Dr.pure {st : List D} (h : Dr st) (L : Nat) : pureDs L st = true := by cases h <;> rfl
/-- a rest of cells, each without cells of its own or with lesser ones -/
def PH (r : AH) : Prop := ∀ L, r.length < L → pureH L r = true
theorem PH.nil : PH [] := fun _ _ => rfl
theorem pureH_app {L : Nat} : ∀ {a b : AH}, pureH L a = true → pureH L b = true → pureH L (a ++ b) = true
  | [], b, _, h => h
  | none :: a, b, h1, h2 => by
    unfold pureH at h1
    show pureH L (none :: (a ++ b)) = true
    unfold pureH
    exact pureH_app h1 h2
  | some x :: a, b, h1, h2 => by
    unfold pureH at h1
    obtain ⟨q1, q2⟩ := Bool.and_eq_true_iff.mp h1
    show pureH L (some x :: (a ++ b)) = true
    unfold pureH
    rw [q1, pureH_app q2 h2]; rfl
theorem PH.snoc {r : AH} (h : PH r) {ob : OB} (ho : ∀ L, pureO L ob = true) : PH (r ++ [some ob]) := fun L hl => by
  simp only [List.length_append, List.length_singleton] at hl
  refine pureH_app (h L (by omega)) ?_
  unfold pureH pureH
  rw [ho]; rfl
end Ws
set_option Elab.async false
set_option linter.all false
set_option maxRecDepth 100000
set_option autoImplicit false
namespace Ws
open PySem
end Ws
set_option Elab.async false
set_option linter.all false
set_option maxRecDepth 100000
set_option autoImplicit false
namespace Ws
open PySem
abbrev Pr (H : Hs) (o : List Th) : List Th := (pressed H o).1
/-- till it stays -/
inductive Settles {α : Type} (P : α → α) : α → α → Nat → Prop where
  | stop {o : α} : P o = o → Settles P o o 0
  | step {o r : α} {n : Nat} : P o ≠ o → Settles P (P o) r n → Settles P o r (n + 1)
theorem Settles.isO {H : Hs} {o r : List Th} {n : Nat} (h : Settles (Pr H) o r n) (ho : IsO H o) : IsO H r := by
  induction h with
  | stop => exact ho
  | step _ _ ih => exact ih ho.pressed
end Ws
set_option Elab.async false
set_option linter.all false
set_option maxRecDepth 100000
set_option autoImplicit false
namespace Ws
open PySem
theorem names_inj {H : Hs} (ok : H.Ok) : ∀ {a b : List Th}, (∀ t ∈ a, t ∈ H.things) → (∀ t ∈ b, t ∈ H.things) → a.map (·.name) = b.map (·.name) → a = b
  | [], [], _, _, _ => rfl
  | [], _ :: _, _, _, e => nomatch e
  | _ :: _, [], _, _, e => nomatch e
  | x :: a, y :: b, ha, hb, e => by
    simp only [List.map_cons, List.cons.injEq] at e
    have : ∀ {ts : List Th}, (ts.map (·.name)).Nodup → x ∈ ts → y ∈ ts → x = y := by
      intro ts
      induction ts with
      | nil => intro _ h; cases h
      | cons t ts ih =>
        intro nd hx hy
        simp only [List.map_cons, List.nodup_cons] at nd
        rcases List.mem_cons.mp hx with h1 | h1
        · rcases List.mem_cons.mp hy with h2 | h2
          · rw [h1, h2]
          · exact absurd (List.mem_map.mpr ⟨y, h2, by rw [← e.1, h1]⟩) nd.1
        · rcases List.mem_cons.mp hy with h2 | h2
          · exact absurd (List.mem_map.mpr ⟨x, h1, by rw [e.1, h2]⟩) nd.1
          · exact ih nd.2 h1 h2
    rw [this ok.nd (ha x List.mem_cons_self) (hb y List.mem_cons_self), names_inj ok (fun t ht => ha t (List.mem_cons_of_mem _ ht)) (fun t ht => hb t (List.mem_cons_of_mem _ ht)) e.2]
end Ws
set_option Elab.async false
set_option linter.all false
set_option maxRecDepth 100000
set_option autoImplicit false
namespace Ws
open PySem PySem.Spec PyProof.Rows L2 RT
end Ws
set_option Elab.async false
set_option linter.all false
set_option maxRecDepth 100000
set_option autoImplicit false
namespace Ws
open PySem PySem.Spec PyProof.Rows L2
end Ws
set_option Elab.async false
set_option linter.all false
set_option maxRecDepth 100000
set_option autoImplicit false
namespace Ws
open PySem PySem.Spec PyProof.Rows L2
end Ws
namespace Ws
open PySem PySem.Spec PyProof.Rows L2
end Ws
set_option Elab.async false
set_option linter.all false
set_option maxRecDepth 100000
set_option autoImplicit false
namespace Ws
open PySem PySem.Spec PyProof.Rows L2
end Ws
set_option Elab.async false
set_option linter.all false
set_option maxRecDepth 100000
set_option autoImplicit false
namespace Ws
open PySem PySem.Spec PyProof.Rows L2
end Ws
set_option Elab.async false
set_option linter.all false
set_option maxRecDepth 100000
set_option autoImplicit false
namespace Ws
open PySem PySem.Spec PyProof.Rows L2
end Ws
set_option Elab.async false
set_option linter.all false
set_option maxRecDepth 100000
set_option autoImplicit false
namespace Ws
open PySem
def ranStep (H : Hs) (s : List Th × List Tr) (c : Nat) : List Th × List Tr := ((roundS H s.1 c).1, s.2 ++ [(roundS H s.1 c).2])
theorem ran_isO {H : Hs} : ∀ {cs : List Nat} {s : List Th × List Tr}, IsO H s.1 → IsO H (cs.foldl (ranStep H) s).1
  | [], _, h => h
  | c :: cs, s, h => ran_isO (cs := cs) (s := ranStep H s c) (IsO.round h)
end Ws
set_option Elab.async false
set_option linter.all false
set_option maxRecDepth 100000
set_option autoImplicit false
namespace Ws
open PySem
end Ws
set_option Elab.async false
set_option linter.all false
set_option maxRecDepth 100000
set_option autoImplicit false
namespace Ws
open PySem
def allT {α : Type} (xs : List α) : Nat → List (List α)
  | 0 => [[]]
  | n + 1 => xs.flatMap fun x => (allT xs n).map fun l => x :: l
theorem mem_allT {α : Type} {xs : List α} : ∀ {l : List α}, (∀ x ∈ l, x ∈ xs) → l ∈ allT xs l.length
  | [], _ => List.mem_singleton.mpr rfl
  | x :: l, h => List.mem_flatMap.mpr ⟨x, h x List.mem_cons_self, List.mem_map.mpr ⟨l, mem_allT fun y hy => h y (List.mem_cons_of_mem _ hy), rfl⟩⟩
theorem IsO.all {H : Hs} {o : List Th} (h : IsO H o) : o ∈ allT H.things H.things.length := by
  have := mem_allT (xs := H.things) (l := o) fun x hx => h.mem hx
  rw [h.len] at this
  exact this
end Ws
set_option Elab.async false
set_option linter.all false
set_option maxRecDepth 100000
set_option autoImplicit false
namespace Ws
open PySem
end Ws
set_option Elab.async false
set_option linter.all false
set_option maxRecDepth 100000
set_option autoImplicit false
namespace Ws
open PySem
end Ws
set_option Elab.async false
set_option linter.all false
set_option maxRecDepth 100000
set_option autoImplicit false
namespace Ws
open PySem
def okey (o : List Th) : NK := .tup (o.map fun t => .text t.name)
theorem okey_inj {H : Hs} (ok : H.Ok) {a b : List Th} (ha : IsO H a) (hb : IsO H b) (e : okey a = okey b) : a = b := by
  refine names_inj ok (fun t ht => ha.mem ht) (fun t ht => hb.mem ht) ?_
  unfold okey at e
  injection e with e
  have inj : ∀ (x y : List Th), (x.map fun t => NestedKey.text t.name) = (y.map fun t => NestedKey.text t.name) → x.map (·.name) = y.map (·.name) := by
    intro x
    induction x with
    | nil => intro y h; cases y with
      | nil => rfl
      | cons => cases h
    | cons a x ih => intro y h; cases y with
      | nil => cases h
      | cons b y =>
        rw [List.map_cons, List.map_cons, List.cons.injEq] at h
        rw [List.map_cons, List.map_cons, ih y h.2]
        injection h.1 with h1
        rw [h1]
  exact inj _ _ e
end Ws
set_option Elab.async false
set_option linter.all false
set_option maxRecDepth 100000
set_option autoImplicit false
namespace Ws
open PySem
def lookT (t : Tr) : Int := match t.who with
  | none => 0
  | some (_, p, _) => (p : Nat) + 1
/-- a trace of a house's own round -/
structure TrOf (H : Hs) (t : Tr) : Prop where
  nm : ∀ x p g, t.who = some (x, p, g) → ∃ th ∈ H.things, th.name = x
  pl : ∀ x p g, t.who = some (x, p, g) → p < 6 ∧ g ≤ p
  ps : t.ps.length ≤ 3
theorem TrOf.look {H : Hs} {t : Tr} (h : TrOf H t) : 0 ≤ lookT t ∧ lookT t ≤ 6 := by
  unfold lookT
  cases e : t.who with
  | none => exact ⟨by decide, by decide⟩
  | some w =>
    obtain ⟨x, p, g⟩ := w
    have := h.pl x p g e
    dsimp only
    omega
end Ws
set_option Elab.async false
set_option linter.all false
set_option maxRecDepth 100000
set_option autoImplicit false
namespace Ws
open PySem
end Ws
set_option Elab.async false
set_option linter.all false
set_option maxRecDepth 100000
set_option autoImplicit false
namespace Ws
open PySem
end Ws
set_option Elab.async false
set_option linter.all false
set_option maxRecDepth 100000
set_option autoImplicit false
namespace Ws
open PySem PySem.Spec PyProof.Rows L2
end Ws
set_option Elab.async false
set_option linter.all false
set_option maxRecDepth 100000
set_option autoImplicit false
namespace Ws
open PySem PySem.Spec PyProof.Rows L2
end Ws
set_option Elab.async false
set_option linter.all false
set_option maxRecDepth 100000
set_option autoImplicit false
namespace Ws
open PySem PySem.Spec PyProof.Rows L2
end Ws
set_option Elab.async false
set_option linter.all false
set_option maxRecDepth 100000
set_option autoImplicit false
namespace Ws
open PySem
theorem law_walk {ns : List Int} (hl : ns.length ≤ 63) {σ : Sl} {mr : M (List D)} {pre : List Int} {k : Int} (e0 : var 0 σ [] = .ok (.scr ns) []) (e1 : mr σ [] = .ok (pre.map .int) []) (hp : pre.length ≤ 100) : walk itemsA (bin gAdd (app gLst mr) (sl (var 0) noPart (part (cst (.int k))))) σ [] = .ok ((pre ++ cutD ns none (some k)).map .int) [] := by
  unfold walk
  have l : (cutD ns none (some k)).length ≤ 63 := by
    unfold cutD
    simp only [List.length_take, List.length_drop]
    omega
  have ea : app gLst mr σ [] = .ok (.lst (pre.map .int)) [] := by
    unfold app; rw [e1]
    show gLst _ _ = _
    unfold gLst
    rw [if_pos (by simp [lim]; omega)]
  have es : sl (var 0) noPart (part (cst (.int k))) σ [] = .ok (.lst ((cutD ns none (some k)).map .int)) [] := by
    rw [ap_sl, e0]; rfl
  rw [bin_ok ea es]
  simp only [gAdd, lstOf]
  rw [if_pos (by simp [lim]; omega)]
  simp [itemsA, itemsL]
theorem ne_ii (i : Int) (h : AH) : gNot gEqD (.int i) (.int i) h = .ok (.bl false) h := by
  unfold gNot
  rw [o_eq]
  simp
end Ws
set_option Elab.async false
set_option linter.all false
set_option maxRecDepth 100000
set_option maxHeartbeats 2000000
set_option autoImplicit false
namespace Ws
open PySem PySem.Spec PyProof.Rows L2
end Ws
set_option Elab.async false
set_option linter.all false
set_option maxRecDepth 100000
set_option maxHeartbeats 2000000
set_option autoImplicit false
namespace Ws
open PySem PySem.Spec PyProof.Rows PyProof.Rows.G L2
/-- one tuple's texts stand at or below the other's -/
def ltSS : List Str → List Str → Bool
  | [], [] => false
  | [], _ :: _ => true
  | _ :: _, [] => false
  | x :: r, y :: t => decide (x.cps.toList < y.cps.toList) || (!decide (y.cps.toList < x.cps.toList) && ltSS r t)
end Ws
set_option Elab.async false
set_option linter.all false
set_option maxRecDepth 100000
set_option maxHeartbeats 2000000
set_option autoImplicit false
namespace Ws
open PySem PySem.Spec PyProof.Rows PyProof.Rows.G L2
def cpsL (k : List Str) : List (List Nat) := k.map fun x => x.cps.toList
theorem ltSS_iff : ∀ a b : List Str, ltSS a b = true ↔ cpsL a < cpsL b
  | [], [] => by simp [ltSS, cpsL]
  | [], y :: b => by simp [ltSS, cpsL]
  | x :: a, [] => by simp [ltSS, cpsL]
  | x :: a, y :: b => by
    show (decide (x.cps.toList < y.cps.toList) || (!decide (y.cps.toList < x.cps.toList) && ltSS a b)) = true ↔ (x.cps.toList :: cpsL a) < (y.cps.toList :: cpsL b)
    rw [List.cons_lt_cons_iff, Bool.or_eq_true, Bool.and_eq_true, decide_eq_true_eq, ltSS_iff a b, Bool.not_eq_true', decide_eq_false_iff_not]
    constructor
    · rintro (h | ⟨h1, h2⟩)
      · exact .inl h
      · by_cases hx : x.cps.toList < y.cps.toList
        · exact .inl hx
        · exact .inr ⟨List.le_antisymm (List.not_lt.mp h1) (List.not_lt.mp hx), h2⟩
    · rintro (h | ⟨h1, h2⟩)
      · exact .inl h
      · exact .inr ⟨by rw [h1]; exact List.lt_irrefl _, h2⟩
end Ws
set_option Elab.async false
set_option linter.all false
set_option maxRecDepth 100000
set_option maxHeartbeats 2000000
set_option autoImplicit false
namespace Ws
open PySem PySem.Spec PyProof.Rows L2
end Ws
set_option Elab.async false
set_option linter.all false
set_option maxRecDepth 100000
set_option maxHeartbeats 2000000
set_option autoImplicit false
namespace Ws
open PySem PySem.Spec PyProof.Rows L2
end Ws
set_option Elab.async false
set_option linter.all false
set_option maxRecDepth 100000
set_option autoImplicit false
namespace Ws
open PySem PySem.Spec PyProof.Rows L2
end Ws
set_option Elab.async false
set_option linter.all false
set_option maxRecDepth 100000
set_option autoImplicit false
namespace Ws
open PySem
def names (o : List Th) : List Str := o.map (·.name)
def permsN : Nat → List Th → List (List Th)
  | _, [] => [[]]
  | 0, _ :: _ => []
  | n + 1, t :: ts => (t :: ts).flatMap fun x => (permsN n ((t :: ts).filter fun y => decide (y.name ≠ x.name))).map (x :: ·)
theorem perm_out {ts : List Th} (nd : (names ts).Nodup) {x : Th} (hx : x ∈ ts) : ts.Perm (x :: ts.filter fun y => decide (y.name ≠ x.name)) := by
  induction ts with
  | nil => cases hx
  | cons t ts ih =>
    rw [names, List.map_cons, List.nodup_cons] at nd
    rcases List.mem_cons.mp hx with e | e
    · subst e
      rw [List.filter_cons_of_neg (by simp)]
      rw [List.filter_eq_self.mpr]
      intro y hy
      rw [decide_eq_true_eq]
      exact fun z => nd.1 (z ▸ List.mem_map_of_mem hy)
    · have ne : t.name ≠ x.name := fun z => nd.1 (z ▸ List.mem_map_of_mem e)
      rw [List.filter_cons_of_pos (by simpa using ne)]
      exact ((ih nd.2 e).cons t).trans (.swap _ _ _)
theorem nodup_out {ts : List Th} (nd : (names ts).Nodup) (p : Th → Bool) : (names (ts.filter p)).Nodup := nd.sublist ((List.filter_sublist).map _)
theorem len_out {ts : List Th} (nd : (names ts).Nodup) {x : Th} (hx : x ∈ ts) : (ts.filter fun y => decide (y.name ≠ x.name)).length + 1 = ts.length := by
  have := (perm_out nd hx).length_eq
  rw [List.length_cons] at this
  exact this.symm
theorem mem_perms : ∀ {n : Nat} {ts : List Th}, ts.length ≤ n → (names ts).Nodup → ∀ {o : List Th}, o ∈ permsN n ts ↔ o.Perm ts
  | n, [], _, _, o => by
    cases n <;> (unfold permsN; rw [List.mem_singleton]; exact ⟨fun e => by subst e; exact .nil, fun h => h.eq_nil⟩)
  | 0, t :: ts, h, _, _ => by simp at h
  | n + 1, t :: ts, h, nd, o => by
    unfold permsN
    rw [List.mem_flatMap]
    constructor
    · rintro ⟨x, hx, hm⟩
      obtain ⟨r, hr, rfl⟩ := List.mem_map.mp hm
      have l := len_out nd hx
      have := (mem_perms (n := n) (by omega) (nodup_out nd _)).mp hr
      exact (this.cons x).trans (perm_out nd hx).symm
    · intro hp
      cases o with
      | nil => exact absurd hp.symm.eq_nil (by simp)
      | cons x r =>
        have hx : x ∈ t :: ts := hp.subset List.mem_cons_self
        have l := len_out nd hx
        refine ⟨x, hx, List.mem_map.mpr ⟨r, (mem_perms (n := n) (by omega) (nodup_out nd _)).mpr ?_, rfl⟩⟩
        exact (hp.trans (perm_out nd hx)).cons_inv
/-- one order stands ahead of another -/
def ltO (a b : List Th) : Prop := ltSS (names a) (names b) = true
theorem ltSS_irrefl (k : List Str) : ltSS k k = false := by
  rw [← Bool.not_eq_true, ltSS_iff]
  exact List.lt_irrefl _
theorem perms_up : ∀ {n : Nat} {ts : List Th}, ts.Pairwise (fun a b => a.name.cps.toList < b.name.cps.toList) → (permsN n ts).Pairwise ltO
  | n, [], _ => by cases n <;> (unfold permsN; exact List.pairwise_singleton _ _)
  | 0, t :: ts, _ => by unfold permsN; exact .nil
  | n + 1, t :: ts, h => by
    unfold permsN
    rw [List.pairwise_flatMap]
    refine ⟨fun x hx => ?_, ?_⟩
    · rw [List.pairwise_map]
      refine (perms_up (n := n) (h.filter _)).imp fun {a b} hab => ?_
      show (decide (x.name.cps.toList < x.name.cps.toList) || (!decide (x.name.cps.toList < x.name.cps.toList) && ltSS (names a) (names b))) = true
      rw [decide_eq_false (List.lt_irrefl _)]
      exact hab
    · refine h.imp fun {x y} hxy a ha b hb => ?_
      obtain ⟨a', _, rfl⟩ := List.mem_map.mp ha
      obtain ⟨b', _, rfl⟩ := List.mem_map.mp hb
      show (decide (x.name.cps.toList < y.name.cps.toList) || _) = true
      rw [decide_eq_true hxy]
      rfl
def thS (H : Hs) : List Th := H.things.mergeSort fun a b => leS a.name b.name
theorem thS_perm (H : Hs) : (thS H).Perm H.things := List.mergeSort_perm _ _
theorem thS_le (H : Hs) : (thS H).Pairwise fun a b => leS a.name b.name = true := List.pairwise_mergeSort (le := fun a b : Th => leS a.name b.name) (fun a b c h1 h2 => leS_trans a.name b.name c.name h1 h2) (fun a b => leS_total a.name b.name) H.things
theorem thS_nd {H : Hs} (ok : H.Ok) : (names (thS H)).Nodup := (((thS_perm H).map _).nodup_iff).mpr ok.nd
theorem thS_up {H : Hs} (ok : H.Ok) : (thS H).Pairwise fun a b => a.name.cps.toList < b.name.cps.toList := by
  have h1 := thS_le H
  have h2 := thS_nd ok
  unfold names at h2
  rw [List.Nodup, List.pairwise_map] at h2
  refine (h1.and h2).imp fun {a b} ⟨x, y⟩ => ?_
  rw [leS_iff] at x
  refine List.not_le.mp fun z => y ?_
  have e := List.le_antisymm x z
  cases ha : a.name; cases hb : b.name
  rw [ha, hb] at e
  congr 1
  exact Array.ext' e
def ordersS (H : Hs) : List (List Th) := permsN 7 (thS H)
theorem mem_orders {H : Hs} (ok : H.Ok) {o : List Th} : o ∈ ordersS H ↔ IsO H o := by
  have l : (thS H).length ≤ 7 := by rw [(thS_perm H).length_eq]; have := ok.hi; omega
  unfold ordersS
  rw [mem_perms l (thS_nd ok)]
  exact ⟨fun h => ⟨h.trans (thS_perm H)⟩, fun h => h.pm.trans (thS_perm H).symm⟩
theorem orders_up {H : Hs} (ok : H.Ok) : (ordersS H).Pairwise ltO := perms_up (thS_up ok)
theorem okey_ltO {a b : List Th} (h : ltO a b) : okey a ≠ okey b := fun e => by
  have : names a = names b := by
    unfold okey at e
    have e2 : (a.map fun t => NestedKey.text t.name) = b.map fun t => NestedKey.text t.name := by
      injection e
    have e3 := congrArg (List.map fun k => match k with
      | NestedKey.text x => x
      | _ => ("" : Str)) e2
    rw [List.map_map, List.map_map] at e3
    exact e3
  rw [ltO, this, ltSS_irrefl] at h
  cases h
theorem orders_keys {H : Hs} (ok : H.Ok) : ((ordersS H).map okey).Nodup := by
  rw [List.Nodup, List.pairwise_map]
  exact (orders_up ok).imp fun h => okey_ltO h
theorem perms_len : ∀ (n : Nat) (ts : List Th), (names ts).Nodup → ts.length ≤ n → (permsN n ts).length ≤ n ^ n
  | n, [], _, _ => by
    cases n with
    | zero => unfold permsN; simp
    | succ n => unfold permsN; exact Nat.pow_pos (by omega)
  | 0, t :: ts, _, h => by simp at h
  | n + 1, t :: ts, nd, h => by
    unfold permsN
    have : ∀ (xs : List Th), (∀ x ∈ xs, x ∈ t :: ts) → (xs.flatMap fun x => (permsN n ((t :: ts).filter fun y => decide (y.name ≠ x.name))).map (x :: ·)).length ≤ xs.length * n ^ n := by
      intro xs
      induction xs with
      | nil => intro _; simp
      | cons x xs ih =>
        intro hx
        have l := len_out nd (hx x List.mem_cons_self)
        have h1 := perms_len n _ (nodup_out nd fun y => decide (y.name ≠ x.name)) (by omega)
        have h2 := ih fun y hy => hx y (List.mem_cons_of_mem _ hy)
        rw [List.flatMap_cons, List.length_append, List.length_map, List.length_cons, Nat.succ_mul]
        omega
    have h3 := this (t :: ts) fun _ z => z
    have h4 : (t :: ts).length * n ^ n ≤ (n + 1) * (n + 1) ^ n := Nat.mul_le_mul h (Nat.pow_le_pow_left (by omega) n)
    have h5 : (n + 1) * (n + 1) ^ n = (n + 1) ^ (n + 1) := by rw [Nat.pow_succ, Nat.mul_comm]
    omega
end Ws
set_option Elab.async false
set_option linter.all false
set_option maxRecDepth 100000
set_option autoImplicit false
namespace Ws
open PySem
theorem eq_nil {xs : List D} (h : AH) (hf : ∀ d ∈ xs, fit 63 d = true) : gEqD (.lst xs) (.lst []) h = .ok (.bl xs.isEmpty) h := by
  have := o_neNil h hf
  unfold gNot at this
  cases e : gEqD (.lst xs) (.lst []) h with
  | ok d h' =>
    rw [e] at this
    cases d with
    | bl b =>
      cases b <;> cases xs <;> simp_all [isBl]
    | _ => simp_all [isBl]
  | exc => rw [e] at this; simp_all
  | bad => rw [e] at this; simp_all
end Ws
set_option Elab.async false
set_option linter.all false
set_option maxRecDepth 100000
set_option autoImplicit false
namespace Ws
open PySem
def aft (H : Hs) (o : List Th) (c : Nat) : List Th := (roundS H o c).1
def idxO (o : List Th) (t : Th) : Nat := (names o).idxOf t.name
def nearB (o : List Th) (t : Th) (p : Nat) : Bool := decide (idxO o t ≤ p)
def heldA (H : Hs) (t : Th) (p : Nat) (K : List Th → Bool) (a : List Th) : Bool := nearB a t p && (wishesS H).all fun c => K (aft H a c)
def heldB (H : Hs) (t : Th) (p : Nat) (K : List Th → Bool) (o : List Th) : Bool := (wishesS H).any fun c => heldA H t p K (aft H o c)
def PostF (H : Hs) (t : Th) (p : Nat) (S : List Th → Bool) : Prop := ∀ o, IsO H o → S o = true → nearB o t p = true ∧ heldB H t p S o = true
theorem aft_isO {H : Hs} {o : List Th} (ho : IsO H o) (c : Nat) : IsO H (aft H o c) := by
  have := ran_isO (H := H) (cs := [c]) (s := (o, [])) ho
  exact this
theorem heldA_mono {H : Hs} {t : Th} {p q : Nat} {K S : List Th → Bool} (hpq : p ≤ q) (hs : ∀ o, IsO H o → S o = true → K o = true) {a : List Th} (ha : IsO H a) (h : heldA H t p S a = true) : heldA H t q K a = true := by
  unfold heldA at h ⊢
  rw [Bool.and_eq_true, List.all_eq_true] at h ⊢
  refine ⟨?_, fun c hc => hs _ (aft_isO ha c) (h.2 c hc)⟩
  have := h.1
  unfold nearB at this ⊢
  rw [decide_eq_true_eq] at this ⊢
  omega
theorem heldB_mono {H : Hs} {t : Th} {p q : Nat} {K S : List Th → Bool} (hpq : p ≤ q) (hs : ∀ o, IsO H o → S o = true → K o = true) {o : List Th} (ho : IsO H o) (h : heldB H t p S o = true) : heldB H t q K o = true := by
  unfold heldB at h ⊢
  rw [List.any_eq_true] at h ⊢
  obtain ⟨c, hc, h⟩ := h
  exact ⟨c, hc, heldA_mono hpq hs (aft_isO ho c) h⟩
abbrev Rk' := List (List Th × Int)
structure KInv (H : Hs) (t : Th) (p : Nat) (K : List Th → Bool) (rs : Rk') (rank : Int) : Prop where
  near : ∀ o, IsO H o → K o = true → nearB o t p = true
  keys : (rs.map fun q => okey q.1).Nodup
  isO : ∀ q ∈ rs, IsO H q.1
  part : ∀ o, IsO H o → (K o = false ↔ ∃ r, (o, r) ∈ rs)
  lo : ∀ q ∈ rs, 0 ≤ q.2 ∧ q.2 ≤ rank
  zero : ∀ q ∈ rs, q.2 = 0 ↔ nearB q.1 t p = false
  pos : ∀ q ∈ rs, 0 < q.2 → ∀ c ∈ wishesS H, nearB (aft H q.1 c) t p = true → ∃ c2 ∈ wishesS H, ∃ r', r' < q.2 ∧ (aft H (aft H q.1 c) c2, r') ∈ rs
  top : ∀ S : List Th → Bool, PostF H t p S → ∀ o, IsO H o → S o = true → K o = true
  up : 0 ≤ rank
def fallen (H : Hs) (t : Th) (p : Nat) (K : List Th → Bool) : List (List Th) := (ordersS H).filter fun o => K o && !heldB H t p K o
theorem keys_filter {H : Hs} (ok : H.Ok) (P : List Th → Bool) : (((ordersS H).filter P).map okey).Nodup := (orders_keys ok).sublist ((List.filter_sublist).map _)
theorem KInv.step {H : Hs} (ok : H.Ok) {t : Th} {p : Nat} {K : List Th → Bool} {rs : Rk'} {rank : Int} (I : KInv H t p K rs rank) : KInv H t p (fun o => K o && heldB H t p K o) (rs ++ (fallen H t p K).map fun o => (o, rank + 1)) (rank + 1) where
  near := fun o ho h => I.near o ho (Bool.and_eq_true_iff.mp h).1
  keys := by
    rw [List.map_append, List.nodup_append]
    refine ⟨I.keys, by rw [List.map_map]; exact keys_filter ok _, fun a ha b hb e => ?_⟩
    obtain ⟨q, hq, rfl⟩ := List.mem_map.mp ha
    obtain ⟨q2, hq2, rfl⟩ := List.mem_map.mp hb
    obtain ⟨o, ho, rfl⟩ := List.mem_map.mp hq2
    obtain ⟨h1, h2⟩ := List.mem_filter.mp ho
    have io := (mem_orders ok).mp h1
    have eo : q.1 = o := okey_inj ok (I.isO q hq) io e
    have := (I.part o io).mpr ⟨q.2, by rw [← eo]; exact hq⟩
    rw [this] at h2
    cases h2
  isO := fun q hq => by
    rcases List.mem_append.mp hq with h | h
    · exact I.isO q h
    · obtain ⟨o, ho, rfl⟩ := List.mem_map.mp h
      exact (mem_orders ok).mp (List.mem_filter.mp ho).1
  part := fun o ho => by
    constructor
    · intro h
      cases hk : K o with
      | false =>
        obtain ⟨r, hr⟩ := (I.part o ho).mp hk
        exact ⟨r, List.mem_append_left _ hr⟩
      | true =>
        rw [hk, Bool.true_and] at h
        exact ⟨rank + 1, List.mem_append_right _ (List.mem_map.mpr ⟨o, List.mem_filter.mpr ⟨(mem_orders ok).mpr ho, by rw [hk, h]; rfl⟩, rfl⟩)⟩
    · rintro ⟨r, h⟩
      rcases List.mem_append.mp h with h | h
      · rw [(I.part o ho).mpr ⟨r, h⟩]; rfl
      · obtain ⟨o', ho', e⟩ := List.mem_map.mp h
        cases e
        have := (Bool.and_eq_true_iff.mp (List.mem_filter.mp ho').2).2
        rw [Bool.not_eq_true'] at this
        rw [this, Bool.and_false]
  lo := fun q hq => by
    rcases List.mem_append.mp hq with h | h
    · have := I.lo q h; omega
    · obtain ⟨o, _, rfl⟩ := List.mem_map.mp h
      have := I.up
      exact ⟨by show 0 ≤ rank + 1; omega, Int.le_refl _⟩
  zero := fun q hq => by
    rcases List.mem_append.mp hq with h | h
    · exact I.zero q h
    · obtain ⟨o, ho, rfl⟩ := List.mem_map.mp h
      obtain ⟨h1, h2⟩ := List.mem_filter.mp ho
      have nr := I.near o ((mem_orders ok).mp h1) (Bool.and_eq_true_iff.mp h2).1
      have := I.up
      constructor
      · intro z
        have : rank + 1 = 0 := z
        omega
      · intro z
        have z : nearB o t p = false := z
        rw [nr] at z
        cases z
  pos := fun q hq hp c hc hn => by
    rcases List.mem_append.mp hq with h | h
    · obtain ⟨c2, hc2, r', h1, h2⟩ := I.pos q h hp c hc hn
      exact ⟨c2, hc2, r', h1, List.mem_append_left _ h2⟩
    · obtain ⟨o, ho, rfl⟩ := List.mem_map.mp h
      obtain ⟨h1, h2⟩ := List.mem_filter.mp ho
      have io := (mem_orders ok).mp h1
      have nh := (Bool.and_eq_true_iff.mp h2).2
      rw [Bool.not_eq_true'] at nh
      unfold heldB at nh
      rw [List.any_eq_false] at nh
      have := nh c hc
      unfold heldA at this
      rw [hn, Bool.true_and, List.all_eq_true] at this
      have ⟨c2, hc2, hk⟩ : ∃ c2, c2 ∈ wishesS H ∧ K (aft H (aft H o c) c2) = false := by
        apply Classical.byContradiction
        intro z
        apply this
        intro c2 hc2
        cases hk : K (aft H (aft H o c) c2) with
        | true => rfl
        | false => exact absurd ⟨c2, hc2, hk⟩ z
      obtain ⟨r, hr⟩ := (I.part _ (aft_isO (aft_isO io c) c2)).mp hk
      exact ⟨c2, hc2, r, by have := (I.lo _ hr).2; show r < rank + 1; have : r ≤ rank := this; omega, List.mem_append_left _ hr⟩
  top := fun S hS o ho h => by
    have h1 := I.top S hS o ho h
    rw [h1, Bool.true_and]
    exact heldB_mono (Nat.le_refl _) (fun a ha z => I.top S hS a ha z) ho (hS o ho h).2
  up := by have := I.up; omega
/-- what a helper can keep: the greatest such set -/
structure KeptO (H : Hs) (t : Th) (p : Nat) (K : List Th → Bool) : Prop where
  fix : ∀ o, IsO H o → (K o = true ↔ nearB o t p = true ∧ heldB H t p K o = true)
  top : ∀ S : List Th → Bool, PostF H t p S → ∀ o, IsO H o → S o = true → K o = true
theorem KInv.kept {H : Hs} {t : Th} {p : Nat} {K : List Th → Bool} {rs : Rk'} {rank : Int} (I : KInv H t p K rs rank) (h : ∀ o, IsO H o → K o = true → heldB H t p K o = true) : KeptO H t p K where
  fix := fun o ho => by
    refine ⟨fun hk => ⟨I.near o ho hk, h o ho hk⟩, fun ⟨h1, h2⟩ => ?_⟩
    have hp : PostF H t p (fun o => K o || (nearB o t p && heldB H t p K o)) := fun a ha z => by
      have mono : ∀ b, IsO H b → K b = true → (fun o => K o || (nearB o t p && heldB H t p K o)) b = true := fun b _ hb => by dsimp only; rw [hb]; rfl
      dsimp only at z
      rw [Bool.or_eq_true, Bool.and_eq_true] at z
      rcases z with z | ⟨z1, z2⟩
      · exact ⟨I.near a ha z, heldB_mono (Nat.le_refl _) mono ha (h a ha z)⟩
      · exact ⟨z1, heldB_mono (Nat.le_refl _) mono ha z2⟩
    exact I.top _ hp o ho (by rw [h1, h2, Bool.or_comm]; rfl)
  top := I.top
theorem KeptO.mono {H : Hs} {t : Th} {p q : Nat} {K L : List Th → Bool} (hpq : p ≤ q) (hK : KeptO H t p K) (hL : KeptO H t q L) {o : List Th} (ho : IsO H o) (h : K o = true) : L o = true :=
  hL.top K (fun a ha z => by
    obtain ⟨z1, z2⟩ := (hK.fix a ha).mp z
    refine ⟨?_, heldB_mono hpq (fun _ _ z => z) ha z2⟩
    unfold nearB at z1 ⊢
    rw [decide_eq_true_eq] at z1 ⊢
    omega) o ho h
theorem KeptO.eq {H : Hs} {t : Th} {p : Nat} {K L : List Th → Bool} (hK : KeptO H t p K) (hL : KeptO H t p L) {o : List Th} (ho : IsO H o) : K o = L o := by
  have h1 := hK.mono (Nat.le_refl _) hL ho
  have h2 := hL.mono (Nat.le_refl _) hK ho
  cases hk : K o <;> cases hl : L o <;> simp_all
end Ws
set_option Elab.async false
set_option linter.all false
set_option maxRecDepth 100000
set_option autoImplicit false
namespace Ws
open PySem
end Ws
set_option Elab.async false
set_option linter.all false
set_option maxRecDepth 100000
set_option autoImplicit false
namespace Ws
open PySem
theorem ords_len {H : Hs} (ok : H.Ok) : (ordersS H).length ≤ 823543 := by
  have := perms_len 7 (thS H) (thS_nd ok) (by rw [(thS_perm H).length_eq]; have := ok.hi; omega)
  have e7 : (7 : Nat) ^ 7 = 823543 := by decide
  unfold ordersS
  omega
theorem nodup_len {α : Type} : ∀ {l m : List α}, l.Nodup → (∀ x ∈ l, x ∈ m) → l.length ≤ m.length
  | [], _, _, _ => Nat.zero_le _
  | x :: l, m, nd, sub => by
    obtain ⟨a, b, rfl⟩ := List.append_of_mem (sub x List.mem_cons_self)
    rw [List.nodup_cons] at nd
    have := nodup_len (m := a ++ b) nd.2 fun y hy => by
      have := sub y (List.mem_cons_of_mem _ hy)
      rw [List.mem_append, List.mem_cons] at this
      rw [List.mem_append]
      rcases this with z | z | z
      · exact .inl z
      · subst z; exact absurd hy nd.1
      · exact .inr z
    simp only [List.length_append, List.length_cons] at this ⊢
    omega
end Ws
set_option Elab.async false
set_option linter.all false
set_option maxRecDepth 100000
set_option maxHeartbeats 2000000
set_option autoImplicit false
namespace Ws
open PySem PySem.Spec PyProof.Rows L2
abbrev Rw := List (List Th × List Nat)
def findR (rows : Rw) (o : List Th) : Option (List Th × List Nat) := rows.find? fun q => decide (okey q.1 = okey o)
def inR (rows : Rw) (o : List Th) : Bool := (findR rows o).isSome
def rowR (rows : Rw) (o : List Th) : List Nat := ((findR rows o).map (·.2)).getD []
theorem inR_iff {rows : Rw} {o : List Th} : inR rows o = true ↔ ∃ q ∈ rows, okey q.1 = okey o := by
  unfold inR findR
  rw [List.find?_isSome]
  simp
abbrev Bs := Rw × List (List Th)
def turnB (H : Hs) (o : List Th) (st : Bs) (c : Nat) : Bs := if inR st.1 (aft H o c) = true then st else (st.1 ++ [(aft H o c, rowR st.1 o ++ [c])], st.2 ++ [aft H o c])
/-- what holds while the search goes on; n: how many stood there ahead of the layer -/
structure BInv (H : Hs) (n : Nat) (st : Bs) : Prop where
  nd : (st.1.map fun q => okey q.1).Nodup
  io : ∀ q ∈ st.1, IsO H q.1
  sh : ∀ q ∈ st.1, q.2.length < st.1.length
  fo : ∀ a ∈ st.2, IsO H a ∧ inR st.1 a = true
  ln : st.1.length = n + st.2.length
theorem inR_app {rows : Rw} {o : List Th} (z : List Th × List Nat) (h : inR rows o = true) : inR (rows ++ [z]) o = true := by
  obtain ⟨q, hq, k⟩ := inR_iff.mp h
  exact inR_iff.mpr ⟨q, List.mem_append_left _ hq, k⟩
section
variable {H : Hs} {n : Nat} {st : Bs}
theorem BInv.len (ok : H.Ok) (B : BInv H n st) : st.1.length ≤ 823543 := by
  have h : (st.1.map (·.1)).length ≤ (ordersS H).length := nodup_len (by
      have := B.nd
      exact List.Pairwise.of_map (S := fun x y : NK => x ≠ y) okey (fun a b hne e => hne (congrArg okey e)) (by rw [List.map_map]; exact this)) fun o ho => by
    obtain ⟨q, hq, rfl⟩ := List.mem_map.mp ho
    exact (mem_orders ok).mpr (B.io q hq)
  rw [List.length_map] at h
  exact Nat.le_trans h (ords_len ok)
end
end Ws
set_option Elab.async false
set_option linter.all false
set_option maxRecDepth 100000
set_option maxHeartbeats 2000000
set_option autoImplicit false
namespace Ws
open PySem PySem.Spec PyProof.Rows L2
end Ws
set_option Elab.async false
set_option linter.all false
set_option maxRecDepth 100000
set_option autoImplicit false
namespace Ws
open PySem PySem.Spec PyProof.Rows L2
end Ws
set_option Elab.async false
set_option linter.all false
set_option maxRecDepth 100000
set_option autoImplicit false
namespace Ws
open PySem PySem.Spec PyProof.Rows L2
end Ws
set_option Elab.async false
set_option linter.all false
set_option maxRecDepth 100000
set_option maxHeartbeats 2000000
set_option autoImplicit false
namespace Ws
open PySem PySem.Spec PyProof.Rows L2
end Ws
set_option Elab.async false
set_option linter.all false
set_option maxRecDepth 100000
set_option maxHeartbeats 2000000
set_option autoImplicit false
namespace Ws
open PySem PySem.Spec PyProof.Rows L2
end Ws
set_option Elab.async false
set_option linter.all false
set_option maxRecDepth 100000
set_option maxHeartbeats 2000000
set_option autoImplicit false
namespace Ws
open PySem PySem.Spec PyProof.Rows L2
end Ws
set_option Elab.async false
set_option linter.all false
set_option maxRecDepth 100000
set_option maxHeartbeats 2000000
set_option autoImplicit false
namespace Ws
open PySem PySem.Spec PyProof.Rows L2
def spL (C : Cf) (L : LamV) (np : Nat) (Fn : List D → AH → Out D) : Sp := fun vs H Q E => ∃ s ds cs, s.H = H ∧ s.ρ.x = none ∧ Good C s ∧ Rs C s.F s.ρ ds vs ∧ Rs C s.F s.ρ cs L.us ∧ s.F L.c = some (LamX.CodeO L.c L.q) ∧ ds.length = np ∧ Post C (fun cls od _ H => E cls od H) [] (rD C) s Q (Fn (ds ++ cs) s.ah)
structure LamRun (P : Program) (w : World) (K : PySem.W.Frag) (mg : Str → Option Value) (base : Heap) (k : Nat) (C : Cf) (L : LamV) (np : Nat) (Fn : List D → AH → Out D) : Prop where
  obj : ∃ oc od fd sl, base.get? L.f = some ⟨oc, od, .func fd, sl⟩
  run : ∀ (A : Around) (outer : List Env) (s : Shared) (H : Hp) (us : List Value) (vs : List V) (Q : VK) (E : XK), Room k A → Env0 P w K mg base A outer s H → Vals vs us → spL C L np Fn vs H Q E → codeAny (model P w) A (.call (.ref L.f) ⟨us, []⟩) (CR (L2.CX P w) outer P w H s Q E) s
theorem LamRun.mono {P : Program} {w : World} {K : PySem.W.Frag} {mg : Str → Option Value} {base : Heap} {j k : Nat} {C : Cf} {L : LamV} {np : Nat} {Fn : List D → AH → Out D} (R : LamRun P w K mg base j C L np Fn) (h : j ≤ k) : LamRun P w K mg base k C L np Fn :=
  ⟨R.obj, fun A outer s H us vs Q E hr => R.run A outer s H us vs Q E (hr.mono h)⟩
end Ws
set_option Elab.async false
set_option linter.all false
set_option maxRecDepth 100000
set_option maxHeartbeats 2000000
set_option autoImplicit false
namespace Ws
open PySem PySem.Spec PyProof.Rows L2
def PostC (C : Cf) (W : WX) (σ : L2.St) (s : Sx) (G : Sx → List D → Prop) : Out (List D) → Prop
  | .ok ds h => ∀ s', s'.ah = h → Fwd s s' → Good C s' → G s' ds
  | .exc x h => ∀ s' od, s'.ah = h → Fwd s s' → Good C s' → XR C s' x od → W (.ref (He.ga C.K x.c)) od σ s'.H
  | .bad => False
theorem PostC.fwd {C : Cf} {W : WX} {σ : L2.St} {s t : Sx} {G : Sx → List D → Prop} {o : Out (List D)} (f : Fwd s t) (h : PostC C W σ s G o) : PostC C W σ t G o := by
  cases o with
  | ok d h' => exact fun s' e g k => h s' e (f.trans g) k
  | exc x h' => exact fun s' od e g k r => h s' od e (f.trans g) k r
  | bad => exact h
theorem Mod.up {K : PySem.W.Frag} {mg : Str → Option Value} {base base' : Heap} (m : Mod K mg base) (k : ∀ b o, base.get? b = some o → base'.get? b = some o) : Mod K mg base' :=
  ⟨m.kin.keeps k, m.glob.keeps k, let ⟨mb, h1, h2⟩ := m.blt; ⟨mb, h1.keeps k, h2⟩, m.nolimit.keeps k⟩
end Ws
set_option Elab.async false
set_option linter.all false
set_option maxRecDepth 100000
set_option maxHeartbeats 2000000
set_option autoImplicit false
namespace Ws
open PySem PySem.Spec PyProof.Rows L2
abbrev Mks := List ((Str × Option Str) × Str)
/-- the name that a lambda made there bears -/
abbrev lamQ (q : Str) : Str := q ++ ".<locals>." ++ "<lambda>"
def tabsT (K : PySem.W.Frag) (ms : Mks) : List (Addr × Str) := ms.map fun p => (tabAt K p.1, lamQ p.2)
def TabsB (K : PySem.W.Frag) (mg : Str → Option Value) (base : Heap) (ms : Mks) : Prop := ∀ p ∈ ms, LamX.TabB base mg (codeOf K p.1) (tabAt K p.1)
theorem TabsB.up {K : PySem.W.Frag} {mg : Str → Option Value} {base base' : Heap} {ms : Mks} (t : TabsB K mg base ms) (k : ∀ b o, base.get? b = some o → base'.get? b = some o) : TabsB K mg base' ms := fun p hp =>
  ⟨(t p hp).code.keeps k, (t p hp).bm.keeps k, (t p hp).gP⟩
section
variable {P : Program} {w : World} {K : PySem.W.Frag} {mg : Str → Option Value} {base : Heap} {ms : Mks} {lf : Option LamV}
abbrev cfT (P : Program) (w : World) (K : PySem.W.Frag) (ms : Mks) (lf : Option LamV) : Cf := ⟨P, w, K, tabsT K ms, lf⟩
end
end Ws
set_option Elab.async false
set_option linter.all false
set_option maxRecDepth 100000
set_option autoImplicit false
namespace Ws
open PySem
theorem o_catL (xs ys : List D) (h : AH) (hl : xs.length + ys.length ≤ 1000000) : gAdd (.lst xs) (.lst ys) h = .ok (.lst (xs ++ ys)) h := by
  unfold gAdd
  dsimp only [lstOf]
  rw [if_pos (show xs.length + ys.length ≤ lim from hl)]
end Ws
set_option Elab.async false
set_option linter.all false
set_option maxRecDepth 100000
set_option maxHeartbeats 2000000
set_option autoImplicit false
namespace Ws
open PySem PySem.Spec PyProof.Rows L2
def dropN (ps : NP) (k : NK) : NP := ps.filter fun p => decide (p.1 ≠ k)
def dropDT (kvs : List (D × D)) (k : NK) : List (D × D) := kvs.filter fun p => decide (nkOf p.1 ≠ some k)
theorem Rt.drop {C : Cf} {F : Hp} {ρ : Rho} (k : NK) : ∀ {kvs : List (D × D)} {ps : NP}, Rt C F ρ kvs ps → Rt C F ρ (dropDT kvs k) (dropN ps k)
  | [], ps, h => by unfold Rt at h; subst h; unfold dropDT dropN Rt; rfl
  | (x, d) :: r, ps, h => by
    unfold Rt at h
    obtain ⟨key, b, v, t, rfl, ek, ed, rk, rd, rr⟩ := h
    have ih := Rt.drop k rr
    unfold dropDT dropN at *
    rw [List.filter_cons, List.filter_cons]
    by_cases q : key = k
    · rw [if_neg (by simp [ek, q]), if_neg (by simp [q])]
      exact ih
    · rw [if_pos (by simp [ek, q]), if_pos (by simp [q])]
      unfold Rt
      exact ⟨key, b, v, _, rfl, ek, ed, rk, rd, ih⟩
end Ws
set_option Elab.async false
set_option linter.all false
set_option maxRecDepth 100000
set_option maxHeartbeats 2000000
set_option autoImplicit false
namespace Ws
open PySem PySem.Spec PyProof.Rows L2
end Ws
set_option Elab.async false
set_option linter.all false
set_option maxRecDepth 100000
set_option autoImplicit false
namespace Ws
open PySem
end Ws
set_option Elab.async false
set_option linter.all false
set_option maxRecDepth 100000
set_option maxHeartbeats 2000000
set_option autoImplicit false
namespace Ws
open PySem
theorem exch_isO {H : Hs} {o : List Th} (ho : IsO H o) {i : Nat} (hi : i + 1 < o.length) : IsO H (exch dft o i) := ⟨(exch_perm hi).trans ho.pm⟩
inductive Way (H : Hs) (pr : Int) (here stay : List Th → Int) : List Th → List Th → Prop where
  | end_ {o : List Th} : here o = stay o → Way H pr here stay o o
  | step {o q p : List Th} : here o ≠ stay o → (∃ i, i + 1 < o.length ∧ q = exch dft o i) → here q + pr = here o → Way H pr here stay q p → Way H pr here stay o p
theorem Way.isO {H : Hs} {pr : Int} {here stay : List Th → Int} {o p : List Th} (w : Way H pr here stay o p) : IsO H o → IsO H p := by
  induction w with
  | end_ _ => exact id
  | step _ hi _ _ ih =>
    obtain ⟨i, h1, rfl⟩ := hi
    exact fun ho => ih (exch_isO ho h1)
end Ws
set_option Elab.async false
set_option linter.all false
set_option maxRecDepth 100000
set_option maxHeartbeats 2000000
set_option autoImplicit false
namespace Ws
open PySem
end Ws
set_option Elab.async false
set_option linter.all false
set_option maxRecDepth 100000
set_option maxHeartbeats 2000000
set_option autoImplicit false
namespace Ws
open PySem PySem.Spec PyProof.Rows L2
end Ws
set_option Elab.async false
set_option linter.all false
set_option maxRecDepth 100000
set_option maxHeartbeats 1000000
set_option autoImplicit false
namespace Ws
open PySem PySem.Spec PyProof.Rows L2 RT
/-- reversed(z), the next place i -/
def IsRz (h : Heap) (a : Addr) (z : Str) (i : Int) : Prop := ∃ o u, h.get? a = some o ∧ o.cls = .type "reversed" ∧ o.data = .fields #[.str z u, rawInt i]
section
variable {prog : Program} {w : World} {A : Around} {E : Value → Shared → Prop} {s : Shared} {z : Str} {u : Tok} {a : Addr}
theorem IsRz.at {h h' : Heap} {i : Int} (x : IsRz h a z i) (e : ∀ o, h.get? a = some o → h'.get? a = some o) : IsRz h' a z i := let ⟨o, u, ho, r⟩ := x; ⟨o, u, e _ ho, r⟩
theorem IsRz.ty {i : Int} (x : IsRz s.heap a z i) : s.TypeIs (.ref a) "reversed" := let ⟨o, _, ho, hc, _⟩ := x; ⟨o, ho, hc⟩
end
end Ws
set_option Elab.async false
set_option linter.all false
set_option maxRecDepth 100000
set_option maxHeartbeats 2000000
set_option autoImplicit false
namespace Ws
open PySem
end Ws
set_option Elab.async false
set_option linter.all false
set_option maxRecDepth 100000
set_option maxHeartbeats 2000000
set_option autoImplicit false
namespace Ws
open PySem
end Ws
set_option Elab.async false
set_option linter.all false
set_option maxRecDepth 100000
set_option maxHeartbeats 2000000
set_option autoImplicit false
namespace Ws
open PySem
end Ws
set_option Elab.async false
set_option linter.all false
set_option maxRecDepth 100000
set_option maxHeartbeats 2000000
set_option autoImplicit false
namespace Ws
open PySem
theorem trim_to {js : List Nat} {σ τ : Sl} {h : AH} (e : wipeD σ js = τ) (p : pureSl 0 τ = true) : trim 0 js σ h = .ok τ [] := by
  unfold trim
  rw [e, if_pos ⟨p, rfl⟩]
  rfl
end Ws
set_option Elab.async false
set_option linter.all false
set_option maxRecDepth 100000
set_option maxHeartbeats 2000000
set_option autoImplicit false
namespace Ws
open PySem
end Ws
set_option Elab.async false
set_option linter.all false
set_option maxRecDepth 100000
set_option maxHeartbeats 2000000
set_option autoImplicit false
namespace Ws
open PySem PySem.Spec PyProof.Rows L2
end Ws
set_option Elab.async false
set_option linter.all false
set_option maxRecDepth 100000
set_option maxHeartbeats 2000000
set_option autoImplicit false
namespace Ws
open PySem
end Ws
set_option Elab.async false
set_option linter.all false
set_option maxRecDepth 100000
set_option maxHeartbeats 2000000
set_option autoImplicit false
namespace Ws
open PySem
end Ws
set_option Elab.async false
set_option linter.all false
set_option maxRecDepth 100000
set_option maxHeartbeats 2000000
set_option autoImplicit false
namespace Ws
open PySem PySem.Spec PyProof.Rows L2
open PySem.W (alike dataLt rcLt_alike)
end Ws
set_option Elab.async false
set_option linter.all false
set_option maxRecDepth 100000
set_option maxHeartbeats 2000000
set_option autoImplicit false
namespace Ws
open PySem PySem.Spec PyProof.Rows L2
def keyY (r : List Nat) : PyData := .tuple [.int (r.length : Nat), .str (mkS r)]
def ltR (r s : List Nat) : Bool := PySem.W.dataLt (keyY r) (keyY s)
abbrev Sp := List Nat × (Nat → List Nat)
def setS (f : Nat → List Nat) (p : Nat) (r : List Nat) : Nat → List Nat := fun q => if q = p then r else f q
def updS (S : Sp) (p : Nat) (r : List Nat) : Sp := if p ∈ S.1 then (if ltR r (S.2 p) = true then (S.1, setS S.2 p r) else S) else (S.1 ++ [p], setS S.2 p r)
/-- what holds of the places found -/
structure SpOk (H : Hs) (S : Sp) : Prop where
  nd : S.1.Nodup
  lt : ∀ p ∈ S.1, p < H.things.length
  rw' : ∀ p ∈ S.1, (S.2 p).length ≤ 823543 ∧ ∀ c ∈ S.2 p, c ∈ wishesS H
theorem SpOk.nil (H : Hs) : SpOk H ([], fun _ => []) := ⟨.nil, (fun _ z => nomatch z), fun _ z => nomatch z⟩
theorem SpOk.len {H : Hs} {S : Sp} (h : SpOk H S) : S.1.length ≤ H.things.length := by
  have := nodup_len (l := S.1) (m := List.range H.things.length) h.nd fun p hp => List.mem_range.mpr (h.lt p hp)
  rwa [List.length_range] at this
theorem SpOk.upd {H : Hs} {S : Sp} (h : SpOk H S) {p : Nat} (hp : p < H.things.length) {r : List Nat} (hr : r.length ≤ 823543 ∧ ∀ c ∈ r, c ∈ wishesS H) : SpOk H (updS S p r) := by
  have st : ∀ q, (q ∈ S.1 ∨ q = p) → (setS S.2 p r q).length ≤ 823543 ∧ ∀ c ∈ setS S.2 p r q, c ∈ wishesS H := fun q hq => by
    unfold setS
    by_cases e : q = p
    · rw [if_pos e]; exact hr
    · rw [if_neg e]
      rcases hq with z | z
      · exact h.rw' q z
      · exact absurd z e
  unfold updS
  by_cases m : p ∈ S.1
  · rw [if_pos m]
    by_cases l : ltR r (S.2 p) = true
    · rw [if_pos l]
      exact ⟨h.nd, h.lt, fun q hq => st q (.inl hq)⟩
    · rw [if_neg l]; exact h
  · rw [if_neg m]
    refine ⟨?_, fun q hq => ?_, fun q hq => ?_⟩
    · rw [List.nodup_append]
      refine ⟨h.nd, by simp, fun x hx y hy e => ?_⟩
      rw [List.mem_singleton] at hy
      subst e hy
      exact m hx
    · rcases List.mem_append.mp hq with z | z
      · exact h.lt q z
      · rw [List.mem_singleton] at z; subst z; exact hp
    · rcases List.mem_append.mp hq with z | z
      · exact st q (.inl z)
      · rw [List.mem_singleton] at z; exact st q (.inr z)
end Ws
set_option Elab.async false
set_option linter.all false
set_option maxRecDepth 100000
set_option maxHeartbeats 2000000
set_option autoImplicit false
namespace Ws
open PySem PySem.Spec PyProof.Rows L2
def slR (r s : List Nat) : Prop := r.length < s.length ∨ (r.length = s.length ∧ r < s)
theorem lt_app : ∀ {a b : List Nat}, a.length = b.length → a < b → ∀ x y : List Nat, a ++ x < b ++ y
  | [], [], _, h, _, _ => absurd h (List.lt_irrefl _)
  | [], _ :: _, e, _, _, _ => by simp at e
  | _ :: _, [], e, _, _, _ => by simp at e
  | p :: a, q :: b, e, h, x, y => by
    rw [List.cons_append, List.cons_append, List.cons_lt_cons_iff]
    rcases List.cons_lt_cons_iff.mp h with z | ⟨z1, z2⟩
    · exact .inl z
    · exact .inr ⟨z1, lt_app (by simpa using e) z2 x y⟩
theorem lt_pre : ∀ (a : List Nat) {x y : List Nat}, x < y → a ++ x < a ++ y
  | [], _, _, h => h
  | p :: a, x, y, h => by
    rw [List.cons_append, List.cons_append, List.cons_lt_cons_iff]
    exact .inr ⟨rfl, lt_pre a h⟩
theorem slx_irr (r : List Nat) : ¬ slR r r := fun h => by
  rcases h with h | ⟨_, h⟩
  · exact Nat.lt_irrefl _ h
  · exact List.lt_irrefl _ h
theorem slx_trans {r s t : List Nat} (h1 : slR r s) (h2 : slR s t) : slR r t := by
  rcases h1 with a | ⟨a, a'⟩ <;> rcases h2 with b | ⟨b, b'⟩
  · exact .inl (Nat.lt_trans a b)
  · exact .inl (by omega)
  · exact .inl (by omega)
  · exact .inr ⟨a.trans b, List.lt_trans a' b'⟩
theorem slx_tri (r s : List Nat) : slR r s ∨ r = s ∨ slR s r := by
  rcases Nat.lt_trichotomy r.length s.length with h | h | h
  · exact .inl (.inl h)
  · by_cases a : r < s
    · exact .inl (.inr ⟨h, a⟩)
    · by_cases b : s < r
      · exact .inr (.inr (.inr ⟨h.symm, b⟩))
      · exact .inr (.inl (List.le_antisymm (List.not_lt.mp b) (List.not_lt.mp a)))
  · exact .inr (.inr (.inl h))
theorem slx_snoc (v : List Nat) (d : Nat) : slR v (v ++ [d]) := .inl (by simp)
theorem slx_app {r v : List Nat} (h : slR r v) (d e : Nat) : slR (r ++ [d]) (v ++ [e]) := by
  rcases h with a | ⟨a, b⟩
  · exact .inl (by simpa using a)
  · exact .inr ⟨by simpa using a, lt_app a b _ _⟩
theorem slx_last (r : List Nat) {d e : Nat} (h : d < e) : slR (r ++ [d]) (r ++ [e]) := .inr ⟨by simp, lt_pre r (List.cons_lt_cons_iff.mpr (.inl h))⟩
def endR (H : Hs) (o : List Th) (r : List Nat) : List Th := r.foldl (aft H) o
theorem end_snoc (H : Hs) (o : List Th) (r : List Nat) (c : Nat) : endR H o (r ++ [c]) = aft H (endR H o r) c := by
  unfold endR
  rw [List.foldl_append]
  rfl
theorem end_app (H : Hs) (o : List Th) (r s : List Nat) : endR H o (r ++ s) = endR H (endR H o r) s := by
  unfold endR
  rw [List.foldl_append]
theorem end_isO {H : Hs} : ∀ (r : List Nat) {o : List Th}, IsO H o → IsO H (endR H o r)
  | [], _, h => h
  | c :: r, o, h => end_isO r (o := aft H o c) (aft_isO h c)
def overW (H : Hs) (r : List Nat) : Prop := ∀ c ∈ r, c ∈ wishesS H
theorem wish_up (H : Hs) : (wishesS H).Pairwise (· < ·) := by
  unfold wishesS
  refine List.pairwise_cons.mpr ⟨fun c hc => ?_, letters_lt H⟩
  have : c ∈ alpha := (List.mem_filter.mp hc).1
  have h : (alpha.all fun c => decide (45 < c)) = true := by decide +kernel
  exact of_decide_eq_true (List.all_eq_true.mp h c this)
/-- r is the first of the shortest rows from o to what is wanted -/
def LeastR (H : Hs) (o : List Th) (p : List Th → Bool) (r : List Nat) : Prop := overW H r ∧ p (endR H o r) = true ∧ ∀ s, overW H s → p (endR H o s) = true → ¬ slR s r
theorem slx_pre {x r s : List Nat} (h : slR r s) : slR (x ++ r) (x ++ s) := by
  rcases h with a | ⟨a, b⟩
  · exact .inl (by rw [List.length_append, List.length_append]; omega)
  · exact .inr ⟨by rw [List.length_append, List.length_append, a], lt_pre x b⟩
/-- the rest of such a row is such a row -/
theorem LeastR.drop {H : Hs} {o : List Th} {p : List Th → Bool} {r : List Nat} (h : LeastR H o p r) (n : Nat) : LeastR H (endR H o (r.take n)) p (r.drop n) := by
  refine ⟨fun c hc => h.1 c (List.mem_of_mem_drop hc), ?_, fun s hs ps z => ?_⟩
  · rw [← end_app, List.take_append_drop]; exact h.2.1
  · refine h.2.2 (r.take n ++ s) (fun c hc => ?_) (by rw [end_app]; exact ps) ?_
    · rcases List.mem_append.mp hc with y | y
      · exact h.1 c (List.mem_of_mem_take y)
      · exact hs c y
    · have := slx_pre (x := r.take n) z
      rwa [List.take_append_drop] at this
section
variable {H : Hs} {o0 : List Th}
theorem findR_app {rows : Rw} {b : List Th} (z : List Th × List Nat) (h : inR rows b = true) : findR (rows ++ [z]) b = findR rows b := by
  unfold inR at h
  unfold findR at h ⊢
  rw [List.find?_append]
  cases e : rows.find? fun q => decide (okey q.1 = okey b) with
  | none => rw [e] at h; cases h
  | some y => rfl
theorem rowR_app {rows : Rw} {b : List Th} (z : List Th × List Nat) (h : inR rows b = true) : rowR (rows ++ [z]) b = rowR rows b := by
  unfold rowR
  rw [findR_app z h]
theorem rowR_new {rows : Rw} {a : List Th} {t : List Nat} (h : inR rows a = false) : rowR (rows ++ [(a, t)]) a = t := by
  unfold inR at h
  unfold rowR findR at *
  rw [List.find?_append]
  cases e : rows.find? fun q => decide (okey q.1 = okey a) with
  | some y => rw [e] at h; cases h
  | none =>
    rw [List.find?_cons, decide_eq_true rfl]
    rfl
/-- the rows found: each leads there, and is the first of the shortest that do -/
structure Rows1 (H : Hs) (o0 : List Th) (rows : Rw) : Prop where
  io : ∀ q ∈ rows, IsO H q.1
  st : inR rows o0 = true
  at_ : ∀ a, IsO H a → inR rows a = true → overW H (rowR rows a) ∧ endR H o0 (rowR rows a) = a ∧ ∀ s, overW H s → endR H o0 s = a → ¬ slR s (rowR rows a)
def closedR (H : Hs) (rows : Rw) (b : List Th) : Prop := ∀ d ∈ wishesS H, inR rows (aft H b d) = true
structure Pre (H : Hs) (o0 : List Th) (rows : Rw) (layer : List (List Th)) (k : Nat) : Prop where
  r1 : Rows1 H o0 rows
  lay : ∀ a ∈ layer, IsO H a ∧ inR rows a = true ∧ (rowR rows a).length = k
  old : ∀ a, IsO H a → inR rows a = true → a ∈ layer ∨ (closedR H rows a ∧ (rowR rows a).length < k)
  asc : layer.Pairwise fun a b => rowR rows a < rowR rows b
abbrev Cand := List Th × Nat
def cands (H : Hs) (layer : List (List Th)) : List Cand := layer.flatMap fun o => (wishesS H).map fun c => (o, c)
def tC (rows : Rw) (p : Cand) : List Nat := rowR rows p.1 ++ [p.2]
theorem cands_asc {rows : Rw} {layer : List (List Th)} {k : Nat} (P : Pre H o0 rows layer k) : (cands H layer).Pairwise fun p q => slR (tC rows p) (tC rows q) := by
  unfold cands
  rw [List.pairwise_flatMap]
  refine ⟨fun o _ => List.pairwise_map.mpr ((wish_up H).imp fun h => slx_last _ h), ?_⟩
  refine P.asc.imp_of_mem fun {a b} ha hb h x hx y hy => ?_
  obtain ⟨c, _, rfl⟩ := List.mem_map.mp hx
  obtain ⟨d, _, rfl⟩ := List.mem_map.mp hy
  exact slx_app (.inr ⟨by rw [(P.lay a ha).2.2, (P.lay b hb).2.2], h⟩) c d
/-- while a layer's candidates are gone through: C1, those done -/
structure Mid (H : Hs) (o0 : List Th) (rows0 : Rw) (k : Nat) (C1 : List Cand) (st : Bs) : Prop where
  r1 : Rows1 H o0 st.1
  ext : ∀ a, inR rows0 a = true → inR st.1 a = true ∧ rowR st.1 a = rowR rows0 a
  cl : ∀ a, IsO H a → inR st.1 a = true → inR rows0 a = true ∨ a ∈ st.2
  done : ∀ p ∈ C1, inR st.1 (aft H p.1 p.2) = true
  fo : ∀ a ∈ st.2, IsO H a ∧ inR st.1 a = true ∧ ∃ p ∈ C1, rowR st.1 a = tC rows0 p
  asc : st.2.Pairwise fun a b => rowR st.1 a < rowR st.1 b
theorem inR_new (ok : H.Ok) {rows : Rw} {a b : List Th} {t : List Nat} (ha : IsO H a) (hb : IsO H b) (h : inR (rows ++ [(a, t)]) b = true) : inR rows b = true ∨ b = a := by
  obtain ⟨q, hq, e⟩ := inR_iff.mp h
  rcases List.mem_append.mp hq with z | z
  · exact .inl (inR_iff.mpr ⟨q, z, e⟩)
  · rw [List.mem_singleton] at z
    subst z
    exact .inr (okey_inj ok ha hb e).symm
theorem Mid.step (ok : H.Ok) (ho : IsO H o0) {rows0 : Rw} {layer : List (List Th)} {k : Nat} (P : Pre H o0 rows0 layer k) {C1 C2 : List Cand} {p : Cand} (eC : cands H layer = C1 ++ p :: C2) {st : Bs} (M : Mid H o0 rows0 k C1 st) : Mid H o0 rows0 k (C1 ++ [p]) (turnB H p.1 st p.2) := by
  have hp : p ∈ cands H layer := by rw [eC]; exact List.mem_append_right _ List.mem_cons_self
  have hpl : p.1 ∈ layer ∧ p.2 ∈ wishesS H := by
    unfold cands at hp
    obtain ⟨o, h1, h2⟩ := List.mem_flatMap.mp hp
    obtain ⟨c, h3, h4⟩ := List.mem_map.mp h2
    rw [← h4]
    exact ⟨h1, h3⟩
  have io := (P.lay p.1 hpl.1).1
  have ia := aft_isO io p.2
  have asc := cands_asc P
  rw [eC, List.pairwise_append, List.pairwise_cons] at asc
  obtain ⟨_, ⟨a2, _⟩, a3⟩ := asc
  have er : rowR st.1 p.1 = rowR rows0 p.1 := (M.ext p.1 (P.lay p.1 hpl.1).2.1).2
  have tl : (tC rows0 p).length = k + 1 := by
    unfold tC
    rw [List.length_append, (P.lay p.1 hpl.1).2.2]
    rfl
  unfold turnB
  by_cases hin : inR st.1 (aft H p.1 p.2) = true
  · rw [if_pos hin]
    refine ⟨M.r1, M.ext, M.cl, fun q hq => ?_, fun a ha => ?_, M.asc⟩
    · rcases List.mem_append.mp hq with z | z
      · exact M.done q z
      · rw [List.mem_singleton] at z; rw [z]; exact hin
    · obtain ⟨x1, x2, q, hq, e⟩ := M.fo a ha
      exact ⟨x1, x2, q, List.mem_append_left _ hq, e⟩
  · rw [if_neg hin]
    have hin' : inR st.1 (aft H p.1 p.2) = false := by simpa using hin
    have et : rowR st.1 p.1 ++ [p.2] = tC rows0 p := by unfold tC; rw [er]
    rw [et]
    -- all lesser rows lead to what stands there
    have lem : ∀ (n : Nat) (u : List Nat), u.length = n → overW H u → slR u (tC rows0 p) → inR st.1 (endR H o0 u) = true := by
      intro n
      induction n with
      | zero =>
        intro u hu _ _
        rw [List.length_eq_zero_iff.mp hu]
        exact M.r1.st
      | succ n ih =>
        intro u hu hW hs
        have ne : u ≠ [] := fun z => by rw [z] at hu; cases hu
        obtain ⟨v, d, rfl⟩ : ∃ v d, u = v ++ [d] := ⟨u.dropLast, u.getLast ne, (List.dropLast_concat_getLast ne).symm⟩
        have lv : v.length = n := by simpa using hu
        have vW : overW H v := fun c hc => hW c (List.mem_append_left _ hc)
        have dW : d ∈ wishesS H := hW d (List.mem_append_right _ (List.mem_singleton.mpr rfl))
        have hb := ih v lv vW (slx_trans (slx_snoc v d) hs)
        have ib := end_isO (H := H) v ho
        obtain ⟨w1, w2, w3⟩ := M.r1.at_ _ ib hb
        have w4 := w3 v vW rfl
        have le : slR (rowR st.1 (endR H o0 v) ++ [d]) (tC rows0 p) := by
          rcases slx_tri (rowR st.1 (endR H o0 v)) v with z | z | z
          · exact slx_trans (slx_app z d d) hs
          · rw [z]; exact hs
          · exact absurd z w4
        rw [end_snoc]
        rcases M.cl _ ib hb with z | z
        · rcases P.old _ ib z with y | y
          · have hc : (endR H o0 v, d) ∈ cands H layer := List.mem_flatMap.mpr ⟨_, y, List.mem_map.mpr ⟨d, dW, rfl⟩⟩
            have e2 : tC rows0 (endR H o0 v, d) = rowR st.1 (endR H o0 v) ++ [d] := by
              unfold tC
              rw [(M.ext _ z).2]
            rw [eC] at hc
            rcases List.mem_append.mp hc with x | x
            · exact M.done _ x
            · rw [← e2] at le
              rcases List.mem_cons.mp x with x | x
              · rw [x] at le; exact absurd le (slx_irr _)
              · exact absurd (slx_trans le (a2 _ x)) (slx_irr _)
          · exact (M.ext _ (y.1 d dW)).1
        · obtain ⟨_, _, q, hq, e⟩ := M.fo _ z
          have lq : (rowR st.1 (endR H o0 v)).length = k + 1 := by
            rw [e]
            have hq' : q ∈ cands H layer := by rw [eC]; exact List.mem_append_left _ hq
            unfold cands at hq'
            obtain ⟨o, h1, h2⟩ := List.mem_flatMap.mp hq'
            obtain ⟨c, h3, rfl⟩ := List.mem_map.mp h2
            unfold tC
            rw [List.length_append, (P.lay o h1).2.2]
            rfl
          exfalso
          rcases le with x | ⟨x, _⟩
          · rw [List.length_append, lq, tl] at x
            simp at x
            omega
          · rw [List.length_append, lq, tl] at x
            simp at x
    have new : ∀ s, overW H s → endR H o0 s = aft H p.1 p.2 → ¬ slR s (tC rows0 p) := fun s hs e z => by
      have := lem s.length s rfl hs z
      rw [e] at this
      exact hin this
    have tW : overW H (tC rows0 p) := fun c hc => by
      unfold tC at hc
      rcases List.mem_append.mp hc with z | z
      · exact (P.r1.at_ p.1 io (P.lay p.1 hpl.1).2.1).1 c z
      · rw [List.mem_singleton] at z; rw [z]; exact hpl.2
    have tE : endR H o0 (tC rows0 p) = aft H p.1 p.2 := by
      unfold tC
      rw [end_snoc, (P.r1.at_ p.1 io (P.lay p.1 hpl.1).2.1).2.1]
    have newIn : inR (st.1 ++ [(aft H p.1 p.2, tC rows0 p)]) (aft H p.1 p.2) = true := inR_iff.mpr ⟨_, List.mem_append_right _ (List.mem_singleton.mpr rfl), rfl⟩
    refine ⟨⟨fun q hq => ?_, inR_app _ M.r1.st, fun a ia2 ha => ?_⟩, fun a ha => ?_, fun a ia2 ha => ?_, fun q hq => ?_, fun a ha => ?_, ?_⟩
    · rcases List.mem_append.mp hq with z | z
      · exact M.r1.io q z
      · rw [List.mem_singleton] at z; rw [z]; exact ia
    · rcases inR_new ok ia ia2 ha with z | z
      · rw [rowR_app _ z]; exact M.r1.at_ a ia2 z
      · subst z
        rw [rowR_new hin']
        exact ⟨tW, tE, new⟩
    · obtain ⟨x, y⟩ := M.ext a ha
      exact ⟨inR_app _ x, by rw [rowR_app _ x]; exact y⟩
    · rcases inR_new ok ia ia2 ha with z | z
      · rcases M.cl a ia2 z with y | y
        · exact .inl y
        · exact .inr (List.mem_append_left _ y)
      · exact .inr (List.mem_append_right _ (by rw [z]; exact List.mem_singleton.mpr rfl))
    · rcases List.mem_append.mp hq with z | z
      · exact inR_app _ (M.done q z)
      · rw [List.mem_singleton] at z; rw [z]; exact newIn
    · rcases List.mem_append.mp ha with z | z
      · obtain ⟨x1, x2, q, hq, e⟩ := M.fo a z
        exact ⟨x1, inR_app _ x2, q, List.mem_append_left _ hq, by rw [rowR_app _ x2]; exact e⟩
      · rw [List.mem_singleton] at z
        subst z
        exact ⟨ia, newIn, p, List.mem_append_right _ (List.mem_singleton.mpr rfl), rowR_new hin'⟩
    · refine List.pairwise_append.mpr ⟨M.asc.imp_of_mem fun {a b} ha hb h => ?_, by simp, fun a ha b hb => ?_⟩
      · rw [rowR_app _ (M.fo a ha).2.1, rowR_app _ (M.fo b hb).2.1]; exact h
      · rw [List.mem_singleton] at hb
        subst hb
        obtain ⟨x1, x2, q, hq, e⟩ := M.fo a ha
        rw [rowR_app _ x2, rowR_new hin', e]
        rcases a3 q hq p List.mem_cons_self with z | ⟨_, z⟩
        · have lq : (tC rows0 q).length = k + 1 := by
            have hq' : q ∈ cands H layer := by rw [eC]; exact List.mem_append_left _ hq
            unfold cands at hq'
            obtain ⟨o, h1, h2⟩ := List.mem_flatMap.mp hq'
            obtain ⟨c, h3, rfl⟩ := List.mem_map.mp h2
            unfold tC
            rw [List.length_append, (P.lay o h1).2.2]
            rfl
          omega
        · exact z
theorem Mid.all (ok : H.Ok) (ho : IsO H o0) {rows0 : Rw} {layer : List (List Th)} {k : Nat} (P : Pre H o0 rows0 layer k) : ∀ (C2 C1 : List Cand) (st : Bs), cands H layer = C1 ++ C2 → Mid H o0 rows0 k C1 st → Mid H o0 rows0 k (C1 ++ C2) (C2.foldl (fun st p => turnB H p.1 st p.2) st)
  | [], C1, st, _, M => by rw [List.append_nil]; exact M
  | p :: C2, C1, st, e, M => by
    have := Mid.all ok ho P C2 (C1 ++ [p]) _ (by rw [e, List.append_assoc]; rfl) (M.step ok ho P e)
    rw [List.append_assoc] at this
    exact this
theorem Pre.start {o0 : List Th} (ho : IsO H o0) (ok : H.Ok) : Pre H o0 [(o0, [])] [o0] 0 := by
  have e : rowR [(o0, [])] o0 = [] := by
    unfold rowR findR
    rw [List.find?_cons, decide_eq_true rfl]
    rfl
  have i : inR [(o0, [])] o0 = true := inR_iff.mpr ⟨_, List.mem_singleton.mpr rfl, rfl⟩
  have only : ∀ a, IsO H a → inR [(o0, [])] a = true → a = o0 := fun a ia h => by
    obtain ⟨q, hq, k⟩ := inR_iff.mp h
    rw [List.mem_singleton] at hq
    subst hq
    exact (okey_inj ok ho ia k).symm
  refine ⟨⟨fun q hq => by rw [List.mem_singleton] at hq; subst hq; exact ho, i, fun a ia h => ?_⟩, fun a ha => ?_, fun a ia h => .inl (by rw [only a ia h]; exact List.mem_singleton.mpr rfl), by simp⟩
  · rw [only a ia h, e]
    refine ⟨(fun _ z => nomatch z), rfl, fun s _ _ z => ?_⟩
    rcases z with z | ⟨z, z2⟩
    · exact absurd z (Nat.not_lt_zero _)
    · rw [List.length_eq_zero_iff.mp z] at z2; exact List.lt_irrefl _ z2
  · rw [List.mem_singleton] at ha
    subst ha
    exact ⟨ho, i, by rw [e]; rfl⟩
end
end Ws
set_option Elab.async false
set_option linter.all false
set_option maxRecDepth 100000
set_option maxHeartbeats 2000000
set_option autoImplicit false
namespace Ws
open PySem PySem.Spec PyProof.Rows L2
section
variable {H : Hs} {o0 : List Th} {p : List Th → Bool}
theorem Pre.near (ho : IsO H o0) {rows : Rw} {layer : List (List Th)} {k : Nat} (P : Pre H o0 rows layer k) : ∀ (n : Nat) (u : List Nat), u.length = n → n ≤ k → overW H u → inR rows (endR H o0 u) = true := by
  intro n
  induction n with
  | zero =>
    intro u hu _ _
    rw [List.length_eq_zero_iff.mp hu]
    exact P.r1.st
  | succ n ih =>
    intro u hu hk hW
    have ne : u ≠ [] := fun z => by rw [z] at hu; cases hu
    obtain ⟨v, d, rfl⟩ : ∃ v d, u = v ++ [d] := ⟨u.dropLast, u.getLast ne, (List.dropLast_concat_getLast ne).symm⟩
    have lv : v.length = n := by simpa using hu
    have vW : overW H v := fun c hc => hW c (List.mem_append_left _ hc)
    have hb := ih v lv (by omega) vW
    have ib := end_isO (H := H) v ho
    have w3 := (P.r1.at_ _ ib hb).2.2 v vW rfl
    have ll : (rowR rows (endR H o0 v)).length ≤ n := by
      rw [← lv]
      exact Nat.not_lt.mp fun z => w3 (.inl z)
    rw [end_snoc]
    rcases P.old _ ib hb with y | y
    · have := (P.lay _ y).2.2
      omega
    · exact y.1 d (hW d (List.mem_append_right _ (List.mem_singleton.mpr rfl)))
end
end Ws
set_option Elab.async false
set_option linter.all false
set_option maxRecDepth 100000
set_option maxHeartbeats 2000000
set_option autoImplicit false
namespace Ws
open PySem PySem.Spec PyProof.Rows L2
end Ws
set_option Elab.async false
set_option linter.all false
set_option maxRecDepth 100000
set_option maxHeartbeats 2000000
set_option autoImplicit false
namespace Ws
open PySem PySem.Spec PyProof.Rows L2
open PySem.W (alike dataLt minD AlikeAll)
end Ws
set_option Elab.async false
set_option linter.all false
set_option maxRecDepth 100000
set_option maxHeartbeats 2000000
set_option autoImplicit false
namespace Ws
open PySem PySem.Spec PyProof.Rows L2
end Ws
set_option Elab.async false
set_option linter.all false
set_option maxRecDepth 100000
set_option maxHeartbeats 2000000
set_option autoImplicit false
namespace Ws
open PySem PySem.Spec PyProof.Rows L2
end Ws
set_option Elab.async false
set_option linter.all false
set_option maxRecDepth 100000
set_option maxHeartbeats 2000000
set_option autoImplicit false
namespace Ws
open PySem PySem.Spec PyProof.Rows L2
open Sem (wp)
end Ws
set_option Elab.async false
set_option linter.all false
set_option maxRecDepth 100000
set_option maxHeartbeats 2000000
set_option autoImplicit false
namespace Ws
open PySem PySem.Spec PyProof.Rows L2
end Ws
set_option Elab.async false
set_option linter.all false
set_option maxRecDepth 100000
set_option maxHeartbeats 2000000
set_option autoImplicit false
namespace Ws
open PySem PySem.Spec PyProof.Rows L2
abbrev Wc := List (List Th × Int)
def findW (W : Wc) (a : List Th) : Option (List Th × Int) := W.find? fun q => decide (okey q.1 = okey a)
def inW (W : Wc) (a : List Th) : Bool := (findW W a).isSome
def setW (W : Wc) (a : List Th) (v : Int) : Wc := if inW W a = true then W.map (fun q => if okey q.1 = okey a then (q.1, v) else q) else W ++ [(a, v)]
theorem inW_iff {W : Wc} {a : List Th} : inW W a = true ↔ ∃ q ∈ W, okey q.1 = okey a := by
  unfold inW findW
  rw [List.find?_isSome]
  simp only [decide_eq_true_eq]
structure WcOk (H : Hs) (W : Wc) : Prop where
  io : ∀ q ∈ W, IsO H q.1
  nd : (W.map fun q => okey q.1).Nodup
  ps : ∀ q ∈ W, 1 ≤ q.2
theorem WcOk.nil (H : Hs) : WcOk H [] := ⟨(fun _ z => nomatch z), .nil, fun _ z => nomatch z⟩
section
variable {H : Hs} {W R : Wc} {a b : List Th}
theorem WcOk.len (ok : H.Ok) (h : WcOk H W) : W.length ≤ (ordersS H).length := by
  have : (W.map (·.1)).length ≤ (ordersS H).length := nodup_len (by
      have := h.nd
      exact List.Pairwise.of_map (S := fun x y : NK => x ≠ y) okey (fun a b hne e => hne (congrArg okey e)) (by rw [List.map_map]; exact this)) fun o ho => by
    obtain ⟨q, hq, rfl⟩ := List.mem_map.mp ho
    exact (mem_orders ok).mpr (h.io q hq)
  rwa [List.length_map] at this
theorem setW_keys {v : Int} : (setW W a v).map (fun q => okey q.1) = if inW W a = true then W.map (fun q => okey q.1) else W.map (fun q => okey q.1) ++ [okey a] := by
  unfold setW
  by_cases h : inW W a = true
  · rw [if_pos h, if_pos h, List.map_map]
    refine List.map_congr_left fun q _ => ?_
    show okey (if okey q.1 = okey a then (q.1, v) else q).1 = okey q.1
    split <;> rfl
  · rw [if_neg h, if_neg h, List.map_append]
    rfl
theorem inW_keys {W : Wc} {b : List Th} : inW W b = true ↔ okey b ∈ W.map fun q => okey q.1 := by
  rw [inW_iff, List.mem_map]
theorem WcOk.set (h : WcOk H W) (ia : IsO H a) {v : Int} (hv : 1 ≤ v) : WcOk H (setW W a v) := by
  refine ⟨fun q hq => ?_, ?_, fun q hq => ?_⟩
  · unfold setW at hq
    split at hq
    · obtain ⟨p, hp, rfl⟩ := List.mem_map.mp hq
      split
      · exact h.io p hp
      · exact h.io p hp
    · rcases List.mem_append.mp hq with z | z
      · exact h.io q z
      · rw [List.mem_singleton.mp z]; exact ia
  · rw [setW_keys]
    split
    · exact h.nd
    · rename_i n
      refine List.nodup_append.mpr ⟨h.nd, by simp, fun x hx y hy e => ?_⟩
      rw [List.mem_singleton] at hy
      subst hy
      subst e
      exact n (inW_keys.mpr hx)
  · unfold setW at hq
    split at hq
    · obtain ⟨p, hp, rfl⟩ := List.mem_map.mp hq
      split
      · exact hv
      · exact h.ps p hp
    · rcases List.mem_append.mp hq with z | z
      · exact h.ps q z
      · rw [List.mem_singleton.mp z]; exact hv
end
end Ws
set_option Elab.async false
set_option linter.all false
set_option maxRecDepth 100000
set_option maxHeartbeats 2000000
set_option autoImplicit false
namespace Ws
open PySem PySem.Spec PyProof.Rows L2
abbrev Kn := List (List Th × Nat)
structure KnOk (H : Hs) (m : Kn) : Prop where
  io : ∀ q ∈ m, IsO H q.1 ∧ q.2 ∈ wishesS H
  nd : m.Nodup
theorem KnOk.nil (H : Hs) : KnOk H [] := ⟨(fun _ z => nomatch z), .nil⟩
section
variable {H : Hs} (ok : H.Ok) {m : Kn} (k : KnOk H m) {a : List Th} (ia : IsO H a) {c : Nat}
include ok k ia
omit ia in
theorem KnOk.len : m.length ≤ (ordersS H).length * (wishesS H).length := by
  have := nodup_len (l := m) (m := (ordersS H).flatMap fun o => (wishesS H).map fun c => (o, c)) k.nd fun q hq => by
    obtain ⟨h1, h2⟩ := k.io q hq
    exact List.mem_flatMap.mpr ⟨q.1, (mem_orders ok).mpr h1, List.mem_map.mpr ⟨q.2, h2, rfl⟩⟩
  refine Nat.le_trans this (Nat.le_of_eq ?_)
  rw [List.length_flatMap]
  have : ∀ os : List (List Th), (os.map fun o => ((wishesS H).map fun c => (o, c)).length).sum = os.length * (wishesS H).length := fun os => by
    induction os with
    | nil => simp
    | cons o os ih => rw [List.map_cons, List.sum_cons, ih, List.length_map, List.length_cons, Nat.succ_mul, Nat.add_comm]
  exact this _
end
end Ws
set_option Elab.async false
set_option linter.all false
set_option maxRecDepth 100000
set_option maxHeartbeats 2000000
set_option autoImplicit false
namespace Ws
open PySem PySem.Spec PyProof.Rows L2
theorem forGo_go {t : Tg} {m : SM} {d : D} {ds : List D} {σ σ' : Sl} {h h' : AH} (e : turnS t m d σ h = .nx σ' h') : forGo keepAll t m (d :: ds) σ h = forGo keepAll t m ds σ' h' := by
  unfold turnS at e
  show (match t d σ h with
    | .ok σ1 h1 => (match m σ1 h1 with
      | .nx σ2 h2 => (match keepAll σ2 h2 with
        | .ok σ3 h3 => forGo keepAll t m ds σ3 h3
        | _ => .bad)
      | .ct σ2 h2 => (match keepAll σ2 h2 with
        | .ok σ3 h3 => forGo keepAll t m ds σ3 h3
        | _ => .bad)
      | .bk σ2 h2 => .nx σ2 h2
      | o => o)
    | _ => .bad) = _
  split at e
  · rename_i σ1 h1 q
    try rw [q]
    try dsimp only
    rw [e]
    rfl
  · cases e
end Ws
set_option Elab.async false
set_option linter.all false
set_option maxRecDepth 100000
set_option maxHeartbeats 3200000
set_option autoImplicit false
namespace Ws
open PySem PySem.Spec PyProof.Rows L2
end Ws
set_option Elab.async false
set_option linter.all false
set_option maxRecDepth 100000
set_option maxHeartbeats 2000000
set_option autoImplicit false
namespace Ws
open PySem PySem.Spec PyProof.Rows L2
def hasTD (ds : List D) (k : NK) : Bool := ds.any fun d => decide (nkOf d = some k)
section
variable {C : Cf} {F : Hp} {ρ : Rho}
theorem Rn.any {k : NK} : ∀ {ds : List D} {L : NR}, Rn C F ρ ds L → (L.any fun p => decide (p.1 = k)) = hasTD ds k
  | [], _, h => by unfold Rn at h; subst h; rfl
  | d :: ds, _, h => by
    unfold Rn at h
    obtain ⟨key, b, r, rfl, ek, ed, rk, hr⟩ := h
    unfold hasTD
    rw [List.any_cons, List.any_cons, Rn.any hr]
    unfold hasTD
    rw [ek]
    congr 1
    by_cases q : key = k
    · rw [decide_eq_true q, decide_eq_true (congrArg some q)]
    · rw [decide_eq_false q, decide_eq_false fun z => q (Option.some.inj z)]
theorem Rn.snoc {k : NK} {y : D} {b : Addr} (ek : nkOf y = some k) (ed : k.depth ≤ 8) (rk : R C F ρ y (.ref b)) : ∀ {ds : List D} {L : NR}, Rn C F ρ ds L → Rn C F ρ (ds ++ [y]) (L ++ [(k, b)])
  | [], _, h => by
    unfold Rn at h; subst h
    show Rn C F ρ [y] [(k, b)]
    unfold Rn
    exact ⟨k, b, [], rfl, ek, ed, rk, by unfold Rn; rfl⟩
  | d :: ds, _, h => by
    unfold Rn at h
    obtain ⟨key, c, r, rfl, e1, e2, e3, hr⟩ := h
    show Rn C F ρ (d :: (ds ++ [y])) _
    unfold Rn
    exact ⟨key, c, _, rfl, e1, e2, e3, Rn.snoc ek ed rk hr⟩
end
end Ws
set_option Elab.async false
set_option linter.all false
set_option maxRecDepth 100000
set_option maxHeartbeats 3200000
set_option autoImplicit false
namespace Ws
open PySem PySem.Spec PyProof.Rows L2
end Ws
set_option Elab.async false
set_option linter.all false
set_option maxRecDepth 100000
set_option maxHeartbeats 2000000
set_option autoImplicit false
namespace Ws
open PySem PySem.Spec PyProof.Rows L2
end Ws
set_option Elab.async false
set_option linter.all false
set_option maxRecDepth 100000
set_option maxHeartbeats 2000000
set_option autoImplicit false
namespace Ws
open PySem PySem.Spec PyProof.Rows L2
section
variable {H : Hs} {o0 : List Th}
/-- a comes from o by some row -/
def Comes (H : Hs) (o a : List Th) : Prop := ∃ s, overW H s ∧ endR H o s = a
theorem Comes.refl (o : List Th) : Comes H o o := ⟨[], (fun _ z => nomatch z), rfl⟩
theorem Comes.trans {a b c : List Th} (h : Comes H a b) (k : Comes H b c) : Comes H a c := by
  obtain ⟨s, hs, rfl⟩ := h
  obtain ⟨t, ht, rfl⟩ := k
  exact ⟨s ++ t, fun d hd => (List.mem_append.mp hd).elim (hs d) (ht d), end_app ..⟩
theorem Comes.isO {o a : List Th} (ho : IsO H o) (h : Comes H o a) : IsO H a := by
  obtain ⟨s, _, rfl⟩ := h
  exact end_isO s ho
end
end Ws
set_option Elab.async false
set_option linter.all false
set_option maxRecDepth 100000
set_option maxHeartbeats 2000000
set_option autoImplicit false
namespace Ws
open PySem PySem.Spec PyProof.Rows L2
open PySem.W in
theorem ltR_iff (r s : List Nat) : ltR r s = true ↔ slR r s := by
  unfold ltR keyY
  rw [dataLt_tuple]
  simp only [keyToksAll, keyToks, List.cons_append, List.nil_append, List.singleton_append]
  rw [show mkS r = ⟨r.toArray⟩ from rfl, show mkS s = ⟨s.toArray⟩ from rfl]
  rw [lex_self]
  unfold slR
  by_cases e : r.length = s.length
  · rw [e, lex_self, lex_self]
    by_cases q : r = s
    · subst q
      rw [lex_self, lex_self]
      refine ⟨fun z => ?_, fun z => ?_⟩
      · cases z
      · rcases z with z | z
        · omega
        · exact absurd z.2 (List.lt_irrefl _)
    · rw [lex_diff (fun z => q (by injection z))]
      show decide (r < s) = true ↔ _
      rw [decide_eq_true_iff]
      exact ⟨fun z => .inr ⟨rfl, z⟩, fun z => z.elim (fun z => absurd z (Nat.lt_irrefl _)) fun z => z.2⟩
  · rw [lex_diff (fun z => e (by injection z with z; omega))]
    show decide (((r.length : Nat) : Int) < ((s.length : Nat) : Int)) = true ↔ _
    rw [decide_eq_true_iff]
    exact ⟨fun z => .inl (by omega), fun z => z.elim (fun z => by omega) fun z => absurd z.1 e⟩
structure SpL (f : List Th × List Nat → Nat) (rows : Rw) (S : Sp) : Prop where
  ky : ∀ p, p ∈ S.1 ↔ ∃ q ∈ rows, f q = p
  mn : ∀ p ∈ S.1, (∃ q ∈ rows, f q = p ∧ S.2 p = q.2) ∧ ∀ q ∈ rows, f q = p → ¬ slR q.2 (S.2 p)
theorem SpL.upd {f : List Th × List Nat → Nat} {rows : Rw} {S : Sp} (h : SpL f rows S) (z : List Th × List Nat) : SpL f (rows ++ [z]) (updS S (f z) z.2) := by
  unfold updS
  by_cases hp : f z ∈ S.1
  · rw [if_pos hp]
    obtain ⟨⟨q0, m0, e0, s0⟩, k0⟩ := h.mn _ hp
    have ky : ∀ p, p ∈ S.1 ↔ ∃ q ∈ rows ++ [z], f q = p := fun p => by
      rw [h.ky p]
      constructor
      · rintro ⟨q, hq, e⟩; exact ⟨q, List.mem_append_left _ hq, e⟩
      · rintro ⟨q, hq, e⟩
        rcases List.mem_append.mp hq with hq | hq
        · exact ⟨q, hq, e⟩
        · rw [List.mem_singleton] at hq
          subst hq
          exact ⟨q0, m0, by rw [e0, e]⟩
    by_cases hl : ltR z.2 (S.2 (f z)) = true
    · rw [if_pos hl]
      have hl' := (ltR_iff _ _).mp hl
      refine ⟨ky, fun p pm => ?_⟩
      show (∃ q ∈ rows ++ [z], f q = p ∧ setS S.2 (f z) z.2 p = q.2) ∧ ∀ q ∈ rows ++ [z], f q = p → ¬ slR q.2 (setS S.2 (f z) z.2 p)
      unfold setS
      by_cases e : p = f z
      · rw [if_pos e]
        refine ⟨⟨z, List.mem_append_right _ (List.mem_singleton_self _), e.symm, rfl⟩, fun q hq eq => ?_⟩
        rcases List.mem_append.mp hq with hq | hq
        · intro w
          exact k0 q hq (by rw [eq, e]) (slx_trans w hl')
        · rw [List.mem_singleton.mp hq]; exact slx_irr _
      · rw [if_neg e]
        obtain ⟨⟨q, hq, eq, sq⟩, k⟩ := h.mn p pm
        refine ⟨⟨q, List.mem_append_left _ hq, eq, sq⟩, fun q hq eq => ?_⟩
        rcases List.mem_append.mp hq with hq | hq
        · exact k q hq eq
        · rw [List.mem_singleton.mp hq] at eq; exact absurd eq.symm e
    · rw [if_neg hl]
      refine ⟨ky, fun p pm => ?_⟩
      obtain ⟨⟨q, hq, eq, sq⟩, k⟩ := h.mn p pm
      refine ⟨⟨q, List.mem_append_left _ hq, eq, sq⟩, fun q hq eq => ?_⟩
      rcases List.mem_append.mp hq with hq | hq
      · exact k q hq eq
      · rw [List.mem_singleton] at hq
        subst hq
        rw [← eq]
        exact fun w => hl ((ltR_iff _ _).mpr w)
  · rw [if_neg hp]
    refine ⟨fun p => ?_, fun p pm => ?_⟩
    · show p ∈ S.1 ++ [f z] ↔ _
      rw [List.mem_append, List.mem_singleton, h.ky p]
      constructor
      · rintro (⟨q, hq, e⟩ | e)
        · exact ⟨q, List.mem_append_left _ hq, e⟩
        · exact ⟨z, List.mem_append_right _ (List.mem_singleton_self _), e.symm⟩
      · rintro ⟨q, hq, e⟩
        rcases List.mem_append.mp hq with hq | hq
        · exact .inl ⟨q, hq, e⟩
        · rw [List.mem_singleton.mp hq] at e; exact .inr e.symm
    · show (∃ q ∈ rows ++ [z], f q = p ∧ setS S.2 (f z) z.2 p = q.2) ∧ ∀ q ∈ rows ++ [z], f q = p → ¬ slR q.2 (setS S.2 (f z) z.2 p)
      unfold setS
      have pm : p ∈ S.1 ++ [f z] := pm
      by_cases e : p = f z
      · rw [if_pos e]
        refine ⟨⟨z, List.mem_append_right _ (List.mem_singleton_self _), e.symm, rfl⟩, fun q hq eq => ?_⟩
        rcases List.mem_append.mp hq with hq | hq
        · exact absurd ((h.ky _).mpr ⟨q, hq, eq.trans e⟩) hp
        · rw [List.mem_singleton.mp hq]; exact slx_irr _
      · rw [if_neg e]
        rcases List.mem_append.mp pm with pm | pm
        · obtain ⟨⟨q, hq, eq, sq⟩, k⟩ := h.mn p pm
          refine ⟨⟨q, List.mem_append_left _ hq, eq, sq⟩, fun q hq eq => ?_⟩
          rcases List.mem_append.mp hq with hq | hq
          · exact k q hq eq
          · rw [List.mem_singleton.mp hq] at eq; exact absurd eq.symm e
        · exact absurd (List.mem_singleton.mp pm) e
end Ws
set_option Elab.async false
set_option linter.all false
set_option maxRecDepth 100000
set_option maxHeartbeats 2000000
set_option autoImplicit false
namespace Ws
open PySem PySem.Spec PyProof.Rows L2
end Ws
set_option Elab.async false
set_option linter.all false
set_option maxRecDepth 100000
set_option maxHeartbeats 2000000
set_option autoImplicit false
namespace Ws
open PySem PySem.Spec PyProof.Rows L2
end Ws
set_option Elab.async false
set_option linter.all false
set_option maxRecDepth 100000
set_option maxHeartbeats 2000000
set_option autoImplicit false
namespace Ws
open PySem PySem.Spec PyProof.Rows L2
end Ws
set_option Elab.async false
set_option linter.all false
set_option maxRecDepth 100000
set_option maxHeartbeats 2000000
set_option autoImplicit false
namespace Ws
open PySem PySem.Spec PyProof.Rows L2
end Ws
set_option Elab.async false
set_option linter.all false
set_option maxRecDepth 100000
set_option maxHeartbeats 2000000
set_option autoImplicit false
namespace Ws
open PySem PySem.Spec PyProof.Rows L2
section
variable {X : Cx} {e : Expr} {es : List Expr} {ta : TA} {p pos : Pos} {x : Str}
/-- X(..), an own exception class without own __init__, as a value -/
theorem pe_exc0 {C : Addr} {bmB : List Value} {B newId initId : String} (F : ExcBaseFacts B newId initId bmB) (q : PySem.W.excIn X.K C bmB newId = true) (gC : X.mg x = some (.ref C)) (kC : PySem.W.keepIn X.K (.ref C) = true) (hg : Gl X x) (hdb : (x == ("__debug__" : Str)) = false := by decide) :
    PE X (.Call (.Name x p) [] [] pos) (fun σ H Q => ∀ a, H a = none → Q (.ref a) (upd H a (ExO (.ref C) a))) := by
  refine ⟨fun pins s σ H Q I h => ?_⟩
  refine wpAny_Call_Name_kw (ld_glob I hg gC ?_ hdb)
  refine PySem.W.callWith_K0 (I.tok _).kIn kC ?_
  show wpAny _ _ (PySem.call (.ref C) []) _ _ _
  obtain ⟨bm, N, nm, qn, bs, hdct, sn, sub, ab, col, dd, k0, k1, k2, k3, k5, mN, hC, hN, hni, T⟩ := exc_obj I.kIn q
  refine wpAny_call_exc_subT F T hC hN hni (fun h' a hm => ?_) (Nat.zero_le _)
  have hn : H a = none := I.hok.gone hm.new
  obtain ⟨t, ht, _, _⟩ := hm.there
  exact ⟨.ref a, upd H a (ExO (.ref C) a), I.laidN hm.keeps hm.new hn (exO_ok ht ⟨rfl, rfl⟩ rfl rfl rfl (show 4 < 6 by decide)), rfl, h a hn⟩
/-- X(e, ..), its own __init__ walked, as a value -/
theorem pe_oexV {CX : CXT} {C fI : Addr} {k : Nat} {fd : FuncData} {ps : List Str} {sp : L2.Sp} (T : OexC X.K C) (iC : PySem.W.findIn X.K (.ref C) "__init__" = some (some (.ref fI))) (tI : PySem.W.typeIn X.K (.ref fI) = some (.type "function"))
    (F1 : FnOk X.prog X.w X.K X.mg X.base CX k fI fd ps sp) (hr : Room (k + 1) X.A) (hb : Binds X.K fd ps []) (hx : Passes CX X (fun _ _ _ => False)) (hg : Gl X x) (hm : X.mg x = some (.ref C)) (ha : PA X (e :: es) ta)
    (hdb : (x == ("__debug__" : Str)) = false := by decide) (he : starEach (e :: es) X.env = (false, eval e X.env) :: starEach es X.env := by rfl) (hpl : (backTo pos (starEach es X.env)).any (·.1) = false := by rfl) :
    PE X (.Call (.Name x p) (e :: es) [] pos) (fun σ H Q => ta σ H fun vs H1 => vs.length ≤ 1000 ∧ ∀ a, H1 a = none → sp (.ref a :: vs) (upd H1 a (exo a C none)) (fun v H2 => v = .non ∧ Q (.ref a) H2) fun _ _ _ => False) := by
  refine ⟨fun pins s σ H Q I h => ?_⟩
  obtain ⟨nm, q, N, bs, bm, sn, sub, ab, col, dd, k0, k1, k2, k3, k5, hC, hbm⟩ := T.cls
  refine wpAny_Call_Name_kw (ld_glob I hg hm ?_ hdb)
  refine PySem.W.callWith_K (h₀ := X.base) I.ok.mod.kin T.kC (thn (ha.run pos pins s σ H _ I h) fun us s1 ⟨vs, H1, I1, r1, hz, q1⟩ => ⟨I1.kIn, ?_⟩) he hpl
  show wpAny _ _ (PySem.call (.ref C) us) _ _ _
  obtain ⟨hp, g, dr, tk, os⟩ := s1
  have hsz : hp.objs.size ≤ hp.objs.size + 1 := Nat.le_succ _
  have hn : H1 (hp.objs.size + 1) = none := I1.hok.fresh hsz
  have hq := q1 (hp.objs.size + 1) hn
  have kk : ∀ b o, hp.get? b = some o → ((hp.push (PySem.W.kdv_tup us)).push (PySem.HandSPX.excO C hp.objs.size)).get? b = some o := fun b o e => Heap.get?_push_of_some _ (Heap.get?_push_of_some _ e)
  have hget : ((hp.push (PySem.W.kdv_tup us)).push (PySem.HandSPX.excO C hp.objs.size)).get? (hp.objs.size + 1) = some (PySem.HandSPX.excO C hp.objs.size) := by heap_get
  have I2 : Inv X pins σ (upd H1 (hp.objs.size + 1) (exo (hp.objs.size + 1) C none)) ⟨(hp.push (PySem.W.kdv_tup us)).push (PySem.HandSPX.excO C hp.objs.size), g, dr, tk, os⟩ :=
    I1.laid (t' := tk) (a := hp.objs.size + 1) (o := exo (hp.objs.size + 1) C none) (h' := (hp.push (PySem.W.kdv_tup us)).push (PySem.HandSPX.excO C hp.objs.size)) kk hsz (exo_ok hget)
  have r2 : Vals (V.ref (hp.objs.size + 1) :: vs) (Value.ref (hp.objs.size + 1) :: us) := .cons rfl r1
  have hl : (Value.ref (hp.objs.size + 1) :: us ++ []).length = ps.length := by
    have e := r2.length
    rw [F1.len _ _ _ _ hq] at e
    rw [List.append_nil]
    exact e.symm
  have hus : us.length ≤ sizeLine := by
    rw [← Paired.length r1, sizeLine_eq]
    omega
  have b2 := hb _ (Value.ref (hp.objs.size + 1) :: us) I2.kIn hl
  rw [List.append_nil] at b2
  refine wpAny_call (PySem.HandSPX.call_own F.excBase_ValueError (fun Y => PySem.HandSPX.refsVE_contains Y bm hbm) (I1.kIn _ _ hC) (PySem.W.looks_findIn I1.kIn iC) (fun self => PySem.W.bind_fn I1.kIn self tI) hus
    (codeAny_mono (F1.run _ X.stack _ _ ⟨Value.ref (hp.objs.size + 1) :: us, []⟩ (Value.ref (hp.objs.size + 1) :: us) _ _ (fun _ _ _ => False) (hr.make C us []) (I2.env0.make C us []) b2 r2 hq) fun r s' hq' => ?_))
  cases r with
  | error er => exact hx pins σ _ _ er s' I2 hq'
  | ok fl =>
    cases fl with
    | ret u =>
      obtain ⟨v, H2, J, rv, ev, q2⟩ := I2.after hq'
      subst ev
      exact ⟨rv, .ref (hp.objs.size + 1), H2, J, rfl, q2⟩
    | next => exact False.elim hq'
    | brk => exact False.elim hq'
    | cont => exact False.elim hq'
end
section
variable {X : Cx} {C : Cf} {ε : Ep} {W : WX} {p pos : Pos} {c x : Str}
def exv0 (c : Str) : M D := fun _ h => .ok (.exv c "" .non) h
def exv1 (c : Str) (m : M D) : M D := fun σ h => (m σ h).bind fun _ h1 => .ok (.exv c "" .non) h1
def exvI (c y : Str) (m : M D) : M D := fun σ h => (m σ h).bind fun d h1 => if (nkOf d).isSome = true ∧ y ≠ "" then .ok (.exv c y d) h1 else .bad
theorem me_exv0 {bmB : List Value} {B newId initId : String} (hK : X.K = C.K) (F : ExcBaseFacts B newId initId bmB) (q : PySem.W.excIn X.K (He.ga X.K c) bmB newId = true) (gC : X.mg x = some (.ref (He.ga X.K c))) (kC : PySem.W.keepIn X.K (.ref (He.ga X.K c)) = true) (hg : Gl X x) (hdb : (x == ("__debug__" : Str)) = false := by decide) :
    ME X C ε W (.Call (.Name x p) [] [] pos) (exv0 c) := (pe_exc0 F q gC kC hg hdb).imp fun σ H Q h => by
  obtain ⟨s, dσ, rfl, ex, g, rs, h⟩ := h
  intro a ha
  refine h (s.frz a (ExO (.ref (He.ga X.K c)) a)) (.ref a) rfl (Fwd.frz g ha) (g.frz ha) ?_
  unfold R
  exact ⟨a, rfl, .inl ⟨rfl, by rw [← hK]; exact upd_same⟩⟩
theorem me_exv1 {bmB : List Value} {B newId initId : String} {e : Expr} {me : M D} (hK : X.K = C.K) (F : ExcBaseFacts B newId initId bmB) (q : PySem.W.excIn X.K (He.ga X.K c) bmB newId = true) (gC : X.mg x = some (.ref (He.ga X.K c))) (kC : PySem.W.keepIn X.K (.ref (He.ga X.K c)) = true) (hg : Gl X x)
    (he : ME X C ε W e me) (hs : starEach [e] X.env = (false, eval e X.env) :: starEach [] X.env := by rfl) (hdb : (x == ("__debug__" : Str)) = false := by decide) :
    ME X C ε W (.Call (.Name x p) [e] [] pos) (exv1 c me) := (pe_exc1 F q gC kC hg he hs hdb).imp fun σ H Q h => by
  obtain ⟨s, dσ, rfl, ex, g, rs, h⟩ := h
  refine Post.bind ex g rs h fun s1 d v e1 f1 g1 rs1 r1 h1 => ?_
  intro a ha
  refine h1 (s1.frz a (ExO (.ref (He.ga X.K c)) a)) (.ref a) rfl (Fwd.frz g1 ha) (g1.frz ha) ?_
  unfold R
  exact ⟨a, rfl, .inl ⟨rfl, by rw [← hK]; exact upd_same⟩⟩
theorem me_exvI {y : Str} {fI : Addr} {k : Nat} {fd : FuncData} {ps : List Str} {e : Expr} {me : M D} (hK : X.K = C.K) (tk : Takes X W) (T : OexC X.K (He.ga X.K c)) (hno : PySem.W.findIn X.K (.ref (He.ga X.K c)) y = some none)
    (iC : PySem.W.findIn X.K (.ref (He.ga X.K c)) "__init__" = some (some (.ref fI))) (tI : PySem.W.typeIn X.K (.ref fI) = some (.type "function"))
    (F1 : FnOk X.prog X.w X.K X.mg X.base (L2.CX X.prog X.w) k fI fd ps (spX X.K y)) (hr : Room (k + 1) X.A) (hb : Binds X.K fd ps []) (hg : Gl X x) (hm : X.mg x = some (.ref (He.ga X.K c))) (he : ME X C ε W e me)
    (hdb : (x == ("__debug__" : Str)) = false := by decide) (hst : starEach [e] X.env = (false, eval e X.env) :: starEach [] X.env := by rfl) (hpl : (backTo pos (starEach [] X.env)).any (·.1) = false := by rfl) :
    ME X C ε W (.Call (.Name x p) [e] [] pos) (exvI c y me) := by
  refine (pe_oexV T iC tI F1 hr hb (fun pins σ H s u s' I cx => tk u s' (XE.of_call I (fun _ _ _ z => z.elim) cx)) hg hm (pa_cons he pa_nil hst) hdb hst hpl).imp fun σ H Q h => ?_
  obtain ⟨s, dσ, rfl, ex, g, rs, h⟩ := h
  refine Post.bind ex g rs h fun s1 d v e1 f1 g1 rs1 r1 h1 => ?_
  refine ⟨(by show (1:Nat) ≤ 1000; omega), fun a ha => ⟨a, _, v, rfl, T, hno, upd_same, fun dx h2 hne => ⟨rfl, ?_⟩⟩⟩
  have hd : s1.H dx = none := by rw [upd_ne hne] at h2; exact h2
  have h1 : Post C W σ (rD C) s1 Q (if (nkOf d).isSome = true ∧ y ≠ "" then .ok (.exv c y d) s1.ah else .bad) := h1
  split at h1
  · rename_i hq
    obtain ⟨hk, hy⟩ := hq
    obtain ⟨k1, ek⟩ := Option.isSome_iff_exists.mp hk
    have ga := Fwd.frz (o := exd dx [(y, v)]) g1 hd
    have gg := g1.frz (o := exd dx [(y, v)]) hd
    have ha2 : (s1.frz dx (exd dx [(y, v)])).H a = none := (upd_ne (Ne.symm hne)).trans ha
    have eH : upd (upd (upd s1.H a (exo a (He.ga X.K c) none)) dx (exd dx [(y, v)])) a (exo a (He.ga X.K c) (some dx)) = ((s1.frz dx (exd dx [(y, v)])).frz a (exo a (He.ga X.K c) (some dx))).H := by
      funext b
      show _ = upd (upd s1.H dx (exd dx [(y, v)])) a (exo a (He.ga X.K c) (some dx)) b
      by_cases hb1 : b = a
      · subst hb1; rw [upd_same, upd_same]
      · rw [upd_ne hb1, upd_ne hb1]
        by_cases hb2 : b = dx
        · subst hb2; rw [upd_same, upd_same]
        · rw [upd_ne hb2, upd_ne hb2, upd_ne hb1]
    rw [eH]
    refine h1 _ (.ref a) rfl (ga.trans (Fwd.frz gg ha2)) (gg.frz ha2) ?_
    unfold R
    refine ⟨a, rfl, .inr ⟨hy, dx, v, k1, by rw [← hK]; exact upd_same, ?_, ek, ?_⟩⟩
    · show upd (upd s1.F dx _) a _ dx = _
      rw [upd_ne hne, upd_same]
    · exact R.mono ((Sub.upd' (g1.notF hd)).trans (Sub.upd' (gg.notF ha2))) (.refl _) r1
  · exact h1.elim
end
section
variable {X : Cx} {C : Cf} {W : WX} {ε : Ep} {kt : Kit} {e : Expr} {es : List Expr} {mr : M (List D)} {me : M D} {p pos : Pos}
/-- the error at a, of the class cA -/
def ErAt (H : Hp) (a cA : Addr) : Prop := H a = some (ExO (.ref cA) a) ∨ ∃ d gs, H a = some (exo a cA (some d)) ∧ H d = some (exd d gs)
theorem ErAt.inst {pins : List (Addr × Obj)} {σ : L2.St} {H : Hp} {s : Shared} {a cA : Addr} (I : Inv X pins σ H s) (h : ErAt H a cA) : ∃ oe oo, PySem.W.InstAt s.heap a oe cA oo := by
  rcases h with h | ⟨d, gs, h, hd⟩
  · obtain ⟨⟨oe, vs, ho, hz, hv, _⟩, _, _⟩ := I.hok a _ h
    exact ⟨oe, none, ho, hz.1, by unfold PySem.W.notCls; rw [hv] <;> rfl, by rw [hz.2]; trivial⟩
  · obtain ⟨t1, ho⟩ := exo_at I.hok h
    obtain ⟨o, hob⟩ := objOk_get (I.hok d _ hd)
    exact ⟨_, some o, ho, rfl, rfl, hob⟩
theorem R.er {s : Sx} {c y : Str} {x : D} {v : V} (g : Good C s) (r : R C s.F s.ρ (.exv c y x) v) : ∃ a, v = .ref a ∧ ErAt s.H a (He.ga C.K c) := by
  unfold R at r
  obtain ⟨a, rfl, z⟩ := r
  refine ⟨a, rfl, ?_⟩
  rcases z with ⟨_, z⟩ | ⟨_, d, u, k, z1, z2, _⟩
  · exact .inl (g.sub _ _ z)
  · exact .inr ⟨d, _, g.sub _ _ z1, g.sub _ _ z2⟩
def rIsV (K : PySem.W.Frag) : List V → Hp → VK → Prop := fun xs H Q => ∃ a cA, ErAt H a cA ∧ ExcC K cA ∧ rIsX K a cA xs H Q
theorem cr_isV : CallR X (.builtin "isinstance") (rIsV X.K) := by
  intro pins s σ H xs us Q I r h
  obtain ⟨a, cA, ha, T, h⟩ := h
  obtain ⟨oe, oo, J⟩ := ha.inst I
  rcases h with ⟨k, cv, b, rfl, hk, e, q⟩ | ⟨tp, cs, ws, b, rfl, hT, hk, e, q⟩
  · obtain ⟨u1, u2, rfl, r1, r2⟩ := vals2 r
    cases (show u1 = Value.ref a from r1)
    have e2 := hk.eq r2
    subst e2
    exact PySem.W.kia_one (err_kit T) I.kIn J e (fun z => nomatch z) fun tk => ⟨.bl b, H, I.kept (t' := tk) fun _ _ z => z, rfl, q⟩
  · obtain ⟨u1, u2, rfl, r1, r2⟩ := vals2 r
    cases (show u1 = Value.ref a from r1)
    cases (show u2 = Value.ref tp from r2)
    obtain ⟨_, its, rv, o, h1, h2, n, h3⟩ := (show ObjOk X.prog X.w H s.heap tp (.tup cs) from I.hok tp _ hT)
    have e3 := ClsV.all hk rv
    subst e3
    obtain ⟨oc, odd, dt, sl⟩ := o
    simp only at h2 h3
    subst h2 h3
    exact PySem.W.kia_tup (err_kit T) I.kIn J h1 e (fun z => nomatch z) fun tk => ⟨.bl b, H, I.kept (t' := tk) fun _ _ z => z, rfl, q⟩
/-- isinstance(x, c) of an error held as a value -/
def gIsV (kt : Kit) (ds : List D) (h : AH) : Out D := match ds with
  | [.exv c _ _, k] => (match clsTy k with
    | some u => if Ty.c c ∈ kt.tys ∧ u ∈ kt.cls then .ok (.bl (kt.sub (.c c) u)) h else .bad
    | none => .bad)
  | _ => .bad
theorem cs_isV (hK : X.K = C.K) (hk : EKit C.K kt) : CallS C (rIsV X.K) (gIsV kt) := fun W σ s x v Q g r h => by
  unfold gIsV at h
  split at h
  · rename_i c y d k
    obtain ⟨v1, v2, rfl, q1, q2⟩ := r.two
    obtain ⟨a, rfl, ea⟩ := R.er g q1
    split at h
    · rename_i u eu
      split at h
      · rename_i hq
        refine ⟨a, He.ga C.K c, ea, by rw [hK]; exact hk.cls c hq.1, .inl ⟨v2, u.v C.K, _, rfl, clsTy_ok q2 eu, by rw [hK]; exact hk.one _ hq.1 u hq.2, Post.bl g h⟩⟩
      · exact h.elim
    · exact h.elim
  · exact h.elim
def fldV (cs : List Str) (y : Str) (m : M D) : M D := fun σ h => (m σ h).bind fun d h1 => match d with
  | .exv c y' x => if c ∈ cs ∧ y' = y ∧ y ≠ "" then .ok x h1 else .bad
  | _ => .bad
theorem pe_fldV {e : Expr} {te : TE} {n : Str} (he : PE X e te) (hb : attributeBase e n X.env (eval e X.env) = eval e X.env := by rfl) :
    PE X (.Attribute e n pos) (fun σ H Q => te σ H fun x H1 => ∃ (a cA d : Addr) (u : V), x = .ref a ∧ XfC X.K cA ∧ PySem.W.findIn X.K (.ref cA) n = some none ∧ H1 a = some (exo a cA (some d)) ∧ H1 d = some (exd d [(n, u)]) ∧ Q u H1) := by
  refine ⟨fun pins s σ H Q I h => ?_⟩
  refine attr_of hb (thn (he.run pins s σ H _ I h) fun u s1 hh => ?_)
  obtain ⟨x, H1, I1, rx, a, cA, d, u1, ex, T, hno, ea, ed, q⟩ := hh
  subst ex
  obtain rfl : u = Value.ref a := rx
  obtain ⟨t1, ho⟩ := exo_at I1.hok ea
  obtain ⟨mA, hns, hr⟩ := exd_at I1.hok ed
  obtain ⟨od, hod, hl⟩ := lookIn_ns hns
  obtain ⟨u2, hu, ru⟩ := RelO.some_of (v := u1) (o := mA n) (by have := hr n; rw [List.lookup_cons, beq_self_eq_true] at this; exact this)
  have J : PySem.W.InstAt s1.heap a _ cA (some od) := ⟨ho, rfl, rfl, hod⟩
  exact HandSPX.exc_get I1.kIn J T.ga T.gg T.exC (PySem.W.findObj_own T.hdC hno rfl (by rw [hl, hu])) (handed_of ru) ⟨u1, H1, I1.tok _, ru, q⟩
theorem me_fldV {y : Str} {cs : List Str} (hK : X.K = C.K) (hcs : ∀ c ∈ cs, XfC C.K (He.ga C.K c) ∧ PySem.W.findIn C.K (.ref (He.ga C.K c)) y = some none) (he : ME X C ε W e me) (hb : attributeBase e y X.env (eval e X.env) = eval e X.env := by rfl) :
    ME X C ε W (.Attribute e y pos) (fldV cs y me) := (pe_fldV he hb).imp fun σ H Q h => by
  obtain ⟨s, dσ, rfl, ex, g, rs, h⟩ := h
  refine Post.bind ex g rs h fun s1 d v e1 f1 g1 rs1 r1 h1 => ?_
  split at h1
  · rename_i c y' x
    split at h1
    · rename_i hq
      obtain ⟨h2, rfl, h3⟩ := hq
      unfold R at r1
      obtain ⟨a, rfl, z⟩ := r1
      rcases z with ⟨z, _⟩ | ⟨_, d, u, k, z1, z2, z3, z4⟩
      · exact absurd z h3
      · obtain ⟨T, hno⟩ := hcs c h2
        exact ⟨a, He.ga C.K c, d, u, rfl, by rw [hK]; exact T, by rw [hK]; exact hno, g1.sub _ _ z1, g1.sub _ _ z2, h1 s1 u rfl (.refl _) g1 z4⟩
    · exact h1.elim
  · exact h1.elim
end
end Ws
set_option Elab.async false
set_option linter.all false
set_option maxRecDepth 100000
set_option maxHeartbeats 2000000
set_option autoImplicit false
namespace Ws
open PySem PySem.Spec PyProof.Rows L2
def eqB' (b : Bool) (v : Value) : Bool := match v with
  | .bool c => c == b
  | _ => false
theorem bools_of {bs : List Bool} : ∀ {us : List Value}, Vals (bs.map V.bl) us → us = bs.map Value.bool := by
  induction bs with
  | nil => intro us r; cases r; rfl
  | cons b bs ih =>
    intro us r
    cases r with
    | cons a t =>
      rw [ih t]
      cases a
      rfl
theorem bools_count (b : Bool) : ∀ bs : List Bool, (bs.map Value.bool).countP (eqB' b) = bs.count b
  | [] => rfl
  | c :: bs => by
    rw [List.map_cons, List.countP_cons, List.count_cons, bools_count b bs]
    rfl
def rCntB (K : PySem.W.Frag) : V → List V → Hp → VK → Prop := fun x xs H Q => ∃ (p : Addr) (bs : List Bool) (b : Bool), x = .ref p ∧ xs = [.bl b] ∧ SqL K H p (bs.map V.bl) ∧ Q (.int (bs.count b : Nat)) H
theorem mt_countB {X : Cx} : MtR X "list.count" (rCntB X.K) := by
  intro pins s σ H x xs v us Q I rx rxs h
  obtain ⟨p, bs, b, rfl, rfl, hs, q⟩ := h
  cases rx
  obtain ⟨u, rfl, ru⟩ := vals1 rxs
  cases (show u = Value.bool b from ru)
  obtain ⟨its, rv, ⟨⟨cls, dd, data, sl⟩, n, ho, hc, hdn, hd⟩, hlen⟩ := I.list hs
  simp only at hc hd
  subst hc hd
  have hi := bools_of rv
  refine call_meets PySem.F.slot_list_count ⟨_, ho, rfl⟩ PySem.F.entry_list_count (PySem.F.args_list_count_2 _ _)
    (SeqAt.list_countAt p its.toArray n dd sl (.bool b) (eqB' b)) ⟨ho, fun y hy => ?_, ?_⟩
  · have hy : y ∈ its := by simpa using hy
    rw [hi] at hy
    obtain ⟨c, _, rfl⟩ := List.mem_map.mp hy
    exact SeqAt.EqAt.bool_bool c b
  · have ec : its.toArray.toList.countP (eqB' b) = bs.count b := by
      rw [show its.toArray.toList = its from by simp, hi]
      exact bools_count b bs
    refine ⟨.int (bs.count b : Nat), H, I.tok _, ⟨s.toks, ?_⟩, q⟩
    show Value.int ((its.toArray.toList.countP (eqB' b) : Nat) : Int) s.toks = Value.int ((bs.count b : Nat) : Int) s.toks
    rw [ec]
def btsOf : List D → Option (List Bool)
  | [] => some []
  | .bl b :: ds => (btsOf ds).map (b :: ·)
  | _ => none
theorem btsOf_map : ∀ bs : List Bool, btsOf (bs.map .bl) = some bs
  | [] => rfl
  | b :: bs => by
    rw [List.map_cons]
    show (btsOf (bs.map .bl)).map (b :: ·) = _
    rw [btsOf_map bs]
    rfl
theorem bls_rel {C : Cf} {F : Hp} {ρ : Rho} : ∀ {ds : List D} {vs : List V} {bs : List Bool}, Rs C F ρ ds vs → btsOf ds = some bs → vs = bs.map V.bl
  | [], vs, bs, r, e => by unfold Rs at r; cases e; exact r
  | d :: ds, vs, bs, r, e => by
    unfold Rs at r
    obtain ⟨v, t, rfl, a, b⟩ := r
    cases d with
    | bl c =>
      have e : (btsOf ds).map (c :: ·) = some bs := e
      cases q : btsOf ds with
      | none => rw [q] at e; cases e
      | some cs =>
        rw [q] at e; cases e
        rw [a.bl_eq, bls_rel b q]
        rfl
    | _ => cases e
def gCountB (o : D) (ds : List D) (h : AH) : Out D := match ds with
  | [.bl b] => (match (lstOf o h).bind btsOf with
    | some bs => .ok (.int (bs.count b : Nat)) h
    | none => .bad)
  | _ => .bad
theorem ms_countB {C : Cf} : MtS C (rCntB C.K) gCountB := fun W σ s o ds v us Q g ro rs h => by
  unfold gCountB at h
  split at h
  · rename_i b
    split at h
    · rename_i bs e
      obtain ⟨u, rfl, ru⟩ := rs.one
      cases q : lstOf o s.ah with
      | none => rw [q] at e; cases e
      | some xs =>
        rw [q] at e
        obtain ⟨a, vs, rfl, sq, rr⟩ := lstOf_ok g ro q
        have ev := bls_rel rr (show btsOf xs = some bs from e)
        subst ev
        exact ⟨a, bs, b, rfl, by rw [ru.bl_eq], SqL.of sq, Post.int g h⟩
    · exact h.elim
  · exact h.elim
def rStrI : List V → Hp → VK → Prop := fun xs H Q => ∃ i, xs = [.int i] ∧ i.natAbs.log2 < 1920 ∧ Q (.str (toString i)) H
theorem cr_strI {X : Cx} : CallR X (.type "str") rStrI := by
  rintro pins s σ H xs us Q I r ⟨i, rfl, hz, q⟩
  obtain ⟨u, rfl, rx⟩ := vals1 r
  obtain ⟨t, rfl⟩ := (show ∃ t, u = Value.int i t from rx)
  exact PySem.P.str_of_int hz ⟨.str _, H, I.tok _, ⟨_, rfl⟩, q⟩
def gStrI (ds : List D) (h : AH) : Out D := match ds with
  | [.int i] => if i.natAbs.log2 < 1920 then .ok (.str (toString i)) h else .bad
  | _ => .bad
theorem cs_strI {C : Cf} : CallS C rStrI gStrI := fun W σ s x v Q g r h => by
  unfold gStrI at h
  split at h
  · rename_i i
    split at h
    · rename_i hz
      obtain ⟨v1, rfl, r1⟩ := r.one
      exact ⟨i, by rw [r1.int_eq], hz, h s (.str (toString i)) rfl (.refl _) g (by unfold R; rfl)⟩
    · exact h.elim
  · exact h.elim
end Ws
set_option Elab.async false
set_option linter.all false
set_option maxRecDepth 100000
set_option maxHeartbeats 4000000
set_option autoImplicit false
namespace Lk64
open PySem PySem.Spec PyProof.Rows L2 Ws
noncomputable section
def m__law_with : SM := (seqS
  (asg (app gLst (consA (app gTup (consA (exvI "NoThing" "what" (var 0)) (consA (cst (.str "what")) nilA))) (consA (app gTup (consA (exvI "NoHouse" "what" (var 0)) (consA (cst (.str "what")) nilA))) (consA (app gTup (consA (exvI "NoWish" "at" (var 0)) (consA (cst (.str "at")) nilA))) (consA (app gTup (consA (exvI "NoBeat" "thing" (var 0)) (consA (cst (.str "thing")) nilA))) nilA))))) (tgN 1))
  (seqS
  (asg (bin gAdd (var 1) (app gLst (consA (app gTup (consA (exvI "NoPaper" "at" (var 0)) (consA (cst (.str "at")) nilA))) (consA (app gTup (consA (exvI "NoSight" "at" (var 0)) (consA (cst (.str "at")) nilA))) (consA (app gTup (consA (exvI "NoPlan" "at" (var 0)) (consA (cst (.str "at")) nilA))) (consA (app gTup (consA (exvI "NoPrice" "thing" (var 0)) (consA (cst (.str "thing")) nilA))) nilA)))))) (tgN 1))
  (ret (bin gAdd (var 1) (app gLst (consA (app gTup (consA (exvI "NoRate" "thing" (var 0)) (consA (cst (.str "thing")) nilA))) (consA (app gTup (consA (exvI "TooMany" "many" (var 0)) (consA (cst (.str "many")) nilA))) nilA)))))))
def d__law_with : List D → AH → Out D := fn 2 m__law_with
def m__law_field : SM := (seqS
  (ifS (asB (bin gEqD (var 1) (cst (.str "what"))))
  (ret (fldV ["NoThing", "NoHouse"] "what" (var 0)))
  skip)
  (seqS
  (ifS (asB (bin gEqD (var 1) (cst (.str "at"))))
  (ret (fldV ["NoWish", "NoPaper", "NoSight", "NoPlan"] "at" (var 0)))
  skip)
  (ret (ifE (asB (bin gEqD (var 1) (cst (.str "thing")))) (fldV ["NoBeat", "NoPrice", "NoRate"] "thing" (var 0)) (fldV ["TooMany"] "many" (var 0))))))
def d__law_field : List D → AH → Out D := fn 2 m__law_field
def m__law_kinds : SM := (seqS
  (asg (app gLst (consA (app (gIsV ekt) (consA (var 0) (consA (cst (.glo "NoRule")) nilA))) (consA (app (gIsV ekt) (consA (var 0) (consA (cst (.glo "NoOrder")) nilA))) (consA (app (gIsV ekt) (consA (var 0) (consA (cst (.glo "NoTrace")) nilA))) nilA)))) (tgN 1))
  (seqS
  (asg (bin gAdd (var 1) (app gLst (consA (app (gIsV ekt) (consA (var 0) (consA (cst (.glo "NoPattern")) nilA))) (consA (app (gIsV ekt) (consA (var 0) (consA (cst (.glo "Nothing")) nilA))) (consA (app (gIsV ekt) (consA (var 0) (consA (cst (.glo "Busy")) nilA))) nilA))))) (tgN 1))
  (seqS
  (asg (bin gAdd (var 1) (app gLst (consA (app (gIsV ekt) (consA (var 0) (consA (cst (.glo "NoThing")) nilA))) (consA (app (gIsV ekt) (consA (var 0) (consA (cst (.glo "NoHouse")) nilA))) (consA (app (gIsV ekt) (consA (var 0) (consA (cst (.glo "NoWish")) nilA))) nilA))))) (tgN 1))
  (seqS
  (asg (bin gAdd (var 1) (app gLst (consA (app (gIsV ekt) (consA (var 0) (consA (cst (.glo "NoBeat")) nilA))) (consA (app (gIsV ekt) (consA (var 0) (consA (cst (.glo "NoPaper")) nilA))) (consA (app (gIsV ekt) (consA (var 0) (consA (cst (.glo "NoSight")) nilA))) nilA))))) (tgN 1))
  (seqS
  (asg (bin gAdd (var 1) (app gLst (consA (app (gIsV ekt) (consA (var 0) (consA (cst (.glo "NoPlan")) nilA))) (consA (app (gIsV ekt) (consA (var 0) (consA (cst (.glo "NoPrice")) nilA))) (consA (app (gIsV ekt) (consA (var 0) (consA (cst (.glo "NoRate")) nilA))) nilA))))) (tgN 1))
  (ret (bin gAdd (var 1) (app gLst (consA (app (gIsV ekt) (consA (var 0) (consA (cst (.glo "TooMany")) nilA))) nilA)))))))))
def d__law_kinds : List D → AH → Out D := fn 2 m__law_kinds
def m__law_plain : SM := (ret (app gLst (consA (exv0 "NoRule") (consA (exv1 "NoOrder" (cst (.str "x"))) (consA (exv0 "NoTrace") (consA (exv1 "NoPattern" (cst (.str "why"))) (consA (exv0 "Nothing") (consA (exv1 "Busy" (cst (.str "now"))) (consA (exv1 "NoRule" (cst (.str "y"))) (consA (exv0 "Busy") nilA))))))))))
def d__law_plain : List D → AH → Out D := fn 1 m__law_plain
def m_law : SM := (seqS
  (forT [1, 2, 3, 4, 5, 6] (walk itemsA (bin gAdd (app gLst (consA (cst (.int 0)) (consA (cst (.int 1)) (consA (cst (.int 2)) (consA (cst (.int 3)) nilA))))) (sl (var 0) noPart (part (cst (.int 6)))))) (tgN 1)
  (seqS
  (asg (bin gMod (var 1) (bin gPow (cst (.int 10)) (cst (.int 30)))) (tgN 2))
  (seqS
  (asg (bin gAt (app gLst (consA (var 2) (consA (bin gSub (cst (.int 0)) (var 2)) (consA (app gStrI (consA (var 2) nilA)) (consA (app gTup (consA (var 2) (consA (cst .non) nilA))) (consA (cst .non) nilA)))))) (bin gMod (var 1) (cst (.int 5)))) (tgN 3))
  (seqS
  (asg (bin gAdd (app (cal 1 [] d__law_plain) (consA (var 3) nilA)) (ccF [5, 6] (walk itemsA (app (cal 1 [] d__law_with) (consA (var 3) nilA))) (tgTup (tgCons (tgN 5) (tgCons (tgN 6) tgNil))) yesB (emE (var 5) stepL) [] finL)) (tgN 4))
  (seqS
  (forS (walk itemsA (var 4)) (tgN 5)
  (seqS
  (ifS (orB (notB (asB (app (gIsV ekt) (consA (var 5) (consA (cst (.glo "ShelfError")) nilA))))) (notB (asB (app (gIsV ekt) (consA (var 5) (consA (cst (.ty "ValueError")) nilA))))))
  (ret (cst (.bl false)))
  skip)
  (ifS (asB (bin (gNot gEqD) (bm isLst gCountB (app (cal 1 [] d__law_kinds) (consA (var 5) nilA)) (consA (cst (.bl true)) nilA)) (cst (.int 1))))
  (ret (cst (.bl false)))
  skip)))
  (forS (walk itemsA (app (cal 1 [] d__law_with) (consA (var 3) nilA))) (tgTup (tgCons (tgN 5) (tgCons (tgN 6) tgNil)))
  (ifS (asB (bin (gNot gEqD) (app (cal 2 [] d__law_field) (consA (var 5) (consA (var 6) nilA))) (var 3)))
  (ret (cst (.bl false)))
  skip)))))))
  (ret (cst (.bl true))))
def d_law : List D → AH → Out D := fn 7 m_law
end
abbrev CF (P : Program) (w : World) (K : PySem.W.Frag) (lf : Option LamV) : Cf := cfT P w K lts lf
section
variable {P : Program} {w : World} {K : PySem.W.Frag} {mg : Str → Option Value} {base h : Heap} {lf : Option LamV}
theorem sc_TooMany_ZinitZ : FnScope ["self", "many"] ["self", "many"] (defScope ((clsDefs (top 17)).getD 0 (.Pass ⟨0, 0, 0, 0⟩))) := ⟨rfl, rfl, rfl, by decide +kernel, rfl, by decide +kernel, by decide +kernel⟩
theorem ok_TooMany_ZinitZ (S : SaysB fa fnl K) (KX : K.In h) (G : h.Ns mainGlobals mg) (TB : TabsB K mg base lts) : ∃ fd, FunD K "__init__" "TooMany.__init__" (defArgs ((clsDefs (top 17)).getD 0 (.Pass ⟨0, 0, 0, 0⟩))) (defBody ((clsDefs (top 17)).getD 0 (.Pass ⟨0, 0, 0, 0⟩))) (defScope ((clsDefs (top 17)).getD 0 (.Pass ⟨0, 0, 0, 0⟩))) [] [] (He.fAd K ("TooMany", some "__init__")) fd ∧ FnOk P w K mg base (L2.CX P w) 1 (He.fAd K ("TooMany", some "__init__")) fd ["self", "many"] (spX K "many") := by
  obtain ⟨fd, F⟩ := S.def_ 0 rfl
  refine ⟨fd, F, oxi_ok (C := CF P w K none) (N := ["self", "many"]) (m := "too many things") F sc_TooMany_ZinitZ rfl (fun cdv A outer s H E => ?_)⟩
  exact (pss_cons (ps_expr (pe_binit rfl (He.glo_ok KX G (S.fact 3 rfl)) (by decide) (base_ok (S.fact 65 rfl)).1 (base_ok (S.fact 65 rfl)).2.1 (base_ok (S.fact 65 rfl)).2.2 (pa_cons (pe_var (i := 0) rfl (by first | exact Or.inl rfl | exact Or.inr (Or.inl rfl) | exact Or.inr (Or.inr rfl))) (pa_cons pe_str pa_nil)))) (pss_one (ps_ost (pe_var (i := 0) rfl (by first | exact Or.inl rfl | exact Or.inr (Or.inl rfl) | exact Or.inr (Or.inr rfl))) (pe_var (i := 1) rfl (by first | exact Or.inl rfl | exact Or.inr (Or.inl rfl) | exact Or.inr (Or.inr rfl))))))
theorem sc_NoRate_ZinitZ : FnScope ["self", "thing"] ["self", "thing"] (defScope ((clsDefs (top 16)).getD 0 (.Pass ⟨0, 0, 0, 0⟩))) := ⟨rfl, rfl, rfl, by decide +kernel, rfl, by decide +kernel, by decide +kernel⟩
theorem ok_NoRate_ZinitZ (S : SaysB fa fnl K) (KX : K.In h) (G : h.Ns mainGlobals mg) (TB : TabsB K mg base lts) : ∃ fd, FunD K "__init__" "NoRate.__init__" (defArgs ((clsDefs (top 16)).getD 0 (.Pass ⟨0, 0, 0, 0⟩))) (defBody ((clsDefs (top 16)).getD 0 (.Pass ⟨0, 0, 0, 0⟩))) (defScope ((clsDefs (top 16)).getD 0 (.Pass ⟨0, 0, 0, 0⟩))) [] [] (He.fAd K ("NoRate", some "__init__")) fd ∧ FnOk P w K mg base (L2.CX P w) 1 (He.fAd K ("NoRate", some "__init__")) fd ["self", "thing"] (spX K "thing") := by
  obtain ⟨fd, F⟩ := S.def_ 1 rfl
  refine ⟨fd, F, oxi_ok (C := CF P w K none) (N := ["self", "thing"]) (m := "no rate") F sc_NoRate_ZinitZ rfl (fun cdv A outer s H E => ?_)⟩
  exact (pss_cons (ps_expr (pe_binit rfl (He.glo_ok KX G (S.fact 3 rfl)) (by decide) (base_ok (S.fact 65 rfl)).1 (base_ok (S.fact 65 rfl)).2.1 (base_ok (S.fact 65 rfl)).2.2 (pa_cons (pe_var (i := 0) rfl (by first | exact Or.inl rfl | exact Or.inr (Or.inl rfl) | exact Or.inr (Or.inr rfl))) (pa_cons pe_str pa_nil)))) (pss_one (ps_ost (pe_var (i := 0) rfl (by first | exact Or.inl rfl | exact Or.inr (Or.inl rfl) | exact Or.inr (Or.inr rfl))) (pe_var (i := 1) rfl (by first | exact Or.inl rfl | exact Or.inr (Or.inl rfl) | exact Or.inr (Or.inr rfl))))))
theorem sc_NoPrice_ZinitZ : FnScope ["self", "thing"] ["self", "thing"] (defScope ((clsDefs (top 15)).getD 0 (.Pass ⟨0, 0, 0, 0⟩))) := ⟨rfl, rfl, rfl, by decide +kernel, rfl, by decide +kernel, by decide +kernel⟩
theorem ok_NoPrice_ZinitZ (S : SaysB fa fnl K) (KX : K.In h) (G : h.Ns mainGlobals mg) (TB : TabsB K mg base lts) : ∃ fd, FunD K "__init__" "NoPrice.__init__" (defArgs ((clsDefs (top 15)).getD 0 (.Pass ⟨0, 0, 0, 0⟩))) (defBody ((clsDefs (top 15)).getD 0 (.Pass ⟨0, 0, 0, 0⟩))) (defScope ((clsDefs (top 15)).getD 0 (.Pass ⟨0, 0, 0, 0⟩))) [] [] (He.fAd K ("NoPrice", some "__init__")) fd ∧ FnOk P w K mg base (L2.CX P w) 1 (He.fAd K ("NoPrice", some "__init__")) fd ["self", "thing"] (spX K "thing") := by
  obtain ⟨fd, F⟩ := S.def_ 2 rfl
  refine ⟨fd, F, oxi_ok (C := CF P w K none) (N := ["self", "thing"]) (m := "no price") F sc_NoPrice_ZinitZ rfl (fun cdv A outer s H E => ?_)⟩
  exact (pss_cons (ps_expr (pe_binit rfl (He.glo_ok KX G (S.fact 3 rfl)) (by decide) (base_ok (S.fact 65 rfl)).1 (base_ok (S.fact 65 rfl)).2.1 (base_ok (S.fact 65 rfl)).2.2 (pa_cons (pe_var (i := 0) rfl (by first | exact Or.inl rfl | exact Or.inr (Or.inl rfl) | exact Or.inr (Or.inr rfl))) (pa_cons pe_str pa_nil)))) (pss_one (ps_ost (pe_var (i := 0) rfl (by first | exact Or.inl rfl | exact Or.inr (Or.inl rfl) | exact Or.inr (Or.inr rfl))) (pe_var (i := 1) rfl (by first | exact Or.inl rfl | exact Or.inr (Or.inl rfl) | exact Or.inr (Or.inr rfl))))))
theorem sc_NoPlan_ZinitZ : FnScope ["self", "at"] ["self", "at"] (defScope ((clsDefs (top 14)).getD 0 (.Pass ⟨0, 0, 0, 0⟩))) := ⟨rfl, rfl, rfl, by decide +kernel, rfl, by decide +kernel, by decide +kernel⟩
theorem ok_NoPlan_ZinitZ (S : SaysB fa fnl K) (KX : K.In h) (G : h.Ns mainGlobals mg) (TB : TabsB K mg base lts) : ∃ fd, FunD K "__init__" "NoPlan.__init__" (defArgs ((clsDefs (top 14)).getD 0 (.Pass ⟨0, 0, 0, 0⟩))) (defBody ((clsDefs (top 14)).getD 0 (.Pass ⟨0, 0, 0, 0⟩))) (defScope ((clsDefs (top 14)).getD 0 (.Pass ⟨0, 0, 0, 0⟩))) [] [] (He.fAd K ("NoPlan", some "__init__")) fd ∧ FnOk P w K mg base (L2.CX P w) 1 (He.fAd K ("NoPlan", some "__init__")) fd ["self", "at"] (spX K "at") := by
  obtain ⟨fd, F⟩ := S.def_ 3 rfl
  refine ⟨fd, F, oxi_ok (C := CF P w K none) (N := ["self", "at"]) (m := "no plan stands there") F sc_NoPlan_ZinitZ rfl (fun cdv A outer s H E => ?_)⟩
  exact (pss_cons (ps_expr (pe_binit rfl (He.glo_ok KX G (S.fact 3 rfl)) (by decide) (base_ok (S.fact 65 rfl)).1 (base_ok (S.fact 65 rfl)).2.1 (base_ok (S.fact 65 rfl)).2.2 (pa_cons (pe_var (i := 0) rfl (by first | exact Or.inl rfl | exact Or.inr (Or.inl rfl) | exact Or.inr (Or.inr rfl))) (pa_cons pe_str pa_nil)))) (pss_one (ps_ost (pe_var (i := 0) rfl (by first | exact Or.inl rfl | exact Or.inr (Or.inl rfl) | exact Or.inr (Or.inr rfl))) (pe_var (i := 1) rfl (by first | exact Or.inl rfl | exact Or.inr (Or.inl rfl) | exact Or.inr (Or.inr rfl))))))
theorem sc_NoSight_ZinitZ : FnScope ["self", "at"] ["self", "at"] (defScope ((clsDefs (top 13)).getD 0 (.Pass ⟨0, 0, 0, 0⟩))) := ⟨rfl, rfl, rfl, by decide +kernel, rfl, by decide +kernel, by decide +kernel⟩
theorem ok_NoSight_ZinitZ (S : SaysB fa fnl K) (KX : K.In h) (G : h.Ns mainGlobals mg) (TB : TabsB K mg base lts) : ∃ fd, FunD K "__init__" "NoSight.__init__" (defArgs ((clsDefs (top 13)).getD 0 (.Pass ⟨0, 0, 0, 0⟩))) (defBody ((clsDefs (top 13)).getD 0 (.Pass ⟨0, 0, 0, 0⟩))) (defScope ((clsDefs (top 13)).getD 0 (.Pass ⟨0, 0, 0, 0⟩))) [] [] (He.fAd K ("NoSight", some "__init__")) fd ∧ FnOk P w K mg base (L2.CX P w) 1 (He.fAd K ("NoSight", some "__init__")) fd ["self", "at"] (spX K "at") := by
  obtain ⟨fd, F⟩ := S.def_ 4 rfl
  refine ⟨fd, F, oxi_ok (C := CF P w K none) (N := ["self", "at"]) (m := "no sight stands there") F sc_NoSight_ZinitZ rfl (fun cdv A outer s H E => ?_)⟩
  exact (pss_cons (ps_expr (pe_binit rfl (He.glo_ok KX G (S.fact 3 rfl)) (by decide) (base_ok (S.fact 65 rfl)).1 (base_ok (S.fact 65 rfl)).2.1 (base_ok (S.fact 65 rfl)).2.2 (pa_cons (pe_var (i := 0) rfl (by first | exact Or.inl rfl | exact Or.inr (Or.inl rfl) | exact Or.inr (Or.inr rfl))) (pa_cons pe_str pa_nil)))) (pss_one (ps_ost (pe_var (i := 0) rfl (by first | exact Or.inl rfl | exact Or.inr (Or.inl rfl) | exact Or.inr (Or.inr rfl))) (pe_var (i := 1) rfl (by first | exact Or.inl rfl | exact Or.inr (Or.inl rfl) | exact Or.inr (Or.inr rfl))))))
theorem sc_NoPaper_ZinitZ : FnScope ["self", "at"] ["self", "at"] (defScope ((clsDefs (top 12)).getD 0 (.Pass ⟨0, 0, 0, 0⟩))) := ⟨rfl, rfl, rfl, by decide +kernel, rfl, by decide +kernel, by decide +kernel⟩
theorem ok_NoPaper_ZinitZ (S : SaysB fa fnl K) (KX : K.In h) (G : h.Ns mainGlobals mg) (TB : TabsB K mg base lts) : ∃ fd, FunD K "__init__" "NoPaper.__init__" (defArgs ((clsDefs (top 12)).getD 0 (.Pass ⟨0, 0, 0, 0⟩))) (defBody ((clsDefs (top 12)).getD 0 (.Pass ⟨0, 0, 0, 0⟩))) (defScope ((clsDefs (top 12)).getD 0 (.Pass ⟨0, 0, 0, 0⟩))) [] [] (He.fAd K ("NoPaper", some "__init__")) fd ∧ FnOk P w K mg base (L2.CX P w) 1 (He.fAd K ("NoPaper", some "__init__")) fd ["self", "at"] (spX K "at") := by
  obtain ⟨fd, F⟩ := S.def_ 5 rfl
  refine ⟨fd, F, oxi_ok (C := CF P w K none) (N := ["self", "at"]) (m := "this shows nothing") F sc_NoPaper_ZinitZ rfl (fun cdv A outer s H E => ?_)⟩
  exact (pss_cons (ps_expr (pe_binit rfl (He.glo_ok KX G (S.fact 3 rfl)) (by decide) (base_ok (S.fact 65 rfl)).1 (base_ok (S.fact 65 rfl)).2.1 (base_ok (S.fact 65 rfl)).2.2 (pa_cons (pe_var (i := 0) rfl (by first | exact Or.inl rfl | exact Or.inr (Or.inl rfl) | exact Or.inr (Or.inr rfl))) (pa_cons pe_str pa_nil)))) (pss_one (ps_ost (pe_var (i := 0) rfl (by first | exact Or.inl rfl | exact Or.inr (Or.inl rfl) | exact Or.inr (Or.inr rfl))) (pe_var (i := 1) rfl (by first | exact Or.inl rfl | exact Or.inr (Or.inl rfl) | exact Or.inr (Or.inr rfl))))))
theorem sc_NoBeat_ZinitZ : FnScope ["self", "thing"] ["self", "thing"] (defScope ((clsDefs (top 11)).getD 0 (.Pass ⟨0, 0, 0, 0⟩))) := ⟨rfl, rfl, rfl, by decide +kernel, rfl, by decide +kernel, by decide +kernel⟩
theorem ok_NoBeat_ZinitZ (S : SaysB fa fnl K) (KX : K.In h) (G : h.Ns mainGlobals mg) (TB : TabsB K mg base lts) : ∃ fd, FunD K "__init__" "NoBeat.__init__" (defArgs ((clsDefs (top 11)).getD 0 (.Pass ⟨0, 0, 0, 0⟩))) (defBody ((clsDefs (top 11)).getD 0 (.Pass ⟨0, 0, 0, 0⟩))) (defScope ((clsDefs (top 11)).getD 0 (.Pass ⟨0, 0, 0, 0⟩))) [] [] (He.fAd K ("NoBeat", some "__init__")) fd ∧ FnOk P w K mg base (L2.CX P w) 1 (He.fAd K ("NoBeat", some "__init__")) fd ["self", "thing"] (spX K "thing") := by
  obtain ⟨fd, F⟩ := S.def_ 6 rfl
  refine ⟨fd, F, oxi_ok (C := CF P w K none) (N := ["self", "thing"]) (m := "no such number") F sc_NoBeat_ZinitZ rfl (fun cdv A outer s H E => ?_)⟩
  exact (pss_cons (ps_expr (pe_binit rfl (He.glo_ok KX G (S.fact 3 rfl)) (by decide) (base_ok (S.fact 65 rfl)).1 (base_ok (S.fact 65 rfl)).2.1 (base_ok (S.fact 65 rfl)).2.2 (pa_cons (pe_var (i := 0) rfl (by first | exact Or.inl rfl | exact Or.inr (Or.inl rfl) | exact Or.inr (Or.inr rfl))) (pa_cons pe_str pa_nil)))) (pss_one (ps_ost (pe_var (i := 0) rfl (by first | exact Or.inl rfl | exact Or.inr (Or.inl rfl) | exact Or.inr (Or.inr rfl))) (pe_var (i := 1) rfl (by first | exact Or.inl rfl | exact Or.inr (Or.inl rfl) | exact Or.inr (Or.inr rfl))))))
theorem sc_NoWish_ZinitZ : FnScope ["self", "at"] ["self", "at"] (defScope ((clsDefs (top 10)).getD 0 (.Pass ⟨0, 0, 0, 0⟩))) := ⟨rfl, rfl, rfl, by decide +kernel, rfl, by decide +kernel, by decide +kernel⟩
theorem ok_NoWish_ZinitZ (S : SaysB fa fnl K) (KX : K.In h) (G : h.Ns mainGlobals mg) (TB : TabsB K mg base lts) : ∃ fd, FunD K "__init__" "NoWish.__init__" (defArgs ((clsDefs (top 10)).getD 0 (.Pass ⟨0, 0, 0, 0⟩))) (defBody ((clsDefs (top 10)).getD 0 (.Pass ⟨0, 0, 0, 0⟩))) (defScope ((clsDefs (top 10)).getD 0 (.Pass ⟨0, 0, 0, 0⟩))) [] [] (He.fAd K ("NoWish", some "__init__")) fd ∧ FnOk P w K mg base (L2.CX P w) 1 (He.fAd K ("NoWish", some "__init__")) fd ["self", "at"] (spX K "at") := by
  obtain ⟨fd, F⟩ := S.def_ 7 rfl
  refine ⟨fd, F, oxi_ok (C := CF P w K none) (N := ["self", "at"]) (m := "no wish stands there") F sc_NoWish_ZinitZ rfl (fun cdv A outer s H E => ?_)⟩
  exact (pss_cons (ps_expr (pe_binit rfl (He.glo_ok KX G (S.fact 3 rfl)) (by decide) (base_ok (S.fact 65 rfl)).1 (base_ok (S.fact 65 rfl)).2.1 (base_ok (S.fact 65 rfl)).2.2 (pa_cons (pe_var (i := 0) rfl (by first | exact Or.inl rfl | exact Or.inr (Or.inl rfl) | exact Or.inr (Or.inr rfl))) (pa_cons pe_str pa_nil)))) (pss_one (ps_ost (pe_var (i := 0) rfl (by first | exact Or.inl rfl | exact Or.inr (Or.inl rfl) | exact Or.inr (Or.inr rfl))) (pe_var (i := 1) rfl (by first | exact Or.inl rfl | exact Or.inr (Or.inl rfl) | exact Or.inr (Or.inr rfl))))))
theorem sc_NoHouse_ZinitZ : FnScope ["self", "what"] ["self", "what"] (defScope ((clsDefs (top 9)).getD 0 (.Pass ⟨0, 0, 0, 0⟩))) := ⟨rfl, rfl, rfl, by decide +kernel, rfl, by decide +kernel, by decide +kernel⟩
theorem ok_NoHouse_ZinitZ (S : SaysB fa fnl K) (KX : K.In h) (G : h.Ns mainGlobals mg) (TB : TabsB K mg base lts) : ∃ fd, FunD K "__init__" "NoHouse.__init__" (defArgs ((clsDefs (top 9)).getD 0 (.Pass ⟨0, 0, 0, 0⟩))) (defBody ((clsDefs (top 9)).getD 0 (.Pass ⟨0, 0, 0, 0⟩))) (defScope ((clsDefs (top 9)).getD 0 (.Pass ⟨0, 0, 0, 0⟩))) [] [] (He.fAd K ("NoHouse", some "__init__")) fd ∧ FnOk P w K mg base (L2.CX P w) 1 (He.fAd K ("NoHouse", some "__init__")) fd ["self", "what"] (spX K "what") := by
  obtain ⟨fd, F⟩ := S.def_ 8 rfl
  refine ⟨fd, F, oxi_ok (C := CF P w K none) (N := ["self", "what"]) (m := "this makes no house") F sc_NoHouse_ZinitZ rfl (fun cdv A outer s H E => ?_)⟩
  exact (pss_cons (ps_expr (pe_binit rfl (He.glo_ok KX G (S.fact 3 rfl)) (by decide) (base_ok (S.fact 65 rfl)).1 (base_ok (S.fact 65 rfl)).2.1 (base_ok (S.fact 65 rfl)).2.2 (pa_cons (pe_var (i := 0) rfl (by first | exact Or.inl rfl | exact Or.inr (Or.inl rfl) | exact Or.inr (Or.inr rfl))) (pa_cons pe_str pa_nil)))) (pss_one (ps_ost (pe_var (i := 0) rfl (by first | exact Or.inl rfl | exact Or.inr (Or.inl rfl) | exact Or.inr (Or.inr rfl))) (pe_var (i := 1) rfl (by first | exact Or.inl rfl | exact Or.inr (Or.inl rfl) | exact Or.inr (Or.inr rfl))))))
theorem sc_NoThing_ZinitZ : FnScope ["self", "what"] ["self", "what"] (defScope ((clsDefs (top 8)).getD 0 (.Pass ⟨0, 0, 0, 0⟩))) := ⟨rfl, rfl, rfl, by decide +kernel, rfl, by decide +kernel, by decide +kernel⟩
theorem ok_NoThing_ZinitZ (S : SaysB fa fnl K) (KX : K.In h) (G : h.Ns mainGlobals mg) (TB : TabsB K mg base lts) : ∃ fd, FunD K "__init__" "NoThing.__init__" (defArgs ((clsDefs (top 8)).getD 0 (.Pass ⟨0, 0, 0, 0⟩))) (defBody ((clsDefs (top 8)).getD 0 (.Pass ⟨0, 0, 0, 0⟩))) (defScope ((clsDefs (top 8)).getD 0 (.Pass ⟨0, 0, 0, 0⟩))) [] [] (He.fAd K ("NoThing", some "__init__")) fd ∧ FnOk P w K mg base (L2.CX P w) 1 (He.fAd K ("NoThing", some "__init__")) fd ["self", "what"] (spX K "what") := by
  obtain ⟨fd, F⟩ := S.def_ 9 rfl
  refine ⟨fd, F, oxi_ok (C := CF P w K none) (N := ["self", "what"]) (m := "this makes no thing") F sc_NoThing_ZinitZ rfl (fun cdv A outer s H E => ?_)⟩
  exact (pss_cons (ps_expr (pe_binit rfl (He.glo_ok KX G (S.fact 3 rfl)) (by decide) (base_ok (S.fact 65 rfl)).1 (base_ok (S.fact 65 rfl)).2.1 (base_ok (S.fact 65 rfl)).2.2 (pa_cons (pe_var (i := 0) rfl (by first | exact Or.inl rfl | exact Or.inr (Or.inl rfl) | exact Or.inr (Or.inr rfl))) (pa_cons pe_str pa_nil)))) (pss_one (ps_ost (pe_var (i := 0) rfl (by first | exact Or.inl rfl | exact Or.inr (Or.inl rfl) | exact Or.inr (Or.inr rfl))) (pe_var (i := 1) rfl (by first | exact Or.inl rfl | exact Or.inr (Or.inl rfl) | exact Or.inr (Or.inr rfl))))))
theorem sc__law_with : FnScope ["_law_thing", "_law_found"] ["_law_thing"] (defScope (top 22)) := ⟨rfl, rfl, rfl, by decide +kernel, rfl, by decide +kernel, by decide +kernel⟩
theorem ok__law_with (S : SaysB fa fnl K) (KX : K.In h) (G : h.Ns mainGlobals mg) (TB : TabsB K mg base lts) : ∃ fd, FunD K "_law_with" "_law_with" (defArgs (top 22)) (defBody (top 22)) (defScope (top 22)) [] [] (He.fAd K ("_law_with", none)) fd ∧ FnOk P w K mg base (L2.CX P w) 3 (He.fAd K ("_law_with", none)) fd ["_law_thing"] (spM (CF P w K lf) 1 d__law_with) := by
  obtain ⟨fd, F⟩ := S.def_ 10 rfl
  obtain ⟨fd_TooMany_ZinitZ, F_TooMany_ZinitZ, O_TooMany_ZinitZ⟩ := ok_TooMany_ZinitZ (P := P) (w := w) (base := base) S KX G TB
  have B_TooMany_ZinitZ : L2.Binds K fd_TooMany_ZinitZ ["self", "many"] [] := F_TooMany_ZinitZ.bindsN fun _ _ _ _ _ _ us hl => match us, hl with | [_, _], _ => rfl
  obtain ⟨fd_NoRate_ZinitZ, F_NoRate_ZinitZ, O_NoRate_ZinitZ⟩ := ok_NoRate_ZinitZ (P := P) (w := w) (base := base) S KX G TB
  have B_NoRate_ZinitZ : L2.Binds K fd_NoRate_ZinitZ ["self", "thing"] [] := F_NoRate_ZinitZ.bindsN fun _ _ _ _ _ _ us hl => match us, hl with | [_, _], _ => rfl
  obtain ⟨fd_NoPrice_ZinitZ, F_NoPrice_ZinitZ, O_NoPrice_ZinitZ⟩ := ok_NoPrice_ZinitZ (P := P) (w := w) (base := base) S KX G TB
  have B_NoPrice_ZinitZ : L2.Binds K fd_NoPrice_ZinitZ ["self", "thing"] [] := F_NoPrice_ZinitZ.bindsN fun _ _ _ _ _ _ us hl => match us, hl with | [_, _], _ => rfl
  obtain ⟨fd_NoPlan_ZinitZ, F_NoPlan_ZinitZ, O_NoPlan_ZinitZ⟩ := ok_NoPlan_ZinitZ (P := P) (w := w) (base := base) S KX G TB
  have B_NoPlan_ZinitZ : L2.Binds K fd_NoPlan_ZinitZ ["self", "at"] [] := F_NoPlan_ZinitZ.bindsN fun _ _ _ _ _ _ us hl => match us, hl with | [_, _], _ => rfl
  obtain ⟨fd_NoSight_ZinitZ, F_NoSight_ZinitZ, O_NoSight_ZinitZ⟩ := ok_NoSight_ZinitZ (P := P) (w := w) (base := base) S KX G TB
  have B_NoSight_ZinitZ : L2.Binds K fd_NoSight_ZinitZ ["self", "at"] [] := F_NoSight_ZinitZ.bindsN fun _ _ _ _ _ _ us hl => match us, hl with | [_, _], _ => rfl
  obtain ⟨fd_NoPaper_ZinitZ, F_NoPaper_ZinitZ, O_NoPaper_ZinitZ⟩ := ok_NoPaper_ZinitZ (P := P) (w := w) (base := base) S KX G TB
  have B_NoPaper_ZinitZ : L2.Binds K fd_NoPaper_ZinitZ ["self", "at"] [] := F_NoPaper_ZinitZ.bindsN fun _ _ _ _ _ _ us hl => match us, hl with | [_, _], _ => rfl
  obtain ⟨fd_NoBeat_ZinitZ, F_NoBeat_ZinitZ, O_NoBeat_ZinitZ⟩ := ok_NoBeat_ZinitZ (P := P) (w := w) (base := base) S KX G TB
  have B_NoBeat_ZinitZ : L2.Binds K fd_NoBeat_ZinitZ ["self", "thing"] [] := F_NoBeat_ZinitZ.bindsN fun _ _ _ _ _ _ us hl => match us, hl with | [_, _], _ => rfl
  obtain ⟨fd_NoWish_ZinitZ, F_NoWish_ZinitZ, O_NoWish_ZinitZ⟩ := ok_NoWish_ZinitZ (P := P) (w := w) (base := base) S KX G TB
  have B_NoWish_ZinitZ : L2.Binds K fd_NoWish_ZinitZ ["self", "at"] [] := F_NoWish_ZinitZ.bindsN fun _ _ _ _ _ _ us hl => match us, hl with | [_, _], _ => rfl
  obtain ⟨fd_NoHouse_ZinitZ, F_NoHouse_ZinitZ, O_NoHouse_ZinitZ⟩ := ok_NoHouse_ZinitZ (P := P) (w := w) (base := base) S KX G TB
  have B_NoHouse_ZinitZ : L2.Binds K fd_NoHouse_ZinitZ ["self", "what"] [] := F_NoHouse_ZinitZ.bindsN fun _ _ _ _ _ _ us hl => match us, hl with | [_, _], _ => rfl
  obtain ⟨fd_NoThing_ZinitZ, F_NoThing_ZinitZ, O_NoThing_ZinitZ⟩ := ok_NoThing_ZinitZ (P := P) (w := w) (base := base) S KX G TB
  have B_NoThing_ZinitZ : L2.Binds K fd_NoThing_ZinitZ ["self", "what"] [] := F_NoThing_ZinitZ.bindsN fun _ _ _ _ _ _ us hl => match us, hl with | [_, _], _ => rfl
  refine ⟨fd, F, fn_ok (C := CF P w K lf) (N := ["_law_thing", "_law_found"]) F sc__law_with (fun cdv A outer s H E hr => ?_)⟩
  have tk : Takes (cxOf (L2.CX P w) P w K mg base ["_law_thing", "_law_found"] "_law_with" (defScope (top 22)) (He.fAd K ("_law_with", none)) cdv A outer s H E) (fun cls od _ H => E cls od H) := takes_of rfl rfl rfl rfl
  have pw : PassesOwn (model P w) (cxOf (L2.CX P w) P w K mg base ["_law_thing", "_law_found"] "_law_with" (defScope (top 22)) (He.fAd K ("_law_with", none)) cdv A outer s H E).A (cxOf (L2.CX P w) P w K mg base ["_law_thing", "_law_found"] "_law_with" (defScope (top 22)) (He.fAd K ("_law_with", none)) cdv A outer s H E).env (cxOf (L2.CX P w) P w K mg base ["_law_thing", "_law_found"] "_law_with" (defScope (top 22)) (He.fAd K ("_law_with", none)) cdv A outer s H E).xe := passes_of rfl
  exact (ms_cons
  (ms_set (i := 1) sc__law_with.nd rfl (by first | exact Or.inl rfl | exact Or.inr rfl) (me_lst (ma_cons (me_tup (ma_cons (me_exvI (c := "NoThing") (y := "what") rfl tk (oex_ok (S.fact 45 rfl)) (no_ok (S.fact 46 rfl)) (oexI_ok (S.fact 47 rfl)).1 (oexI_ok (S.fact 47 rfl)).2 O_NoThing_ZinitZ (hr.mono (by decide : 2 ≤ 2)) B_NoThing_ZinitZ (by exact rfl) (He.glo_ok KX G (S.fact 48 rfl)) (me_var 0)) (ma_cons me_str ma_nil))) (ma_cons (me_tup (ma_cons (me_exvI (c := "NoHouse") (y := "what") rfl tk (oex_ok (S.fact 41 rfl)) (no_ok (S.fact 42 rfl)) (oexI_ok (S.fact 43 rfl)).1 (oexI_ok (S.fact 43 rfl)).2 O_NoHouse_ZinitZ (hr.mono (by decide : 2 ≤ 2)) B_NoHouse_ZinitZ (by exact rfl) (He.glo_ok KX G (S.fact 44 rfl)) (me_var 0)) (ma_cons me_str ma_nil))) (ma_cons (me_tup (ma_cons (me_exvI (c := "NoWish") (y := "at") rfl tk (oex_ok (S.fact 37 rfl)) (no_ok (S.fact 38 rfl)) (oexI_ok (S.fact 39 rfl)).1 (oexI_ok (S.fact 39 rfl)).2 O_NoWish_ZinitZ (hr.mono (by decide : 2 ≤ 2)) B_NoWish_ZinitZ (by exact rfl) (He.glo_ok KX G (S.fact 40 rfl)) (me_var 0)) (ma_cons me_str ma_nil))) (ma_cons (me_tup (ma_cons (me_exvI (c := "NoBeat") (y := "thing") rfl tk (oex_ok (S.fact 33 rfl)) (no_ok (S.fact 34 rfl)) (oexI_ok (S.fact 35 rfl)).1 (oexI_ok (S.fact 35 rfl)).2 O_NoBeat_ZinitZ (hr.mono (by decide : 2 ≤ 2)) B_NoBeat_ZinitZ (by exact rfl) (He.glo_ok KX G (S.fact 36 rfl)) (me_var 0)) (ma_cons me_str ma_nil))) ma_nil))))))
  (ms_cons
  (ms_set (i := 1) sc__law_with.nd rfl (by first | exact Or.inl rfl | exact Or.inr rfl) (me_bin or_add os_add (me_var 1) (me_lst (ma_cons (me_tup (ma_cons (me_exvI (c := "NoPaper") (y := "at") rfl tk (oex_ok (S.fact 29 rfl)) (no_ok (S.fact 30 rfl)) (oexI_ok (S.fact 31 rfl)).1 (oexI_ok (S.fact 31 rfl)).2 O_NoPaper_ZinitZ (hr.mono (by decide : 2 ≤ 2)) B_NoPaper_ZinitZ (by exact rfl) (He.glo_ok KX G (S.fact 32 rfl)) (me_var 0)) (ma_cons me_str ma_nil))) (ma_cons (me_tup (ma_cons (me_exvI (c := "NoSight") (y := "at") rfl tk (oex_ok (S.fact 25 rfl)) (no_ok (S.fact 26 rfl)) (oexI_ok (S.fact 27 rfl)).1 (oexI_ok (S.fact 27 rfl)).2 O_NoSight_ZinitZ (hr.mono (by decide : 2 ≤ 2)) B_NoSight_ZinitZ (by exact rfl) (He.glo_ok KX G (S.fact 28 rfl)) (me_var 0)) (ma_cons me_str ma_nil))) (ma_cons (me_tup (ma_cons (me_exvI (c := "NoPlan") (y := "at") rfl tk (oex_ok (S.fact 21 rfl)) (no_ok (S.fact 22 rfl)) (oexI_ok (S.fact 23 rfl)).1 (oexI_ok (S.fact 23 rfl)).2 O_NoPlan_ZinitZ (hr.mono (by decide : 2 ≤ 2)) B_NoPlan_ZinitZ (by exact rfl) (He.glo_ok KX G (S.fact 24 rfl)) (me_var 0)) (ma_cons me_str ma_nil))) (ma_cons (me_tup (ma_cons (me_exvI (c := "NoPrice") (y := "thing") rfl tk (oex_ok (S.fact 17 rfl)) (no_ok (S.fact 18 rfl)) (oexI_ok (S.fact 19 rfl)).1 (oexI_ok (S.fact 19 rfl)).2 O_NoPrice_ZinitZ (hr.mono (by decide : 2 ≤ 2)) B_NoPrice_ZinitZ (by exact rfl) (He.glo_ok KX G (S.fact 20 rfl)) (me_var 0)) (ma_cons me_str ma_nil))) ma_nil)))))))
  (ms_one (ms_ret (me_bin or_add os_add (me_var 1) (me_lst (ma_cons (me_tup (ma_cons (me_exvI (c := "NoRate") (y := "thing") rfl tk (oex_ok (S.fact 13 rfl)) (no_ok (S.fact 14 rfl)) (oexI_ok (S.fact 15 rfl)).1 (oexI_ok (S.fact 15 rfl)).2 O_NoRate_ZinitZ (hr.mono (by decide : 2 ≤ 2)) B_NoRate_ZinitZ (by exact rfl) (He.glo_ok KX G (S.fact 16 rfl)) (me_var 0)) (ma_cons me_str ma_nil))) (ma_cons (me_tup (ma_cons (me_exvI (c := "TooMany") (y := "many") rfl tk (oex_ok (S.fact 9 rfl)) (no_ok (S.fact 10 rfl)) (oexI_ok (S.fact 11 rfl)).1 (oexI_ok (S.fact 11 rfl)).2 O_TooMany_ZinitZ (hr.mono (by decide : 2 ≤ 2)) B_TooMany_ZinitZ (by exact rfl) (He.glo_ok KX G (S.fact 12 rfl)) (me_var 0)) (ma_cons me_str ma_nil))) ma_nil))))))))
theorem sc__law_field : FnScope ["_law_made", "_law_word"] ["_law_made", "_law_word"] (defScope (top 23)) := ⟨rfl, rfl, rfl, by decide +kernel, rfl, by decide +kernel, by decide +kernel⟩
theorem ok__law_field (S : SaysB fa fnl K) (KX : K.In h) (G : h.Ns mainGlobals mg) (TB : TabsB K mg base lts) : ∃ fd, FunD K "_law_field" "_law_field" (defArgs (top 23)) (defBody (top 23)) (defScope (top 23)) [] [] (He.fAd K ("_law_field", none)) fd ∧ FnOk P w K mg base (L2.CX P w) 1 (He.fAd K ("_law_field", none)) fd ["_law_made", "_law_word"] (spM (CF P w K lf) 2 d__law_field) := by
  obtain ⟨fd, F⟩ := S.def_ 11 rfl
  refine ⟨fd, F, fn_ok (C := CF P w K lf) (N := ["_law_made", "_law_word"]) F sc__law_field (fun cdv A outer s H E hr => ?_)⟩
  have tk : Takes (cxOf (L2.CX P w) P w K mg base ["_law_made", "_law_word"] "_law_field" (defScope (top 23)) (He.fAd K ("_law_field", none)) cdv A outer s H E) (fun cls od _ H => E cls od H) := takes_of rfl rfl rfl rfl
  have pw : PassesOwn (model P w) (cxOf (L2.CX P w) P w K mg base ["_law_made", "_law_word"] "_law_field" (defScope (top 23)) (He.fAd K ("_law_field", none)) cdv A outer s H E).A (cxOf (L2.CX P w) P w K mg base ["_law_made", "_law_word"] "_law_field" (defScope (top 23)) (He.fAd K ("_law_field", none)) cdv A outer s H E).env (cxOf (L2.CX P w) P w K mg base ["_law_made", "_law_word"] "_law_field" (defScope (top 23)) (He.fAd K ("_law_field", none)) cdv A outer s H E).xe := passes_of rfl
  exact (ms_cons
  (ms_if (mt_cmp (op_eqD hr.units) os_eq (me_var 1) me_str)
  (ms_one (ms_ret (me_fldV rfl (fun c hc => xf_ok (S.fact 52 rfl) hc) (me_var 0))))
  ms_nil)
  (ms_cons
  (ms_if (mt_cmp (op_eqD hr.units) os_eq (me_var 1) me_str)
  (ms_one (ms_ret (me_fldV rfl (fun c hc => xf_ok (S.fact 51 rfl) hc) (me_var 0))))
  ms_nil)
  (ms_one (ms_ret (me_if (mt_cmp (op_eqD hr.units) os_eq (me_var 1) me_str) (me_fldV rfl (fun c hc => xf_ok (S.fact 49 rfl) hc) (me_var 0)) (me_fldV rfl (fun c hc => xf_ok (S.fact 50 rfl) hc) (me_var 0)))))))
theorem sc__law_kinds : FnScope ["_law_made", "_law_found"] ["_law_made"] (defScope (top 24)) := ⟨rfl, rfl, rfl, by decide +kernel, rfl, by decide +kernel, by decide +kernel⟩
theorem ok__law_kinds (S : SaysB fa fnl K) (KX : K.In h) (G : h.Ns mainGlobals mg) (TB : TabsB K mg base lts) : ∃ fd, FunD K "_law_kinds" "_law_kinds" (defArgs (top 24)) (defBody (top 24)) (defScope (top 24)) [] [] (He.fAd K ("_law_kinds", none)) fd ∧ FnOk P w K mg base (L2.CX P w) 1 (He.fAd K ("_law_kinds", none)) fd ["_law_made"] (spM (CF P w K lf) 1 d__law_kinds) := by
  obtain ⟨fd, F⟩ := S.def_ 12 rfl
  refine ⟨fd, F, fn_ok (C := CF P w K lf) (N := ["_law_made", "_law_found"]) F sc__law_kinds (fun cdv A outer s H E hr => ?_)⟩
  have tk : Takes (cxOf (L2.CX P w) P w K mg base ["_law_made", "_law_found"] "_law_kinds" (defScope (top 24)) (He.fAd K ("_law_kinds", none)) cdv A outer s H E) (fun cls od _ H => E cls od H) := takes_of rfl rfl rfl rfl
  have pw : PassesOwn (model P w) (cxOf (L2.CX P w) P w K mg base ["_law_made", "_law_found"] "_law_kinds" (defScope (top 24)) (He.fAd K ("_law_kinds", none)) cdv A outer s H E).A (cxOf (L2.CX P w) P w K mg base ["_law_made", "_law_found"] "_law_kinds" (defScope (top 24)) (He.fAd K ("_law_kinds", none)) cdv A outer s H E).env (cxOf (L2.CX P w) P w K mg base ["_law_made", "_law_found"] "_law_kinds" (defScope (top 24)) (He.fAd K ("_law_kinds", none)) cdv A outer s H E).xe := passes_of rfl
  exact (ms_cons
  (ms_set (i := 1) sc__law_kinds.nd rfl (by first | exact Or.inl rfl | exact Or.inr rfl) (me_lst (ma_cons (me_callB cr_isV (cs_isV rfl (ekit_ok (S.fact 4 rfl))) (by exact rfl) (He.free_ok KX G (S.fact 5 rfl)) (by decide +kernel) (ma_cons (me_var 0) (ma_cons (me_glo (by exact rfl) (He.glo_ok KX G (S.fact 58 rfl))) ma_nil))) (ma_cons (me_callB cr_isV (cs_isV rfl (ekit_ok (S.fact 4 rfl))) (by exact rfl) (He.free_ok KX G (S.fact 5 rfl)) (by decide +kernel) (ma_cons (me_var 0) (ma_cons (me_glo (by exact rfl) (He.glo_ok KX G (S.fact 57 rfl))) ma_nil))) (ma_cons (me_callB cr_isV (cs_isV rfl (ekit_ok (S.fact 4 rfl))) (by exact rfl) (He.free_ok KX G (S.fact 5 rfl)) (by decide +kernel) (ma_cons (me_var 0) (ma_cons (me_glo (by exact rfl) (He.glo_ok KX G (S.fact 56 rfl))) ma_nil))) ma_nil)))))
  (ms_cons
  (ms_set (i := 1) sc__law_kinds.nd rfl (by first | exact Or.inl rfl | exact Or.inr rfl) (me_bin or_add os_add (me_var 1) (me_lst (ma_cons (me_callB cr_isV (cs_isV rfl (ekit_ok (S.fact 4 rfl))) (by exact rfl) (He.free_ok KX G (S.fact 5 rfl)) (by decide +kernel) (ma_cons (me_var 0) (ma_cons (me_glo (by exact rfl) (He.glo_ok KX G (S.fact 55 rfl))) ma_nil))) (ma_cons (me_callB cr_isV (cs_isV rfl (ekit_ok (S.fact 4 rfl))) (by exact rfl) (He.free_ok KX G (S.fact 5 rfl)) (by decide +kernel) (ma_cons (me_var 0) (ma_cons (me_glo (by exact rfl) (He.glo_ok KX G (S.fact 54 rfl))) ma_nil))) (ma_cons (me_callB cr_isV (cs_isV rfl (ekit_ok (S.fact 4 rfl))) (by exact rfl) (He.free_ok KX G (S.fact 5 rfl)) (by decide +kernel) (ma_cons (me_var 0) (ma_cons (me_glo (by exact rfl) (He.glo_ok KX G (S.fact 53 rfl))) ma_nil))) ma_nil))))))
  (ms_cons
  (ms_set (i := 1) sc__law_kinds.nd rfl (by first | exact Or.inl rfl | exact Or.inr rfl) (me_bin or_add os_add (me_var 1) (me_lst (ma_cons (me_callB cr_isV (cs_isV rfl (ekit_ok (S.fact 4 rfl))) (by exact rfl) (He.free_ok KX G (S.fact 5 rfl)) (by decide +kernel) (ma_cons (me_var 0) (ma_cons (me_glo (by exact rfl) (He.glo_ok KX G (S.fact 48 rfl))) ma_nil))) (ma_cons (me_callB cr_isV (cs_isV rfl (ekit_ok (S.fact 4 rfl))) (by exact rfl) (He.free_ok KX G (S.fact 5 rfl)) (by decide +kernel) (ma_cons (me_var 0) (ma_cons (me_glo (by exact rfl) (He.glo_ok KX G (S.fact 44 rfl))) ma_nil))) (ma_cons (me_callB cr_isV (cs_isV rfl (ekit_ok (S.fact 4 rfl))) (by exact rfl) (He.free_ok KX G (S.fact 5 rfl)) (by decide +kernel) (ma_cons (me_var 0) (ma_cons (me_glo (by exact rfl) (He.glo_ok KX G (S.fact 40 rfl))) ma_nil))) ma_nil))))))
  (ms_cons
  (ms_set (i := 1) sc__law_kinds.nd rfl (by first | exact Or.inl rfl | exact Or.inr rfl) (me_bin or_add os_add (me_var 1) (me_lst (ma_cons (me_callB cr_isV (cs_isV rfl (ekit_ok (S.fact 4 rfl))) (by exact rfl) (He.free_ok KX G (S.fact 5 rfl)) (by decide +kernel) (ma_cons (me_var 0) (ma_cons (me_glo (by exact rfl) (He.glo_ok KX G (S.fact 36 rfl))) ma_nil))) (ma_cons (me_callB cr_isV (cs_isV rfl (ekit_ok (S.fact 4 rfl))) (by exact rfl) (He.free_ok KX G (S.fact 5 rfl)) (by decide +kernel) (ma_cons (me_var 0) (ma_cons (me_glo (by exact rfl) (He.glo_ok KX G (S.fact 32 rfl))) ma_nil))) (ma_cons (me_callB cr_isV (cs_isV rfl (ekit_ok (S.fact 4 rfl))) (by exact rfl) (He.free_ok KX G (S.fact 5 rfl)) (by decide +kernel) (ma_cons (me_var 0) (ma_cons (me_glo (by exact rfl) (He.glo_ok KX G (S.fact 28 rfl))) ma_nil))) ma_nil))))))
  (ms_cons
  (ms_set (i := 1) sc__law_kinds.nd rfl (by first | exact Or.inl rfl | exact Or.inr rfl) (me_bin or_add os_add (me_var 1) (me_lst (ma_cons (me_callB cr_isV (cs_isV rfl (ekit_ok (S.fact 4 rfl))) (by exact rfl) (He.free_ok KX G (S.fact 5 rfl)) (by decide +kernel) (ma_cons (me_var 0) (ma_cons (me_glo (by exact rfl) (He.glo_ok KX G (S.fact 24 rfl))) ma_nil))) (ma_cons (me_callB cr_isV (cs_isV rfl (ekit_ok (S.fact 4 rfl))) (by exact rfl) (He.free_ok KX G (S.fact 5 rfl)) (by decide +kernel) (ma_cons (me_var 0) (ma_cons (me_glo (by exact rfl) (He.glo_ok KX G (S.fact 20 rfl))) ma_nil))) (ma_cons (me_callB cr_isV (cs_isV rfl (ekit_ok (S.fact 4 rfl))) (by exact rfl) (He.free_ok KX G (S.fact 5 rfl)) (by decide +kernel) (ma_cons (me_var 0) (ma_cons (me_glo (by exact rfl) (He.glo_ok KX G (S.fact 16 rfl))) ma_nil))) ma_nil))))))
  (ms_one (ms_ret (me_bin or_add os_add (me_var 1) (me_lst (ma_cons (me_callB cr_isV (cs_isV rfl (ekit_ok (S.fact 4 rfl))) (by exact rfl) (He.free_ok KX G (S.fact 5 rfl)) (by decide +kernel) (ma_cons (me_var 0) (ma_cons (me_glo (by exact rfl) (He.glo_ok KX G (S.fact 12 rfl))) ma_nil))) ma_nil))))))))))
theorem sc__law_plain : FnScope ["_law_thing"] ["_law_thing"] (defScope (top 21)) := ⟨rfl, rfl, rfl, by decide +kernel, rfl, by decide +kernel, by decide +kernel⟩
theorem ok__law_plain (S : SaysB fa fnl K) (KX : K.In h) (G : h.Ns mainGlobals mg) (TB : TabsB K mg base lts) : ∃ fd, FunD K "_law_plain" "_law_plain" (defArgs (top 21)) (defBody (top 21)) (defScope (top 21)) [] [] (He.fAd K ("_law_plain", none)) fd ∧ FnOk P w K mg base (L2.CX P w) 1 (He.fAd K ("_law_plain", none)) fd ["_law_thing"] (spM (CF P w K lf) 1 d__law_plain) := by
  obtain ⟨fd, F⟩ := S.def_ 13 rfl
  refine ⟨fd, F, fn_ok (C := CF P w K lf) (N := ["_law_thing"]) F sc__law_plain (fun cdv A outer s H E hr => ?_)⟩
  have tk : Takes (cxOf (L2.CX P w) P w K mg base ["_law_thing"] "_law_plain" (defScope (top 21)) (He.fAd K ("_law_plain", none)) cdv A outer s H E) (fun cls od _ H => E cls od H) := takes_of rfl rfl rfl rfl
  have pw : PassesOwn (model P w) (cxOf (L2.CX P w) P w K mg base ["_law_thing"] "_law_plain" (defScope (top 21)) (He.fAd K ("_law_plain", none)) cdv A outer s H E).A (cxOf (L2.CX P w) P w K mg base ["_law_thing"] "_law_plain" (defScope (top 21)) (He.fAd K ("_law_plain", none)) cdv A outer s H E).env (cxOf (L2.CX P w) P w K mg base ["_law_thing"] "_law_plain" (defScope (top 21)) (He.fAd K ("_law_plain", none)) cdv A outer s H E).xe := passes_of rfl
  exact (ms_one (ms_ret (me_lst (ma_cons (me_exv0 (c := "NoRule") rfl PySem.F.excBase_ValueError (He.exc_ok (S.fact 60 rfl)).1 (He.glo_ok KX G (S.fact 58 rfl)) (He.exc_ok (S.fact 60 rfl)).2.1 (by exact rfl)) (ma_cons (me_exv1 (c := "NoOrder") rfl PySem.F.excBase_ValueError (He.exc_ok (S.fact 64 rfl)).1 (He.glo_ok KX G (S.fact 57 rfl)) (He.exc_ok (S.fact 64 rfl)).2.1 (by exact rfl) me_str) (ma_cons (me_exv0 (c := "NoTrace") rfl PySem.F.excBase_ValueError (He.exc_ok (S.fact 63 rfl)).1 (He.glo_ok KX G (S.fact 56 rfl)) (He.exc_ok (S.fact 63 rfl)).2.1 (by exact rfl)) (ma_cons (me_exv1 (c := "NoPattern") rfl PySem.F.excBase_ValueError (He.exc_ok (S.fact 62 rfl)).1 (He.glo_ok KX G (S.fact 55 rfl)) (He.exc_ok (S.fact 62 rfl)).2.1 (by exact rfl) me_str) (ma_cons (me_exv0 (c := "Nothing") rfl PySem.F.excBase_ValueError (He.exc_ok (S.fact 61 rfl)).1 (He.glo_ok KX G (S.fact 54 rfl)) (He.exc_ok (S.fact 61 rfl)).2.1 (by exact rfl)) (ma_cons (me_exv1 (c := "Busy") rfl PySem.F.excBase_ValueError (He.exc_ok (S.fact 59 rfl)).1 (He.glo_ok KX G (S.fact 53 rfl)) (He.exc_ok (S.fact 59 rfl)).2.1 (by exact rfl) me_str) (ma_cons (me_exv1 (c := "NoRule") rfl PySem.F.excBase_ValueError (He.exc_ok (S.fact 60 rfl)).1 (He.glo_ok KX G (S.fact 58 rfl)) (He.exc_ok (S.fact 60 rfl)).2.1 (by exact rfl) me_str) (ma_cons (me_exv0 (c := "Busy") rfl PySem.F.excBase_ValueError (He.exc_ok (S.fact 59 rfl)).1 (He.glo_ok KX G (S.fact 53 rfl)) (He.exc_ok (S.fact 59 rfl)).2.1 (by exact rfl)) ma_nil)))))))))))
theorem sc_law : FnScope ["_law_script", "_law_cell", "_law_number", "_law_thing", "_law_some", "_law_made", "_law_word"] ["_law_script"] (defScope (top 25)) := ⟨rfl, rfl, rfl, by decide +kernel, rfl, by decide +kernel, by decide +kernel⟩
theorem ok_law (S : SaysB fa fnl K) (KX : K.In h) (G : h.Ns mainGlobals mg) (TB : TabsB K mg base lts) : ∃ fd, FunD K "law" "law" (defArgs (top 25)) (defBody (top 25)) (defScope (top 25)) [] [] (He.fAd K ("law", none)) fd ∧ FnOk P w K mg base (L2.CX P w) 4 (He.fAd K ("law", none)) fd ["_law_script"] (spM (CF P w K lf) 1 d_law) := by
  obtain ⟨fd, F⟩ := S.def_ 14 rfl
  obtain ⟨fd__law_with, F__law_with, O__law_with⟩ := ok__law_with (P := P) (w := w) (base := base) (lf := lf) S KX G TB
  have B__law_with : L2.Binds K fd__law_with ["_law_thing"] [] := F__law_with.bindsN fun _ _ _ _ _ _ us hl => match us, hl with | [_], _ => rfl
  obtain ⟨fd__law_field, F__law_field, O__law_field⟩ := ok__law_field (P := P) (w := w) (base := base) (lf := lf) S KX G TB
  have B__law_field : L2.Binds K fd__law_field ["_law_made", "_law_word"] [] := F__law_field.bindsN fun _ _ _ _ _ _ us hl => match us, hl with | [_, _], _ => rfl
  obtain ⟨fd__law_kinds, F__law_kinds, O__law_kinds⟩ := ok__law_kinds (P := P) (w := w) (base := base) (lf := lf) S KX G TB
  have B__law_kinds : L2.Binds K fd__law_kinds ["_law_made"] [] := F__law_kinds.bindsN fun _ _ _ _ _ _ us hl => match us, hl with | [_], _ => rfl
  obtain ⟨fd__law_plain, F__law_plain, O__law_plain⟩ := ok__law_plain (P := P) (w := w) (base := base) (lf := lf) S KX G TB
  have B__law_plain : L2.Binds K fd__law_plain ["_law_thing"] [] := F__law_plain.bindsN fun _ _ _ _ _ _ us hl => match us, hl with | [_], _ => rfl
  refine ⟨fd, F, fn_ok (C := CF P w K lf) (N := ["_law_script", "_law_cell", "_law_number", "_law_thing", "_law_some", "_law_made", "_law_word"]) F sc_law (fun cdv A outer s H E hr => ?_)⟩
  have tk : Takes (cxOf (L2.CX P w) P w K mg base ["_law_script", "_law_cell", "_law_number", "_law_thing", "_law_some", "_law_made", "_law_word"] "law" (defScope (top 25)) (He.fAd K ("law", none)) cdv A outer s H E) (fun cls od _ H => E cls od H) := takes_of rfl rfl rfl rfl
  have pw : PassesOwn (model P w) (cxOf (L2.CX P w) P w K mg base ["_law_script", "_law_cell", "_law_number", "_law_thing", "_law_some", "_law_made", "_law_word"] "law" (defScope (top 25)) (He.fAd K ("law", none)) cdv A outer s H E).A (cxOf (L2.CX P w) P w K mg base ["_law_script", "_law_cell", "_law_number", "_law_thing", "_law_some", "_law_made", "_law_word"] "law" (defScope (top 25)) (He.fAd K ("law", none)) cdv A outer s H E).env (cxOf (L2.CX P w) P w K mg base ["_law_script", "_law_cell", "_law_number", "_law_thing", "_law_some", "_law_made", "_law_word"] "law" (defScope (top 25)) (He.fAd K ("law", none)) cdv A outer s H E).xe := passes_of rfl
  exact (ms_cons
  (ms_forT [1, 2, 3, 4, 5, 6] pw rfl (mi_any rfl (me_bin or_add os_add (me_lst (ma_cons me_int (ma_cons me_int (ma_cons me_int (ma_cons me_int ma_nil))))) (me_sl rfl (me_var 0) mo_none (mo_some me_int)))) (mg_name (i := 1) sc_law.nd rfl (by first | exact Or.inl rfl | exact Or.inr rfl))
  (ms_cons
  (ms_set (i := 2) sc_law.nd rfl (by first | exact Or.inl rfl | exact Or.inr rfl) (me_bin op_mod os_mod (me_var 1) (me_bin op_pow os_pow me_int me_int)))
  (ms_cons
  (ms_set (i := 3) sc_law.nd rfl (by first | exact Or.inl rfl | exact Or.inr rfl) (me_at rfl hr.units (me_lst (ma_cons (me_var 2) (ma_cons (me_bin op_sub os_sub me_int (me_var 2)) (ma_cons (me_callTy cr_strI cs_strI (by exact rfl) (He.free_ok KX G (S.fact 8 rfl)) (by decide +kernel) (ma_cons (me_var 2) ma_nil)) (ma_cons (me_tup (ma_cons (me_var 2) (ma_cons me_non ma_nil))) (ma_cons me_non ma_nil)))))) (me_bin op_mod os_mod (me_var 1) me_int)))
  (ms_cons
  (ms_set (i := 4) sc_law.nd rfl (by first | exact Or.inl rfl | exact Or.inr rfl) (me_bin or_add os_add (me_call (ps := ["_law_thing"]) tk O__law_plain (hr.mono (by decide : 1 ≤ 3)) (by exact rfl) (He.glo_ok KX G (S.fact 7 rfl)) F__law_plain.kp B__law_plain .nil Filled.nil (ma_cons (me_var 3) ma_nil)) (me_lcF (own := [("_law_made", 5), ("_law_word", 6)]) (fun _ _ _ => fin_lst) rfl sc_law.nd (mi_any rfl (me_call (ps := ["_law_thing"]) tk O__law_with (hr.mono (by decide : 3 ≤ 3)) (by exact rfl) (He.glo_ok KX G (S.fact 0 rfl)) F__law_with.kp B__law_with .nil Filled.nil (ma_cons (me_var 3) ma_nil))) (blk_of rfl (by kernel_rfl)) (fun _ _ _ _ _ => by exact (pg_tup rfl (pgs_cons (pg_name (i := 5) sc_law.nd rfl (by first | exact Or.inl rfl | exact Or.inr rfl)) (pgs_cons (pg_name (i := 6) sc_law.nd rfl (by first | exact Or.inl rfl | exact Or.inr rfl)) pgs_nil)))) (tgw_tup (tgw_cons (i := 5) (by decide) (tgw_cons (i := 6) (by decide) tgw_nil)) (tgl_cons (tgl_cons tgl_nil))) (fun _ _ _ _ _ => by exact mts_nil) (fun _ _ _ _ _ => by exact (me_var 5)))))
  (ms_cons
  (ms_for pw rfl (mi_any rfl (me_var 4)) (mg_name (i := 5) sc_law.nd rfl (by first | exact Or.inl rfl | exact Or.inr rfl))
  (ms_cons
  (ms_if (mt_w (mw_or (mt_not (mt_val (me_callB cr_isV (cs_isV rfl (ekit_ok (S.fact 4 rfl))) (by exact rfl) (He.free_ok KX G (S.fact 5 rfl)) (by decide +kernel) (ma_cons (me_var 5) (ma_cons (me_glo (by exact rfl) (He.glo_ok KX G (S.fact 3 rfl))) ma_nil))))) (mw_or1 (mt_not (mt_val (me_callB cr_isV (cs_isV rfl (ekit_ok (S.fact 4 rfl))) (by exact rfl) (He.free_ok KX G (S.fact 5 rfl)) (by decide +kernel) (ma_cons (me_var 5) (ma_cons (me_ty (by exact rfl) (He.free_ok KX G (S.fact 6 rfl)) (by decide +kernel)) ma_nil))))))))
  (ms_one (ms_ret me_bl))
  ms_nil)
  (ms_one (ms_if (mt_cmp (op_neD hr.units) os_ne (me_bm rfl PySem.F.plainAttrs_list PySem.F.slot_list_count PySem.F.type_list_count mt_countB ts_lst ms_countB (me_call (ps := ["_law_made"]) tk O__law_kinds (hr.mono (by decide : 1 ≤ 3)) (by exact rfl) (He.glo_ok KX G (S.fact 2 rfl)) F__law_kinds.kp B__law_kinds .nil Filled.nil (ma_cons (me_var 5) ma_nil)) (ma_cons me_bl ma_nil)) me_int)
  (ms_one (ms_ret me_bl))
  ms_nil))))
  (ms_one (ms_for pw rfl (mi_any rfl (me_call (ps := ["_law_thing"]) tk O__law_with (hr.mono (by decide : 3 ≤ 3)) (by exact rfl) (He.glo_ok KX G (S.fact 0 rfl)) F__law_with.kp B__law_with .nil Filled.nil (ma_cons (me_var 3) ma_nil))) (mg_tup rfl rfl (mgs_cons (mg_name (i := 5) sc_law.nd rfl (by first | exact Or.inl rfl | exact Or.inr rfl)) (mgs_cons (mg_name (i := 6) sc_law.nd rfl (by first | exact Or.inl rfl | exact Or.inr rfl)) mgs_nil)) rfl rfl (tgl_cons (tgl_cons tgl_nil)))
  (ms_one (ms_if (mt_cmp (op_neD hr.units) os_ne (me_call (ps := ["_law_made", "_law_word"]) tk O__law_field (hr.mono (by decide : 1 ≤ 3)) (by exact rfl) (He.glo_ok KX G (S.fact 1 rfl)) F__law_field.kp B__law_field .nil Filled.nil (ma_cons (me_var 5) (ma_cons (me_var 6) ma_nil))) (me_var 3))
  (ms_one (ms_ret me_bl))
  ms_nil)))))))))
  (ms_one (ms_ret me_bl)))
end
def lawDepth : Nat := 4
theorem law_fact {P : Program} {w : World} {K : PySem.W.Frag} {h : Heap} {mg : Str → Option Value} {f : Addr} (KX : K.In h) (G : h.Ns mainGlobals mg) (hmg : mg ("law" : Str) = some (.ref f)) (S : SaysB fa fnl K) :
    ∃ fd : FuncData, (∀ (s : Shared) (v : Value), BindsTo s fd ⟨[v], []⟩ [("_law_script", v)]) ∧ ∀ base : Heap, TabsB K mg base lts → FnOk P w K mg base (fun _ _ _ _ _ _ => False) lawDepth f fd ["_law_script"] (fun vs H Q _ => spM (CF P w K none) 1 d_law vs H Q fun _ _ _ => False) := by
  have e := hmg.symm.trans (He.glo_ok KX G (S.fact 66 rfl))
  cases e
  obtain ⟨fd, F⟩ := S.def_ 14 rfl
  refine ⟨fd, fun s v => (FunD.bindsA (ps := ["_law_script"]) F fun _ _ _ _ _ _ us hl => match us, hl with | [_], _ => rfl) s [v] rfl, fun base TB => ?_⟩
  obtain ⟨fd2, F2, O⟩ := ok_law (P := P) (w := w) (base := base) (lf := none) S KX G TB
  cases fun_same F F2
  exact fn_quiet (C := CF P w K none) O
end Lk64
set_option Elab.async false
set_option linter.all false
set_option maxRecDepth 100000
set_option maxHeartbeats 4000000
set_option autoImplicit false
namespace Lk64
open PySem Ws
theorem ap_exv0 (c : Str) (σ : Sl) (h : AH) : exv0 c σ h = .ok (.exv c "" .non) h := (rfl)
theorem ap_exv1 (c : Str) (m : M D) (σ : Sl) (h : AH) : exv1 c m σ h = (m σ h).bind fun _ h1 => .ok (.exv c "" .non) h1 := (rfl)
theorem ap_exvI (c y : Str) (m : M D) (σ : Sl) (h : AH) : exvI c y m σ h = (m σ h).bind fun d h1 => if (nkOf d).isSome = true ∧ y ≠ "" then .ok (.exv c y d) h1 else .bad := (rfl)
def plnL : List D := [.exv "NoRule" "" .non, .exv "NoOrder" "" .non, .exv "NoTrace" "" .non, .exv "NoPattern" "" .non, .exv "Nothing" "" .non, .exv "Busy" "" .non, .exv "NoRule" "" .non, .exv "Busy" "" .non]
def wthL : List (Str × Str) := [("NoThing", "what"), ("NoHouse", "what"), ("NoWish", "at"), ("NoBeat", "thing"), ("NoPaper", "at"), ("NoSight", "at"), ("NoPlan", "at"), ("NoPrice", "thing"), ("NoRate", "thing"), ("TooMany", "many")]
def wthD (d : D) (q : Str × Str) : D := .tup [.exv q.1 q.2 d, .str q.2]
theorem pure_wth (L : Nat) (d : D) : pureDs L (wthL.map (wthD d)) = true := pureDs_map fun _ _ => rfl
theorem c_plain64 {d : D} (pd : pureD 0 d = true) (h : AH) : cal 1 [] d__law_plain [d] h = .ok (.lst plnL) h := by
  have pr : pureD 0 (.lst plnL) = true := rfl
  refine cal_pure (h0 := []) rfl (by show (pureD 0 d && true) = true; rw [pd]; rfl) (fn_rt0 (h' := []) ?_ pr) pr
  show m__law_plain [some d] [] = _
  unfold m__law_plain
  have l8 : ∀ (a b c d e f g i : D) (h : AH), gLst [a, b, c, d, e, f, g, i] h = .ok (.lst [a, b, c, d, e, f, g, i]) h := fun _ _ _ _ _ _ _ _ _ => rfl
  simp only [ap_ret, ap_app, ap_cons, ap_nil, ap_cst, ap_exv0, ap_exv1, x_bind_ok, x_bindS_ok, l8]
  rfl
theorem c_with64 {d : D} (pd : pureD 0 d = true) {k : NK} (ek : nkOf d = some k) (h : AH) : cal 1 [] d__law_with [d] h = .ok (.lst (wthL.map (wthD d))) h := by
  have pr : pureD 0 (.lst (wthL.map (wthD d))) = true := pure_wth 0 d
  refine cal_pure (h0 := []) rfl (by show (pureD 0 d && true) = true; rw [pd]; rfl) (fn_rt0 (h' := []) ?_ pr) pr
  show m__law_with [some d, none] [] = _
  unfold m__law_with
  have hx : ∀ (c y : Str) (hy : y ≠ "") (x1 : Option D) (h : AH), exvI c y (var 0) [some d, x1] h = .ok (.exv c y d) h := fun c y hy x1 h => by
    rw [ap_exvI, ap_var]
    simp only [List.getElem?_cons_zero, List.getElem?_cons_succ, List.set_cons_zero, List.set_cons_succ, if_true, Bool.false_eq_true, if_false, ite_true, ite_false, Bool.not_true, Bool.not_false, x_bind_ok]
    rw [if_pos ⟨by rw [ek]; rfl, hy⟩]
  have h1 := fun c x1 h => hx c "what" (by decide +kernel) x1 h
  have h2 := fun c x1 h => hx c "at" (by decide +kernel) x1 h
  have h3 := fun c x1 h => hx c "thing" (by decide +kernel) x1 h
  have h4 := fun c x1 h => hx c "many" (by decide +kernel) x1 h
  have l4 : ∀ (a b c d : D) (h : AH), gLst [a, b, c, d] h = .ok (.lst [a, b, c, d]) h := fun _ _ _ _ _ => rfl
  have l2 : ∀ (a b : D) (h : AH), gLst [a, b] h = .ok (.lst [a, b]) h := fun _ _ _ => rfl
  have t2 : ∀ (a b : D) (h : AH), gTup [a, b] h = .ok (.tup [a, b]) h := fun _ _ _ => rfl
  have c44 : ∀ (a b c d e f g i : D) (h : AH), gAdd (.lst [a, b, c, d]) (.lst [e, f, g, i]) h = .ok (.lst [a, b, c, d, e, f, g, i]) h := fun _ _ _ _ _ _ _ _ _ => rfl
  have c82 : ∀ (a b c d e f g i j k : D) (h : AH), gAdd (.lst [a, b, c, d, e, f, g, i]) (.lst [j, k]) h = .ok (.lst [a, b, c, d, e, f, g, i, j, k]) h := fun _ _ _ _ _ _ _ _ _ _ _ => rfl
  simp only [ap_seq, ap_asg, ap_tgN, ap_ret, ap_bin, ap_app, ap_cons, ap_nil, ap_cst, ap_var, List.getElem?_cons_zero, List.getElem?_cons_succ, List.set_cons_zero, List.set_cons_succ, if_true, Bool.false_eq_true, if_false, ite_true, ite_false, Bool.not_true, Bool.not_false, h1, h2, h3, h4, t2, l4, l2, c44, c82, x_bind_ok, x_bindS_ok]
  rfl
def knd16 : List Str := ["NoRule", "NoOrder", "NoTrace", "NoPattern", "Nothing", "Busy", "NoThing", "NoHouse", "NoWish", "NoBeat", "NoPaper", "NoSight", "NoPlan", "NoPrice", "NoRate", "TooMany"]
theorem is_v {c y : Str} {x : D} (hc : Ty.c c ∈ ekt.tys) {k : Str} (hk : Ty.c k ∈ ekt.cls) (h : AH) : gIsV ekt [.exv c y x, .glo k] h = .ok (.bl (ekt.sub (.c c) (.c k))) h := by
  show (if Ty.c c ∈ ekt.tys ∧ Ty.c k ∈ ekt.cls then Out.ok (D.bl (ekt.sub (.c c) (.c k))) h else .bad) = _
  rw [if_pos ⟨hc, hk⟩]
theorem c_kinds64 {c y : Str} {x : D} (hc : Ty.c c ∈ ekt.tys) (h : AH) : cal 1 [] d__law_kinds [.exv c y x] h = .ok (.lst ((knd16.map fun k => ekt.sub (.c c) (.c k)).map .bl)) h := by
  have pr : pureD 0 (.lst ((knd16.map fun k => ekt.sub (.c c) (.c k)).map .bl)) = true := rfl
  refine cal_pure (h0 := []) rfl rfl (fn_rt0 (h' := []) ?_ pr) pr
  show m__law_kinds [some (.exv c y x), none] [] = _
  unfold m__law_kinds
  have iv := fun k (hk : Ty.c k ∈ ekt.cls) (h : AH) => is_v (y := y) (x := x) hc hk h
  have i1 := iv "NoRule" (by decide +kernel)
  have i2 := iv "NoOrder" (by decide +kernel)
  have i3 := iv "NoTrace" (by decide +kernel)
  have i4 := iv "NoPattern" (by decide +kernel)
  have i5 := iv "Nothing" (by decide +kernel)
  have i6 := iv "Busy" (by decide +kernel)
  have i7 := iv "NoThing" (by decide +kernel)
  have i8 := iv "NoHouse" (by decide +kernel)
  have i9 := iv "NoWish" (by decide +kernel)
  have ja := iv "NoBeat" (by decide +kernel)
  have jb := iv "NoPaper" (by decide +kernel)
  have jc := iv "NoSight" (by decide +kernel)
  have jd := iv "NoPlan" (by decide +kernel)
  have je := iv "NoPrice" (by decide +kernel)
  have jf := iv "NoRate" (by decide +kernel)
  have jg := iv "TooMany" (by decide +kernel)
  have l3 : ∀ (a b c : D) (h : AH), gLst [a, b, c] h = .ok (.lst [a, b, c]) h := fun _ _ _ _ => rfl
  have l1 : ∀ (a : D) (h : AH), gLst [a] h = .ok (.lst [a]) h := fun _ _ => rfl
  have k1 : ∀ (a b c d e f : D) (h : AH), gAdd (.lst [a, b, c]) (.lst [d, e, f]) h = .ok (.lst [a, b, c, d, e, f]) h := fun _ _ _ _ _ _ _ => rfl
  have k2 : ∀ (a b c d e f g i j : D) (h : AH), gAdd (.lst [a, b, c, d, e, f]) (.lst [g, i, j]) h = .ok (.lst [a, b, c, d, e, f, g, i, j]) h := fun _ _ _ _ _ _ _ _ _ _ => rfl
  have k3 : ∀ (a b c d e f g i j k l m : D) (h : AH), gAdd (.lst [a, b, c, d, e, f, g, i, j]) (.lst [k, l, m]) h = .ok (.lst [a, b, c, d, e, f, g, i, j, k, l, m]) h := fun _ _ _ _ _ _ _ _ _ _ _ _ _ => rfl
  have k4 : ∀ (a b c d e f g i j k l m n o p : D) (h : AH), gAdd (.lst [a, b, c, d, e, f, g, i, j, k, l, m]) (.lst [n, o, p]) h = .ok (.lst [a, b, c, d, e, f, g, i, j, k, l, m, n, o, p]) h := fun _ _ _ _ _ _ _ _ _ _ _ _ _ _ _ _ => rfl
  have k5 : ∀ (a b c d e f g i j k l m n o p q : D) (h : AH), gAdd (.lst [a, b, c, d, e, f, g, i, j, k, l, m, n, o, p]) (.lst [q]) h = .ok (.lst [a, b, c, d, e, f, g, i, j, k, l, m, n, o, p, q]) h := fun _ _ _ _ _ _ _ _ _ _ _ _ _ _ _ _ _ => rfl
  simp only [ap_seq, ap_asg, ap_tgN, ap_ret, ap_bin, ap_app, ap_cons, ap_nil, ap_cst, ap_var, List.getElem?_cons_zero, List.getElem?_cons_succ, List.set_cons_zero, List.set_cons_succ, if_true, Bool.false_eq_true, if_false, ite_true, ite_false, Bool.not_true, Bool.not_false, i1, i2, i3, i4, i5, i6, i7, i8, i9, ja, jb, jc, jd, je, jf, jg, l3, l1, k1, k2, k3, k4, k5, x_bind_ok, x_bindS_ok]
  rfl
theorem c_field64 {d : D} (pd : pureD 0 d = true) {q : Str × Str} (hq : q ∈ wthL) (h : AH) : cal 2 [] d__law_field [.exv q.1 q.2 d, .str q.2] h = .ok d h := by
  refine cal_pure (h0 := []) rfl rfl (fn_rt0 (h' := []) ?_ pd) pd
  show m__law_field [some (.exv q.1 q.2 d), some (.str q.2)] [] = _
  unfold m__law_field
  have lw : PyData.canLay0 (.str "what") = true := by decide +kernel
  have la : PyData.canLay0 (.str "at") = true := by decide +kernel
  have lt : PyData.canLay0 (.str "thing") = true := by decide +kernel
  have lm : PyData.canLay0 (.str "many") = true := by decide +kernel
  have fv : ∀ (cs : List Str) (c y : Str) (x1 : Option D) (h : AH), c ∈ cs → y ≠ "" → fldV cs y (var 0) [some (.exv c y d), x1] h = .ok d h := fun cs c y x1 h hc hy => by
    show (if c ∈ cs ∧ y = y ∧ y ≠ "" then Out.ok d h else .bad) = _
    exact if_pos ⟨hc, rfl, hy⟩
  have ew : ∀ (y z : Str) (hy : PyData.canLay0 (.str y) = true) (hz : PyData.canLay0 (.str z) = true) (b : Bool) (hb : decide (y = z) = b) (h : AH), gEqD (.str y) (.str z) h = .ok (.bl b) h := fun y z hy hz b hb h => by rw [o_eqS _ hy hz, hb]
  unfold wthL at hq
  have e11 := ew "what" "what" lw lw true (by decide +kernel)
  have e21 := ew "at" "what" la lw false (by decide +kernel)
  have e22 := ew "at" "at" la la true (by decide +kernel)
  have e31 := ew "thing" "what" lt lw false (by decide +kernel)
  have e32 := ew "thing" "at" lt la false (by decide +kernel)
  have e33 := ew "thing" "thing" lt lt true (by decide +kernel)
  have e41 := ew "many" "what" lm lw false (by decide +kernel)
  have e42 := ew "many" "at" lm la false (by decide +kernel)
  have e43 := ew "many" "thing" lm lt false (by decide +kernel)
  simp only [List.mem_cons, List.not_mem_nil, or_false] at hq
  rcases hq with rfl | rfl | rfl | rfl | rfl | rfl | rfl | rfl | rfl | rfl
  all_goals
    first
    | (simp only [ap_seq, ap_ifS, ap_asB, ap_ifE, ap_bin, ap_var, ap_cst, ap_ret, ap_skip, List.getElem?_cons_zero, List.getElem?_cons_succ, List.set_cons_zero, List.set_cons_succ, if_true, Bool.false_eq_true, if_false, ite_true, ite_false, Bool.not_true, Bool.not_false, x_bind_ok, x_bindS_ok, x_isBl, e11, e21, e22, e31, e32, e33, e41, e42, e43, if_true, if_false, Bool.false_eq_true]; rw [fv _ _ _ _ _ (by decide +kernel) (by decide +kernel)]; rfl)
    | (simp only [ap_seq, ap_ifS, ap_asB, ap_ifE, ap_bin, ap_var, ap_cst, ap_ret, ap_skip, List.getElem?_cons_zero, List.getElem?_cons_succ, List.set_cons_zero, List.set_cons_succ, if_true, Bool.false_eq_true, if_false, ite_true, ite_false, Bool.not_true, Bool.not_false, x_bind_ok, x_bindS_ok, x_isBl, e11, e21, e22, e31, e32, e33, e41, e42, e43, if_true, if_false, Bool.false_eq_true])
def okN (c : Str) : Bool := decide (Ty.c c ∈ ekt.tys) && (ekt.sub (.c c) (.c "ShelfError") && (ekt.sub (.c c) (.b "ValueError") && decide ((knd16.map fun k => ekt.sub (.c c) (.c k)).count true = 1)))
theorem ok_all : ∀ c ∈ ((["NoRule", "NoOrder", "NoTrace", "NoPattern", "Nothing", "Busy"] : List Str) ++ wthL.map (·.1)), okN c = true := by
  have : ((["NoRule", "NoOrder", "NoTrace", "NoPattern", "Nothing", "Busy"] : List Str) ++ wthL.map (·.1)).all okN = true := by decide +kernel
  exact List.all_eq_true.mp this
theorem log64 {i : Int} (h : i.natAbs < 2 ^ 100) : i.natAbs.log2 < 1920 := by
  by_cases z : i.natAbs = 0
  · rw [z]; decide
  · have := (Nat.log2_lt z).mpr h
    omega
theorem lay64 (s : String) : PyData.canLay0 (.str (s : Str)) = true := okStr fun c hc => by
  unfold cps at hc
  rw [Str.ofString_eq_toList] at hc
  obtain ⟨d, _, rfl⟩ := List.mem_map.mp (by simpa using hc)
  have := d.valid
  rcases this with h | ⟨_, h⟩
  · have : d.toNat < 55296 := h
    omega
  · exact h
noncomputable def mdB : SM := (seqS
  (ifS (orB (notB (asB (app (gIsV ekt) (consA (var 5) (consA (cst (.glo "ShelfError")) nilA))))) (notB (asB (app (gIsV ekt) (consA (var 5) (consA (cst (.ty "ValueError")) nilA))))))
  (ret (cst (.bl false)))
  skip)
  (ifS (asB (bin (gNot gEqD) (bm isLst gCountB (app (cal 1 [] d__law_kinds) (consA (var 5) nilA)) (consA (cst (.bl true)) nilA)) (cst (.int 1))))
  (ret (cst (.bl false)))
  skip))
noncomputable def fdB : SM := (ifS (asB (bin (gNot gEqD) (app (cal 2 [] d__law_field) (consA (var 5) (consA (var 6) nilA))) (var 3)))
  (ret (cst (.bl false)))
  skip)
abbrev sl64 (ns : List Int) (c n : Int) (d : D) (x4 x5 x6 : Option D) : Sl := [some (.scr ns), some (.int c), some (.int n), some d, x4, x5, x6]
theorem md_turn {ns : List Int} {c n : Int} {d : D} {x4 x5 x6 : Option D} {e y : Str} {x : D} (he : okN e = true) (h : AH) : turnS (tgN 5) mdB (.exv e y x) (sl64 ns c n d x4 x5 x6) h = .nx (sl64 ns c n d x4 (some (.exv e y x)) x6) h := by
  unfold okN at he
  simp only [Bool.and_eq_true, decide_eq_true_eq] at he
  obtain ⟨h1, h2, h3, h4⟩ := he
  have i1 : ∀ h, gIsV ekt [.exv e y x, .glo "ShelfError"] h = .ok (.bl true) h := fun h => by rw [is_v h1 (by decide +kernel), h2]
  have i2 : ∀ h, gIsV ekt [.exv e y x, .ty "ValueError"] h = .ok (.bl true) h := fun h => by
    show (if Ty.c e ∈ ekt.tys ∧ Ty.b "ValueError" ∈ ekt.cls then Out.ok (D.bl (ekt.sub (.c e) (.b "ValueError"))) h else .bad) = _
    rw [if_pos ⟨h1, by decide +kernel⟩, h3]
  have ck := fun h => c_kinds64 (y := y) (x := x) h1 h
  have ct : ∀ h, gCountB (.lst ((knd16.map fun k => ekt.sub (.c e) (.c k)).map .bl)) [.bl true] h = .ok (.int 1) h := fun h => by
    show (match btsOf ((knd16.map fun k => ekt.sub (.c e) (.c k)).map .bl) with
      | some bs => Out.ok (D.int (bs.count true : Nat)) h
      | none => .bad) = _
    rw [btsOf_map]
    dsimp only
    rw [h4]
    rfl
  have ne : ∀ h, gNot gEqD (.int 1) (.int 1) h = .ok (.bl false) h := fun h => ne_ii _ h
  have il : ∀ xs h, isLst (.lst xs) h = true := fun _ _ => rfl
  rw [ap_turn, ap_tgN]
  dsimp only [List.set_cons_succ, List.set_cons_zero]
  unfold mdB
  simp only [ap_seq, ap_ifS, ap_orB, ap_notB, ap_asB, ap_bin, ap_bm, ap_app, ap_cons, ap_nil, ap_var, ap_cst, List.getElem?_cons_zero, List.getElem?_cons_succ, List.set_cons_zero, List.set_cons_succ, if_true, Bool.false_eq_true, if_false, ite_true, ite_false, Bool.not_true, Bool.not_false, x_bind_ok, x_isBl, i1, i2, x_bindS_ok, ap_skip, ck, il, ct, ne, Bool.false_eq_true, if_false, if_true, Bool.not_true]
theorem md_all {ns : List Int} {c n : Int} {d : D} {x4 x6 : Option D} (h : AH) : ∀ (ds : List D), (∀ z ∈ ds, ∃ e y x, z = .exv e y x ∧ okN e = true) → ∀ x5, ∃ y5, forGo keepAll (tgN 5) mdB ds (sl64 ns c n d x4 x5 x6) h = .nx (sl64 ns c n d x4 y5 x6) h
  | [], _, x5 => ⟨x5, by simp [forGo]⟩
  | z :: ds, hz, x5 => by
    obtain ⟨e, y, x, rfl, he⟩ := hz z List.mem_cons_self
    obtain ⟨y5, r⟩ := md_all h ds (fun w hw => hz w (List.mem_cons_of_mem _ hw)) (some (.exv e y x))
    exact ⟨y5, by rw [forGo_go (md_turn he h), r]⟩
theorem fd_all {ns : List Int} {c n : Int} {d : D} (pd : pureD 0 d = true) (fd : fit 64 d = true) (sn : ∀ h, seen d h = d) {x4 : Option D} (h : AH) : ∀ (qs : List (Str × Str)), (∀ q ∈ qs, q ∈ wthL) → ∀ x5 x6, ∃ y5 y6, forGo keepAll (tgTup (tgCons (tgN 5) (tgCons (tgN 6) tgNil))) fdB (qs.map (wthD d)) (sl64 ns c n d x4 x5 x6) h = .nx (sl64 ns c n d x4 y5 y6) h
  | [], _, x5, x6 => ⟨x5, x6, by simp [forGo]⟩
  | q :: qs, hq, x5, x6 => by
    have cf := fun h => c_field64 pd (hq q List.mem_cons_self) h
    have ne : ∀ h, gNot gEqD d d h = .ok (.bl false) h := fun h => o_neSelf h (sn h) fd
    have t : turnS (tgTup (tgCons (tgN 5) (tgCons (tgN 6) tgNil))) fdB (wthD d q) (sl64 ns c n d x4 x5 x6) h = .nx (sl64 ns c n d x4 (some (.exv q.1 q.2 d)) (some (.str q.2))) h := by
      have tg : tgTup (tgCons (tgN 5) (tgCons (tgN 6) tgNil)) (wthD d q) (sl64 ns c n d x4 x5 x6) h = .ok (sl64 ns c n d x4 (some (.exv q.1 q.2 d)) (some (.str q.2))) h := rfl
      rw [ap_turn, tg]
      dsimp only
      unfold fdB
      simp only [ap_ifS, ap_asB, ap_bin, ap_app, ap_cons, ap_nil, ap_var, List.getElem?_cons_zero, List.getElem?_cons_succ, List.set_cons_zero, List.set_cons_succ, if_true, Bool.false_eq_true, if_false, ite_true, ite_false, Bool.not_true, Bool.not_false, x_bind_ok, x_isBl, cf, ne, x_bindS_ok, ap_skip, Bool.false_eq_true, if_false]
    obtain ⟨y5, y6, r⟩ := fd_all pd fd sn h qs (fun w hw => hq w (List.mem_cons_of_mem _ hw)) (some (.exv q.1 q.2 d)) (some (.str q.2))
    exact ⟨y5, y6, by rw [List.map_cons, forGo_go t, r]⟩
theorem pow30b (h : AH) : gPow (.int 10) (.int 30) h = .ok (.int 1000000000000000000000000000000) h := rfl
noncomputable def bodyL : SM := (seqS
  (asg (bin gMod (var 1) (bin gPow (cst (.int 10)) (cst (.int 30)))) (tgN 2))
  (seqS
  (asg (bin gAt (app gLst (consA (var 2) (consA (bin gSub (cst (.int 0)) (var 2)) (consA (app gStrI (consA (var 2) nilA)) (consA (app gTup (consA (var 2) (consA (cst .non) nilA))) (consA (cst .non) nilA)))))) (bin gMod (var 1) (cst (.int 5)))) (tgN 3))
  (seqS
  (asg (bin gAdd (app (cal 1 [] d__law_plain) (consA (var 3) nilA)) (ccF [5, 6] (walk itemsA (app (cal 1 [] d__law_with) (consA (var 3) nilA))) (tgTup (tgCons (tgN 5) (tgCons (tgN 6) tgNil))) yesB (emE (var 5) stepL) [] finL)) (tgN 4))
  (seqS
  (forS (walk itemsA (var 4)) (tgN 5) mdB)
  (forS (walk itemsA (app (cal 1 [] d__law_with) (consA (var 3) nilA))) (tgTup (tgCons (tgN 5) (tgCons (tgN 6) tgNil))) fdB)))))
theorem body_ok {ns : List Int} (c : Int) : ∃ σ2 h2, bodyL [some (.scr ns), some (.int c), none, none, none, none, none] [] = .nx σ2 h2 ∧ trim 0 [1, 2, 3, 4, 5, 6] σ2 h2 = .ok [some (.scr ns), none, none, none, none, none, none] [] := by
  obtain ⟨n, en⟩ : ∃ n : Int, n = c % 1000000000000000000000000000000 := ⟨_, rfl⟩
  have n0 : 0 ≤ n := by rw [en]; exact Int.emod_nonneg _ (by decide)
  have n1 : n < 1000000000000000000000000000000 := by rw [en]; exact Int.emod_lt_of_pos _ (by decide)
  have m30 : ∀ h, gMod (.int c) (.int 1000000000000000000000000000000) h = .ok (.int n) h := fun h => by rw [o_mod (by decide), en]
  have m5 : ∀ h, gMod (.int c) (.int 5) h = .ok (.int (c % 5)) h := fun h => o_mod (by decide) h
  have st : ∀ h, gStrI [.int n] h = .ok (.str ((toString n : String) : Str)) h := fun h => by
    show (if n.natAbs.log2 < 1920 then Out.ok (D.str ((toString n : String) : Str)) h else .bad) = _
    rw [if_pos (log64 (by omega))]
  have l5 : ∀ (a b c d e : D) (h : AH), gLst [a, b, c, d, e] h = .ok (.lst [a, b, c, d, e]) h := fun _ _ _ _ _ _ => rfl
  have lay := lay64 (toString n)
  obtain ⟨d, k, ed, pd, ek, fd, sn⟩ : ∃ (d : D) (k : NK), (∀ h, gAt (.lst [.int n, .int (0 - n), .str ((toString n : String) : Str), .tup [.int n, .non], .non]) (.int (c % 5)) h = .ok d h) ∧ pureD 0 d = true ∧ nkOf d = some k ∧ fit 64 d = true ∧ ∀ h, seen d h = d := by
    have h0 : 0 ≤ c % 5 := Int.emod_nonneg _ (by decide)
    have h5 : c % 5 < 5 := Int.emod_lt_of_pos _ (by decide)
    obtain ⟨j, ej⟩ : ∃ j : Nat, c % 5 = (j : Nat) := ⟨(c % 5).toNat, by omega⟩
    rw [ej] at h5 ⊢
    have ga : ∀ (d : D) (hj : [D.int n, .int (0 - n), .str ((toString n : String) : Str), .tup [.int n, .non], .non][j]? = some d) (h : AH), gAt (.lst [.int n, .int (0 - n), .str ((toString n : String) : Str), .tup [.int n, .non], .non]) (.int (j : Nat)) h = .ok d h := fun d hj h => by
      have := at_lst (f := fun d : D => d) (xs := [D.int n, .int (0 - n), .str ((toString n : String) : Str), .tup [.int n, .non], .non]) (i := (j : Nat)) (n := j) D.non h rfl (List.getElem?_eq_some_iff.mp hj).1
      rw [List.map_id'] at this
      rw [this, List.getD_eq_getElem?_getD, hj]
      rfl
    match j, h5 with
    | 0, _ => exact ⟨_, _, ga (.int n) rfl, rfl, by unfold nkOf; rfl, fit_int _, fun _ => rfl⟩
    | 1, _ => exact ⟨_, _, ga (.int (0 - n)) rfl, rfl, by unfold nkOf; rfl, fit_int _, fun _ => rfl⟩
    | 2, _ => exact ⟨_, _, ga (.str _) rfl, rfl, by unfold nkOf; rfl, fit_str lay, fun _ => rfl⟩
    | 3, _ => exact ⟨_, _, ga (.tup [.int n, .non]) rfl, rfl, by unfold nkOf nkOfs nkOfs nkOfs nkOf; rfl, fit_tup (n := 63) fun d hd => by
        rcases List.mem_cons.mp hd with z | z
        · rw [z]; exact fit_int _
        · rw [List.mem_singleton.mp z]; exact fit_non, fun _ => rfl⟩
    | 4, _ => exact ⟨_, _, ga .non rfl, rfl, by unfold nkOf; rfl, fit_non, fun _ => rfl⟩
    | j + 5, h => omega
  have cp := fun h => c_plain64 pd h
  have cw := fun h => c_with64 pd ek h
  have iw : ∀ h, itemsA (.lst (wthL.map (wthD d))) h = .ok (wthL.map (wthD d)) h := fun _ => rfl
  have cc : ∀ (x4 : Option D) (h : AH), ccF [5, 6] (walk itemsA (app (cal 1 [] d__law_with) (consA (var 3) nilA))) (tgTup (tgCons (tgN 5) (tgCons (tgN 6) tgNil))) yesB (emE (var 5) stepL) [] finL (sl64 ns c n d x4 none none) h = .ok (.lst (wthL.map fun q => .exv q.1 q.2 d)) h := fun x4 h =>
    ccF_map (xs := wthL) (g := wthD d) (f := fun q => .exv q.1 q.2 d) (by simp only [ap_walk, ap_app, ap_cons, ap_nil, ap_var, List.getElem?_cons_zero, List.getElem?_cons_succ, List.set_cons_zero, List.set_cons_succ, if_true, Bool.false_eq_true, if_false, ite_true, ite_false, Bool.not_true, Bool.not_false, x_bind_ok, cw, iw]) (fun q _ => ⟨[some (.scr ns), some (.int c), some (.int n), some d, x4, some (.exv q.1 q.2 d), some (.str q.2)], rfl, rfl, rfl⟩) (by decide)
  have ct : ∀ h, gAdd (.lst plnL) (.lst (wthL.map fun q => .exv q.1 q.2 d)) h = .ok (.lst (plnL ++ wthL.map fun q => .exv q.1 q.2 d)) h := fun h => o_catL _ _ h (by rw [List.length_map]; decide)
  have i4 : ∀ h, itemsA (.lst (plnL ++ wthL.map fun q => .exv q.1 q.2 d)) h = .ok (plnL ++ wthL.map fun q => .exv q.1 q.2 d) h := fun _ => rfl
  obtain ⟨y5, r1⟩ := md_all (ns := ns) (c := c) (n := n) (d := d) (x4 := some (.lst (plnL ++ wthL.map fun q => .exv q.1 q.2 d))) (x6 := none) [] (plnL ++ wthL.map fun q => .exv q.1 q.2 d) (fun z hz => by
    rcases List.mem_append.mp hz with w | w
    · unfold plnL at w
      simp only [List.mem_cons, List.not_mem_nil, or_false] at w
      rcases w with rfl | rfl | rfl | rfl | rfl | rfl | rfl | rfl
      all_goals exact ⟨_, _, _, rfl, ok_all _ (by decide +kernel)⟩
    · obtain ⟨q, hq, rfl⟩ := List.mem_map.mp w
      exact ⟨_, _, _, rfl, ok_all _ (List.mem_append_right _ (List.mem_map_of_mem hq))⟩) none
  obtain ⟨z5, z6, r2⟩ := fd_all (ns := ns) (c := c) (n := n) pd fd sn (x4 := some (.lst (plnL ++ wthL.map fun q => .exv q.1 q.2 d))) [] wthL (fun _ h => h) y5 none
  generalize (plnL ++ wthL.map fun q => D.exv q.1 q.2 d) = LL1 at ct i4 r1 r2
  generalize wthL.map (wthD d) = LL2 at cw iw r2
  refine ⟨sl64 ns c n d (some (.lst LL1)) z5 z6, [], ?_, trim_to (by simp only [wipeD, List.set_cons_succ, List.set_cons_zero]) rfl⟩
  unfold bodyL
  rw [seq_asg (i := 2) (d := .int n) (h' := []) (by simp only [ap_bin, ap_var, ap_cst, List.getElem?_cons_zero, List.getElem?_cons_succ, List.set_cons_zero, List.set_cons_succ, if_true, Bool.false_eq_true, if_false, ite_true, ite_false, Bool.not_true, Bool.not_false, x_bind_ok, pow30b, m30])]
  rw [seq_asg (i := 3) (d := d) (h' := []) (by simp only [List.set_cons_succ, List.set_cons_zero, ap_bin, ap_app, ap_cons, ap_nil, ap_var, ap_cst, List.getElem?_cons_zero, List.getElem?_cons_succ, List.set_cons_zero, List.set_cons_succ, if_true, Bool.false_eq_true, if_false, ite_true, ite_false, Bool.not_true, Bool.not_false, x_bind_ok, o_sub, st, o_tup2, l5, m5, ed])]
  show seqS _ _ (sl64 ns c n d none none none) _ = _
  rw [seq_asg (i := 4) (d := .lst LL1) (h' := []) (by rw [ap_bin, ap_app, ap_cons, ap_var]; simp only [List.getElem?_cons_zero, List.getElem?_cons_succ, List.set_cons_zero, List.set_cons_succ, if_true, Bool.false_eq_true, if_false, ite_true, ite_false, Bool.not_true, Bool.not_false, x_bind_ok, ap_nil, cp, cc, ct])]
  show seqS _ _ (sl64 ns c n d (some (.lst LL1)) none none) _ = _
  rw [seq_nx (for_at (ds := LL1) (h' := []) (by simp only [ap_walk, ap_var, List.getElem?_cons_zero, List.getElem?_cons_succ, List.set_cons_zero, List.set_cons_succ, if_true, Bool.false_eq_true, if_false, ite_true, ite_false, Bool.not_true, Bool.not_false, x_bind_ok, i4]) r1)]
  exact for_at (ds := LL2) (h' := []) (by simp only [ap_walk, ap_app, ap_cons, ap_nil, ap_var, List.getElem?_cons_zero, List.getElem?_cons_succ, List.set_cons_zero, List.set_cons_succ, if_true, Bool.false_eq_true, if_false, ite_true, ite_false, Bool.not_true, Bool.not_false, x_bind_ok, cw, iw]) r2
theorem math (ns : List Int) (hl : ns.length ≤ 63) : ∃ h', d_law [.scr ns] [] = .ok (.bl true) h' := by
  refine ⟨[], fn_rt0 (h' := []) ?_ rfl⟩
  show m_law [some (.scr ns), none, none, none, none, none, none] [] = _
  unfold m_law
  rw [seq_nx (σ' := [some (.scr ns), none, none, none, none, none, none]) (h' := [])]
  · rfl
  · unfold forT
    rw [law_walk hl (pre := [0, 1, 2, 3]) rfl rfl (by decide)]
    simp only [bindS_ok]
    refine forGo_trim fun d hd => ?_
    obtain ⟨c, _, rfl⟩ := List.mem_map.mp hd
    obtain ⟨σ2, h2, k1, k2⟩ := body_ok (ns := ns) c
    exact ⟨_, [], σ2, h2, rfl, k1, k2⟩
end Lk64
open PySem PySem.W PySem.Calls PyProof.Rows
theorem PySem.Challenge.cw_wishshelf_k64_refusals_by_hand_holds : PySem.Challenge.rw_wishshelf_k64_refusals_by_hand.Holds := by
  w_on; o_law
  refine HandSHeadRun.head_any (r := OpenLaw.row PySem.Challenge.rw_wishshelf_k64_refusals_by_hand) (q := view (OpenLaw.row PySem.Challenge.rw_wishshelf_k64_refusals_by_hand).prog [25]) (H := Lk64.Hd.hk) (ob := Lk64.Hd.ob) (M := 8000) (loose := Lk64.Hd.loose) (d := HandSHeadRun.topDef (OpenLaw.row PySem.Challenge.rw_wishshelf_k64_refusals_by_hand).prog 25) (kwd := []) Lk64.Hd.ob_eq
    (by kernel_rfl) (fun s => by kernel_rfl) Lk64.Hd.run (by kernel_rfl) (by kernel_rfl) (by kernel_rfl) (by rfl) (by first | assumption | decide +kernel) (by decide +kernel) ⟨rfl, rfl, rfl, rfl, rfl, by decide +kernel⟩ ?hw ?hc
  case hw => w_witness2
  case hc =>
    refine L2.walk_ofE (l := PySem.Challenge.rw_wishshelf_k64_refusals_by_hand) (n := 63) (k := Lk64.lawDepth) (x := "_law_script") (CX := fun _ _ _ _ _ _ => False) rfl (by decide) (by kernel_rfl) ⟨rfl, by decide, by decide⟩ ?F (fun _ _ _ _ z => z)
    intro w mg fa h Y G hmg0
    obtain ⟨K, KX, c⟩ := Y
    have hmg : mg ("law" : PySem.Str) = some (.ref fa) := by
      have e : (HandSHeadRun.topDef (OpenLaw.row PySem.Challenge.rw_wishshelf_k64_refusals_by_hand).prog 25).name = ("law" : PySem.Str) := by kernel_rfl
      rw [← e]
      exact hmg0
    obtain ⟨fd, hb, hF⟩ := Lk64.law_fact (P := (PySem.Challenge.rw_wishshelf_k64_refusals_by_hand).prog) (w := w) KX G hmg c
    exact ⟨K, fd, _, KX, hb, fun H a ns hl _ hS => (let ⟨h', e⟩ := Lk64.math ns hl; Ws.spM_law (C := Lk64.CF (PySem.Challenge.rw_wishshelf_k64_refusals_by_hand).prog w K none) rfl hS e), fun base _ _ => hF base fun _ z => nomatch z⟩
