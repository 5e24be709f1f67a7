import PyProof.Rows.All
import HandS.Head0
import HandS.Head1
import HandS.Head2
import HandS.HeadEnd
import HandS.WordsExc
import HandS.ForMost
import HandS.ForExc
import HandS.Defaults
import HandS.MakeKw
import HandS.MakeKwOnly
import HandS.HeadHook1
import HandS.HeadHook2
import HandS.CallSlots
import HandS.IsInst
import HandS.ExcInit
import HandS.ExcIs
import HandS.ExcField
import HandS.OwnEq
import HandS.Strs
import HandS.TupAny
import HandS.Style
import HandS.More
import KE.KDictKeyed
import KE.KDictDisplayH
import HandS.TupLen
import KE.KDictCopyH
import HandS.Set
import HandS.SetKeys
import HandS.SetBool
import HandS.Comp
import HandS.TupSets
import HandS.ExcValue
import HandS.DictComp
import HandS.Lambda
import HandS.Rev
import HandS.Zip
import KE.GoesMore
import KE.GoesEnum
import KE.GoesZip
import HandS.Small
import HandS.WordsDict
import HandS.Deep
import PyProof.TupleOfSeq
import PyProof.Rows.SortShellAny
import HandS.SortInts
import HandS.DeepEq
import KE.KIndexOf
import HandS.Finally
import KE.KSortTupG
import KE.KDictPairs
import HandS.SortKw
import KE.DataMinMax
import HandS.HeadWalk
import HandS.TupLe
import KE.LtData
import HandS.Sort
import KE.KDictList
import KE.KDictWalk
import PyProof.SumAny
import HandS.SetFor
import HandS.EndTab
import PyProof.ReprRoads
import HandS.TupMul
import HandS.Conv
import PyProof.InstEq
import PySem.Challenge.RW_wishshelf_k02_what_is_no_thing
set_option Elab.async false
set_option linter.all false
set_option maxRecDepth 100000
set_option maxHeartbeats 2000000
set_option autoImplicit false
namespace Ws
open PySem PySem.Spec PyProof.Rows L2
inductive Ty where
  | b (n : String) | c (x : Str)
  deriving DecidableEq
def Ty.v (K : PySem.W.Frag) : Ty → Value
  | .b n => .type n
  | .c x => .ref (He.ga K x)
structure Kit where
  tys : List Ty
  cls : List Ty
  sub : Ty → Ty → Bool
abbrev Chk := PySem.W.Frag → Bool
def obsB (fa : List Chk) (fn : List He.DefD) (K : PySem.W.Frag) : He.AlD := ((fa.all fun f => f K) && fn.all fun d => d.ok K, fn.map fun d => He.fnW K d.at_)
def SaysB (fa : List Chk) (fn : List He.DefD) (K : PySem.W.Frag) : Prop := obsB fa fn K = He.valD fn
def cFa (f : He.Fa) : Chk := fun K => f.ok K
def cIns (x : Str) : Chk := fun K => (He.Fa.cls x).ok K && (He.eqO (PySem.W.findIn K (.ref (He.ga K x)) "__class__") (some (some (.builtin "object.__class__"))) && (decide (PySem.W.specialIn K (.builtin "object.__class__") "__get__" = some (some (.builtin "getset_descriptor.__get__"))) &&
  (decide (PySem.W.takesIn K (.builtin "object.__class__") = some true) && decide (PySem.W.mroIn K (He.ga K x) (.type "object") = some true))))
def cExc (x : Str) : Chk := fun K => He.eqO (PySem.W.findIn K (.ref (He.ga K x)) "__getattribute__") (some (some (.builtin "BaseException.__getattribute__"))) && (He.eqO (PySem.W.findIn K (.ref (He.ga K x)) "__getattr__") (some none) && (decide (PySem.W.subIn K (.ref (He.ga K x)) (.type "BaseException") = some true) && (PySem.W.hasDictIn K (He.ga K x) &&
  (He.eqO (PySem.W.findIn K (.ref (He.ga K x)) "__class__") (some (some (.builtin "object.__class__"))) && (decide (PySem.W.specialIn K (.builtin "object.__class__") "__get__" = some (some (.builtin "getset_descriptor.__get__"))) &&
  (decide (PySem.W.takesIn K (.builtin "object.__class__") = some true) && decide (PySem.W.mroIn K (He.ga K x) (.type "object") = some true)))))))
def cMko (x : Str) : Chk := fun K => PySem.W.makesIn K (He.ga K x) && (He.eqO (PySem.W.findIn K (.ref (He.ga K x)) "__init__") (some (some (.builtin "object.__init__"))) && (decide (PySem.W.subIn K (.ref (He.ga K x)) (.type "object") = some true) && PySem.W.keepIn K (.ref (He.ga K x))))
def cOexO (K : PySem.W.Frag) (C : Addr) : Bool := match K.lookup C with
  | some ⟨.type "type", _, .cls cd, sl⟩ => (match cd.mro, sl.toList with
    | .ref C' :: bm, [_, _, _, _, some (.builtin n), _] => C' == C && (n == "ValueError.__new__" && (!cd.hasDel && (cd.hasDict && PySem.HandSPX.refsVE bm)))
    | _, _ => false)
  | _ => false
def cOex (x : Str) : Chk := fun K => cOexO K (He.ga K x) && (He.eqO (PySem.W.findIn K (.ref (He.ga K x)) "__setattr__") (some (some (.builtin "object.__setattr__"))) && (decide (PySem.W.subIn K (.ref (He.ga K x)) (.type "BaseException") = some true) && (decide (PySem.W.typeIn K (.ref (He.ga K x)) = some (.type "type")) && PySem.W.keepIn K (.ref (He.ga K x)))))
def cNo (x y : Str) : Chk := fun K => He.eqO (PySem.W.findIn K (.ref (He.ga K x)) y) (some none)
def cXf (cs : List Str) (y : Str) : Chk := fun K => cs.all fun c => xfB K (He.ga K c) && cNo c y K
/-- B.__init__ is ValueError's -/
def cBase (b : Str) : Chk := fun K => decide (PySem.W.specialIn K (.ref (He.ga K b)) "__getattribute__" = some (some (.builtin "type.__getattribute__"))) && (PySem.W.readsIn K (He.ga K b) (.type "type") && (match PySem.W.findCls K (.ref (He.ga K b)) (.type "type") "__init__" with
  | some (.val (.builtin n)) => n == "ValueError.__init__"
  | _ => false))
def cKit (kt : Kit) : Chk := fun K => (kt.tys.all fun t => match t with
  | .c c => cIns c K
  | _ => true) && kt.tys.all fun t => kt.cls.all fun c => decide (PySem.W.kitOne K (t.v K) (c.v K) = some (kt.sub t c))
def cEkit (kt : Kit) : Chk := fun K => (kt.tys.all fun t => match t with
  | .c c => cExc c K
  | _ => true) && kt.tys.all fun t => kt.cls.all fun c => decide (PySem.W.kitOne K (t.v K) (c.v K) = some (kt.sub t c))
def cCat (b : Str) (ps : List (Str × Bool)) : Chk := fun K => ps.all fun p => decide (PySem.W.exmOne K (.ref (He.ga K p.1)) (.ref (He.ga K b)) = some p.2)
def cHas (cs : List Str) (y : Str) : Chk := fun K => cs.all fun c => (He.Fa.cls c).ok K && (He.Fa.noat c y).ok K
def cNotF (c : Str) (kt : Kit) : Chk := fun K => kt.tys.all fun t => PySem.W.notFirst K (He.ga K c) (t.v K)
def clsDefs : Stmt → List Stmt
  | .ClassDef _ _ _ body _ _ _ _ _ _ _ => body
  | _ => []
def bitA (m a : Nat) : Bool := Nat.beq (Nat.land (Nat.shiftRight m a) 1) 1
def markA {α : Type} (k : Nat → List Addr → α) : List Addr → Nat → List Addr → α
  | [], m, acc => k m acc
  | a :: r, m, acc => HandSHeadRun.frNat a fun a => match bitA m a with
    | true => markA k r m acc
    | false => HandSHeadRun.frNat (Nat.lor m (Nat.shiftLeft 1 a)) fun m => markA k r m (a :: acc)
def refsA (g : Addr → Option Obj) (a : Addr) : List Addr := match g a with
  | some o => He.refsD o
  | none => []
def goA (g : Addr → Option Obj) : Nat → Nat → List Addr → List Addr → List Addr
  | 0, _, _, all => all
  | n + 1, m, fr, all => markA (fun m new => goA g n m new (all ++ new)) (fr.flatMap (refsA g)) m []
def asA (g : Addr → Option Obj) (n : Nat) : List Addr := goA g n (Nat.shiftLeft 1 mainGlobals) [mainGlobals] [mainGlobals]
def obsCG (n : Nat) (fa : List Chk) (fn : List He.DefD) (g : Addr → Option Obj) : He.AlD := obsB fa fn (He.frG g (asA g n ++ [cStatics]))
def hookC (n : Nat) (fa : List Chk) (fn : List He.DefD) : PySem.W.Hook where
  α := He.AlD
  obs := fun s => obsCG n fa fn s.heap.get?
  val := fun _ => He.valD fn
  says := fun _ h => ∃ K : PySem.W.Frag, K.In h ∧ SaysB fa fn K
  of := fun _ _ e => ⟨_, He.frG_in, e⟩
  keeps := fun _ _ _ ⟨K, hK, c⟩ k => ⟨K, PySem.W.Frag.In.keeps hK k, c⟩
theorem obsCG_eq {n : Nat} {fa : List Chk} {fn : List He.DefD} {g : Addr → Option Obj} {s : Shared} (h : ∀ a, g a = s.heap.get? a) : obsCG n fa fn g = (hookC n fa fn).obs s := by
  have e : g = s.heap.get? := funext h
  rw [e] <;> rfl
def cMeth (c m : Str) (p : Str × Option Str) : Chk := fun K => He.eqO (PySem.W.findIn K (.ref (He.ga K c)) m) (some (some (.ref (He.fAd K p)))) && (PySem.W.isFn K (.ref (He.fAd K p)) && PySem.W.keepIn K (.ref (He.fAd K p)))
def cMk (c : Str) (p : Str × Option Str) : Chk := fun K => PySem.W.makesIn K (He.ga K c) && (He.eqO (PySem.W.findIn K (.ref (He.ga K c)) "__init__") (some (some (.ref (He.fAd K p)))) && (PySem.W.isFn K (.ref (He.fAd K p)) && PySem.W.keepIn K (.ref (He.ga K c))))
def cOexI (c : Str) (p : Str × Option Str) : Chk := fun K => He.eqO (PySem.W.findIn K (.ref (He.ga K c)) "__init__") (some (some (.ref (He.fAd K p)))) && decide (PySem.W.typeIn K (.ref (He.fAd K p)) = some (.type "function"))
end Ws
namespace Ws
open PySem PySem.Spec PyProof.Rows L2
def codeOf (K : PySem.W.Frag) (p : Str × Option Str) : Addr := match K.lookup (He.fAd K p) with
  | some ⟨_, _, .func fd, _⟩ => (match fd.code with
    | .ref c => c
    | _ => 0)
  | _ => 0
def tabAt (K : PySem.W.Frag) (p : Str × Option Str) : Addr := match K.lookup (codeOf K p) with
  | some ⟨.type "code", _, .fields vs, _⟩ => (match (vs[11]? : Option Value) with
    | some (.ref P) => P
    | _ => 0)
  | _ => 0
end Ws
set_option Elab.async false
set_option linter.all false
set_option maxRecDepth 100000
set_option maxHeartbeats 4000000
set_option autoImplicit false
namespace Lk02
open PySem PySem.Spec PyProof.Rows L2 Ws
def top (i : Nat) : Stmt := PySem.Challenge.pw_wishshelf_k02_what_is_no_thing.main.body.getD i (.Pass ⟨0, 0, 0, 0⟩)
def subs : List (Ty × Ty) := [(.b "bool", .b "int"), (.c "Front", .c "Rule"), (.c "By", .c "Rule"), (.c "Half", .c "Rule"), (.c "Like", .c "Rule")]
def kt : Kit := ⟨[.b "NoneType", .b "bool", .b "int", .b "str", .b "tuple", .b "list", .b "dict", .c "Rule", .c "Front", .c "By", .c "Half", .c "Like", .c "Thing"], [.c "Thing", .c "Rule", .b "int", .b "bool", .b "str", .c "Front", .c "By", .c "Half", .c "Like"], fun t c => decide (t = c) || subs.contains (t, c)⟩
def esubs : List (Ty × Ty) := [(.c "ShelfError", .b "ValueError"), (.c "NoRule", .c "ShelfError"), (.c "NoRule", .b "ValueError"), (.c "NoThing", .c "ShelfError"), (.c "NoThing", .b "ValueError"), (.c "NoHouse", .c "ShelfError"), (.c "NoHouse", .b "ValueError")]
def ekt : Kit := ⟨[.c "ShelfError", .c "NoRule", .c "NoThing", .c "NoHouse"], [.c "NoThing", .b "ValueError", .c "NoHouse", .c "NoRule"], fun t c => decide (t = c) || esubs.contains (t, c)⟩
def lts : List ((Str × Option Str) × Str) := []
def cNe (c : Str) : Chk := fun K => He.eqO (PySem.W.findIn K (.ref (He.ga K c)) "__ne__") (some (some (.builtin "object.__ne__"))) && PySem.W.plainOver K (He.ga K c)
def fa1 : List Chk := [cFa (.glo "_law_made"), cFa (.free "min"), cFa (.glo "_law_bad"), cFa (.free "list"), cFa (.free "range"), cFa (.glo "_law_digit"), cMeth "Thing" "__eq__" ("Thing", some "__eq__"), cKit kt, cNotF "Thing" kt, cMeth "Front" "__eq__" ("Rule", some "__eq__"), cNotF "Front" kt, cMeth "By" "__eq__" ("Rule", some "__eq__"), cNotF "By" kt, cMeth "Half" "__eq__" ("Rule", some "__eq__"), cNotF "Half" kt, cMeth "Like" "__eq__" ("Rule", some "__eq__"), cNotF "Like" kt, cMko "Front", cFa (.glo "Front"), cNe "Thing", cHas ["Thing"] "weight", cHas ["Thing"] "rule", cNe "Front", cNe "By", cNe "Half", cNe "Like", cMk "Thing" ("Thing", some "__init__"), cFa (.glo "Thing"), cFa (.free "isinstance"), cHas ["Thing"] "marks", cHas ["Thing"] "name", cFa (.glo "_law_good"), cFa (.glo "NoThing"), cEkit ekt, cFa (.free "ValueError"), cFa (.glo "NoRule"), cFa (.glo "NoHouse"), cXf ["NoThing", "NoHouse"] "what", cFa (.glo "ShelfError"), cCat "ShelfError" [("ShelfError", true), ("NoRule", true), ("NoThing", true), ("NoHouse", true)], cFa (.glo "Rule"), cOex "NoThing", cNo "NoThing" "what", cOexI "NoThing" ("NoThing", some "__init__"), cFa (.int "MOST_WEIGHT" 99), cFa (.glo "is_whole"), cFa (.glo "are_marks"), cFa (.glo "is_name"), cFa (.free "int"), cFa (.free "bool"), cFa (.free "zip"), cFa (.free "all"), cFa (.free "str"), cFa (.str "LETTERS" "abcdefghijklmnopqrstuvwxyz"), cFa (.free "len"), cFa (.int "MOST_SIGNS" 8), cFa (.cls "Front"), cMeth "Front" "same_class" ("Front", some "same_class"), cFa (.cls "By"), cMeth "By" "same_class" ("By", some "same_class"), cFa (.cls "Half"), cMeth "Half" "same_class" ("Half", some "same_class"), cFa (.cls "Like"), cMeth "Like" "same_class" ("Like", some "same_class"), cMeth "Front" "steps_of" ("Rule", some "steps_of"), cMeth "By" "steps_of" ("By", some "steps_of"), cMeth "Half" "steps_of" ("Rule", some "steps_of"), cMeth "Like" "steps_of" ("Rule", some "steps_of"), cFa (.glo "By"), cFa (.glo "Half"), cFa (.glo "Like"), cHas ["By"] "steps", cMko "Like", cMko "Half", cMk "By" ("By", some "__init__"), cFa (.exc "NoRule"), cBase "ShelfError", cFa (.glo "law")]
def fa : List Chk := fa1
def fn1 : List He.DefD := [⟨("NoThing", some "__init__"), "__init__", "NoThing.__init__", defArgs ((clsDefs (top 4)).getD 0 (.Pass ⟨0, 0, 0, 0⟩)), defBody ((clsDefs (top 4)).getD 0 (.Pass ⟨0, 0, 0, 0⟩)), defScope ((clsDefs (top 4)).getD 0 (.Pass ⟨0, 0, 0, 0⟩)), [], []⟩,
  ⟨("is_whole", none), "is_whole", "is_whole", defArgs (top 9), defBody (top 9), defScope (top 9), [], []⟩,
  ⟨("are_marks", none), "are_marks", "are_marks", defArgs (top 11), defBody (top 11), defScope (top 11), [], []⟩,
  ⟨("is_name", none), "is_name", "is_name", defArgs (top 10), defBody (top 10), defScope (top 10), [], []⟩,
  ⟨("Thing", some "__init__"), "__init__", "Thing.__init__", defArgs ((clsDefs (top 20)).getD 0 (.Pass ⟨0, 0, 0, 0⟩)), defBody ((clsDefs (top 20)).getD 0 (.Pass ⟨0, 0, 0, 0⟩)), defScope ((clsDefs (top 20)).getD 0 (.Pass ⟨0, 0, 0, 0⟩)), [], [("weight", .int 0), ("rule", .non)]⟩,
  ⟨("_law_made", none), "_law_made", "_law_made", defArgs (top 26), defBody (top 26), defScope (top 26), [], []⟩,
  ⟨("_law_digit", none), "_law_digit", "_law_digit", defArgs (top 23), defBody (top 23), defScope (top 23), [], []⟩,
  ⟨("_law_bad", none), "_law_bad", "_law_bad", defArgs (top 25), defBody (top 25), defScope (top 25), [], []⟩,
  ⟨("Front", some "same_class"), "same_class", "Front.same_class", defArgs ((clsDefs (top 14)).getD 0 (.Pass ⟨0, 0, 0, 0⟩)), defBody ((clsDefs (top 14)).getD 0 (.Pass ⟨0, 0, 0, 0⟩)), defScope ((clsDefs (top 14)).getD 0 (.Pass ⟨0, 0, 0, 0⟩)), [], []⟩,
  ⟨("By", some "same_class"), "same_class", "By.same_class", defArgs ((clsDefs (top 15)).getD 1 (.Pass ⟨0, 0, 0, 0⟩)), defBody ((clsDefs (top 15)).getD 1 (.Pass ⟨0, 0, 0, 0⟩)), defScope ((clsDefs (top 15)).getD 1 (.Pass ⟨0, 0, 0, 0⟩)), [], []⟩,
  ⟨("Half", some "same_class"), "same_class", "Half.same_class", defArgs ((clsDefs (top 16)).getD 0 (.Pass ⟨0, 0, 0, 0⟩)), defBody ((clsDefs (top 16)).getD 0 (.Pass ⟨0, 0, 0, 0⟩)), defScope ((clsDefs (top 16)).getD 0 (.Pass ⟨0, 0, 0, 0⟩)), [], []⟩,
  ⟨("Like", some "same_class"), "same_class", "Like.same_class", defArgs ((clsDefs (top 17)).getD 0 (.Pass ⟨0, 0, 0, 0⟩)), defBody ((clsDefs (top 17)).getD 0 (.Pass ⟨0, 0, 0, 0⟩)), defScope ((clsDefs (top 17)).getD 0 (.Pass ⟨0, 0, 0, 0⟩)), [], []⟩,
  ⟨("Rule", some "steps_of"), "steps_of", "Rule.steps_of", defArgs ((clsDefs (top 13)).getD 1 (.Pass ⟨0, 0, 0, 0⟩)), defBody ((clsDefs (top 13)).getD 1 (.Pass ⟨0, 0, 0, 0⟩)), defScope ((clsDefs (top 13)).getD 1 (.Pass ⟨0, 0, 0, 0⟩)), [], []⟩,
  ⟨("By", some "steps_of"), "steps_of", "By.steps_of", defArgs ((clsDefs (top 15)).getD 2 (.Pass ⟨0, 0, 0, 0⟩)), defBody ((clsDefs (top 15)).getD 2 (.Pass ⟨0, 0, 0, 0⟩)), defScope ((clsDefs (top 15)).getD 2 (.Pass ⟨0, 0, 0, 0⟩)), [], []⟩,
  ⟨("Rule", some "__eq__"), "__eq__", "Rule.__eq__", defArgs ((clsDefs (top 13)).getD 0 (.Pass ⟨0, 0, 0, 0⟩)), defBody ((clsDefs (top 13)).getD 0 (.Pass ⟨0, 0, 0, 0⟩)), defScope ((clsDefs (top 13)).getD 0 (.Pass ⟨0, 0, 0, 0⟩)), [], []⟩,
  ⟨("Thing", some "__eq__"), "__eq__", "Thing.__eq__", defArgs ((clsDefs (top 20)).getD 1 (.Pass ⟨0, 0, 0, 0⟩)), defBody ((clsDefs (top 20)).getD 1 (.Pass ⟨0, 0, 0, 0⟩)), defScope ((clsDefs (top 20)).getD 1 (.Pass ⟨0, 0, 0, 0⟩)), [], []⟩,
  ⟨("By", some "__init__"), "__init__", "By.__init__", defArgs ((clsDefs (top 15)).getD 0 (.Pass ⟨0, 0, 0, 0⟩)), defBody ((clsDefs (top 15)).getD 0 (.Pass ⟨0, 0, 0, 0⟩)), defScope ((clsDefs (top 15)).getD 0 (.Pass ⟨0, 0, 0, 0⟩)), [], []⟩,
  ⟨("_law_good", none), "_law_good", "_law_good", defArgs (top 24), defBody (top 24), defScope (top 24), [], []⟩,
  ⟨("law", none), "law", "law", defArgs (top 27), defBody (top 27), defScope (top 27), [], []⟩]
def fnl : List He.DefD := fn1
namespace Hd
open HandSHeadRun PySem PySem.W PySem.Calls PyProof.Rows
abbrev Rw : PySem.W.OpenRow := PySem.W.OpenLaw.row PySem.Challenge.rw_wishshelf_k02_what_is_no_thing
def loose : List PySem.Str := (["_wall", "__name__", "ShelfError", "NoRule", "NoThing", "NoHouse", "LETTERS", "MOST_SIGNS", "is_whole", "is_name", "are_marks", "Rule", "Front", "By", "Half", "Like", "MOST_WEIGHT", "Thing", "_law_cell_at", "_law_digit", "_law_good", "_law_bad", "_law_made"] : List PySem.Str)
abbrev hk : PySem.W.Hook := hookC 6 fa fnl
def ob (s : PySem.W.SharedT) : He.AlD := obsCG 6 fa fnl (HandSHeadRun.getT s)
theorem ob_eq (s : PySem.W.SharedT) : ob s = hk.obs s.abs := obsCG_eq (HandSHeadRun.getT_eq s)
theorem run (w : World) : HandSHeadRun.RunEq Rw (PySem.W.view Rw.prog [27]) hk ob 8000 loose w := by
  intro os
  kernel_rfl
end Hd
end Lk02
set_option Elab.async false
set_option linter.all false
set_option maxRecDepth 100000
set_option autoImplicit false
namespace Ws
open PySem PySem.Spec PyProof.Rows L2
/-- the tuple at a is a plain one -/
def TupP (H : Hp) (a : Addr) (ys : List V) : Prop := ∃ o : Obj, H a = some (.frz o (.tup ys)) ∧ o.dict = none
theorem TupP.sq {H : Hp} {K : PySem.W.Frag} {a : Addr} {ys : List V} (h : TupP H a ys) : SqT K H a ys := let ⟨o, e, _⟩ := h; .inl (.inr ⟨o, e⟩)
/-- a new plain tuple -/
abbrev newT (H : Hp) (ys : List V) (Q : VK) : Prop := ∀ (p : Addr) (o : Obj), H p = none → o.dict = none → Q (.ref p) (upd H p (.frz o (.tup ys)))
section
variable {X : Cx} {pins : List (Addr × Obj)} {σ : L2.St} {H : Hp} {s : Shared}
theorem laid_tup (I : Inv X pins σ H s) {us : List Value} {ys : List V} (r : Vals ys us) (z : ys.length ≤ sizeLine) {m : Nat} {t' : Nat} :
    Inv X pins σ (upd H s.heap.objs.size (.frz { cls := .type "tuple", data := .seq us.toArray m } (.tup ys))) { s with heap := s.heap.push { cls := .type "tuple", data := .seq us.toArray m }, toks := t' } := by
  refine I.laid (t' := t') (fun b u e => Heap.get?_push_of_some _ e) (Nat.le_refl _) ?_
  exact ⟨Heap.get?_push_size _ rfl, z, us, r, ⟨_, Heap.get?_push_size _ rfl, rfl, m, rfl⟩⟩
end
section
variable {X : Cx} {es : List Expr} {t : TA} {pos : Pos}
def tTupP (t : TA) : TE := fun σ H Q => t σ H fun xs H1 => xs.length ≤ sizeLine ∧ newT H1 xs Q
theorem pe_tupP {k : Nat} (h : PA X es t) : PE X (.Tuple es k pos) (tTupP t) := ⟨fun pins s σ H Q I hq => by
  refine wpAny_Tuple_spliced (thn (h.run pos pins s σ H _ I hq) fun us s1 ⟨xs, H1, I1, r, z, q⟩ => ⟨r.length ▸ z, ?_⟩)
  exact ⟨.ref _, _, laid_tup I1 r z, rfl, q _ _ (I1.hok.fresh (Nat.le_refl _)) rfl⟩⟩
def rCatP (K : PySem.W.Frag) : R2 := fun x y H Q => ∃ a b xs ys, (x = .ref a ∧ y = .ref b) ∧ (SqT K H a xs ∧ SqT K H b ys) ∧ xs.length + ys.length ≤ sizeLine ∧
  (xs = [] → Q (.ref b) H) ∧ (xs ≠ [] → ys = [] → Q (.ref a) H) ∧ (xs ≠ [] → ys ≠ [] → newT H (xs ++ ys) Q)
theorem op_catP : OpR X (binaryOp .Add) (rCatP X.K) := by
  rintro pins s σ H x y v u Q I rx ry ⟨a, b, xs, ys, ⟨rfl, rfl⟩, ⟨ha, hb⟩, hz, q0, q1, q2⟩
  cases rx
  cases ry
  obtain ⟨ia, ra, pa, _⟩ := I.tuple ha
  obtain ⟨ib, rb, pb, _⟩ := I.tuple hb
  by_cases hx : xs = []
  · subst hx
    cases ra
    exact cat_tup0 pa pb ⟨.ref b, H, I, rfl, q0 rfl⟩
  · refine HT.cat_tup pa pb (fun z => hx (ra.nil_iff.mp z)) (fun z => ⟨.ref a, H, I, rfl, q1 hx (rb.nil_iff.mp z)⟩) (fun z => ?_) (by rw [← ra.length, ← rb.length]; exact hz)
    exact ⟨.ref _, _, laid_tup I (ra.append rb) (by rw [List.length_append]; exact hz), rfl, q2 hx (fun e => z (rb.nil_iff.mpr e)) _ _ (I.hok.fresh (Nat.le_refl _)) rfl⟩
def rSlP (K : PySem.W.Frag) : V → Option Int → Option Int → Hp → VK → Prop := fun x lo hi H Q => ∃ a xs, x = .ref a ∧ SqT K H a xs ∧
  (HT.sIx xs.length 0 lo = 0 ∧ HT.sIx xs.length xs.length hi = xs.length → Q (.ref a) H) ∧ (¬ (HT.sIx xs.length 0 lo = 0 ∧ HT.sIx xs.length xs.length hi = xs.length) → newT H (cutV xs lo hi) Q)
theorem sl_tupP : SlR X (rSlP X.K) := by
  rintro pins s σ H x v vl vu lo hi sl Q I rx hs pl pu ⟨a, xs, rfl, hx, q1, q2⟩
  cases rx
  obtain ⟨its, r, ht, hz⟩ := I.tuple hx
  have hlen : its.toArray.size = xs.length := by simp [r.length]
  refine ⟨"tuple", _, PyProof.Rows.slot_tuple_getitem.lookup, ht.typeIs, ?_⟩
  by_cases hw : HT.sIx xs.length 0 lo = 0 ∧ HT.sIx xs.length xs.length hi = xs.length
  · exact getItem_tuple_whole ht hs pl pu (by rw [hlen]; exact hw) ⟨.ref a, H, I, rfl, q1 hw⟩
  · refine HT.getItem_tuple_cut ht hs pl pu (by rw [hlen]; exact hw) ?_ (by rw [hlen]; exact hz)
    rw [hlen]
    exact ⟨.ref _, _, laid_tup I ((r.drop (HT.sIx xs.length 0 lo)).take (HT.sIx xs.length xs.length hi - HT.sIx xs.length 0 lo)) (Nat.le_trans (cutV_length xs lo hi) hz), rfl, q2 hw _ _ (I.hok.fresh (Nat.le_refl _)) rfl⟩
end
/-- the value at x is of the type T, and has no dict -/
def TyN (X : Cx) (T : String) (x : V) (H : Hp) : Prop := ∀ (pins : List (Addr × Obj)) (s : Shared) (σ : L2.St) (v : Value), Inv X pins σ H s → RelV x v → s.TypeIs v T ∧ ∀ a, v = .ref a → ∃ ob, s.heap.get? a = some ob ∧ ob.dict = none
theorem TyN.of {X : Cx} {T : String} {x : V} {H : Hp} (h : tyV X.K T x H) : TyN X T x H := fun _ _ _ _ I r => tyV_is I r h
theorem TyN.tup {X : Cx} {a : Addr} {ys : List V} {H : Hp} (h : TupP H a ys) : TyN X "tuple" (.ref a) H := fun pins s σ v I r => by
  cases (show v = Value.ref a from r)
  obtain ⟨o, e, hd⟩ := h
  obtain ⟨go, z, us, rv, tp⟩ := I.hok a _ e
  obtain ⟨o', go', hc, _⟩ := tp
  rw [go] at go'
  cases go'
  exact ⟨⟨o, go, hc⟩, fun b eb => by cases eb; exact ⟨o, go, hd⟩⟩
end Ws
set_option Elab.async false
set_option linter.all false
set_option maxRecDepth 100000
set_option autoImplicit false
namespace Ws
open PySem PySem.Spec PyProof.Rows L2
abbrev NK := NestedKey
mutual
/-- the value v is the key k -/
def nkV (H : Hp) : NK → V → Prop
  | .none, v => v = .non
  | .num i, v => v = .int i ∨ ∃ b : Bool, v = .bl b ∧ i = if b = true then 1 else 0
  | .text x, v => v = .str x
  | .tup ks, v => ∃ a ys, v = .ref a ∧ Rd H a (.tup ys) ∧ nkVs H ks ys
def nkVs (H : Hp) : List NK → List V → Prop
  | [], vs => vs = []
  | k :: ks, vs => ∃ v r, vs = v :: r ∧ nkV H k v ∧ nkVs H ks r
end
section
variable {P : Program} {w : World} {H : Hp} {h : Heap}
mutual
theorem nk_is (hok : HOk P w H h) : ∀ {k : NK} {v : V} {u : Value}, nkV H k v → RelV v u → NestedIs h k u
  | .none, v, u, e, r => by unfold nkV at e; subst e; cases (show u = Value.none from r); exact .none
  | .num i, v, u, e, r => by
    unfold nkV at e
    rcases e with e | ⟨b, e, ei⟩
    · subst e; obtain ⟨t, rfl⟩ := (show ∃ t, u = Value.int i t from r); exact .int i t
    · subst e; cases (show u = Value.bool b from r); exact .bool ei
  | .text x, v, u, e, r => by unfold nkV at e; subst e; obtain ⟨t, rfl⟩ := (show ∃ t, u = Value.str x t from r); exact .text x t
  | .tup ks, v, u, e, r => by
    unfold nkV at e
    obtain ⟨a, ys, rfl, rd, q⟩ := e
    cases (show u = Value.ref a from r)
    obtain ⟨z, us, rv, o, go, hc, n, hd⟩ := rd.ok hok
    exact .tup go hc hd (by simpa using nks_is hok q rv)
theorem nks_is (hok : HOk P w H h) : ∀ {ks : List NK} {vs : List V} {us : List Value}, nkVs H ks vs → Vals vs us → NestedAll h ks us
  | [], vs, us, e, r => by unfold nkVs at e; subst e; cases r; exact .nil
  | k :: ks, vs, us, e, r => by
    unfold nkVs at e
    obtain ⟨v, t, rfl, a, b⟩ := e
    cases r with
    | cons r1 r2 => exact .cons (nk_is hok a r1) (nks_is hok b r2)
end
end
/-- a key's own tuple stands at b -/
structure KeyAt (H : Hp) (k : NK) (b : Addr) : Prop where
  at_ : nkV H k (.ref b)
  dp : k.depth ≤ 8
theorem KeyAt.is {P : Program} {w : World} {H : Hp} {h : Heap} {k : NK} {b : Addr} (x : KeyAt H k b) (hok : HOk P w H h) : (nestedKind P w).is h k b := ⟨nk_is hok x.at_ rfl, x.dp⟩
abbrev NP := List (NK × Addr × V)
abbrev relN : (NK × Addr × V) → (NK × Addr × Value) → Prop := fun p q => p.1 = q.1 ∧ p.2.1 = q.2.1 ∧ RelV p.2.2 q.2.2
def dN (P : Program) (w : World) (a : Addr) (ps : NP) (h : Heap) : Prop := (a == sysModules) = false ∧ ps.length ≤ sizeLine ∧ ∃ xs : List (NK × Addr × Value), Paired relN ps xs ∧
  ∃ (o : Obj) (es : Array DictEntry) (ep : Nat), h.get? a = some o ∧ o.ExactDict ∧ o.data = .dict es ep ∧ es.toList = xs.map (entryOfKey (nestedKind P w)) ∧ (xs.map (·.1)).Nodup
/-- the dict at a, as it stands in the abstract heap -/
def dictN (P : Program) (w : World) (a : Addr) (ps : NP) : HO := .ext (dN P w a ps)
theorem dN_ok {P : Program} {w : World} {H : Hp} {h : Heap} {a : Addr} {ps : NP} (x : dN P w a ps h) : ObjOk P w H h a (dictN P w a ps) := by
  obtain ⟨hs, hl, xs, pr, o, es, ep, go, r⟩ := id x
  exact ⟨x, ⟨o, go⟩, fun h1 h2 ⟨q1, q2, xs, q3, o, es, ep, g1, q4⟩ k => ⟨q1, q2, xs, q3, o, es, ep, k o g1, q4⟩⟩
def KeysAt (H : Hp) (ps : NP) : Prop := ∀ p ∈ ps, KeyAt H p.1 p.2.1
section
variable {X : Cx} {pins : List (Addr × Obj)} {σ : L2.St} {H : Hp} {s : Shared} {a : Addr} {ps : NP}
theorem relN_keys {xs : List (NK × Addr × Value)} (h : Paired relN ps xs) : ∀ x ∈ xs, ∃ p ∈ ps, p.1 = x.1 ∧ p.2.1 = x.2.1 := by
  induction h with
  | nil => intro x hx; cases hx
  | cons r _ ih =>
    intro x hx
    rcases List.mem_cons.mp hx with e | e
    · subst e; exact ⟨_, List.mem_cons_self, r.1, r.2.1⟩
    · obtain ⟨p, hp, q⟩ := ih x e; exact ⟨p, List.mem_cons_of_mem _ hp, q⟩
theorem dN_at (I : Inv X pins σ H s) (hd : Rd H a (dictN X.prog X.w a ps)) (hk : KeysAt H ps) : (a == sysModules) = false ∧ ps.length ≤ sizeLine ∧ ∃ xs, Paired relN ps xs ∧ s.heap.DictOfH (nestedKind X.prog X.w) a xs := by
  obtain ⟨⟨hs, hl, xs, pr, o, es, ep, go, h1, h2, h3, h4⟩, _⟩ := hd.ok I.hok
  refine ⟨hs, hl, xs, pr, o, es, ep, go, h1, h2, h3, fun x hx => ?_, h4⟩
  obtain ⟨p, hp, e1, e2⟩ := relN_keys pr x hx
  rw [← e1, ← e2]
  exact (hk p hp).is I.hok
def valN (ps : NP) (k : NK) : Option V := (ps.find? fun p => decide (p.1 = k)).map (·.2.2)
def putN (ps : NP) (k : NK) (b : Addr) (v : V) : NP := if (ps.find? fun p => decide (p.1 = k)).isSome then ps.map (fun p => if p.1 = k then (p.1, p.2.1, v) else p) else ps ++ [(k, b, v)]
theorem relN_find {xs : List (NK × Addr × Value)} (h : Paired relN ps xs) (k : NK) : (∀ v, valN ps k = some v → ∃ u, valueAt (pairsH xs) k = some u ∧ RelV v u) ∧ (valN ps k = none → valueAt (pairsH xs) k = none) ∧ (ps.find? fun p => decide (p.1 = k)).isSome = (atKey xs k).isSome := by
  unfold valN valueAt atKey pairsH
  induction h with
  | nil => exact ⟨fun v e => (nomatch e), fun _ => rfl, rfl⟩
  | @cons p q ps xs r _ ih =>
    obtain ⟨e1, e2, e3⟩ := r
    rw [List.map_cons, List.find?_cons, List.find?_cons, List.find?_cons]
    by_cases hk : p.1 = k
    · have hq : q.1 = k := e1.symm.trans hk
      simp only [hk, hq, decide_true]
      exact ⟨fun v e => by cases e; exact ⟨_, rfl, e3⟩, fun e => (nomatch e), rfl⟩
    · have hq : q.1 ≠ k := fun z => hk (e1.trans z)
      simp only [hk, hq, decide_false]
      exact ih
theorem relN_put {xs : List (NK × Addr × Value)} (h : Paired relN ps xs) {k : NK} {b : Addr} {v : V} {u : Value} (r : RelV v u) : Paired relN (putN ps k b v) (storedH xs k b u) := by
  unfold putN storedH
  rw [(relN_find h k).2.2]
  split
  · rename_i hc
    clear hc
    induction h with
    | nil => exact .nil
    | @cons p q ps xs e _ ih =>
      rw [List.map_cons, List.map_cons]
      refine .cons ?_ ih
      unfold putAt
      by_cases hk : p.1 = k
      · rw [if_pos hk, if_pos (e.1.symm.trans hk)]; exact ⟨e.1, e.2.1, r⟩
      · rw [if_neg hk, if_neg (fun z => hk (e.1.trans z))]; exact e
  · rename_i hc
    clear hc
    induction h with
    | nil => exact .cons ⟨rfl, rfl, r⟩ .nil
    | cons e _ ih => exact .cons e ih
theorem putN_len (ps : NP) (k : NK) (b : Addr) (v : V) : (putN ps k b v).length ≤ ps.length + 1 := by
  unfold putN
  split <;> simp
theorem roomN {A : Around} (hu : A.units + 64 < cLine) : (nestedKind X.prog X.w).room A.in1 := by show A.units + 1 + 8 < cLine; omega
/-- the dict is written -/
theorem dN_write {h' : Heap} {t' : Nat} {ps' : NP} {xs' : List (NK × Addr × Value)} (I : Inv X pins σ H s) (e : H a = some (dictN X.prog X.w a ps)) (hs : (a == sysModules) = false) (hl : ps'.length ≤ sizeLine) (pr : Paired relN ps' xs') (dd : h'.DictOfH (nestedKind X.prog X.w) a xs') (sb : Heap.SameBut a s.heap h') :
    Inv X pins σ (upd H a (dictN X.prog X.w a ps')) { s with heap := h', toks := t' } := by
  obtain ⟨o, es, ep, go, h1, h2, h3, _, h4⟩ := dd
  refine I.write (x := a) (e := a) (by rw [e]; exact True.intro) (.inl rfl) (fun b q hb z => (sb.2 b hb).trans z) ⟨o, go⟩ ?_
  exact dN_ok ⟨hs, hl, xs', pr, o, es, ep, go, h1, h2, h3, h4⟩
end
/-- H holds the dict ps at a -/
structure HasN (X : Cx) (H : Hp) (a : Addr) (ps : NP) : Prop where
  rd : Rd H a (dictN X.prog X.w a ps)
  ks : KeysAt H ps
def rGetN (X : Cx) : V → V → Hp → VK → Prop := fun x y H Q => ∃ a b ps k v, (x = .ref a ∧ y = .ref b) ∧ HasN X H a ps ∧ KeyAt H k b ∧ valN ps k = some v ∧ Q v H
def rInN (X : Cx) (n : Bool → Bool) : R2 := fun y x H Q => ∃ a b ps k, (x = .ref a ∧ y = .ref b) ∧ HasN X H a ps ∧ KeyAt H k b ∧ Q (.bl (n (valN ps k).isSome)) H
def rSetN (X : Cx) : TSet := fun o i v H Q => ∃ a b ps k, (o = .ref a ∧ i = .ref b) ∧ H a = some (dictN X.prog X.w a ps) ∧ KeysAt H ps ∧ KeyAt H k b ∧ ps.length < sizeLine ∧ Q (upd H a (dictN X.prog X.w a (putN ps k b v)))
section
variable {X : Cx}
theorem HasN.at {pins : List (Addr × Obj)} {σ : L2.St} {H : Hp} {s : Shared} {a : Addr} {ps : NP} (h : HasN X H a ps) (I : Inv X pins σ H s) : (a == sysModules) = false ∧ ps.length ≤ sizeLine ∧ ∃ xs, Paired relN ps xs ∧ s.heap.DictOfH (nestedKind X.prog X.w) a xs := dN_at I h.rd h.ks
theorem someN_iff {ps : NP} {xs : List (NK × Addr × Value)} (h : Paired relN ps xs) (k : NK) : (valueAt (pairsH xs) k).isSome = (valN ps k).isSome := by
  obtain ⟨h1, h2, _⟩ := relN_find h k
  cases e : valN ps k with
  | none => rw [h2 e]; rfl
  | some v => obtain ⟨u, e2, _⟩ := h1 v e; rw [e2]; rfl
theorem or_inN (hu : X.A.units + 64 < cLine) : OpR X (compareOp .In) (rInN X id) := by
  rintro pins s σ H y x v u Q I ry rx ⟨a, b, ps, k, ⟨rfl, rfl⟩, hd, hk, q⟩
  cases (show v = Value.ref b from ry)
  cases (show u = Value.ref a from rx)
  obtain ⟨hs, hl, xs, pr, dd⟩ := hd.at I
  refine in_keyed (knd := nestedKind X.prog X.w) (roomN hu) (hk.is I.hok) hs ⟨xs, dd, rfl⟩ ?_
  rw [someN_iff pr]
  exact ⟨.bl (valN ps k).isSome, H, I.tok _, rfl, q⟩
theorem set_N (hu : X.A.units + 64 < cLine) : PSet X (rSetN X) := by
  rintro pins s σ H o i v ov iv u Q I ro ri rv ⟨a, b, ps, k, ⟨rfl, rfl⟩, e, hks, hk, hl, q⟩
  cases (show ov = Value.ref a from ro)
  cases (show iv = Value.ref b from ri)
  obtain ⟨hs, hz, xs, pr, dd⟩ := dN_at I (.inl e) hks
  have hz' : xs.length ≤ sizeLine := by rw [← Paired.length pr]; exact hz
  refine wpAny_setItem_heap (knd := nestedKind X.prog X.w) (hsz := hz') (roomN hu) (hk.is I.hok) dd fun h' dd' sb => ?_
  have := putN_len ps k b v
  exact ⟨_, dN_write I e hs (by omega) (relN_put pr rv) dd' sb, q⟩
/-- a[b], a dict by tuples -/
def tGetN (X : Cx) (ta tb : TE) : TE := fun σ H Q => ta σ H fun x H1 => tb σ H1 fun y H2 => rGetN X x y H2 Q
theorem pe_getN {o i : Expr} {td ty : TE} {pos : Pos} (hu : X.A.units + 64 < cLine) (ho : PE X o td) (hi : PE X i ty) (hs : NoSl i) : PE X (.Subscript o i pos) (tGetN X td ty) := ⟨fun pins s σ H Q I h => by
  refine subD_of PySem.F.slot_dict_getitem.lookup hs (thn (ho.run pins s σ H _ I h) fun u s1 ⟨x, H1, I1, rx, q1⟩ => thn (hi.run pins s1 σ H1 _ I1 q1) fun iv s2 ⟨y, H2, I2, ry, a, b, ps, k, v, ⟨e1, e2⟩, hd, hk, hv, q2⟩ => ?_)
  subst e1 e2
  cases (show u = Value.ref a from rx)
  cases (show iv = Value.ref b from ry)
  obtain ⟨hs, hl, xs, pr, dd⟩ := hd.at I2
  obtain ⟨w', e, rw'⟩ := (relN_find pr k).1 v hv
  exact ⟨dd.typeIs, getItem_keyed (knd := nestedKind X.prog X.w) (roomN hu) (hk.is I2.hok) ⟨xs, dd, rfl⟩ e ⟨v, H2, I2.tok _, rw', q2⟩⟩⟩
end
end Ws
set_option Elab.async false
set_option linter.all false
set_option maxRecDepth 100000
set_option autoImplicit false
namespace Ws
open PySem PySem.Spec PyProof.Rows L2
section
variable {X : Cx} {pins : List (Addr × Obj)} {σ : L2.St} {H : Hp} {s : Shared} {d : Addr} {o : Obj} {ps : NP}
theorem frzN (I : Inv X pins σ H s) (h : H d = some (.frz o (dictN X.prog X.w d ps))) : (d == sysModules) = false ∧ s.heap.get? d = some o ∧ o.ExactDict ∧ ∃ (es : Array DictEntry) (ep : Nat), o.data = .dict es ep ∧ es.size = ps.length ∧
    ∀ (i : Nat) (p : NK × Addr × V), ps[i]? = some p → ∃ en : DictEntry, es[i]? = some en ∧ en.key = .ref p.2.1 ∧ RelV p.2.2 en.val := by
  obtain ⟨go, ⟨hs, hl, xs, pr, o', es, ep, go', h1, h2, h3, h4⟩, _⟩ := I.hok d _ h
  rw [go] at go'
  cases go'
  refine ⟨hs, go, h1, es, ep, h2, (size_of_entries h3).trans (Paired.length pr).symm, fun i p e => ?_⟩
  obtain ⟨q, hq, e1, e2, e3⟩ := paired_get pr e
  have en := entry_at h3 i
  rw [hq] at en
  exact ⟨_, en, by rw [e2]; rfl, e3⟩
end
/-- the keys | the values | the pairs of the locked dict at d -/
def itKN (P : Program) (w : World) (d : Addr) (o : Obj) (ps : NP) : It := ⟨fun i H => H d = some (.frz o (dictN P w d ps)) ∧ i < ps.length, fun i H x H' => H' = H ∧ ∃ p, ps[i]? = some p ∧ x = .ref p.2.1, fun i H => H d = some (.frz o (dictN P w d ps)) ∧ ps.length ≤ i⟩
section
variable {P : Program} {w : World} {K : PySem.W.Frag} {tg : Expr} {d : Addr} {o : Obj} {es : Array DictEntry} {ep : Nat} {ps : NP}
theorem only {it b : Addr} (h : b ∈ [it]) : b = it := by simpa using h
theorem turnKN (it : Addr) (hod : o.data = .dict es ep) : Turn P w K tg (itKN P w d o ps) [it] it (fun i h => h.IsKeyIter it d i ps.length ep) where
  mem := List.mem_singleton.mpr rfl
  obj := fun i h st b hb => by
    obtain rfl := only hb
    obtain ⟨oi, e, c, dd⟩ := st
    exact ⟨oi, e, fun v z => by rw [dd] at z; cases z⟩
  keep := fun i h h' st k => st.at fun oi e => k it (List.mem_singleton.mpr rfl) oi e
  item := by
    rintro X rfl rfl rfl hc i pins s σ H E I hf st ⟨hd, hi⟩
    obtain ⟨f0, f1, f2, f3, f4, f5⟩ := hf it (List.mem_singleton.mpr rfl)
    obtain ⟨hs, go, hx, es', ep', hdt, hsz, ent⟩ := frzN I hd
    obtain ⟨rfl, rfl⟩ := dict_ep hod hdt
    obtain ⟨en, hen, hkey, hval⟩ := ent i _ (List.getElem?_eq_getElem hi)
    refine next_key_item st go hdt hsz hen fun h' st' sb => ?_
    have I1 : Inv X pins σ H { s with heap := h' } := I.turned (t' := s.toks) (fun b ob hb e => (sb.2 b hb).trans e) f0 f1 f3 f4 f5
    obtain ⟨oi, e, c, dd⟩ := id st'
    refine ⟨en.key, rfl, go_of (s := { s with heap := h' }) e c dd (by decide) ?_⟩
    exact ⟨.ref ps[i].2.1, H, I1, hkey, ⟨rfl, _, List.getElem?_eq_getElem hi, rfl⟩, st', fun b hb => (hf b hb).1⟩
  done := by
    rintro X rfl rfl rfl hc i pins s σ H E I hf st ⟨hd, hi⟩
    obtain ⟨f0, f1, f2, f3, f4, f5⟩ := hf it (List.mem_singleton.mpr rfl)
    obtain ⟨hs, go, hx, es', ep', hdt, hsz, ent⟩ := frzN I hd
    obtain ⟨rfl, rfl⟩ := dict_ep hod hdt
    exact next_key_end (I.ok.hd hc) st go hdt hsz hi fun h' eb => ⟨rfl, I.turned (t' := s.toks) (fun b ob hb e => eb b ob hb e) f0 f1 f3 f4 f5⟩
  self := fun A i s Q E st h => by
    refine wpAny_pyIter_slot st.typeIs F.slot_dict_keyiterator_iter (wpAny_call_entry F.slot_dict_keyiterator_iter st.typeIs F.entry_dict_keyiterator_iter ?_ (F.args_dict_keyiterator_iter_1 _))
    exact wpAny_pure ⟨_, rfl, "dict_keyiterator", _, st.typeIs, F.slot_dict_keyiterator_next.lookup, h⟩
end
def iKN (X : Cx) (td : TE) : TI := fun σ H R => td σ H fun x H1 => ∃ d o ps, x = .ref d ∧ H1 d = some (.frz o (dictN X.prog X.w d ps)) ∧ R (itKN X.prog X.w d o ps) H1
section
variable {X : Cx} {tg e : Expr} {td : TE}
theorem pi_keysN (he : PE X e td) : PI X tg e (iKN X td) := ⟨fun pins s σ H R I h => by
  refine thn (he.run pins s σ H _ I h) fun u s1 ⟨x, H1, I1, rx, d, o, ps, ex, hd, q⟩ => ?_
  subst ex
  cases (show u = Value.ref d from rx)
  obtain ⟨hs, go, hx, es, ep, hdt, hsz, ent⟩ := frzN I1 hd
  refine iter_keys hs go hx hdt (pi_one (tk := s1.toks) I1 _ (turnKN _ hdt) ⟨_, Heap.get?_push_size _ rfl, rfl, ?_⟩ q)
  rw [hsz] <;> rfl⟩
end
end Ws
set_option Elab.async false
set_option linter.all false
set_option maxRecDepth 100000
set_option maxHeartbeats 2000000
set_option autoImplicit false
namespace Ws
open PySem PySem.Spec PyProof.Rows L2
def odU : Option Bool → Value
  | none => .none
  | some b => .bool b
def isO (k : Option Bool) (v : Value) : Bool := match k, v with
  | none, .none => true
  | some b, .bool c => b == c
  | _, _ => false
/-- the dict of one odd key -/
def dO (a : Addr) (k : Option Bool) (v : V) (h : Heap) : Prop := (a == sysModules) = false ∧ ∃ (u : Value) (o : Obj) (es : Array DictEntry) (ep : Nat) (e : DictEntry), RelV v u ∧ h.get? a = some o ∧ o.ExactDict ∧ o.data = .dict es ep ∧ es.toList = [e] ∧ e.key = odU k ∧ e.val = u
def dctO (a : Addr) (k : Option Bool) (v : V) : HO := .ext (dO a k v)
end Ws
set_option Elab.async false
set_option linter.all false
set_option maxRecDepth 100000
set_option maxHeartbeats 2000000
set_option autoImplicit false
namespace Ws
open PySem PySem.Spec PyProof.Rows L2
def keyM (e : Int × Value) : Key := match e.2 with
  | .int k _ => .inl k
  | .str x _ => .inr x
  | _ => .inl 0
def GoodM (P : Program) (w : World) (e : Int × Value) : Prop := ∃ k, RelV (kV k) e.2 ∧ e.1 = (mixKind P w).hash k
def SetMR (P : Program) (w : World) (h : Heap) (a : Addr) (ks : List Key) : Prop :=
  ∃ o es ep t, (h.get? a = some o ∧ o.ExactSet ∧ o.data = .set es ep t) ∧ (∀ e ∈ es.toList, GoodM P w e) ∧ (es.toList.map keyM).Perm ks ∧ ks.Nodup ∧ es.size < scanBound ∧ (t.fits es.size = true ∧ Ris t.place.toList ∧ (w.params.followText "set-order" = true ∨ t.led = true))
section
variable {P : Program} {w : World} {A : Around} {E : Value → Shared → Prop} {s : Shared} {a : Addr} {ks : List Key}
theorem keyM_eq {k : Key} {e : Int × Value} (r : RelV (kV k) e.2) : keyM e = k := by
  unfold keyM
  cases k with
  | inl i => obtain ⟨t, q⟩ := r; rw [q]
  | inr x => obtain ⟨t, q⟩ := r; rw [q]
theorem goodM_key {e : Int × Value} (g : GoodM P w e) : RelV (kV (keyM e)) e.2 ∧ e.1 = (mixKind P w).hash (keyM e) := by
  obtain ⟨k, r, q⟩ := g
  rw [keyM_eq r]; exact ⟨r, q⟩
theorem goodM_is {e : Int × Value} (g : GoodM P w e) (k : Key) : (mixKind P w).is k e.2 = decide (k = keyM e) := KeyKind.is_eq_decide (kV_is (goodM_key g).1) k
theorem goodM_elems {l : List (Int × Value)} (g : ∀ e ∈ l, GoodM P w e) : ElemsOf (mixKind P w) l := fun e he => ⟨⟨keyM e, kV_is (goodM_key (g e he)).1, (goodM_key (g e he)).2⟩, key_scan (goodM_key (g e he)).1⟩
theorem SetMR.size {h : Heap} {o : Obj} {es : Array (Int × Value)} (pk : (es.toList.map keyM).Perm ks) : es.size = ks.length := by
  have := pk.length_eq
  simpa using this
theorem SetMR.at {h h' : Heap} (R : SetMR P w h a ks) (k : ∀ o, h.get? a = some o → h'.get? a = some o) : SetMR P w h' a ks := by
  obtain ⟨o, es, ep, t, ⟨ho, r1⟩, r2⟩ := R
  exact ⟨o, es, ep, t, ⟨k o ho, r1⟩, r2⟩
/-- the keys behind an addition -/
instance (ks : List Key) (k : Key) : Decidable (k ∈ ks) := @List.instDecidableMemOfLawfulBEq Key instBEqOfDecidableEq _ k ks
def addK (ks : List Key) (k : Key) : List Key := if k ∈ ks then ks else ks ++ [k]
end
end Ws
set_option Elab.async false
set_option linter.all false
set_option maxRecDepth 100000
set_option maxHeartbeats 2000000
set_option autoImplicit false
namespace Ws
open PySem PySem.Spec PyProof.Rows L2
/-- what a turn brings in -/
def Kept (vs : List Nat) (σ σ' : L2.St) : Prop := σ.length = σ'.length ∧ ∀ (j : Nat) v, (wipe σ vs)[j]? = some (some v) → σ'[j]? = some (some v)
theorem Kept.refl (vs : List Nat) (σ : L2.St) : Kept vs σ σ := ⟨rfl, fun _ _ e => (wipe_some e).1⟩
abbrev TM := Addr → L2.St → Hp → (Hp → Prop) → Prop
def tCc (O0 : Addr → HO) (wi : TI) (g : TG) (tt : TT) (tm : TM) (vs : List Nat) : TE := fun σ H Q => wi σ H fun J H1 => ∀ D, H1 D = none → ∃ W : Nat → Nat → Hp → Prop, (∃ m, W 0 m (upd H1 D (O0 D))) ∧ ∀ i m H, W i m H →
  (J.stop i H ∧ Q (.ref D) H) ∨ (J.go i H ∧ ∃ Nx : Hp → Prop, (∀ H', Nx H' → ∃ m', m' < m ∧ W (i + 1) m' H') ∧ ∀ x H', J.yld i H x H' → g x (wipe σ vs) H' fun σ2 H2 => wipe σ2 vs = wipe σ vs ∧ tt σ2 H2 fun b H3 => if b = true then tm D σ2 H3 Nx else Nx H3)
abbrev InBlk (X : Cx) (scope : Scope) (p : Cx → Prop) : Prop := ∀ (s : Shared) (H : Hp) (C : Addr) (cl : List (Str × Addr)) (fp : List Addr), p (X.blk s H scope (compEnvC scope cl C X.env) fp)
end Ws
set_option Elab.async false
set_option linter.all false
set_option maxRecDepth 100000
set_option maxHeartbeats 2000000
set_option autoImplicit false
namespace Ws
open PySem PySem.Spec PyProof.Rows L2
def SetM (P : Program) (w : World) (a : Addr) (ks : List Key) : HO := .ext fun h => SetMR P w h a ks
section
variable {X : Cx}
theorem setM_get {pins : List (Addr × Obj)} {σ : L2.St} {H : Hp} {s : Shared} {a : Addr} {ks : List Key} (I : Inv X pins σ H s) (ha : H a = some (SetM X.prog X.w a ks)) : SetMR X.prog X.w s.heap a ks := (I.hok a _ ha).1
end
end Ws
set_option Elab.async false
set_option linter.all false
set_option maxRecDepth 100000
set_option maxHeartbeats 2000000
set_option autoImplicit false
namespace Ws
open PySem PySem.Spec PyProof.Rows L2
/-- the masks of sets of up to 699 members -/
def MskW (m : Nat) : Prop := m = 7 ∨ m = 31 ∨ m = 127 ∨ m = 511 ∨ m = 2047
theorem way_in {m : Nat} {x : Int} {c : Nat} : way m x c ≤ m := by
  have b : SetTable.bits x % (m + 1) < m + 1 := Nat.mod_lt _ (by omega)
  obtain ⟨b1, b2, _⟩ := runEnd_bd (m := m) (i := SetTable.bits x % (m + 1)) (by omega)
  have z := nth_in (m := m) c (runAt m (SetTable.bits x % (m + 1)) (SetTable.bits x)) (by unfold runAt; dsimp only; omega)
  exact Nat.le_trans (Nat.le_add_right _ _) z
structure TabW (t : SetTable) (hs : List Int) : Prop where
  ris : Ris t.place.toList
  dm : t.dummies = #[]
  sz : t.place.size = hs.length
  mok : MskW t.mask
  bd : ∀ y ∈ t.place.toList, y ≤ t.mask
  reach : ∀ (r : Nat) (x : Int) (y : Nat), hs[r]? = some x → t.place.toList[r]? = some y → ∃ c, way t.mask x c = y ∧ ∀ d, d < c → way t.mask x d ∈ t.place.toList
section
variable {t : SetTable} {hs : List Int} (T : TabW t hs)
include T
theorem TabW.len : t.place.toList.length = hs.length := Array.length_toList.trans T.sz
/-- one put at its free slot -/
theorem TabW.put {x : Int} {c : Nat} (free : way t.mask x c ∉ t.place.toList) (all : ∀ d, d < c → way t.mask x d ∈ t.place.toList) :
    (t.put (way t.mask x c)).2 = SetTable.below t.place (way t.mask x c) ∧ SetTable.below t.place (way t.mask x c) ≤ hs.length ∧
    TabW (t.put (way t.mask x c)).1 (hs.take (SetTable.below t.place (way t.mask x c)) ++ x :: hs.drop (SetTable.below t.place (way t.mask x c))) ∧
    (t.put (way t.mask x c)).1.mask = t.mask ∧ (t.put (way t.mask x c)).1.led = t.led ∧ (t.put (way t.mask x c)).1.fill = hs.length + 1 := by
  have top : way t.mask x c ≤ t.mask := way_in
  obtain ⟨y, ey⟩ : ∃ y, way t.mask x c = y := ⟨_, rfl⟩
  rw [ey] at free top ⊢
  have cut := (below_cut T.ris y).1
  have pl := put_place t y
  have dm := put_dm T.dm y
  have l1 : SetTable.below t.place y ≤ hs.length := T.sz ▸ cut
  have l2 : SetTable.below t.place y ≤ t.place.toList.length := by rw [T.len]; exact l1
  have sz : (t.put y).1.place.size = hs.length + 1 := by
    have := congrArg List.length pl
    rw [len_ins _ l2, T.len, Array.length_toList] at this
    exact this
  have old : ∀ z ∈ t.place.toList, z ∈ (t.put y).1.place.toList := fun z hz => by rw [pl]; exact mem_ins.mpr (.inr hz)
  refine ⟨rfl, l1, ⟨ris_insert T.ris fun e => free (List.mem_of_getElem? (by rw [Array.getElem?_toList]; exact e)), dm, sz.trans (len_ins _ l1 x).symm, T.mok, fun z hz => ?_, fun r x2 y2 h1 h2 => ?_⟩, rfl, rfl, ?_⟩
  · rw [pl, mem_ins] at hz
    rcases hz with rfl | hz
    · exact top
    · exact T.bd z hz
  · show ∃ c, way t.mask x2 c = y2 ∧ ∀ d, d < c → way t.mask x2 d ∈ (t.put y).1.place.toList
    rw [pl, tins_get _ l2] at h2
    rw [tins_get _ l1] at h1
    have from_old : ∀ q, hs[q]? = some x2 → t.place.toList[q]? = some y2 → ∃ c, way t.mask x2 c = y2 ∧ ∀ d, d < c → way t.mask x2 d ∈ (t.put y).1.place.toList := fun q g1 g2 => by
      obtain ⟨d, e, k⟩ := T.reach q x2 y2 g1 g2
      exact ⟨d, e, fun d2 hd => old _ (k d2 hd)⟩
    rcases Nat.lt_trichotomy r (SetTable.below t.place y) with q | q | q
    · rw [if_pos q] at h1 h2
      exact from_old r h1 h2
    · rw [if_neg (by omega), if_pos q] at h1 h2
      cases h1
      cases h2
      exact ⟨c, ey, fun d hd => old _ (all d hd)⟩
    · rw [if_neg (by omega), if_neg (by omega)] at h1 h2
      exact from_old (r - 1) h1 h2
  · show (t.put y).1.place.size + (t.put y).1.dummies.size = _
    rw [dm, sz]
    rfl
end
end Ws
set_option Elab.async false
set_option linter.all false
set_option maxRecDepth 100000
set_option maxHeartbeats 2000000
set_option autoImplicit false
namespace Ws
open PySem PySem.Spec PyProof.Rows L2
abbrev NR := List (NK × Addr)
abbrev AtN (P : Program) (w : World) (h : Heap) (k : NK) (b : Addr) : Prop := (nestedKind P w).is h k b
section
variable {P : Program} {w : World} {A : Around} {E : Value → Shared → Prop} {s : Shared}
def NoCls (P : Program) (w : World) (n : Nat) (s : Shared) (v : Value) : Prop := ∀ (A : Around) (E : Value → Shared → Prop) (Q : Bool → Shared → Prop), Q false s → wpAny (model P w) A (ofAClassStatement n v) Q E s
def TellsH (P : Program) (w : World) (n : Nat) (s : Shared) (v : Value) : Prop := ∀ (A : Around) (E : Value → Shared → Prop) (Q : Bool → Shared → Prop), (∀ b, Q b s) → wpAny (model P w) A (hashByValue n v) Q E s
theorem NoCls.tup {n m : Nat} {a : Addr} {o : Obj} {vs : Array Value} (g : s.heap.get? a = some o) (c : o.cls = .type "tuple") (d : o.data = .seq vs m) (all : ∀ v ∈ vs.toList, NoCls P w n s v) : NoCls P w (n + 1) s (.ref a) := fun A E Q q => by
  have self : (("tuple" : String) == ("tuple" : String)) = true := by decide
  unfold ofAClassStatement
  refine wpAny_bind (wpAny_typeOf (T := "tuple") ⟨o, g, c⟩ ?_)
  dsimp only
  simp only [self, Bool.not_true, if_true, Bool.false_eq_true, if_false]
  try refine wpAny_bind (wpAny_pure ?_)
  try simp only [Bool.not_true, if_false, Bool.false_eq_true]
  show wpAny _ _ (seqItems? (.ref a) >>= _) _ _ s
  refine wpAny_bind (wpAny_seqItems g d ?_); dsimp only
  refine wpAny_bind ?_
  show wpAny _ _ (forIn vs _ _) _ _ s
  rw [← Array.forIn_toList]
  refine wpAny_forIn_list _ (fun l r t => t = s ∧ r.1 = none ∧ ∀ v ∈ l, NoCls P w n t v) _ ?_ ?_ _ _ ⟨rfl, rfl, all⟩
  · rintro v l r t ⟨et, er, ha⟩
    subst et
    refine wpAny_bind (ha v List.mem_cons_self _ _ _ ?_)
    simp only [if_false, Bool.false_eq_true]
    exact wpAny_pure ⟨rfl, rfl, fun u hu => ha u (List.mem_cons_of_mem _ hu)⟩
  · rintro ⟨r1, r2⟩ t ⟨et, er, _⟩
    simp only at er; subst er; subst et
    exact wpAny_pure q
theorem TellsH.tup {n m : Nat} {a : Addr} {o : Obj} {vs : Array Value} (g : s.heap.get? a = some o) (c : o.cls = .type "tuple") (d : o.data = .seq vs m) (all : ∀ v ∈ vs.toList, TellsH P w n s v) : TellsH P w (n + 1) s (.ref a) := fun A E Q q => by
  unfold hashByValue
  refine wpAny_bind (wpAny_specialOf (T := "tuple") ⟨o, g, c⟩ F.slot_tuple_hash.lookup ?_)
  show wpAny _ _ (seqItems? (.ref a) >>= _) _ _ s
  refine wpAny_bind (wpAny_seqItems g d (wpAny_bind ?_))
  show wpAny _ _ (forIn vs _ _) _ _ s
  rw [← Array.forIn_toList]
  refine wpAny_forIn_list _ (fun l r t => t = s ∧ r.1 = none ∧ ∀ v ∈ l, TellsH P w n t v) _ ?_ ?_ _ _ ⟨rfl, rfl, all⟩
  · rintro v l r t ⟨et, er, ha⟩
    subst et
    refine wpAny_bind (ha v List.mem_cons_self _ _ _ fun b => ?_)
    cases b with
    | true =>
      simp only [Bool.not_true, if_false, Bool.false_eq_true]
      exact wpAny_pure ⟨rfl, rfl, fun u hu => ha u (List.mem_cons_of_mem _ hu)⟩
    | false =>
      simp only [Bool.not_false, if_true]
      exact wpAny_pure (wpAny_pure (q false))
  · rintro ⟨r1, r2⟩ t ⟨et, er, _⟩
    simp only at er; subst er; subst et
    exact wpAny_pure (q true)
def rowN (w : World) (L : NR) : List (Int × Value) := L.map fun p => (p.1.hash w, Value.ref p.2)
structure SetNR (P : Program) (w : World) (h : Heap) (a : Addr) (L : NR) (es : Array (Int × Value)) (ep : Nat) (t : SetTable) : Prop where
  obj : ∃ o, h.get? a = some o ∧ o.ExactSet ∧ o.data = .set es ep t
  row : es.toList = rowN w L
  tab : TabW t (L.map fun p => p.1.hash w)
  nod : (L.map (·.1)).Nodup
  key : ∀ p ∈ L, AtN P w h p.1 p.2
  led : w.params.followText "set-order" = true ∨ t.led = true
  sp : L.length * 5 < t.mask * 3
  lt : L.length < 700
variable {a : Addr} {L : NR} {es : Array (Int × Value)} {ep : Nat} {t : SetTable}
theorem rowN_len {L : NR} {es : Array (Int × Value)} (h : es.toList = rowN w L) : es.size = L.length := by
  have := congrArg List.length h
  unfold rowN at this
  simpa using this
theorem SetNR.fits (R : SetNR P w s.heap a L es ep t) : t.fits es.size = true := by
  have z1 := R.tab.sz
  have z2 := rowN_len R.row
  have z3 := R.sp
  rw [List.length_map] at z1
  unfold SetTable.fits SetTable.fill
  rw [R.tab.dm, Bool.and_eq_true, decide_eq_true_eq, beq_iff_eq]
  exact ⟨by omega, by show t.place.size + 0 ≤ t.mask; omega⟩
end
end Ws
set_option Elab.async false
set_option linter.all false
set_option maxRecDepth 100000
set_option maxHeartbeats 2000000
set_option autoImplicit false
namespace Ws
open PySem PySem.Spec PyProof.Rows L2
section
variable {P : Program} {w : World} {A : Around} {E : Value → Shared → Prop} {s : Shared}
variable {a : Addr} {L : NR} {es : Array (Int × Value)} {ep : Nat} {t : SetTable}
theorem AtN.mono {h h' : Heap} {k : NK} {b : Addr} (x : AtN P w h k b) (z : ∀ c o vs n, h.get? c = some o → o.data = .seq vs n → h'.get? c = some o) : AtN P w h' k b := ⟨NestedIs.at z k _ x.1, x.2⟩
theorem AtN.keep {h h' : Heap} {k : NK} {b : Addr} (x : AtN P w h k b) (z : ∀ c o, h.get? c = some o → h'.get? c = some o) : AtN P w h' k b := x.mono fun c o _ _ e _ => z c o e
end
end Ws
set_option Elab.async false
set_option linter.all false
set_option maxRecDepth 100000
set_option maxHeartbeats 2000000
set_option autoImplicit false
namespace Ws
open PySem PySem.Spec PyProof.Rows L2
def sN (w : World) (a : Addr) (L : NR) (h : Heap) : Prop := ∃ (L2 : NR) (es : Array (Int × Value)) (ep : Nat) (t : SetTable), L2.Perm L ∧ ((∃ o, h.get? a = some o ∧ o.ExactSet ∧ o.data = .set es ep t) ∧ es.toList = rowN w L2 ∧ TabW t (L2.map fun p => p.1.hash w) ∧ (L2.map (·.1)).Nodup) ∧
  (w.params.followText "set-order" = true ∨ t.led = true) ∧ L2.length * 5 < t.mask * 3 ∧ L2.length < 700
def setN (w : World) (a : Addr) (L : NR) : HO := .ext (sN w a L)
theorem sN.len {w : World} {a : Addr} {L : NR} {h : Heap} (x : sN w a L h) : L.length < 700 := by
  obtain ⟨L2, es, ep, t, pm, _, _, _, lt⟩ := x
  rw [← pm.length_eq]
  exact lt
end Ws
set_option Elab.async false
set_option linter.all false
set_option maxRecDepth 100000
namespace Ws
open PySem L2
inductive D where
  | non | bl (b : Bool) | int (i : Int) | str (x : Str) | ty (n : String) | glo (x : Str)
  | tup (xs : List D) | rtp (xs : List D) | lst (xs : List D) | dct (kvs : List (D × D)) | dcT (kvs : List (D × D)) | ins (c : Str) (fs : List (Str × D))
  | set (xs : List D) | scr (ns : List Int) | cell (n : Nat) | exn (c : Str) (fs : List (Str × D)) | lam (cs : List D) | seT (xs : List D)
  | exv (c y : Str) (x : D)
  | odc (k : Option Bool) (x : Str)
/-- what a cell holds -/
inductive OB where
  | lst (xs : List D) | dct (kvs : List (D × D)) | dcT (kvs : List (D × D)) | ins (c : Str) (fs : List (Str × D)) | set (xs : List D)
abbrev AH := List (Option OB)
def AH.get (h : AH) (n : Nat) : Option OB := (h[n]?).getD none
abbrev Sl := List (Option D)
structure Exc where
  c : Str
  fs : List (Str × D)
inductive Out (α : Type) where
  | ok (a : α) (h : AH) | exc (x : Exc) (h : AH) | bad
/-- cells' addresses; the exception of the suite: its address, its class, its dict -/
structure Rho where
  c : Nat → Option Addr
  x : Option (Addr × Str × Option Addr)
/-- a lambda handed over: its object, its code object and name, what it holds -/
structure LamV where
  f : Addr
  c : Addr
  q : Str
  us : List V
/-- K: the written part; T: the tables of code objects; f: the lambda that was handed over -/
structure Cf where
  P : Program
  w : World
  K : PySem.W.Frag
  T : List (Addr × Str)
  f : Option LamV
mutual
/-- what is a key (nested), and which -/
def nkOf : D → Option NK
  | .non => some .none
  | .bl b => some (.num (if b = true then 1 else 0))
  | .int i => some (.num i)
  | .str x => some (.text x)
  | .tup xs => (nkOfs xs).map .tup
  | .rtp xs => (nkOfs xs).map .tup
  | _ => none
def nkOfs : List D → Option (List NK)
  | [] => some []
  | d :: ds => (match nkOf d, nkOfs ds with
    | some k, some ks => some (k :: ks)
    | _, _ => none)
end
def keyD : Key → D
  | .inl i => .int i
  | .inr x => .str x
mutual
def R (C : Cf) (F : Hp) (ρ : Rho) : D → V → Prop
  | .non, v => v = .non
  | .bl b, v => v = .bl b
  | .int i, v => v = .int i
  | .str x, v => v = .str x
  | .ty n, v => v = .ty n
  | .glo x, v => v = .ref (He.ga C.K x)
  | .tup xs, v => ∃ a ys, v = .ref a ∧ TupP F a ys ∧ Rs C F ρ xs ys
  | .rtp xs, v => ∃ a ys, v = .ref a ∧ F a = some (.tup ys) ∧ Rs C F ρ xs ys
  | .lst xs, v => ∃ a ys, v = .ref a ∧ F a = some (.lst ys) ∧ Rs C F ρ xs ys
  | .dct kvs, v => ∃ a o ks, v = .ref a ∧ F a = some (.frz o (.dK ks)) ∧ Rk C F ρ kvs ks
  | .dcT kvs, v => ∃ a o ks, v = .ref a ∧ F a = some (.frz o (dictN C.P C.w a ks)) ∧ Rt C F ρ kvs ks
  | .ins c fs, v => ∃ a dx gs, v = .ref a ∧ F a = some (.ins (He.ga C.K c) dx gs) ∧ Rf C F ρ fs gs
  | .set xs, v => ∃ (a : Addr) (ks : List Key), v = .ref a ∧ F a = some (SetM C.P C.w a ks) ∧ xs = ks.map keyD
  | .scr ns, v => ∃ a, v = .ref a ∧ SqL C.K F a (ns.map V.int)
  | .cell n, v => ∃ a, v = .ref a ∧ ρ.c n = some a
  | .exn c fs, v => ∃ a od, v = .ref a ∧ ρ.x = some (a, c, od) ∧ ((od = none ∧ fs = []) ∨ ∃ d gs, od = some d ∧ F d = some (.xd gs) ∧ Rf C F ρ fs gs)
  | .lam cs, v => ∃ L, C.f = some L ∧ v = .ref L.f ∧ F L.c = some (LamX.CodeO L.c L.q) ∧ Rs C F ρ cs L.us
  | .seT xs, v => ∃ (a : Addr) (ks : NR), v = .ref a ∧ F a = some (setN C.w a ks) ∧ Rn C F ρ xs ks
  | .odc k x, v => ∃ a o, v = .ref a ∧ F a = some (.frz o (dctO a k (.str x)))
  | .exv c y x, v => ∃ a, v = .ref a ∧ ((y = "" ∧ F a = some (ExO (.ref (He.ga C.K c)) a)) ∨ (y ≠ "" ∧ ∃ d u k, F a = some (exo a (He.ga C.K c) (some d)) ∧ F d = some (exd d [(y, u)]) ∧ nkOf x = some k ∧ R C F ρ x u))
def Rs (C : Cf) (F : Hp) (ρ : Rho) : List D → List V → Prop
  | [], vs => vs = []
  | d :: ds, vs => ∃ v r, vs = v :: r ∧ R C F ρ d v ∧ Rs C F ρ ds r
def Rf (C : Cf) (F : Hp) (ρ : Rho) : List (Str × D) → List (Str × V) → Prop
  | [], vs => vs = []
  | (x, d) :: ds, vs => ∃ v r, vs = (x, v) :: r ∧ R C F ρ d v ∧ Rf C F ρ ds r
/-- a dict by ints and texts -/
def Rk (C : Cf) (F : Hp) (ρ : Rho) : List (D × D) → List (Key × V) → Prop
  | [], vs => vs = []
  | (k, d) :: ds, vs => ∃ key v r, vs = (key, v) :: r ∧ k = keyD key ∧ R C F ρ d v ∧ Rk C F ρ ds r
/-- a set of tuples -/
def Rn (C : Cf) (F : Hp) (ρ : Rho) : List D → NR → Prop
  | [], ks => ks = []
  | d :: ds, ks => ∃ k b r, ks = (k, b) :: r ∧ nkOf d = some k ∧ k.depth ≤ 8 ∧ R C F ρ d (.ref b) ∧ Rn C F ρ ds r
/-- a dict by tuples -/
def Rt (C : Cf) (F : Hp) (ρ : Rho) : List (D × D) → NP → Prop
  | [], vs => vs = []
  | (k, d) :: ds, vs => ∃ key b v r, vs = (key, b, v) :: r ∧ nkOf k = some key ∧ key.depth ≤ 8 ∧ R C F ρ k (.ref b) ∧ R C F ρ d v ∧ Rt C F ρ ds r
end
def Sub (F F' : Hp) : Prop := ∀ a o, F a = some o → F' a = some o
theorem Sub.refl (F : Hp) : Sub F F := fun _ _ h => h
theorem Sub.trans {F G H : Hp} (a : Sub F G) (b : Sub G H) : Sub F H := fun x o h => b x o (a x o h)
structure RSub (ρ ρ' : Rho) : Prop where
  c : ∀ n a, ρ.c n = some a → ρ'.c n = some a
  x : ρ'.x = ρ.x
theorem RSub.refl (ρ : Rho) : RSub ρ ρ := ⟨fun _ _ h => h, rfl⟩
theorem RSub.trans {a b c : Rho} (h : RSub a b) (k : RSub b c) : RSub a c := ⟨fun n x e => k.c n x (h.c n x e), k.x.trans h.x⟩
theorem TupP.sub {F F' : Hp} {a : Addr} {ys : List V} (h : TupP F a ys) (s : Sub F F') : TupP F' a ys := let ⟨o, e, n⟩ := h; ⟨o, s _ _ e, n⟩
theorem Sub.sqL {K : PySem.W.Frag} {F F' : Hp} {a : Addr} {xs : List V} (s : Sub F F') (h : SqL K F a xs) : SqL K F' a xs := Same.seq s h
mutual
theorem R.mono {C : Cf} {F F' : Hp} {ρ ρ' : Rho} (s : Sub F F') (r : RSub ρ ρ') : ∀ {d : D} {v : V}, R C F ρ d v → R C F' ρ' d v
  | .non, _, h | .bl _, _, h | .int _, _, h | .str _, _, h | .ty _, _, h | .glo _, _, h => by unfold R at h ⊢; exact h
  | .tup _, _, h => by unfold R at h ⊢; obtain ⟨a, ys, e, f, q⟩ := h; exact ⟨a, ys, e, f.sub s, Rs.mono s r q⟩
  | .rtp _, _, h => by unfold R at h ⊢; obtain ⟨a, ys, e, f, q⟩ := h; exact ⟨a, ys, e, s _ _ f, Rs.mono s r q⟩
  | .lst _, _, h => by unfold R at h ⊢; obtain ⟨a, ys, e, f, q⟩ := h; exact ⟨a, ys, e, s _ _ f, Rs.mono s r q⟩
  | .dct _, _, h => by unfold R at h ⊢; obtain ⟨a, o, ks, e, f, q⟩ := h; exact ⟨a, o, ks, e, s _ _ f, Rk.mono s r q⟩
  | .dcT _, _, h => by unfold R at h ⊢; obtain ⟨a, o, ks, e, f, q⟩ := h; exact ⟨a, o, ks, e, s _ _ f, Rt.mono s r q⟩
  | .ins _ _, _, h => by unfold R at h ⊢; obtain ⟨a, dx, gs, e, f, q⟩ := h; exact ⟨a, dx, gs, e, s _ _ f, Rf.mono s r q⟩
  | .set _, _, h => by unfold R at h ⊢; obtain ⟨a, ks, e, f, q⟩ := h; exact ⟨a, ks, e, s _ _ f, q⟩
  | .scr _, _, h => by unfold R at h ⊢; obtain ⟨a, e, f⟩ := h; exact ⟨a, e, s.sqL f⟩
  | .cell n, _, h => by unfold R at h ⊢; obtain ⟨a, e, f⟩ := h; exact ⟨a, e, r.c n a f⟩
  | .exn _ _, _, h => by
    unfold R at h ⊢
    obtain ⟨a, od, e, f, z⟩ := h
    refine ⟨a, od, e, r.x.trans f, ?_⟩
    rcases z with z | ⟨d, gs, e1, e2, q⟩
    · exact .inl z
    · exact .inr ⟨d, gs, e1, s _ _ e2, Rf.mono s r q⟩
  | .lam _, _, h => by unfold R at h ⊢; obtain ⟨L, e1, e2, e3, q⟩ := h; exact ⟨L, e1, e2, s _ _ e3, Rs.mono s r q⟩
  | .seT _, _, h => by unfold R at h ⊢; obtain ⟨a, ks, e, f, q⟩ := h; exact ⟨a, ks, e, s _ _ f, Rn.mono s r q⟩
  | .odc _ _, _, h => by unfold R at h ⊢; obtain ⟨a, o, e, f⟩ := h; exact ⟨a, o, e, s _ _ f⟩
  | .exv _ _ x, _, h => by
    unfold R at h ⊢
    obtain ⟨a, e, z⟩ := h
    refine ⟨a, e, ?_⟩
    rcases z with ⟨z1, z2⟩ | ⟨z1, d, u, k, z2, z3, z4, z5⟩
    · exact .inl ⟨z1, s _ _ z2⟩
    · exact .inr ⟨z1, d, u, k, s _ _ z2, s _ _ z3, z4, R.mono s r z5⟩
theorem Rs.mono {C : Cf} {F F' : Hp} {ρ ρ' : Rho} (s : Sub F F') (r : RSub ρ ρ') : ∀ {d : List D} {v : List V}, Rs C F ρ d v → Rs C F' ρ' d v
  | [], _, h => by unfold Rs at h ⊢; exact h
  | _ :: _, _, h => by unfold Rs at h ⊢; obtain ⟨v, t, e, a, b⟩ := h; exact ⟨v, t, e, R.mono s r a, Rs.mono s r b⟩
theorem Rf.mono {C : Cf} {F F' : Hp} {ρ ρ' : Rho} (s : Sub F F') (r : RSub ρ ρ') : ∀ {d : List (Str × D)} {v : List (Str × V)}, Rf C F ρ d v → Rf C F' ρ' d v
  | [], _, h => by unfold Rf at h ⊢; exact h
  | (_, _) :: _, _, h => by unfold Rf at h ⊢; obtain ⟨v, t, e, a, b⟩ := h; exact ⟨v, t, e, R.mono s r a, Rf.mono s r b⟩
theorem Rk.mono {C : Cf} {F F' : Hp} {ρ ρ' : Rho} (s : Sub F F') (r : RSub ρ ρ') : ∀ {d : List (D × D)} {v : List (Key × V)}, Rk C F ρ d v → Rk C F' ρ' d v
  | [], _, h => by unfold Rk at h ⊢; exact h
  | (_, _) :: _, _, h => by unfold Rk at h ⊢; obtain ⟨k, v, t, e, ek, a, b⟩ := h; exact ⟨k, v, t, e, ek, R.mono s r a, Rk.mono s r b⟩
theorem Rn.mono {C : Cf} {F F' : Hp} {ρ ρ' : Rho} (s : Sub F F') (r : RSub ρ ρ') : ∀ {d : List D} {v : NR}, Rn C F ρ d v → Rn C F' ρ' d v
  | [], _, h => by unfold Rn at h ⊢; exact h
  | _ :: _, _, h => by unfold Rn at h ⊢; obtain ⟨k, b, t, e, ek, ed, rk, a⟩ := h; exact ⟨k, b, t, e, ek, ed, R.mono s r rk, Rn.mono s r a⟩
theorem Rt.mono {C : Cf} {F F' : Hp} {ρ ρ' : Rho} (s : Sub F F') (r : RSub ρ ρ') : ∀ {d : List (D × D)} {v : NP}, Rt C F ρ d v → Rt C F' ρ' d v
  | [], _, h => by unfold Rt at h ⊢; exact h
  | (_, _) :: _, _, h => by unfold Rt at h ⊢; obtain ⟨k, b0, v, t, e, ek, ed, rk, a, b⟩ := h; exact ⟨k, b0, v, t, e, ek, ed, R.mono s r rk, R.mono s r a, Rt.mono s r b⟩
end
section
variable {C : Cf} {F H : Hp} {ρ : Rho}
mutual
theorem nk_rel (sb : Sub F H) : ∀ {d : D} {v : V} {k : NK}, R C F ρ d v → nkOf d = some k → nkV H k v
  | .non, v, k, r, e => by unfold R at r; unfold nkOf at e; cases e; unfold nkV; exact r
  | .bl b, v, k, r, e => by unfold R at r; unfold nkOf at e; cases e; unfold nkV; exact .inr ⟨b, r, rfl⟩
  | .int i, v, k, r, e => by unfold R at r; unfold nkOf at e; cases e; unfold nkV; exact .inl r
  | .str x, v, k, r, e => by unfold R at r; unfold nkOf at e; cases e; unfold nkV; exact r
  | .tup xs, v, k, r, e => by
    unfold R at r
    unfold nkOf at e
    obtain ⟨a, ys, rfl, ⟨o, f, _⟩, rr⟩ := r
    cases q : nkOfs xs with
    | none => rw [q] at e; cases e
    | some ks => rw [q] at e; cases e; unfold nkV; exact ⟨a, ys, rfl, .inr ⟨o, sb _ _ f⟩, nks_rel sb rr q⟩
  | .rtp xs, v, k, r, e => by
    unfold R at r
    unfold nkOf at e
    obtain ⟨a, ys, rfl, f, rr⟩ := r
    cases q : nkOfs xs with
    | none => rw [q] at e; cases e
    | some ks => rw [q] at e; cases e; unfold nkV; exact ⟨a, ys, rfl, .inl (sb _ _ f), nks_rel sb rr q⟩
  | .ty _, _, _, _, e | .glo _, _, _, _, e | .lst _, _, _, _, e | .dct _, _, _, _, e | .dcT _, _, _, _, e | .ins _ _, _, _, _, e | .set _, _, _, _, e | .scr _, _, _, _, e | .cell _, _, _, _, e | .exn _ _, _, _, _, e | .lam _, _, _, _, e | .seT _, _, _, _, e | .exv _ _ _, _, _, _, e | .odc _ _, _, _, _, e => by unfold nkOf at e; cases e
theorem nks_rel (sb : Sub F H) : ∀ {ds : List D} {vs : List V} {ks : List NK}, Rs C F ρ ds vs → nkOfs ds = some ks → nkVs H ks vs
  | [], vs, ks, r, e => by unfold Rs at r; unfold nkOfs at e; cases e; unfold nkVs; exact r
  | d :: ds, vs, ks, r, e => by
    unfold Rs at r
    unfold nkOfs at e
    obtain ⟨v, t, rfl, a, b⟩ := r
    cases q1 : nkOf d with
    | none => rw [q1] at e; cases e
    | some k =>
      cases q2 : nkOfs ds with
      | none => rw [q1, q2] at e; cases e
      | some ks => rw [q1, q2] at e; cases e; unfold nkVs; exact ⟨v, t, rfl, nk_rel sb a q1, nks_rel sb b q2⟩
end
mutual
theorem R.free {ρ' : Rho} : ∀ {d : D} {v : V} {k : NK}, nkOf d = some k → R C F ρ d v → R C F ρ' d v
  | .non, v, k, e, r => by unfold R at r ⊢; exact r
  | .bl b, v, k, e, r => by unfold R at r ⊢; exact r
  | .int i, v, k, e, r => by unfold R at r ⊢; exact r
  | .str x, v, k, e, r => by unfold R at r ⊢; exact r
  | .tup xs, v, k, e, r => by
    unfold R at r ⊢
    unfold nkOf at e
    obtain ⟨a, ys, rfl, f, rr⟩ := r
    cases q : nkOfs xs with
    | none => rw [q] at e; cases e
    | some ks => exact ⟨a, ys, rfl, f, Rs.free q rr⟩
  | .rtp xs, v, k, e, r => by
    unfold R at r ⊢
    unfold nkOf at e
    obtain ⟨a, ys, rfl, f, rr⟩ := r
    cases q : nkOfs xs with
    | none => rw [q] at e; cases e
    | some ks => exact ⟨a, ys, rfl, f, Rs.free q rr⟩
  | .ty _, _, _, e, _ | .glo _, _, _, e, _ | .lst _, _, _, e, _ | .dct _, _, _, e, _ | .dcT _, _, _, e, _ | .ins _ _, _, _, e, _ | .set _, _, _, e, _ | .scr _, _, _, e, _ | .cell _, _, _, e, _ | .exn _ _, _, _, e, _ | .lam _, _, _, e, _ | .seT _, _, _, e, _ | .exv _ _ _, _, _, e, _ | .odc _ _, _, _, e, _ => by unfold nkOf at e; cases e
theorem Rs.free {ρ' : Rho} : ∀ {ds : List D} {vs : List V} {ks : List NK}, nkOfs ds = some ks → Rs C F ρ ds vs → Rs C F ρ' ds vs
  | [], vs, ks, e, r => by unfold Rs at r ⊢; exact r
  | d :: ds, vs, ks, e, r => by
    unfold Rs at r ⊢
    unfold nkOfs at e
    obtain ⟨v, t, rfl, a, b⟩ := r
    cases q1 : nkOf d with
    | none => rw [q1] at e; cases e
    | some k =>
      cases q2 : nkOfs ds with
      | none => rw [q1, q2] at e; cases e
      | some ks => exact ⟨v, t, rfl, R.free q1 a, Rs.free q2 b⟩
end
theorem Rn.free {ρ' : Rho} : ∀ {ds : List D} {ks : NR}, Rn C F ρ ds ks → Rn C F ρ' ds ks
  | [], _, h => by unfold Rn at h ⊢; exact h
  | _ :: _, _, h => by unfold Rn at h ⊢; obtain ⟨k, b, t, e, ek, ed, rk, a⟩ := h; exact ⟨k, b, t, e, ek, ed, rk.free ek, Rn.free a⟩
theorem Rn.len : ∀ {ds : List D} {ks : NR}, Rn C F ρ ds ks → ds.length = ks.length
  | [], ks, h => by unfold Rn at h; subst h; rfl
  | d :: ds, ks, h => by
    unfold Rn at h
    obtain ⟨key, b, r, rfl, ek, ed, rk, hr⟩ := h
    simp [Rn.len hr]
theorem Rt.keysAt (sb : Sub F H) : ∀ {kvs : List (D × D)} {ps : NP}, Rt C F ρ kvs ps → KeysAt H ps
  | [], ps, h => by unfold Rt at h; subst h; intro p hp; cases hp
  | (k, d) :: ds, ps, h => by
    unfold Rt at h
    obtain ⟨key, b, v, r, rfl, ek, ed, rk, _, hr⟩ := h
    intro p hp
    rcases List.mem_cons.mp hp with e | e
    · subst e; exact ⟨nk_rel sb rk ek, ed⟩
    · exact Rt.keysAt sb hr p e
end
end Ws
set_option Elab.async false
set_option linter.all false
set_option maxRecDepth 100000
namespace Ws
open PySem L2
structure Sx where
  F : Hp
  ρ : Rho
  H : Hp
  ah : AH
def OR (C : Cf) (F : Hp) (ρ : Rho) (H : Hp) (a : Addr) : OB → Prop
  | .lst xs => ∃ ys, H a = some (.lst ys) ∧ Rs C F ρ xs ys
  | .dct kvs => ∃ ks, H a = some (.dK ks) ∧ Rk C F ρ kvs ks
  | .dcT kvs => ∃ ks, H a = some (dictN C.P C.w a ks) ∧ Rt C F ρ kvs ks
  | .ins c fs => ∃ dx gs, H a = some (.ins (He.ga C.K c) dx gs) ∧ Rf C F ρ fs gs
  | .set xs => ∃ (ks : List Key), H a = some (SetM C.P C.w a ks) ∧ xs = ks.map keyD
theorem OR.mono {C : Cf} {F F' : Hp} {ρ ρ' : Rho} {H H' : Hp} {a : Addr} {ob : OB} (s : Sub F F') (r : RSub ρ ρ') (e : H' a = H a) (h : OR C F ρ H a ob) : OR C F' ρ' H' a ob := by
  cases ob with
  | lst xs => obtain ⟨ys, q, z⟩ := h; exact ⟨ys, e.trans q, Rs.mono s r z⟩
  | dct kvs => obtain ⟨ks, q, z⟩ := h; exact ⟨ks, e.trans q, Rk.mono s r z⟩
  | dcT kvs => obtain ⟨ks, q, z⟩ := h; exact ⟨ks, e.trans q, Rt.mono s r z⟩
  | ins c fs => obtain ⟨dx, gs, q, z⟩ := h; exact ⟨dx, gs, e.trans q, Rf.mono s r z⟩
  | set xs => obtain ⟨ks, q, z⟩ := h; exact ⟨ks, e.trans q, z⟩
theorem OR.notTup {C : Cf} {F : Hp} {ρ : Rho} {H : Hp} {a : Addr} {ob : OB} (h : OR C F ρ H a ob) {ys : List V} (e : H a = some (.tup ys)) : False := by
  cases ob with
  | lst xs => obtain ⟨_, q, z⟩ := h; rw [e] at q; cases q
  | dct kvs => obtain ⟨ks, q, z⟩ := h; rw [e] at q; cases q
  | dcT kvs => obtain ⟨ks, q, z⟩ := h; rw [e] at q; exact nomatch (show HO.tup ys = HO.ext _ from Option.some.inj q)
  | ins c fs => obtain ⟨dx, gs, q, z⟩ := h; rw [e] at q; cases q
  | set xs => obtain ⟨ks, q, z⟩ := h; rw [e] at q; have q' : HO.tup ys = HO.ext _ := Option.some.inj q; cases q'
/-- not a table of code objects -/
def NT (o : HO) : Prop := ∀ ps, o ≠ .tbl ps
theorem OR.thereN {C : Cf} {F : Hp} {ρ : Rho} {H : Hp} {a : Addr} {ob : OB} (h : OR C F ρ H a ob) : ∃ o, H a = some o ∧ NT o := by
  cases ob with
  | lst xs => obtain ⟨ys, q, z⟩ := h; exact ⟨_, q, fun _ z => nomatch z⟩
  | dct kvs => obtain ⟨ks, q, z⟩ := h; exact ⟨_, q, fun _ z => nomatch z⟩
  | dcT kvs => obtain ⟨ks, q, z⟩ := h; exact ⟨_, q, fun ps z => nomatch (show HO.tbl ps = HO.ext _ from z.symm)⟩
  | ins c fs => obtain ⟨dx, gs, q, z⟩ := h; exact ⟨_, q, fun _ z => nomatch z⟩
  | set xs => obtain ⟨ks, q, z⟩ := h; exact ⟨_, q, fun ps z => nomatch (show HO.tbl ps = HO.ext _ from z.symm)⟩
theorem OR.there {C : Cf} {F : Hp} {ρ : Rho} {H : Hp} {a : Addr} {ob : OB} (h : OR C F ρ H a ob) : ∃ o, H a = some o := let ⟨o, e, _⟩ := h.thereN; ⟨o, e⟩
/-- the table at P: each code object that it tells bears the name q and stays -/
def TabF (F H : Hp) (P : Addr) (q : Str) : Prop := ∃ ps : Array Value, H P = some (.tbl ps) ∧ F P = none ∧ TriplesOk ps.toList ∧ ∀ (pos : Pos) (cv : Value), codeAmong pos ps.toList = some cv → ∃ c, cv = .ref c ∧ F c = some (LamX.CodeO c q)
theorem TabF.step {F F' H H' : Hp} {P : Addr} {q : Str} (t : TabF F H P q) (sb : Sub F F') (e : H' P = H P) (n : F' P = none) : TabF F' H' P q := by
  obtain ⟨ps, h1, _, h2, h3⟩ := t
  refine ⟨ps, e.trans h1, n, h2, fun pos cv hc => ?_⟩
  obtain ⟨c, e1, e2⟩ := h3 pos cv hc
  exact ⟨c, e1, sb _ _ e2⟩
def TabsF (T : List (Addr × Str)) (F H : Hp) : Prop := ∀ p ∈ T, TabF F H p.1 p.2
/-- a table is no object of another kind -/
theorem TabF.ne {F H : Hp} {P a : Addr} {q : Str} {o : HO} (t : TabF F H P q) (e : H a = some o) (n : NT o) : P ≠ a := by
  obtain ⟨ps, h1, _⟩ := t
  intro z
  rw [z, e] at h1
  exact n ps (Option.some.inj h1)
theorem TabF.ne0 {F H : Hp} {P a : Addr} {q : Str} (t : TabF F H P q) (e : H a = none) : P ≠ a := by
  obtain ⟨ps, h1, _⟩ := t
  intro z
  rw [z, e] at h1
  cases h1
theorem TabF.nF {F H : Hp} {P : Addr} {q : Str} (t : TabF F H P q) : F P = none := let ⟨_, _, n, _⟩ := t; n
structure Good (C : Cf) (s : Sx) : Prop where
  sub : Sub s.F s.H
  tups : ∀ a ys, s.H a = some (.tup ys) → s.F a = some (.tup ys)
  own : ∀ n ob, s.ah.get n = some ob → ∃ a, s.ρ.c n = some a ∧ s.F a = none ∧ OR C s.F s.ρ s.H a ob
  inj : ∀ n m a, s.ah.get n ≠ none → s.ah.get m ≠ none → s.ρ.c n = some a → s.ρ.c m = some a → n = m
  dom : ∀ n, s.ah.length ≤ n → s.ρ.c n = none
  tabs : TabsF C.T s.F s.H
structure Fwd (s s' : Sx) : Prop where
  sub : Sub s.F s'.F
  rho : RSub s.ρ s'.ρ
  frame : ∀ a o, s.H a = some o → NT o → (∀ n, s.ρ.c n = some a → s.ah.get n = none) → s'.H a = some o
  fresh : ∀ n a, s'.ρ.c n = some a → s'.ah.get n ≠ none → (s.ρ.c n = some a ∧ s.ah.get n ≠ none) ∨ s.H a = none
  there : ∀ a o, s.H a = some o → ∃ o', s'.H a = some o' ∧ (NT o → NT o')
  still : ∀ a o, s'.F a = some o → s.F a = some o ∨ s.H a = none ∨ ∃ n, s.ρ.c n = some a ∧ s.ah.get n ≠ none
structure Mon (s t : Sx) : Prop where
  sub : Sub s.F t.F
  rho : RSub s.ρ t.ρ
theorem Fwd.mon {s t : Sx} (f : Fwd s t) : Mon s t := ⟨f.sub, f.rho⟩
theorem Mon.refl (s : Sx) : Mon s s := ⟨.refl _, .refl _⟩
theorem Mon.trans {s t u : Sx} (a : Mon s t) (b : Mon t u) : Mon s u := ⟨a.sub.trans b.sub, a.rho.trans b.rho⟩
theorem R.mon {C : Cf} {s t : Sx} {d : D} {v : V} (f : Mon s t) (h : R C s.F s.ρ d v) : R C t.F t.ρ d v := R.mono f.sub f.rho h
theorem Rs.mon {C : Cf} {s t : Sx} {d : List D} {v : List V} (f : Mon s t) (h : Rs C s.F s.ρ d v) : Rs C t.F t.ρ d v := Rs.mono f.sub f.rho h
theorem Fwd.refl (s : Sx) : Fwd s s := ⟨.refl _, .refl _, fun _ _ h _ _ => h, fun _ _ h k => .inl ⟨h, k⟩, fun _ o h => ⟨o, h, id⟩, fun _ _ h => .inl h⟩
theorem Fwd.trans {s t u : Sx} (a : Fwd s t) (b : Fwd t u) : Fwd s u where
  sub := a.sub.trans b.sub
  rho := a.rho.trans b.rho
  frame := fun x o h nt k => b.frame x o (a.frame x o h nt k) nt fun n e => by
    cases q : t.ah.get n with
    | none => rfl
    | some ob =>
      rcases a.fresh n x e (by rw [q]; exact fun z => nomatch z) with ⟨z1, z2⟩ | z
      · exact absurd (k n z1) z2
      · rw [h] at z; cases z
  fresh := fun n x e k => by
    rcases b.fresh n x e k with ⟨z1, z2⟩ | z
    · exact a.fresh n x z1 z2
    · refine .inr ?_
      cases q : s.H x with
      | none => rfl
      | some o =>
        obtain ⟨o', z', _⟩ := a.there x o q
        rw [z] at z'; cases z'
  there := fun x o h => by
    obtain ⟨o', z, n1⟩ := a.there x o h
    obtain ⟨o2, z2, n2⟩ := b.there x o' z
    exact ⟨o2, z2, fun n => n2 (n1 n)⟩
  still := fun x o h => by
    rcases b.still x o h with z | z | ⟨n, z1, z2⟩
    · exact a.still x o z
    · refine .inr (.inl ?_)
      cases q : s.H x with
      | none => rfl
      | some o =>
        obtain ⟨o', z', _⟩ := a.there x o q
        rw [z] at z'; cases z'
    · rcases a.fresh n x z1 z2 with ⟨y1, y2⟩ | y
      · exact .inr (.inr ⟨n, y1, y2⟩)
      · exact .inr (.inl y)
def RS (C : Cf) (s : Sx) (σ : St) (dσ : Sl) : Prop := σ.length = dσ.length ∧ ∀ (i : Nat) (d : D), dσ[i]? = some (some d) → ∃ v : V, σ[i]? = some (some v) ∧ R C s.F s.ρ d v
theorem R.fwd {C : Cf} {s s' : Sx} {d : D} {v : V} (f : Fwd s s') (h : R C s.F s.ρ d v) : R C s'.F s'.ρ d v := R.mono f.sub f.rho h
theorem Rs.fwd {C : Cf} {s s' : Sx} {d : List D} {v : List V} (f : Fwd s s') (h : Rs C s.F s.ρ d v) : Rs C s'.F s'.ρ d v := Rs.mono f.sub f.rho h
theorem RS.mon {C : Cf} {s s' : Sx} {σ : St} {dσ : Sl} (f : Mon s s') (h : RS C s σ dσ) : RS C s' σ dσ := ⟨h.1, fun i d e => let ⟨v, a, b⟩ := h.2 i d e; ⟨v, a, b.mon f⟩⟩
theorem RS.fwd {C : Cf} {s s' : Sx} {σ : St} {dσ : Sl} (f : Fwd s s') (h : RS C s σ dσ) : RS C s' σ dσ := ⟨h.1, fun i d e => let ⟨v, a, b⟩ := h.2 i d e; ⟨v, a, b.fwd f⟩⟩
theorem RS.set {C : Cf} {s : Sx} {σ : St} {dσ : Sl} {i : Nat} {d : D} {v : V} (h : RS C s σ dσ) (r : R C s.F s.ρ d v) : RS C s (σ.set i (some v)) (dσ.set i (some d)) := by
  refine ⟨by simp [h.1], fun j d' e => ?_⟩
  rw [List.getElem?_set] at e ⊢
  by_cases hj : i = j
  · rw [if_pos hj] at e ⊢
    split at e
    · rename_i hlt
      cases e
      exact ⟨v, by rw [if_pos (by rw [h.1]; exact hlt)], r⟩
    · cases e
  · rw [if_neg hj] at e ⊢
    exact h.2 j d' e
theorem RS.unset {C : Cf} {s : Sx} {σ : St} {dσ : Sl} {i : Nat} (h : RS C s σ dσ) : RS C s (σ.set i none) (dσ.set i none) := by
  refine ⟨by simp [h.1], fun j d' e => ?_⟩
  rw [List.getElem?_set] at e ⊢
  by_cases hj : i = j
  · rw [if_pos hj] at e
    split at e <;> cases e
  · rw [if_neg hj] at e ⊢
    exact h.2 j d' e
/-- a thing that stays -/
def Sx.frz (s : Sx) (p : Addr) (o : HO) : Sx := { s with F := upd s.F p o, H := upd s.H p o }
theorem Good.notF {C : Cf} {s : Sx} (g : Good C s) {p : Addr} (h : s.H p = none) : s.F p = none := by
  cases q : s.F p with
  | none => rfl
  | some o => rw [g.sub p o q] at h; cases h
theorem Good.notC {C : Cf} {s : Sx} (g : Good C s) {p : Addr} (h : s.H p = none) {n : Nat} (e : s.ρ.c n = some p) : s.ah.get n = none := by
  cases q : s.ah.get n with
  | none => rfl
  | some ob =>
    obtain ⟨a, e1, _, o⟩ := g.own n ob q
    rw [e] at e1; cases e1
    obtain ⟨o', z⟩ := o.there
    rw [h] at z; cases z
theorem Sub.upd' {F : Hp} {p : Addr} {o : HO} (h : F p = none) : Sub F (upd F p o) := fun a u e => by
  rw [upd_ne (ne_of_none e h)]; exact e
theorem Good.frz {C : Cf} {s : Sx} (g : Good C s) {p : Addr} {o : HO} (h : s.H p = none) : Good C (s.frz p o) where
  sub := fun a u e => by
    by_cases hp : a = p
    · subst hp; rw [show (s.frz a o).F a = _ from upd_same] at e; rw [show (s.frz a o).H a = _ from upd_same]; exact e
    · rw [show (s.frz p o).F a = _ from upd_ne hp] at e; rw [show (s.frz p o).H a = _ from upd_ne hp]; exact g.sub a u e
  tups := fun a ys e => by
    by_cases hp : a = p
    · subst hp; rw [show (s.frz a o).H a = _ from upd_same] at e; rw [show (s.frz a o).F a = _ from upd_same]; exact e
    · rw [show (s.frz p o).H a = _ from upd_ne hp] at e; rw [show (s.frz p o).F a = _ from upd_ne hp]; exact g.tups a ys e
  own := fun n ob e => by
    obtain ⟨a, e1, e2, e3⟩ := g.own n ob e
    obtain ⟨o', z⟩ := e3.there
    have ne : a ≠ p := ne_of_none z h
    exact ⟨a, e1, (show (s.frz p o).F a = none by rw [show (s.frz p o).F a = _ from upd_ne ne]; exact e2), e3.mono (Sub.upd' (g.notF h)) (.refl _) (show (s.frz p o).H a = s.H a from upd_ne ne)⟩
  inj := g.inj
  dom := g.dom
  tabs := fun p' hp => by
    have t := g.tabs p' hp
    have ne := t.ne0 h
    exact t.step (Sub.upd' (g.notF h)) (show (s.frz p o).H p'.1 = _ from upd_ne ne) (show (s.frz p o).F p'.1 = none from (upd_ne ne).trans t.nF)
theorem Fwd.frz {C : Cf} {s : Sx} (g : Good C s) {p : Addr} {o : HO} (h : s.H p = none) : Fwd s (s.frz p o) :=
  ⟨Sub.upd' (g.notF h), .refl _, fun a u e _ _ => by rw [show (s.frz p o).H a = _ from upd_ne (ne_of_none e h)]; exact e, fun _ _ e k => .inl ⟨e, k⟩, fun a u e => ⟨u, by rw [show (s.frz p o).H a = _ from upd_ne (ne_of_none e h)]; exact e, id⟩, fun a u e => by
    by_cases hp : a = p
    · subst hp; exact .inr (.inl h)
    · rw [show (s.frz p o).F a = _ from upd_ne hp] at e; exact .inl e⟩
/-- a new cell -/
def Rho.put (ρ : Rho) (n : Nat) (p : Addr) : Rho := { ρ with c := fun k => if k = n then some p else ρ.c k }
def Sx.own (s : Sx) (p : Addr) (o : HO) (ob : OB) : Sx := { F := s.F, ρ := s.ρ.put s.ah.length p, H := upd s.H p o, ah := s.ah ++ [some ob] }
theorem AH.get_push (h : AH) (o : Option OB) (n : Nat) : AH.get (h ++ [o]) n = if n = h.length then o else AH.get h n := by
  unfold AH.get
  by_cases e : n = h.length
  · subst e; simp
  · rw [if_neg e]
    by_cases l : n < h.length
    · rw [List.getElem?_append_left l]
    · have l2 : h.length + 1 ≤ n := by omega
      rw [List.getElem?_eq_none (by simp; omega), List.getElem?_eq_none (by omega)]
theorem AH.get_len (h : AH) {n : Nat} (e : h.length ≤ n) : AH.get h n = none := by
  unfold AH.get; rw [List.getElem?_eq_none e]; rfl
theorem RSub.put {ρ : Rho} {n : Nat} {p : Addr} (h : ρ.c n = none) : RSub ρ (ρ.put n p) := ⟨fun k a e => by
  unfold Rho.put
  by_cases q : k = n
  · subst q; rw [h] at e; cases e
  · simp only [if_neg q]; exact e, rfl⟩
theorem Good.ownD {C : Cf} {s : Sx} (g : Good C s) {p : Addr} {o : HO} {ob : OB} (h : s.H p = none) (r : OR C s.F (s.ρ.put s.ah.length p) (upd s.H p o) p ob) : Good C (s.own p o ob) where
  sub := fun a u e => by
    have e' : s.F a = some u := e
    show upd s.H p o a = _
    rw [upd_ne (ne_of_none e' (g.notF h))]; exact g.sub a u e'
  tups := fun a ys e => by
    have e' : upd s.H p o a = some (.tup ys) := e
    by_cases hp : a = p
    · subst hp; exact (r.notTup e').elim
    · rw [upd_ne hp] at e'; exact g.tups a ys e'
  own := fun n x e => by
    have e' : AH.get (s.ah ++ [some ob]) n = some x := e
    rw [AH.get_push] at e'
    by_cases q : n = s.ah.length
    · rw [if_pos q] at e'
      cases e'
      subst q
      exact ⟨p, show (if s.ah.length = s.ah.length then some p else s.ρ.c s.ah.length) = some p from if_pos rfl, g.notF h, r⟩
    · rw [if_neg q] at e'
      obtain ⟨a, e1, e2, e3⟩ := g.own n x e'
      obtain ⟨o', z⟩ := e3.there
      exact ⟨a, show (if n = s.ah.length then some p else s.ρ.c n) = some a by rw [if_neg q]; exact e1, e2, e3.mono (.refl _) (RSub.put (g.dom _ (Nat.le_refl _))) (show upd s.H p o a = s.H a from upd_ne (ne_of_none z h))⟩
  inj := fun n m a k1 k2 e1 e2 => by
    have k1' : AH.get (s.ah ++ [some ob]) n ≠ none := k1
    have k2' : AH.get (s.ah ++ [some ob]) m ≠ none := k2
    rw [AH.get_push] at k1' k2'
    have e1' : (if n = s.ah.length then some p else s.ρ.c n) = some a := e1
    have e2' : (if m = s.ah.length then some p else s.ρ.c m) = some a := e2
    by_cases q1 : n = s.ah.length
    · by_cases q2 : m = s.ah.length
      · rw [q1, q2]
      · rw [if_pos q1] at e1'; rw [if_neg q2] at e2' k2'
        cases e1'
        exact absurd (g.notC h e2') k2'
    · by_cases q2 : m = s.ah.length
      · rw [if_neg q1] at e1' k1'; rw [if_pos q2] at e2'
        cases e2'
        exact absurd (g.notC h e1') k1'
      · rw [if_neg q1] at e1' k1'; rw [if_neg q2] at e2' k2'
        exact g.inj n m a k1' k2' e1' e2'
  dom := fun n e => by
    have e' : (s.ah ++ [some ob]).length ≤ n := e
    simp at e'
    show (if n = s.ah.length then some p else s.ρ.c n) = none
    rw [if_neg (by omega)]
    exact g.dom n (by omega)
  tabs := fun p' hp => by
    have t := g.tabs p' hp
    exact t.step (.refl _) (show upd s.H p o p'.1 = _ from upd_ne (t.ne0 h)) t.nF
theorem Fwd.ownD {C : Cf} {s : Sx} (g : Good C s) {p : Addr} {o : HO} {ob : OB} (h : s.H p = none) : Fwd s (s.own p o ob) where
  sub := .refl _
  rho := RSub.put (g.dom _ (Nat.le_refl _))
  frame := fun a u e _ _ => by show upd s.H p o a = _; rw [upd_ne (ne_of_none e h)]; exact e
  fresh := fun n a e k => by
    have e' : (if n = s.ah.length then some p else s.ρ.c n) = some a := e
    have k' : AH.get (s.ah ++ [some ob]) n ≠ none := k
    rw [AH.get_push] at k'
    by_cases q : n = s.ah.length
    · rw [if_pos q] at e'; cases e'; exact .inr h
    · rw [if_neg q] at e' k'; exact .inl ⟨e', k'⟩
  there := fun a u e => ⟨u, by show upd s.H p o a = _; rw [upd_ne (ne_of_none e h)]; exact e, id⟩
  still := fun _ _ e => .inl e
/-- a cell is written -/
def AH.put (h : AH) (n : Nat) (ob : OB) : AH := h.set n (some ob)
def Sx.wr (s : Sx) (n : Nat) (a : Addr) (o : HO) (ob : OB) : Sx := { s with H := upd s.H a o, ah := s.ah.put n ob }
theorem AH.get_lt {h : AH} {n : Nat} {ob : OB} (e : h.get n = some ob) : n < h.length := by
  by_cases l : n < h.length
  · exact l
  · rw [AH.get_len h (by omega)] at e; cases e
theorem AH.get_put {h : AH} {n m : Nat} {ob : OB} (l : n < h.length) : AH.get (h.put n ob) m = if m = n then some ob else h.get m := by
  unfold AH.get AH.put
  rw [List.getElem?_set]
  by_cases e : n = m
  · subst e; simp [l]
  · rw [if_neg e, if_neg (Ne.symm e)]
theorem Good.wr {C : Cf} {s : Sx} (g : Good C s) {n : Nat} {a : Addr} {o : HO} {ob ob' : OB} (e : s.ah.get n = some ob') (ea : s.ρ.c n = some a) (r : OR C s.F s.ρ (upd s.H a o) a ob) : Good C (s.wr n a o ob) where
  sub := fun b u q => by
    obtain ⟨a', e1, e2, _⟩ := g.own n ob' e
    rw [ea] at e1; cases e1
    have q' : s.F b = some u := q
    show upd s.H a o b = _
    rw [upd_ne (ne_of_none q' e2)]; exact g.sub b u q'
  tups := fun b ys q => by
    have q' : upd s.H a o b = some (.tup ys) := q
    by_cases hb : b = a
    · subst hb; exact (r.notTup q').elim
    · rw [upd_ne hb] at q'; exact g.tups b ys q'
  own := fun m x q => by
    have q' : AH.get (s.ah.put n ob) m = some x := q
    rw [AH.get_put (AH.get_lt e)] at q'
    by_cases hm : m = n
    · subst hm
      rw [if_pos rfl] at q'; cases q'
      obtain ⟨a', e1, e2, _⟩ := g.own m ob' e
      rw [ea] at e1; cases e1
      exact ⟨a, ea, e2, r⟩
    · rw [if_neg hm] at q'
      obtain ⟨b, e1, e2, e3⟩ := g.own m x q'
      have ne : b ≠ a := fun z => by
        subst z
        exact hm (g.inj m n b (by rw [q']; exact fun z => nomatch z) (by rw [e]; exact fun z => nomatch z) e1 ea)
      exact ⟨b, e1, e2, e3.mono (.refl _) (.refl _) (show upd s.H a o b = s.H b from upd_ne ne)⟩
  inj := fun m k b k1 k2 => by
    have k1' : AH.get (s.ah.put n ob) m ≠ none := k1
    have k2' : AH.get (s.ah.put n ob) k ≠ none := k2
    rw [AH.get_put (AH.get_lt e)] at k1' k2'
    refine g.inj m k b ?_ ?_
    · by_cases hm : m = n
      · rw [hm, e]; exact fun z => nomatch z
      · rw [if_neg hm] at k1'; exact k1'
    · by_cases hm : k = n
      · rw [hm, e]; exact fun z => nomatch z
      · rw [if_neg hm] at k2'; exact k2'
  dom := fun m q => g.dom m (by simpa [Sx.wr, AH.put] using q)
  tabs := fun p' hp => by
    have t := g.tabs p' hp
    obtain ⟨a', e1, _, e3⟩ := g.own n ob' e
    rw [ea] at e1; cases e1
    obtain ⟨o', z, nt⟩ := e3.thereN
    exact t.step (.refl _) (show upd s.H a o p'.1 = _ from upd_ne (t.ne z nt)) t.nF
theorem Fwd.wr {C : Cf} {s : Sx} (g : Good C s) {n : Nat} {a : Addr} {o : HO} {ob ob' : OB} (e : s.ah.get n = some ob') (ea : s.ρ.c n = some a) (nto : NT o := by (intro ps z; first | exact nomatch z | exact nomatch (show HO.ext _ = HO.tbl ps from z))) : Fwd s (s.wr n a o ob) where
  sub := .refl _
  rho := .refl _
  frame := fun b u q _ k => by
    show upd s.H a o b = _
    rw [upd_ne (fun z => by subst z; rw [k n ea] at e; cases e)]; exact q
  fresh := fun m b q k => by
    refine .inl ⟨q, ?_⟩
    have k' : AH.get (s.ah.put n ob) m ≠ none := k
    rw [AH.get_put (AH.get_lt e)] at k'
    by_cases hm : m = n
    · rw [hm, e]; exact fun z => nomatch z
    · rw [if_neg hm] at k'; exact k'
  there := fun b u q => by
    by_cases hb : b = a
    · exact ⟨o, by rw [hb]; exact upd_same, fun _ => nto⟩
    · exact ⟨u, by show upd s.H a o b = _; rw [upd_ne hb]; exact q, id⟩
  still := fun _ _ e => .inl e
end Ws
set_option Elab.async false
set_option linter.all false
set_option maxRecDepth 100000
namespace Ws
open PySem L2
abbrev M (α : Type) := Sl → AH → Out α
def Out.bind {α β : Type} (o : Out α) (k : α → AH → Out β) : Out β := match o with
  | .ok a h => k a h
  | .exc x h => .exc x h
  | .bad => .bad
@[simp] theorem Out.bind_ok {α β : Type} (a : α) (h : AH) (k : α → AH → Out β) : (Out.ok a h).bind k = k a h := rfl
@[simp] theorem Out.bind_exc {α β : Type} (x : Exc) (h : AH) (k : α → AH → Out β) : (Out.exc x h).bind k = .exc x h := rfl
@[simp] theorem Out.bind_bad {α β : Type} (k : α → AH → Out β) : (Out.bad : Out α).bind k = .bad := rfl
def XR (C : Cf) (s : Sx) (x : Exc) (od : Option Addr) : Prop := (od = none ∧ x.fs = []) ∨ ∃ d gs, od = some d ∧ s.F d = some (.xd gs) ∧ Rf C s.F s.ρ x.fs gs
abbrev Rl (α β : Type) := Sx → α → β → Prop
abbrev rD (C : Cf) : Rl D V := fun s d v => R C s.F s.ρ d v
abbrev rDs (C : Cf) : Rl (List D) (List V) := fun s d v => Rs C s.F s.ρ d v
abbrev rB : Rl Bool Bool := fun _ a b => a = b
section
variable {α β γ δ : Type}
def Post (C : Cf) (W : WX) (σ : St) (rl : Rl α β) (s : Sx) (Q : β → Hp → Prop) : Out α → Prop
  | .ok d h => ∀ s' v, s'.ah = h → Fwd s s' → Good C s' → rl s' d v → Q v s'.H
  | .exc x h => ∀ s' od, s'.ah = h → Fwd s s' → Good C s' → XR C s' x od → W (.ref (He.ga C.K x.c)) od σ s'.H
  | .bad => False
/-- the reading of what reckons m -/
def tG (C : Cf) (ε : Option (Addr × Str × Option Addr)) (W : WX) (rl : Rl α β) (m : M α) : St → Hp → (β → Hp → Prop) → Prop := fun σ H Q =>
  ∃ s dσ, s.H = H ∧ s.ρ.x = ε ∧ Good C s ∧ RS C s σ dσ ∧ Post C W σ rl s Q (m dσ s.ah)
variable {C : Cf} {ε : Option (Addr × Str × Option Addr)} {W : WX} {σ : St}
theorem Post.fwd {rl : Rl α β} {s s' : Sx} {Q : β → Hp → Prop} {o : Out α} (f : Fwd s s') (h : Post C W σ rl s Q o) : Post C W σ rl s' Q o := by
  cases o with
  | ok d h' => exact fun t v e g k r => h t v e (f.trans g) k r
  | exc x h' => exact fun t od e g k r => h t od e (f.trans g) k r
  | bad => exact h
/-- the value as it stands -/
theorem Post.here {rl : Rl α β} {s : Sx} {Q : β → Hp → Prop} {d : α} {v : β} (g : Good C s) (h : Post C W σ rl s Q (.ok d s.ah)) (r : rl s d v) : Q v s.H := h s v rfl (.refl s) g r
theorem tG.mk {rl : Rl α β} {m : M α} {s : Sx} {dσ : Sl} {Q : β → Hp → Prop} (ex : s.ρ.x = ε) (g : Good C s) (rs : RS C s σ dσ) (h : Post C W σ rl s Q (m dσ s.ah)) : tG C ε W rl m σ s.H Q := ⟨s, dσ, rfl, ex, g, rs, h⟩
/-- one behind another -/
theorem Post.bind {r1 : Rl α β} {r2 : Rl γ δ} {m : M α} {k : α → AH → Out γ} {s : Sx} {dσ : Sl} {Q : δ → Hp → Prop} {T : β → Hp → Prop} (ex : s.ρ.x = ε) (g : Good C s) (rs : RS C s σ dσ)
    (h : Post C W σ r2 s Q ((m dσ s.ah).bind k)) (hk : ∀ s' a b, s'.ρ.x = ε → Fwd s s' → Good C s' → RS C s' σ dσ → r1 s' a b → Post C W σ r2 s' Q (k a s'.ah) → T b s'.H) : tG C ε W r1 m σ s.H T := by
  refine ⟨s, dσ, rfl, ex, g, rs, ?_⟩
  cases e : m dσ s.ah with
  | ok a h' =>
    rw [e] at h
    intro s' b e1 f g' r
    subst e1
    exact hk s' a b (f.rho.x.trans ex) f g' (rs.fwd f) r (Post.fwd f h)
  | exc x h' =>
    rw [e] at h
    exact h
  | bad =>
    rw [e] at h
    exact h
end
theorem _root_.L2.PE.imp {X : Cx} {e : Expr} {t t' : TE} (h : PE X e t) (k : ∀ σ H Q, t' σ H Q → t σ H Q) : PE X e t' := ⟨fun pins s σ H Q I q => h.run pins s σ H Q I (k σ H Q q)⟩
theorem _root_.L2.PT.imp {X : Cx} {e : Expr} {t t' : TT} (h : PT X e t) (k : ∀ σ H Q, t' σ H Q → t σ H Q) : PT X e t' := ⟨fun pins s σ H Q I q => h.run pins s σ H Q I (k σ H Q q)⟩
theorem _root_.L2.PW.imp {X : Cx} {e : Expr} {t t' : TT} (h : PW X e t) (k : ∀ σ H Q, t' σ H Q → t σ H Q) : PW X e t' := ⟨fun wh pins s σ H Q I q => h.run wh pins s σ H Q I (k σ H Q q)⟩
theorem _root_.L2.PA.imp {X : Cx} {e : List Expr} {t t' : TA} (h : PA X e t) (k : ∀ σ H Q, t' σ H Q → t σ H Q) : PA X e t' := ⟨fun pos pins s σ H Q I q => h.run pos pins s σ H Q I (k σ H Q q)⟩
theorem _root_.L2.PS.imp {X : Cx} {e : Stmt} {t t' : TS} (h : PS X e t) (k : ∀ D σ H, t' D σ H → t D σ H) : PS X e t' := ⟨fun pins s σ H D I q => h.run pins s σ H D I (k D σ H q)⟩
theorem _root_.L2.PSs.imp {X : Cx} {e : List Stmt} {t t' : TS} (h : PSs X e t) (k : ∀ D σ H, t' D σ H → t D σ H) : PSs X e t' := ⟨fun pins s σ H D I q => h.run pins s σ H D I (k D σ H q)⟩
/-- an expression reckons m -/
abbrev ME (X : Cx) (C : Cf) (ε : Option (Addr × Str × Option Addr)) (W : WX) (e : Expr) (m : M D) : Prop := PE X e (tG C ε W (rD C) m)
abbrev MT (X : Cx) (C : Cf) (ε : Option (Addr × Str × Option Addr)) (W : WX) (e : Expr) (m : M Bool) : Prop := PT X e (tG C ε W rB m)
abbrev MW (X : Cx) (C : Cf) (ε : Option (Addr × Str × Option Addr)) (W : WX) (e : Expr) (m : M Bool) : Prop := PW X e (tG C ε W rB m)
abbrev MA (X : Cx) (C : Cf) (ε : Option (Addr × Str × Option Addr)) (W : WX) (e : List Expr) (m : M (List D)) : Prop := PA X e (tG C ε W (rDs C) m)
def var (i : Nat) : M D := fun σ h => match σ[i]? with
  | some (some d) => .ok d h
  | _ => .bad
def cst (d : D) : M D := fun _ h => .ok d h
def bin (g : D → D → AH → Out D) (a b : M D) : M D := fun σ h => (a σ h).bind fun x h1 => (b σ h1).bind fun y h2 => g x y h2
def un (g : D → AH → Out D) (a : M D) : M D := fun σ h => (a σ h).bind fun x h1 => g x h1
def nilA : M (List D) := fun _ h => .ok [] h
def consA (a : M D) (b : M (List D)) : M (List D) := fun σ h => (a σ h).bind fun x h1 => (b σ h1).bind fun y h2 => .ok (x :: y) h2
def app (g : List D → AH → Out D) (a : M (List D)) : M D := fun σ h => (a σ h).bind fun x h1 => g x h1
/-- a truth -/
def isBl (x : D) (h : AH) : Out Bool := match x with
  | .bl b => .ok b h
  | _ => .bad
@[simp] theorem isBl_bl (b : Bool) (h : AH) : isBl (.bl b) h = .ok b h := rfl
def asB (a : M D) : M Bool := fun σ h => (a σ h).bind isBl
def notB (a : M Bool) : M Bool := fun σ h => (a σ h).bind fun x h1 => .ok (!x) h1
def andB (a b : M Bool) : M Bool := fun σ h => (a σ h).bind fun x h1 => if x = true then b σ h1 else .ok false h1
def orB (a b : M Bool) : M Bool := fun σ h => (a σ h).bind fun x h1 => if x = true then .ok true h1 else b σ h1
def andV (a b : M D) : M D := fun σ h => (asB a σ h).bind fun x h1 => if x = true then b σ h1 else .ok (.bl false) h1
def orV (a b : M D) : M D := fun σ h => (asB a σ h).bind fun x h1 => if x = true then .ok (.bl true) h1 else b σ h1
def notV (a : M D) : M D := fun σ h => (asB a σ h).bind fun x h1 => .ok (.bl (!x)) h1
def ifE (c : M Bool) (a b : M D) : M D := fun σ h => (c σ h).bind fun x h1 => if x = true then a σ h1 else b σ h1
def OpS (C : Cf) (r : R2) (g : D → D → AH → Out D) : Prop := ∀ (W : WX) (σ : St) (s : Sx) (x y : D) (v u : V) (Q : VK), Good C s → R C s.F s.ρ x v → R C s.F s.ρ y u → Post C W σ (rD C) s Q (g x y s.ah) → r v u s.H Q
def UnS (C : Cf) (r : V → Hp → VK → Prop) (g : D → AH → Out D) : Prop := ∀ (W : WX) (σ : St) (s : Sx) (x : D) (v : V) (Q : VK), Good C s → R C s.F s.ρ x v → Post C W σ (rD C) s Q (g x s.ah) → r v s.H Q
def CallS (C : Cf) (r : List V → Hp → VK → Prop) (g : List D → AH → Out D) : Prop := ∀ (W : WX) (σ : St) (s : Sx) (x : List D) (v : List V) (Q : VK), Good C s → Rs C s.F s.ρ x v → Post C W σ (rD C) s Q (g x s.ah) → r v s.H Q
section
variable {X : Cx} {C : Cf} {ε : Option (Addr × Str × Option Addr)} {W : WX} {a b c : Expr} {es : List Expr} {ma mb : M D} {mc mt mu : M Bool} {mr : M (List D)} {pos : Pos}
theorem me_var (i : Nat) {x : Str} (hN : X.N[i]? = some x := by rfl) (hv : Vis X.env.scope x := by first | exact Or.inl rfl | exact Or.inr (Or.inl rfl) | exact Or.inr (Or.inr rfl)) (hd : (x == ("__debug__" : Str)) = false := by decide)
    (hcd : (x == ("__classdict__" : Str)) = false := by decide) : ME X C ε W (.Name x pos) (var i) := by
  refine (pe_var hN hv hd hcd).imp fun σ H Q h => ?_
  obtain ⟨s, dσ, rfl, ex, g, rs, h⟩ := h
  unfold var at h
  split at h
  · rename_i d e
    obtain ⟨v, e1, r⟩ := rs.2 i d e
    exact ⟨v, e1, Post.here g h r⟩
  · exact h.elim
theorem me_int {i : Int} {j : Nat} : ME X C ε W (.Constant (.int i) j pos) (cst (.int i)) := pe_int.imp fun σ H Q h => by
  obtain ⟨s, dσ, rfl, ex, g, rs, h⟩ := h
  exact Post.here g h (by unfold R; rfl)
theorem me_bl {i : Bool} {j : Nat} : ME X C ε W (.Constant (.bool i) j pos) (cst (.bl i)) := pe_bl.imp fun σ H Q h => by
  obtain ⟨s, dσ, rfl, ex, g, rs, h⟩ := h
  exact Post.here g h (by unfold R; rfl)
theorem me_str {i : Str} {j : Nat} : ME X C ε W (.Constant (.str i) j pos) (cst (.str i)) := pe_str.imp fun σ H Q h => by
  obtain ⟨s, dσ, rfl, ex, g, rs, h⟩ := h
  exact Post.here g h (by unfold R; rfl)
theorem me_non {j : Nat} : ME X C ε W (.Constant .none j pos) (cst .non) := pe_non.imp fun σ H Q h => by
  obtain ⟨s, dσ, rfl, ex, g, rs, h⟩ := h
  exact Post.here g h (by unfold R; rfl)
/-- a constant of the module -/
theorem me_gstr {x z : Str} {t : Tok} (hg : Gl X x) (hm : X.mg x = some (.str z t)) (hd : (x == ("__debug__" : Str)) = false := by decide) : ME X C ε W (.Name x pos) (cst (.str z)) := (pe_glob (v := .str z) hg hm ⟨t, rfl⟩ hd).imp fun σ H Q h => by
  obtain ⟨s, dσ, rfl, ex, g, rs, h⟩ := h
  exact Post.here g h (by unfold R; rfl)
theorem me_gint {x : Str} {z : Int} {t : Tok} (hg : Gl X x) (hm : X.mg x = some (.int z t)) (hd : (x == ("__debug__" : Str)) = false := by decide) : ME X C ε W (.Name x pos) (cst (.int z)) := (pe_glob (v := .int z) hg hm ⟨t, rfl⟩ hd).imp fun σ H Q h => by
  obtain ⟨s, dσ, rfl, ex, g, rs, h⟩ := h
  exact Post.here g h (by unfold R; rfl)
/-- a class or a def of the module as a value -/
theorem me_glo {x : Str} (hg : Gl X x) (hm : X.mg x = some (.ref (He.ga C.K x))) (hd : (x == ("__debug__" : Str)) = false := by decide) : ME X C ε W (.Name x pos) (cst (.glo x)) := (pe_glob (v := .ref (He.ga C.K x)) hg hm rfl hd).imp fun σ H Q h => by
  obtain ⟨s, dσ, rfl, ex, g, rs, h⟩ := h
  exact Post.here g h (by unfold R; rfl)
theorem me_ty {x : Str} {n : String} (hg : Gl X x) (hm : X.mg x = none) (hv : bootBuiltins x = some (.type n)) (hn : x ≠ "__name__" := by decide) (hd : (x == ("__debug__" : Str)) = false := by decide) : ME X C ε W (.Name x pos) (cst (.ty n)) := (pe_bltn (v := .ty n) hg hm hv rfl hn hd).imp fun σ H Q h => by
  obtain ⟨s, dσ, rfl, ex, g, rs, h⟩ := h
  exact Post.here g h (by unfold R; rfl)
theorem me_bin {op : Operator} {r : R2} {g : D → D → AH → Out D} (ho : OpR X (binaryOp op) r) (hg : OpS C r g) (ha : ME X C ε W a ma) (hb : ME X C ε W b mb) : ME X C ε W (.BinOp a op b pos) (bin g ma mb) :=
  (pe_op ho ha hb).imp fun σ H Q h => by
    obtain ⟨s, dσ, rfl, ex, gd, rs, h⟩ := h
    refine Post.bind ex gd rs h fun s1 x v e1 f1 g1 rs1 r1 h1 => ?_
    exact Post.bind e1 g1 rs1 h1 fun s2 y u e2 f2 g2 rs2 r2 h2 => hg W σ s2 x y v u Q g2 (r1.fwd f2) r2 h2
theorem me_un {op : UnaryOp} {r : V → Hp → VK → Prop} {g : D → AH → Out D} (ho : UnR X (unaryOp op) r) (hg : UnS C r g) (ha : ME X C ε W a ma) : ME X C ε W (.UnaryOp op a pos) (un g ma) :=
  (pe_un ho ha).imp fun σ H Q h => by
    obtain ⟨s, dσ, rfl, ex, gd, rs, h⟩ := h
    exact Post.bind ex gd rs h fun s1 x v e1 f1 g1 rs1 r1 h1 => hg W σ s1 x v Q g1 r1 h1
theorem me_cmp {op : CmpOp} {r : R2} {g : D → D → AH → Out D} (ho : OpR X (compareOp op) r) (hg : OpS C r g) (ha : ME X C ε W a ma) (hb : ME X C ε W b mb) (hm : behindInMarks op b = false := by first | exact nomark _ | rfl) : ME X C ε W (.Compare a [op] [b] pos) (bin g ma mb) :=
  (pe_cmpR ho ha hb hm).imp fun σ H Q h => by
    obtain ⟨s, dσ, rfl, ex, gd, rs, h⟩ := h
    refine Post.bind ex gd rs h fun s1 x v e1 f1 g1 rs1 r1 h1 => ?_
    exact Post.bind e1 g1 rs1 h1 fun s2 y u e2 f2 g2 rs2 r2 h2 => hg W σ s2 x y v u Q g2 (r1.fwd f2) r2 h2
theorem Post.asB {s : Sx} {σ : St} {Q : Bool → Hp → Prop} {x : D} {v : V} (g : Good C s) (r : R C s.F s.ρ x v) (h : Post C W σ rB s Q (isBl x s.ah)) : ∃ k, v = .bl k ∧ Q k s.H := by
  cases x with
  | bl b => exact ⟨b, (by unfold R at r; exact r), Post.here g h rfl⟩
  | _ => exact h.elim
theorem mt_cmp {op : CmpOp} {r : R2} {g : D → D → AH → Out D} (ho : OpR X (compareOp op) r) (hg : OpS C r g) (ha : ME X C ε W a ma) (hb : ME X C ε W b mb) (hm : behindInMarks op b = false := by first | exact nomark _ | rfl) : MT X C ε W (.Compare a [op] [b] pos) (asB (bin g ma mb)) :=
  (pt_cmpR ho ha hb hm).imp fun σ H Q h => by
    obtain ⟨s, dσ, rfl, ex, gd, rs, h⟩ := h
    have h' : Post C W σ rB s Q ((ma dσ s.ah).bind fun x h1 => ((mb dσ h1).bind fun y h2 => g x y h2).bind isBl) := by
      have e : asB (bin g ma mb) dσ s.ah = ((ma dσ s.ah).bind fun x h1 => ((mb dσ h1).bind fun y h2 => g x y h2).bind isBl) := by
        unfold asB bin
        cases ma dσ s.ah <;> rfl
      rw [← e]; exact h
    refine Post.bind ex gd rs h' fun s1 x v e1 f1 g1 rs1 r1 h1 => ?_
    have h1' : Post C W σ rB s1 Q ((mb dσ s1.ah).bind fun y h2 => (g x y h2).bind isBl) := by
      have e : (((mb dσ s1.ah).bind fun y h2 => g x y h2).bind isBl) = ((mb dσ s1.ah).bind fun y h2 => (g x y h2).bind isBl) := by
        cases mb dσ s1.ah <;> rfl
      rw [← e]; exact h1
    refine Post.bind e1 g1 rs1 h1' fun s2 y u e2 f2 g2 rs2 r2 h2 => ?_
    refine hg W σ s2 x y v u _ g2 (r1.fwd f2) r2 ?_
    cases e : g x y s2.ah with
    | ok d ah' =>
      rw [e] at h2
      intro s3 w e3 f3 g3 r3
      subst e3
      exact Post.asB g3 r3 (Post.fwd f3 h2)
    | exc z ah' => rw [e] at h2; exact h2
    | bad => rw [e] at h2; exact h2
theorem mt_val (ha : ME X C ε W a ma) (he : ∀ whole, isTrue a X.env whole = (do let v ← whole; standAt a.pos; holding [v] (truthy v)) := by intro _; rfl) : MT X C ε W a (asB ma) :=
  (pt_val ha he).imp fun σ H Q h => by
    obtain ⟨s, dσ, rfl, ex, gd, rs, h⟩ := h
    exact Post.bind ex gd rs h fun s1 x v e1 f1 g1 rs1 r1 h1 => Post.asB g1 r1 h1
theorem mt_not (ha : MT X C ε W a mt) : MT X C ε W (.UnaryOp .Not a pos) (notB mt) := (pt_not ha).imp fun σ H Q h => by
  obtain ⟨s, dσ, rfl, ex, gd, rs, h⟩ := h
  exact Post.bind ex gd rs h fun s1 x v e1 f1 g1 rs1 r1 h1 => by subst r1; exact Post.here g1 h1 rfl
theorem mw_and1 (ha : MT X C ε W a mt) : MW X C ε W (.BoolOp .And [a] pos) mt := pw_and1 ha
theorem mw_or1 (ha : MT X C ε W a mt) : MW X C ε W (.BoolOp .Or [a] pos) mt := pw_or1 ha
theorem mw_and (ha : MT X C ε W a mt) (hb : MW X C ε W (.BoolOp .And (b :: es) pos) mu) : MW X C ε W (.BoolOp .And (a :: b :: es) pos) (andB mt mu) := (pw_and ha hb).imp fun σ H Q h => by
  obtain ⟨s, dσ, rfl, ex, gd, rs, h⟩ := h
  refine Post.bind ex gd rs h fun s1 x v e1 f1 g1 rs1 r1 h1 => ?_
  subst r1
  by_cases hx : x = true
  · rw [if_pos hx] at h1 ⊢; exact tG.mk e1 g1 rs1 h1
  · rw [if_neg hx] at h1 ⊢; exact Post.here g1 h1 rfl
theorem mw_or (ha : MT X C ε W a mt) (hb : MW X C ε W (.BoolOp .Or (b :: es) pos) mu) : MW X C ε W (.BoolOp .Or (a :: b :: es) pos) (orB mt mu) := (pw_or ha hb).imp fun σ H Q h => by
  obtain ⟨s, dσ, rfl, ex, gd, rs, h⟩ := h
  refine Post.bind ex gd rs h fun s1 x v e1 f1 g1 rs1 r1 h1 => ?_
  subst r1
  by_cases hx : x = true
  · rw [if_pos hx] at h1 ⊢; exact Post.here g1 h1 rfl
  · rw [if_neg hx] at h1 ⊢; exact tG.mk e1 g1 rs1 h1
theorem mt_w (h : MW X C ε W a mt) : MT X C ε W a mt := PW.pt h
theorem me_one {op : BoolOp} (h : ME X C ε W a ma) : ME X C ε W (.BoolOp op [a] pos) ma := pe_one h
theorem Post.bB {s : Sx} {σ : St} {Q : VK} {x : D} {v : V} {k : Bool → AH → Out D} {T : Bool → Prop} (g : Good C s) (r : R C s.F s.ρ x v) (h : Post C W σ (rD C) s Q ((isBl x s.ah).bind k)) (hk : ∀ c, Post C W σ (rD C) s Q (k c s.ah) → T c) : ∃ c, v = .bl c ∧ T c := by
  cases x with
  | bl b => exact ⟨b, (by unfold R at r; exact r), hk b h⟩
  | _ => exact h.elim
theorem asB_bind (dσ : Sl) (h : AH) (k : Bool → AH → Out D) : (asB ma dσ h).bind k = (ma dσ h).bind fun x h1 => (isBl x h1).bind k := by
  unfold asB
  cases ma dσ h <;> rfl
theorem me_and (ha : ME X C ε W a ma) (hb : ME X C ε W (.BoolOp .And (b :: es) pos) mb) : ME X C ε W (.BoolOp .And (a :: b :: es) pos) (andV ma mb) := (pe_and ha hb).imp fun σ H Q h => by
  obtain ⟨s, dσ, rfl, ex, gd, rs, h⟩ := h
  unfold andV at h
  rw [asB_bind] at h
  refine Post.bind ex gd rs h fun s1 x v e1 f1 g1 rs1 r1 h1 => ?_
  refine Post.bB g1 r1 h1 fun c h2 => ?_
  by_cases hx : c = true
  · rw [if_pos hx] at h2 ⊢; exact tG.mk e1 g1 rs1 h2
  · rw [if_neg hx] at h2 ⊢; exact Post.here g1 h2 (by unfold R; rfl)
theorem me_or (ha : ME X C ε W a ma) (hb : ME X C ε W (.BoolOp .Or (b :: es) pos) mb) : ME X C ε W (.BoolOp .Or (a :: b :: es) pos) (orV ma mb) := (pe_or ha hb).imp fun σ H Q h => by
  obtain ⟨s, dσ, rfl, ex, gd, rs, h⟩ := h
  unfold orV at h
  rw [asB_bind] at h
  refine Post.bind ex gd rs h fun s1 x v e1 f1 g1 rs1 r1 h1 => ?_
  refine Post.bB g1 r1 h1 fun c h2 => ?_
  by_cases hx : c = true
  · rw [if_pos hx] at h2 ⊢; exact Post.here g1 h2 (by unfold R; rfl)
  · rw [if_neg hx] at h2 ⊢; exact tG.mk e1 g1 rs1 h2
theorem me_if (hc : MT X C ε W c mc) (ha : ME X C ε W a ma) (hb : ME X C ε W b mb) : ME X C ε W (.IfExp c a b pos) (ifE mc ma mb) := (pe_ifExp hc ha hb).imp fun σ H Q h => by
  obtain ⟨s, dσ, rfl, ex, gd, rs, h⟩ := h
  refine Post.bind ex gd rs h fun s1 x v e1 f1 g1 rs1 r1 h1 => ?_
  subst r1
  by_cases hx : x = true
  · rw [if_pos hx] at h1 ⊢; exact tG.mk e1 g1 rs1 h1
  · rw [if_neg hx] at h1 ⊢; exact tG.mk e1 g1 rs1 h1
theorem ma_nil : MA X C ε W [] nilA := pa_nil.imp fun σ H Q h => by
  obtain ⟨s, dσ, rfl, ex, g, rs, h⟩ := h
  exact Post.here g h (by unfold Rs; rfl)
theorem ma_cons (ha : ME X C ε W a ma) (hr : MA X C ε W es mr) (hs : starEach (a :: es) X.env = (false, eval a X.env) :: starEach es X.env := by rfl) : MA X C ε W (a :: es) (consA ma mr) := (pa_cons ha hr hs).imp fun σ H Q h => by
  obtain ⟨s, dσ, rfl, ex, gd, rs, h⟩ := h
  refine Post.bind ex gd rs h fun s1 x v e1 f1 g1 rs1 r1 h1 => ?_
  refine Post.bind e1 g1 rs1 h1 fun s2 y u e2 f2 g2 rs2 r2 h2 => ?_
  exact Post.here g2 h2 (by unfold Rs; exact ⟨v, u, rfl, r1.fwd f2, r2⟩)
/-- a built-in function -/
theorem me_callB {id : String} {x : Str} {p : Pos} {r : List V → Hp → VK → Prop} {g : List D → AH → Out D} (hc : CallR X (.builtin id) r) (hcs : CallS C r g) (hg : Gl X x) (hm : X.mg x = none) (hv : bootBuiltins x = some (.builtin id)) (ha : MA X C ε W (a :: es) mr) (hn : x ≠ "__name__" := by decide)
    (hdb : (x == ("__debug__" : Str)) = false := by decide) (he : starEach (a :: es) X.env = (false, eval a X.env) :: starEach es X.env := by rfl) (hpl : (backTo pos (starEach es X.env)).any (·.1) = false := by rfl) : ME X C ε W (.Call (.Name x p) (a :: es) [] pos) (app g mr) :=
  (pe_callB hc hg hm hv ha hn hdb he hpl).imp fun σ H Q h => by
    obtain ⟨s, dσ, rfl, ex, gd, rs, h⟩ := h
    exact Post.bind ex gd rs h fun s1 x v e1 f1 g1 rs1 r1 h1 => hcs W σ s1 x v Q g1 r1 h1
theorem me_callTy {id : String} {x : Str} {p : Pos} {r : List V → Hp → VK → Prop} {g : List D → AH → Out D} (hc : CallR X (.type id) r) (hcs : CallS C r g) (hg : Gl X x) (hm : X.mg x = none) (hv : bootBuiltins x = some (.type id)) (ha : MA X C ε W (a :: es) mr) (hn : x ≠ "__name__" := by decide)
    (hdb : (x == ("__debug__" : Str)) = false := by decide) (he : starEach (a :: es) X.env = (false, eval a X.env) :: starEach es X.env := by rfl) (hpl : (backTo pos (starEach es X.env)).any (·.1) = false := by rfl) : ME X C ε W (.Call (.Name x p) (a :: es) [] pos) (app g mr) :=
  (pe_callTy hc hg hm hv ha hn hdb he hpl).imp fun σ H Q h => by
    obtain ⟨s, dσ, rfl, ex, gd, rs, h⟩ := h
    exact Post.bind ex gd rs h fun s1 x v e1 f1 g1 rs1 r1 h1 => hcs W σ s1 x v Q g1 r1 h1
end
end Ws
set_option Elab.async false
set_option linter.all false
set_option maxRecDepth 100000
namespace Ws
open PySem L2
mutual
def pureD (L : Nat) : D → Bool
  | .tup xs => pureDs L xs
  | .rtp xs => pureDs L xs
  | .lst xs => pureDs L xs
  | .dct kvs => pureK L kvs
  | .dcT kvs => pureK L kvs
  | .ins _ fs => pureF L fs
  | .cell n => decide (n < L)
  | .exn _ _ => false
  | .lam _ => false
  | _ => true
def pureDs (L : Nat) : List D → Bool
  | [] => true
  | d :: ds => pureD L d && pureDs L ds
def pureK (L : Nat) : List (D × D) → Bool
  | [] => true
  | (_, d) :: ds => pureD L d && pureK L ds
def pureF (L : Nat) : List (Str × D) → Bool
  | [] => true
  | (_, d) :: ds => pureD L d && pureF L ds
end
def REq (L : Nat) (ρ ρ' : Rho) : Prop := ∀ n, n < L → ρ'.c n = ρ.c n
mutual
theorem R.pure {C : Cf} {F : Hp} {ρ ρ' : Rho} {L : Nat} (q : REq L ρ ρ') : ∀ {d : D} {v : V}, pureD L d = true → R C F ρ d v → R C F ρ' d v
  | .non, _, _, h | .bl _, _, _, h | .int _, _, _, h | .str _, _, _, h | .ty _, _, _, h | .glo _, _, _, h | .set _, _, _, h | .scr _, _, _, h => by unfold R at h ⊢; exact h
  | .tup _, _, p, h => by unfold pureD at p; unfold R at h ⊢; obtain ⟨a, ys, e, f, z⟩ := h; exact ⟨a, ys, e, f, Rs.pure q p z⟩
  | .rtp _, _, p, h => by unfold pureD at p; unfold R at h ⊢; obtain ⟨a, ys, e, f, z⟩ := h; exact ⟨a, ys, e, f, Rs.pure q p z⟩
  | .lst _, _, p, h => by unfold pureD at p; unfold R at h ⊢; obtain ⟨a, ys, e, f, z⟩ := h; exact ⟨a, ys, e, f, Rs.pure q p z⟩
  | .dct _, _, p, h => by unfold pureD at p; unfold R at h ⊢; obtain ⟨a, o, ks, e, f, z⟩ := h; exact ⟨a, o, ks, e, f, Rk.pure q p z⟩
  | .dcT _, _, p, h => by unfold pureD at p; unfold R at h ⊢; obtain ⟨a, o, ks, e, f, z⟩ := h; exact ⟨a, o, ks, e, f, Rt.pure q p z⟩
  | .ins _ _, _, p, h => by unfold pureD at p; unfold R at h ⊢; obtain ⟨a, dx, gs, e, f, z⟩ := h; exact ⟨a, dx, gs, e, f, Rf.pure q p z⟩
  | .cell n, _, p, h => by unfold pureD at p; unfold R at h ⊢; obtain ⟨a, e, f⟩ := h; exact ⟨a, e, (q n (of_decide_eq_true p)).trans f⟩
  | .exn _ _, _, p, h => by unfold pureD at p; cases p
  | .lam _, _, p, h => by unfold pureD at p; cases p
  | .seT _, _, _, h => by unfold R at h ⊢; obtain ⟨a, ks, e, f, z⟩ := h; exact ⟨a, ks, e, f, z.free⟩
  | .odc _ _, _, _, h => by unfold R at h ⊢; exact h
  | .exv _ _ _, _, _, h => by
    unfold R at h ⊢
    obtain ⟨a, e, z⟩ := h
    refine ⟨a, e, ?_⟩
    rcases z with z | ⟨z1, d, u, k, z2, z3, z4, z5⟩
    · exact .inl z
    · exact .inr ⟨z1, d, u, k, z2, z3, z4, z5.free z4⟩
theorem Rs.pure {C : Cf} {F : Hp} {ρ ρ' : Rho} {L : Nat} (q : REq L ρ ρ') : ∀ {d : List D} {v : List V}, pureDs L d = true → Rs C F ρ d v → Rs C F ρ' d v
  | [], _, _, h => by unfold Rs at h ⊢; exact h
  | _ :: _, _, p, h => by
    unfold pureDs at p
    have p := Bool.and_eq_true_iff.mp p
    unfold Rs at h ⊢; obtain ⟨v, t, e, a, b⟩ := h; exact ⟨v, t, e, R.pure q p.1 a, Rs.pure q p.2 b⟩
theorem Rk.pure {C : Cf} {F : Hp} {ρ ρ' : Rho} {L : Nat} (q : REq L ρ ρ') : ∀ {d : List (D × D)} {v : List (Key × V)}, pureK L d = true → Rk C F ρ d v → Rk C F ρ' d v
  | [], _, _, h => by unfold Rk at h ⊢; exact h
  | (_, _) :: _, _, p, h => by
    unfold pureK at p
    have p := Bool.and_eq_true_iff.mp p
    unfold Rk at h ⊢; obtain ⟨k, v, t, e, ek, a, b⟩ := h; exact ⟨k, v, t, e, ek, R.pure q p.1 a, Rk.pure q p.2 b⟩
theorem Rt.pure {C : Cf} {F : Hp} {ρ ρ' : Rho} {L : Nat} (q : REq L ρ ρ') : ∀ {d : List (D × D)} {v : NP}, pureK L d = true → Rt C F ρ d v → Rt C F ρ' d v
  | [], _, _, h => by unfold Rt at h ⊢; exact h
  | (_, _) :: _, _, p, h => by
    unfold pureK at p
    have p := Bool.and_eq_true_iff.mp p
    unfold Rt at h ⊢; obtain ⟨k, b0, v, t, e, ek, ed, rk, a, b⟩ := h; exact ⟨k, b0, v, t, e, ek, ed, rk.free ek, R.pure q p.1 a, Rt.pure q p.2 b⟩
theorem Rf.pure {C : Cf} {F : Hp} {ρ ρ' : Rho} {L : Nat} (q : REq L ρ ρ') : ∀ {d : List (Str × D)} {v : List (Str × V)}, pureF L d = true → Rf C F ρ d v → Rf C F ρ' d v
  | [], _, _, h => by unfold Rf at h ⊢; exact h
  | (_, _) :: _, _, p, h => by
    unfold pureF at p
    have p := Bool.and_eq_true_iff.mp p
    unfold Rf at h ⊢; obtain ⟨v, t, e, a, b⟩ := h; exact ⟨v, t, e, R.pure q p.1 a, Rf.pure q p.2 b⟩
end
/-- what a cell holds, without cells from L on -/
def pureO (L : Nat) : OB → Bool
  | .lst xs => pureDs L xs
  | .dct kvs => pureK L kvs
  | .dcT kvs => pureK L kvs
  | .ins _ fs => pureF L fs
  | .set _ => true
theorem OR.pure {C : Cf} {F : Hp} {ρ ρ' : Rho} {H : Hp} {a : Addr} {L : Nat} {ob : OB} (q : REq L ρ ρ') (p : pureO L ob = true) (h : OR C F ρ H a ob) : OR C F ρ' H a ob := by
  cases ob with
  | lst xs => obtain ⟨ys, e, z⟩ := h; exact ⟨ys, e, Rs.pure q p z⟩
  | dct kvs => obtain ⟨ks, e, z⟩ := h; exact ⟨ks, e, Rk.pure q p z⟩
  | dcT kvs => obtain ⟨ks, e, z⟩ := h; exact ⟨ks, e, Rt.pure q p z⟩
  | ins c fs => obtain ⟨dx, gs, e, z⟩ := h; exact ⟨dx, gs, e, Rf.pure q p z⟩
  | set xs => exact h
/-- all cells of a heap speak of lesser cells alone -/
def pureH (L : Nat) : AH → Bool
  | [] => true
  | none :: r => pureH L r
  | some ob :: r => pureO L ob && pureH L r
theorem pureH_get {L : Nat} : ∀ {h : AH} {n : Nat} {ob : OB}, pureH L h = true → h.get n = some ob → pureO L ob = true
  | [], n, ob, _, e => by simp [AH.get] at e
  | none :: r, 0, ob, _, e => by simp [AH.get] at e
  | none :: r, n + 1, ob, p, e => pureH_get (h := r) (n := n) p (by simpa [AH.get] using e)
  | some x :: r, 0, ob, p, e => by
    unfold pureH at p
    simp [AH.get] at e
    subst e
    exact (Bool.and_eq_true_iff.mp p).1
  | some x :: r, n + 1, ob, p, e => by
    unfold pureH at p
    exact pureH_get (h := r) (n := n) (Bool.and_eq_true_iff.mp p).2 (by simpa [AH.get] using e)
def Rho.cut (ρ : Rho) (L : Nat) : Rho := { ρ with c := fun n => if n < L then ρ.c n else none }
def Sx.cut (s : Sx) (L : Nat) : Sx := { s with ρ := s.ρ.cut L, ah := s.ah.take L }
theorem AH.get_take (h : AH) (L n : Nat) : AH.get (h.take L) n = if n < L then h.get n else none := by
  unfold AH.get
  by_cases l : n < L
  · rw [List.getElem?_take_of_lt l, if_pos l]
  · rw [List.getElem?_take_eq_none (by omega), if_neg l]; rfl
theorem REq.cut (ρ : Rho) (L : Nat) : REq L ρ (ρ.cut L) := fun n l => if_pos l
theorem Good.cut {C : Cf} {s : Sx} (g : Good C s) {L : Nat} (p : pureH L (s.ah.take L) = true) : Good C (s.cut L) where
  sub := g.sub
  tups := g.tups
  own := fun n ob e => by
    have e' : AH.get (s.ah.take L) n = some ob := e
    have p' := pureH_get p e'
    rw [AH.get_take] at e'
    by_cases l : n < L
    · rw [if_pos l] at e'
      obtain ⟨a, e1, e2, e3⟩ := g.own n ob e'
      exact ⟨a, (show (if n < L then s.ρ.c n else none) = some a by rw [if_pos l]; exact e1), e2, e3.pure (REq.cut s.ρ L) p'⟩
    · rw [if_neg l] at e'; cases e'
  inj := fun n m a k1 k2 e1 e2 => by
    have k1' : AH.get (s.ah.take L) n ≠ none := k1
    have k2' : AH.get (s.ah.take L) m ≠ none := k2
    rw [AH.get_take] at k1' k2'
    have e1' : (if n < L then s.ρ.c n else none) = some a := e1
    have e2' : (if m < L then s.ρ.c m else none) = some a := e2
    by_cases l1 : n < L
    · by_cases l2 : m < L
      · rw [if_pos l1] at k1' e1'; rw [if_pos l2] at k2' e2'
        exact g.inj n m a k1' k2' e1' e2'
      · rw [if_neg l2] at e2'; cases e2'
    · rw [if_neg l1] at e1'; cases e1'
  dom := fun n e => by
    have e' : (s.ah.take L).length ≤ n := e
    rw [List.length_take] at e'
    show (if n < L then s.ρ.c n else none) = none
    by_cases l : n < L
    · rw [if_pos l]; exact g.dom n (by omega)
    · rw [if_neg l]
  tabs := g.tabs
theorem Fwd.cut {s t : Sx} (f : Fwd s t) {L : Nat} (hd : ∀ n, L ≤ n → s.ρ.c n = none) : Fwd s (t.cut L) where
  sub := f.sub
  rho := ⟨fun n a e => by
    show (if n < L then t.ρ.c n else none) = some a
    have l : n < L := by
      by_cases l : n < L
      · exact l
      · rw [hd n (by omega)] at e; cases e
    rw [if_pos l]; exact f.rho.c n a e, f.rho.x⟩
  frame := f.frame
  fresh := fun n a e k => by
    have e' : (if n < L then t.ρ.c n else none) = some a := e
    have k' : AH.get (t.ah.take L) n ≠ none := k
    rw [AH.get_take] at k'
    by_cases l : n < L
    · rw [if_pos l] at e' k'; exact f.fresh n a e' k'
    · rw [if_neg l] at e'; cases e'
  there := f.there
  still := f.still
def pureX (L : Nat) (x : Exc) : Bool := pureF L x.fs
/-- what a def hands back: the cells that it made are forgotten -/
def leave (L : Nat) : Out D → Out D
  | .ok d h => if pureD L d = true ∧ pureH L (h.take L) = true then .ok d (h.take L) else .bad
  | .exc x h => if pureX L x = true ∧ pureH L (h.take L) = true then .exc x (h.take L) else .bad
  | .bad => .bad
theorem Post.leave {C : Cf} {W : WX} {σ : St} {s : Sx} {Q : VK} (g : Good C s) {o : Out D} (h : Post C W σ (rD C) s Q (leave s.ah.length o)) : Post C W σ (rD C) s Q o := by
  cases o with
  | ok d ah' =>
    by_cases p : pureD s.ah.length d = true ∧ pureH s.ah.length (ah'.take s.ah.length) = true
    · rw [show Ws.leave s.ah.length (.ok d ah') = .ok d (ah'.take s.ah.length) from if_pos p] at h
      intro t v e f gt r
      subst e
      exact h (t.cut s.ah.length) v rfl (f.cut g.dom) (gt.cut p.2) (R.pure (REq.cut t.ρ _) p.1 r)
    · rw [show Ws.leave s.ah.length (.ok d ah') = .bad from if_neg p] at h
      exact h.elim
  | exc x ah' =>
    by_cases p : pureX s.ah.length x = true ∧ pureH s.ah.length (ah'.take s.ah.length) = true
    · rw [show Ws.leave s.ah.length (.exc x ah') = .exc x (ah'.take s.ah.length) from if_pos p] at h
      intro t od e f gt r
      subst e
      refine h (t.cut s.ah.length) od rfl (f.cut g.dom) (gt.cut p.2) ?_
      rcases r with r | ⟨d, gs, e1, e2, r⟩
      · exact .inl r
      · exact .inr ⟨d, gs, e1, e2, Rf.pure (REq.cut t.ρ _) p.1 r⟩
    · rw [show Ws.leave s.ah.length (.exc x ah') = .bad from if_neg p] at h
      exact h.elim
  | bad => exact h
/-- a def of n parameters that reckons f -/
def spM (C : Cf) (n : Nat) (f : List D → AH → Out D) : Sp := fun vs H Q E => ∃ s ds, s.H = H ∧ s.ρ.x = none ∧ Good C s ∧ Rs C s.F s.ρ ds vs ∧ ds.length = n ∧ Post C (fun cls od _ H => E cls od H) [] (rD C) s Q (f ds s.ah)
theorem Rs.length {C : Cf} {F : Hp} {ρ : Rho} : ∀ {ds : List D} {vs : List V}, Rs C F ρ ds vs → ds.length = vs.length
  | [], vs, h => by unfold Rs at h; subst h; rfl
  | d :: ds, vs, h => by
    unfold Rs at h
    obtain ⟨v, r, rfl, _, h⟩ := h
    simp [Rs.length h]
theorem spM.len {C : Cf} {n : Nat} {f : List D → AH → Out D} {vs : List V} {H : Hp} {Q : VK} {E : XK} (h : spM C n f vs H Q E) : vs.length = n := by
  obtain ⟨s, ds, _, _, _, r, l, _⟩ := h
  rw [← r.length]; exact l
/-- at a call: where no argument holds a cell the callee sees none -/
def call (f : List D → AH → Out D) (ds : List D) (h : AH) : Out D :=
  if pureDs 0 ds = true then (match f ds [] with
    | .ok d h' => if pureD 0 d = true then .ok d h else .bad
    | .exc x h' => if pureX 0 x = true then .exc x h else .bad
    | .bad => .bad)
  else f ds h
def Sx.bare (s : Sx) : Sx := { s with ρ := { c := fun _ => none, x := none }, ah := [] }
theorem Good.bare {C : Cf} {s : Sx} (g : Good C s) : Good C s.bare where
  sub := g.sub
  tups := g.tups
  own := fun n ob e => by simp [Sx.bare, AH.get] at e
  inj := fun n m a k => by simp [Sx.bare, AH.get] at k
  dom := fun _ _ => rfl
  tabs := g.tabs
/-- back from a callee that saw no cells -/
def Sx.back (s t : Sx) : Sx := { F := t.F, ρ := s.ρ, H := t.H, ah := s.ah }
theorem back_ok {C : Cf} {s t : Sx} (g : Good C s) (f : Fwd s.bare t) (gt : Good C t) : Fwd s (s.back t) ∧ Good C (s.back t) := by
  have fr : ∀ a o, s.H a = some o → NT o → t.H a = some o := fun a o e nt => f.frame a o e nt fun n z => nomatch z
  refine ⟨⟨f.sub, .refl _, fun a o e nt _ => fr a o e nt, fun n a e k => .inl ⟨e, k⟩, f.there, fun a o e => ?_⟩, ⟨gt.sub, gt.tups, fun n ob e => ?_, g.inj, g.dom, gt.tabs⟩⟩
  · rcases f.still a o e with z | z | ⟨n, z, _⟩
    · exact .inl z
    · exact .inr (.inl z)
    · exact nomatch z
  · obtain ⟨a, e1, e2, e3⟩ := g.own n ob e
    obtain ⟨o', z, nt⟩ := e3.thereN
    refine ⟨a, e1, ?_, e3.mono f.sub (.refl _) ((fr a o' z nt).trans z.symm)⟩
    cases q : t.F a with
    | none => exact q
    | some o =>
      rcases f.still a o q with y | y | ⟨n, y, _⟩
      · exact absurd (show s.F a = some o from y) (by rw [e2]; exact fun z => nomatch z)
      · exact absurd (show s.H a = none from y) (by rw [z]; exact fun z => nomatch z)
      · exact nomatch y
theorem REq.zero (ρ ρ' : Rho) : REq 0 ρ ρ' := fun n l => absurd l (by omega)
def callP (f : List D → AH → Out D) (ds : List D) (h : AH) : Out D := if pureDs 0 ds = true then call f ds h else .bad
/-- the promise as a caller takes it -/
theorem spM.call {C : Cf} {W : WX} {σ : St} {s : Sx} {Q : VK} {n : Nat} {f : List D → AH → Out D} {ds : List D} {vs : List V} (ex : s.ρ.x = none ∨ pureDs 0 ds = true) (g : Good C s) (r : Rs C s.F s.ρ ds vs) (l : ds.length = n) (h : Post C W σ (rD C) s Q (call f ds s.ah)) :
    spM C n f vs s.H Q (fun cls od H => W cls od σ H) := by
  unfold Ws.call at h
  by_cases p : pureDs 0 ds = true
  · rw [if_pos p] at h
    refine ⟨s.bare, ds, rfl, rfl, g.bare, Rs.pure (REq.zero _ _) p r, l, ?_⟩
    show Post C _ _ _ s.bare Q (f ds [])
    cases e : f ds [] with
    | ok d h' =>
      rw [e] at h
      dsimp only at h
      split at h
      · rename_i pd
        intro t v e1 ft gt rt
        obtain ⟨f2, g2⟩ := back_ok g ft gt
        exact h (s.back t) v rfl f2 g2 (R.pure (REq.zero _ _) pd rt)
      · exact h.elim
    | exc x h' =>
      rw [e] at h
      dsimp only at h
      split at h
      · rename_i pd
        intro t od e1 ft gt rt
        obtain ⟨f2, g2⟩ := back_ok g ft gt
        refine h (s.back t) od rfl f2 g2 ?_
        rcases rt with rt | ⟨d, gs, e1, e2, rt⟩
        · exact .inl rt
        · exact .inr ⟨d, gs, e1, e2, Rf.pure (REq.zero _ _) pd rt⟩
      · exact h.elim
    | bad => rw [e] at h; exact h
  · rw [if_neg p] at h
    refine ⟨s, ds, rfl, ex.resolve_right p, g, r, l, ?_⟩
    cases e : f ds s.ah with
    | ok d h' => rw [e] at h; exact h
    | exc x h' => rw [e] at h; exact h
    | bad => rw [e] at h; exact h
end Ws
set_option Elab.async false
set_option linter.all false
set_option maxRecDepth 100000
namespace Ws
open PySem L2
inductive SOut where
  | nx (σ : Sl) (h : AH) | rt (d : D) (h : AH) | bk (σ : Sl) (h : AH) | ct (σ : Sl) (h : AH) | exc (x : Exc) (σ : Sl) (h : AH) | bad
abbrev SM := Sl → AH → SOut
def PostS (C : Cf) (W : WX) (s : Sx) (D : Ends) : SOut → Prop
  | .nx dσ h => ∀ s' σ, s'.ah = h → Fwd s s' → Good C s' → RS C s' σ dσ → D.nx σ s'.H
  | .rt d h => ∀ s' v, s'.ah = h → Fwd s s' → Good C s' → R C s'.F s'.ρ d v → D.rt v s'.H
  | .bk dσ h => ∀ s' σ, s'.ah = h → Fwd s s' → Good C s' → RS C s' σ dσ → D.bk σ s'.H
  | .ct dσ h => ∀ s' σ, s'.ah = h → Fwd s s' → Good C s' → RS C s' σ dσ → D.ct σ s'.H
  | .exc x dσ h => ∀ s' σ od, s'.ah = h → Fwd s s' → Good C s' → RS C s' σ dσ → XR C s' x od → W (.ref (He.ga C.K x.c)) od σ s'.H
  | .bad => False
def tS (C : Cf) (ε : Option (Addr × Str × Option Addr)) (W : WX) (m : SM) : TS := fun D σ H => ∃ s dσ, s.H = H ∧ s.ρ.x = ε ∧ Good C s ∧ RS C s σ dσ ∧ PostS C W s D (m dσ s.ah)
abbrev MS (X : Cx) (C : Cf) (ε : Option (Addr × Str × Option Addr)) (W : WX) (st : Stmt) (m : SM) : Prop := PS X st (tS C ε W m)
abbrev MSs (X : Cx) (C : Cf) (ε : Option (Addr × Str × Option Addr)) (W : WX) (st : List Stmt) (m : SM) : Prop := PSs X st (tS C ε W m)
section
variable {C : Cf} {ε : Option (Addr × Str × Option Addr)} {W : WX} {s s' : Sx} {D : Ends} {o : SOut} {σ : St} {dσ : Sl}
theorem PostS.fwd (f : Fwd s s') (h : PostS C W s D o) : PostS C W s' D o := by
  cases o with
  | nx => exact fun t v e g k r => h t v e (f.trans g) k r
  | rt => exact fun t v e g k r => h t v e (f.trans g) k r
  | bk => exact fun t v e g k r => h t v e (f.trans g) k r
  | ct => exact fun t v e g k r => h t v e (f.trans g) k r
  | exc => exact fun t v od e g k r => h t v od e (f.trans g) k r
  | bad => exact h
theorem PostS.here {h' : AH} (g : Good C s) (rs : RS C s σ dσ) (e : s.ah = h') (h : PostS C W s D (.nx dσ h')) : D.nx σ s.H := h s σ e (.refl s) g rs
/-- an expression, then what comes of its value -/
def bindS {α : Type} (o : Out α) (dσ : Sl) (k : α → AH → SOut) : SOut := match o with
  | .ok a h => k a h
  | .exc x h => .exc x dσ h
  | .bad => .bad
@[simp] theorem bindS_ok {α : Type} (a : α) (h : AH) (dσ : Sl) (k : α → AH → SOut) : bindS (.ok a h) dσ k = k a h := rfl
@[simp] theorem bindS_exc {α : Type} (x : Exc) (h : AH) (dσ : Sl) (k : α → AH → SOut) : bindS (.exc x h) dσ k = .exc x dσ h := rfl
@[simp] theorem bindS_bad {α : Type} (dσ : Sl) (k : α → AH → SOut) : bindS (.bad : Out α) dσ k = .bad := rfl
theorem PostS.bind {α β : Type} {r1 : Rl α β} {m : M α} {k : α → AH → SOut} {T : β → Hp → Prop} (ex : s.ρ.x = ε) (g : Good C s) (rs : RS C s σ dσ) (h : PostS C W s D (bindS (m dσ s.ah) dσ k))
    (hk : ∀ s' a b, s'.ρ.x = ε → Fwd s s' → Good C s' → RS C s' σ dσ → r1 s' a b → PostS C W s' D (k a s'.ah) → T b s'.H) : tG C ε W r1 m σ s.H T := by
  refine ⟨s, dσ, rfl, ex, g, rs, ?_⟩
  cases e : m dσ s.ah with
  | ok a h' =>
    rw [e] at h
    intro s' b e1 f g' r
    subst e1
    exact hk s' a b (f.rho.x.trans ex) f g' (rs.fwd f) r (PostS.fwd f h)
  | exc x h' =>
    rw [e] at h
    exact fun s' od e1 f g' r => h s' σ od e1 f g' (rs.fwd f) r
  | bad => rw [e] at h; exact h
end
def skip : SM := fun σ h => .nx σ h
def seqS (a b : SM) : SM := fun σ h => match a σ h with
  | .nx σ' h' => b σ' h'
  | o => o
def drop (m : M D) : SM := fun σ h => bindS (m σ h) σ fun _ h1 => .nx σ h1
def ret (m : M D) : SM := fun σ h => bindS (m σ h) σ fun d h1 => .rt d h1
def retN : SM := fun _ h => .rt .non h
def brk : SM := fun σ h => .bk σ h
def cont : SM := fun σ h => .ct σ h
def ifS (c : M Bool) (a b : SM) : SM := fun σ h => bindS (c σ h) σ fun x h1 => if x = true then a σ h1 else b σ h1
/-- targets -/
abbrev Tg := D → Sl → AH → Out Sl
def tgN (i : Nat) : Tg := fun d σ h => .ok (σ.set i (some d)) h
abbrev Tgs := List D → Sl → AH → Out Sl
def tgNil : Tgs := fun ds σ h => match ds with
  | [] => .ok σ h
  | _ => .bad
def tgCons (a : Tg) (b : Tgs) : Tgs := fun ds σ h => match ds with
  | d :: r => (a d σ h).bind fun σ1 h1 => b r σ1 h1
  | [] => .bad
def tgTup (b : Tgs) : Tg := fun d σ h => match d with
  | .tup xs => b xs σ h
  | .rtp xs => b xs σ h
  | _ => .bad
def asg (m : M D) (t : Tg) : SM := fun σ h => bindS (m σ h) σ fun d h1 => match t d σ h1 with
  | .ok σ2 h2 => .nx σ2 h2
  | _ => .bad
section
variable {X : Cx} {C : Cf} {ε : Option (Addr × Str × Option Addr)} {W : WX} {st : Stmt} {sts a b : List Stmt} {m1 m2 : SM} {e c : Expr} {me : M D} {mc : M Bool} {pos : Pos}
theorem ms_nil : MSs X C ε W [] skip := pss_nil.imp fun D σ H h => by
  obtain ⟨s, dσ, rfl, ex, g, rs, h⟩ := h
  exact PostS.here g rs rfl h
theorem ms_cons (h1 : MS X C ε W st m1) (h2 : MSs X C ε W sts m2) : MSs X C ε W (st :: sts) (seqS m1 m2) := (pss_cons h1 h2).imp fun D σ H h => by
  obtain ⟨s, dσ, rfl, ex, g, rs, h⟩ := h
  refine ⟨s, dσ, rfl, ex, g, rs, ?_⟩
  unfold seqS at h
  cases q : m1 dσ s.ah with
  | nx σ1 h1 =>
    rw [q] at h
    intro s' σ' e f g' rs'
    subst e
    exact ⟨s', σ1, rfl, f.rho.x.trans ex, g', rs', PostS.fwd f h⟩
  | rt => rw [q] at h; exact h
  | bk => rw [q] at h; exact h
  | ct => rw [q] at h; exact h
  | exc => rw [q] at h; exact h
  | bad => rw [q] at h; exact h
theorem ms_one (h1 : MS X C ε W st m1) : MSs X C ε W [st] m1 := pss_one h1
theorem ms_expr (he : ME X C ε W e me) (hs : swapsWith e none pos.line X.env = pure false := by rfl) : MS X C ε W (.Expr e pos) (drop me) := (ps_expr he hs).imp fun D σ H h => by
  obtain ⟨s, dσ, rfl, ex, g, rs, h⟩ := h
  exact PostS.bind ex g rs h fun s1 x v e1 f1 g1 rs1 r1 h1 => PostS.here g1 rs1 rfl h1
theorem ms_ret (he : ME X C ε W e me) : MS X C ε W (.Return (some e) pos) (ret me) := (ps_ret he).imp fun D σ H h => by
  obtain ⟨s, dσ, rfl, ex, g, rs, h⟩ := h
  exact PostS.bind ex g rs h fun s1 x v e1 f1 g1 rs1 r1 h1 => h1 s1 v rfl (.refl s1) g1 r1
theorem ms_if (hc : MT X C ε W c mc) (ha : MSs X C ε W a m1) (hb : MSs X C ε W b m2) : MS X C ε W (.If c a b pos) (ifS mc m1 m2) := (ps_if hc ha hb).imp fun D σ H h => by
  obtain ⟨s, dσ, rfl, ex, g, rs, h⟩ := h
  refine PostS.bind ex g rs h fun s1 x v e1 f1 g1 rs1 r1 h1 => ?_
  subst r1
  by_cases hx : x = true
  · rw [if_pos hx] at h1 ⊢; exact ⟨s1, dσ, rfl, e1, g1, rs1, h1⟩
  · rw [if_neg hx] at h1 ⊢; exact ⟨s1, dσ, rfl, e1, g1, rs1, h1⟩
def PostT (C : Cf) (s : Sx) (Q : St → Hp → Prop) : Out Sl → Prop
  | .ok dσ h => ∀ s' σ, s'.ah = h → Fwd s s' → Good C s' → RS C s' σ dσ → Q σ s'.H
  | _ => False
theorem PostT.fwd {s s' : Sx} {Q : St → Hp → Prop} {o : Out Sl} (f : Fwd s s') (h : PostT C s Q o) : PostT C s' Q o := by
  cases o with
  | ok => exact fun t v e g k r => h t v e (f.trans g) k r
  | _ => exact h
def tT (C : Cf) (ε : Option (Addr × Str × Option Addr)) (t : Tg) : TG := fun v σ H Q => ∃ s dσ d, s.H = H ∧ s.ρ.x = ε ∧ Good C s ∧ RS C s σ dσ ∧ R C s.F s.ρ d v ∧ PostT C s Q (t d dσ s.ah)
abbrev MG (X : Cx) (C : Cf) (ε : Option (Addr × Str × Option Addr)) (e : Expr) (t : Tg) : Prop := PG X e (tT C ε t)
theorem _root_.L2.PG.imp {X : Cx} {e : Expr} {t t' : TG} (h : PG X e t) (k : ∀ v σ H Q, t' v σ H Q → t v σ H Q) : PG X e t' := ⟨fun pins s σ H v u Q I r q => h.run pins s σ H v u Q I r (k v σ H Q q)⟩
theorem _root_.L2.PGs.imp {X : Cx} {e : List Expr} {t t' : TGs} (h : PGs X e t) (k : ∀ v σ H Q, t' v σ H Q → t v σ H Q) : PGs X e t' := ⟨fun pins s σ H v u Q I r q => h.run pins s σ H v u Q I r (k v σ H Q q)⟩
theorem mg_name {i : Nat} {x : Str} (hN : X.N.Nodup) (hi : X.N[i]? = some x) (hx : Loc X.env.scope x) (hf : X.fn x = true ∨ X.env.scope.names.lookup x = some .local := by first | exact .inl rfl | exact .inr rfl | assumption) : MG X C ε (.Name x pos) (tgN i) :=
  (pg_name hN hi hx hf).imp fun v σ H Q h => by
    obtain ⟨s, dσ, d, rfl, ex, g, rs, r, h⟩ := h
    exact h s _ rfl (.refl s) g (rs.set r)
theorem ms_asg {tg : Expr} {t : Tg} (he : ME X C ε W e me) (hg : MG X C ε tg t) (hs : swapsWithSole [tg] e pos.line X.env = pure false := by rfl) (hw : swappedStores [tg] e X.env = pure none := by rfl) (h1 : (assignEach [tg] X.env).map (·.2) = [assign tg X.env] := by rfl) :
    MS X C ε W (.Assign [tg] e pos) (asg me t) := (ps_asg he hg hs hw h1).imp fun D σ H h => by
  obtain ⟨s, dσ, rfl, ex, g, rs, h⟩ := h
  refine PostS.bind ex g rs h fun s1 x v e1 f1 g1 rs1 r1 h1 => ?_
  refine ⟨s1, dσ, x, rfl, e1, g1, rs1, r1, ?_⟩
  cases q : t x dσ s1.ah with
  | ok σ2 h2 => rw [q] at h1; exact h1
  | exc => rw [q] at h1; exact h1
  | bad => rw [q] at h1; exact h1
theorem ms_set {i : Nat} {x : Str} {pos' : Pos} (hN : X.N.Nodup) (hi : X.N[i]? = some x) (hx : Loc X.env.scope x) (he : ME X C ε W e me) (hs : swapsWith e (some (.Name x pos')) pos.line X.env = pure false := by rfl) (hf : X.fn x = true ∨ X.env.scope.names.lookup x = some .local := by first | exact .inl rfl | exact .inr rfl | assumption) :
    MS X C ε W (.Assign [.Name x pos'] e pos) (asg me (tgN i)) := (ps_set hN hi hx he hs hf).imp fun D σ H h => by
  obtain ⟨s, dσ, rfl, ex, g, rs, h⟩ := h
  refine PostS.bind ex g rs h fun s1 x v e1 f1 g1 rs1 r1 h1 => ?_
  exact PostS.here g1 (rs1.set r1) rfl h1
end
def startD (n : Nat) (ds : List D) : Sl := ds.map some ++ List.replicate (n - ds.length) none
def outD : SOut → Out D
  | .nx _ h => .ok .non h
  | .rt d h => .ok d h
  | .exc x _ h => .exc x h
  | _ => .bad
/-- a def with n names, its body m -/
def fn (n : Nat) (m : SM) : List D → AH → Out D := fun ds h => leave h.length (outD (m (startD n ds) h))
theorem Rs.get {C : Cf} {F : Hp} {ρ : Rho} : ∀ {ds : List D} {vs : List V} {i : Nat} {d : D}, Rs C F ρ ds vs → ds[i]? = some d → ∃ v, vs[i]? = some v ∧ R C F ρ d v
  | [], _, _, _, _, e => by simp at e
  | x :: xs, vs, 0, d, h, e => by
    unfold Rs at h
    obtain ⟨v, r, rfl, a, b⟩ := h
    simp at e; subst e
    exact ⟨v, rfl, a⟩
  | x :: xs, vs, i + 1, d, h, e => by
    unfold Rs at h
    obtain ⟨v, r, rfl, a, b⟩ := h
    obtain ⟨w, h1, h2⟩ := Rs.get (i := i) b (by simpa using e)
    exact ⟨w, by simpa using h1, h2⟩
theorem RS.start {C : Cf} {s : Sx} {N : List Str} {ds : List D} {vs : List V} (r : Rs C s.F s.ρ ds vs) : RS C s (L2.start N vs) (startD N.length ds) := by
  refine ⟨by unfold L2.start startD; simp [r.length], fun i d e => ?_⟩
  unfold startD at e
  have hi : i < ds.length := by
    by_cases hi : i < ds.length
    · exact hi
    · rw [List.getElem?_append_right (by simpa using hi), List.getElem?_replicate] at e
      split at e <;> cases e
  rw [List.getElem?_append_left (by simpa using hi), List.getElem?_map] at e
  cases q : ds[i]? with
  | none => rw [q] at e; cases e
  | some d' =>
    rw [q] at e; cases e
    obtain ⟨v, h1, h2⟩ := r.get q
    refine ⟨v, ?_, h2⟩
    unfold L2.start
    rw [List.getElem?_append_left (by rw [List.length_map, ← r.length]; exact hi), List.getElem?_map, h1]
    rfl
section
variable {C : Cf} {mg : Str → Option Value} {base : Heap} {x qual : Str} {params : Arguments} {body : List Stmt} {scope : Scope} {dvs : List V} {kws : List (Str × V)} {f : Addr} {fd : FuncData} {N ps : List Str} {k : Nat}
/-- THE RULE of a def -/
theorem fn_ok (F : FunD C.K x qual params body scope dvs kws f fd) (S : FnScope N ps scope) {m : SM}
    (hbody : ∀ (cdv : Value) (A : Around) (outer : List Env) (s : Shared) (H : Hp) (E : XK), Room k (A.deeper (PyProof.Rows.envOfC qual scope s.heap.objs.size f cdv)) →
      MSs (cxOf (L2.CX C.P C.w) C.P C.w C.K mg base N qual scope f cdv A outer s H E) C none (fun cls od _ H => E cls od H) body m) :
    FnOk C.P C.w C.K mg base (L2.CX C.P C.w) (k + 1) f fd ps (spM C ps.length (fn N.length m)) := by
  refine F.ok S (fun vs H Q E h => h.len) fun cdv A outer s H vs Q E hr hsp => ⟨_, hbody cdv A outer s H E hr, ?_⟩
  obtain ⟨sx, ds, rfl, ex, g, r, l, h⟩ := hsp
  have h := Post.leave g h
  refine ⟨sx, startD N.length ds, rfl, ex, g, RS.start r, ?_⟩
  cases q : m (startD N.length ds) sx.ah with
  | nx σ' h' =>
    rw [q] at h
    exact fun s' σ e f g' rs => h s' .non e f g' (by unfold R; rfl)
  | rt d h' =>
    rw [q] at h
    exact fun s' v e f g' r => h s' v e f g' r
  | exc x σ' h' =>
    rw [q] at h
    exact fun s' σ od e f g' rs r => h s' od e f g' r
  | bk => rw [q] at h; exact h.elim
  | ct => rw [q] at h; exact h.elim
  | bad => rw [q] at h; exact h.elim
end
end Ws
set_option Elab.async false
set_option linter.all false
set_option maxRecDepth 100000
set_option autoImplicit false
namespace Ws
open PySem PySem.Spec PyProof.Rows L2
abbrev Ep := Option (Addr × Str × Option Addr)
/-- what stands around a body: the config is the context's -/
structure At (X : Cx) (C : Cf) : Prop where
  P : X.prog = C.P
  w : X.w = C.w
  K : X.K = C.K
abbrev FnM (X : Cx) (C : Cf) (k : Nat) (f : Addr) (fd : FuncData) (ps : List Str) (g : List D → AH → Out D) : Prop := FnOk X.prog X.w X.K X.mg X.base (L2.CX X.prog X.w) k f fd ps (spM C ps.length g)
section
variable {X : Cx} {C : Cf} {W : WX} {k : Nat} {f cA : Addr} {fd : FuncData} {ps : List Str} {g : List D → AH → Out D} {x m c : Str} {p pos apos : Pos} {e o : Expr} {es : List Expr} {mr : M (List D)} {mo : M D} {ds : List Value} {dvs : List V} {dds : List D}
/-- the constants that fill up -/
def Filled (C : Cf) (dds : List D) (dvs : List V) : Prop := ∀ F ρ, Rs C F ρ dds dvs
theorem Filled.nil : Filled C [] [] := fun _ _ => by unfold Rs; rfl
theorem Rs.app {F : Hp} {ρ : Rho} : ∀ {a b : List D} {u v : List V}, Rs C F ρ a u → Rs C F ρ b v → Rs C F ρ (a ++ b) (u ++ v)
  | [], b, u, v, h, k => by unfold Rs at h; subst h; exact k
  | d :: a, b, u, v, h, k => by
    unfold Rs at h
    obtain ⟨y, r, rfl, q, h⟩ := h
    show Rs C F ρ (d :: (a ++ b)) (y :: (r ++ v))
    unfold Rs
    exact ⟨y, r ++ v, rfl, q, Rs.app h k⟩
/-- n arguments at least -/
def callN (n : Nat) (g : List D → AH → Out D) (ds : List D) (h : AH) : Out D := if ds.length = n then call g ds h else .bad
/-- .. and what fills up -/
def cal (n : Nat) (dds : List D) (g : List D → AH → Out D) (ds : List D) (h : AH) : Out D := callN n g (ds ++ dds) h
theorem me_call (tk : Takes X W) (F : FnM X C k f fd ps g) (hr : Room k X.A) (hg : Gl X x) (hm : X.mg x = some (.ref f)) (hk : PySem.W.keepIn X.K (.ref f) = true) (hb : Binds X.K fd ps ds) (hd : Vals dvs ds) (fl : Filled C dds dvs)
    (ha : MA X C none W (e :: es) mr) (hdb : (x == ("__debug__" : Str)) = false := by decide) (he : starEach (e :: es) X.env = (false, eval e X.env) :: starEach es X.env := by rfl) (hpl : (backTo pos (starEach es X.env)).any (·.1) = false := by rfl) :
    ME X C none W (.Call (.Name x p) (e :: es) [] pos) (app (cal ps.length dds g) mr) :=
  (pe_callSD (E := fun σ cls od H => W cls od σ H) F hr hg hm hk hb hd (fun σ => passAt tk σ) ha hdb he hpl).imp fun σ H Q h => by
    obtain ⟨s, dσ, rfl, ex, gd, rs, h⟩ := h
    refine Post.bind ex gd rs h fun s1 x v e1 f1 g1 rs1 r1 h1 => ?_
    unfold cal callN at h1
    split at h1
    · rename_i l
      exact spM.call (.inl e1) g1 (Rs.app r1 (fl _ _)) l h1
    · exact h1.elim
/-- an instance: its class and fields -/
def insOf (d : D) (h : AH) : Option (Str × List (Str × D)) := match d with
  | .ins c fs => some (c, fs)
  | .cell n => (match h.get n with
    | some (.ins c fs) => some (c, fs)
    | _ => none)
  | _ => none
theorem Rf.lookup {F : Hp} {ρ : Rho} {y : Str} : ∀ {fs : List (Str × D)} {gs : List (Str × V)}, Rf C F ρ fs gs → match fs.lookup y with
    | some d => ∃ v, gs.lookup y = some v ∧ R C F ρ d v
    | none => gs.lookup y = none
  | [], gs, h => by unfold Rf at h; subst h; simp
  | (z, d) :: fs, gs, h => by
    unfold Rf at h
    obtain ⟨v, r, rfl, q, h⟩ := h
    rw [List.lookup_cons, List.lookup_cons]
    cases e : y == z with
    | true => exact ⟨v, rfl, q⟩
    | false => exact Rf.lookup h
theorem insOf_ok {s : Sx} {d : D} {v : V} {fs : List (Str × D)} (g : Good C s) (r : R C s.F s.ρ d v) (h : insOf d s.ah = some (c, fs)) : ∃ a dx gs, v = .ref a ∧ s.H a = some (.ins (He.ga C.K c) dx gs) ∧ Rf C s.F s.ρ fs gs := by
  cases d with
  | ins c' fs' =>
    unfold insOf at h
    cases h
    unfold R at r
    obtain ⟨a, dx, gs, e, q, z⟩ := r
    exact ⟨a, dx, gs, e, g.sub _ _ q, z⟩
  | cell n =>
    unfold insOf at h
    unfold R at r
    obtain ⟨a, e, q⟩ := r
    dsimp only at h
    split at h
    · rename_i c' fs' e'
      cases h
      obtain ⟨a', q1, q2, dx, gs, z1, z2⟩ := g.own n _ e'
      rw [q] at q1; cases q1
      exact ⟨a, dx, gs, e, z1, z2⟩
    · cases h
  | _ => unfold insOf at h; cases h
/-- o.m(..), o an instance of the class c -/
def meth (c m : Str) (g : List D → AH → Out D) (mo : M D) (mr : M (List D)) : M D := fun σ h => (mo σ h).bind fun o h1 => match insOf o h1 with
  | some (c', fs) => if c' = c ∧ (fs.lookup m).isNone = true then (mr σ h1).bind fun ds h2 => g (o :: ds) h2 else .bad
  | none => .bad
theorem me_meth {pl : Sem Bool} (tk : Takes X W) (hK : X.K = C.K) (he : ME X C none W o mo) (cl : Cls X.K (He.ga X.K c)) (hm : Meth X.K (He.ga X.K c) m f) (F : FnM X C k f fd ps g) (hr : Room k X.A) (hb : Binds X.K fd ps ds) (hd : Vals dvs ds) (fl : Filled C dds dvs) (ha : MA X C none W (e :: es) mr)
    (hst : starEach (e :: es) X.env = (false, eval e X.env) :: starEach es X.env := by rfl) (hpl : (backTo pos (starEach es X.env)).any (·.1) = false := by rfl)
    (ht : eval (.Call (.Attribute o m apos) (e :: es) [] pos) X.env = (do let ov ← eval o X.env; standAt apos.atName; let (f, first) ← holding [ov] (getMethod ov m pl); callWith pos f first (backTo pos (starEach (e :: es) X.env)) (backToKw pos (keywordEach [] X.env))) := by rfl) :
    ME X C none W (.Call (.Attribute o m apos) (e :: es) [] pos) (meth c m (cal ps.length dds g) mo mr) := by
  refine ⟨fun pins s σ H Q I h => ?_⟩
  obtain ⟨sx, dσ, rfl, ex, gd, rs, h⟩ := h
  refine PySem.W.methodCall_KW (pl := pl) (thn (he.run pins s σ _ _ I (Post.bind (T := fun v H1 => ∃ a dx fs, v = .ref a ∧ H1 a = some (.ins (He.ga X.K c) dx fs) ∧ fs.lookup m = none ∧ tG C none W (rDs C) mr σ H1 fun vs H2 => spM C ps.length g (v :: (vs ++ dvs)) H2 Q (fun cls od H => W cls od σ H)) ex gd rs h ?_))
    fun u s1 ⟨x, H1, I1, rx, a, dx, fs, ey, ea, l, q⟩ => ?_) ht
  · intro s1 x v e1 f1 g1 rs1 r1 h1
    split at h1
    · rename_i c' fs e2
      split at h1
      · rename_i hc
        obtain ⟨rfl, hl⟩ := hc
        obtain ⟨a, dx, gs, ev, ea, rf⟩ := insOf_ok g1 r1 e2
        have hl2 : gs.lookup m = none := by
          have z := Rf.lookup (y := m) rf
          cases q : fs.lookup m with
          | none => rw [q] at z; exact z
          | some d => rw [q] at hl; cases hl
        refine ⟨a, dx, gs, ev, (by rw [hK]; exact ea), hl2, Post.bind e1 g1 rs1 h1 fun s2 ds us e3 f2 g2 rs2 r2 h2 => ?_⟩
        unfold cal callN at h2
        split at h2
        · rename_i l
          refine spM.call (ds := x :: ds ++ dds) (.inl e3) g2 ?_ l h2
          show Rs C s2.F s2.ρ (x :: (ds ++ dds)) (v :: (us ++ dvs))
          unfold Rs
          exact ⟨v, us ++ dvs, rfl, r1.fwd f2, Rs.app r2 (fl _ _)⟩
        · exact h2.elim
      · exact h1.elim
    · exact h1.elim
  · subst ey
    obtain rfl : u = Value.ref a := rx
    refine getmeth_ok I1 ea cl hm l ?_
    refine PySem.W.callWith_K (first := [.ref a]) (h₀ := X.base) I.ok.mod.kin hm.kp (thn (ha.run pos pins s1 σ H1 _ I1 q) fun us s2 ⟨vs, H2, I2, r, q2⟩ => ⟨I2.kIn, ?_⟩) hst hpl
    exact run_fnSD (us := .ref a :: us) (vs := .ref a :: vs) (E := fun σ cls od H => W cls od σ H) F hr hb hd (passAt tk σ) I2 (.cons rfl r) q2
theorem me_meth0 {pl : Sem Bool} (tk : Takes X W) (hK : X.K = C.K) (he : ME X C none W o mo) (cl : Cls X.K (He.ga X.K c)) (hm : Meth X.K (He.ga X.K c) m f) (F : FnM X C k f fd ps g) (hr : Room k X.A) (hb : Binds X.K fd ps ds) (hd : Vals dvs ds) (fl : Filled C dds dvs)
    (ht : eval (.Call (.Attribute o m apos) [] [] pos) X.env = (do let ov ← eval o X.env; standAt apos.atName; let (f, first) ← holding [ov] (getMethod ov m pl); callWith pos f first (backTo pos (starEach [] X.env)) (backToKw pos (keywordEach [] X.env))) := by rfl) :
    ME X C none W (.Call (.Attribute o m apos) [] [] pos) (meth c m (cal ps.length dds g) mo nilA) := by
  refine ⟨fun pins s σ H Q I h => ?_⟩
  obtain ⟨sx, dσ, rfl, ex, gd, rs, h⟩ := h
  refine PySem.W.methodCall_KW (pl := pl) (thn (he.run pins s σ _ _ I (Post.bind (T := fun v H1 => ∃ a dx fs, v = .ref a ∧ H1 a = some (.ins (He.ga X.K c) dx fs) ∧ fs.lookup m = none ∧ spM C ps.length g (v :: dvs) H1 Q (fun cls od H => W cls od σ H)) ex gd rs h ?_))
    fun u s1 ⟨x, H1, I1, rx, a, dx, fs, ey, ea, l, q⟩ => ?_) ht
  · intro s1 x v e1 f1 g1 rs1 r1 h1
    split at h1
    · rename_i c' fs e2
      split at h1
      · rename_i hc
        obtain ⟨rfl, hl⟩ := hc
        obtain ⟨a, dx, gs, ev, ea, rf⟩ := insOf_ok g1 r1 e2
        have hl2 : gs.lookup m = none := by
          have z := Rf.lookup (y := m) rf
          cases q : fs.lookup m with
          | none => rw [q] at z; exact z
          | some d => rw [q] at hl; cases hl
        refine ⟨a, dx, gs, ev, (by rw [hK]; exact ea), hl2, ?_⟩
        have h2 : Post C W σ (rD C) s1 Q (callN ps.length g ([x] ++ dds) s1.ah) := h1
        unfold callN at h2
        split at h2
        · rename_i l
          refine spM.call (ds := [x] ++ dds) (.inl e1) g1 ?_ l h2
          show Rs C s1.F s1.ρ (x :: dds) (v :: dvs)
          unfold Rs
          exact ⟨v, dvs, rfl, r1, fl _ _⟩
        · exact h2.elim
      · exact h1.elim
    · exact h1.elim
  · subst ey
    obtain rfl : u = Value.ref a := rx
    refine getmeth_ok I1 ea cl hm l ?_
    exact PySem.W.callWith_K0 (first := [.ref a]) I1.kIn hm.kp (run_fnSD (us := [.ref a]) (vs := [.ref a]) (E := fun σ cls od H => W cls od σ H) F hr hb hd (passAt tk σ) I1 (.cons rfl .nil) q)
/-- one of two -/
def orM (a b : M D) : M D := fun σ h => match a σ h with
  | .bad => b σ h
  | o => o
theorem me_orM {ε : Ep} {a b : M D} (ha : ME X C ε W e a) (hb : ME X C ε W e b) : ME X C ε W e (orM a b) := ⟨fun pins s σ H Q I h => by
  obtain ⟨sx, dσ, rfl, ex, gd, rs, h⟩ := h
  unfold orM at h
  cases q : a dσ sx.ah with
  | bad => rw [q] at h; exact hb.run pins s σ _ Q I ⟨sx, dσ, rfl, ex, gd, rs, h⟩
  | ok => rw [q] at h; exact ha.run pins s σ _ Q I ⟨sx, dσ, rfl, ex, gd, rs, (by rw [q]; exact h)⟩
  | exc => rw [q] at h; exact ha.run pins s σ _ Q I ⟨sx, dσ, rfl, ex, gd, rs, (by rw [q]; exact h)⟩⟩
/-- the classes whose instances have the field y for their own -/
def HasF (X : Cx) (cs : List Str) (y : Str) : Prop := ∀ c ∈ cs, Cls X.K (He.ga X.K c) ∧ NoAttr X.K (He.ga X.K c) y
def fldC (cs : List Str) (y : Str) (mo : M D) : M D := fun σ h => (mo σ h).bind fun o h1 => match insOf o h1 with
  | some (c, fs) => if c ∈ cs then (match fs.lookup y with
    | some d => .ok d h1
    | none => .bad) else .bad
  | none => .bad
theorem me_fld {ε : Ep} {cs : List Str} (hK : X.K = C.K) (he : ME X C ε W e mo) (hc : HasF X cs x) (hb : attributeBase e x X.env (eval e X.env) = eval e X.env := by rfl) : ME X C ε W (.Attribute e x pos) (fldC cs x mo) := (pe_fld he hb).imp fun σ H Q h => by
  obtain ⟨s, dσ, rfl, ex, gd, rs, h⟩ := h
  refine Post.bind ex gd rs h fun s1 d v e1 f1 g1 rs1 r1 h1 => ?_
  split at h1
  · rename_i c fs e2
    split at h1
    · rename_i hcs
      obtain ⟨a, dx, gs, ev, ea, rf⟩ := insOf_ok g1 r1 e2
      have z := Rf.lookup (y := x) rf
      cases q : fs.lookup x with
      | none => rw [q] at h1; exact h1.elim
      | some d' =>
        rw [q] at h1 z
        obtain ⟨v', l, rv⟩ := z
        exact ⟨a, _, dx, gs, v', ev, (by rw [hK]; exact ea), (hc c hcs).1, (hc c hcs).2, l, Post.here g1 h1 rv⟩
    · exact h1.elim
  · exact h1.elim
end
end Ws
set_option Elab.async false
set_option linter.all false
set_option maxRecDepth 100000
set_option autoImplicit false
namespace Ws
open PySem PySem.Spec PyProof.Rows L2
/-- C(..): the new instance stands in a cell while __init__ (g) runs; then it stays as it is -/
def make (c : Str) (g : List D → AH → Out D) (ds : List D) (h : AH) : Out D :=
  if pureDs 0 ds = true then (match g (.cell 0 :: ds) [some (.ins c [])] with
    | .ok .non [some (.ins c' fs)] => if pureF 0 fs = true then .ok (.ins c' fs) h else .bad
    | .exc x _ => if pureX 0 x = true then .exc x h else .bad
    | _ => .bad)
  else .bad
section
variable {C : Cf} {c : Str} {s : Sx}
/-- the state in which __init__ begins -/
def Sx.born (s : Sx) (c : Str) (C : Cf) (x dx : Addr) : Sx :=
  { F := s.F, ρ := { c := fun n => if n = 0 then some x else none, x := none }, H := upd (upd s.H dx (.own x)) x (.ins (He.ga C.K c) dx []), ah := [some (.ins c [])] }
theorem born_H {x dx a : Addr} {o : HO} (hx : s.H x = none) (hd : s.H dx = none) (e : s.H a = some o) : (s.born c C x dx).H a = some o := by
  show upd (upd s.H dx (.own x)) x _ a = some o
  rw [upd_ne (ne_of_none e hx), upd_ne (ne_of_none e hd)]; exact e
theorem born_get {n : Nat} {ob : OB} {x dx : Addr} (h : AH.get (s.born c C x dx).ah n = some ob) : n = 0 ∧ ob = .ins c [] := by
  cases n with
  | zero => simp [Sx.born, AH.get] at h; exact ⟨rfl, h.symm⟩
  | succ n => simp [Sx.born, AH.get] at h
theorem Good.born (g : Good C s) {x dx : Addr} (hx : s.H x = none) (hd : s.H dx = none) : Good C (s.born c C x dx) where
  sub := fun a o e => born_H hx hd (g.sub a o e)
  tups := fun a ys e => by
    have e' : upd (upd s.H dx (.own x)) x (.ins (He.ga C.K c) dx []) a = some (.tup ys) := e
    by_cases h1 : a = x
    · rw [h1, upd_same] at e'; cases e'
    · rw [upd_ne h1] at e'
      by_cases h2 : a = dx
      · rw [h2, upd_same] at e'; cases e'
      · rw [upd_ne h2] at e'; exact g.tups a ys e'
  own := fun n ob e => by
    obtain ⟨rfl, rfl⟩ := born_get e
    exact ⟨x, (rfl : (if (0 : Nat) = 0 then some x else none) = some x), g.notF hx, dx, [], upd_same, by unfold Rf; rfl⟩
  inj := fun n m a k1 k2 _ _ => by
    cases e1 : AH.get (s.born c C x dx).ah n with
    | none => exact absurd e1 k1
    | some o1 =>
      cases e2 : AH.get (s.born c C x dx).ah m with
      | none => exact absurd e2 k2
      | some o2 => rw [(born_get e1).1, (born_get e2).1]
  dom := fun n e => if_neg (by have e' : 1 ≤ n := e; omega)
  tabs := fun p' hp => by
    have t := g.tabs p' hp
    exact t.step (.refl _) (show upd (upd s.H dx (.own x)) x _ p'.1 = _ from (upd_ne (t.ne0 hx)).trans (upd_ne (t.ne0 hd))) t.nF
/-- behind __init__: the instance stays -/
theorem born_back (g : Good C s) {x dx : Addr} (hx : s.H x = none) (hd : s.H dx = none) {t : Sx} (f : Fwd (s.born c C x dx) t) (gt : Good C t) {o : HO} (ht : t.H x = some o) (nto : NT o := by (intro ps z; first | exact nomatch z | exact nomatch (show HO.ext _ = HO.tbl ps from z))) :
    Fwd s { F := upd t.F x o, ρ := s.ρ, H := t.H, ah := s.ah } ∧ Good C { F := upd t.F x o, ρ := s.ρ, H := t.H, ah := s.ah } ∧ Sub t.F (upd t.F x o) := by
  have fr : ∀ a u, s.H a = some u → NT u → t.H a = some u := fun a u e nt => f.frame a u (born_H hx hd e) nt fun n z => by
    have z' : (if n = 0 then some x else none) = some a := z
    split at z'
    · cases z'
      rw [hx] at e; cases e
    · cases z'
  have sub : Sub t.F (upd t.F x o) := fun a u e => by
    by_cases h : a = x
    · subst h; rw [upd_same]; rw [← ht]; exact gt.sub a u e
    · rw [upd_ne h]; exact e
  have st : ∀ a u, t.F a = some u → s.F a = some u ∨ s.H a = none := fun a u e => by
    rcases f.still a u e with z | z | ⟨n, z, _⟩
    · exact .inl z
    · refine .inr ?_
      cases q : s.H a with
      | none => rfl
      | some v => rw [born_H hx hd q] at z; cases z
    · have z' : (if n = 0 then some x else none) = some a := z
      split at z'
      · cases z'; exact .inr hx
      · cases z'
  refine ⟨⟨(f.sub).trans sub, .refl _, fun a u e nt _ => fr a u e nt, fun n a e k => .inl ⟨e, k⟩, fun a u e => f.there a u (born_H hx hd e), fun a u e => ?_⟩, ⟨fun a u e => ?_, fun a ys e => sub a _ (gt.tups a ys e), fun n ob e => ?_, g.inj, g.dom, fun p' hp => (gt.tabs p' hp).step sub rfl ((show upd t.F x o p'.1 = _ from upd_ne ((gt.tabs p' hp).ne ht nto)).trans (gt.tabs p' hp).nF)⟩, sub⟩
  · by_cases h : a = x
    · subst h; exact .inr (.inl hx)
    · have e' : upd t.F x o a = some u := e
      rw [upd_ne h] at e'
      rcases st a u e' with z | z
      · exact .inl z
      · exact .inr (.inl z)
  · by_cases h : a = x
    · subst h
      have e' : upd t.F a o a = some u := e
      rw [upd_same] at e'
      cases e'
      exact ht
    · have e' : upd t.F x o a = some u := e
      rw [upd_ne h] at e'
      exact gt.sub a u e'
  · obtain ⟨a, e1, e2, e3⟩ := g.own n ob e
    obtain ⟨u, z, nu⟩ := e3.thereN
    have ne : a ≠ x := ne_of_none z hx
    refine ⟨a, e1, ?_, e3.mono ((f.sub).trans sub) (.refl _) ((fr a u z nu).trans z.symm)⟩
    show upd t.F x o a = none
    rw [upd_ne ne]
    cases q : t.F a with
    | none => rfl
    | some v =>
      rcases st a v q with y | y
      · rw [e2] at y; cases y
      · rw [z] at y; cases y
theorem spM.make {W : WX} {σ : L2.St} {Q : VK} {n : Nat} {f : List D → AH → Out D} {ds : List D} {vs : List V} {x dx : Addr} (g : Good C s) (r : Rs C s.F s.ρ ds vs) (l : ds.length + 1 = n) (hx : s.H x = none) (hd : s.H dx = none)
    (h : Post C W σ (rD C) s Q (make c f ds s.ah)) :
    spM C n f (.ref x :: vs) (upd (upd s.H dx (.own x)) x (.ins (He.ga C.K c) dx [])) (fun v H2 => v = .non ∧ Q (.ref x) H2) (fun cls od H => W cls od σ H) := by
  unfold Ws.make at h
  split at h
  · rename_i p
    refine ⟨s.born c C x dx, .cell 0 :: ds, rfl, rfl, g.born hx hd, ?_, by simpa using l, ?_⟩
    · unfold Rs
      exact ⟨_, vs, rfl, (by unfold R; exact ⟨x, rfl, (rfl : (if (0 : Nat) = 0 then some x else none) = some x)⟩), Rs.pure (REq.zero _ _) p r⟩
    · show Post C _ _ _ _ _ (f (.cell 0 :: ds) [some (.ins c [])])
      split at h
      · rename_i c' fs e
        rw [e]
        split at h
        · rename_i pf
          intro t v et ft gt rt
          refine ⟨by unfold R at rt; exact rt, ?_⟩
          obtain ⟨a, e1, e2, dx', gs, e3, e4⟩ := gt.own 0 (.ins c' fs) (by rw [et]; rfl)
          have ea : a = x := by
            have z := ft.rho.c 0 x (rfl : (if (0 : Nat) = 0 then some x else none) = some x)
            rw [z] at e1; exact (Option.some.inj e1).symm
          subst ea
          obtain ⟨f2, g2, sb⟩ := born_back g hx hd ft gt e3
          exact h { F := upd t.F a (.ins (He.ga C.K c') dx' gs), ρ := s.ρ, H := t.H, ah := s.ah } (.ref a) rfl f2 g2 (by
            unfold R
            exact ⟨a, dx', gs, rfl, upd_same, Rf.mono sb (.refl _) (Rf.pure (REq.zero _ _) pf e4)⟩)
        · exact h.elim
      · rename_i e
        rw [e]
        split at h
        · rename_i pf
          intro t od et ft gt rt
          obtain ⟨o, ho, no⟩ := ft.there x _ upd_same
          obtain ⟨f2, g2, sb⟩ := born_back g hx hd ft gt ho (no (fun _ z => nomatch z))
          refine h { F := upd t.F x o, ρ := s.ρ, H := t.H, ah := s.ah } od rfl f2 g2 ?_
          rcases rt with rt | ⟨d, gs, y1, y2, rt⟩
          · exact .inl rt
          · exact .inr ⟨d, gs, y1, sb _ _ y2, Rf.mono sb (.refl _) (Rf.pure (REq.zero _ _) pf rt)⟩
        · exact h.elim
      · exact h.elim
  · exact h.elim
end
section
variable {X : Cx} {C : Cf} {W : WX} {k n : Nat} {f : Addr} {fd : FuncData} {ps ks : List Str} {g : List D → AH → Out D} {x c : Str} {p pos : Pos} {e : Expr} {es : List Expr} {mr mk : M (List D)} {kws : List Keyword} {ds : List Value} {dvs : List V} {dds : List D} {gA : List Value → List Value → List Value} {gV : List V → List V → List V} {gD : List D → List D → List D}
/-- C(e, .., k = v, ..): n written values; gD puts all in the parameters' order -/
def makeK (c : Str) (n m : Nat) (gD : List D → List D → List D) (g : List D → AH → Out D) (ps : Nat) (mr mk : M (List D)) : M D := fun σ h => (mr σ h).bind fun ds h1 => (mk σ h1).bind fun zs h2 =>
  if ds.length = n ∧ zs.length = m ∧ (gD ds zs).length + 1 = ps then make c g (gD ds zs) h2 else .bad
abbrev MK (X : Cx) (C : Cf) (ε : Ep) (W : WX) (kws : List Keyword) (m : M (List D)) : Prop := PK X kws (tG C ε W (rDs C) m)
theorem _root_.L2.PK.imp {X : Cx} {kws : List Keyword} {t t' : TA} (h : PK X kws t) (k : ∀ σ H Q, t' σ H Q → t σ H Q) : PK X kws t' := ⟨fun pos pins s σ H Q I q => h.run pos pins s σ H Q I (k σ H Q q)⟩
theorem mk_nil {ε : Ep} : MK X C ε W [] nilA := pk_nil.imp fun σ H Q h => by
  obtain ⟨s, dσ, rfl, ex, g, rs, h⟩ := h
  exact Post.here g h (by unfold Rs; rfl)
theorem mk_cons {ε : Ep} {ma : M D} {nm : Option Str} {kp : Pos} (ha : ME X C ε W e ma) (hr : MK X C ε W kws mr) : MK X C ε W (⟨nm, e, kp⟩ :: kws) (consA ma mr) := (pk_cons ha hr).imp fun σ H Q h => by
  obtain ⟨s, dσ, rfl, ex, gd, rs, h⟩ := h
  refine Post.bind ex gd rs h fun s1 x v e1 f1 g1 rs1 r1 h1 => ?_
  refine Post.bind e1 g1 rs1 h1 fun s2 y u e2 f2 g2 rs2 r2 h2 => ?_
  exact Post.here g2 h2 (by unfold Rs; exact ⟨v, u, rfl, r1.fwd f2, r2⟩)
/-- the run of a new instance, what is raised wished for at the slots -/
theorem run_new {pins : List (Addr × Obj)} {σ : L2.St} {H : Hp} {s : Shared} {Q : VK} {us : List Value} {kw : List (Str × Value)} {al : List Value} {av : List V} {cA : Addr} (Mc : Mk X.K cA f) (F : FnM X C k f fd ps g) (hr : Room (k + 1) X.A) (tk : Takes X W) (I : Inv X pins σ H s)
    (hb : ∀ (s : Shared) (xr : Value), X.K.In s.heap → BindsTo s fd ⟨xr :: us, kw⟩ (ps.zip (xr :: al))) (ra : Vals av al)
    (h : ∀ x dx, H x = none → H dx = none → dx ≠ x → spM C ps.length g (.ref x :: av) (upd (upd H dx (.own x)) x (.ins cA dx [])) (fun v H2 => v = .non ∧ Q (.ref x) H2) (fun cls od H => W cls od σ H)) :
    wpAny (model X.prog X.w) X.A (PySem.call (.ref cA) us kw) (EP X pins σ Q) X.xe s := by
  have hq := h (s.heap.objs.size + 1) s.heap.objs.size (I.hok.fresh (Nat.le_succ _)) (I.hok.fresh (Nat.le_refl _)) (Nat.ne_of_lt (Nat.lt_succ_self _))
  have I2 := Inv.made (C := cA) I
  have r2 : Vals (V.ref (s.heap.objs.size + 1) :: av) (Value.ref (s.heap.objs.size + 1) :: al) := .cons rfl ra
  refine wpAny_call (make_map (f := f) I.kIn Mc.makes Mc.init (beq_iff_eq.mp Mc.fn) (codeAny_mono (F.run _ X.stack _ _ ⟨Value.ref (s.heap.objs.size + 1) :: us, kw⟩ (Value.ref (s.heap.objs.size + 1) :: al) _ _ (fun cls od H => W cls od σ H) (hr.make cA us kw)
    (I2.env0.make cA us kw) (hb _ _ I2.kIn) r2 hq) fun r s' hq' => ?_))
  cases r with
  | error e => exact passAt tk σ pins _ _ e s' I2 hq'
  | ok fl =>
    cases fl with
    | ret u =>
      obtain ⟨v, H', I3, rv, ev, q3⟩ := I2.after hq'
      subst ev
      exact ⟨rv, ⟨V.ref (s.heap.objs.size + 1), H', I3, rfl, q3⟩⟩
    | next => exact False.elim hq'
    | brk => exact False.elim hq'
    | cont => exact False.elim hq'
/-- how the values of data go where the values go -/
def Puts (C : Cf) (gV : List V → List V → List V) (gD : List D → List D → List D) : Prop := ∀ F ρ {a b : List D} {u v : List V}, Rs C F ρ a u → Rs C F ρ b v → Rs C F ρ (gD a b) (gV u v)
theorem me_makeK (hK : X.K = C.K) (tk : Takes X W) (Mc : Mk X.K (He.ga X.K c) f) (F : FnM X C k f fd ps g) (hr : Room (k + 1) X.A) (hg : Gl X x) (hm : X.mg x = some (.ref (He.ga X.K c))) (hb : KBn X.K fd ps (n + 1) ks gA gV)
    (hcons : ∀ (xr : Value) (us ws : List Value), gA (xr :: us) ws = xr :: gA us ws) (hconsV : ∀ (xr : V) (us ws : List V), gV (xr :: us) ws = xr :: gV us ws) (hrelA : ∀ {vs : List V} {us : List Value} {zs : List V} {ws : List Value}, Vals vs us → Vals zs ws → Vals (gV vs zs) (gA us ws)) (hp : Puts C gV gD)
    (ha : MA X C none W (e :: es) mr) (hkw : MK X C none W kws mk)
    (hall : (backToKw pos (keywordEach kws X.env)).all (·.1.isSome) = true := by rfl) (hks : (backToKw pos (keywordEach kws X.env)).filterMap (·.1) = ks := by rfl) (hdb : (x == ("__debug__" : Str)) = false := by decide)
    (he : starEach (e :: es) X.env = (false, eval e X.env) :: starEach es X.env := by rfl) (hpl : ((backTo pos (starEach (e :: es) X.env)).any (·.1) || (backToKw pos (keywordEach kws X.env)).any (·.1.isNone)) = false := by rfl) :
    ME X C none W (.Call (.Name x p) (e :: es) kws pos) (makeK c n ks.length gD g ps.length mr mk) := by
  refine ⟨fun pins s σ H Q I h => ?_⟩
  obtain ⟨sx, dσ, rfl, ex, gd, rs, h⟩ := h
  refine wpAny_Call_Name_kw (ld_glob I hg hm ?_ hdb)
  refine PySem.W.callWith_KW (h₀ := X.base) I.ok.mod.kin Mc.kp hall (thn (ha.run pos pins s σ _ (fun vs H1 => tG C none W (rDs C) mk σ H1 fun zs H2 => vs.length = n ∧ zs.length = ks.length ∧ ∀ x dx, H2 x = none → H2 dx = none → dx ≠ x →
      spM C ps.length g (.ref x :: gV vs zs) (upd (upd H2 dx (.own x)) x (.ins (He.ga X.K c) dx [])) (fun v H3 => v = .non ∧ Q (.ref x) H3) (fun cls od H => W cls od σ H)) I ?_) fun us s1 ⟨vs, H1, I1, r, q⟩ => ?_) hpl he
  · refine Post.bind ex gd rs h fun s1 ds vs e1 f1 g1 rs1 r1 h1 => ?_
    refine Post.bind e1 g1 rs1 h1 fun s2 zs us e2 f2 g2 rs2 r2 h2 => ?_
    split at h2
    · rename_i hc
      obtain ⟨l1, l2, l3⟩ := hc
      have rd := hp _ _ (r1.fwd f2) r2
      refine ⟨by rw [← r1.length]; exact l1, by rw [← r2.length]; exact l2, fun x dx hx hd _ => ?_⟩
      rw [hK]
      exact spM.make g2 rd l3 hx hd h2
    · exact h2.elim
  · refine thn (hkw.run pos pins s1 σ H1 _ I1 q) fun ws s2 ⟨zs, H2, I2, rz, l1, l2, q2⟩ => ⟨I2.kIn, ?_⟩
    rw [hks]
    refine run_new (al := gA us ws) (av := gV vs zs) Mc F hr tk I2 (fun s3 xr kin => ?_) (hrelA r rz) q2
    have z := hb.to s3 (xr :: us) ws kin (by rw [List.length_cons, ← r.length, l1]) (rz.length.symm.trans l2)
    rw [hcons] at z
    exact z
def makeN (c : Str) (n : Nat) (dds : List D) (g : List D → AH → Out D) (ds : List D) (h : AH) : Out D := if (ds ++ dds).length + 1 = n then make c g (ds ++ dds) h else .bad
/-- C(e, ..), by its places, what lacks filled up -/
theorem me_make (hK : X.K = C.K) (tk : Takes X W) (Mc : Mk X.K (He.ga X.K c) f) (F : FnM X C k f fd ps g) (hr : Room (k + 1) X.A) (hg : Gl X x) (hm : X.mg x = some (.ref (He.ga X.K c))) (hb : L2.Binds X.K fd ps ds) (hd : Vals dvs ds) (fl : Filled C dds dvs)
    (ha : MA X C none W (e :: es) mr) (hdb : (x == ("__debug__" : Str)) = false := by decide) (he : starEach (e :: es) X.env = (false, eval e X.env) :: starEach es X.env := by rfl) (hpl : (backTo pos (starEach es X.env)).any (·.1) = false := by rfl) :
    ME X C none W (.Call (.Name x p) (e :: es) [] pos) (app (makeN c ps.length dds g) mr) := by
  refine ⟨fun pins s σ H Q I h => ?_⟩
  obtain ⟨sx, dσ, rfl, ex, gd, rs, h⟩ := h
  refine wpAny_Call_Name_kw (ld_glob I hg hm ?_ hdb)
  refine PySem.W.callWith_K (h₀ := X.base) I.ok.mod.kin Mc.kp (thn (ha.run pos pins s σ _ (fun vs H2 => vs.length + dvs.length + 1 = ps.length ∧ ∀ x dx, H2 x = none → H2 dx = none → dx ≠ x →
      spM C ps.length g (.ref x :: (vs ++ dvs)) (upd (upd H2 dx (.own x)) x (.ins (He.ga X.K c) dx [])) (fun v H3 => v = .non ∧ Q (.ref x) H3) (fun cls od H => W cls od σ H)) I ?_) fun us s1 ⟨vs, H1, I1, r, l1, q⟩ => ⟨I1.kIn, ?_⟩) he hpl
  · refine Post.bind ex gd rs h fun s1 ds vs e1 f1 g1 rs1 r1 h1 => ?_
    unfold makeN at h1
    split at h1
    · rename_i l
      have rd := Rs.app r1 (fl s1.F s1.ρ)
      refine ⟨by have := rd.length; rw [List.length_append] at this; rw [← List.length_append, ← rd.length]; exact l, fun x dx hx hd _ => ?_⟩
      rw [hK]
      exact spM.make g1 rd l hx hd h1
    · exact h1.elim
  · refine run_new (al := us ++ ds) (av := vs ++ dvs) Mc F hr tk I1 (fun s3 xr kin => ?_) (r.append hd) q
    exact hb s3 (xr :: us) kin (by rw [← l1, List.length_append, List.length_cons, ← r.length, ← hd.length]; omega)
def putD (y : Str) (d : D) : List (Str × D) → List (Str × D)
  | [] => [(y, d)]
  | (z, x) :: r => if z = y then (z, d) :: r else (z, x) :: putD y d r
theorem Rf.put {F : Hp} {ρ : Rho} {y : Str} {d : D} {v : V} (q : R C F ρ d v) : ∀ {fs : List (Str × D)} {gs : List (Str × V)}, Rf C F ρ fs gs → Rf C F ρ (putD y d fs) (putF y v gs)
  | [], gs, h => by unfold Rf at h; subst h; unfold putD putF Rf; exact ⟨v, [], rfl, q, by unfold Rf; rfl⟩
  | (z, x) :: fs, gs, h => by
    unfold Rf at h
    obtain ⟨u, r, rfl, a, h⟩ := h
    unfold putD putF
    by_cases e : z = y
    · rw [if_pos e, if_pos e]; unfold Rf; exact ⟨v, r, rfl, q, h⟩
    · rw [if_neg e, if_neg e]; unfold Rf; exact ⟨u, _, rfl, a, Rf.put q h⟩
theorem Rf.length {F : Hp} {ρ : Rho} : ∀ {fs : List (Str × D)} {gs : List (Str × V)}, Rf C F ρ fs gs → fs.length = gs.length
  | [], gs, h => by unfold Rf at h; subst h; rfl
  | (z, x) :: fs, gs, h => by
    unfold Rf at h
    obtain ⟨u, r, rfl, a, h⟩ := h
    simp [Rf.length h]
/-- o.f = v, o in a cell -/
def stf (cs : List Str) (y : Str) (mv mo : M D) : SM := fun σ h => bindS (mv σ h) σ fun d h1 => bindS (mo σ h1) σ fun o h2 => match o with
  | .cell n => (match h2.get n with
    | some (.ins c fs) => if c ∈ cs ∧ fs.length < 900 then .nx σ (h2.put n (.ins c (putD y d fs))) else .bad
    | _ => .bad)
  | _ => .bad
theorem ms_fld {ε : Ep} {cs : List Str} {y : Str} {o v : Expr} {mo mv : M D} {pos' : Pos} (hK : X.K = C.K) (ho : ME X C ε W o mo) (hv : ME X C ε W v mv) (hc : HasF X cs y) (hs : swapsWith v (some (.Attribute o y pos')) pos.line X.env = pure false := by rfl) : MS X C ε W (.Assign [.Attribute o y pos'] v pos) (stf cs y mv mo) :=
  (ps_fld ho hv hs).imp fun D σ H h => by
    obtain ⟨s, dσ, rfl, ex, gd, rs, h⟩ := h
    refine PostS.bind ex gd rs h fun s1 d u e1 f1 g1 rs1 r1 h1 => ?_
    refine PostS.bind e1 g1 rs1 h1 fun s2 od ou e2 f2 g2 rs2 r2 h2 => ?_
    cases od with
    | cell n =>
      dsimp only at h2
      split at h2
      · rename_i c fs en
        split at h2
        · rename_i hcs
          unfold R at r2
          obtain ⟨a, rfl, ea⟩ := r2
          obtain ⟨a', q1, q2, dx, gs, z1, z2⟩ := g2.own n _ en
          rw [ea] at q1; cases q1
          refine ⟨a, He.ga X.K c, dx, gs, rfl, (by rw [hK]; exact z1), (hc c hcs.1).1, (hc c hcs.1).2, by rw [← z2.length]; omega, ?_⟩
          rw [hK]
          exact h2 (s2.wr n a (.ins (He.ga C.K c) dx (putF y u gs)) (.ins c (putD y d fs))) σ rfl (Fwd.wr g2 en ea) (g2.wr en ea ⟨dx, _, upd_same, Rf.put (r1.fwd f2) z2⟩) (rs2.fwd (Fwd.wr g2 en ea))
        · exact h2.elim
      · exact h2.elim
    | _ => exact h2.elim
end
end Ws
set_option Elab.async false
set_option linter.all false
set_option maxRecDepth 100000
set_option autoImplicit false
namespace Ws
open PySem PySem.Spec L2
/-- J hands out the data ds, one by one, whatever comes of the heap meanwhile -/
def Iter (C : Cf) (s : Sx) (ds : List D) (J : It) : Prop := ∀ t (i : Nat), Mon s t → Good C t →
  (i < ds.length → J.go i t.H ∧ ∀ x H', J.yld i t.H x H' → ∃ t' d, t'.H = H' ∧ Fwd t t' ∧ Good C t' ∧ t'.ah = t.ah ∧ ds[i]? = some d ∧ R C t'.F t'.ρ d x) ∧ (ds.length ≤ i → J.stop i t.H)
abbrev rIt (C : Cf) : Rl (List D) It := fun s ds J => Iter C s ds J
abbrev MI (X : Cx) (C : Cf) (ε : Ep) (W : WX) (tg e : Expr) (m : M (List D)) : Prop := PI X tg e (tG C ε W (rIt C) m)
theorem _root_.L2.PI.imp {X : Cx} {tg e : Expr} {t t' : TI} (h : PI X tg e t) (k : ∀ σ H Q, t' σ H Q → t σ H Q) : PI X tg e t' := ⟨fun pins s σ H Q I q => h.run pins s σ H Q I (k σ H Q q)⟩
def wipeD (σ : Sl) : List Nat → Sl
  | [] => σ
  | v :: vs => (wipeD σ vs).set v none
def pureSl (L : Nat) : Sl → Bool
  | [] => true
  | none :: r => pureSl L r
  | some d :: r => pureD L d && pureSl L r
theorem pureSl_get {L : Nat} : ∀ {σ : Sl} {i : Nat} {d : D}, pureSl L σ = true → σ[i]? = some (some d) → pureD L d = true
  | [], i, d, _, e => by simp at e
  | none :: r, 0, d, _, e => by simp at e
  | none :: r, i + 1, d, p, e => pureSl_get (σ := r) (i := i) p (by simpa using e)
  | some x :: r, 0, d, p, e => by
    unfold pureSl at p
    simp at e; subst e
    exact (Bool.and_eq_true_iff.mp p).1
  | some x :: r, i + 1, d, p, e => by
    unfold pureSl at p
    exact pureSl_get (σ := r) (i := i) (Bool.and_eq_true_iff.mp p).2 (by simpa using e)
/-- between two turns: the slots js and the cells from L on are forgotten -/
def trim (L : Nat) (js : List Nat) (σ : Sl) (h : AH) : Out Sl := if pureSl L (wipeD σ js) = true ∧ pureH L (h.take L) = true then .ok (wipeD σ js) (h.take L) else .bad
def keepAll (σ : Sl) (h : AH) : Out Sl := .ok σ h
def TrOK (C : Cf) (s1 : Sx) (tr : Sl → AH → Out Sl) : Prop := ∀ s (σ : L2.St) dσ, Fwd s1 s → Good C s → RS C s σ dσ → ∀ dσ' h', tr dσ s.ah = .ok dσ' h' → ∃ s', s'.ah = h' ∧ s'.H = s.H ∧ Fwd s1 s' ∧ Good C s' ∧ RS C s' σ dσ'
theorem wipeD_some {σ : Sl} {i : Nat} {x : D} : ∀ {vs : List Nat}, (wipeD σ vs)[i]? = some (some x) → σ[i]? = some (some x) ∧ i ∉ vs
  | [], h => ⟨h, by simp⟩
  | v :: vs, h => by
    unfold wipeD at h
    by_cases hi : v = i
    · subst hi
      rw [List.getElem?_set] at h
      simp only [if_true] at h
      split at h <;> cases h
    · rw [List.getElem?_set_ne hi] at h
      obtain ⟨h1, h2⟩ := wipeD_some h
      exact ⟨h1, by simp only [List.mem_cons, not_or]; exact ⟨fun e => hi e.symm, h2⟩⟩
theorem wipeD_length (σ : Sl) : ∀ vs : List Nat, (wipeD σ vs).length = σ.length
  | [] => rfl
  | v :: vs => by unfold wipeD; rw [List.length_set, wipeD_length σ vs]
theorem trim_ok {C : Cf} {s1 : Sx} {js : List Nat} (g1 : Good C s1) : TrOK C s1 (trim s1.ah.length js) := fun s σ dσ f g rs dσ' h' e => by
  unfold trim at e
  split at e
  · rename_i p
    cases e
    refine ⟨s.cut s1.ah.length, rfl, rfl, f.cut g1.dom, g.cut p.2, by rw [wipeD_length]; exact rs.1, fun i d e => ?_⟩
    obtain ⟨v, e1, r⟩ := rs.2 i d (wipeD_some e).1
    exact ⟨v, e1, R.pure (REq.cut s.ρ _) (pureSl_get p.1 e) r⟩
  · cases e
theorem keep_ok {C : Cf} {s1 : Sx} : TrOK C s1 keepAll := fun s σ dσ f g rs dσ' h' e => by
  cases e
  exact ⟨s, rfl, rfl, f, g, rs⟩
def forGo (tr : Sl → AH → Out Sl) (t : Tg) (m : SM) : List D → SM
  | [] => fun σ h => .nx σ h
  | d :: ds => fun σ h => match t d σ h with
    | .ok σ1 h1 => (match m σ1 h1 with
      | .nx σ2 h2 => (match tr σ2 h2 with
        | .ok σ3 h3 => forGo tr t m ds σ3 h3
        | _ => .bad)
      | .ct σ2 h2 => (match tr σ2 h2 with
        | .ok σ3 h3 => forGo tr t m ds σ3 h3
        | _ => .bad)
      | .bk σ2 h2 => .nx σ2 h2
      | o => o)
    | _ => .bad
def forS (mi : M (List D)) (t : Tg) (m : SM) : SM := fun σ h => bindS (mi σ h) σ fun ds h1 => forGo keepAll t m ds σ h1
def forT (js : List Nat) (mi : M (List D)) (t : Tg) (m : SM) : SM := fun σ h => bindS (mi σ h) σ fun ds h1 => forGo (trim h1.length js) t m ds σ h1
section
variable {X : Cx} {C : Cf} {ε : Ep} {W : WX} {tg iter : Expr} {body : List Stmt} {mi : M (List D)} {t : Tg} {m : SM} {pos : Pos}
theorem for_core {D : Ends} {σ : L2.St} {s1 : Sx} {dσ : Sl} {ds : List Ws.D} {J : It} {tr : Sl → AH → Out Sl} (ex : s1.ρ.x = ε) (g1 : Good C s1) (rs : RS C s1 σ dσ) (it : Iter C s1 ds J) (to : TrOK C s1 tr) (h : PostS C W s1 D (forGo tr t m ds dσ s1.ah)) :
    ∃ V : Nat → Nat → L2.St → Hp → Prop, (∃ m, V 0 m σ s1.H) ∧ ∀ i k σ H, V i k σ H → (J.stop i H ∧ D.nx σ H) ∨ (J.go i H ∧ ∃ N : L2.St → Hp → Prop, (∀ σ' H', N σ' H' → ∃ k', k' < k ∧ V (i + 1) k' σ' H') ∧
      ∀ x H', J.yld i H x H' → tT C ε t x σ H' fun σ2 H2 => tS C ε W m { D with nx := N, ct := N, bk := D.nx } σ2 H2) := by
  refine ⟨fun i k σ H => k = ds.length - i ∧ i ≤ ds.length ∧ ∃ s dσ, s.H = H ∧ Fwd s1 s ∧ Good C s ∧ RS C s σ dσ ∧ PostS C W s1 D (forGo tr t m (ds.drop i) dσ s.ah), ⟨_, rfl, Nat.zero_le _, s1, dσ, rfl, .refl _, g1, rs, h⟩, ?_⟩
  rintro i k σ H ⟨rfl, hi, s, dσ, rfl, f, g, rs, h⟩
  by_cases hlt : i < ds.length
  · obtain ⟨go, yl⟩ := (it s i f.mon g).1 hlt
    refine .inr ⟨go, fun σ' H' => ∃ s dσ, s.H = H' ∧ Fwd s1 s ∧ Good C s ∧ RS C s σ' dσ ∧ PostS C W s1 D (forGo tr t m (ds.drop (i + 1)) dσ s.ah), fun σ' H' z => ⟨ds.length - (i + 1), by omega, rfl, hlt, z⟩, fun x H' y => ?_⟩
    obtain ⟨t', d, rfl, f', g', eh, ed, r⟩ := yl x H' y
    have hd : ds.drop i = d :: ds.drop (i + 1) := by
      rw [List.drop_eq_getElem_cons hlt]
      rw [List.getElem?_eq_getElem hlt] at ed
      cases ed; rfl
    rw [hd] at h
    refine ⟨t', dσ, d, rfl, ((f.trans f').rho.x).trans ex, g', rs.fwd f', r, ?_⟩
    unfold forGo at h
    rw [← eh] at h
    cases q : t d dσ t'.ah with
    | ok σ1 h1 =>
      rw [q] at h
      intro s2 σ2 e2 f2 g2 rs2
      subst e2
      have f12 := (f.trans f').trans f2
      refine ⟨s2, σ1, rfl, f12.rho.x.trans ex, g2, rs2, ?_⟩
      dsimp only at h
      have nxt : ∀ σ3 h3, PostS C W s1 D (match tr σ3 h3 with
          | .ok σ4 h4 => forGo tr t m (ds.drop (i + 1)) σ4 h4
          | _ => .bad) → ∀ s3 σ3', s3.ah = h3 → Fwd s2 s3 → Good C s3 → RS C s3 σ3' σ3 → ∃ s dσ, s.H = s3.H ∧ Fwd s1 s ∧ Good C s ∧ RS C s σ3' dσ ∧ PostS C W s1 D (forGo tr t m (ds.drop (i + 1)) dσ s.ah) := fun σ3 h3 hq s3 σ3' e3 f3 g3 rs3 => by
        subst e3
        cases qt : tr σ3 s3.ah with
        | ok σ4 h4 =>
          rw [qt] at hq
          obtain ⟨s4, e4, eH, f4, g4, rs4⟩ := to s3 σ3' σ3 (f12.trans f3) g3 rs3 σ4 h4 qt
          subst e4
          exact ⟨s4, σ4, eH, f4, g4, rs4, hq⟩
        | exc => rw [qt] at hq; exact hq.elim
        | bad => rw [qt] at hq; exact hq.elim
      cases qm : m σ1 s2.ah with
      | nx σ3 h3 => rw [qm] at h; exact fun s3 σ3' e3 f3 g3 rs3 => nxt σ3 h3 h s3 σ3' e3 f3 g3 rs3
      | ct σ3 h3 => rw [qm] at h; exact fun s3 σ3' e3 f3 g3 rs3 => nxt σ3 h3 h s3 σ3' e3 f3 g3 rs3
      | bk σ3 h3 => rw [qm] at h; exact PostS.fwd (o := .nx σ3 h3) f12 h
      | rt d h3 => rw [qm] at h; exact PostS.fwd (o := .rt d h3) f12 h
      | exc x σ3 h3 => rw [qm] at h; exact PostS.fwd (o := .exc x σ3 h3) f12 h
      | bad => rw [qm] at h; exact h
    | exc => rw [q] at h; exact h.elim
    | bad => rw [q] at h; exact h.elim
  · have e : i = ds.length := by omega
    subst e
    rw [List.drop_length] at h
    exact .inl ⟨(it s _ f.mon g).2 (Nat.le_refl _), h s σ rfl f g rs⟩
theorem ms_for (hp : PassesOwn (model X.prog X.w) X.A X.env X.xe) (hc : X.calm = true) (hi : MI X C ε W tg iter mi) (hg : MG X C ε tg t) (hb : MSs X C ε W body m) (hs : ∀ x, foldedSetIterable iter X.env x = pure x := by intro _; rfl) :
    MS X C ε W (.For tg iter body [] pos) (forS mi t m) := (ps_for hp hc hi hg hb hs).imp fun D σ H h => by
  obtain ⟨s, dσ, rfl, ex, g, rs, h⟩ := h
  exact PostS.bind ex g rs h fun s1 ds J e1 f1 g1 rs1 r1 h1 => for_core e1 g1 rs1 r1 keep_ok h1
theorem ms_forT (js : List Nat) (hp : PassesOwn (model X.prog X.w) X.A X.env X.xe) (hc : X.calm = true) (hi : MI X C ε W tg iter mi) (hg : MG X C ε tg t) (hb : MSs X C ε W body m) (hs : ∀ x, foldedSetIterable iter X.env x = pure x := by intro _; rfl) :
    MS X C ε W (.For tg iter body [] pos) (forT js mi t m) := (ps_for hp hc hi hg hb hs).imp fun D σ H h => by
  obtain ⟨s, dσ, rfl, ex, g, rs, h⟩ := h
  exact PostS.bind ex g rs h fun s1 ds J e1 f1 g1 rs1 r1 h1 => for_core e1 g1 rs1 r1 (trim_ok g1) h1
end
end Ws
set_option Elab.async false
set_option linter.all false
set_option maxRecDepth 100000
set_option autoImplicit false
namespace Ws
open PySem PySem.Spec L2
section
variable {C : Cf} {s : Sx}
/-- a list that stays -/
theorem Iter.lst {a : Addr} {ys : List V} {xs : List D} {K : PySem.W.Frag} (f : s.F a = some (.lst ys)) (r : Rs C s.F s.ρ xs ys) : Iter C s xs (Itl K a) := fun t i ft gt => by
  have sq : SqL K t.H a ys := SqL.of (gt.sub _ _ (ft.sub _ _ f))
  refine ⟨fun hi => ?_, fun hi => ⟨ys, sq, by rw [← r.length]; exact hi⟩⟩
  obtain ⟨v, e1, rv⟩ := (r.mon ft).get (List.getElem?_eq_getElem hi)
  exact ⟨⟨ys, v, sq, e1⟩, fun x H' y => by
    obtain ⟨rfl, y⟩ := y
    have := y ys sq
    rw [e1] at this; cases this
    exact ⟨t, _, rfl, .refl _, gt, rfl, List.getElem?_eq_getElem hi, rv⟩⟩
theorem Iter.tup {a : Addr} {ys : List V} {xs : List D} {K : PySem.W.Frag} (f : TupP s.F a ys) (r : Rs C s.F s.ρ xs ys) : Iter C s xs (Itt K a) := fun t i ft gt => by
  have sq : SqT K t.H a ys := ((f.sub ft.sub).sub gt.sub).sq
  refine ⟨fun hi => ?_, fun hi => ⟨ys, sq, by rw [← r.length]; exact hi⟩⟩
  obtain ⟨v, e1, rv⟩ := (r.mon ft).get (List.getElem?_eq_getElem hi)
  exact ⟨⟨ys, v, sq, e1⟩, fun x H' y => by
    obtain ⟨rfl, y⟩ := y
    have := y ys sq
    rw [e1] at this; cases this
    exact ⟨t, _, rfl, .refl _, gt, rfl, List.getElem?_eq_getElem hi, rv⟩⟩
def sgn (c : Nat) : D := .str ⟨#[c]⟩
theorem Iter.str (x : Str) : Iter C s (x.cps.toList.map sgn) (Its x) := fun t i ft gt => by
  refine ⟨fun hi => ⟨(show i < x.cps.size by simpa using hi), fun v H' y => ?_⟩, fun hi => (show x.cps.size ≤ i by simpa using hi)⟩
  obtain ⟨rfl, c, e, rfl⟩ := y
  refine ⟨t, sgn c, rfl, .refl _, gt, rfl, ?_, by unfold sgn R; rfl⟩
  rw [List.getElem?_map, Array.getElem?_toList, e]; rfl
theorem Iter.rng (lo : Int) (n : Nat) : Iter C s ((List.range n).map fun (i : Nat) => D.int (lo + (i : Int))) (Itr lo n) := fun t i ft gt => by
  refine ⟨fun hi => ⟨(show i < n by simpa using hi), fun v H' y => ?_⟩, fun hi => (show n ≤ i by simpa using hi)⟩
  obtain ⟨rfl, rfl⟩ := y
  refine ⟨t, .int (lo + (i : Int)), rfl, .refl _, gt, rfl, ?_, by unfold R; rfl⟩
  rw [List.getElem?_map, List.getElem?_range (by simpa using hi)]; rfl
/-- a pair just laid -/
theorem pair_ok {T : Addr} {t : Sx} (gt : Good C t) (hT : t.H T = none) {a b : D} {u v : V} (ra : R C t.F t.ρ a u) (rb : R C t.F t.ρ b v) : Fwd t (t.frz T (.tup [u, v])) ∧ Good C (t.frz T (.tup [u, v])) ∧ R C (t.frz T (.tup [u, v])).F (t.frz T (.tup [u, v])).ρ (.rtp [a, b]) (.ref T) := by
  have f := Fwd.frz gt (o := .tup [u, v]) hT
  refine ⟨f, gt.frz hT, ?_⟩
  unfold R
  refine ⟨T, [u, v], rfl, upd_same, ?_⟩
  unfold Rs
  refine ⟨u, [v], rfl, ra.fwd f, ?_⟩
  unfold Rs
  exact ⟨v, [], rfl, rb.fwd f, by unfold Rs; rfl⟩
def zipD : List D → List D → List D
  | a :: as, b :: bs => .rtp [a, b] :: zipD as bs
  | _, _ => []
theorem zipD_length : ∀ (a b : List D), (zipD a b).length = min a.length b.length
  | [], b => by simp [zipD]
  | a :: as, [] => by simp [zipD]
  | a :: as, b :: bs => by simp [zipD, zipD_length as bs]
theorem zipD_get : ∀ (a b : List D) (i : Nat) (x y : D), a[i]? = some x → b[i]? = some y → (zipD a b)[i]? = some (.rtp [x, y])
  | [], b, i, x, y, h, _ => by simp at h
  | a :: as, [], i, x, y, _, h => by simp at h
  | a :: as, b :: bs, 0, x, y, h, k => by simp at h k; subst h k; rfl
  | a :: as, b :: bs, i + 1, x, y, h, k => by simpa [zipD] using zipD_get as bs i x y (by simpa using h) (by simpa using k)
theorem Iter.zip {a b : Addr} {ys zs : List V} {xs us : List D} {K : PySem.W.Frag} (f : s.F a = some (.lst ys)) (r : Rs C s.F s.ρ xs ys) (f' : s.F b = some (.lst zs)) (r' : Rs C s.F s.ρ us zs) : Iter C s (zipD xs us) (Itz K a b) := fun t i ft gt => by
  have sq : SqL K t.H a ys := SqL.of (gt.sub _ _ (ft.sub _ _ f))
  have sq' : SqL K t.H b zs := SqL.of (gt.sub _ _ (ft.sub _ _ f'))
  refine ⟨fun hi => ?_, fun hi => ⟨ys, zs, sq, sq', by rw [zipD_length, r.length, r'.length] at hi; omega⟩⟩
  rw [zipD_length] at hi
  have h1 : i < xs.length := by omega
  have h2 : i < us.length := by omega
  obtain ⟨v, e1, rv⟩ := (r.mon ft).get (List.getElem?_eq_getElem h1)
  obtain ⟨w, e2, rw'⟩ := (r'.mon ft).get (List.getElem?_eq_getElem h2)
  exact ⟨⟨ys, zs, v, w, sq, sq', e1, e2⟩, fun x H' y => by
    obtain ⟨T, z, z2, rfl, hT, rfl, y, y2⟩ := y
    have := y ys sq
    rw [e1] at this; cases this
    have := y2 zs sq'
    rw [e2] at this; cases this
    obtain ⟨f2, g2, r2⟩ := pair_ok gt hT rv rw'
    exact ⟨_, _, rfl, f2, g2, rfl, zipD_get xs us i _ _ (List.getElem?_eq_getElem h1) (List.getElem?_eq_getElem h2), r2⟩⟩
theorem Rk.len {F : Hp} {ρ : Rho} : ∀ {kvs : List (D × D)} {ks : List (Key × V)}, Rk C F ρ kvs ks → kvs.length = ks.length
  | [], ks, h => by unfold Rk at h; subst h; rfl
  | (k, d) :: kvs, ks, h => by
    unfold Rk at h
    obtain ⟨key, v, r, rfl, _, _, h⟩ := h
    simp [Rk.len h]
theorem Rt.len {F : Hp} {ρ : Rho} : ∀ {kvs : List (D × D)} {ks : NP}, Rt C F ρ kvs ks → kvs.length = ks.length
  | [], ks, h => by unfold Rt at h; subst h; rfl
  | (k, d) :: kvs, ks, h => by
    unfold Rt at h
    obtain ⟨key, b, v, r, rfl, _, _, _, _, h⟩ := h
    simp [Rt.len h]
theorem Rk.get {F : Hp} {ρ : Rho} : ∀ {kvs : List (D × D)} {ks : List (Key × V)} {i : Nat} {k d : D}, Rk C F ρ kvs ks → kvs[i]? = some (k, d) → ∃ key v, ks[i]? = some (key, v) ∧ k = keyD key ∧ R C F ρ d v
  | [], ks, i, k, d, h, e => by simp at e
  | (k', d') :: kvs, ks, 0, k, d, h, e => by
    unfold Rk at h
    obtain ⟨key, v, r, rfl, a, b, h⟩ := h
    simp at e
    obtain ⟨rfl, rfl⟩ := e
    exact ⟨key, v, rfl, a, b⟩
  | (k', d') :: kvs, ks, i + 1, k, d, h, e => by
    unfold Rk at h
    obtain ⟨key, v, r, rfl, a, b, h⟩ := h
    obtain ⟨key2, v2, e1, e2, e3⟩ := Rk.get (i := i) h (by simpa using e)
    exact ⟨key2, v2, by simpa using e1, e2, e3⟩
theorem Rt.get {F : Hp} {ρ : Rho} : ∀ {kvs : List (D × D)} {ks : NP} {i : Nat} {k d : D}, Rt C F ρ kvs ks → kvs[i]? = some (k, d) → ∃ key b v, ks[i]? = some (key, b, v) ∧ nkOf k = some key ∧ R C F ρ k (.ref b) ∧ R C F ρ d v
  | [], ks, i, k, d, h, e => by simp at e
  | (k', d') :: kvs, ks, 0, k, d, h, e => by
    unfold Rt at h
    obtain ⟨key, b, v, r, rfl, a1, _, a2, a3, h⟩ := h
    simp at e
    obtain ⟨rfl, rfl⟩ := e
    exact ⟨key, b, v, rfl, a1, a2, a3⟩
  | (k', d') :: kvs, ks, i + 1, k, d, h, e => by
    unfold Rt at h
    obtain ⟨key, b, v, r, rfl, _, _, _, _, h⟩ := h
    obtain ⟨key2, b2, v2, e1, e2, e3, e4⟩ := Rt.get (i := i) h (by simpa using e)
    exact ⟨key2, b2, v2, by simpa using e1, e2, e3, e4⟩
theorem R.key {F : Hp} {ρ : Rho} (k : Key) : R C F ρ (keyD k) (kV k) := by cases k <;> (unfold keyD kV R; rfl)
theorem Rs.keys {F : Hp} {ρ : Rho} : ∀ ks : List Key, Rs C F ρ (ks.map keyD) (ks.map kV)
  | [] => by simp [Rs]
  | k :: ks => by
    show Rs C F ρ (keyD k :: ks.map keyD) (kV k :: ks.map kV)
    unfold Rs
    exact ⟨_, _, rfl, R.key k, Rs.keys ks⟩
theorem get_fst {kvs : List (D × D)} {i : Nat} (hi : i < kvs.length) : ∃ k d, kvs[i]? = some (k, d) := ⟨_, _, List.getElem?_eq_getElem hi⟩
theorem Iter.keysK {a : Addr} {o : Obj} {ks : List (Key × V)} {kvs : List (D × D)} (f : s.F a = some (.frz o (.dK ks))) (r : Rk C s.F s.ρ kvs ks) : Iter C s (kvs.map (·.1)) (Itk a o ks) := fun t i ft gt => by
  have hd := gt.sub _ _ (ft.sub _ _ f)
  refine ⟨fun hi => ⟨⟨hd, by rw [← r.len]; simpa using hi⟩, fun x H' y => ?_⟩, fun hi => ⟨hd, by rw [← r.len]; simpa using hi⟩⟩
  obtain ⟨rfl, k, v, e, rfl⟩ := y
  obtain ⟨kd, d, e1⟩ := get_fst (kvs := kvs) (i := i) (by simpa using hi)
  obtain ⟨key, v', e2, e3, _⟩ := r.get e1
  rw [e] at e2; cases e2
  exact ⟨t, kd, rfl, .refl _, gt, rfl, by rw [List.getElem?_map, e1]; rfl, by rw [e3]; exact R.key k⟩
theorem Iter.keysT {a : Addr} {o : Obj} {ks : NP} {kvs : List (D × D)} (f : s.F a = some (.frz o (dictN C.P C.w a ks))) (r : Rt C s.F s.ρ kvs ks) : Iter C s (kvs.map (·.1)) (itKN C.P C.w a o ks) := fun t i ft gt => by
  have hd := gt.sub _ _ (ft.sub _ _ f)
  refine ⟨fun hi => ⟨⟨hd, by rw [← r.len]; simpa using hi⟩, fun x H' y => ?_⟩, fun hi => ⟨hd, by rw [← r.len]; simpa using hi⟩⟩
  obtain ⟨rfl, p, e, rfl⟩ := y
  obtain ⟨kd, d, e1⟩ := get_fst (kvs := kvs) (i := i) (by simpa using hi)
  obtain ⟨key, b, v', e2, _, rk, _⟩ := (Rt.mono ft.sub ft.rho r).get e1
  rw [e] at e2; cases e2
  exact ⟨t, kd, rfl, .refl _, gt, rfl, by rw [List.getElem?_map, e1]; rfl, rk⟩
end
/-- a list, a tuple, a text, a dict's keys: what a plain walk hands out -/
def itemsL : D → AH → Out (List D) := fun d h => match d with
  | .lst xs => .ok xs h
  | _ => .bad
def itemsT : D → AH → Out (List D) := fun d h => match d with
  | .tup xs => .ok xs h
  | _ => .bad
def itemsS : D → AH → Out (List D) := fun d h => match d with
  | .str x => .ok (x.cps.toList.map sgn) h
  | _ => .bad
def itemsK : D → AH → Out (List D) := fun d h => match d with
  | .dct kvs => .ok (kvs.map (·.1)) h
  | _ => .bad
def itemsKT : D → AH → Out (List D) := fun d h => match d with
  | .dcT kvs => .ok (kvs.map (·.1)) h
  | _ => .bad
def walk (g : D → AH → Out (List D)) (m : M D) : M (List D) := fun σ h => (m σ h).bind g
def walkA (g : List D → AH → Out (List D)) (m : M (List D)) : M (List D) := fun σ h => (m σ h).bind g
section
variable {X : Cx} {C : Cf} {ε : Ep} {W : WX} {tg e e2 : Expr} {me : M D} {mr : M (List D)} {p pos apos : Pos}
theorem mi_lst (hK : X.K = C.K) (he : ME X C ε W e me) : MI X C ε W tg e (walk itemsL me) := (pi_list he).imp fun σ H Q h => by
  obtain ⟨s, dσ, rfl, ex, g, rs, h⟩ := h
  refine Post.bind ex g rs h fun s1 d v e1 f1 g1 rs1 r1 h1 => ?_
  cases d with
  | lst xs =>
    unfold R at r1
    obtain ⟨a, ys, rfl, fa, rr⟩ := r1
    exact ⟨a, rfl, ⟨ys, SqL.of (g1.sub _ _ fa)⟩, Post.here g1 h1 (Iter.lst fa rr)⟩
  | _ => exact h1.elim
theorem mi_tup (he : ME X C ε W e me) : MI X C ε W tg e (walk itemsT me) := (pi_tup he).imp fun σ H Q h => by
  obtain ⟨s, dσ, rfl, ex, g, rs, h⟩ := h
  refine Post.bind ex g rs h fun s1 d v e1 f1 g1 rs1 r1 h1 => ?_
  cases d with
  | tup xs =>
    unfold R at r1
    obtain ⟨a, ys, rfl, fa, rr⟩ := r1
    exact ⟨a, rfl, ⟨ys, (fa.sub g1.sub).sq⟩, Post.here g1 h1 (Iter.tup fa rr)⟩
  | _ => exact h1.elim
theorem mi_str (he : ME X C ε W e me) : MI X C ε W tg e (walk itemsS me) := (pi_str he).imp fun σ H Q h => by
  obtain ⟨s, dσ, rfl, ex, g, rs, h⟩ := h
  refine Post.bind ex g rs h fun s1 d v e1 f1 g1 rs1 r1 h1 => ?_
  cases d with
  | str x =>
    unfold R at r1
    exact ⟨x, r1, Post.here g1 h1 (Iter.str x)⟩
  | _ => exact h1.elim
theorem mi_keys (he : ME X C ε W e me) : MI X C ε W tg e (walk itemsK me) := (pi_keys he).imp fun σ H Q h => by
  obtain ⟨s, dσ, rfl, ex, g, rs, h⟩ := h
  refine Post.bind ex g rs h fun s1 d v e1 f1 g1 rs1 r1 h1 => ?_
  cases d with
  | dct kvs =>
    unfold R at r1
    obtain ⟨a, o, ks, rfl, fa, rr⟩ := r1
    exact ⟨a, o, rfl, .inl ⟨ks, g1.sub _ _ fa, Post.here g1 h1 (Iter.keysK fa rr)⟩⟩
  | _ => exact h1.elim
theorem mi_keysT (hP : X.prog = C.P) (hw : X.w = C.w) (he : ME X C ε W e me) : MI X C ε W tg e (walk itemsKT me) := (pi_keysN he).imp fun σ H Q h => by
  obtain ⟨s, dσ, rfl, ex, g, rs, h⟩ := h
  refine Post.bind ex g rs h fun s1 d v e1 f1 g1 rs1 r1 h1 => ?_
  cases d with
  | dcT kvs =>
    unfold R at r1
    obtain ⟨a, o, ks, rfl, fa, rr⟩ := r1
    rw [hP, hw]
    exact ⟨a, o, ks, rfl, g1.sub _ _ fa, Post.here g1 h1 (Iter.keysT fa rr)⟩
  | _ => exact h1.elim
def rng1 : List D → AH → Out (List D) := fun ds h => match ds with
  | [.int j] => if -(2 ^ 62) ≤ j ∧ j < 2 ^ 62 then .ok ((List.range j.toNat).map fun (i : Nat) => D.int (i : Int)) h else .bad
  | _ => .bad
theorem mi_range1 (hg : Gl X "range") (hm : X.mg "range" = none) (ha : MA X C ε W [e] mr) (hs : starEach [e] X.env = [(false, eval e X.env)] := by rfl) : MI X C ε W tg (.Call (.Name "range" p) [e] [] pos) (walkA rng1 mr) := (pi_range1 hg hm ha hs).imp fun σ H Q h => by
  obtain ⟨s, dσ, rfl, ex, g, rs, h⟩ := h
  refine Post.bind ex g rs h fun s1 d v e1 f1 g1 rs1 r1 h1 => ?_
  unfold rng1 at h1
  split at h1
  · split at h1
    · rename_i j hj
      unfold Rs at r1
      obtain ⟨v1, r, rfl, r2, r3⟩ := r1
      unfold Rs at r3
      unfold R at r2
      subst r3 r2
      have it := Iter.rng (C := C) (s := s1) 0 j.toNat
      simp only [Int.zero_add] at it
      exact ⟨j, rfl, hj.1, hj.2, Post.here g1 h1 it⟩
    · exact h1.elim
  · exact h1.elim
end
end Ws
set_option Elab.async false
set_option linter.all false
set_option maxRecDepth 100000
set_option autoImplicit false
namespace Ws
open PySem PySem.Spec L2
/-- a target within a block: the names' own slots vs -/
def TgW (C : Cf) (ε : Ep) (vs : List Nat) (g : TG) (t : Tg) : Prop := ∀ (s : Sx) (σ : L2.St) (dσ : Sl) (d : D) (v : V) (Q : L2.St → Hp → Prop), s.ρ.x = ε → Good C s → RS C s σ dσ → R C s.F s.ρ d v →
  (match t d dσ s.ah with
    | .ok dσ' h' => ∀ σ', h' = s.ah → wipe σ' vs = wipe σ vs → RS C s σ' dσ' → Q σ' s.H
    | _ => False) → g v σ s.H Q
theorem wipe_set {σ : L2.St} {i : Nat} {x : Option V} : ∀ {vs : List Nat}, i ∈ vs → wipe (σ.set i x) vs = wipe σ vs
  | [], h => by cases h
  | v :: vs, h => by
    unfold wipe
    by_cases hv : i ∈ vs
    · rw [wipe_set hv]
    · have e : i = v := by
        rcases List.mem_cons.mp h with h | h
        · exact h
        · exact absurd h hv
      subst e
      have out : ∀ (vs : List Nat) (σ : L2.St), i ∉ vs → wipe (σ.set i x) vs = (wipe σ vs).set i x := by
        intro vs
        induction vs with
        | nil => intro σ _; rfl
        | cons a r ih =>
          intro σ hn
          simp only [List.mem_cons, not_or] at hn
          unfold wipe
          rw [ih σ hn.2, List.set_comm _ _ (Ne.symm hn.1)]
      rw [out vs σ hv, List.set_set]
theorem tgw_name {C : Cf} {ε : Ep} {vs : List Nat} (i : Nat) (hi : i ∈ vs) : TgW C ε vs (gName i) (tgN i) := fun s σ dσ d v Q ex g rs r h => h _ rfl (wipe_set hi) (rs.set r)
def TgsW (C : Cf) (ε : Ep) (vs : List Nat) (g : TGs) (t : Tgs) : Prop := ∀ (s : Sx) (σ : L2.St) (dσ : Sl) (d : List D) (v : List V) (Q : L2.St → Hp → Prop), s.ρ.x = ε → Good C s → RS C s σ dσ → Rs C s.F s.ρ d v →
  (match t d dσ s.ah with
    | .ok dσ' h' => ∀ σ', h' = s.ah → wipe σ' vs = wipe σ vs → RS C s σ' dσ' → Q σ' s.H
    | _ => False) → g v σ s.H Q
theorem tgw_nil {C : Cf} {ε : Ep} {vs : List Nat} : TgsW C ε vs gNil tgNil := fun s σ dσ d v Q ex g rs r h => by
  cases d with
  | nil => exact ⟨by unfold Rs at r; exact r, h σ rfl rfl rs⟩
  | cons => exact h.elim
theorem tgw_cons {C : Cf} {ε : Ep} {vs : List Nat} {i : Nat} {g : TGs} {t : Tgs} (hi : i ∈ vs) (h2 : TgsW C ε vs g t) : TgsW C ε vs (gCons (gName i) g) (tgCons (tgN i) t) := fun s σ dσ d v Q ex gd rs r h => by
  cases d with
  | nil => exact h.elim
  | cons d ds =>
    unfold Rs at r
    obtain ⟨v1, vr, rfl, rd, rr⟩ := r
    refine ⟨v1, vr, rfl, ?_⟩
    refine h2 s (σ.set i (some v1)) (dσ.set i (some d)) ds vr Q ex gd (rs.set rd) rr ?_
    have h' : (match t ds (dσ.set i (some d)) s.ah with
      | .ok dσ' h' => ∀ σ', h' = s.ah → wipe σ' vs = wipe σ vs → RS C s σ' dσ' → Q σ' s.H
      | _ => False) := h
    cases q : t ds (dσ.set i (some d)) s.ah with
    | ok dσ' h1 => rw [q] at h'; exact fun σ' e1 e2 e3 => h' σ' e1 (e2.trans (wipe_set hi)) e3
    | exc => rw [q] at h'; exact h'
    | bad => rw [q] at h'; exact h'
theorem tgw_tup {C : Cf} {ε : Ep} {vs : List Nat} {K : PySem.W.Frag} {n : Nat} {g : TGs} {t : Tgs} (h2 : TgsW C ε vs g t) (hl : ∀ ds dσ h, t ds dσ h ≠ .bad → ds.length = n) : TgW C ε vs (gTup K n g) (tgTup t) := fun s σ dσ d v Q ex gd rs r h => by
  cases d with
  | tup xs =>
    unfold R at r
    obtain ⟨a, ys, rfl, fa, rr⟩ := r
    have h' : (match t xs dσ s.ah with
      | .ok dσ' h' => ∀ σ', h' = s.ah → wipe σ' vs = wipe σ vs → RS C s σ' dσ' → Q σ' s.H
      | _ => False) := h
    refine ⟨a, ys, rfl, (fa.sub gd.sub).sq, ?_, h2 s σ dσ xs ys Q ex gd rs rr h'⟩
    rw [← rr.length]
    exact hl xs dσ s.ah fun z => by rw [z] at h'; exact h'
  | rtp xs =>
    unfold R at r
    obtain ⟨a, ys, rfl, fa, rr⟩ := r
    have h' : (match t xs dσ s.ah with
      | .ok dσ' h' => ∀ σ', h' = s.ah → wipe σ' vs = wipe σ vs → RS C s σ' dσ' → Q σ' s.H
      | _ => False) := h
    refine ⟨a, ys, rfl, SqT.of (gd.sub _ _ fa), ?_, h2 s σ dσ xs ys Q ex gd rs rr h'⟩
    rw [← rr.length]
    exact hl xs dσ s.ah fun z => by rw [z] at h'; exact h'
  | _ => exact h.elim
theorem RS.wipe {C : Cf} {s : Sx} {σ : L2.St} {dσ : Sl} (vs : List Nat) (h : RS C s σ dσ) : RS C s (L2.wipe σ vs) (wipeD dσ vs) := by
  refine ⟨by rw [wipe_length, wipeD_length]; exact h.1, fun i d e => ?_⟩
  obtain ⟨e1, hn⟩ := wipeD_some e
  obtain ⟨v, e2, r⟩ := h.2 i d e1
  exact ⟨v, by rw [wipe_out hn]; exact e2, r⟩
/-- the wish of a block: nothing is let out -/
abbrev WF : WX := fun _ _ _ _ => False
def yesB : M Bool := fun _ h => .ok true h
abbrev MTs (X : Cx) (C : Cf) (ε : Ep) (ifs : List Expr) (m : M Bool) : Prop := PTs X ifs (tG C ε WF rB m)
theorem _root_.L2.PTs.imp {X : Cx} {e : List Expr} {t t' : TT} (h : PTs X e t) (k : ∀ σ H Q, t' σ H Q → t σ H Q) : PTs X e t' := ⟨fun pins s σ H Q I q => h.run pins s σ H Q I (k σ H Q q)⟩
theorem mts_nil {X : Cx} {C : Cf} {ε : Ep} : MTs X C ε [] yesB := pts_nil.imp fun σ H Q h => by
  obtain ⟨s, dσ, rfl, ex, g, rs, h⟩ := h
  exact Post.here g h rfl
theorem mts_one {X : Cx} {C : Cf} {ε : Ep} {c : Expr} {m : M Bool} (h : MT X C ε WF c m) : MTs X C ε [c] m := pts_one h
/-- what a turn adds: nothing, or one thing (exceptions do not leave) -/
def turnM (t : Tg) (c : M Bool) (e : M D) (σ : Sl) (d : D) (h : AH) : Out (Option D) := match t d σ h with
  | .ok σ1 h1 => (match c σ1 h1 with
    | .ok true h2 => (match e σ1 h2 with
      | .ok y h3 => .ok (some y) h3
      | _ => .bad)
    | .ok false h2 => .ok none h2
    | _ => .bad)
  | _ => .bad
def lcGo (t : Tg) (c : M Bool) (e : M D) (σ : Sl) : List D → List D → AH → Out (List D)
  | [], acc, h => .ok acc h
  | d :: ds, acc, h => (turnM t c e σ d h).bind fun o h1 => match o with
    | some y => if acc.length < 1000000 then lcGo t c e σ ds (acc ++ [y]) h1 else .bad
    | none => lcGo t c e σ ds acc h1
/-- [e for t in mi if c]; vs: the block's own slots -/
def lc (vs : List Nat) (mi : M (List D)) (t : Tg) (c : M Bool) (e : M D) : M D := fun σ h => (mi σ h).bind fun ds h1 => (lcGo t c e (wipeD σ vs) ds [] h1).bind fun xs h2 => .ok (.lst xs) h2
/-- a thing at p that is being filled: no cell, not yet kept -/
structure Fill (s : Sx) (p : Addr) (o : HO) : Prop where
  at_ : s.H p = some o
  nF : s.F p = none
  nC : ∀ n, s.ρ.c n = some p → s.ah.get n = none
  nt : NT o
theorem Fill.fwd {s t : Sx} {p : Addr} {o : HO} (i : Fill s p o) (f : Fwd s t) : Fill t p o where
  at_ := f.frame p o i.at_ i.nt i.nC
  nF := by
    cases q : t.F p with
    | none => rfl
    | some u =>
      rcases f.still p u q with z | z | ⟨n, z1, z2⟩
      · rw [i.nF] at z; cases z
      · rw [i.at_] at z; cases z
      · exact absurd (i.nC n z1) z2
  nC := fun n e => by
    cases q : t.ah.get n with
    | none => rfl
    | some ob =>
      rcases f.fresh n p e (by rw [q]; exact fun z => nomatch z) with ⟨z1, z2⟩ | z
      · exact absurd (i.nC n z1) z2
      · rw [i.at_] at z; cases z
  nt := i.nt
/-- what is being filled, changed -/
def Sx.setp (s : Sx) (p : Addr) (o : HO) : Sx := { s with H := upd s.H p o }
theorem Good.setp {C : Cf} {s : Sx} (g : Good C s) {p : Addr} {o o' : HO} (i : Fill s p o') (nt : ∀ ys, o ≠ .tup ys) : Good C (s.setp p o) where
  sub := fun a u e => by
    show upd s.H p o a = _
    have e' : s.F a = some u := e
    rw [upd_ne (fun z => by rw [z, i.nF] at e'; cases e')]; exact g.sub a u e
  tups := fun a ys e => by
    have e' : upd s.H p o a = some (.tup ys) := e
    by_cases h : a = p
    · rw [h, upd_same] at e'; exact absurd (Option.some.inj e') (nt ys)
    · rw [upd_ne h] at e'; exact g.tups a ys e'
  own := fun n ob e => by
    obtain ⟨a, e1, e2, e3⟩ := g.own n ob e
    have ne : a ≠ p := fun z => by
      subst z
      have e' : s.ah.get n = some ob := e
      rw [i.nC n e1] at e'; cases e'
    exact ⟨a, e1, e2, e3.mono (.refl _) (.refl _) (show upd s.H p o a = s.H a from upd_ne ne)⟩
  inj := g.inj
  dom := g.dom
  tabs := fun p' hp => by
    have t := g.tabs p' hp
    exact t.step (.refl _) (show upd s.H p o p'.1 = _ from upd_ne (t.ne i.at_ i.nt)) t.nF
theorem Fwd.setp {s t : Sx} (f : Fwd s t) {p : Addr} {o : HO} (h : s.H p = none) : Fwd s (t.setp p o) where
  sub := f.sub
  rho := f.rho
  frame := fun a u e nt k => by show upd t.H p o a = _; rw [upd_ne (ne_of_none e h)]; exact f.frame a u e nt k
  fresh := f.fresh
  there := fun a u e => by
    obtain ⟨u', z, n⟩ := f.there a u e
    exact ⟨u', by show upd t.H p o a = _; rw [upd_ne (ne_of_none e h)]; exact z, n⟩
  still := f.still
theorem Fill.setp {s : Sx} {p : Addr} {o o' : HO} (i : Fill s p o') (nt : NT o := by (intro ps z; first | exact nomatch z | exact nomatch (show HO.ext _ = HO.tbl ps from z))) : Fill (s.setp p o) p o := ⟨upd_same, i.nF, i.nC, nt⟩
/-- it is full: it stays -/
def Sx.done (s : Sx) (p : Addr) (o : HO) : Sx := { s with F := upd s.F p o }
theorem Good.done {C : Cf} {s : Sx} (g : Good C s) {p : Addr} {o : HO} (i : Fill s p o) : Good C (s.done p o) ∧ Sub s.F (s.done p o).F := by
  have sb : Sub s.F (s.done p o).F := Sub.upd' i.nF
  refine ⟨⟨fun a u e => ?_, fun a ys e => sb _ _ (g.tups a ys e), fun n ob e => ?_, g.inj, g.dom, fun p' hp => (g.tabs p' hp).step sb rfl ((show upd s.F p o p'.1 = _ from upd_ne ((g.tabs p' hp).ne i.at_ i.nt)).trans (g.tabs p' hp).nF)⟩, sb⟩
  · have e' : upd s.F p o a = some u := e
    by_cases h : a = p
    · rw [h, upd_same] at e'; cases e'; rw [h]; exact i.at_
    · rw [upd_ne h] at e'; exact g.sub a u e'
  · obtain ⟨a, e1, e2, e3⟩ := g.own n ob e
    have ne : a ≠ p := fun z => by
      subst z
      have e' : s.ah.get n = some ob := e
      rw [i.nC n e1] at e'; cases e'
    exact ⟨a, e1, (show upd s.F p o a = none by rw [upd_ne ne]; exact e2), e3.mono sb (.refl _) rfl⟩
theorem Fwd.done {s t : Sx} (f : Fwd s t) {p : Addr} {o : HO} (h : s.H p = none) (i : Fill t p o) : Fwd s (t.done p o) where
  sub := f.sub.trans (Sub.upd' i.nF)
  rho := f.rho
  frame := f.frame
  fresh := f.fresh
  there := f.there
  still := fun a u e => by
    have e' : upd t.F p o a = some u := e
    by_cases h' : a = p
    · rw [h']; exact .inr (.inl h)
    · rw [upd_ne h'] at e'; exact f.still a u e'
theorem Fill.new {C : Cf} {s : Sx} (g : Good C s) {p : Addr} {o : HO} (h : s.H p = none) (nt : NT o := by (intro ps z; first | exact nomatch z | exact nomatch (show HO.ext _ = HO.tbl ps from z))) : Fill (s.setp p o) p o := ⟨upd_same, g.notF h, fun n e => g.notC h e, nt⟩
theorem Good.fill {C : Cf} {s : Sx} (g : Good C s) {p : Addr} {o : HO} (h : s.H p = none) (nt : ∀ ys, o ≠ .tup ys) : Good C (s.setp p o) where
  sub := fun a u e => by
    show upd s.H p o a = _
    rw [upd_ne (ne_of_none (g.sub a u e) h)]; exact g.sub a u e
  tups := fun a ys e => by
    have e' : upd s.H p o a = some (.tup ys) := e
    by_cases h : a = p
    · rw [h, upd_same] at e'; exact absurd (Option.some.inj e') (nt ys)
    · rw [upd_ne h] at e'; exact g.tups a ys e'
  own := fun n ob e => by
    obtain ⟨a, e1, e2, e3⟩ := g.own n ob e
    obtain ⟨u, z⟩ := e3.there
    exact ⟨a, e1, e2, e3.mono (.refl _) (.refl _) (show upd s.H p o a = s.H a from upd_ne (ne_of_none z h))⟩
  inj := g.inj
  dom := g.dom
  tabs := fun p' hp => by
    have t := g.tabs p' hp
    exact t.step (.refl _) (show upd s.H p o p'.1 = _ from upd_ne (t.ne0 h)) t.nF
theorem Rs.snoc {C : Cf} {F : Hp} {ρ : Rho} {d : D} {v : V} {ds : List D} {vs : List V} (r : Rs C F ρ ds vs) (q : R C F ρ d v) : Rs C F ρ (ds ++ [d]) (vs ++ [v]) := Rs.app r (by unfold Rs; exact ⟨v, [], rfl, q, by unfold Rs; rfl⟩)
section
variable {X : Cx} {C : Cf} {ε : Ep} {W : WX} {elt tg iter : Expr} {ifs : List Expr} {scope : Scope} {own : List (Str × Nat)} {pos : Pos} {mi : M (List D)} {g : TG} {t : Tg} {c : M Bool} {e : M D}
theorem lim_lt {n : Nat} (h : n < 1000000) : n < sizeLine := Nat.lt_of_lt_of_le h (by rw [sizeLine_eq]; decide)
end
end Ws
set_option Elab.async false
set_option linter.all false
set_option maxRecDepth 100000
set_option autoImplicit false
namespace Ws
open PySem PySem.Spec L2
def lim : Nat := 1000000
theorem lim_le {n : Nat} (h : n ≤ lim) : n ≤ sizeLine := Nat.le_trans h (by rw [sizeLine_eq]; decide)
/-- a list: kept, or in a cell -/
def lstOf (d : D) (h : AH) : Option (List D) := match d with
  | .lst xs => some xs
  | .cell n => (match h.get n with
    | some (.lst xs) => some xs
    | _ => none)
  | _ => none
theorem lstOf_ok {C : Cf} {s : Sx} {d : D} {v : V} {xs : List D} (g : Good C s) (r : R C s.F s.ρ d v) (h : lstOf d s.ah = some xs) : ∃ a ys, v = .ref a ∧ s.H a = some (.lst ys) ∧ Rs C s.F s.ρ xs ys := by
  cases d with
  | lst xs' =>
    unfold lstOf at h
    cases h
    unfold R at r
    obtain ⟨a, ys, e, q, z⟩ := r
    exact ⟨a, ys, e, g.sub _ _ q, z⟩
  | cell n =>
    unfold lstOf at h
    unfold R at r
    obtain ⟨a, e, q⟩ := r
    dsimp only at h
    split at h
    · rename_i xs' e'
      cases h
      obtain ⟨a', q1, q2, ys, z1, z2⟩ := g.own n _ e'
      rw [q] at q1; cases q1
      exact ⟨a, ys, e, z1, z2⟩
    · cases h
  | _ => unfold lstOf at h; cases h
theorem frz_lst {C : Cf} {s : Sx} (g : Good C s) {p : Addr} (hp : s.H p = none) {xs : List D} {ys : List V} (r : Rs C s.F s.ρ xs ys) : R C (s.frz p (.lst ys)).F (s.frz p (.lst ys)).ρ (.lst xs) (.ref p) := by
  unfold R
  exact ⟨p, ys, rfl, upd_same, r.fwd (Fwd.frz g hp)⟩
theorem frz_tup {C : Cf} {s : Sx} (g : Good C s) {p : Addr} {o : Obj} (hp : s.H p = none) (ho : o.dict = none) {xs : List D} {ys : List V} (r : Rs C s.F s.ρ xs ys) : R C (s.frz p (.frz o (.tup ys))).F (s.frz p (.frz o (.tup ys))).ρ (.tup xs) (.ref p) := by
  unfold R
  exact ⟨p, ys, rfl, ⟨o, upd_same, ho⟩, r.fwd (Fwd.frz g hp)⟩
theorem frz_rtp {C : Cf} {s : Sx} (g : Good C s) {p : Addr} (hp : s.H p = none) {xs : List D} {ys : List V} (r : Rs C s.F s.ρ xs ys) : R C (s.frz p (.tup ys)).F (s.frz p (.tup ys)).ρ (.rtp xs) (.ref p) := by
  unfold R
  exact ⟨p, ys, rfl, upd_same, r.fwd (Fwd.frz g hp)⟩
/-- the value is a new list | tuple -/
theorem Post.lst {C : Cf} {W : WX} {σ : L2.St} {s : Sx} {Q : VK} (g : Good C s) {xs : List D} {ys : List V} (h : Post C W σ (rD C) s Q (.ok (.lst xs) s.ah)) (r : Rs C s.F s.ρ xs ys) : ∀ p, s.H p = none → Q (.ref p) (upd s.H p (.lst ys)) := fun p hp =>
  h (s.frz p (.lst ys)) (.ref p) rfl (Fwd.frz g hp) (g.frz hp) (frz_lst g hp r)
theorem Post.tup {C : Cf} {W : WX} {σ : L2.St} {s : Sx} {Q : VK} (g : Good C s) {xs : List D} {ys : List V} (h : Post C W σ (rD C) s Q (.ok (.tup xs) s.ah)) (r : Rs C s.F s.ρ xs ys) : newT s.H ys Q := fun p o hp ho =>
  h (s.frz p (.frz o (.tup ys))) (.ref p) rfl (Fwd.frz g hp) (g.frz hp) (frz_tup g hp ho r)
theorem Post.rtp {C : Cf} {W : WX} {σ : L2.St} {s : Sx} {Q : VK} (g : Good C s) {xs : List D} {ys : List V} (h : Post C W σ (rD C) s Q (.ok (.rtp xs) s.ah)) (r : Rs C s.F s.ρ xs ys) : ∀ p, s.H p = none → Q (.ref p) (upd s.H p (.tup ys)) := fun p hp =>
  h (s.frz p (.tup ys)) (.ref p) rfl (Fwd.frz g hp) (g.frz hp) (frz_rtp g hp r)
theorem Post.int {C : Cf} {W : WX} {σ : L2.St} {s : Sx} {Q : VK} (g : Good C s) {i : Int} (h : Post C W σ (rD C) s Q (.ok (.int i) s.ah)) : Q (.int i) s.H := Post.here g h (by unfold R; rfl)
theorem Post.bl {C : Cf} {W : WX} {σ : L2.St} {s : Sx} {Q : VK} (g : Good C s) {i : Bool} (h : Post C W σ (rD C) s Q (.ok (.bl i) s.ah)) : Q (.bl i) s.H := Post.here g h (by unfold R; rfl)
theorem Post.str {C : Cf} {W : WX} {σ : L2.St} {s : Sx} {Q : VK} (g : Good C s) {i : Str} (h : Post C W σ (rD C) s Q (.ok (.str i) s.ah)) : Q (.str i) s.H := Post.here g h (by unfold R; rfl)
theorem Post.non {C : Cf} {W : WX} {σ : L2.St} {s : Sx} {Q : VK} (g : Good C s) (h : Post C W σ (rD C) s Q (.ok .non s.ah)) : Q .non s.H := Post.here g h (by unfold R; rfl)
theorem R.int_eq {C : Cf} {F : Hp} {ρ : Rho} {i : Int} {v : V} (r : R C F ρ (.int i) v) : v = .int i := by unfold R at r; exact r
theorem R.str_eq {C : Cf} {F : Hp} {ρ : Rho} {i : Str} {v : V} (r : R C F ρ (.str i) v) : v = .str i := by unfold R at r; exact r
theorem R.bl_eq {C : Cf} {F : Hp} {ρ : Rho} {i : Bool} {v : V} (r : R C F ρ (.bl i) v) : v = .bl i := by unfold R at r; exact r
theorem R.non_eq {C : Cf} {F : Hp} {ρ : Rho} {v : V} (r : R C F ρ .non v) : v = .non := by unfold R at r; exact r
theorem Rs.nil_iff {C : Cf} {F : Hp} {ρ : Rho} {xs : List D} {ys : List V} (r : Rs C F ρ xs ys) : ys = [] ↔ xs = [] := by
  have := r.length
  constructor
  · intro h; subst h; exact List.eq_nil_of_length_eq_zero (by simpa using this)
  · intro h; subst h; exact List.eq_nil_of_length_eq_zero (by simpa using this.symm)
def gAdd (x y : D) (h : AH) : Out D := match x, y with
  | .int i, .int j => .ok (.int (i + j)) h
  | .str i, .str j => if i.length + j.length ≤ lim then .ok (.str (i ++ j)) h else .bad
  | .tup a, .tup b => if a.length + b.length ≤ lim then .ok (.tup (a ++ b)) h else .bad
  | x, y => (match lstOf x h, lstOf y h with
    | some a, some b => if a.length + b.length ≤ lim then .ok (.lst (a ++ b)) h else .bad
    | _, _ => .bad)
def rAddA (K : PySem.W.Frag) : R2 := fun x y H Q => (rI0 (fun i j => .int (i + j)) x y H Q) ∨ ((∃ i j, x = .str i ∧ y = .str j ∧ i.length + j.length ≤ sizeLine ∧ Q (.str (i ++ j)) H) ∨ (rCatP K x y H Q ∨ rCat x y H Q))
theorem or_add {X : Cx} : OpR X (binaryOp .Add) (rAddA X.K) := op_add.or (op_add_str.or (op_catP.or op_cat))
theorem lst_add {C : Cf} {W : WX} {σ : L2.St} {s : Sx} {x y : D} {v u : V} {Q : VK} (g : Good C s) (rx : R C s.F s.ρ x v) (ry : R C s.F s.ρ y u)
    (h : Post C W σ (rD C) s Q (match lstOf x s.ah, lstOf y s.ah with
    | some a, some b => if a.length + b.length ≤ lim then .ok (.lst (a ++ b)) s.ah else .bad
    | _, _ => .bad)) : rCat v u s.H Q := by
  cases ex : lstOf x s.ah with
  | none => rw [ex] at h; exact h.elim
  | some a =>
    cases ey : lstOf y s.ah with
    | none => rw [ex, ey] at h; exact h.elim
    | some b =>
      rw [ex, ey] at h
      dsimp only at h
      split at h
      · rename_i hl
        obtain ⟨p, ys, rfl, hp, r1⟩ := lstOf_ok g rx ex
        obtain ⟨q, zs, rfl, hq, r2⟩ := lstOf_ok g ry ey
        exact ⟨p, q, ys, zs, rfl, rfl, hp, hq, lim_le (by rw [← r1.length, ← r2.length]; exact hl), Post.lst g h (Rs.app r1 r2)⟩
      · exact h.elim
theorem os_add {C : Cf} {K : PySem.W.Frag} : OpS C (rAddA K) gAdd := by
  intro W σ s x y v u Q g rx ry h
  unfold gAdd at h
  split at h
  · rw [rx.int_eq, ry.int_eq]
    exact .inl ⟨_, _, rfl, rfl, Post.int g h⟩
  · rw [rx.str_eq, ry.str_eq]
    split at h
    · rename_i hl
      exact .inr (.inl ⟨_, _, rfl, rfl, lim_le hl, Post.str g h⟩)
    · exact h.elim
  · split at h
    · rename_i a b hl
      have rx' := rx
      have ry' := ry
      unfold R at rx' ry'
      obtain ⟨p, ys, rfl, hp, r1⟩ := rx'
      obtain ⟨q, zs, rfl, hq, r2⟩ := ry'
      refine .inr (.inr (.inl ⟨p, q, ys, zs, ⟨rfl, rfl⟩, ⟨(hp.sub g.sub).sq, (hq.sub g.sub).sq⟩, lim_le (by rw [← r1.length, ← r2.length]; exact hl), fun e => ?_, fun _ e => ?_, fun _ _ => Post.tup g h (Rs.app r1 r2)⟩))
      · have := r1.nil_iff.mp e
        subst this
        exact Post.here g h ry
      · have := r2.nil_iff.mp e
        subst this
        rw [List.append_nil] at h
        exact Post.here g h rx
    · exact h.elim
  · exact .inr (.inr (.inr (lst_add g rx ry h)))
/-- two ints -/
def gInt (ok : Int → Int → Bool) (f : Int → Int → Int) (x y : D) (h : AH) : Out D := match x, y with
  | .int i, .int j => if ok i j = true then .ok (.int (f i j)) h else .bad
  | _, _ => .bad
theorem os_int {C : Cf} {P : Int → Int → Prop} {ok : Int → Int → Bool} {f : Int → Int → Int} (hp : ∀ i j, ok i j = true → P i j) : OpS C (rI P fun i j => .int (f i j)) (gInt ok f) := by
  intro W σ s x y v u Q g rx ry h
  unfold gInt at h
  split at h
  · split at h
    · rename_i hk
      rw [rx.int_eq, ry.int_eq]
      exact ⟨_, _, rfl, rfl, hp _ _ hk, Post.int g h⟩
    · exact h.elim
  · exact h.elim
def gInt0 (f : Int → Int → Int) (x y : D) (h : AH) : Out D := match x, y with
  | .int i, .int j => .ok (.int (f i j)) h
  | _, _ => .bad
def gSub := gInt0 fun i j => i - j
def small64 (i : Int) : Bool := decide (-(2 ^ 64) < i) && decide (i < 2 ^ 64)
def gMul := gInt (fun i j => small64 i || small64 j) fun i j => i * j
def gDiv := gInt (fun _ j => decide (0 < j) && decide (j < 1073741824)) fun i j => i / j
def gMod := gInt (fun _ j => decide (0 < j)) fun i j => i % j
def gPow := gInt (fun i j => decide (0 ≤ j) && decide (j ≤ 1000000) && decide (i.natAbs < 2 ^ 64)) fun i j => i ^ j.toNat
theorem os_mul {C : Cf} : OpS C (rI CMul fun i j => .int (i * j)) gMul := os_int fun i j h => by
  simp only [small64, Bool.or_eq_true, Bool.and_eq_true, decide_eq_true_eq] at h
  exact h
theorem os_div {C : Cf} : OpS C (rI CDiv fun i j => .int (i / j)) gDiv := os_int fun i j h => by
  simp only [Bool.and_eq_true, decide_eq_true_eq] at h
  exact h
theorem os_mod {C : Cf} : OpS C (rI (fun _ j => 0 < j) fun i j => .int (i % j)) gMod := os_int fun i j h => by
  simp only [decide_eq_true_eq] at h
  exact h
theorem os_pow {C : Cf} : OpS C (rI CPow fun i j => .int (i ^ j.toNat)) gPow := os_int fun i j h => by
  simp only [Bool.and_eq_true, decide_eq_true_eq] at h
  exact ⟨h.1.1, h.1.2, h.2⟩
def gNeg (x : D) (h : AH) : Out D := match x with
  | .int i => .ok (.int (-i)) h
  | _ => .bad
theorem us_neg {C : Cf} : UnS C (rU fun i => .int (-i)) gNeg := by
  intro W σ s x v Q g rx h
  unfold gNeg at h
  split at h
  · rw [rx.int_eq]
    exact ⟨_, rfl, Post.int g h⟩
  · exact h.elim
def ltS (i j : Str) : Bool := decide (i.cps.toList < j.cps.toList)
def gCmp (p : Int → Int → Bool) (q : Str → Str → Bool) (x y : D) (h : AH) : Out D := match x, y with
  | .int i, .int j => .ok (.bl (p i j)) h
  | .str i, .str j => .ok (.bl (q i j)) h
  | _, _ => .bad
def rCmp (p : Int → Int → Bool) (q : Str → Str → Bool) : R2 := fun x y H Q => rI0 (fun i j => .bl (p i j)) x y H Q ∨ ∃ i j, x = .str i ∧ y = .str j ∧ Q (.bl (q i j)) H
theorem os_cmp {C : Cf} {p : Int → Int → Bool} {q : Str → Str → Bool} : OpS C (rCmp p q) (gCmp p q) := by
  intro W σ s x y v u Q g rx ry h
  unfold gCmp at h
  split at h
  · rw [rx.int_eq, ry.int_eq]
    exact .inl ⟨_, _, rfl, rfl, Post.bl g h⟩
  · rw [rx.str_eq, ry.str_eq]
    exact .inr ⟨_, _, rfl, rfl, Post.bl g h⟩
  · exact h.elim
def gLt := gCmp (fun i j => decide (i < j)) ltS
def gLe := gCmp (fun i j => decide (i ≤ j)) fun i j => !ltS j i
def gGt := gCmp (fun i j => decide (j < i)) fun i j => ltS j i
def gGe := gCmp (fun i j => decide (j ≤ i)) fun i j => !ltS i j
theorem or_lt {X : Cx} : OpR X (compareOp .Lt) (rCmp (fun i j => decide (i < j)) ltS) := op_lt.or op_lt_str
theorem or_le {X : Cx} : OpR X (compareOp .LtE) (rCmp (fun i j => decide (i ≤ j)) fun i j => !ltS j i) := op_le.or op_le_str
theorem or_ge {X : Cx} : OpR X (compareOp .GtE) (rCmp (fun i j => decide (j ≤ i)) fun i j => !ltS i j) := op_ge.or op_ge_str
theorem os_lt {C : Cf} : OpS C (rCmp (fun i j => decide (i < j)) ltS) gLt := os_cmp
theorem os_le {C : Cf} : OpS C (rCmp (fun i j => decide (i ≤ j)) fun i j => !ltS j i) gLe := os_cmp
theorem os_ge {C : Cf} : OpS C (rCmp (fun i j => decide (j ≤ i)) fun i j => !ltS i j) gGe := os_cmp
/-- is None; is True, is False -/
def gIs (x y : D) (h : AH) : Out D := match y with
  | .non => (match x with
    | .non => .ok (.bl true) h
    | .exn _ _ => .bad
    | _ => .ok (.bl false) h)
  | .bl b => (match x with
    | .bl a => .ok (.bl (decide (a = b))) h
    | _ => .bad)
  | _ => .bad
def gNot (g : D → D → AH → Out D) (x y : D) (h : AH) : Out D := match g x y h with
  | .ok (.bl b) h' => .ok (.bl (!b)) h'
  | _ => .bad
def rIs (n : Bool → Bool) : R2 := fun x y H Q => (y = .non ∧ Q (.bl (n (decide (x = .non)))) H) ∨ ∃ a b : Bool, x = .bl a ∧ y = .bl b ∧ Q (.bl (n (decide (a = b)))) H
theorem or_is {X : Cx} : OpR X (compareOp .Is) (rIs id) := op_isN.or op_isBl
theorem or_isnot {X : Cx} : OpR X (compareOp .IsNot) (rIs not) := op_notN.or op_notBl
def isNonD : D → Bool
  | .non => true
  | _ => false
theorem R.nonB {C : Cf} {F : Hp} {ρ : Rho} {d : D} {v : V} (r : R C F ρ d v) : decide (v = .non) = isNonD d := by
  cases d with
  | non => rw [r.non_eq]; rfl
  | bl b => rw [r.bl_eq]; rfl
  | int b => rw [r.int_eq]; rfl
  | str b => rw [r.str_eq]; rfl
  | ty n => unfold R at r; rw [r]; rfl
  | glo n => unfold R at r; rw [r]; rfl
  | tup xs => unfold R at r; obtain ⟨a, ys, rfl, _⟩ := r; rfl
  | rtp xs => unfold R at r; obtain ⟨a, ys, rfl, _⟩ := r; rfl
  | lst xs => unfold R at r; obtain ⟨a, ys, rfl, _⟩ := r; rfl
  | dct xs => unfold R at r; obtain ⟨a, o, ys, rfl, _⟩ := r; rfl
  | dcT xs => unfold R at r; obtain ⟨a, o, ys, rfl, _⟩ := r; rfl
  | ins c xs => unfold R at r; obtain ⟨a, o, ys, rfl, _⟩ := r; rfl
  | set xs => unfold R at r; obtain ⟨a, ys, rfl, _⟩ := r; rfl
  | scr xs => unfold R at r; obtain ⟨a, rfl, _⟩ := r; rfl
  | cell n => unfold R at r; obtain ⟨a, rfl, _⟩ := r; rfl
  | exn c xs => unfold R at r; obtain ⟨a, ys, rfl, _⟩ := r; rfl
  | lam xs => unfold R at r; obtain ⟨a, _, rfl, _⟩ := r; rfl
  | seT xs => unfold R at r; obtain ⟨a, ys, rfl, _⟩ := r; rfl
  | exv c y x => unfold R at r; obtain ⟨a, rfl, _⟩ := r; rfl
  | odc k x => unfold R at r; obtain ⟨a, o, rfl, _⟩ := r; rfl
theorem gIs_ok {C : Cf} {W : WX} {σ : L2.St} {s : Sx} {x y : D} {v u : V} {Q : VK} {n : Bool → Bool} (g : Good C s) (rx : R C s.F s.ρ x v) (ry : R C s.F s.ρ y u) (h : ∀ b, gIs x y s.ah = .ok (.bl b) s.ah → Q (.bl (n b)) s.H) (hb : ∃ b, gIs x y s.ah = .ok (.bl b) s.ah) : rIs n v u s.H Q := by
  obtain ⟨b, e⟩ := hb
  have q := h b e
  unfold gIs at e
  split at e
  · refine .inl ⟨ry.non_eq, ?_⟩
    rw [rx.nonB]
    split at e
    · cases e; exact q
    · cases e
    · cases e
      cases x <;> first | exact q | (rename_i h1 h2; exact absurd rfl h1)
  · split at e
    · cases e
      rw [rx.bl_eq, ry.bl_eq]
      exact .inr ⟨_, _, rfl, rfl, q⟩
    · cases e
  · cases e
theorem gIs_shape (x y : D) (h : AH) : gIs x y h = .bad ∨ ∃ b, gIs x y h = .ok (.bl b) h := by
  unfold gIs
  split
  · split
    · exact .inr ⟨_, rfl⟩
    · exact .inl rfl
    · exact .inr ⟨_, rfl⟩
  · split
    · exact .inr ⟨_, rfl⟩
    · exact .inl rfl
  · exact .inl rfl
theorem os_is {C : Cf} : OpS C (rIs id) gIs := by
  intro W σ s x y v u Q g rx ry h
  rcases gIs_shape x y s.ah with e | ⟨b, e⟩
  · rw [e] at h; exact h.elim
  · rw [e] at h
    exact gIs_ok (W := W) (σ := σ) g rx ry (fun b' e' => by rw [e] at e'; cases e'; exact Post.bl g h) ⟨b, e⟩
theorem os_isnot {C : Cf} : OpS C (rIs not) (gNot gIs) := by
  intro W σ s x y v u Q g rx ry h
  unfold gNot at h
  rcases gIs_shape x y s.ah with e | ⟨b, e⟩
  · rw [e] at h; exact h.elim
  · rw [e] at h
    exact gIs_ok (W := W) (σ := σ) g rx ry (fun b' e' => by rw [e] at e'; cases e'; exact Post.bl g h) ⟨b, e⟩
mutual
def toPy : D → Option PyData
  | .non => some .none
  | .bl b => some (.bool b)
  | .int i => some (.int i)
  | .str x => some (.str x)
  | .tup xs => (toPys xs).map .tuple
  | .rtp xs => (toPys xs).map .tuple
  | .lst xs => (toPys xs).map .list
  | _ => none
def toPys : List D → Option (List PyData)
  | [] => some []
  | d :: ds => (match toPy d, toPys ds with
    | some a, some b => some (a :: b)
    | _, _ => none)
end
mutual
theorem toPy_ok {C : Cf} {K : PySem.W.Frag} {F H : Hp} {ρ : Rho} (sb : Sub F H) : ∀ {d : D} {v : V} {p : PyData}, R C F ρ d v → toPy d = some p → Dp K H v p
  | .non, v, p, r, e => by rw [r.non_eq]; unfold toPy at e; cases e; exact .non
  | .bl b, v, p, r, e => by rw [r.bl_eq]; unfold toPy at e; cases e; exact .bl b
  | .int b, v, p, r, e => by rw [r.int_eq]; unfold toPy at e; cases e; exact .int b
  | .str b, v, p, r, e => by rw [r.str_eq]; unfold toPy at e; cases e; exact .str b
  | .tup xs, v, p, r, e => by
    unfold toPy at e
    cases q : toPys xs with
    | none => rw [q] at e; cases e
    | some ps =>
      rw [q] at e; cases e
      unfold R at r
      obtain ⟨a, ys, rfl, fa, rr⟩ := r
      exact .tup ((fa.sub sb).sq) (toPys_ok sb rr q)
  | .rtp xs, v, p, r, e => by
    unfold toPy at e
    cases q : toPys xs with
    | none => rw [q] at e; cases e
    | some ps =>
      rw [q] at e; cases e
      unfold R at r
      obtain ⟨a, ys, rfl, fa, rr⟩ := r
      exact .tup (SqT.of (sb _ _ fa)) (toPys_ok sb rr q)
  | .lst xs, v, p, r, e => by
    unfold toPy at e
    cases q : toPys xs with
    | none => rw [q] at e; cases e
    | some ps =>
      rw [q] at e; cases e
      unfold R at r
      obtain ⟨a, ys, rfl, fa, rr⟩ := r
      exact .lst (SqL.of (sb _ _ fa)) (toPys_ok sb rr q)
  | .ty _, _, _, _, e | .glo _, _, _, _, e | .dct _, _, _, _, e | .dcT _, _, _, _, e | .ins _ _, _, _, _, e | .set _, _, _, _, e | .scr _, _, _, _, e | .cell _, _, _, _, e | .exn _ _, _, _, _, e | .lam _, _, _, _, e | .seT _, _, _, _, e | .exv _ _ _, _, _, _, e | .odc _ _, _, _, _, e => by unfold toPy at e; cases e
theorem toPys_ok {C : Cf} {K : PySem.W.Frag} {F H : Hp} {ρ : Rho} (sb : Sub F H) : ∀ {d : List D} {v : List V} {p : List PyData}, Rs C F ρ d v → toPys d = some p → DpAll K H v p
  | [], v, p, r, e => by unfold Rs at r; subst r; unfold toPys at e; cases e; exact .nil
  | d :: ds, v, p, r, e => by
    unfold Rs at r
    obtain ⟨v1, vr, rfl, r1, r2⟩ := r
    unfold toPys at e
    cases q1 : toPy d with
    | none => rw [q1] at e; cases e
    | some a =>
      cases q2 : toPys ds with
      | none => rw [q1, q2] at e; cases e
      | some b =>
        rw [q1, q2] at e; cases e
        exact .cons (toPy_ok sb r1 q1) (toPys_ok sb r2 q2)
end
/-- a list in a cell is read as it stands -/
def seen (d : D) (h : AH) : D := match d with
  | .cell n => (match h.get n with
    | some (.lst xs) => .lst xs
    | _ => d)
  | _ => d
theorem seen_ok {C : Cf} {K : PySem.W.Frag} {s : Sx} {d : D} {v : V} {p : PyData} (g : Good C s) (r : R C s.F s.ρ d v) (e : toPy (seen d s.ah) = some p) : Dp K s.H v p := by
  cases d with
  | cell n =>
    unfold seen at e
    dsimp only at e
    split at e
    · rename_i xs en
      unfold R at r
      obtain ⟨a, rfl, ea⟩ := r
      obtain ⟨a', q1, q2, ys, z1, z2⟩ := g.own n _ en
      rw [ea] at q1; cases q1
      unfold toPy at e
      cases q : toPys xs with
      | none => rw [q] at e; cases e
      | some ps =>
        rw [q] at e; cases e
        exact .lst (SqL.of z1) (toPys_ok g.sub z2 q)
    · unfold toPy at e; cases e
  | _ => exact toPy_ok g.sub r e
def gEqD (x y : D) (h : AH) : Out D := match toPy (seen x h), toPy (seen y h) with
  | some a, some b => if (SeqAt.shaped a && SeqAt.shaped b) = true then .ok (.bl (PyData.eqv a b)) h else .bad
  | _, _ => .bad
theorem os_eq {C : Cf} {K : PySem.W.Frag} : OpS C (rEqD K) gEqD := by
  intro W σ s x y v u Q g rx ry h
  unfold gEqD at h
  split at h
  · rename_i a b ea eb
    split at h
    · rename_i hs
      have hs := Bool.and_eq_true_iff.mp hs
      exact ⟨a, b, seen_ok g rx ea, seen_ok g ry eb, hs.1, hs.2, Post.bl g h⟩
    · exact h.elim
  · exact h.elim
theorem os_ne {C : Cf} {K : PySem.W.Frag} : OpS C (rNeD K) (gNot gEqD) := by
  intro W σ s x y v u Q g rx ry h
  unfold gNot gEqD at h
  split at h
  · rename_i z h' e
    split at e
    · rename_i a b ea eb
      split at e
      · rename_i hs
        have hs := Bool.and_eq_true_iff.mp hs
        cases e
        exact ⟨a, b, seen_ok g rx ea, seen_ok g ry eb, hs.1, hs.2, Post.bl g h⟩
      · cases e
    · cases e
  · exact h.elim
/-- x in a text, of one sign -/
def gIn (x y : D) (h : AH) : Out D := match x, y with
  | .str i, .str z => (match i.cps.toList with
    | [c] => .ok (.bl (decide (c ∈ z.cps.toList))) h
    | _ => .bad)
  | _, _ => .bad
def rInS (n : Bool → Bool) : R2 := fun x y H Q => ∃ (c : Nat) (z : Str), x = .str ⟨#[c]⟩ ∧ y = .str z ∧ Q (.bl (n (decide (c ∈ z.cps.toList)))) H
theorem or_in {X : Cx} : OpR X (compareOp .In) (rInS id) := op_in_sign
end Ws
set_option Elab.async false
set_option linter.all false
set_option maxRecDepth 100000
set_option autoImplicit false
namespace Ws
open PySem PySem.Spec L2
def tyOf (d : D) (h : AH) : Option Ty := match d with
  | .non => some (.b "NoneType")
  | .bl _ => some (.b "bool")
  | .int _ => some (.b "int")
  | .str _ => some (.b "str")
  | .tup _ => some (.b "tuple")
  | .lst _ => some (.b "list")
  | .dct _ => some (.b "dict")
  | .ins c _ => some (.c c)
  | .cell n => (match h.get n with
    | some (.lst _) => some (.b "list")
    | some (.dct _) => some (.b "dict")
    | some (.ins c _) => some (.c c)
    | _ => none)
  | _ => none
/-- what is asked of an own class so that its instances have their kind -/
structure InsT (K : PySem.W.Frag) (c : Str) : Prop where
  cl : Cls K (He.ga K c)
  ha : PySem.W.findIn K (.ref (He.ga K c)) "__class__" = some (some (.builtin "object.__class__"))
  hn : PySem.W.specialIn K (.builtin "object.__class__") "__get__" = some (some (.builtin "getset_descriptor.__get__"))
  ht : PySem.W.takesIn K (.builtin "object.__class__") = some true
  hm : PySem.W.mroIn K (He.ga K c) (.type "object") = some true
def TysOk (K : PySem.W.Frag) (tys : List Ty) : Prop := ∀ c, Ty.c c ∈ tys → InsT K c
theorem tyOf_ok {C : Cf} {s : Sx} {d : D} {v : V} {t : Ty} {tys : List Ty} (g : Good C s) (r : R C s.F s.ρ d v) (e : tyOf d s.ah = some t) (hk : TysOk C.K tys) (hm : t ∈ tys) : TyX C.K s.H v (t.v C.K) := by
  cases d with
  | non => rw [r.non_eq]; cases e; exact .base .non
  | bl b => rw [r.bl_eq]; cases e; exact .base (.bl b)
  | int b => rw [r.int_eq]; cases e; exact .base (.int b)
  | str b => rw [r.str_eq]; cases e; exact .base (.str b)
  | tup xs => unfold R at r; obtain ⟨a, ys, rfl, f, _⟩ := r; cases e; obtain ⟨o, f, _⟩ := f; exact .fTuple (g.sub _ _ f)
  | lst xs => unfold R at r; obtain ⟨a, ys, rfl, f, _⟩ := r; cases e; exact .base (.lst (g.sub _ _ f))
  | dct xs => unfold R at r; obtain ⟨a, o, ys, rfl, f, _⟩ := r; cases e; exact .fDict (g.sub _ _ f)
  | ins c xs =>
    unfold R at r; obtain ⟨a, o, ys, rfl, f, _⟩ := r; cases e
    have k := hk c hm
    exact .base (.ins (g.sub _ _ f) k.cl k.ha k.hn k.ht k.hm)
  | cell n =>
    unfold R at r; obtain ⟨a, rfl, f⟩ := r
    unfold tyOf at e
    dsimp only at e
    split at e
    · rename_i en
      obtain ⟨a', q1, q2, ys, z1, z2⟩ := g.own n _ en
      rw [f] at q1; cases q1; cases e
      exact .base (.lst z1)
    · rename_i en
      obtain ⟨a', q1, q2, ys, z1, z2⟩ := g.own n _ en
      rw [f] at q1; cases q1; cases e
      exact .base (.dK z1)
    · rename_i c fs en
      obtain ⟨a', q1, q2, dx, ys, z1, z2⟩ := g.own n _ en
      rw [f] at q1; cases q1; cases e
      have k := hk c hm
      exact .base (.ins z1 k.cl k.ha k.hn k.ht k.hm)
    · cases e
  | _ => cases e
/-- a class named in isinstance -/
def clsTy : D → Option Ty
  | .ty n => some (.b n)
  | .glo x => some (.c x)
  | _ => none
def clsTys : List D → Option (List Ty)
  | [] => some []
  | d :: ds => (match clsTy d, clsTys ds with
    | some a, some b => some (a :: b)
    | _, _ => none)
/-- the kinds and how they stand to one another: kit t c: is t under c -/
structure KitOk (K : PySem.W.Frag) (kt : Kit) : Prop where
  tys : TysOk K kt.tys
  one : ∀ t ∈ kt.tys, ∀ c ∈ kt.cls, PySem.W.kitOne K (t.v K) (c.v K) = some (kt.sub t c)
def gIsi (kt : Kit) (ds : List D) (h : AH) : Out D := match ds with
  | [x, .rtp cs] => (match tyOf x h, clsTys cs with
    | some t, some us => if t ∈ kt.tys ∧ (∀ c ∈ us, c ∈ kt.cls) then .ok (.bl (us.any fun c => kt.sub t c)) h else .bad
    | _, _ => .bad)
  | [x, c] => (match tyOf x h, clsTy c with
    | some t, some u => if t ∈ kt.tys ∧ u ∈ kt.cls then .ok (.bl (kt.sub t u)) h else .bad
    | _, _ => .bad)
  | _ => .bad
theorem clsTy_ok {C : Cf} {F : Hp} {ρ : Rho} {d : D} {v : V} {u : Ty} (r : R C F ρ d v) (e : clsTy d = some u) : ClsV v (u.v C.K) := by
  cases d with
  | ty n => unfold R at r; subst r; cases e; exact .ty n
  | glo x => unfold R at r; subst r; cases e; exact .own _
  | _ => cases e
theorem clsTys_ok {C : Cf} {F : Hp} {ρ : Rho} : ∀ {d : List D} {v : List V} {u : List Ty}, Rs C F ρ d v → clsTys d = some u → Paired ClsV v (u.map (Ty.v C.K))
  | [], v, u, r, e => by unfold Rs at r; subst r; unfold clsTys at e; cases e; exact .nil
  | d :: ds, v, u, r, e => by
    unfold Rs at r
    obtain ⟨v1, vr, rfl, r1, r2⟩ := r
    unfold clsTys at e
    cases q1 : clsTy d with
    | none => rw [q1] at e; cases e
    | some a =>
      cases q2 : clsTys ds with
      | none => rw [q1, q2] at e; cases e
      | some b =>
        rw [q1, q2] at e; cases e
        exact .cons (clsTy_ok r1 q1) (clsTys_ok r2 q2)
theorem kitAny_ok {K : PySem.W.Frag} {kt : Kit} (hk : KitOk K kt) {t : Ty} (ht : t ∈ kt.tys) : ∀ {us : List Ty}, (∀ c ∈ us, c ∈ kt.cls) → PySem.W.kitAny K (t.v K) (us.map (Ty.v K)) = some (us.any fun c => kt.sub t c)
  | [], _ => kitAny_nil
  | c :: us, h => by
    have q := hk.one t ht c (h c (List.mem_cons_self ..))
    refine kitAny_cons q (fun e => ?_) fun e => ?_
    · rw [List.any_cons, e, Bool.false_or]
      exact kitAny_ok hk ht fun x hx => h x (List.mem_cons_of_mem _ hx)
    · rw [List.any_cons, e, Bool.true_or]
def rIsiA (K : PySem.W.Frag) : List V → Hp → VK → Prop := fun xs H Q => rIsi K xs H Q ∨ rIsiT K xs H Q
theorem cr_isi {X : Cx} : CallR X (.builtin "isinstance") (rIsiA X.K) := call_isi.or call_isiT
theorem cs_isi {C : Cf} {kt : Kit} (hk : KitOk C.K kt) : CallS C (rIsiA C.K) (gIsi kt) := by
  intro W σ s x v Q g rx h
  unfold gIsi at h
  split at h
  · rename_i x cs
    unfold Rs at rx
    obtain ⟨v1, r1, rfl, rx1, rx2⟩ := rx
    unfold Rs at rx2
    obtain ⟨v2, r2, rfl, rx3, rx4⟩ := rx2
    unfold Rs at rx4
    subst rx4
    split at h
    · rename_i t us et eu
      split at h
      · rename_i hc
        unfold R at rx3
        obtain ⟨a, ys, rfl, fa, rr⟩ := rx3
        exact .inr ⟨v1, a, ys, t.v C.K, us.map (Ty.v C.K), _, rfl, g.sub _ _ fa, clsTys_ok rr eu, tyOf_ok g rx1 et hk.tys hc.1, kitAny_ok hk hc.1 hc.2, Post.bl g h⟩
      · exact h.elim
    · exact h.elim
  · rename_i x c _
    unfold Rs at rx
    obtain ⟨v1, r1, rfl, rx1, rx2⟩ := rx
    unfold Rs at rx2
    obtain ⟨v2, r2, rfl, rx3, rx4⟩ := rx2
    unfold Rs at rx4
    subst rx4
    split at h
    · rename_i t u et eu
      split at h
      · rename_i hc
        exact .inl ⟨v1, v2, t.v C.K, u.v C.K, _, rfl, clsTy_ok rx3 eu, tyOf_ok g rx1 et hk.tys hc.1, hk.one t hc.1 u hc.2, Post.bl g h⟩
      · exact h.elim
    · exact h.elim
  · exact h.elim
/-- nothing is raised -/
def noX (o : Out D) : Out D := match o with
  | .ok d h => .ok d h
  | _ => .bad
/-- x == y, x an instance of the class c; its __eq__ reckons g -/
def gOwn (c : Str) (kt : Kit) (g : List D → AH → Out D) (x y : D) (h : AH) : Out D := match insOf x h, tyOf y h with
  | some (c', _), some t => if c' = c ∧ t ∈ kt.tys then (match noX (callP g [x, y] h) with
    | .ok (.bl b) h' => .ok (.bl b) h'
    | _ => .bad) else .bad
  | _, _ => .bad
def rOwn (K : PySem.W.Frag) (cA : Addr) (sp : Sp) : R2 := fun x y H Q => ∃ a dx fs t, x = .ref a ∧ H a = some (.ins cA dx fs) ∧ TyX K H y t ∧ PySem.W.notFirst K cA t = true ∧ sp [x, y] H (fun v H' => ∃ b, v = .bl b ∧ Q v H') (fun _ _ _ => False)
theorem or_own {X : Cx} {k : Nat} {f cA : Addr} {fd : FuncData} {ps : List Str} {sp : Sp} (F : FnOk X.prog X.w X.K X.mg X.base (L2.CX X.prog X.w) k f fd ps sp) (hr : Room k X.A) (hb : L2.Binds X.K fd ps []) (hs : PySem.W.findIn X.K (.ref cA) "__eq__" = some (some (.ref f))) (hf : PySem.W.isFn X.K (.ref f) = true) :
    OpR X (compareOp .Eq) (rOwn X.K cA sp) := by
  intro pins s σ H x y v u Q I rx ry h
  obtain ⟨a, dx, fs, t, rfl, ha, ty, nf, hsp⟩ := h
  obtain rfl : v = Value.ref a := rx
  obtain ⟨mA, J, _⟩ := ins_get I.hok ha
  obtain ⟨od, J, _⟩ := J.look
  obtain ⟨P, Z, p, hx⟩ := kit_of I ry ty
  obtain ⟨m, hF⟩ := I.fr
  show wpAny (model X.prog X.w) X.A (richCompare .Eq (.ref a) u) (EP X pins σ Q) X.xe s
  refine PySem.W.cmp_K (op := .Eq) (tb := t) hr.units0 hF I.ok.mod.kin J (Z.ty _ _ I.kIn p) nf hs hf ?_
  refine wpAny_mono (run_fn (us := [.ref a, u]) (vs := [.ref a, y]) (dvs := []) (ds := []) F hr hb .nil passL I (.cons rfl (.cons ry .nil)) hsp) (fun w s' hq => ?_) fun _ _ z => z
  obtain ⟨z, H', I', rz, b, rfl, q⟩ := hq
  obtain rfl : w = Value.bool b := rz
  exact ⟨.bl b, H', I', rfl, q⟩
theorem os_own {C : Cf} {c : Str} {kt : Kit} {g : List D → AH → Out D} (hk : KitOk C.K kt) (hn : ∀ t ∈ kt.tys, PySem.W.notFirst C.K (He.ga C.K c) (t.v C.K) = true) : OpS C (rOwn C.K (He.ga C.K c) (spM C 2 g)) (gOwn c kt g) := by
  intro W σ s x y v u Q gd rx ry h
  unfold gOwn at h
  split at h
  · rename_i c' fs t e1 e2
    split at h
    · rename_i hc
      obtain ⟨rfl, ht⟩ := hc
      obtain ⟨a, dx, gs, rfl, ea, rf⟩ := insOf_ok gd rx e1
      refine ⟨a, dx, gs, t.v C.K, rfl, ea, tyOf_ok gd ry e2 hk.tys ht, hn t ht, ?_⟩
      unfold callP at h
      by_cases p : pureDs 0 [x, y] = true
      · rw [if_pos p] at h
        refine spM.call (W := WF) (σ := σ) (ds := [x, y]) (.inr p) gd ?_ rfl ?_
        · unfold Rs
          refine ⟨_, _, rfl, rx, ?_⟩
          unfold Rs
          exact ⟨_, _, rfl, ry, by unfold Rs; rfl⟩
        · cases q : call g [x, y] s.ah with
          | ok d h' =>
            rw [q] at h
            intro s' w e f g' r
            cases d with
            | bl b => exact ⟨b, r.bl_eq, h s' w e f g' r⟩
            | _ => exact h.elim
          | exc => rw [q] at h; exact h.elim
          | bad => rw [q] at h; exact h.elim
      · rw [if_neg p] at h
        exact h.elim
    · exact h.elim
  · exact h.elim
end Ws
set_option Elab.async false
set_option linter.all false
set_option maxRecDepth 100000
set_option autoImplicit false
namespace Ws
open PySem PySem.Spec L2
def gTup (ds : List D) (h : AH) : Out D := if ds.length ≤ lim then .ok (.tup ds) h else .bad
/-- a tuple of which no methods are asked (classes in isinstance) -/
def gRtp (ds : List D) (h : AH) : Out D := if ds.length ≤ lim then .ok (.rtp ds) h else .bad
def gLst (ds : List D) (h : AH) : Out D := if ds.length ≤ lim then .ok (.lst ds) h else .bad
/-- a list that will be changed: in a cell of its own -/
def gLstC (ds : List D) (h : AH) : Out D := if ds.length ≤ lim then .ok (.cell h.length) (h ++ [some (.lst ds)]) else .bad
section
variable {X : Cx} {C : Cf} {ε : Ep} {W : WX} {es : List Expr} {mr : M (List D)} {pos : Pos}
theorem me_tup {x1 : Nat} (h : MA X C ε W es mr) : ME X C ε W (.Tuple es x1 pos) (app gTup mr) := (pe_tupP h).imp fun σ H Q h => by
  obtain ⟨s, dσ, rfl, ex, g, rs, h⟩ := h
  refine Post.bind ex g rs h fun s1 d v e1 f1 g1 rs1 r1 h1 => ?_
  unfold gTup at h1
  split at h1
  · rename_i hl
    exact ⟨lim_le (by rw [← r1.length]; exact hl), Post.tup g1 h1 r1⟩
  · exact h1.elim
theorem me_rtp {x1 : Nat} (h : MA X C ε W es mr) : ME X C ε W (.Tuple es x1 pos) (app gRtp mr) := (pe_tup h).imp fun σ H Q h => by
  obtain ⟨s, dσ, rfl, ex, g, rs, h⟩ := h
  refine Post.bind ex g rs h fun s1 d v e1 f1 g1 rs1 r1 h1 => ?_
  unfold gRtp at h1
  split at h1
  · rename_i hl
    exact ⟨lim_le (by rw [← r1.length]; exact hl), Post.rtp g1 h1 r1⟩
  · exact h1.elim
theorem me_lst (h : MA X C ε W es mr) : ME X C ε W (.List es pos) (app gLst mr) := (pe_lst h).imp fun σ H Q h => by
  obtain ⟨s, dσ, rfl, ex, g, rs, h⟩ := h
  refine Post.bind ex g rs h fun s1 d v e1 f1 g1 rs1 r1 h1 => ?_
  unfold gLst at h1
  split at h1
  · rename_i hl
    exact ⟨lim_le (by rw [← r1.length]; exact hl), Post.lst g1 h1 r1⟩
  · exact h1.elim
theorem Post.cellL {σ : L2.St} {s : Sx} {Q : VK} (g : Good C s) {xs : List D} {ys : List V} (h : Post C W σ (rD C) s Q (.ok (.cell s.ah.length) (s.ah ++ [some (.lst xs)]))) (r : Rs C s.F s.ρ xs ys) : ∀ p, s.H p = none → Q (.ref p) (upd s.H p (.lst ys)) := fun p hp =>
  h (s.own p (.lst ys) (.lst xs)) (.ref p) rfl (Fwd.ownD g hp) (g.ownD hp ⟨ys, upd_same, Rs.mono (.refl _) (RSub.put (g.dom _ (Nat.le_refl _))) r⟩) (by
    unfold R
    exact ⟨p, rfl, show (if s.ah.length = s.ah.length then some p else s.ρ.c s.ah.length) = some p from if_pos rfl⟩)
theorem me_lstC (h : MA X C ε W es mr) : ME X C ε W (.List es pos) (app gLstC mr) := (pe_lst h).imp fun σ H Q h => by
  obtain ⟨s, dσ, rfl, ex, g, rs, h⟩ := h
  refine Post.bind ex g rs h fun s1 d v e1 f1 g1 rs1 r1 h1 => ?_
  unfold gLstC at h1
  split at h1
  · rename_i hl
    exact ⟨lim_le (by rw [← r1.length]; exact hl), Post.cellL g1 h1 r1⟩
  · exact h1.elim
end
def gIx (x y : D) (h : AH) : Out D := match x, y with
  | .tup xs, .int i => (match atI xs i with
    | some d => .ok d h
    | none => .bad)
  | .rtp xs, .int i => (match atI xs i with
    | some d => .ok d h
    | none => .bad)
  | .str z, .int i => (match atI z.cps.toList i with
    | some c => if z.length ≤ lim then .ok (sgn c) h else .bad
    | none => .bad)
  | .scr ns, .int i => (match atI ns i with
    | some n => .ok (.int n) h
    | none => .bad)
  | x, .int i => (match lstOf x h with
    | some xs => (match atI xs i with
      | some d => .ok d h
      | none => .bad)
    | none => .bad)
  | _, _ => .bad
theorem atI_rel {C : Cf} {F : Hp} {ρ : Rho} {xs : List D} {ys : List V} {i : Int} {d : D} (r : Rs C F ρ xs ys) (e : atI xs i = some d) : ∃ v, atI ys i = some v ∧ R C F ρ d v := by
  unfold atI at e ⊢
  rw [← r.length]
  cases q : ixN xs.length i with
  | none => rw [q] at e; cases e
  | some j =>
    rw [q] at e
    exact r.get (show xs[j]? = some d from e)
theorem os_ix {C : Cf} : OpS C (rIx C.K) gIx := by
  intro W σ s x y v u Q g rx ry h
  unfold gIx at h
  split at h
  · rename_i xs i
    split at h
    · rename_i d e
      rw [ry.int_eq]
      unfold R at rx
      obtain ⟨a, ys, rfl, fa, rr⟩ := rx
      obtain ⟨w, e1, r1⟩ := atI_rel rr e
      exact .inr (.inl ⟨a, ys, i, w, rfl, rfl, (fa.sub g.sub).sq, e1, Post.here g h r1⟩)
    · exact h.elim
  · rename_i xs i
    split at h
    · rename_i d e
      rw [ry.int_eq]
      unfold R at rx
      obtain ⟨a, ys, rfl, fa, rr⟩ := rx
      obtain ⟨w, e1, r1⟩ := atI_rel rr e
      exact .inr (.inl ⟨a, ys, i, w, rfl, rfl, SqT.of (g.sub _ _ fa), e1, Post.here g h r1⟩)
    · exact h.elim
  · rename_i z i
    split at h
    · rename_i c e
      split at h
      · rename_i hl
        rw [rx.str_eq, ry.int_eq]
        exact .inr (.inr ⟨z, i, c, rfl, rfl, lim_le hl, e, Post.here g h (by unfold sgn R; rfl)⟩)
      · exact h.elim
    · exact h.elim
  · rename_i ns i
    split at h
    · rename_i n e
      rw [ry.int_eq]
      unfold R at rx
      obtain ⟨a, rfl, sq⟩ := rx
      refine .inl ⟨a, ns.map V.int, i, .int n, rfl, rfl, g.sub.sqL sq, ?_, Post.int g h⟩
      unfold atI at e ⊢
      rw [List.length_map]
      cases q : ixN ns.length i with
      | none => rw [q] at e; cases e
      | some j =>
        rw [q] at e
        have e' : ns[j]? = some n := e
        show (ns.map V.int)[j]? = some (V.int n)
        rw [List.getElem?_map, e']; rfl
    · exact h.elim
  · rename_i x i _ _ _ _
    split at h
    · rename_i xs e0
      split at h
      · rename_i d e
        rw [ry.int_eq]
        obtain ⟨a, ys, rfl, ha, rr⟩ := lstOf_ok g rx e0
        obtain ⟨w, e1, r1⟩ := atI_rel rr e
        exact .inl ⟨a, ys, i, w, rfl, rfl, SqL.of ha, e1, Post.here g h r1⟩
      · exact h.elim
    · exact h.elim
  · exact h.elim
section
variable {X : Cx} {C : Cf} {ε : Ep} {W : WX} {a b : Expr} {ma mb : M D} {pos p2 : Pos}
theorem me_ix (hK : X.K = C.K) (ha : ME X C ε W a ma) (hb : ME X C ε W b mb) (hs : PlainIx b := by intro _ _; rfl) : ME X C ε W (.Subscript a b pos) (bin gIx ma mb) := (pe_ix (ix_seq (X := X)) ha hb hs).imp fun σ H Q h => by
  obtain ⟨s, dσ, rfl, ex, gd, rs, h⟩ := h
  refine Post.bind ex gd rs h fun s1 x v e1 f1 g1 rs1 r1 h1 => ?_
  refine Post.bind e1 g1 rs1 h1 fun s2 y u e2 f2 g2 rs2 r2 h2 => ?_
  rw [hK]
  exact os_ix W σ s2 x y v u Q g2 (r1.fwd f2) r2 h2
abbrev MO (X : Cx) (C : Cf) (ε : Ep) (W : WX) (e : Option Expr) (m : M (Option Int)) : Prop := PO X e (tG C ε W (fun _ a b => a = b) m)
theorem _root_.L2.PO.imp {X : Cx} {e : Option Expr} {t t' : TO} (h : PO X e t) (k : ∀ σ H Q, t' σ H Q → t σ H Q) : PO X e t' := ⟨fun pins s σ H Q I q => h.run pins s σ H Q I (k σ H Q q)⟩
def noPart : M (Option Int) := fun _ h => .ok none h
def part (m : M D) : M (Option Int) := fun σ h => (m σ h).bind fun d h1 => match d with
  | .int i => .ok (some i) h1
  | _ => .bad
theorem mo_none : MO X C ε W none noPart := po_none.imp fun σ H Q h => by
  obtain ⟨s, dσ, rfl, ex, g, rs, h⟩ := h
  exact Post.here (rl := fun _ a b => a = b) g h rfl
theorem mo_some (ha : ME X C ε W a ma) : MO X C ε W (some a) (part ma) := (po_some ha).imp fun σ H Q h => by
  obtain ⟨s, dσ, rfl, ex, g, rs, h⟩ := h
  refine Post.bind ex g rs h fun s1 x v e1 f1 g1 rs1 r1 h1 => ?_
  cases x with
  | int i => exact ⟨i, r1.int_eq, Post.here (rl := fun _ a b => a = b) g1 h1 rfl⟩
  | _ => exact h1.elim
def cutD {α : Type} (xs : List α) (lo hi : Option Int) : List α := (xs.drop (HT.sIx xs.length 0 lo)).take (HT.sIx xs.length xs.length hi - HT.sIx xs.length 0 lo)
def gSl (x : D) (lo hi : Option Int) (h : AH) : Out D := match x with
  | .tup xs => .ok (.tup (cutD xs lo hi)) h
  | .str z => if z.length ≤ lim then .ok (.str (cutS z lo hi)) h else .bad
  | .scr ns => .ok (.lst ((cutD ns lo hi).map .int)) h
  | x => (match lstOf x h with
    | some xs => .ok (.lst (cutD xs lo hi)) h
    | none => .bad)
def sl (a : M D) (lo hi : M (Option Int)) : M D := fun σ h => (a σ h).bind fun x h1 => (lo σ h1).bind fun l h2 => (hi σ h2).bind fun u h3 => gSl x l u h3
theorem Rs.drop {F : Hp} {ρ : Rho} : ∀ (n : Nat) {xs : List D} {ys : List V}, Rs C F ρ xs ys → Rs C F ρ (xs.drop n) (ys.drop n)
  | 0, xs, ys, r => by simpa using r
  | n + 1, [], ys, r => by unfold Rs at r; subst r; simp [Rs]
  | n + 1, x :: xs, ys, r => by
    unfold Rs at r
    obtain ⟨v, t, rfl, _, r⟩ := r
    simpa using Rs.drop n r
theorem Rs.take {F : Hp} {ρ : Rho} : ∀ (n : Nat) {xs : List D} {ys : List V}, Rs C F ρ xs ys → Rs C F ρ (xs.take n) (ys.take n)
  | 0, xs, ys, r => by simp [Rs]
  | n + 1, [], ys, r => by unfold Rs at r; subst r; simp [Rs]
  | n + 1, x :: xs, ys, r => by
    unfold Rs at r
    obtain ⟨v, t, rfl, a, r⟩ := r
    simp only [List.take_succ_cons]
    unfold Rs
    exact ⟨v, _, rfl, a, Rs.take n r⟩
theorem Rs.cut {F : Hp} {ρ : Rho} {xs : List D} {ys : List V} {lo hi : Option Int} (r : Rs C F ρ xs ys) : Rs C F ρ (cutD xs lo hi) (cutV ys lo hi) := by
  unfold cutD cutV
  rw [← r.length]
  exact Rs.take _ (Rs.drop _ r)
def rSlAll (K : PySem.W.Frag) : V → Option Int → Option Int → Hp → VK → Prop := fun x lo hi H Q => rSlL K x lo hi H Q ∨ (rSlP K x lo hi H Q ∨ rSlS x lo hi H Q)
theorem sr_all : SlR X (rSlAll X.K) := sl_list.or (sl_tupP.or sl_str)
theorem Rs.ints {F : Hp} {ρ : Rho} : ∀ ns : List Int, Rs C F ρ (ns.map .int) (ns.map V.int)
  | [] => by simp [Rs]
  | n :: ns => by
    show Rs C F ρ (.int n :: ns.map .int) (V.int n :: ns.map V.int)
    unfold Rs
    exact ⟨_, _, rfl, by unfold R; rfl, Rs.ints ns⟩
theorem cut_map (ns : List Int) (lo hi : Option Int) : cutV (ns.map V.int) lo hi = (cutD ns lo hi).map V.int := by
  unfold cutV cutD
  rw [List.length_map, ← List.map_drop, ← List.map_take]
theorem me_sl {lo hi : Option Expr} {ml mh : M (Option Int)} (hK : X.K = C.K) (ha : ME X C ε W a ma) (hl : MO X C ε W lo ml) (hh : MO X C ε W hi mh) : ME X C ε W (.Subscript a (.Slice lo hi none p2) pos) (sl ma ml mh) := (pe_slice sr_all ha hl hh).imp fun σ H Q h => by
  obtain ⟨s, dσ, rfl, ex, gd, rs, h⟩ := h
  refine Post.bind ex gd rs h fun s1 x v e1 f1 g1 rs1 r1 h1 => ?_
  refine Post.bind e1 g1 rs1 h1 fun s2 l l' e2 f2 g2 rs2 r2 h2 => ?_
  subst r2
  refine Post.bind e2 g2 rs2 h2 fun s3 u u' e3 f3 g3 rs3 r3 h3 => ?_
  subst r3
  replace r1 : R C s3.F s3.ρ x v := (R.fwd f2 r1).fwd f3
  rw [hK]
  unfold gSl at h3
  split at h3
  · rename_i xs
    unfold R at r1
    obtain ⟨p, ys, rfl, fa, rr⟩ := id r1
    refine .inr (.inl ⟨p, ys, rfl, (fa.sub g3.sub).sq, fun hw => ?_, fun _ => Post.tup g3 h3 rr.cut⟩)
    refine Post.here g3 h3 ?_
    have e : cutD xs l u = xs := by
      unfold cutD
      rw [rr.length, hw.1, hw.2, List.drop_zero, Nat.sub_zero, ← rr.length, List.take_length]
    rw [e]
    unfold R
    exact r1
  · split at h3
    · rename_i z hz
      exact .inr (.inr ⟨z, r1.str_eq, lim_le hz, Post.str g3 h3⟩)
    · exact h3.elim
  · rename_i ns
    unfold R at r1
    obtain ⟨p, rfl, sq⟩ := r1
    refine .inl ⟨p, ns.map V.int, rfl, g3.sub.sqL sq, ?_⟩
    rw [cut_map]
    exact Post.lst g3 h3 (Rs.ints _)
  · split at h3
    · rename_i xs e0
      obtain ⟨p, ys, rfl, hp, rr⟩ := lstOf_ok g3 r1 e0
      exact .inl ⟨p, ys, rfl, SqL.of hp, Post.lst g3 h3 rr.cut⟩
    · exact h3.elim
end
def lenD (d : D) (h : AH) : Option Nat := match d with
  | .tup xs => some xs.length
  | .scr ns => some ns.length
  | .str z => if z.length ≤ lim then some z.length else none
  | d => (lstOf d h).map List.length
def gLen (ds : List D) (h : AH) : Out D := match ds with
  | [d] => (match lenD d h with
    | some n => .ok (.int n) h
    | none => .bad)
  | _ => .bad
theorem Rs.one {C : Cf} {F : Hp} {ρ : Rho} {d : D} {vs : List V} (r : Rs C F ρ [d] vs) : ∃ v, vs = [v] ∧ R C F ρ d v := by
  unfold Rs at r
  obtain ⟨v, t, rfl, a, r⟩ := r
  unfold Rs at r
  subst r
  exact ⟨v, rfl, a⟩
theorem Rs.two {C : Cf} {F : Hp} {ρ : Rho} {d e : D} {vs : List V} (r : Rs C F ρ [d, e] vs) : ∃ v w, vs = [v, w] ∧ R C F ρ d v ∧ R C F ρ e w := by
  unfold Rs at r
  obtain ⟨v, t, rfl, a, r⟩ := r
  obtain ⟨w, rfl, b⟩ := r.one
  exact ⟨v, w, rfl, a, b⟩
def rLenA (K : PySem.W.Frag) : List V → Hp → VK → Prop := fun xs H Q => ∃ x n, xs = [x] ∧ LenV K x H n ∧ Q (.int n) H
theorem cs_len {C : Cf} : CallS C (rLenA C.K) gLen := by
  intro W σ s x v Q g rx h
  unfold gLen at h
  split at h
  · rename_i d
    obtain ⟨v, rfl, r⟩ := rx.one
    split at h
    · rename_i n e
      refine ⟨v, n, rfl, ?_, Post.int g h⟩
      unfold lenD at e
      split at e
      · unfold R at r
        obtain ⟨a, ys, rfl, fa, rr⟩ := r
        cases e
        exact .inr ⟨ys, (fa.sub g.sub).sq, rr.length⟩
      · unfold R at r
        obtain ⟨a, rfl, sq⟩ := r
        cases e
        exact .inl ⟨_, g.sub.sqL sq, by simp⟩
      · rw [r.str_eq]
        split at e
        · rename_i hz
          cases e
          exact ⟨lim_le hz, rfl⟩
        · cases e
      · cases q : lstOf d s.ah with
        | none => rw [q] at e; cases e
        | some xs =>
          rw [q] at e; cases e
          obtain ⟨a, ys, rfl, ha, rr⟩ := lstOf_ok g r q
          exact .inl ⟨ys, SqL.of ha, rr.length⟩
    · exact h.elim
  · exact h.elim
def gMax2 (ds : List D) (h : AH) : Out D := match ds with
  | [.int i, .int j] => .ok (.int (if j > i then j else i)) h
  | _ => .bad
/-- a list of truths -/
def blsOf : List D → Option (List Bool)
  | [] => some []
  | .bl b :: ds => (blsOf ds).map (b :: ·)
  | _ :: _ => none
theorem Rs.bls {C : Cf} {F : Hp} {ρ : Rho} : ∀ {xs : List D} {ys : List V} {bs : List Bool}, Rs C F ρ xs ys → blsOf xs = some bs → ys = bs.map V.bl
  | [], ys, bs, r, e => by unfold Rs at r; subst r; unfold blsOf at e; cases e; rfl
  | x :: xs, ys, bs, r, e => by
    unfold Rs at r
    obtain ⟨v, t, rfl, a, r⟩ := r
    cases x with
    | bl b =>
      unfold blsOf at e
      cases q : blsOf xs with
      | none => rw [q] at e; cases e
      | some cs =>
        rw [q] at e; cases e
        rw [a.bl_eq, Rs.bls r q]; rfl
    | _ => unfold blsOf at e; cases e
def gAny (ds : List D) (h : AH) : Out D := match ds with
  | [d] => (match (lstOf d h).bind blsOf with
    | some bs => .ok (.bl (bs.any id)) h
    | none => .bad)
  | _ => .bad
def gAll (ds : List D) (h : AH) : Out D := match ds with
  | [d] => (match (lstOf d h).bind blsOf with
    | some bs => .ok (.bl (bs.all id)) h
    | none => .bad)
  | _ => .bad
theorem bls_ok {C : Cf} {s : Sx} {d : D} {v : V} {bs : List Bool} {K : PySem.W.Frag} (g : Good C s) (r : R C s.F s.ρ d v) (e : (lstOf d s.ah).bind blsOf = some bs) : ∃ a, v = .ref a ∧ SqL K s.H a (bs.map V.bl) := by
  cases q : lstOf d s.ah with
  | none => rw [q] at e; cases e
  | some xs =>
    rw [q] at e
    obtain ⟨a, ys, rfl, ha, rr⟩ := lstOf_ok g r q
    have := rr.bls (show blsOf xs = some bs from e)
    subst this
    exact ⟨a, rfl, SqL.of ha⟩
theorem cs_all {C : Cf} {K : PySem.W.Frag} : CallS C (L2.rAll K) gAll := by
  intro W σ s x v Q g rx h
  unfold gAll at h
  split at h
  · obtain ⟨v, rfl, r⟩ := rx.one
    split at h
    · rename_i bs e
      obtain ⟨a, rfl, sq⟩ := bls_ok g r e
      exact ⟨a, bs, rfl, sq, Post.bl g h⟩
    · exact h.elim
  · exact h.elim
/-- list(xs): a new list of the same things (kept | in a cell) -/
def seqOf (d : D) (h : AH) : Option (List D) := match d with
  | .tup xs => some xs
  | d => lstOf d h
theorem seqOf_ok {C : Cf} {s : Sx} {d : D} {v : V} {xs : List D} {K : PySem.W.Frag} (g : Good C s) (r : R C s.F s.ρ d v) (h : seqOf d s.ah = some xs) : ∃ a ys, v = .ref a ∧ (SqL K s.H a ys ∨ SqT K s.H a ys) ∧ Rs C s.F s.ρ xs ys := by
  unfold seqOf at h
  split at h
  · unfold R at r
    obtain ⟨a, ys, rfl, fa, rr⟩ := r
    cases h
    exact ⟨a, ys, rfl, .inr (fa.sub g.sub).sq, rr⟩
  · obtain ⟨a, ys, rfl, ha, rr⟩ := lstOf_ok g r h
    exact ⟨a, ys, rfl, .inl (SqL.of ha), rr⟩
def rListOf (K : PySem.W.Frag) : List V → Hp → VK → Prop := fun xs H Q => ∃ p ys, xs = [.ref p] ∧ (SqL K H p ys ∨ SqT K H p ys) ∧ ∀ l, H l = none → Q (.ref l) (upd H l (.lst ys))
end Ws
set_option Elab.async false
set_option linter.all false
set_option maxRecDepth 100000
set_option autoImplicit false
namespace Ws
open PySem PySem.Spec L2
def MtS (C : Cf) (r : V → List V → Hp → VK → Prop) (g : D → List D → AH → Out D) : Prop := ∀ (W : WX) (σ : L2.St) (s : Sx) (o : D) (ds : List D) (v : V) (us : List V) (Q : VK), Good C s → R C s.F s.ρ o v → Rs C s.F s.ρ ds us → Post C W σ (rD C) s Q (g o ds s.ah) → r v us s.H Q
/-- the receiver's kind is looked at ahead of the arguments -/
def bm (ty : D → AH → Bool) (g : D → List D → AH → Out D) (mo : M D) (mr : M (List D)) : M D := fun σ h => (mo σ h).bind fun o h1 => if ty o h1 = true then (mr σ h1).bind fun ds h2 => g o ds h2 else .bad
def isStr (d : D) (_ : AH) : Bool := match d with
  | .str _ => true
  | _ => false
def isLst (d : D) (h : AH) : Bool := (lstOf d h).isSome
def TyS (C : Cf) (T : String) (ty : D → AH → Bool) : Prop := ∀ (s : Sx) (d : D) (v : V), Good C s → R C s.F s.ρ d v → ty d s.ah = true → tyV C.K T v s.H
theorem ts_str {C : Cf} : TyS C "str" isStr := fun s d v g r e => by
  cases d with
  | str z => rw [r.str_eq]; rfl
  | _ => cases e
theorem ts_lst {C : Cf} : TyS C "list" isLst := fun s d v g r e => by
  obtain ⟨xs, e'⟩ := Option.isSome_iff_exists.mp e
  obtain ⟨a, ys, rfl, ha, rr⟩ := lstOf_ok g r e'
  exact .inl ⟨rfl, ys, SqL.of ha⟩
section
variable {X : Cx} {C : Cf} {ε : Ep} {W : WX} {o e : Expr} {es : List Expr} {mo : M D} {mr : M (List D)} {name : Str} {apos pos : Pos} {T id : String} {r : V → List V → Hp → VK → Prop} {ty : D → AH → Bool} {g : D → List D → AH → Out D}
theorem me_bm (hK : X.K = C.K) (pa : PlainAttrs T) (slot : Slot T name id) (hty : typeOf (.builtin id) = pure (.type "method_descriptor")) (hm : MtR X id r) (ts : TyS C T ty) (hg : MtS C r g) (ho : ME X C ε W o mo) (ha : MA X C ε W (e :: es) mr) (hbase : attributeBase o name X.env (eval o X.env) = eval o X.env := by rfl)
    (hfew : ((backTo pos (starEach (e :: es) X.env)).all (fun x => !x.1) && (backToKw pos (keywordEach [] X.env)).all (fun x => x.1.isSome) && decide ((e :: es).length + ([] : List Keyword).length + (if ([] : List Keyword).isEmpty then 0 else 1) < 30)) = true := by rfl)
    (hline : (apos.endLine == pos.line) = true := by rfl) (hs : starEach (e :: es) X.env = (false, eval e X.env) :: starEach es X.env := by rfl) (hplain : (backTo pos (starEach es X.env)).any (·.1) = false := by rfl) :
    ME X C ε W (.Call (.Attribute o name apos) (e :: es) [] pos) (bm ty g mo mr) := (pe_bm pa slot hty hm ho ha hbase hfew hline hs hplain).imp fun σ H Q h => by
  obtain ⟨s, dσ, rfl, ex, gd, rs, h⟩ := h
  refine Post.bind ex gd rs h fun s1 x v e1 f1 g1 rs1 r1 h1 => ?_
  split at h1
  · rename_i ht
    refine ⟨by rw [hK]; exact ts s1 x v g1 r1 ht, Post.bind e1 g1 rs1 h1 fun s2 ds us e2 f2 g2 rs2 r2 h2 => ?_⟩
    exact hg W σ s2 x ds v us Q g2 (r1.fwd f2) r2 h2
  · exact h1.elim
end
/-- a list of texts -/
def strsOf : List D → Option (List Str)
  | [] => some []
  | .str b :: ds => (strsOf ds).map (b :: ·)
  | _ :: _ => none
theorem Rs.strs {C : Cf} {F : Hp} {ρ : Rho} : ∀ {xs : List D} {ys : List V} {bs : List Str}, Rs C F ρ xs ys → strsOf xs = some bs → ys = bs.map V.str
  | [], ys, bs, r, e => by unfold Rs at r; subst r; unfold strsOf at e; cases e; rfl
  | x :: xs, ys, bs, r, e => by
    unfold Rs at r
    obtain ⟨v, t, rfl, a, r⟩ := r
    cases x with
    | str b =>
      unfold strsOf at e
      cases q : strsOf xs with
      | none => rw [q] at e; cases e
      | some cs =>
        rw [q] at e; cases e
        rw [a.str_eq, Rs.strs r q]; rfl
    | _ => unfold strsOf at e; cases e
def gJoin (o : D) (ds : List D) (h : AH) : Out D := match o, ds with
  | .str a, [d] => (match (seqOf d h).bind strsOf with
    | some ys => if (ys.map (·.length)).sum + ys.length * a.length ≤ lim then .ok (.str (Txt.join a ys)) h else .bad
    | none => .bad)
  | _, _ => .bad
def rJoin (K : PySem.W.Frag) : V → List V → Hp → VK → Prop := fun x xs H Q => ∃ a p, ∃ ys : List Str, x = .str a ∧ xs = [.ref p] ∧ (SqL K H p (ys.map V.str) ∨ SqT K H p (ys.map V.str)) ∧ (ys.map (·.length)).sum + ys.length * a.length ≤ 16777216 ∧ Q (.str (Txt.join a ys)) H
theorem ms_join {C : Cf} {K : PySem.W.Frag} : MtS C (rJoin K) gJoin := by
  intro W σ s o ds v us Q g ro rds h
  unfold gJoin at h
  split at h
  · rename_i a d
    obtain ⟨w, rfl, r⟩ := rds.one
    rw [ro.str_eq]
    split at h
    · rename_i ys e
      split at h
      · rename_i hl
        cases q : seqOf d s.ah with
        | none => rw [q] at e; cases e
        | some xs =>
          rw [q] at e
          obtain ⟨p, zs, rfl, sq, rr⟩ := seqOf_ok (K := K) g r q
          have := rr.strs (show strsOf xs = some ys from e)
          subst this
          exact ⟨a, p, ys, rfl, rfl, sq, Nat.le_trans hl (by decide), Post.str g h⟩
      · exact h.elim
    · exact h.elim
  · exact h.elim
def cellL (d : D) (h : AH) : Option (Nat × List D) := match d with
  | .cell n => (match h.get n with
    | some (.lst xs) => some (n, xs)
    | _ => none)
  | _ => none
theorem cellL_ok {C : Cf} {s : Sx} {d : D} {v : V} {n : Nat} {xs : List D} (g : Good C s) (r : R C s.F s.ρ d v) (h : cellL d s.ah = some (n, xs)) : ∃ a ys, v = .ref a ∧ s.ρ.c n = some a ∧ s.ah.get n = some (.lst xs) ∧ s.H a = some (.lst ys) ∧ Rs C s.F s.ρ xs ys := by
  cases d with
  | cell m =>
    unfold cellL at h
    dsimp only at h
    split at h
    · rename_i zs e
      cases h
      unfold R at r
      obtain ⟨a, rfl, ea⟩ := r
      obtain ⟨a', q1, q2, ys, z1, z2⟩ := g.own n _ e
      rw [ea] at q1; cases q1
      exact ⟨a, ys, rfl, ea, e, z1, z2⟩
    · cases h
  | _ => cases h
/-- a list's new content -/
theorem Post.wrL {C : Cf} {W : WX} {σ : L2.St} {s : Sx} {Q : VK} {n : Nat} {a : Addr} {ob : OB} {d : D} {w : V} {xs : List D} {ys : List V} (g : Good C s) (e : s.ah.get n = some ob) (ea : s.ρ.c n = some a) (r : Rs C s.F s.ρ xs ys) (rd : R C s.F s.ρ d w) (h : Post C W σ (rD C) s Q (.ok d (s.ah.put n (.lst xs)))) : Q w (upd s.H a (.lst ys)) :=
  h (s.wr n a (.lst ys) (.lst xs)) w rfl (Fwd.wr g e ea) (g.wr e ea ⟨ys, upd_same, r⟩) (rd.fwd (Fwd.wr g e ea))
def gAppend (o : D) (ds : List D) (h : AH) : Out D := match ds with
  | [d] => (match cellL o h with
    | some (n, xs) => if xs.length < lim then .ok .non (h.put n (.lst (xs ++ [d]))) else .bad
    | none => .bad)
  | _ => .bad
theorem lim_lt' {n : Nat} (h : n < lim) : n < sizeLine := lim_lt h
theorem ms_append {C : Cf} : MtS C rAppend gAppend := by
  intro W σ s o ds v us Q g ro rds h
  unfold gAppend at h
  split at h
  · obtain ⟨w, rfl, r⟩ := rds.one
    split at h
    · rename_i n xs e
      split at h
      · rename_i hl
        obtain ⟨a, ys, rfl, ea, en, ha, rr⟩ := cellL_ok g ro e
        exact ⟨a, ys, w, rfl, rfl, ha, lim_lt' (by rw [← rr.length]; exact hl), Post.wrL g en ea (Rs.snoc rr r) (by unfold R; rfl) h⟩
      · exact h.elim
    · exact h.elim
  · exact h.elim
def gExtend (o : D) (ds : List D) (h : AH) : Out D := match ds with
  | [d] => (match cellL o h, lstOf d h with
    | some (n, xs), some zs => if xs.length + zs.length ≤ lim then .ok .non (h.put n (.lst (xs ++ zs))) else .bad
    | _, _ => .bad)
  | _ => .bad
theorem ms_extend {C : Cf} : MtS C rExtend gExtend := by
  intro W σ s o ds v us Q g ro rds h
  unfold gExtend at h
  split at h
  · obtain ⟨w, rfl, r⟩ := rds.one
    split at h
    · rename_i n xs zs e e2
      split at h
      · rename_i hl
        obtain ⟨a, ys, rfl, ea, en, ha, rr⟩ := cellL_ok g ro e
        obtain ⟨b, us, rfl, hb, rr2⟩ := lstOf_ok g r e2
        exact ⟨a, b, ys, us, rfl, rfl, ha, hb, lim_le (by rw [← rr.length, ← rr2.length]; exact hl), Post.wrL g en ea (Rs.app rr rr2) (by unfold R; rfl) h⟩
      · exact h.elim
    · exact h.elim
  · exact h.elim
theorem Rs.set {C : Cf} {F : Hp} {ρ : Rho} {d : D} {v : V} (q : R C F ρ d v) : ∀ (j : Nat) {xs : List D} {ys : List V}, Rs C F ρ xs ys → Rs C F ρ (xs.set j d) (ys.set j v)
  | _, [], ys, r => by unfold Rs at r; subst r; simp [Rs]
  | 0, x :: xs, ys, r => by
    unfold Rs at r
    obtain ⟨w, t, rfl, a, r⟩ := r
    simp only [List.set_cons_zero]
    unfold Rs
    exact ⟨v, t, rfl, q, r⟩
  | j + 1, x :: xs, ys, r => by
    unfold Rs at r
    obtain ⟨w, t, rfl, a, r⟩ := r
    simp only [List.set_cons_succ]
    unfold Rs
    exact ⟨w, _, rfl, a, Rs.set q j r⟩
end Ws
set_option Elab.async false
set_option linter.all false
set_option maxRecDepth 100000
set_option maxHeartbeats 2000000
set_option autoImplicit false
namespace Ws
open PySem PySem.Spec PySem.W
section
variable {prog : Program} {w : World} {A : Around} {E : Value → Shared → Prop} {s : Shared} {K : Frag} {x cA : Addr} {ox : Obj} {od : Option Obj}
theorem find_data {name : Str} {a g : Value} (hc : (clsIn K cA).isSome = true) (ha : findIn K (.ref cA) name = some (some a)) (hg : specialIn K a "__get__" = some (some g)) (ht : takesIn K a = some true) : findObj K cA od name = some (.bind g a) := by
  obtain ⟨cd, hc⟩ := Option.isSome_iff_exists.mp hc
  unfold findObj
  simp [hc, ha, hg, ht]
theorem err_class {Q : Option Value → Shared → Prop} (T : L2.ExcC K cA) (X : K.In s.heap) (I : InstAt s.heap x ox cA od) (h : Q (some (.ref cA)) { s with toks := s.toks + 1 }) : wpAny (model prog w) A (getAttr? (.ref x) "__class__") Q E s := by
  have hsome : (clsIn K cA).isSome = true := by
    have hd := T.hd
    unfold hasDictIn at hd
    cases q : clsIn K cA with
    | none => rw [q] at hd; cases hd
    | some _ => rfl
  have hf : findObj K cA od "__class__" = some (.bind (.builtin "getset_descriptor.__get__") (.builtin "object.__class__")) := find_data hsome T.ha T.hn T.ht
  obtain ⟨hp, gs, dr, tk, os⟩ := s
  have l0 := I.type (M := model prog w)
  have l1 := looks_findIn (M := model prog w) X T.hg
  have l2 := looks_findIn (M := model prog w) X T.hk
  have l3 := looks_find (M := model prog w) X I hf
  have sub : Looks (model prog w) hp (isInstance (.ref x) (.type "BaseException")) true := l0.andThen (looks_subIn X T.hs)
  have n0 : (false && onTheHeap (Value.builtin "BaseException.__getattribute__")) = false := rfl
  have n2 : (Value.builtin "BaseException.__getattribute__" == Value.builtin "object.__getattribute__") = false := by decide +kernel
  have n1 : (onTheHeap (Value.ref cA) && Value.builtin "BaseException.__getattribute__" == Value.builtin "object.__getattribute__") = false := by rw [n2]; rfl
  unfold getAttr? getAttrBy? getAttrBy
  refine wpAny_bind (wpAny_mkText (wpAny_bind (wpAny_attempt (wpAny_holding (wpAny_bind (l0.at (wpAny_bind (l1.at ?_))))))))
  show wpAny _ _ (if (onTheHeap (Value.ref cA) && Value.builtin "BaseException.__getattribute__" == Value.builtin "object.__getattribute__") = true then _ else _) _ _ _
  rw [n1, if_neg Bool.false_ne_true]
  unfold getAttrByItsOwn hookBefore
  refine wpAny_bind ?_
  rw [if_pos (show onTheHeap (Value.ref cA) = true from rfl)]
  refine l2.at ?_
  refine wpAny_bind (wpAny_attempt (wpAny_holding ?_))
  unfold callGetattribute
  rw [n0, if_neg Bool.false_ne_true]
  unfold boundAndCalled
  rw [PySem.F.excAttr_ValueError.ga.bind (.ref x)]
  refine wpAny_bind (wpAny_pure ?_)
  show wpAny _ _ (PySem.call (.builtin "BaseException.__getattribute__") [.ref x, .str "__class__" tk]) _ _ _
  refine wpAny_call (codeAny_call_builtin PySem.F.excAttr_ValueError.ga.plain PySem.F.entry_bexc_ga ?_)
  refine @check_slot (model prog w) _ _ ⟨hp, gs, dr, tk + 1, os⟩ "BaseException.__getattribute__" "BaseException" "__getattribute__" (.ref x) [.str "__class__" tk] [] _ (by decide +kernel) (by decide +kernel) sub (PySem.F.args_bexc_ga (.ref x) (.str "__class__" tk)) ?_
  unfold Builtin.«object.__getattribute__»
  refine wpAny_bind (wpAny_of_eq (a := ((Value.ref x : Value), [Value.str "__class__" tk])) (by first | rfl | (simp only [slotArgs]; rfl)) ?_)
  refine wpAny_bind (wpAny_pure (wpAny_bind (l0.at (wpAny_bind (l3.at ?_)))))
  show wpAny _ _ (holding [Value.builtin "object.__class__"] (PySem.call (.builtin "getset_descriptor.__get__") [.builtin "object.__class__", .ref x, .ref cA]) >>= PySem.ret) _ _ _
  refine wpAny_bind (wpAny_holding (wpAny_call (class_get (s := ⟨hp, gs, dr, tk + 1, os⟩) (ox := ox) (od := od) X I T.hm ?_)))
  refine wpAny_pure ?_
  show wpAny _ _ (handedOut (.ref cA)) _ _ _
  rw [handedOut_of (v := .ref cA) rfl]
  first
    | exact wpAny_pure (wpAny_pure h)
    | exact wpAny_pure h
    | exact wpAny_pure (wpAny_bind (wpAny_pure (wpAny_pure h)))
theorem err_kit (T : L2.ExcC K cA) : KitX K (.ref x) (.ref cA) (fun h => InstAt h x ox cA od) where
  ty := fun _ _ _ I => I.type
  it := fun _ _ X _ => by
    have hd := T.hd
    unfold hasDictIn at hd
    cases q : clsIn K cA with
    | none => rw [q] at hd; cases hd
    | some cd =>
      unfold clsIn at q
      split at q
      · rename_i c' d' cd' sl' ho
        intro A' Q' E' s' k z
        unfold isType loadHead
        exact wpAny_bind (wpAny_loadPart (k _ _ (X _ _ ho)) (wpAny_pure z))
      · cases q
  ne := fun h tp dd its n sl X htp => by
    have hd := T.hd
    unfold hasDictIn at hd
    refine Bool.eq_false_iff.mpr fun z => ?_
    have e : cA = tp := Value.ref.inj (beq_iff_eq.mp z)
    subst e
    cases q : clsIn K cA with
    | none => rw [q] at hd; cases hd
    | some cd =>
      unfold clsIn at q
      split at q
      · rename_i c' d' cd' sl' ho
        have z := (X _ _ ho).symm.trans htp
        cases z
      · cases q
  ca := fun X I k => err_class T X I k
end
end Ws
namespace Ws
open PySem PySem.Spec L2
def gIsE (kt : Kit) (ds : List D) (h : AH) : Out D := match ds with
  | [.exn c _, .rtp cs] => (match clsTys cs with
    | some us => if Ty.c c ∈ kt.tys ∧ (∀ u ∈ us, u ∈ kt.cls) then .ok (.bl (us.any fun u => kt.sub (.c c) u)) h else .bad
    | none => .bad)
  | [.exn c _, k] => (match clsTy k with
    | some u => if Ty.c c ∈ kt.tys ∧ u ∈ kt.cls then .ok (.bl (kt.sub (.c c) u)) h else .bad
    | none => .bad)
  | _ => .bad
/-- the classes of errors: kinds of their own -/
structure EKit (K : PySem.W.Frag) (kt : Kit) : Prop where
  cls : ∀ c, Ty.c c ∈ kt.tys → ExcC K (He.ga K c)
  one : ∀ t ∈ kt.tys, ∀ c ∈ kt.cls, PySem.W.kitOne K (t.v K) (c.v K) = some (kt.sub t c)
def rIsX (K : PySem.W.Frag) (a : Addr) (cA : Addr) : List V → Hp → VK → Prop := fun xs H Q => (∃ (k : V) (cv : Value) (b : Bool), xs = [.ref a, k] ∧ ClsV k cv ∧ PySem.W.kitOne K (.ref cA) cv = some b ∧ Q (.bl b) H) ∨
  ∃ (tp : Addr) (cs : List V) (us : List Value) (b : Bool), xs = [.ref a, .ref tp] ∧ H tp = some (.tup cs) ∧ Paired ClsV cs us ∧ PySem.W.kitAny K (.ref cA) us = some b ∧ Q (.bl b) H
theorem inst_at {X : Cx} {a cA : Addr} {oe : Obj} {od : Option Addr} {pn pins : List (Addr × Obj)} {σ : L2.St} {H : Hp} {s : Shared} (I : Inv (X.suite a ((a, oe) :: pn)) pins σ H s) (hz : Zc (.ref cA) od oe) (hf : ∃ vs, oe.data = .fields vs) (hd : ∀ d, od = some d → ∃ o, s.heap.get? d = some o) :
    ∃ oo, PySem.W.InstAt s.heap a oe cA oo := by
  obtain ⟨hget, _⟩ := I.pin (a, oe) (List.mem_append.mpr (.inl List.mem_cons_self))
  obtain ⟨vs, hv⟩ := hf
  cases e : od with
  | none => exact ⟨none, hget, hz.1, by unfold PySem.W.notCls; rw [hv] <;> rfl, by rw [hz.2, e]; trivial⟩
  | some d =>
    obtain ⟨o, ho⟩ := hd d e
    exact ⟨some o, hget, hz.1, by unfold PySem.W.notCls; rw [hv] <;> rfl, by rw [hz.2, e]; exact ho⟩
theorem cr_isX {X : Cx} {a cA : Addr} {oe : Obj} {od : Option Addr} {pn : List (Addr × Obj)} (T : ExcC X.K cA) (hz : Zc (.ref cA) od oe) (hf : ∃ vs, oe.data = .fields vs) :
    CallR (X.suite a ((a, oe) :: pn)) (.builtin "isinstance") (fun xs H Q => (∀ d, od = some d → ∃ o, H d = some o) ∧ rIsX X.K a cA xs H Q) := by
  intro pins s σ H xs us Q I r h
  obtain ⟨hd, h⟩ := h
  obtain ⟨oo, J⟩ := inst_at I hz hf fun d e => by
    obtain ⟨o, ho⟩ := hd d e
    exact objOk_get (I.hok d o ho)
  rcases h with ⟨k, cv, b, rfl, hk, e, q⟩ | ⟨tp, cs, ws, b, rfl, hT, hk, e, q⟩
  · obtain ⟨u1, u2, rfl, r1, r2⟩ := vals2 r
    cases (show u1 = Value.ref a from r1)
    have e2 := hk.eq r2
    subst e2
    exact PySem.W.kia_one (err_kit T) I.kIn J e (fun z => nomatch z) fun tk => ⟨.bl b, H, I.kept (t' := tk) fun _ _ z => z, rfl, q⟩
  · obtain ⟨u1, u2, rfl, r1, r2⟩ := vals2 r
    cases (show u1 = Value.ref a from r1)
    cases (show u2 = Value.ref tp from r2)
    obtain ⟨_, its, rv, o, h1, h2, n, h3⟩ := (show ObjOk X.prog X.w H s.heap tp (.tup cs) from I.hok tp _ hT)
    have e3 := ClsV.all hk rv
    subst e3
    obtain ⟨oc, odd, dt, sl⟩ := o
    simp only at h2 h3
    subst h2 h3
    exact PySem.W.kia_tup (err_kit T) I.kIn J h1 e (fun z => nomatch z) fun tk => ⟨.bl b, H, I.kept (t' := tk) fun _ _ z => z, rfl, q⟩
theorem ekitAny_ok {K : PySem.W.Frag} {kt : Kit} (hk : EKit K kt) {t : Ty} (ht : t ∈ kt.tys) : ∀ {us : List Ty}, (∀ c ∈ us, c ∈ kt.cls) → PySem.W.kitAny K (t.v K) (us.map (Ty.v K)) = some (us.any fun c => kt.sub t c)
  | [], _ => kitAny_nil
  | c :: us, h => by
    have q := hk.one t ht c (h c (List.mem_cons_self ..))
    refine kitAny_cons q (fun e => ?_) fun e => ?_
    · rw [List.any_cons, e, Bool.false_or]
      exact ekitAny_ok hk ht fun x hx => h x (List.mem_cons_of_mem _ hx)
    · rw [List.any_cons, e, Bool.true_or]
section
variable {X : Cx} {C : Cf} {W : WX} {a : Addr} {oe : Obj} {c : Str} {od : Option Addr} {pn : List (Addr × Obj)} {kt : Kit} {e : Expr} {es : List Expr} {mr : M (List D)} {me : M D} {p pos : Pos}
/-- the dict of the error that is held -/
theorem exn_dict {s : Sx} {k : Str} {fs : List (Str × D)} {v : V} (g : Good C s) (ex : s.ρ.x = some (a, c, od)) (r : R C s.F s.ρ (.exn k fs) v) : v = .ref a ∧ k = c ∧ (∀ d, od = some d → ∃ gs, s.H d = some (.xd gs) ∧ Rf C s.F s.ρ fs gs) ∧ (od = none → fs = []) := by
  unfold R at r
  obtain ⟨a', od', rfl, e, z⟩ := r
  rw [ex] at e
  cases e
  refine ⟨rfl, rfl, fun d e => ?_, fun e => ?_⟩
  · rcases z with ⟨z, _⟩ | ⟨d', gs, z1, z2, z3⟩
    · rw [e] at z; cases z
    · rw [e] at z1; cases z1; exact ⟨gs, g.sub _ _ z2, z3⟩
  · rcases z with ⟨_, z⟩ | ⟨d', gs, z1, _⟩
    · exact z
    · rw [e] at z1; cases z1
theorem me_isE1 (hK : X.K = C.K) (hk : EKit C.K kt) (hc : Ty.c c ∈ kt.tys) (hz : Zc (.ref (He.ga C.K c)) od oe) (hf : ∃ vs, oe.data = .fields vs) (hg : Gl X "isinstance") (hm : X.mg "isinstance" = none) (hv : bootBuiltins "isinstance" = some (.builtin "isinstance"))
    (ha : MA (X.suite a ((a, oe) :: pn)) C (some (a, c, od)) W (e :: es) mr) (he : starEach (e :: es) X.env = (false, eval e X.env) :: starEach es X.env := by rfl) (hpl : (backTo pos (starEach es X.env)).any (·.1) = false := by rfl) :
    ME (X.suite a ((a, oe) :: pn)) C (some (a, c, od)) W (.Call (.Name "isinstance" p) (e :: es) [] pos) (app (gIsE kt) mr) := by
  have T : ExcC X.K (He.ga C.K c) := by rw [hK]; exact hk.cls c hc
  refine (pe_callB (X := X.suite a ((a, oe) :: pn)) (cr_isX (pn := pn) T hz hf) hg hm hv ha (by decide) (by decide) he hpl).imp fun σ H Q h => ?_
  obtain ⟨s, dσ, rfl, ex, gd, rs, h⟩ := h
  refine Post.bind ex gd rs h fun s1 x v e1 f1 g1 rs1 r1 h1 => ?_
  unfold gIsE at h1
  rw [hK]
  split at h1
  · rename_i k fs cs
    obtain ⟨v1, v2, rfl, q1, q2⟩ := r1.two
    obtain ⟨rfl, rfl, hdict, _⟩ := exn_dict g1 e1 q1
    refine ⟨fun d ed => let ⟨gs, z, _⟩ := hdict d ed; ⟨_, z⟩, ?_⟩
    split at h1
    · rename_i us eu
      split at h1
      · rename_i hq
        unfold R at q2
        obtain ⟨tp, ys, rfl, fa, rr⟩ := q2
        exact .inr ⟨tp, ys, us.map (Ty.v C.K), _, rfl, g1.sub _ _ fa, clsTys_ok rr eu, ekitAny_ok hk hq.1 hq.2, Post.bl g1 h1⟩
      · exact h1.elim
    · exact h1.elim
  · rename_i k fs kk _
    obtain ⟨v1, v2, rfl, q1, q2⟩ := r1.two
    obtain ⟨rfl, rfl, hdict, _⟩ := exn_dict g1 e1 q1
    refine ⟨fun d ed => let ⟨gs, z, _⟩ := hdict d ed; ⟨_, z⟩, ?_⟩
    split at h1
    · rename_i u eu
      split at h1
      · rename_i hq
        exact .inl ⟨v2, u.v C.K, _, rfl, clsTy_ok q2 eu, hk.one _ hq.1 u hq.2, Post.bl g1 h1⟩
      · exact h1.elim
    · exact h1.elim
  · exact h1.elim
theorem gIsE_bad (hc : Ty.c c ∉ kt.tys) {fs : List (Str × D)} {ds : List D} {h : AH} : gIsE kt (.exn c fs :: ds) h = .bad := by
  unfold gIsE
  split
  · rename_i c' fs' cs e
    injection e with e1 e2
    injection e1 with e1 e3
    subst e1
    split
    · rw [if_neg (fun z => hc z.1)]
    · rfl
  · rename_i c' fs' k e
    injection e with e1 e2
    injection e1 with e1 e3
    subst e1
    split
    · rw [if_neg (fun z => hc z.1)]
    · rfl
  · rfl
theorem me_isE (hK : X.K = C.K) (hk : EKit C.K kt) (hz : Zc (.ref (He.ga C.K c)) od oe) (hf : ∃ vs, oe.data = .fields vs) (hg : Gl X "isinstance") (hm : X.mg "isinstance" = none) (hv : bootBuiltins "isinstance" = some (.builtin "isinstance"))
    (ha : MA (X.suite a ((a, oe) :: pn)) C (some (a, c, od)) W (e :: es) mr) (he : starEach (e :: es) X.env = (false, eval e X.env) :: starEach es X.env := by rfl) (hpl : (backTo pos (starEach es X.env)).any (·.1) = false := by rfl) :
    ME (X.suite a ((a, oe) :: pn)) C (some (a, c, od)) W (.Call (.Name "isinstance" p) (e :: es) [] pos) (app (gIsE kt) mr) := by
  by_cases hc : Ty.c c ∈ kt.tys
  · exact me_isE1 hK hk hc hz hf hg hm hv ha he hpl
  · refine (pe_callB (X := X.suite a ((a, oe) :: pn)) (r := fun _ _ _ => False) (fun pins s σ H xs us Q I r h => h.elim) hg hm hv ha (by decide) (by decide) he hpl).imp fun σ H Q h => ?_
    obtain ⟨s, dσ, rfl, ex, gd, rs, h⟩ := h
    refine Post.bind ex gd rs h fun s1 x v e1 f1 g1 rs1 r1 h1 => ?_
    have key : gIsE kt x s1.ah = .bad := by
      cases x with
      | nil => rfl
      | cons d ds =>
        cases d with
        | exn k fs =>
          unfold Rs at r1
          obtain ⟨v1, r, rfl, r2, r3⟩ := r1
          obtain ⟨rfl, rfl, _⟩ := exn_dict g1 e1 r2
          exact gIsE_bad hc
        | _ => rfl
    rw [key] at h1
    exact h1.elim
/-- e.f -/
def fldE (cs : List Str) (y : Str) (m : M D) : M D := fun σ h => (m σ h).bind fun d h1 => match d with
  | .exn k fs => if k ∈ cs then (match fs.lookup y with
    | some d => .ok d h1
    | none => .bad) else .bad
  | _ => .bad
theorem me_fldE {y : Str} {cs : List Str} (hK : X.K = C.K) (hcs : c ∈ cs → XfC C.K (He.ga C.K c) ∧ PySem.W.findIn C.K (.ref (He.ga C.K c)) y = some none) (hz : Zc (.ref (He.ga C.K c)) od oe) (hf : ∃ vs, oe.data = .fields vs)
    (he : ME (X.suite a ((a, oe) :: pn)) C (some (a, c, od)) W e me) (hb : attributeBase e y X.env (eval e X.env) = eval e X.env := by rfl) : ME (X.suite a ((a, oe) :: pn)) C (some (a, c, od)) W (.Attribute e y pos) (fldE cs y me) := by
  by_cases hc : c ∈ cs
  · obtain ⟨T, hno⟩ := hcs hc
    rw [← hK] at T hno
    refine (pe_xf (C := He.ga X.K c) (cls := .ref (He.ga X.K c)) (d := od) T hno (by rw [hK]; exact hz) hf he hb).imp fun σ H Q h => ?_
    obtain ⟨s, dσ, rfl, ex, gd, rs, h⟩ := h
    refine Post.bind ex gd rs h fun s1 x v e1 f1 g1 rs1 r1 h1 => ?_
    split at h1
    · rename_i k fs
      split at h1
      · obtain ⟨rfl, rfl, hdict, hnone⟩ := exn_dict g1 e1 r1
        cases q : fs.lookup y with
        | none => rw [q] at h1; exact h1.elim
        | some d =>
          rw [q] at h1
          cases eo : od with
          | none => rw [hnone eo] at q; cases q
          | some dd =>
            obtain ⟨gs, z1, z2⟩ := hdict dd eo
            have z := Rf.lookup (y := y) z2
            rw [q] at z
            obtain ⟨w, l, rv⟩ := z
            exact ⟨rfl, rfl, dd, gs, w, rfl, z1, l, Post.here g1 h1 rv⟩
      · exact h1.elim
    · exact h1.elim
  · refine ⟨fun pins s σ H Q I h => ?_⟩
    obtain ⟨sx, dσ, rfl, ex, gd, rs, h⟩ := h
    refine attr_of hb (thn (he.run pins s σ _ (fun _ _ => False) I (Post.bind ex gd rs h fun s1 x v e1 f1 g1 rs1 r1 h1 => by
      split at h1
      · rename_i k fs
        split at h1
        · rename_i hk
          obtain ⟨rfl, rfl, _⟩ := exn_dict g1 e1 r1
          exact absurd hk hc
        · exact h1.elim
      · exact h1.elim)) fun u s1 hh => ?_)
    obtain ⟨_, _, _, _, z⟩ := hh
    exact z.elim
end
end Ws
set_option Elab.async false
set_option linter.all false
set_option maxRecDepth 100000
set_option maxHeartbeats 2000000
set_option autoImplicit false
namespace Ws
open PySem PySem.Spec PyProof.Rows L2
section
variable {X : Cx} {C : Cf} {ε : Ep} {W : WX} {pos : Pos}
/-- raise C('m') -/
def rz (c : Str) : SM := fun σ h => .exc ⟨c, []⟩ σ h
theorem ms_rz {c x m : Str} {j : Nat} {bmB : List Value} {B newId initId : String} {p p2 pos1 : Pos} (hK : X.K = C.K) (hc : X.calm = true) (tk : Takes X W) (F : ExcBaseFacts B newId initId bmB) (q : PySem.W.excIn X.K (He.ga X.K c) bmB newId = true) (gC : X.mg x = some (.ref (He.ga X.K c))) (kC : PySem.W.keepIn X.K (.ref (He.ga X.K c)) = true)
    (r : Raises X (.ref (He.ga X.K c))) (hg : Gl X x) (hdb : (x == ("__debug__" : Str)) = false := by decide) : MS X C ε W (.Raise (some (.Call (.Name x p) [.Constant (.str m) j p2] [] pos1)) none pos) (rz c) :=
  (ps_raise hc tk (pmk_own F q gC kC r hg hdb)).imp fun D σ H h => by
    obtain ⟨s, dσ, rfl, ex, g, rs, h⟩ := h
    rw [hK]
    exact h s σ none rfl (.refl s) g rs (.inl ⟨rfl, rfl⟩)
/-- what an own __init__ of an error keeps: it bears y -/
def spX (K : PySem.W.Frag) (y : Str) : Sp := fun vs H Q _ => ∃ (a cA : Addr) (v : V), vs = [.ref a, v] ∧ OexC K cA ∧ PySem.W.findIn K (.ref cA) y = some none ∧ H a = some (exo a cA none) ∧ ∀ dx, H dx = none → dx ≠ a → Q .non (upd (upd H dx (exd dx [(y, v)])) a (exo a cA (some dx)))
/-- B.__init__(self, ..), B without an own one -/
theorem pe_binit {pl : Sem Bool} {b : Str} {e : Expr} {es : List Expr} {ta : TA} {p1 p2 : Pos} (hg : Gl X b) (hm : X.mg b = some (.ref (He.ga X.K b))) (hdb : (b == ("__debug__" : Str)) = false) (h1 : PySem.W.specialIn X.K (.ref (He.ga X.K b)) "__getattribute__" = some (some (.builtin "type.__getattribute__")))
    (hr : PySem.W.readsIn X.K (He.ga X.K b) (.type "type") = true) (vV : PySem.W.findCls X.K (.ref (He.ga X.K b)) (.type "type") "__init__" = some (.val (.builtin "ValueError.__init__"))) (ha : PA X (e :: es) ta)
    (hc : eval (.Call (.Attribute (.Name b p1) "__init__" p2) (e :: es) [] pos) X.env = (do
      let ov ← eval (.Name b p1) X.env
      standAt p2.atName
      let (f, first) ← holding [ov] (getMethod ov "__init__" pl)
      callWith pos f first (backTo pos (starEach (e :: es) X.env)) (backToKw pos (keywordEach [] X.env))) := by rfl)
    (he : starEach (e :: es) X.env = (false, eval e X.env) :: starEach es X.env := by rfl) (hpl : (backTo pos (starEach es X.env)).any (·.1) = false := by rfl) :
    PE X (.Call (.Attribute (.Name b p1) "__init__" p2) (e :: es) [] pos) (tVeI X.K ta) := by
  refine ⟨fun pins s σ H Q I h => ?_⟩
  refine PySem.W.methodCall_KW (ld_glob I hg hm ?_ hdb) hc
  refine PySem.W.method_cls I.kIn h1 (PySem.W.cls_value I.kIn hr vV (by decide +kernel) ?_)
  show wpAny _ _ (callWith pos (Value.builtin "ValueError.__init__") [] (backTo pos (starEach (e :: es) X.env)) []) _ _ _
  refine PyProof.Rows.callWith_method1 (thn (ha.run pos pins _ σ H _ (I.tok _) h) fun us s1 ⟨vs, H1, I1, r1, a, cA, ws, ev, hl, T, ea, q⟩ => ?_) he hpl
  subst ev
  cases r1 with
  | @cons _ u0 _ ur ra rw' =>
    obtain rfl : u0 = Value.ref a := ra
    have hlen : ur.length ≤ sizeLine := by
      rw [← Paired.length rw', sizeLine_eq]
      omega
    exact oinit_ok T I1 ea hlen fun s' J => ⟨.non, H1, J, rfl, q⟩
end
section
variable {C : Cf} {mg : Str → Option Value} {base : Heap} {x qual : Str} {params : Arguments} {body : List Stmt} {scope : Scope} {dvs : List V} {kws : List (Str × V)} {f : Addr} {fd : FuncData} {N ps : List Str} {k : Nat}
theorem oxi_ok {m y : Str} (F : FunD C.K x qual params body scope dvs kws f fd) (S : FnScope N ps scope) (hps : ps.length = 2)
    (hbody : ∀ (cdv : Value) (A : Around) (outer : List Env) (s : Shared) (H : Hp) (E : XK), PSs (cxOf (L2.CX C.P C.w) C.P C.w C.K mg base N qual scope f cdv A outer s H E) body
      (tSeq (tDrop (tVeI C.K (tCons (tVar 0) (tCons (tC (.str m)) tNil)))) (tOst C.K y (tVar 0) (tVar 1)))) :
    FnOk C.P C.w C.K mg base (L2.CX C.P C.w) (k + 1) f fd ps (spX C.K y) := by
  refine F.ok S (fun vs H Q E h => ?_) fun cdv A outer s H vs Q E hr hsp => ⟨_, hbody cdv A outer s H E, ?_⟩
  · obtain ⟨_, _, _, rfl, _⟩ := h
    exact hps.symm
  · obtain ⟨a, cA, v, rfl, T, hno, ea, q⟩ := hsp
    refine ⟨.ref a, rfl, a, cA, [.str m], rfl, (by show (1:Nat) ≤ 1000; omega), T, ea, ?_⟩
    exact ⟨v, rfl, .ref a, rfl, a, cA, rfl, T, hno, .inl ⟨ea, fun dx h1 h2 => q dx h1 h2⟩⟩
end
section
variable {X : Cx} {C : Cf} {ε : Ep} {W : WX} {pos : Pos}
/-- raise C(e), C's own __init__ keeping e as y -/
def rz1 (c y : Str) (m : M D) : SM := fun σ h => bindS (m σ h) σ fun d h1 => .exc ⟨c, [(y, d)]⟩ σ h1
theorem XR.one {s : Sx} {c y : Str} {d : D} {v : V} {dx : Addr} (r : R C s.F s.ρ d v) (g : Good C s) (h : s.H dx = none) : XR C (s.frz dx (.xd [(y, v)])) ⟨c, [(y, d)]⟩ (some dx) :=
  .inr ⟨dx, [(y, v)], rfl, upd_same, by unfold Rf; exact ⟨v, [], rfl, r.fwd (Fwd.frz g h), by unfold Rf; rfl⟩⟩
theorem ms_rz1 {c x y : Str} {fI : Addr} {k : Nat} {fd : FuncData} {ps : List Str} {e : Expr} {me : M D} {p pos1 : Pos} (hK : X.K = C.K) (hc : X.calm = true) (tk : Takes X W) (T : OexC X.K (He.ga X.K c)) (hno : PySem.W.findIn X.K (.ref (He.ga X.K c)) y = some none)
    (iC : PySem.W.findIn X.K (.ref (He.ga X.K c)) "__init__" = some (some (.ref fI))) (tI : PySem.W.typeIn X.K (.ref fI) = some (.type "function"))
    (F1 : FnOk X.prog X.w X.K X.mg X.base (L2.CX X.prog X.w) k fI fd ps (spX X.K y)) (hr : Room (k + 1) X.A) (hb : Binds X.K fd ps []) (hg : Gl X x) (hm : X.mg x = some (.ref (He.ga X.K c))) (he : ME X C ε W e me)
    (hdb : (x == ("__debug__" : Str)) = false := by decide) (hst : starEach [e] X.env = (false, eval e X.env) :: starEach [] X.env := by rfl) (hpl : (backTo pos1 (starEach [] X.env)).any (·.1) = false := by rfl) :
    MS X C ε W (.Raise (some (.Call (.Name x p) [e] [] pos1)) none pos) (rz1 c y me) := by
  refine (ps_raise hc tk (pmk_oex T iC tI F1 hr hb .nil (fun pins σ H s u s' I cx => tk u s' (XE.of_call I (fun _ _ _ z => z.elim) cx)) hg hm (pa_cons he pa_nil hst) hdb hst hpl)).imp fun D σ H h => ?_
  obtain ⟨s, dσ, rfl, ex, g, rs, h⟩ := h
  refine PostS.bind ex g rs h fun s1 d v e1 f1 g1 rs1 r1 h1 => ?_
  refine ⟨(by show (1:Nat) ≤ 1000; omega), fun a ha => ⟨a, _, v, rfl, T, hno, upd_same, fun dx h2 hne => ⟨rfl, dx, [(y, v)], upd_same, ?_, ?_, ?_⟩⟩⟩
  · rw [upd_ne hne, upd_same]
  · rw [upd_ne hne] at h2; exact h2
  · rw [upd_ne hne] at h2
    have e : upd (del (upd (upd (upd s1.H a (exo a (He.ga X.K c) none)) dx (exd dx [(y, v)])) a (exo a (He.ga X.K c) (some dx))) a) dx (.xd [(y, v)]) = (s1.frz dx (.xd [(y, v)])).H := by
      funext b
      show _ = upd s1.H dx _ b
      by_cases hb : b = dx
      · rw [hb, upd_same, upd_same]
      · rw [upd_ne hb, upd_ne hb]
        by_cases hba : b = a
        · rw [hba, del_same, ha]
        · rw [del_ne hba, upd_ne hba, upd_ne hb, upd_ne hba]
    rw [e, hK]
    exact h1 (s1.frz dx (.xd [(y, v)])) σ (some dx) rfl (Fwd.frz g1 h2) (g1.frz h2) (rs1.fwd (Fwd.frz g1 h2)) (XR.one r1 g1 h2)
end
end Ws
set_option Elab.async false
set_option linter.all false
set_option maxRecDepth 100000
set_option maxHeartbeats 2000000
set_option autoImplicit false
namespace Ws
open PySem PySem.Spec PyProof.Rows L2
def Rho.hold (ρ : Rho) (x : Option (Addr × Str × Option Addr)) : Rho := { ρ with x := x }
mutual
theorem R.hold {C : Cf} {F : Hp} {ρ : Rho} {e : Ep} (n : ρ.x = none) : ∀ {d : D} {v : V}, R C F ρ d v → R C F (ρ.hold e) d v
  | .non, _, h | .bl _, _, h | .int _, _, h | .str _, _, h | .ty _, _, h | .glo _, _, h | .set _, _, h | .scr _, _, h | .cell _, _, h => by unfold R at h ⊢; exact h
  | .tup _, _, h => by unfold R at h ⊢; obtain ⟨a, ys, e, f, z⟩ := h; exact ⟨a, ys, e, f, Rs.hold n z⟩
  | .rtp _, _, h => by unfold R at h ⊢; obtain ⟨a, ys, e, f, z⟩ := h; exact ⟨a, ys, e, f, Rs.hold n z⟩
  | .lst _, _, h => by unfold R at h ⊢; obtain ⟨a, ys, e, f, z⟩ := h; exact ⟨a, ys, e, f, Rs.hold n z⟩
  | .dct _, _, h => by unfold R at h ⊢; obtain ⟨a, o, ks, e, f, z⟩ := h; exact ⟨a, o, ks, e, f, Rk.hold n z⟩
  | .dcT _, _, h => by unfold R at h ⊢; obtain ⟨a, o, ks, e, f, z⟩ := h; exact ⟨a, o, ks, e, f, Rt.hold n z⟩
  | .ins _ _, _, h => by unfold R at h ⊢; obtain ⟨a, dx, gs, e, f, z⟩ := h; exact ⟨a, dx, gs, e, f, Rf.hold n z⟩
  | .exn _ _, _, h => by unfold R at h; obtain ⟨a, od, e, f, z⟩ := h; rw [n] at f; cases f
  | .lam _, _, h => by unfold R at h ⊢; obtain ⟨L, e1, e2, e3, z⟩ := h; exact ⟨L, e1, e2, e3, Rs.hold n z⟩
  | .seT _, _, h => by unfold R at h ⊢; obtain ⟨a, ks, e, f, z⟩ := h; exact ⟨a, ks, e, f, z.free⟩
  | .odc _ _, _, h => by unfold R at h ⊢; exact h
  | .exv _ _ _, _, h => by
    unfold R at h ⊢
    obtain ⟨a, e, z⟩ := h
    refine ⟨a, e, ?_⟩
    rcases z with z | ⟨z1, d, u, k, z2, z3, z4, z5⟩
    · exact .inl z
    · exact .inr ⟨z1, d, u, k, z2, z3, z4, z5.free z4⟩
theorem Rs.hold {C : Cf} {F : Hp} {ρ : Rho} {e : Ep} (n : ρ.x = none) : ∀ {d : List D} {v : List V}, Rs C F ρ d v → Rs C F (ρ.hold e) d v
  | [], _, h => by unfold Rs at h ⊢; exact h
  | _ :: _, _, h => by unfold Rs at h ⊢; obtain ⟨v, t, e, a, b⟩ := h; exact ⟨v, t, e, R.hold n a, Rs.hold n b⟩
theorem Rf.hold {C : Cf} {F : Hp} {ρ : Rho} {e : Ep} (n : ρ.x = none) : ∀ {d : List (Str × D)} {v : List (Str × V)}, Rf C F ρ d v → Rf C F (ρ.hold e) d v
  | [], _, h => by unfold Rf at h ⊢; exact h
  | (_, _) :: _, _, h => by unfold Rf at h ⊢; obtain ⟨v, t, e, a, b⟩ := h; exact ⟨v, t, e, R.hold n a, Rf.hold n b⟩
theorem Rk.hold {C : Cf} {F : Hp} {ρ : Rho} {e : Ep} (n : ρ.x = none) : ∀ {d : List (D × D)} {v : List (Key × V)}, Rk C F ρ d v → Rk C F (ρ.hold e) d v
  | [], _, h => by unfold Rk at h ⊢; exact h
  | (_, _) :: _, _, h => by unfold Rk at h ⊢; obtain ⟨k, v, t, e, ek, a, b⟩ := h; exact ⟨k, v, t, e, ek, R.hold n a, Rk.hold n b⟩
theorem Rt.hold {C : Cf} {F : Hp} {ρ : Rho} {e : Ep} (n : ρ.x = none) : ∀ {d : List (D × D)} {v : NP}, Rt C F ρ d v → Rt C F (ρ.hold e) d v
  | [], _, h => by unfold Rt at h ⊢; exact h
  | (_, _) :: _, _, h => by unfold Rt at h ⊢; obtain ⟨k, b0, v, t, e, ek, ed, rk, a, b⟩ := h; exact ⟨k, b0, v, t, e, ek, ed, rk.free ek, R.hold n a, Rt.hold n b⟩
end
def Sx.hold (s : Sx) (x : Ep) : Sx := { s with ρ := s.ρ.hold x }
section
variable {C : Cf} {s t : Sx} {x : Ep}
theorem OR.hold {a : Addr} {ob : OB} (n : s.ρ.x = none) (h : OR C s.F s.ρ s.H a ob) : OR C s.F (s.ρ.hold x) s.H a ob := by
  cases ob with
  | lst xs => obtain ⟨ys, q, z⟩ := h; exact ⟨ys, q, Rs.hold n z⟩
  | dct kvs => obtain ⟨ks, q, z⟩ := h; exact ⟨ks, q, Rk.hold n z⟩
  | dcT kvs => obtain ⟨ks, q, z⟩ := h; exact ⟨ks, q, Rt.hold n z⟩
  | ins c fs => obtain ⟨dx, gs, q, z⟩ := h; exact ⟨dx, gs, q, Rf.hold n z⟩
  | set xs => exact h
theorem Good.hold (g : Good C s) (n : s.ρ.x = none) : Good C (s.hold x) :=
  ⟨g.sub, g.tups, fun k ob e => let ⟨a, e1, e2, e3⟩ := g.own k ob e; ⟨a, e1, e2, OR.hold (s := s) n e3⟩, g.inj, g.dom, g.tabs⟩
theorem RS.hold {σ : L2.St} {dσ : Sl} (n : s.ρ.x = none) (h : RS C s σ dσ) : RS C (s.hold x) σ dσ := ⟨h.1, fun i d e => let ⟨v, a, b⟩ := h.2 i d e; ⟨v, a, b.hold n⟩⟩
theorem REq.hold {L : Nat} {ρ : Rho} : REq L ρ (ρ.hold x) := fun _ _ => rfl
theorem Good.let (g : Good C s) (p : pureH s.ah.length s.ah = true) : Good C (s.hold x) :=
  ⟨g.sub, g.tups, fun k ob e => let ⟨a, e1, e2, e3⟩ := g.own k ob e; ⟨a, e1, e2, e3.pure REq.hold (pureH_get p e)⟩, g.inj, g.dom, g.tabs⟩
/-- .. or a lambda that holds such things -/
def pureE (L : Nat) : D → Bool
  | .lam cs => pureDs L cs
  | d => pureD L d
theorem R.pureE {F : Hp} {ρ ρ' : Rho} {L : Nat} (q : REq L ρ ρ') {d : D} {v : V} (p : Ws.pureE L d = true) (h : R C F ρ d v) : R C F ρ' d v := by
  cases d with
  | lam cs =>
    unfold R at h ⊢
    obtain ⟨L', e1, e2, e3, z⟩ := h
    exact ⟨L', e1, e2, e3, Rs.pure q p z⟩
  | _ => exact R.pure q p h
def pureSlE (L : Nat) : Sl → Bool
  | [] => true
  | none :: r => pureSlE L r
  | some d :: r => Ws.pureE L d && pureSlE L r
theorem pureSlE_get {L : Nat} : ∀ {σ : Sl} {i : Nat} {d : D}, pureSlE L σ = true → σ[i]? = some (some d) → Ws.pureE L d = true
  | [], i, d, _, e => by simp at e
  | none :: r, 0, d, p, e => by simp at e
  | none :: r, i + 1, d, p, e => pureSlE_get (σ := r) (i := i) p (by simpa using e)
  | some x :: r, 0, d, p, e => by
    unfold pureSlE at p
    have e : x = d := by simpa using e
    subst e
    exact (Bool.and_eq_true_iff.mp p).1
  | some x :: r, i + 1, d, p, e => by
    unfold pureSlE at p
    exact pureSlE_get (σ := r) (i := i) (Bool.and_eq_true_iff.mp p).2 (by simpa using e)
theorem RS.let {σ : L2.St} {dσ : Sl} {L : Nat} (h : RS C s σ dσ) (p : pureSlE L dσ = true) : RS C (s.hold x) σ dσ := ⟨h.1, fun i d e => let ⟨v, a, b⟩ := h.2 i d e; ⟨v, a, R.pureE REq.hold (pureSlE_get p e) b⟩⟩
theorem Fwd.hold {y : Ep} (n : s.ρ.x = x) (f : Fwd (s.hold y) t) : Fwd s (t.hold x) := ⟨f.sub, ⟨f.rho.c, n.symm⟩, f.frame, f.fresh, f.there, f.still⟩
end
/-- behind the suite: nothing speaks of the error any more -/
def freed (i : Nat) : SOut → SOut
  | .nx σ h => if pureSlE h.length (σ.set i none) = true ∧ pureH h.length h = true then .nx (σ.set i none) h else .bad
  | .bk σ h => if pureSlE h.length (σ.set i none) = true ∧ pureH h.length h = true then .bk (σ.set i none) h else .bad
  | .ct σ h => if pureSlE h.length (σ.set i none) = true ∧ pureH h.length h = true then .ct (σ.set i none) h else .bad
  | .rt d h => if pureD h.length d = true ∧ pureH h.length h = true then .rt d h else .bad
  | _ => .bad
def tryAs (cat : Str → Option Bool) (i : Nat) (mb ms : SM) : SM := fun σ h => match mb σ h with
  | .exc x σ1 h1 => (match cat x.c with
    | some true => freed i (ms (σ1.set i (some (.exn x.c x.fs))) h1)
    | some false => .exc x σ1 h1
    | none => .bad)
  | o => o
section
variable {X : Cx} {C : Cf} {W : WX} {b n : Str} {i : Nat} {cat : Str → Option Bool} {body suite : List Stmt} {b₀ : Stmt} {np pos pos' : Pos} {mb ms : SM}
theorem ms_try (hK : X.K = C.K) (hs : X.stack = X.env :: X.outer) (hf : X.env.frame = some X.env.locals) (hN : X.N.Nodup) (hi : X.N[i]? = some n) (hln : X.env.kindOf n = some .local) (hc : Names X b (.ref (He.ga C.K b))) (tk : Takes X W)
    (hcat : ∀ c r, cat c = some r → PySem.W.exmOne C.K (.ref (He.ga C.K c)) (.ref (He.ga C.K b)) = some r)
    (hb : ∀ (W' : WX) (pn : List (Addr × Obj)) (xe : Value → Shared → Prop), Takes (X.tr pn xe) W' → PassesOwn (model X.prog X.w) X.A X.env xe → MSs (X.tr pn xe) C none W' body mb)
    (hsu : ∀ (a : Addr) (oe : Obj) (c : Str) (d : Option Addr) (pn : List (Addr × Obj)), Zc (.ref (He.ga C.K c)) d oe → (∃ vs, oe.data = .fields vs) → MSs (X.suite a ((a, oe) :: pn)) C (some (a, c, d)) (fun _ _ _ _ => False) (b₀ :: suite) ms) :
    MS X C none W (.Try body [.ExceptHandler (some (.Name b np)) (some n) (b₀ :: suite) pos'] [] [] pos) (tryAs cat i mb ms) := by
  refine (ps_try_as (i := i) (c := .ref (He.ga C.K b)) (tb := fun W' => tS C none W' mb) (ts := fun a cls d => fun D σ H => ∃ c, cls = .ref (He.ga C.K c) ∧ tS C (some (a, c, d)) (fun _ _ _ _ => False) ms D σ H) (Wout := W) hs hf hN hi hln hc tk (fun W' pn xe t pw => hb W' pn xe t pw)
    (fun a oe cls d pn hz hd => ⟨fun pins s σ H D I h => by
      obtain ⟨c, rfl, h⟩ := h
      exact (hsu a oe c d pn hz hd).run pins s σ H D I h⟩)).imp fun D σ H h => ?_
  obtain ⟨s, dσ, rfl, ex, g, rs, h⟩ := h
  refine ⟨s, dσ, rfl, ex, g, rs, ?_⟩
  unfold tryAs at h
  cases q : mb dσ s.ah with
  | nx => rw [q] at h; exact h
  | rt => rw [q] at h; exact h
  | bk => rw [q] at h; exact h
  | ct => rw [q] at h; exact h
  | bad => rw [q] at h; exact h
  | exc x σ1 h1 =>
    rw [q] at h
    dsimp only at h
    intro s' σ' od e1 f1 g1 rs1 xr
    subst e1
    cases hcx : cat x.c with
    | none => rw [hcx] at h; exact h.elim
    | some r =>
      refine ⟨r, by rw [hK]; exact hcat _ _ hcx, fun hr a ha => ?_, fun hr => ?_⟩
      · subst hr
        rw [hcx] at h
        dsimp only at h
        have n1 : s'.ρ.x = none := f1.rho.x.trans ex
        refine ⟨x.c, rfl, s'.hold (some (a, x.c, od)), σ1.set i (some (.exn x.c x.fs)), rfl, rfl, g1.hold n1, (rs1.hold n1).set ?_, ?_⟩
        · unfold R
          refine ⟨a, od, rfl, rfl, ?_⟩
          rcases xr with z | ⟨d, gs, e1, e2, e3⟩
          · exact .inl z
          · exact .inr ⟨d, gs, e1, e2, e3.hold n1⟩
        · show PostS C _ _ _ (ms _ s'.ah)
          cases q2 : ms (σ1.set i (some (.exn x.c x.fs))) s'.ah with
          | nx σ2 h2 =>
            rw [q2] at h
            unfold freed at h
            dsimp only at h
            split at h
            · rename_i p
              intro s3 σ3 e3 f3 g3 rs3
              subst e3
              exact h (s3.hold none) _ rfl (f1.trans (f3.hold n1)) (g3.let p.2) (RS.let rs3.unset p.1)
            · exact h.elim
          | bk σ2 h2 =>
            rw [q2] at h
            unfold freed at h
            dsimp only at h
            split at h
            · rename_i p
              intro s3 σ3 e3 f3 g3 rs3
              subst e3
              exact h (s3.hold none) _ rfl (f1.trans (f3.hold n1)) (g3.let p.2) (RS.let rs3.unset p.1)
            · exact h.elim
          | ct σ2 h2 =>
            rw [q2] at h
            unfold freed at h
            dsimp only at h
            split at h
            · rename_i p
              intro s3 σ3 e3 f3 g3 rs3
              subst e3
              exact h (s3.hold none) _ rfl (f1.trans (f3.hold n1)) (g3.let p.2) (RS.let rs3.unset p.1)
            · exact h.elim
          | rt d h2 =>
            rw [q2] at h
            unfold freed at h
            dsimp only at h
            split at h
            · rename_i p
              intro s3 v e3 f3 g3 r3
              subst e3
              exact h (s3.hold none) v rfl (f1.trans (f3.hold n1)) (g3.let p.2) (R.pure REq.hold p.1 r3)
            · exact h.elim
          | exc => rw [q2] at h; exact h.elim
          | bad => rw [q2] at h; exact h.elim
      · subst hr
        rw [hcx] at h
        exact h s' σ' od rfl f1 g1 rs1 xr
end
end Ws
set_option Elab.async false
set_option linter.all false
set_option maxRecDepth 100000
set_option maxHeartbeats 2000000
set_option autoImplicit false
namespace PySem
end PySem
namespace Ws
open PySem PySem.Spec L2
end Ws
set_option Elab.async false
set_option linter.all false
set_option maxRecDepth 100000
set_option maxHeartbeats 2000000
set_option autoImplicit false
namespace Ws
open PySem PySem.Spec PyProof.Rows L2
structure MkO (K : PySem.W.Frag) (cA : Addr) : Prop where
  makes : PySem.W.makesIn K cA = true
  init : PySem.W.findIn K (.ref cA) "__init__" = some (some (.builtin "object.__init__"))
  obj : PySem.W.subIn K (.ref cA) (.type "object") = some true
  kp : PySem.W.keepIn K (.ref cA) = true
section
variable {X : Cx} {C : Cf} {ε : Ep} {W : WX} {c x : Str} {p pos : Pos}
theorem me_makeO (hK : X.K = C.K) (Mc : MkO X.K (He.ga X.K c)) (hg : Gl X x) (hm : X.mg x = some (.ref (He.ga X.K c))) (hdb : (x == ("__debug__" : Str)) = false := by decide) :
    ME X C ε W (.Call (.Name x p) [] [] pos) (cst (.ins c [])) := by
  refine ⟨fun pins s σ H Q I h => ?_⟩
  obtain ⟨sx, dσ, rfl, ex, gd, rs, h⟩ := h
  refine wpAny_Call_Name_kw (ld_glob I hg hm ?_ hdb)
  refine PySem.W.callWith_K0 I.kIn Mc.kp ?_
  have I2 := Inv.made (C := He.ga X.K c) I
  have e2 : ((s.heap.push PySem.W.emptyDict).push (PySem.W.instObj (He.ga X.K c) s.heap.objs.size)).get? (s.heap.objs.size + 1) = some (PySem.W.instObj (He.ga X.K c) s.heap.objs.size) := by
    have := Heap.get?_push_size (s.heap.push PySem.W.emptyDict) (o := PySem.W.instObj (He.ga X.K c) s.heap.objs.size) rfl
    rwa [Heap.size_push] at this
  have hd : sx.H s.heap.objs.size = none := I.hok.fresh (Nat.le_refl _)
  have hx : sx.H (s.heap.objs.size + 1) = none := I.hok.fresh (Nat.le_succ _)
  have ne : s.heap.objs.size ≠ s.heap.objs.size + 1 := Nat.ne_of_lt (Nat.lt_succ_self _)
  have hQ : Q (.ref (s.heap.objs.size + 1)) (upd (upd sx.H s.heap.objs.size (.own (s.heap.objs.size + 1))) (s.heap.objs.size + 1) (.ins (He.ga X.K c) s.heap.objs.size [])) := by
    have g1 := gd.fill (o := .own (s.heap.objs.size + 1)) hd (fun _ z => nomatch z)
    have hx1 : (sx.setp s.heap.objs.size (.own (s.heap.objs.size + 1))).H (s.heap.objs.size + 1) = none := by
      show upd sx.H _ _ _ = none
      rw [upd_ne (Ne.symm ne)]; exact hx
    have g2 := g1.frz (o := .ins (He.ga X.K c) s.heap.objs.size []) hx1
    have f1 : Fwd sx (sx.setp s.heap.objs.size (.own (s.heap.objs.size + 1))) := (Fwd.refl sx).setp hd
    have f2 := f1.trans (Fwd.frz (o := .ins (He.ga X.K c) s.heap.objs.size []) g1 hx1)
    exact h ((sx.setp s.heap.objs.size (.own (s.heap.objs.size + 1))).frz (s.heap.objs.size + 1) (.ins (He.ga X.K c) s.heap.objs.size [])) (.ref (s.heap.objs.size + 1)) rfl f2 g2 (by
      show R C _ _ (.ins c []) _
      unfold R
      exact ⟨_, s.heap.objs.size, [], rfl, (by rw [← hK]; exact upd_same), by unfold Rf; rfl⟩)
  refine wpAny_call (make_map0 I.kIn Mc.makes Mc.init (fun self => PySem.W.Looks.of_pure (PySem.W.oi_bind self)) ?_)
  have t1 : PySem.W.Looks (model X.prog X.w) ((s.heap.push PySem.W.emptyDict).push (PySem.W.instObj (He.ga X.K c) s.heap.objs.size)) (isInstance (.ref (s.heap.objs.size + 1)) (.type "object")) true :=
    PySem.W.Looks.andThen (a := Value.ref (He.ga X.K c)) (fun A Q E s k q => wpAny_typeOf_ref (k _ _ e2) q) (PySem.W.looks_subIn I2.kIn Mc.obj)
  obtain ⟨hp, g, d, t, os⟩ := s
  refine codeAny_call_builtin PySem.W.oi_plain PySem.W.entry_oi (@PySem.W.check_slot (model X.prog X.w) _ _ ⟨(hp.push PySem.W.emptyDict).push (PySem.W.instObj (He.ga X.K c) hp.objs.size), g, d, t, os⟩ "object.__init__" "object" "__init__" (.ref (hp.objs.size + 1)) [] [] _ PySem.W.oi_kind PySem.W.oi_split t1 (PySem.W.oi_args (.ref (hp.objs.size + 1))) ?_)
  rw [PySem.W.oi_run]
  refine wpAny_pure ?_
  exact ⟨rfl, ⟨V.ref (hp.objs.size + 1), _, I2, rfl, hQ⟩⟩
end
end Ws
set_option Elab.async false
set_option linter.all false
set_option maxRecDepth 100000
set_option maxHeartbeats 2000000
set_option autoImplicit false
namespace Ws
open PySem PySem.Spec PyProof.Rows L2
section
variable {fa : List Chk} {fn : List He.DefD} {K : PySem.W.Frag}
theorem SaysB.fact (c : SaysB fa fn K) (i : Nat) {f : Chk} (h : fa[i]? = some f := by rfl) : f K = true := by
  have c1 := (He.ba (show ((fa.all fun f => f K) && fn.all fun d => d.ok K) = true from congrArg (fun z : He.AlD => z.1) c)).1
  exact List.all_eq_true.mp c1 f (List.mem_of_getElem? h)
theorem SaysB.def_ (c : SaysB fa fn K) (i : Nat) {d : He.DefD} (h : fn[i]? = some d := by rfl) : ∃ fd, FunD K d.name d.qual d.params d.body d.scope (d.dvs K) (d.kws K) (He.fAd K d.at_) fd := by
  have c2 := (He.ba (show ((fa.all fun f => f K) && fn.all fun d => d.ok K) = true from congrArg (fun z : He.AlD => z.1) c)).2
  have e : fn.map (fun d => He.fnW K d.at_) = fn.map He.DefD.val := congrArg (fun z : He.AlD => z.2) c
  have e2 : (fn.map fun d => He.fnW K d.at_)[i]? = (fn.map He.DefD.val)[i]? := by rw [e]
  rw [List.getElem?_map, List.getElem?_map, h] at e2
  exact He.DefD.funD (Option.some.inj e2) (List.all_eq_true.mp c2 d (List.mem_of_getElem? h))
end
section
variable {K : PySem.W.Frag}
theorem ins_ok {x : Str} (c : cIns x K = true) : InsT K x := by
  obtain ⟨c1, c⟩ := He.ba c
  obtain ⟨c2, c⟩ := He.ba c
  obtain ⟨c3, c⟩ := He.ba c
  obtain ⟨c4, c5⟩ := He.ba c
  exact ⟨He.cls_ok c1, He.eqO_ok c2, of_decide_eq_true c3, of_decide_eq_true c4, of_decide_eq_true c5⟩
theorem exc_ok {x : Str} (c : cExc x K = true) : ExcC K (He.ga K x) := by
  obtain ⟨c1, c⟩ := He.ba c
  obtain ⟨c2, c⟩ := He.ba c
  obtain ⟨c3, c⟩ := He.ba c
  obtain ⟨c4, c⟩ := He.ba c
  obtain ⟨c5, c⟩ := He.ba c
  obtain ⟨c6, c⟩ := He.ba c
  obtain ⟨c7, c8⟩ := He.ba c
  exact ⟨He.eqO_ok c1, He.eqO_ok c2, of_decide_eq_true c3, c4, He.eqO_ok c5, of_decide_eq_true c6, of_decide_eq_true c7, of_decide_eq_true c8⟩
theorem mko_ok {x : Str} (c : cMko x K = true) : MkO K (He.ga K x) := by
  obtain ⟨c1, c⟩ := He.ba c
  obtain ⟨c2, c⟩ := He.ba c
  obtain ⟨c3, c4⟩ := He.ba c
  exact ⟨c1, He.eqO_ok c2, of_decide_eq_true c3, c4⟩
theorem oexO_ok {C : Addr} (q : cOexO K C = true) : ∃ nm q N bs bm sn sub ab col dd k0 k1 k2 k3 k5, K.lookup C = some (excClassObj nm q C N bs bm true sn sub ab col dd k0 k1 k2 k3 k5 "ValueError.__new__") ∧ PySem.HandSPX.refsVE bm = true := by
  unfold cOexO at q
  split at q
  · rename_i dd cd sl ho
    split at q
    · rename_i C' bm k0 k1 k2 k3 n k5 hm hs
      simp only [Bool.and_eq_true, beq_iff_eq, Bool.not_eq_true'] at q
      obtain ⟨rfl, rfl, hdel, hdc, hr⟩ := q
      obtain ⟨nm, bs, mro, ns, qn, hd, sn, sub, ab, col, del⟩ := cd
      dsimp only at hm hdel hdc
      subst hm hdel hdc
      have hsl : sl = #[k0, k1, k2, k3, some (.builtin "ValueError.__new__"), k5] := by
        obtain ⟨l⟩ := sl
        simp only at hs
        rw [hs]
      subst hsl
      exact ⟨nm, qn, ns, bs, bm, sn, sub, ab, col, dd, k0, k1, k2, k3, k5, ho, hr⟩
    · cases q
  · cases q
theorem oex_ok {x : Str} (c : cOex x K = true) : OexC K (He.ga K x) := by
  obtain ⟨c1, c⟩ := He.ba c
  obtain ⟨c2, c⟩ := He.ba c
  obtain ⟨c3, c⟩ := He.ba c
  obtain ⟨c4, c5⟩ := He.ba c
  exact ⟨oexO_ok c1, He.eqO_ok c2, of_decide_eq_true c3, of_decide_eq_true c4, c5⟩
theorem no_ok {x y : Str} (c : cNo x y K = true) : PySem.W.findIn K (.ref (He.ga K x)) y = some none := He.eqO_ok c
theorem xf_ok {cs : List Str} {y c : Str} (h : cXf cs y K = true) : c ∈ cs → XfC K (He.ga K c) ∧ PySem.W.findIn K (.ref (He.ga K c)) y = some none := fun hc => by
  obtain ⟨h1, h2⟩ := He.ba (List.all_eq_true.mp h c hc)
  exact ⟨xfB_ok h1, no_ok h2⟩
theorem kit_ok {kt : Kit} (h : cKit kt K = true) : KitOk K kt := by
  obtain ⟨h1, h2⟩ := He.ba h
  exact ⟨fun c hc => ins_ok (List.all_eq_true.mp h1 _ hc), fun t ht c hc => of_decide_eq_true (List.all_eq_true.mp (List.all_eq_true.mp h2 t ht) c hc)⟩
theorem ekit_ok {kt : Kit} (h : cEkit kt K = true) : EKit K kt := by
  obtain ⟨h1, h2⟩ := He.ba h
  exact ⟨fun c hc => exc_ok (List.all_eq_true.mp h1 _ hc), fun t ht c hc => of_decide_eq_true (List.all_eq_true.mp (List.all_eq_true.mp h2 t ht) c hc)⟩
theorem mem_lookup {α : Type} {c : Str} {r : α} : ∀ {ps : List (Str × α)}, ps.lookup c = some r → (c, r) ∈ ps
  | [], e => by cases e
  | (x, y) :: ps, e => by
    rw [List.lookup_cons] at e
    split at e
    · rename_i h
      cases e
      rw [beq_iff_eq.mp h]
      exact List.mem_cons_self ..
    · exact List.mem_cons_of_mem _ (mem_lookup e)
theorem cat_ok {b : Str} {ps : List (Str × Bool)} (h : cCat b ps K = true) : ∀ c r, ps.lookup c = some r → PySem.W.exmOne K (.ref (He.ga K c)) (.ref (He.ga K b)) = some r := fun c r e =>
  of_decide_eq_true (List.all_eq_true.mp h (c, r) (mem_lookup e))
theorem has_ok {X : Cx} {cs : List Str} {y : Str} (h : cHas cs y X.K = true) : HasF X cs y := fun c hc => by
  obtain ⟨h1, h2⟩ := He.ba (List.all_eq_true.mp h c hc)
  exact ⟨He.cls_ok h1, He.noat_ok h2⟩
theorem notF_ok {c : Str} {kt : Kit} (h : cNotF c kt K = true) : ∀ t ∈ kt.tys, PySem.W.notFirst K (He.ga K c) (t.v K) = true := fun t ht => List.all_eq_true.mp h t ht
theorem base_ok {b : Str} (h : cBase b K = true) : PySem.W.specialIn K (.ref (He.ga K b)) "__getattribute__" = some (some (.builtin "type.__getattribute__")) ∧ PySem.W.readsIn K (He.ga K b) (.type "type") = true ∧ PySem.W.findCls K (.ref (He.ga K b)) (.type "type") "__init__" = some (.val (.builtin "ValueError.__init__")) := by
  obtain ⟨h1, h⟩ := He.ba h
  obtain ⟨h2, h3⟩ := He.ba h
  refine ⟨of_decide_eq_true h1, h2, ?_⟩
  split at h3
  · rename_i n e
    rw [e, beq_iff_eq.mp h3]
  · cases h3
end
end Ws
set_option Elab.async false
set_option linter.all false
set_option maxRecDepth 100000
set_option maxHeartbeats 2000000
set_option autoImplicit false
namespace Ws
open PySem PySem.Spec PyProof.Rows L2
def itemsA : D → AH → Out (List D) := fun d h => match d with
  | .lst xs => itemsL (.lst xs) h
  | .tup xs => itemsT (.tup xs) h
  | .str x => itemsS (.str x) h
  | .dcT x => itemsKT (.dcT x) h
  | d => itemsK d h
section
variable {X : Cx} {C : Cf} {ε : Ep} {W : WX} {tg e : Expr} {me : M D} {mr : M (List D)} {p pos tpos : Pos} {elts : List Expr} {kk : Nat}
theorem mi_as {a b : M (List D)} (h : ∀ σ ah, b σ ah ≠ .bad → ∃ c : M (List D), c σ ah = b σ ah ∧ MI X C ε W tg e c) : MI X C ε W tg e b := ⟨fun pins s σ H Q I hh => by
  obtain ⟨sx, dσ, rfl, ex, gd, rs, hh⟩ := hh
  obtain ⟨c, ec, hc⟩ := h dσ sx.ah (fun z => by rw [z] at hh; exact hh)
  exact hc.run pins s σ _ Q I ⟨sx, dσ, rfl, ex, gd, rs, (by rw [ec]; exact hh)⟩⟩
theorem mi_any (hK : X.K = C.K) (he : ME X C ε W e me) (hP : X.prog = C.P := by rfl) (hw : X.w = C.w := by rfl) : MI X C ε W tg e (walk itemsA me) := mi_as (a := walk itemsA me) fun σ ah hb => by
  unfold walk at hb ⊢
  cases q : me σ ah with
  | ok d h1 =>
    cases d with
    | lst xs => exact ⟨walk itemsL me, by unfold walk; rw [q]; rfl, mi_lst hK he⟩
    | tup xs => exact ⟨walk itemsT me, by unfold walk; rw [q]; rfl, mi_tup he⟩
    | str x => exact ⟨walk itemsS me, by unfold walk; rw [q]; rfl, mi_str he⟩
    | dcT x => exact ⟨walk itemsKT me, by unfold walk; rw [q]; rfl, mi_keysT hP hw he⟩
    | _ => exact ⟨walk itemsK me, by unfold walk; rw [q]; rfl, mi_keys he⟩
  | exc x h1 => exact ⟨walk itemsL me, by unfold walk; rw [q]; rfl, mi_lst hK he⟩
  | bad => rw [q] at hb; exact absurd rfl hb
end
/-- one of two, as a truth -/
def orT (a b : M Bool) : M Bool := fun σ h => match a σ h with
  | .bad => b σ h
  | o => o
theorem mt_orT {X : Cx} {C : Cf} {ε : Ep} {W : WX} {e : Expr} {a b : M Bool} (ha : MT X C ε W e a) (hb : MT X C ε W e b) : MT X C ε W e (orT a b) := ⟨fun pins s σ H Q I h => by
  obtain ⟨sx, dσ, rfl, ex, gd, rs, h⟩ := h
  unfold orT at h
  cases q : a dσ sx.ah with
  | bad => rw [q] at h; exact hb.run pins s σ _ Q I ⟨sx, dσ, rfl, ex, gd, rs, h⟩
  | ok => rw [q] at h; exact ha.run pins s σ _ Q I ⟨sx, dσ, rfl, ex, gd, rs, (by rw [q]; exact h)⟩
  | exc => rw [q] at h; exact ha.run pins s σ _ Q I ⟨sx, dσ, rfl, ex, gd, rs, (by rw [q]; exact h)⟩⟩
def catOf (ps : List (Str × Bool)) (c : Str) : Option Bool := ps.lookup c
def blkB (N : List Str) (sc scope : Scope) (own : List (Str × Nat)) : Bool := (scope.names.all fun y => decide (scope.names.lookup y.1 = some y.2)) && ((own.all fun p => decide (N[p.2]? = some p.1)) && ((scope.names.all fun y => decide (y.2 ≠ .free) || (decide (sc.names.lookup y.1 = some .cell) || decide (sc.names.lookup y.1 = some .free))) &&
  scope.names.all fun y => decide (y.2 ≠ .local ∧ y.2 ≠ .cell) || (decide (y.1 ∈ own.map (·.1)) || decide (y.1 ∉ N))))
theorem blk_of {N : List Str} {sc scope : Scope} {own : List (Str × Nat)} (hk : scope.kind = .function) (h : blkB N sc scope own = true) : BlkOk N sc scope own := by
  obtain ⟨h1, h⟩ := He.ba h
  obtain ⟨h2, h⟩ := He.ba h
  obtain ⟨h3, h4⟩ := He.ba h
  refine ⟨hk, fun y hy => of_decide_eq_true (List.all_eq_true.mp h1 y hy), fun p hp => of_decide_eq_true (List.all_eq_true.mp h2 p hp), fun y hy e => ?_, fun y hy e => ?_⟩
  · have z := List.all_eq_true.mp h3 y hy
    simp only [Bool.or_eq_true, decide_eq_true_eq] at z
    rcases z with z | z
    · exact absurd e z
    · exact z
  · have z := List.all_eq_true.mp h4 y hy
    simp only [Bool.or_eq_true, decide_eq_true_eq] at z
    rcases z with z | z
    · rcases e with e | e
      · exact absurd e z.1
      · exact absurd e z.2
    · exact z
def TgLen (t : Tgs) (n : Nat) : Prop := ∀ ds dσ h, t ds dσ h ≠ .bad → ds.length = n
theorem tgl_nil : TgLen tgNil 0 := fun ds dσ h e => by
  cases ds with
  | nil => rfl
  | cons => exact absurd rfl e
theorem tgl_cons {i : Nat} {t : Tgs} {n : Nat} (k : TgLen t n) : TgLen (tgCons (tgN i) t) (n + 1) := fun ds dσ h e => by
  cases ds with
  | nil => exact absurd rfl e
  | cons d ds => exact congrArg Nat.succ (k ds _ _ e)
section
variable {K : PySem.W.Frag}
theorem meth_ok {c m : Str} {p : Str × Option Str} (h : cMeth c m p K = true) : Meth K (He.ga K c) m (He.fAd K p) := by
  obtain ⟨c1, h⟩ := He.ba h
  obtain ⟨c2, c3⟩ := He.ba h
  exact ⟨He.eqO_ok c1, c2, c3⟩
theorem mk_ok {c : Str} {p : Str × Option Str} (h : cMk c p K = true) : Mk K (He.ga K c) (He.fAd K p) := by
  obtain ⟨c1, h⟩ := He.ba h
  obtain ⟨c2, h⟩ := He.ba h
  obtain ⟨c3, c4⟩ := He.ba h
  exact ⟨c1, He.eqO_ok c2, c3, c4⟩
theorem oexI_ok {c : Str} {p : Str × Option Str} (h : cOexI c p K = true) : PySem.W.findIn K (.ref (He.ga K c)) "__init__" = some (some (.ref (He.fAd K p))) ∧ PySem.W.typeIn K (.ref (He.fAd K p)) = some (.type "function") := by
  obtain ⟨c1, c2⟩ := He.ba h
  exact ⟨He.eqO_ok c1, of_decide_eq_true c2⟩
/-- all but the tables stays -/
def noTab (H : Hp) : Hp := fun a => match H a with
  | some (.tbl _) => none
  | o => o
theorem noTab_of {H : Hp} {a : Addr} {o : HO} (e : H a = some o) (n : NT o) : noTab H a = some o := by
  unfold noTab
  rw [e]
  cases o with
  | tbl ps => exact absurd rfl (n ps)
  | _ => rfl
theorem noTab_sub (H : Hp) : Sub (noTab H) H := fun a o e => by
  unfold noTab at e
  split at e
  · cases e
  · exact e
theorem noTab_sqL {K : PySem.W.Frag} {H : Hp} {a : Addr} {xs : List V} (h : SqL K H a xs) : SqL K (noTab H) a xs := by
  rcases h with (h | ⟨o, h⟩) | h
  · exact .inl (.inl (noTab_of h (fun _ z => nomatch z)))
  · exact .inl (.inr ⟨o, noTab_of h (fun _ z => nomatch z)⟩)
  · exact .inr h
theorem spM_lawT {C : Cf} {f : List D → AH → Out D} {H : Hp} {a : Addr} {ns : List Int} (hT : ∀ p ∈ C.T, H p.1 = some (.tbl #[])) (hS : SqL C.K H a (ns.map V.int)) {h' : AH} (e : f [.scr ns] [] = .ok (.bl true) h') : spM C 1 f [.ref a] H (fun v _ => v = .bl true) fun _ _ _ => False := by
  refine ⟨⟨noTab H, ⟨fun _ => none, none⟩, H, []⟩, [.scr ns], rfl, rfl, ⟨noTab_sub H, fun _ _ e => noTab_of e (fun _ z => nomatch z), fun n ob e => by simp [AH.get] at e, fun n m a k => by simp [AH.get] at k, fun _ _ => rfl, fun p hp => ⟨#[], hT p hp, ?_, True.intro, fun pos cv hc => ?_⟩⟩, ?_, rfl, ?_⟩
  · show noTab H p.1 = none
    unfold noTab
    rw [hT p hp]
  · have z : codeAmong pos [] = some cv := hc
    simp [codeAmong] at z
  · unfold Rs
    refine ⟨_, [], rfl, ?_, by unfold Rs; rfl⟩
    unfold R
    exact ⟨a, rfl, noTab_sqL hS⟩
  · show Post C _ _ _ _ _ (f [.scr ns] [])
    rw [e]
    exact fun s' v _ _ _ r => r.bl_eq
theorem spM_law {C : Cf} (nT : C.T = []) {f : List D → AH → Out D} {H : Hp} {a : Addr} {ns : List Int} (hS : SqL C.K H a (ns.map V.int)) {h' : AH} (e : f [.scr ns] [] = .ok (.bl true) h') : spM C 1 f [.ref a] H (fun v _ => v = .bl true) fun _ _ _ => False := by
  exact spM_lawT (fun p hp => by rw [nT] at hp; cases hp) hS e
end
/-- a def that lets nothing out -/
theorem fn_quiet {C : Cf} {mg : Str → Option Value} {base : Heap} {k n : Nat} {f : Addr} {fd : FuncData} {ps : List Str} {g : List D → AH → Out D} (F : FnOk C.P C.w C.K mg base (L2.CX C.P C.w) k f fd ps (spM C n g)) :
    FnOk C.P C.w C.K mg base (fun _ _ _ _ _ _ => False) k f fd ps (fun vs H Q _ => spM C n g vs H Q fun _ _ _ => False) := by
  refine ⟨fun vs H Q E h => F.len vs H Q _ h, fun A outer s H args us vs Q E hr he hb hv hs => ?_⟩
  refine codeAny_mono (F.run A outer s H args us vs Q _ hr he hb hv hs) fun r s' h => ?_
  cases r with
  | error e =>
    obtain ⟨_, _, _, _, _, _, _, _, _, _, _, _, z⟩ := h
    exact z.elim
  | ok fl => cases fl <;> exact h
theorem fun_same {K : PySem.W.Frag} {x x' qual qual' : Str} {params params' : Arguments} {body body' : List Stmt} {scope scope' : Scope} {dvs dvs' : List V} {kws kws' : List (Str × V)} {f : Addr} {fd fd' : FuncData} (F : FunD K x qual params body scope dvs kws f fd) (F' : FunD K x' qual' params' body' scope' dvs' kws' f fd') : fd = fd' := by
  obtain ⟨oc, od, dV, kV, doc, pm, an, cdv, ct, osl, e1, l1, _⟩ := F.ex
  obtain ⟨oc', od', dV', kV', doc', pm', an', cdv', ct', osl', e2, l2, _⟩ := F'.ex
  rw [l1] at l2
  injection l2 with l2
  injection l2 with a b c d
  injection c
end Ws
set_option Elab.async false
set_option linter.all false
set_option maxRecDepth 100000
set_option maxHeartbeats 2000000
set_option autoImplicit false
namespace Ws
open PySem
mutual
def fit : Nat → D → Bool
  | _, .non => true
  | _, .bl _ => true
  | _, .int _ => true
  | _, .str x => PyData.canLay0 (.str x)
  | n + 1, .tup xs => fits n xs
  | n + 1, .lst xs => fits n xs
  | _, _ => false
def fits : Nat → List D → Bool
  | _, [] => true
  | n, d :: ds => fit n d && fits n ds
end
mutual
theorem fit_py : ∀ {n : Nat} {d : D}, fit n d = true → ∃ p, toPy d = some p ∧ p.canLay0 = true ∧ p.depth ≤ n
  | n, .non, h => ⟨.none, by unfold toPy; rfl, by unfold PyData.canLay0; rfl, by unfold PyData.depth; omega⟩
  | n, .bl b, h => ⟨.bool b, by unfold toPy; rfl, by unfold PyData.canLay0; rfl, by unfold PyData.depth; omega⟩
  | n, .int b, h => ⟨.int b, by unfold toPy; rfl, by unfold PyData.canLay0; rfl, by unfold PyData.depth; omega⟩
  | n, .str b, h => ⟨.str b, by unfold toPy; rfl, by unfold fit at h; exact h, by unfold PyData.depth; omega⟩
  | n + 1, .tup xs, h => by
    unfold fit at h
    obtain ⟨ps, e, a, b⟩ := fits_py h
    exact ⟨.tuple ps, by unfold toPy; rw [e]; rfl, by unfold PyData.canLay0; exact a, by unfold PyData.depth; omega⟩
  | n + 1, .lst xs, h => by
    unfold fit at h
    obtain ⟨ps, e, a, b⟩ := fits_py h
    exact ⟨.list ps, by unfold toPy; rw [e]; rfl, by unfold PyData.canLay0; exact a, by unfold PyData.depth; omega⟩
  | 0, .tup xs, h => by unfold fit at h; cases h
  | 0, .lst xs, h => by unfold fit at h; cases h
  | n, .ty _, h | n, .glo _, h | n, .dct _, h | n, .dcT _, h | n, .ins _ _, h | n, .set _, h | n, .scr _, h | n, .cell _, h | n, .exn _ _, h | n, .lam _, h | n, .seT _, h | n, .exv _ _ _, h | n, .odc _ _, h => by unfold fit at h; cases h
theorem fits_py : ∀ {n : Nat} {d : List D}, fits n d = true → ∃ p, toPys d = some p ∧ PyData.canLayAll0 p = true ∧ PyData.depthAll p ≤ n
  | n, [], h => ⟨[], by unfold toPys; rfl, by unfold PyData.canLayAll0; rfl, by unfold PyData.depthAll; omega⟩
  | n, d :: ds, h => by
    unfold fits at h
    obtain ⟨h1, h2⟩ := Bool.and_eq_true_iff.mp h
    obtain ⟨p, e1, a1, b1⟩ := fit_py h1
    obtain ⟨ps, e2, a2, b2⟩ := fits_py h2
    exact ⟨p :: ps, by unfold toPys; rw [e1, e2], by unfold PyData.canLayAll0; rw [a1, a2]; rfl, by unfold PyData.depthAll; omega⟩
end
def eqB (x y : D) : Bool := match toPy x, toPy y with
  | some p, some q => PyData.eqv p q
  | _, _ => false
theorem gEq_of {x y : D} {h : AH} (hx : fit 64 (seen x h) = true) (hy : fit 64 (seen y h) = true) : gEqD x y h = .ok (.bl (eqB (seen x h) (seen y h))) h := by
  obtain ⟨p, e1, a1, b1⟩ := fit_py hx
  obtain ⟨q, e2, a2, b2⟩ := fit_py hy
  unfold gEqD eqB
  rw [e1, e2]
  have s1 : SeqAt.shaped p = true := by unfold SeqAt.shaped; rw [a1, decide_eq_true b1]; rfl
  have s2 : SeqAt.shaped q = true := by unfold SeqAt.shaped; rw [a2, decide_eq_true b2]; rfl
  simp only [s1, s2, Bool.and_self, if_true]
theorem eqB_self {n : Nat} {x : D} (hx : fit n x = true) : eqB x x = true := by
  obtain ⟨p, e1, a1, b1⟩ := fit_py hx
  unfold eqB
  rw [e1]
  first | exact PySem.eqv_refl p a1 | exact PySem.PyData.eqv_refl p a1 | exact PySem.SeqAt.eqv_refl p a1
theorem gEq_self {x y : D} {h : AH} (e : seen x h = seen y h) (hx : fit 64 (seen x h) = true) : gEqD x y h = .ok (.bl true) h := by
  rw [gEq_of hx (by rw [← e]; exact hx), ← e, eqB_self hx]
@[simp] theorem gEq_int (i j : Int) (h : AH) : gEqD (.int i) (.int j) h = .ok (.bl (decide (i = j))) h := by
  rw [gEq_of (by rfl) (by rfl)]
  simp [eqB, seen, toPy, PyData.eqv]
  by_cases e : i = j <;> simp [e]
theorem eqB_nil {n : Nat} {xs : List D} (hx : fits n xs = true) : eqB (.lst xs) (.lst []) = xs.isEmpty := by
  obtain ⟨ps, e, a, b⟩ := fits_py hx
  unfold eqB toPy
  rw [e]
  cases xs with
  | nil => unfold toPys at e; cases e; simp [toPys, PyData.eqv, PyData.eqvAll]
  | cons d ds =>
    unfold toPys at e
    split at e
    · cases e; simp [toPys, PyData.eqv, PyData.eqvAll]
    · cases e
theorem fits_all : ∀ {n : Nat} {xs : List D}, (∀ d ∈ xs, fit n d = true) → fits n xs = true
  | n, [], _ => by unfold fits; rfl
  | n, d :: ds, h => by
    unfold fits
    rw [h d (List.mem_cons_self ..), fits_all fun x hx => h x (List.mem_cons_of_mem _ hx)]; rfl
theorem blsOf_map : ∀ bs : List Bool, blsOf (bs.map .bl) = some bs
  | [] => rfl
  | b :: bs => by simp [blsOf, blsOf_map bs]
section
variable {a b k : SM} {σ σ' : Sl} {h h' : AH} {m : M D} {c : M Bool} {d : D} {i : Nat}
theorem seq_nx (e : a σ h = .nx σ' h') : seqS a b σ h = b σ' h' := by unfold seqS; rw [e]
theorem seq_asg (e : m σ h = .ok d h') : seqS (asg m (tgN i)) b σ h = b (σ.set i (some d)) h' := by unfold seqS asg; rw [e]; rfl
theorem bin_ok {g : D → D → AH → Out D} {x y : M D} {u v : D} {h1 h2 : AH} (e1 : x σ h = .ok u h1) (e2 : y σ h1 = .ok v h2) : Ws.bin g x y σ h = g u v h2 := by unfold Ws.bin; rw [e1]; simp only [Out.bind_ok]; rw [e2]; rfl
theorem fn_rt {n : Nat} {m : SM} {ds : List D} (e : m (startD n ds) h = .rt d h') (p : pureD h.length d = true) (q : pureH h.length (h'.take h.length) = true) : fn n m ds h = .ok d (h'.take h.length) := by
  unfold fn
  rw [e]
  show (if pureD h.length d = true ∧ pureH h.length (h'.take h.length) = true then Out.ok d (h'.take h.length) else .bad) = _
  rw [if_pos ⟨p, q⟩]
theorem fn_rt0 {n : Nat} {m : SM} {ds : List D} (e : m (startD n ds) [] = .rt d h') (p : pureD 0 d = true) : fn n m ds [] = .ok d [] := fn_rt (h := []) e p rfl
/-- at a call without cells -/
theorem cal_pure {n : Nat} {g : List D → AH → Out D} {ds : List D} {h0 : AH} (l : ds.length = n) (p : pureDs 0 ds = true) (e : g ds [] = .ok d h0) (q : pureD 0 d = true) : cal n [] g ds h = .ok d h := by
  unfold cal callN call
  rw [List.append_nil, if_pos l, if_pos p, e]
  show (if pureD 0 d = true then Out.ok d h else .bad) = _
  rw [if_pos q]
theorem cal_cell {n : Nat} {g : List D → AH → Out D} {ds : List D} (l : ds.length = n) (p : pureDs 0 ds = false) : cal n [] g ds h = g ds h := by
  unfold cal callN call
  rw [List.append_nil, if_pos l, if_neg (by rw [p]; exact Bool.false_ne_true)]
theorem rng_nat {n : Nat} (hn : n < 1000000) (h : AH) : rng1 [.int n] h = .ok ((List.range n).map fun (i : Nat) => D.int (0 + (i : Int))) h := by
  unfold rng1
  dsimp only
  rw [if_pos (by omega), Int.toNat_natCast]
  simp only [Int.zero_add]
theorem for_at {mi : M (List D)} {t : Tg} {m : SM} {o : SOut} {ds : List D} (e : mi σ h = .ok ds h') (g : forGo keepAll t m ds σ h' = o) : forS mi t m σ h = o := by
  unfold forS
  rw [e]
  exact g
end
end Ws
set_option Elab.async false
set_option linter.all false
set_option maxRecDepth 100000
set_option maxHeartbeats 2000000
set_option autoImplicit false
namespace Ws
open PySem PySem.Spec L2
/-- what is gone through: a text, a list, a tuple -/
inductive Sq where
  | txt (x : Str) (t : Tok) | lst (a : Addr) | tup (a : Addr)
def Sq.v : Sq → Value
  | .txt x t => .str x t
  | .lst a => .ref a
  | .tup a => .ref a
def Sq.at (H : Hp) : Sq → List V → Prop
  | .txt x _, xs => xs = x.cps.toList.map fun c => V.str ⟨#[c]⟩
  | .lst a, xs => H a = some (.lst xs)
  | .tup a, xs => TupP H a xs
def Sq.st (it : Addr) (i : Nat) (h : Heap) : Sq → Prop
  | .txt x t => h.IsStrIter it (strIterType x) x t i
  | .lst a => h.IsListIter it a i
  | .tup a => h.IsTupleIter it a i
theorem Sq.keep {q : Sq} {it : Addr} {i : Nat} {h h' : Heap} (st : q.st it i h) (k : ∀ o, h.get? it = some o → h'.get? it = some o) : q.st it i h' := by
  cases q with
  | txt x t => obtain ⟨o, ho, r⟩ := st; exact ⟨o, k o ho, r⟩
  | lst a => exact Heap.IsListIter.at st k
  | tup a => exact Heap.IsTupleIter.at st k
theorem Sq.there {q : Sq} {it : Addr} {i : Nat} {h : Heap} (st : q.st it i h) : ∃ o, h.get? it = some o ∧ ∀ v, o.data ≠ .cell v := by
  cases q with
  | txt x t => obtain ⟨o, ho, _, hd⟩ := st; exact ⟨o, ho, fun v z => by rw [hd] at z; cases z⟩
  | lst a => obtain ⟨o, ho, _, hd⟩ := st; exact ⟨o, ho, fun v z => by rw [hd] at z; cases z⟩
  | tup a => obtain ⟨o, ho, _, hd⟩ := st; exact ⟨o, ho, fun v z => by rw [hd] at z; cases z⟩
theorem Sq.inj {H : Hp} {q : Sq} {xs ys : List V} (h1 : q.at H xs) (h2 : q.at H ys) : xs = ys := by
  cases q with
  | txt x t => exact h1.trans h2.symm
  | lst a =>
    have e : some (HO.lst xs) = some (HO.lst ys) := h1.symm.trans h2
    injection e with e; injection e
  | tup a =>
    obtain ⟨o, e1, _⟩ := (show TupP H a xs from h1)
    obtain ⟨o', e2, _⟩ := (show TupP H a ys from h2)
    rw [e1] at e2
    injection e2 with e; injection e with _ e; injection e
theorem vals_got : ∀ {xs : List V} {us : List Value} {i : Nat} {u : Value}, Vals xs us → us[i]? = some u → ∃ x, xs[i]? = some x ∧ RelV x u
  | _, _, i, u, .nil, e => by simp at e
  | _, _, 0, u, .cons r _, e => by simp at e; subst e; exact ⟨_, rfl, r⟩
  | _, _, i + 1, u, .cons _ rr, e => by
    obtain ⟨x, h1, h2⟩ := vals_got (i := i) rr (by simpa using e)
    exact ⟨x, by simpa using h1, h2⟩
/-- how its iterator draws, at this moment -/
theorem Sq.draws {X : Cx} {pins : List (Addr × Obj)} {σ : L2.St} {H : Hp} {s : Shared} {q : Sq} {it : Addr} {i : Nat} {xs : List V} (hc : X.calm = true) (I : Inv X pins σ H s) (hs : q.at H xs) (st : q.st it i s.heap) (hn : H it = none) :
    ∃ (fp : List Addr) (P : Nat → Value → Prop) (St : Nat → Heap → Prop), Draws X.prog X.w X.A.in1 it fp xs.length P St ∧ St i s.heap ∧ (∀ i v, P i v → ∃ x, xs[i]? = some x ∧ RelV x v) ∧ (∀ i h, St i h → q.st it i h) ∧ it ∈ fp ∧ ∀ b ∈ fp, b = it ∨ H b ≠ none := by
  have hh : X.A.in1.handled = none := I.ok.hd hc
  cases q with
  | txt x t =>
    have hs : xs = x.cps.toList.map fun c => V.str ⟨#[c]⟩ := hs
    subst hs
    refine ⟨[it], (fun i v => ∃ c u, x.cps[i]? = some c ∧ v = .str ⟨#[c]⟩ u), (fun i h => h.IsStrIter it (strIterType x) x t i), ?_, st, ?_, fun _ _ z => z, by simp, fun b hb => .inl (by simpa using hb)⟩
    · rw [List.length_map, Array.length_toList]
      exact Draws.text hh it x t
    · rintro i v ⟨c, u, e, rfl⟩
      exact ⟨.str ⟨#[c]⟩, by rw [List.getElem?_map, Array.getElem?_toList, e]; rfl, ⟨u, rfl⟩⟩
  | lst a =>
    have hs : H a = some (.lst xs) := hs
    obtain ⟨its, rv, p, hz⟩ := I.list (SqL.of hs)
    have ne : a ≠ it := fun z => by rw [z, hn] at hs; cases hs
    refine ⟨[it, a], (fun i v => its.toArray[i]? = some v), (fun i h => h.IsListIter it a i ∧ h.IsList a its.toArray), ?_, ⟨st, p.isList⟩, ?_, fun _ _ z => z.1, by simp, fun b hb => ?_⟩
    · have e : xs.length = its.toArray.size := by rw [rv.length]; simp
      rw [e]
      exact Draws.list hh it a ne its.toArray
    · intro i v e
      have e : its[i]? = some v := by simpa using e
      exact vals_got rv e
    · rcases (by simpa using hb : b = it ∨ b = a) with z | z
      · exact .inl z
      · exact .inr (by rw [z, hs]; exact fun z => nomatch z)
  | tup a =>
    have hs : TupP H a xs := hs
    obtain ⟨its, rv, p, hz⟩ := I.tuple hs.sq
    obtain ⟨ob, hs, _⟩ := hs
    have ne : a ≠ it := fun z => by rw [z, hn] at hs; cases hs
    refine ⟨[it, a], (fun i v => its.toArray[i]? = some v), (fun i h => h.IsTupleIter it a i ∧ h.IsTuple a its.toArray), ?_, ⟨st, p⟩, ?_, fun _ _ z => z.1, by simp, fun b hb => ?_⟩
    · have e : xs.length = its.toArray.size := by rw [rv.length]; simp
      rw [e]
      exact Draws.tuple hh it a ne its.toArray
    · intro i v e
      have e : its[i]? = some v := by simpa using e
      exact vals_got rv e
    · rcases (by simpa using hb : b = it ∨ b = a) with z | z
      · exact .inl z
      · exact .inr (by rw [z, hs]; exact fun z => nomatch z)
/-- both as they stand at each turn, the items in new pairs -/
def ItzG (q1 q2 : Sq) (l1 l2 : Nat) : It :=
  ⟨fun i H => ∃ (xs ys : List V) (x y : V), q1.at H xs ∧ q2.at H ys ∧ xs.length = l1 ∧ ys.length = l2 ∧ xs[i]? = some x ∧ ys[i]? = some y,
    fun i H v H' => ∃ T x y, v = .ref T ∧ H T = none ∧ H' = upd H T (.tup [x, y]) ∧ (∀ xs, q1.at H xs → xs[i]? = some x) ∧ ∀ ys, q2.at H ys → ys[i]? = some y,
    fun i H => ∃ xs ys : List V, q1.at H xs ∧ q2.at H ys ∧ xs.length = l1 ∧ ys.length = l2 ∧ min l1 l2 ≤ i⟩
structure Apart5 (z TI TO i1 i2 : Addr) : Prop where
  a : TI ≠ z
  b : TO ≠ z
  c : TI ≠ TO
  d : TI ≠ i1
  e : TI ≠ i2
  f : z ≠ i1
  g : z ≠ i2
  h : TO ≠ i1
  i : TO ≠ i2
  j : i1 ≠ i2
theorem ap5 (n : Nat) : Apart5 (n + 4) (n + 2) (n + 3) n (n + 1) :=
  ⟨fun z => by have z : n + 2 = n + 4 := z; omega, fun z => by have z : n + 3 = n + 4 := z; omega, fun z => by have z : n + 2 = n + 3 := z; omega, fun z => by have z : n + 2 = n := z; omega, fun z => by have z : n + 2 = n + 1 := z; omega,
    fun z => by have z : n + 4 = n := z; omega, fun z => by have z : n + 4 = n + 1 := z; omega, fun z => by have z : n + 3 = n := z; omega, fun z => by have z : n + 3 = n + 1 := z; omega, fun z => by have z : n = n + 1 := z; omega⟩
theorem turn_zipG {P : Program} {w : World} {K : PySem.W.Frag} {elts : List Expr} {kk : Nat} {tpos : Pos} {z TI TO i1 i2 : Addr} (q1 q2 : Sq) (l1 l2 : Nat) (D : Apart5 z TI TO i1 i2) :
    Turn P w K (.Tuple elts kk tpos) (ItzG q1 q2 l1 l2) [z, TI, TO, i1, i2] z (fun i h => IsZip h z TI TO .none ∧ IsTupOf2 h TI (.ref i1) (.ref i2) ∧ (∃ x y, IsTupOf2 h TO x y) ∧ q1.st i1 i h ∧ q2.st i2 i h ∧ i ≤ min l1 l2) where
  mem := by simp
  obj := fun i h st c hc => by
    obtain ⟨hz, hTI, ⟨x, y, hTO⟩, s1, s2, _⟩ := st
    have e' : c = z ∨ c = TI ∨ c = TO ∨ c = i1 ∨ c = i2 := by simpa using hc
    rcases e' with q | q | q | q | q
    · rw [q]; exact ⟨_, hz, fun v q => nomatch q⟩
    · rw [q]; exact ⟨_, hTI, fun v q => nomatch q⟩
    · rw [q]; exact ⟨_, hTO, fun v q => nomatch q⟩
    · rw [q]; exact Sq.there s1
    · rw [q]; exact Sq.there s2
  keep := fun i h h' st k => by
    obtain ⟨hz, hTI, ⟨x, y, hTO⟩, h1, h2, hle⟩ := st
    exact ⟨k z (by simp) _ hz, k TI (by simp) _ hTI, ⟨x, y, k TO (by simp) _ hTO⟩, Sq.keep h1 fun o q => k i1 (by simp) o q, Sq.keep h2 fun o q => k i2 (by simp) o q, hle⟩
  item := by
    intro X hP hw hK hc i pins s σ H E I hf st hg
    subst hP hw hK
    obtain ⟨hz, hTI, ⟨x0, y0, hTO⟩, s1, s2, hle⟩ := st
    obtain ⟨xs, ys, x, y, hqx, hqy, n1, n2, hx, hy⟩ := hg
    have nz : ∀ b ∈ [z, TI, TO, i1, i2], H b = none := fun b hb => (hf b hb).1
    obtain ⟨fp1, P1, St1, D1, t1, p1, k1, m1, f1⟩ := Sq.draws hc I hqx s1 (nz i1 (by simp))
    obtain ⟨fp2, P2, St2, D2, t2, p2, k2, m2, f2⟩ := Sq.draws hc I hqy s2 (nz i2 (by simp))
    have out1 : ∀ b ∈ [z, TI, TO, i1, i2], b ≠ i1 → b ∉ fp1 := fun b hb hne hm => (f1 b hm).elim hne fun z => z (nz b hb)
    have out2 : ∀ b ∈ [z, TI, TO, i1, i2], b ≠ i2 → b ∉ fp2 := fun b hb hne hm => (f2 b hm).elim hne fun z => z (nz b hb)
    have S : ZipSep2 z TI TO i1 i2 fp1 fp2 := ⟨D.a, D.b, D.c, D.d, m1, out1 z (by simp) D.f, out1 TO (by simp) D.h, D.e, m2, out2 z (by simp) D.g, out2 TO (by simp) D.i, out2 i1 (by simp) D.j, out1 i2 (by simp) (Ne.symm D.j)⟩
    have hzl : z < s.heap.objs.size := Heap.lt_size hz
    have l1 : i < xs.length := (List.getElem?_eq_some_iff.mp hx).1
    have l2 : i < ys.length := (List.getElem?_eq_some_iff.mp hy).1
    refine wpAny_pyNext_zipD2_item S D1 D2 hz hTI hTO t1 t2 l1 l2 fun u u2 h' tk r1 r2 z' TO' h1' h2' hT hsz hk => ?_
    obtain ⟨x', e1, ru⟩ := p1 i u r1
    obtain ⟨y', e2, ru2⟩ := p2 i u2 r2
    rw [hx] at e1; cases e1
    rw [hy] at e2; cases e2
    refine ⟨_, rfl, wpAny_letOwnedTupleGo_zip (s := { s with heap := h', toks := tk }) z' fun h'' z'' sb => ?_⟩
    have hT2 : h''.get? s.heap.objs.size = some { cls := .type "tuple", data := .seq #[u, u2] } := (sb.2 _ (Nat.ne_of_gt hzl)).trans hT
    have new : ObjOk X.prog X.w (upd H s.heap.objs.size (.tup [x, y])) h'' s.heap.objs.size (.tup [x, y]) :=
      ⟨by show 2 ≤ sizeLine; decide, [u, u2], .cons ru (.cons ru2 .nil), ⟨_, hT2, rfl, _, rfl⟩⟩
    have I1 : Inv X pins σ (upd H s.heap.objs.size (.tup [x, y])) { s with heap := h'', toks := tk } :=
      I.turnedNew (t' := tk) (ch := [z, TI, TO, i1, i2]) (fun c o hb q => (sb.2 c (fun q' => hb (by simp [q']))).trans (hk c o (fun q' => hb (by simp [q'])) (fun q' => hb (by simp [q'])) (fun q' => hb (by simp [q'])) (fun q' => hb (by simp [q'])) q)) hf (Nat.le_refl _) new
    refine ⟨.ref s.heap.objs.size, _, I1, rfl, ⟨_, x, y, rfl, I.hok.fresh (Nat.le_refl _), rfl, fun l hl => by rw [Sq.inj hl hqx]; exact hx, fun l hl => by rw [Sq.inj hl hqy]; exact hy⟩, ⟨z'', ?_, ⟨u, u2, ?_⟩, ?_, ?_, by omega⟩, fun c hcm => ?_⟩
    · exact (sb.2 _ D.a).trans (hk _ _ D.a D.c D.d D.e hTI)
    · exact (sb.2 _ D.b).trans TO'
    · exact Sq.keep (k1 _ _ h1') fun o q => (sb.2 _ (Ne.symm D.f)).trans q
    · exact Sq.keep (k2 _ _ h2') fun o q => (sb.2 _ (Ne.symm D.g)).trans q
    · have hlt : c < s.heap.objs.size := by
        have e' : c = z ∨ c = TI ∨ c = TO ∨ c = i1 ∨ c = i2 := by simpa using hcm
        rcases e' with q | q | q | q | q
        · rw [q]; exact hzl
        · rw [q]; exact Heap.lt_size hTI
        · rw [q]; exact Heap.lt_size hTO
        · rw [q]; obtain ⟨_, e1, _⟩ := Sq.there s1; exact Heap.lt_size e1
        · rw [q]; obtain ⟨_, e2, _⟩ := Sq.there s2; exact Heap.lt_size e2
      rw [upd_ne (Nat.ne_of_lt hlt)]
      exact (hf c hcm).1
  done := by
    intro X hP hw hK hc i pins s σ H E I hf st hg
    subst hP hw hK
    obtain ⟨hz, hTI, ⟨x0, y0, hTO⟩, s1, s2, hle⟩ := st
    obtain ⟨xs, ys, hqx, hqy, n1, n2, hend⟩ := hg
    subst n1 n2
    have le1 : i ≤ xs.length := by omega
    have le2 : i ≤ ys.length := by omega
    have hend : i = xs.length ∨ i = ys.length := by omega
    have nz : ∀ b ∈ [z, TI, TO, i1, i2], H b = none := fun b hb => (hf b hb).1
    obtain ⟨fp1, P1, St1, D1, t1, p1, k1, m1, f1⟩ := Sq.draws hc I hqx s1 (nz i1 (by simp))
    obtain ⟨fp2, P2, St2, D2, t2, p2, k2, m2, f2⟩ := Sq.draws hc I hqy s2 (nz i2 (by simp))
    have out1 : ∀ b ∈ [z, TI, TO, i1, i2], b ≠ i1 → b ∉ fp1 := fun b hb hne hm => (f1 b hm).elim hne fun z => z (nz b hb)
    have out2 : ∀ b ∈ [z, TI, TO, i1, i2], b ≠ i2 → b ∉ fp2 := fun b hb hne hm => (f2 b hm).elim hne fun z => z (nz b hb)
    have S : ZipSep2 z TI TO i1 i2 fp1 fp2 := ⟨D.a, D.b, D.c, D.d, m1, out1 z (by simp) D.f, out1 TO (by simp) D.h, D.e, m2, out2 z (by simp) D.g, out2 TO (by simp) D.i, out2 i1 (by simp) D.j, out1 i2 (by simp) (Ne.symm D.j)⟩
    exact wpAny_pyNext_zipD2_end S D1 D2 hz hTI hTO t1 t2 le1 le2 hend fun h' tk hk => ⟨rfl, I.turnedL (t' := tk) (ch := [z, TI, TO, i1, i2]) (fun c o hb q =>
      hk c o (fun q' => hb (by simp [q'])) (fun q' => hb (by simp [q'])) (fun q' => hb (by simp [q'])) (fun q' => hb (by simp [q'])) q) hf⟩
  self := fun A i s Q E st h => wpAny_pyIter_zip st.1 h
theorem Sq.begins {X : Cx} {pins : List (Addr × Obj)} {σ : L2.St} {H : Hp} {s : Shared} {q : Sq} {xs : List V} (I : Inv X pins σ H s) (hs : q.at H xs) : ∃ (o : Obj) (Hh : Heap → Prop), Begins q.v o Hh ∧ Hh s.heap ∧ ∀ (h' : Heap) (it : Addr), h'.get? it = some o → q.st it 0 h' := by
  cases q with
  | txt x t => exact ⟨_, _, begins_text x t, trivial, fun h' it e => ⟨_, e, rfl, rfl⟩⟩
  | lst a =>
    obtain ⟨its, rv, p, hz⟩ := I.list (SqL.of (show H a = some (.lst xs) from hs))
    exact ⟨_, _, begins_list a its.toArray, p.isList, fun h' it e => ⟨_, e, rfl, rfl⟩⟩
  | tup a =>
    obtain ⟨its, rv, p, hz⟩ := I.tuple (show TupP H a xs from hs).sq
    exact ⟨_, _, begins_tuple a its.toArray, p, fun h' it e => ⟨_, e, rfl, rfl⟩⟩
/-- a value that can be gone through -/
def SqV (H : Hp) (v : V) (xs : List V) : Prop := (∃ x : Str, v = .str x ∧ xs = x.cps.toList.map fun c => V.str ⟨#[c]⟩) ∨ ∃ a : Addr, v = .ref a ∧ (H a = some (.lst xs) ∨ TupP H a xs)
def SqIs (H : Hp) (v : V) : Sq → Prop
  | .txt x _ => v = .str x
  | .lst a => v = .ref a ∧ ∃ xs, H a = some (.lst xs)
  | .tup a => v = .ref a ∧ ∃ xs, TupP H a xs
theorem SqV.sq {H : Hp} {v : V} {xs : List V} {u : Value} (h : SqV H v xs) (r : RelV v u) : ∃ q : Sq, q.v = u ∧ q.at H xs ∧ SqIs H v q := by
  rcases h with ⟨x, rfl, rfl⟩ | ⟨a, rfl, h | h⟩
  · obtain ⟨t, rfl⟩ := r
    exact ⟨.txt x t, rfl, rfl, rfl⟩
  · obtain rfl : u = Value.ref a := r
    exact ⟨.lst a, rfl, h, rfl, _, h⟩
  · obtain rfl : u = Value.ref a := r
    exact ⟨.tup a, rfl, h, rfl, _, h⟩
def iZipG (ta : TA) : TI := fun σ H R => ta σ H fun vs H1 => ∃ v1 v2 xs ys, vs = [v1, v2] ∧ SqV H1 v1 xs ∧ SqV H1 v2 ys ∧ ∀ q1 q2 : Sq, SqIs H1 v1 q1 → SqIs H1 v2 q2 → R (ItzG q1 q2 xs.length ys.length) H1
theorem pi_zipG {X : Cx} {e e2 : Expr} {ta : TA} {p pos tpos : Pos} {elts : List Expr} {kk : Nat} (hg : Gl X "zip") (hm : X.mg "zip" = none) (ha : PA X [e, e2] ta)
    (hs : starEach [e, e2] X.env = (false, eval e X.env) :: starEach [e2] X.env := by rfl) (hpl : (backTo pos (starEach [e2] X.env)).any (·.1) = false := by rfl) :
    PI X (.Tuple elts kk tpos) (.Call (.Name "zip" p) [e, e2] [] pos) (iZipG ta) := by
  refine ⟨fun pins s σ H R I h => ?_⟩
  refine PyProof.Rows.Call_ (ld_blt I hg hm PyProof.Rows.boot_zip (PyProof.Rows.callWith_type1 (thn (ha.run pos pins s σ H _ I h) fun us s1 ⟨vs, H1, I1, r1, q1⟩ => ?_) hs hpl))
  obtain ⟨v1, v2, xs, ys, ex, hqx, hqy, q⟩ := q1
  subst ex
  obtain ⟨u1, u2, rfl, ra, rb⟩ := vals2 r1
  obtain ⟨s1q, e1, a1, k1⟩ := hqx.sq ra
  obtain ⟨s2q, e2', a2, k2⟩ := hqy.sq rb
  subst e1 e2'
  obtain ⟨o1, Hh1, B1, b1, st1⟩ := Sq.begins I1 a1
  obtain ⟨o2, Hh2, B2, b2, st2⟩ := Sq.begins I1 a2
  refine zip_begins2 B1 B2 b1 b2 fun h' hz hTI hTO g1 g2 hsz hk => wpAny_pyIter_zip hz ?_
  have I2 : Inv X pins σ H1 { s1 with heap := h' } := I1.kept (t' := s1.toks) hk
  refine ⟨s1.heap.objs.size + 4, [s1.heap.objs.size + 4, s1.heap.objs.size + 2, s1.heap.objs.size + 3, s1.heap.objs.size, s1.heap.objs.size + 1], _, _, H1, rfl, I2,
    turn_zipG s1q s2q xs.length ys.length (ap5 s1.heap.objs.size), ⟨hz, hTI, ⟨_, _, hTO⟩, st1 _ _ g1, st2 _ _ g2, Nat.zero_le _⟩, fun b hb => ?_, q _ _ k1 k2⟩
  have e' : b = s1.heap.objs.size + 4 ∨ b = s1.heap.objs.size + 2 ∨ b = s1.heap.objs.size + 3 ∨ b = s1.heap.objs.size ∨ b = s1.heap.objs.size + 1 := by simpa using hb
  have hle : s1.heap.objs.size ≤ b := by rcases e' with z | z | z | z | z <;> (rw [z]; first | exact Nat.le_add_right _ _ | exact Nat.le_refl _)
  exact I1.fpOk hle (I1.hok.fresh hle)
section
variable {X : Cx} {C : Cf} {s : Sx} {ε : Ep} {W : WX} {e e2 : Expr} {mr : M (List D)} {p pos tpos : Pos} {elts : List Expr} {kk : Nat}
/-- what a thing that stays hands out -/
def seqD : D → Option (List D)
  | .lst xs => some xs
  | .tup xs => some xs
  | .str x => some (x.cps.toList.map sgn)
  | _ => none
theorem Rs.sgns {F : Hp} {ρ : Rho} : ∀ cs : List Nat, Rs C F ρ (cs.map sgn) (cs.map fun c => V.str ⟨#[c]⟩)
  | [] => by simp [Rs]
  | c :: cs => by
    simp only [List.map_cons]
    unfold Rs
    exact ⟨_, _, rfl, by unfold sgn R; rfl, Rs.sgns cs⟩
theorem seqD_ok {t : Sx} {d : D} {v : V} {xs : List D} (g : Good C t) (r : R C t.F t.ρ d v) (h : seqD d = some xs) : ∃ ys, SqV t.H v ys ∧ Rs C t.F t.ρ xs ys ∧ ∀ (t' : Sx) (q : Sq), SqIs t.H v q → Mon t t' → Good C t' → q.at t'.H ys := by
  cases d with
  | str x =>
    unfold seqD at h; cases h
    rw [r.str_eq]
    refine ⟨_, .inl ⟨x, rfl, rfl⟩, Rs.sgns _, fun t' q k f g' => ?_⟩
    cases q with
    | txt y tk => cases (show V.str x = V.str y from k); rfl
    | lst a => cases k.1
    | tup a => cases k.1
  | lst xs' =>
    unfold seqD at h; cases h
    unfold R at r
    obtain ⟨a, ys, rfl, fa, rr⟩ := r
    refine ⟨ys, .inr ⟨a, rfl, .inl (g.sub _ _ fa)⟩, rr, fun t' q k f g' => ?_⟩
    cases q with
    | txt y tk => cases (show V.ref a = V.str y from k)
    | lst b => cases k.1; exact g'.sub _ _ (f.sub _ _ fa)
    | tup b =>
      obtain ⟨k1, zs, o, k2, _⟩ := k
      cases k1
      rw [g.sub _ _ fa] at k2; cases k2
  | tup xs' =>
    unfold seqD at h; cases h
    unfold R at r
    obtain ⟨a, ys, rfl, fa, rr⟩ := r
    refine ⟨ys, .inr ⟨a, rfl, .inr (fa.sub g.sub)⟩, rr, fun t' q k f g' => ?_⟩
    cases q with
    | txt y tk => cases (show V.ref a = V.str y from k)
    | tup b => cases k.1; exact (fa.sub f.sub).sub g'.sub
    | lst b =>
      obtain ⟨k1, zs, k2⟩ := k
      cases k1
      obtain ⟨o, fa, _⟩ := fa
      rw [g.sub _ _ fa] at k2; cases k2
  | _ => unfold seqD at h; cases h
def zipA : List D → AH → Out (List D) := fun ds h => match ds with
  | [a, b] => (match seqD a, seqD b with
    | some xs, some ys => .ok (zipD xs ys) h
    | _, _ => .bad)
  | _ => .bad
theorem mi_zipA (hg : Gl X "zip") (hm : X.mg "zip" = none) (ha : MA X C ε W [e, e2] mr) (hs : starEach [e, e2] X.env = (false, eval e X.env) :: starEach [e2] X.env := by rfl) (hpl : (backTo pos (starEach [e2] X.env)).any (·.1) = false := by rfl) :
    MI X C ε W (.Tuple elts kk tpos) (.Call (.Name "zip" p) [e, e2] [] pos) (walkA zipA mr) := (pi_zipG hg hm ha hs hpl).imp fun σ H Q h => by
  obtain ⟨s, dσ, rfl, ex, g, rs, h⟩ := h
  refine Post.bind ex g rs h fun s1 d v e1 f1 g1 rs1 r1 h1 => ?_
  unfold zipA at h1
  split at h1
  · rename_i a b
    split at h1
    · rename_i xs ys ea eb
      obtain ⟨v1, v2, rfl, ra, rb⟩ := r1.two
      obtain ⟨us, s1', rr1, k1⟩ := seqD_ok g1 ra ea
      obtain ⟨ws, s2', rr2, k2⟩ := seqD_ok g1 rb eb
      refine ⟨v1, v2, us, ws, rfl, s1', s2', fun q1 q2 i1 i2 => Post.here g1 h1 ?_⟩
      intro t i ft gt
      have a1 := k1 t q1 i1 ft gt
      have a2 := k2 t q2 i2 ft gt
      rw [zipD_length]
      refine ⟨fun hi => ?_, fun hi => ?_⟩
      · have h1 : i < xs.length := by omega
        have h2 : i < ys.length := by omega
        obtain ⟨x, ex', rx⟩ := (rr1.mon ft).get (List.getElem?_eq_getElem h1)
        obtain ⟨y, ey', ry⟩ := (rr2.mon ft).get (List.getElem?_eq_getElem h2)
        refine ⟨⟨us, ws, x, y, a1, a2, rfl, rfl, ex', ey'⟩, fun z H' yl => ?_⟩
        obtain ⟨T, x', y', rfl, hT, rfl, y1, y2⟩ := yl
        have z1 := y1 us a1
        have z2 := y2 ws a2
        rw [ex'] at z1; cases z1
        rw [ey'] at z2; cases z2
        obtain ⟨f2, g2, r2⟩ := pair_ok gt hT rx ry
        exact ⟨_, _, rfl, f2, g2, rfl, zipD_get xs ys i _ _ (List.getElem?_eq_getElem h1) (List.getElem?_eq_getElem h2), r2⟩
      · exact ⟨us, ws, a1, a2, rfl, rfl, by rw [← rr1.length, ← rr2.length]; exact hi⟩
    · exact h1.elim
  · exact h1.elim
end
end Ws
set_option Elab.async false
set_option linter.all false
set_option maxRecDepth 100000
set_option maxHeartbeats 2000000
set_option autoImplicit false
namespace Ws
open PySem PySem.Spec L2
def chain (g g' : D → D → AH → Out D) (a b c : M D) : M D := fun σ h => (a σ h).bind fun x h1 => (b σ h1).bind fun y h2 => (g x y h2).bind fun z h3 => (isBl z h3).bind fun k h4 => if k = true then (c σ h4).bind fun w h5 => g' y w h5 else .ok (.bl false) h4
section
variable {X : Cx} {C : Cf} {ε : Ep} {W : WX} {a b c : Expr} {ma mb mc : M D} {pos : Pos}
theorem chain_read {r r' : R2} {g g' : D → D → AH → Out D} (hg : OpS C r g) (hg' : OpS C r' g') {σ : L2.St} {H : Hp} {Q : VK} (h : tG C ε W (rD C) (chain g g' ma mb mc) σ H Q) : tChain r r' (tG C ε W (rD C) ma) (tG C ε W (rD C) mb) (tG C ε W (rD C) mc) σ H Q := by
  obtain ⟨s, dσ, rfl, ex, gd, rs, h⟩ := h
  refine Post.bind ex gd rs h fun s1 x v e1 f1 g1 rs1 r1 h1 => ?_
  refine Post.bind e1 g1 rs1 h1 fun s2 y u e2 f2 g2 rs2 r2 h2 => ?_
  refine hg W σ s2 x y v u _ g2 (r1.fwd f2) r2 ?_
  cases q : g x y s2.ah with
  | bad => rw [q] at h2; exact h2
  | exc z ah' => rw [q] at h2; exact h2
  | ok d ah' =>
    rw [q] at h2
    intro s3 w e3 f3 g3 r3
    subst e3
    cases d with
    | bl k =>
      refine ⟨k, r3.bl_eq, ?_⟩
      have h3 : Post C W σ (rD C) s3 Q (if k = true then (mc dσ s3.ah).bind fun w h5 => g' y w h5 else .ok (.bl false) s3.ah) := Post.fwd f3 h2
      by_cases hk : k = true
      · rw [if_pos hk] at h3 ⊢
        exact Post.bind (f3.rho.x.trans e2) g3 (rs2.fwd f3) h3 fun s4 z zv e4 f4 g4 rs4 r4 h4 => hg' W σ s4 y z u zv Q g4 ((r2.fwd f3).fwd f4) r4 h4
      · rw [if_neg hk] at h3 ⊢
        exact Post.here g3 h3 (by unfold R; rfl)
    | _ => exact h2.elim
theorem mt_chain {op op' : CmpOp} {r r' : R2} {g g' : D → D → AH → Out D} (ho : OpR X (compareOp op) r) (ho' : OpR X (compareOp op') r') (hg : OpS C r g) (hg' : OpS C r' g') (ha : ME X C ε W a ma) (hb : ME X C ε W b mb) (hc : ME X C ε W c mc)
    (hm : lastMarks [op, op'] [b, c] = false := by with_unfolding_all rfl) : MT X C ε W (.Compare a [op, op'] [b, c] pos) (asB (chain g g' ma mb mc)) := (pt_chain ho ho' ha hb hc hm).imp fun σ H Q h => by
  refine chain_read (C := C) (ε := ε) (W := W) hg hg' ?_
  obtain ⟨s, dσ, rfl, ex, gd, rs, h⟩ := h
  refine ⟨s, dσ, rfl, ex, gd, rs, ?_⟩
  unfold asB at h
  cases q : chain g g' ma mb mc dσ s.ah with
  | bad => rw [q] at h; exact h
  | exc z ah' => rw [q] at h; exact h
  | ok d ah' =>
    rw [q] at h
    intro s3 w e3 f3 g3 r3
    subst e3
    exact Post.asB g3 r3 (Post.fwd f3 h)
end
def intsOf : List D → Option (List Int)
  | [] => some []
  | .int i :: ds => (intsOf ds).map (i :: ·)
  | _ :: _ => none
theorem intsOf_ok {C : Cf} {F : Hp} {ρ : Rho} : ∀ {ds : List D} {vs : List V} {ns : List Int}, Rs C F ρ ds vs → intsOf ds = some ns → vs = ns.map V.int
  | [], vs, ns, r, e => by unfold Rs at r; unfold intsOf at e; cases e; exact r
  | d :: ds, vs, ns, r, e => by
    unfold Rs at r
    obtain ⟨v, t, rfl, a, b⟩ := r
    cases d with
    | int i =>
      unfold intsOf at e
      cases q : intsOf ds with
      | none => rw [q] at e; cases e
      | some ms =>
        rw [q] at e; cases e
        rw [a.int_eq, intsOf_ok b q]; rfl
    | _ => unfold intsOf at e; cases e
def gNums (f : List Int → Option Int) (ds : List D) (h : AH) : Out D := match ds with
  | [d] => (match (lstOf d h).bind intsOf with
    | some ns => (match f ns with
      | some m => .ok (.int m) h
      | none => .bad)
    | none => .bad)
  | _ => .bad
def gMin1 := gNums List.min?
theorem nums_read {C : Cf} {W : WX} {σ : L2.St} {s : Sx} {f : List Int → Option Int} {x : List D} {v : List V} {Q : VK} (g : Good C s) (r : Rs C s.F s.ρ x v) (h : Post C W σ (rD C) s Q (gNums f x s.ah)) : ∃ (a : Addr) (ns : List Int) (m : Int), v = [V.ref a] ∧ SqL C.K s.H a (ns.map V.int) ∧ f ns = some m ∧ Q (.int m) s.H := by
  unfold gNums at h
  split at h
  · rename_i d
    split at h
    · rename_i ns e
      split at h
      · rename_i m em
        obtain ⟨v1, rfl, r1⟩ := r.one
        cases ql : lstOf d s.ah with
        | none => rw [ql] at e; cases e
        | some xs =>
          rw [ql] at e
          obtain ⟨a, ys, rfl, sq0, rr⟩ := lstOf_ok g r1 ql
          have := intsOf_ok rr e
          subst this
          exact ⟨a, ns, m, rfl, SqL.of sq0, em, Post.here g h (by unfold R; rfl)⟩
      · exact h.elim
    · exact h.elim
  · exact h.elim
theorem cs_min1 {C : Cf} : CallS C (rMin C.K) gMin1 := fun W σ s x v Q g r h => by
  obtain ⟨a, ns, m, rfl, sq, em, q⟩ := nums_read g r h
  obtain ⟨h1, h2⟩ := List.min?_eq_some_iff.mp em
  refine ⟨a, ns, rfl, sq, List.length_pos_of_mem h1, fun m' k1 k2 => ?_⟩
  have : m' = m := Int.le_antisymm (k2 m h1) (h2 m' k1)
  rw [this]; exact q
def leS (x y : Str) : Bool := !ltS y x
theorem leS_iff {x y : Str} : leS x y = true ↔ x.cps.toList ≤ y.cps.toList := by
  unfold leS ltS
  simp only [Bool.not_eq_true', decide_eq_false_iff_not]
  exact List.not_lt
theorem leS_trans (a b c : Str) (h1 : leS a b = true) (h2 : leS b c = true) : leS a c = true := leS_iff.mpr (List.le_trans (leS_iff.mp h1) (leS_iff.mp h2))
theorem leS_total (a b : Str) : (leS a b || leS b a) = true := by
  rcases List.le_total a.cps.toList b.cps.toList with h | h
  · rw [leS_iff.mpr h]; rfl
  · rw [leS_iff.mpr h, Bool.or_true]
theorem forGo_invT {tr : Sl → AH → Out Sl} {t : Tg} {m : SM} (Inv : Nat → Sl → AH → Prop) : ∀ (ds : List D) (k : Nat) {σ : Sl} {h : AH}, Inv k σ h →
    (∀ j d σ h, ds[j]? = some d → Inv (k + j) σ h → ∃ σ1 h1 σ2 h2 σ3 h3, t d σ h = .ok σ1 h1 ∧ (m σ1 h1 = .nx σ2 h2 ∨ m σ1 h1 = .ct σ2 h2) ∧ tr σ2 h2 = .ok σ3 h3 ∧ Inv (k + j + 1) σ3 h3) →
    ∃ σ' h', forGo tr t m ds σ h = .nx σ' h' ∧ Inv (k + ds.length) σ' h'
  | [], k, σ, h, i, _ => ⟨σ, h, rfl, i⟩
  | d :: ds, k, σ, h, i, st => by
    obtain ⟨σ1, h1, σ2, h2, σ3, h3, e1, e2, e3, i2⟩ := st 0 d σ h rfl i
    obtain ⟨σ', h', e4, i3⟩ := forGo_invT Inv ds (k + 1) (σ := σ3) (h := h3) i2 (fun j d' σ h e i => by
      have := st (j + 1) d' σ h (by simpa using e) (by rw [show k + (j + 1) = k + 1 + j by omega]; exact i)
      rw [show k + (j + 1) + 1 = k + 1 + j + 1 by omega] at this
      exact this)
    refine ⟨σ', h', ?_, by rw [show k + (d :: ds).length = k + 1 + ds.length by simp; omega]; exact i3⟩
    unfold forGo
    rw [e1]
    dsimp only
    rcases e2 with e2 | e2
    · rw [e2]
      dsimp only
      rw [e3]
      exact e4
    · rw [e2]
      dsimp only
      rw [e3]
      exact e4
end Ws
set_option Elab.async false
set_option linter.all false
set_option maxRecDepth 100000
set_option maxHeartbeats 2000000
set_option autoImplicit false
namespace Ws
open PySem PySem.Spec L2
end Ws
set_option Elab.async false
set_option linter.all false
set_option maxRecDepth 100000
set_option maxHeartbeats 2000000
set_option autoImplicit false
namespace Ws
open PySem PySem.Spec L2
theorem wipe_idem : ∀ (l : List Nat) (τ : L2.St), wipe (wipe τ l) l = wipe τ l := by
  intro l
  induction l with
  | nil => intro τ; rfl
  | cons a r ih =>
    intro τ
    show ((wipe ((wipe τ r).set a none) r).set a none) = (wipe τ r).set a none
    by_cases ha : a ∈ r
    · rw [wipe_set ha, ih]
    · have out : ∀ (vs : List Nat) (σ : L2.St), a ∉ vs → wipe (σ.set a none) vs = (wipe σ vs).set a none := by
        intro vs
        induction vs with
        | nil => intro σ _; rfl
        | cons b r ih =>
          intro σ hn
          simp only [List.mem_cons, not_or] at hn
          unfold wipe
          rw [ih σ hn.2, List.set_comm _ _ (Ne.symm hn.1)]
      rw [out r _ ha, ih, List.set_set]
section
variable {α : Type}
abbrev Em (α : Type) := Sl → α → AH → Out α
def emE (e : M D) (step : D → α → Option α) : Em α := fun σ a h => match e σ h with
  | .ok y h1 => (match step y a with
    | some a' => .ok a' h1
    | none => .bad)
  | _ => .bad
def turnC (t : Tg) (c : M Bool) (em : Em α) (σ : Sl) (d : D) (a : α) (h : AH) : Out α := match t d σ h with
  | .ok σ1 h1 => (match c σ1 h1 with
    | .ok true h2 => em σ1 a h2
    | .ok false h2 => .ok a h2
    | _ => .bad)
  | _ => .bad
def ccGo (f : D → α → AH → Out α) : List D → α → AH → Out α
  | [], a, h => .ok a h
  | d :: ds, a, h => match f d a h with
    | .ok a' h' => ccGo f ds a' h'
    | _ => .bad
def cc (vs : List Nat) (mi : M (List D)) (t : Tg) (c : M Bool) (em : Em α) (a0 : α) (fin : α → D) : M D := fun σ h => (mi σ h).bind fun ds h1 => match ccGo (turnC t c em (wipeD σ vs)) ds a0 h1 with
  | .ok a h2 => .ok (fin a) h2
  | _ => .bad
/-- what stands at p while it is being filled; it does not look at other cells -/
abbrev Acc (α : Type) := Sx → Addr → α → HO → Prop
def EmS (C : Cf) (ε : Ep) (A : Acc α) (vs : List Nat) (tm : TM) (em : Em α) : Prop := ∀ (s0 s : Sx) (σ : L2.St) (dσ : Sl) (p : Addr) (a : α) (o : HO) (N : Hp → Prop), s.ρ.x = ε → Fwd s0 s → s0.H p = none → Good C s → RS C s σ dσ → Fill s p o → A s p a o →
  (match em dσ a s.ah with
    | .ok a' h' => ∀ s' o', s'.ah = h' → Mon s s' → Fwd s0 s' → Good C s' → Fill s' p o' → A s' p a' o' → N s'.H
    | _ => False) → tm p σ s.H N
variable {C : Cf} {ε : Ep} {W : WX} {A : Acc α} {g : TG} {t : Tg} {c : M Bool} {em : Em α} {tm : TM}
/-- one turn -/
theorem turnC_core {vs : List Nat} {σ : L2.St} {dσ : Sl} {s0 s : Sx} {d : D} {x : V} {p : Addr} {a : α} {o : HO} {N : Hp → Prop} (tw : TgW C ε vs g t) (ht : EmS C ε A vs tm em) (mA : ∀ s s' p a o, Mon s s' → A s p a o → A s' p a o) (ex : s.ρ.x = ε) (f0 : Fwd s0 s) (hp : s0.H p = none) (gd : Good C s)
    (rs : RS C s (wipe σ vs) (wipeD dσ vs)) (r : R C s.F s.ρ d x) (fi : Fill s p o) (ha : A s p a o)
    (h : match turnC t c em (wipeD dσ vs) d a s.ah with
      | .ok a' h' => ∀ s' o', s'.ah = h' → Mon s s' → Fwd s0 s' → Good C s' → Fill s' p o' → A s' p a' o' → N s'.H
      | _ => False) :
    g x (wipe σ vs) s.H fun σ2 H2 => wipe σ2 vs = wipe σ vs ∧ tG C ε WF rB c σ2 H2 fun b H3 => if b = true then tm p σ2 H3 N else N H3 := by
  refine tw s _ _ d x _ ex gd rs r ?_
  unfold turnC at h
  cases q : t d (wipeD dσ vs) s.ah with
  | ok σ1 h1 =>
    rw [q] at h
    dsimp only at h
    intro σ' e1 e2 rs'
    subst e1
    refine ⟨e2.trans (wipe_idem vs σ), ⟨s, σ1, rfl, ex, gd, rs', ?_⟩⟩
    cases qc : c σ1 s.ah with
    | ok b h2 =>
      rw [qc] at h
      cases b with
      | true =>
        dsimp only at h
        intro s' b' e3 f3 g3 rb
        subst rb e3
        rw [if_pos rfl]
        refine ht s0 s' σ' σ1 p a o N (f3.rho.x.trans ex) (f0.trans f3) hp g3 (rs'.fwd f3) (fi.fwd f3) (mA _ _ _ _ _ f3.mon ha) ?_
        cases qe : em σ1 a s'.ah with
        | ok y h3 =>
          rw [qe] at h
          exact fun s4 o4 e4 m4 f4 g4 i4 a4 => h s4 o4 e4 (f3.mon.trans m4) f4 g4 i4 a4
        | exc => rw [qe] at h; exact h.elim
        | bad => rw [qe] at h; exact h.elim
      | false =>
        dsimp only at h
        intro s' b' e3 f3 g3 rb
        subst rb
        rw [if_neg Bool.false_ne_true]
        exact h s' o e3 f3.mon (f0.trans f3) g3 (fi.fwd f3) (mA _ _ _ _ _ f3.mon ha)
    | exc => rw [qc] at h; exact h.elim
    | bad => rw [qc] at h; exact h.elim
  | exc => rw [q] at h; exact h.elim
  | bad => rw [q] at h; exact h.elim
/-- the loop of a clause -/
theorem ccGo_core {vs : List Nat} {σ : L2.St} {dσ : Sl} {s0 s1 : Sx} {ds : List D} {J : It} {p : Addr} {a : α} {o : HO} {N : Hp → Prop} (tw : TgW C ε vs g t) (ht : EmS C ε A vs tm em) (mA : ∀ s s' p a o, Mon s s' → A s p a o → A s' p a o) (ex : s1.ρ.x = ε) (it : Iter C s1 ds J)
    (rs : RS C s1 σ dσ) (s2 : Sx) (m2 : Mon s1 s2) (f2 : Fwd s0 s2) (hp : s0.H p = none) (g2 : Good C s2) (fi : Fill s2 p o) (ha : A s2 p a o)
    (h : match ccGo (turnC t c em (wipeD dσ vs)) ds a s2.ah with
      | .ok a' h' => ∀ s' o', s'.ah = h' → Mon s1 s' → Fwd s0 s' → Good C s' → Fill s' p o' → A s' p a' o' → N s'.H
      | _ => False) :
    ∃ W1 : Nat → Nat → Hp → Prop, (∃ m, W1 0 m s2.H) ∧ ∀ j k H, W1 j k H → (J.stop j H ∧ N H) ∨ (J.go j H ∧ ∃ Nx1 : Hp → Prop, (∀ H', Nx1 H' → ∃ k', k' < k ∧ W1 (j + 1) k' H') ∧
      ∀ x H', J.yld j H x H' → g x (wipe σ vs) H' fun σ3 H5 => wipe σ3 vs = wipe σ vs ∧ tG C ε WF rB c σ3 H5 fun b H6 => if b = true then tm p σ3 H6 Nx1 else Nx1 H6) := by
  refine ⟨fun i k H => k = ds.length - i ∧ i ≤ ds.length ∧ ∃ s o a, s.H = H ∧ Mon s1 s ∧ Fwd s0 s ∧ Good C s ∧ Fill s p o ∧ A s p a o ∧ (match ccGo (turnC t c em (wipeD dσ vs)) (ds.drop i) a s.ah with
      | .ok a' h' => ∀ s' o', s'.ah = h' → Mon s1 s' → Fwd s0 s' → Good C s' → Fill s' p o' → A s' p a' o' → N s'.H
      | _ => False), ⟨_, rfl, Nat.zero_le _, s2, o, a, rfl, m2, f2, g2, fi, ha, h⟩, ?_⟩
  rintro i k H ⟨rfl, hi, s, o, a, rfl, m1, f, g', fi, ha, h⟩
  by_cases hlt : i < ds.length
  · obtain ⟨go, yl⟩ := (it s i m1 g').1 hlt
    refine .inr ⟨go, fun H => ∃ s o a, s.H = H ∧ Mon s1 s ∧ Fwd s0 s ∧ Good C s ∧ Fill s p o ∧ A s p a o ∧ (match ccGo (turnC t c em (wipeD dσ vs)) (ds.drop (i + 1)) a s.ah with
      | .ok a' h' => ∀ s' o', s'.ah = h' → Mon s1 s' → Fwd s0 s' → Good C s' → Fill s' p o' → A s' p a' o' → N s'.H
      | _ => False), fun H' z => ⟨_, by omega, rfl, hlt, z⟩, fun x H' y => ?_⟩
    obtain ⟨t', d, rfl, f', gt', eh, ed, r⟩ := yl x H' y
    have hd : ds.drop i = d :: ds.drop (i + 1) := by
      rw [List.drop_eq_getElem_cons hlt]
      rw [List.getElem?_eq_getElem hlt] at ed
      cases ed; rfl
    rw [hd] at h
    unfold ccGo at h
    rw [← eh] at h
    have mx := m1.trans f'.mon
    refine turnC_core tw ht mA (mx.rho.x.trans ex) (f.trans f') hp gt' ((rs.mon mx).wipe vs) r (fi.fwd f') (mA _ _ _ _ _ f'.mon ha) ?_
    cases q : turnC t c em (wipeD dσ vs) d a t'.ah with
    | ok a2 h2 =>
      rw [q] at h
      exact fun s' o' e2 m2 f2 g2 i2 a2' => ⟨s', o', a2, rfl, mx.trans m2, f2, g2, i2, a2', by rw [e2]; exact h⟩
    | exc => rw [q] at h; exact h.elim
    | bad => rw [q] at h; exact h.elim
  · have e : i = ds.length := by omega
    subst e
    rw [List.drop_length] at h
    exact .inl ⟨(it s _ m1 g').2 (Nat.le_refl _), h s o rfl m1 f g' fi ha⟩
end
end Ws
set_option Elab.async false
set_option linter.all false
set_option maxRecDepth 100000
set_option maxHeartbeats 2000000
set_option autoImplicit false
namespace Ws
open PySem PySem.Spec PyProof.Rows L2
section
variable {α : Type} {C : Cf} {ε : Ep} {W : WX} {A : Acc α} {g : TG} {t : Tg} {c : M Bool} {em : Em α} {tm : TM}
/-- how the whole ends: Q' asked of the machine, Q of what is reckoned -/
def FinS (C : Cf) (W : WX) (σ : L2.St) (A : Acc α) (fin : α → AH → Out D) (Q Q' : VK) : Prop := ∀ (s1 s : Sx) (p : Addr) (a : α) (o : HO), s1.H p = none → Fwd s1 s → Good C s → Fill s p o → A s p a o → Post C W σ (rD C) s1 Q (fin a s.ah) → Q' (.ref p) s.H
def ccF (vs : List Nat) (mi : M (List D)) (t : Tg) (c : M Bool) (em : Em α) (a0 : α) (fin : α → AH → Out D) : M D := fun σ h => (mi σ h).bind fun ds h1 => match ccGo (turnC t c em (wipeD σ vs)) ds a0 h1 with
  | .ok a h2 => fin a h2
  | _ => .bad
theorem ccF_read {O0 : Addr → HO} {mi : M (List D)} {a0 : α} {fin : α → AH → Out D} {vs : List Nat} {σ : L2.St} {H : Hp} {Q Q' : VK} (tw : TgW C ε vs g t) (ht : EmS C ε A vs tm em) (mA : ∀ s s' p a o, Mon s s' → A s p a o → A s' p a o) (nt : ∀ p ys, O0 p ≠ .tup ys) (h0 : ∀ s p, A s p a0 (O0 p)) (hf : FinS C W σ A fin Q Q')
    (h : tG C ε W (rD C) (ccF vs mi t c em a0 fin) σ H Q) (nu : ∀ p, NT (O0 p) := by intro p; (intro ps z; first | exact nomatch z | exact nomatch (show HO.ext _ = HO.tbl ps from z))) : tCc O0 (tG C ε W (rIt C) mi) g (tG C ε WF rB c) tm vs σ H Q' := by
  obtain ⟨s, dσ, rfl, ex, gd, rs, h⟩ := h
  refine Post.bind ex gd rs h fun s1 ds J e1 f1 g1 rs1 it h1 => ?_
  intro p hp
  refine ccGo_core (s2 := s1.setp p (O0 p)) (s0 := s1) tw ht mA e1 it rs1 ⟨.refl _, .refl _⟩ ((Fwd.refl s1).setp hp) hp (g1.fill hp (nt p)) (Fill.new g1 hp (nu p)) (h0 _ p) ?_
  cases q : ccGo (turnC t c em (wipeD dσ vs)) ds a0 (s1.setp p (O0 p)).ah with
  | ok a' h' =>
    have q' : ccGo (turnC t c em (wipeD dσ vs)) ds a0 s1.ah = .ok a' h' := q
    rw [q'] at h1
    intro s' o' e2 m2 f2 g2 i2 a2
    exact hf s1 s' p a' o' hp f2 g2 i2 a2 (by rw [e2]; exact h1)
  | exc => have q' : ccGo (turnC t c em (wipeD dσ vs)) ds a0 s1.ah = _ := q; rw [q'] at h1; exact h1.elim
  | bad => have q' : ccGo (turnC t c em (wipeD dσ vs)) ds a0 s1.ah = _ := q; rw [q'] at h1; exact h1.elim
theorem fin_stay {fin : α → D} {σ : L2.St} {Q : VK} (hf : ∀ s s' p a o, A s p a o → Mon s s' → s'.F p = some o → R C s'.F s'.ρ (fin a) (.ref p)) : FinS C W σ A (fun a h => .ok (fin a) h) Q Q := fun s1 s p a o hp f g fi ha h => by
  obtain ⟨g3, sb⟩ := g.done fi
  exact h (s.done p o) (.ref p) rfl (f.done hp fi) g3 (hf s _ p a o ha ⟨sb, .refl _⟩ upd_same)
/-- locked: a dict that stays -/
def tLk (t : TE) : TE := fun σ H Q => t σ H fun v H1 => ∃ d u, v = .ref d ∧ H1 d = some u ∧ Mut (some u) ∧ ∀ od, Q v (upd H1 d (.frz od u))
theorem pe_lk {X : Cx} {e : Expr} {t : TE} (h : PE X e t) : PE X e (tLk t) := ⟨fun pins s σ H Q I q => thn (h.run pins s σ H _ I q) fun v s1 ⟨x, H1, I1, r1, d, u, ex, hd, mu, k⟩ => by
  obtain ⟨od, I2⟩ := I1.lock hd mu
  exact ⟨x, _, I2, r1, k od⟩⟩
end
section
variable {C : Cf} {ε : Ep} {W : WX}
def accL (C : Cf) : Acc (List D) := fun s _ acc o => ∃ accV, o = .lst accV ∧ Rs C s.F s.ρ acc accV
def stepL (y : D) (acc : List D) : Option (List D) := if acc.length < 1000000 then some (acc ++ [y]) else none
def tApp (te : TE) : TM := fun D σ H N => te σ H fun y H7 => ∃ acc, H7 D = some (.lst acc) ∧ acc.length < sizeLine ∧ N (upd H7 D (.lst (acc ++ [y])))
theorem accL_mon : ∀ s s' p a o, Mon s s' → accL C s p a o → accL C s' p a o := fun _ _ _ _ _ m ⟨v, e, r⟩ => ⟨v, e, r.mon m⟩
theorem ems_list {e : M D} {vs : List Nat} : EmS C ε (accL C) vs (tApp (tG C ε WF (rD C) e)) (emE e stepL) := by
  intro s0 s σ dσ p a o N ex f0 hp gd rs fi ha h
  unfold emE at h
  refine ⟨s, dσ, rfl, ex, gd, rs, ?_⟩
  cases q : e dσ s.ah with
  | ok y h1 =>
    rw [q] at h
    dsimp only at h
    intro s' v e1 f1 g1 r1
    obtain ⟨accV, rfl, ra⟩ := ha
    have fi1 := fi.fwd f1
    unfold stepL at h
    by_cases hl : a.length < 1000000
    · rw [if_pos hl] at h
      have f2 := (f0.trans f1).setp (o := .lst (accV ++ [v])) hp
      exact ⟨accV, fi1.at_, lim_lt (by rw [← ra.length]; exact hl), h (s'.setp p (.lst (accV ++ [v]))) _ e1 ⟨f1.sub, f1.rho⟩ f2 (g1.setp fi1 (fun _ z => nomatch z)) fi1.setp ⟨_, rfl, (show Rs C s'.F s'.ρ _ _ from Rs.snoc (ra.fwd f1) r1)⟩⟩
    · rw [if_neg hl] at h; exact h.elim
  | exc => rw [q] at h; exact h.elim
  | bad => rw [q] at h; exact h.elim
end
def keyOfD : D → Option Key
  | .int i => some (.inl i)
  | .str x => some (.inr x)
  | _ => none
theorem keyOfD_rel {C : Cf} {F : Hp} {ρ : Rho} {d : D} {v : V} {k : Key} (r : R C F ρ d v) (e : keyOfD d = some k) : v = kV k ∧ d = keyD k := by
  cases d with
  | int i => cases e; exact ⟨r.int_eq, rfl⟩
  | str x => cases e; exact ⟨r.str_eq, rfl⟩
  | _ => cases e
def putKD (kvs : List (Key × D)) (k : Key) (d : D) : List (Key × D) := if (kvs.any fun kv => decide (kv.1 = k)) = true then kvs.map (fun kv => if kv.1 = k then (kv.1, d) else kv) else kvs ++ [(k, d)]
/-- a dict's pairs -/
def Rq (C : Cf) (F : Hp) (ρ : Rho) : List (Key × D) → List (Key × V) → Prop
  | [], vs => vs = []
  | (k, d) :: ds, vs => ∃ v r, vs = (k, v) :: r ∧ R C F ρ d v ∧ Rq C F ρ ds r
section
variable {C : Cf} {F F' : Hp} {ρ ρ' : Rho}
theorem Rq.mono (s : Sub F F') (r : RSub ρ ρ') : ∀ {a : List (Key × D)} {b : List (Key × V)}, Rq C F ρ a b → Rq C F' ρ' a b
  | [], _, h => h
  | (_, _) :: _, _, h => by obtain ⟨v, t, e, a, b⟩ := h; exact ⟨v, t, e, R.mono s r a, Rq.mono s r b⟩
theorem Rq.length : ∀ {a : List (Key × D)} {b : List (Key × V)}, Rq C F ρ a b → a.length = b.length
  | [], _, h => by cases h; rfl
  | (_, _) :: _, _, h => by obtain ⟨v, t, rfl, a, b⟩ := h; simp [Rq.length b]
theorem Rq.keys : ∀ {a : List (Key × D)} {b : List (Key × V)}, Rq C F ρ a b → a.map (·.1) = b.map (·.1)
  | [], _, h => by cases h; rfl
  | (_, _) :: _, _, h => by obtain ⟨v, t, rfl, a, b⟩ := h; simp [Rq.keys b]
theorem Rq.any {a : List (Key × D)} {b : List (Key × V)} (h : Rq C F ρ a b) (k : Key) : (a.any fun kv => decide (kv.1 = k)) = b.any fun kv => decide (kv.1 = k) := by
  have := congrArg (fun l => l.any fun x => decide (x = k)) h.keys
  rw [List.any_map, List.any_map] at this
  exact this
theorem Rq.set (k : Key) {d : D} {v : V} (r : R C F ρ d v) : ∀ {a : List (Key × D)} {b : List (Key × V)}, Rq C F ρ a b → Rq C F ρ (a.map fun kv => if kv.1 = k then (kv.1, d) else kv) (b.map fun kv => if kv.1 = k then (kv.1, v) else kv)
  | [], _, h => by cases h; rfl
  | (x, y) :: l, _, h => by
    obtain ⟨u, t, rfl, a, b⟩ := h
    simp only [List.map_cons]
    by_cases e : x = k
    · rw [if_pos e, if_pos e]; exact ⟨v, _, rfl, r, Rq.set k r b⟩
    · rw [if_neg e, if_neg e]; exact ⟨u, _, rfl, a, Rq.set k r b⟩
theorem Rq.snoc {k : Key} {d : D} {v : V} (r : R C F ρ d v) : ∀ {a : List (Key × D)} {b : List (Key × V)}, Rq C F ρ a b → Rq C F ρ (a ++ [(k, d)]) (b ++ [(k, v)])
  | [], _, h => by cases h; exact ⟨v, [], rfl, r, rfl⟩
  | (x, y) :: l, _, h => by obtain ⟨u, t, rfl, a, b⟩ := h; exact ⟨u, _, rfl, a, Rq.snoc r b⟩
theorem Rq.put {a : List (Key × D)} {b : List (Key × V)} (h : Rq C F ρ a b) (k : Key) {d : D} {v : V} (r : R C F ρ d v) : Rq C F ρ (putKD a k d) (putK b k v) := by
  unfold putKD putK
  rw [h.any k]
  by_cases e : (b.any fun kv => decide (kv.1 = k)) = true
  · rw [if_pos e, if_pos e]; exact h.set k r
  · rw [if_neg e, if_neg e]; exact h.snoc r
end
end Ws
set_option Elab.async false
set_option linter.all false
set_option maxRecDepth 100000
set_option maxHeartbeats 2000000
set_option autoImplicit false
namespace Ws
open PySem PySem.Spec PyProof.Rows L2
section
variable {X : Cx} {C : Cf} {ε : Ep} {W : WX} {elt tg iter tg1 iter1 kx vx : Expr} {ifs ifs1 : List Expr} {scope : Scope} {own : List (Str × Nat)} {pos spos : Pos} {mi mi1 : M (List D)} {g g1 : TG} {t t1 : Tg} {c c1 : M Bool} {e k : M D} {vs1 : List Nat}
def sc (vs : List Nat) (mi : M (List D)) (t : Tg) (c : M Bool) (em : Em (List Key)) : M D := ccF vs mi t c em [] fun ks h => .ok (.set (ks.map keyD)) h
def finL (xs : List D) (h : AH) : Out D := .ok (.lst xs) h
theorem fin_lst {σ : L2.St} {Q : VK} : FinS C W σ (accL C) finL Q Q := fin_stay fun s s' p a o ha m hp => by
  obtain ⟨v, rfl, r⟩ := ha
  unfold R
  exact ⟨p, v, rfl, hp, r.mon m⟩
theorem me_lcF {fin : List D → AH → Out D} (hf : ∀ (W : WX) (σ : L2.St) (Q : VK), FinS C W σ (accL C) fin Q Q) (hc : X.calm = true) (hN : X.N.Nodup) (hi : MI X C ε W tg iter mi) (ok : BlkOk X.N X.env.scope scope own) (hg : InBlk X scope fun Y => PG Y tg g) (tw : TgW C ε (own.map (·.2)) g t)
    (ht : InBlk X scope fun Y => MTs Y C ε ifs c) (he : InBlk X scope fun Y => ME Y C ε WF elt e) (hs : ∀ x, foldedSetIterable iter X.env x = pure x := by intro _; rfl) :
    ME X C ε W (.ListComp elt [⟨tg, iter, ifs, 0⟩] scope pos) (ccF (own.map (·.2)) mi t c (emE e stepL) [] fin) := (pe_lc hc hN hi ok hg ht he hs).imp fun σ H Q h =>
  ccF_read (O0 := fun _ => .lst []) (tm := tApp (tG C ε WF (rD C) e)) tw ems_list accL_mon (fun _ _ z => nomatch z) (fun _ _ => ⟨[], rfl, by unfold Rs; rfl⟩) (hf W σ Q) h
end
end Ws
set_option Elab.async false
set_option linter.all false
set_option maxRecDepth 100000
set_option maxHeartbeats 2000000
set_option autoImplicit false
namespace Ws
open PySem PySem.Spec PyProof.Rows L2
section
variable {X : Cx} {C : Cf} {ε : Ep} {W : WX}
theorem me_as {e : Expr} {b : M D} (h : ∀ σ ah, b σ ah ≠ .bad → ∃ c : M D, c σ ah = b σ ah ∧ ME X C ε W e c) : ME X C ε W e b := ⟨fun pins s σ H Q I hh => by
  obtain ⟨sx, dσ, rfl, ex, gd, rs, hh⟩ := hh
  obtain ⟨c, ec, hc⟩ := h dσ sx.ah (fun z => by rw [z] at hh; exact hh)
  exact hc.run pins s σ _ Q I ⟨sx, dσ, rfl, ex, gd, rs, (by rw [ec]; exact hh)⟩⟩
end
def dK (d : D) (h : AH) : Option (List (D × D)) := match d with
  | .dct kvs => some kvs
  | .cell n => (match h.get n with
    | some (.dct kvs) => some kvs
    | _ => none)
  | _ => none
def dT (d : D) (h : AH) : Option (List (D × D)) := match d with
  | .dcT kvs => some kvs
  | .cell n => (match h.get n with
    | some (.dcT kvs) => some kvs
    | _ => none)
  | _ => none
def keysOfDs : List D → Option (List Key)
  | [] => some []
  | d :: ds => (match keyOfD d, keysOfDs ds with
    | some a, some b => some (a :: b)
    | _, _ => none)
/-- what may stand as a key in a dict by tuples -/
def tkOf (d : D) : Option NK := match nkOf d with
  | some (.tup ks) => if (NestedKey.tup ks).depth ≤ 8 then some (.tup ks) else none
  | _ => none
def getK (kvs : List (D × D)) (k : Key) : Option D := (kvs.find? fun p => decide (keyOfD p.1 = some k)).map (·.2)
def getT (kvs : List (D × D)) (k : NK) : Option D := (kvs.find? fun p => decide (nkOf p.1 = some k)).map (·.2)
theorem keyOfD_keyD (k : Key) : keyOfD (keyD k) = some k := by cases k <;> rfl
theorem keysOfDs_map (ks : List Key) : keysOfDs (ks.map keyD) = some ks := by
  induction ks with
  | nil => rfl
  | cons k ks ih => simp [keysOfDs, keyOfD_keyD, ih]
section
variable {C : Cf} {F : Hp} {ρ : Rho} {s : Sx}
theorem dK_ok {d : D} {v : V} {kvs : List (D × D)} (g : Good C s) (r : R C s.F s.ρ d v) (h : dK d s.ah = some kvs) : ∃ a ks, v = .ref a ∧ Rd s.H a (.dK ks) ∧ Rk C s.F s.ρ kvs ks := by
  unfold dK at h
  split at h
  · unfold R at r
    obtain ⟨a, o, ks, rfl, fa, rr⟩ := r
    cases h
    exact ⟨a, ks, rfl, .inr ⟨o, g.sub _ _ fa⟩, rr⟩
  · rename_i n
    split at h
    · rename_i kvs' e
      cases h
      unfold R at r
      obtain ⟨a, rfl, ea⟩ := r
      obtain ⟨a', q1, q2, ks, z1, z2⟩ := g.own n _ e
      rw [ea] at q1; cases q1
      exact ⟨a, ks, rfl, .inl z1, z2⟩
    · cases h
  · cases h
theorem dT_ok {d : D} {v : V} {kvs : List (D × D)} (g : Good C s) (r : R C s.F s.ρ d v) (h : dT d s.ah = some kvs) : ∃ a ks, v = .ref a ∧ Rd s.H a (dictN C.P C.w a ks) ∧ Rt C s.F s.ρ kvs ks := by
  unfold dT at h
  split at h
  · unfold R at r
    obtain ⟨a, o, ks, rfl, fa, rr⟩ := r
    cases h
    exact ⟨a, ks, rfl, .inr ⟨o, g.sub _ _ fa⟩, rr⟩
  · rename_i n
    split at h
    · rename_i kvs' e
      cases h
      unfold R at r
      obtain ⟨a, rfl, ea⟩ := r
      obtain ⟨a', q1, q2, ks, z1, z2⟩ := g.own n _ e
      rw [ea] at q1; cases q1
      exact ⟨a, ks, rfl, .inl z1, z2⟩
    · cases h
  · cases h
theorem Rk.look (k : Key) : ∀ {kvs : List (D × D)} {ks : List (Key × V)}, Rk C F ρ kvs ks → (∀ d, getK kvs k = some d → ∃ v, valV ks k = some v ∧ R C F ρ d v) ∧ (getK kvs k = none → valV ks k = none)
  | [], _, h => by unfold Rk at h; subst h; exact ⟨fun d e => (nomatch e), fun _ => rfl⟩
  | (x, d) :: r, _, h => by
    unfold Rk at h
    obtain ⟨key, v, t, rfl, rfl, rd, rr⟩ := h
    unfold getK valV
    rw [List.find?_cons, List.find?_cons]
    dsimp only
    rw [keyOfD_keyD]
    by_cases e : key = k
    · subst e
      simp only [decide_true]
      exact ⟨fun d' e' => by cases e'; exact ⟨v, rfl, rd⟩, fun e' => (nomatch e')⟩
    · rw [decide_eq_false (fun z => e (Option.some.inj z)), decide_eq_false e]
      exact Rk.look k rr
theorem Rt.look (k : NK) : ∀ {kvs : List (D × D)} {ks : NP}, Rt C F ρ kvs ks → (∀ d, getT kvs k = some d → ∃ v, valN ks k = some v ∧ R C F ρ d v) ∧ (getT kvs k = none → valN ks k = none)
  | [], _, h => by unfold Rt at h; subst h; exact ⟨fun d e => (nomatch e), fun _ => rfl⟩
  | (x, d) :: r, _, h => by
    unfold Rt at h
    obtain ⟨key, b, v, t, rfl, ek, _, _, rd, rr⟩ := h
    unfold getT valN
    rw [List.find?_cons, List.find?_cons]
    dsimp only
    rw [ek]
    by_cases e : key = k
    · subst e
      simp only [decide_true]
      exact ⟨fun d' e' => by cases e'; exact ⟨v, rfl, rd⟩, fun e' => (nomatch e')⟩
    · rw [decide_eq_false (fun z => e (Option.some.inj z)), decide_eq_false e]
      exact Rt.look k rr
theorem tkOf_nk {d : D} {k : NK} (e : tkOf d = some k) : nkOf d = some k ∧ k.depth ≤ 8 ∧ ∃ ks, k = .tup ks := by
  unfold tkOf at e
  split at e
  · rename_i ks q
    split at e
    · rename_i hd
      cases e
      exact ⟨q, hd, _, rfl⟩
    · cases e
  · cases e
theorem tkOf_rel {d : D} {v : V} {k : NK} (g : Good C s) (r : R C s.F s.ρ d v) (e : tkOf d = some k) : ∃ b, v = .ref b ∧ KeyAt s.H k b := by
  obtain ⟨q, hd, ks, rfl⟩ := tkOf_nk e
  have z := nk_rel g.sub r q
  have z' := z
  unfold nkV at z'
  obtain ⟨a, ys, rfl, _⟩ := z'
  exact ⟨a, rfl, z, hd⟩
end
/-- what a dict holds by a key (none: no dict, or no key) -/
def look (x y : D) (h : AH) : Option (Option D) := match dK x h with
  | some kvs => (keyOfD y).map fun k => getK kvs k
  | none => (match dT x h with
    | some kvs => (tkOf y).map fun k => getT kvs k
    | none => none)
theorem look_ok {C : Cf} {s : Sx} {x y : D} {v u : V} {o : Option D} (g : Good C s) (rx : R C s.F s.ρ x v) (ry : R C s.F s.ρ y u) (h : look x y s.ah = some o) (hk : (dK x s.ah).isSome = true) : ∃ a o', v = .ref a ∧ DGet s.H a u o' ∧ (∀ d, o = some d → ∃ w, o' = some w ∧ R C s.F s.ρ d w) ∧ (o = none → o' = none) := by
  unfold look at h
  split at h
  · rename_i kvs e
    obtain ⟨a, ks, rfl, rd, rr⟩ := dK_ok g rx e
    cases ek : keyOfD y with
    | none => rw [ek] at h; cases h
    | some k =>
      rw [ek] at h; cases h
      obtain ⟨z1, z2⟩ := rr.look k
      exact ⟨a, valV ks k, rfl, .inl ⟨ks, k, rd, (keyOfD_rel ry ek).1, rfl⟩, z1, z2⟩
  · rename_i e
    rw [e] at hk; cases hk
theorem lookT_ok {X : Cx} {C : Cf} {s : Sx} {x y : D} {v u : V} {o : Option D} (hP : X.prog = C.P) (hw : X.w = C.w) (g : Good C s) (rx : R C s.F s.ρ x v) (ry : R C s.F s.ρ y u) (h : look x y s.ah = some o) (hk : (dK x s.ah).isSome = false) :
    ∃ a b ps k, v = .ref a ∧ u = .ref b ∧ HasN X s.H a ps ∧ KeyAt s.H k b ∧ (∀ d, o = some d → ∃ w, valN ps k = some w ∧ R C s.F s.ρ d w) ∧ (o = none → valN ps k = none) := by
  unfold look at h
  split at h
  · rename_i kvs e
    rw [e] at hk; cases hk
  · split at h
    · rename_i kvs e
      obtain ⟨a, ks, rfl, rd, rr⟩ := dT_ok g rx e
      cases ek : tkOf y with
      | none => rw [ek] at h; cases h
      | some k =>
        rw [ek] at h; cases h
        obtain ⟨z1, z2⟩ := rr.look k
        obtain ⟨b, rfl, hb⟩ := tkOf_rel g ry ek
        exact ⟨a, b, ks, k, rfl, rfl, ⟨by rw [hP, hw]; exact rd, rr.keysAt g.sub⟩, hb, z1, z2⟩
    · cases h
def gDg (x y : D) (h : AH) : Out D := match look x y h with
  | some (some d) => .ok d h
  | _ => .bad
def gDgK (x y : D) (h : AH) : Out D := if (dK x h).isSome = true then gDg x y h else .bad
def gDgT (x y : D) (h : AH) : Out D := if (dK x h).isSome = true then .bad else gDg x y h
/-- x[y], whatever x is -/
def gAt (x y : D) (h : AH) : Out D := if (look x y h).isSome = true then gDg x y h else gIx x y h
section
variable {X : Cx} {C : Cf} {ε : Ep} {W : WX} {a b : Expr} {ma mb : M D} {pos : Pos}
theorem me_dgK (hu : X.A.units + 1 < cLine) (ha : ME X C ε W a ma) (hb : ME X C ε W b mb) (hs : NoSl b := by intro _ _; rfl) : ME X C ε W (.Subscript a b pos) (bin gDgK ma mb) := (pe_dget hu ha hb hs).imp fun σ H Q h => by
  obtain ⟨s, dσ, rfl, ex, gd, rs, h⟩ := h
  refine Post.bind ex gd rs h fun s1 x v e1 f1 g1 rs1 r1 h1 => ?_
  refine Post.bind e1 g1 rs1 h1 fun s2 y u e2 f2 g2 rs2 r2 h2 => ?_
  unfold gDgK at h2
  split at h2
  · rename_i hk
    unfold gDg at h2
    split at h2
    · rename_i d e
      obtain ⟨a', o', rfl, dg, z1, _⟩ := look_ok g2 (r1.fwd f2) r2 e hk
      obtain ⟨w, rfl, rw'⟩ := z1 d rfl
      exact ⟨a', w, rfl, dg, Post.here g2 h2 rw'⟩
    · exact h2.elim
  · exact h2.elim
theorem me_dgT (hP : X.prog = C.P) (hw : X.w = C.w) (hu : X.A.units + 64 < cLine) (ha : ME X C ε W a ma) (hb : ME X C ε W b mb) (hs : NoSl b := by intro _ _; rfl) : ME X C ε W (.Subscript a b pos) (bin gDgT ma mb) := (pe_getN hu ha hb hs).imp fun σ H Q h => by
  obtain ⟨s, dσ, rfl, ex, gd, rs, h⟩ := h
  refine Post.bind ex gd rs h fun s1 x v e1 f1 g1 rs1 r1 h1 => ?_
  refine Post.bind e1 g1 rs1 h1 fun s2 y u e2 f2 g2 rs2 r2 h2 => ?_
  unfold gDgT at h2
  split at h2
  · exact h2.elim
  · rename_i hk
    unfold gDg at h2
    split at h2
    · rename_i d e
      obtain ⟨a', b', ps, k, rfl, rfl, hn, hb, z1, _⟩ := lookT_ok hP hw g2 (r1.fwd f2) r2 e (by simpa using hk)
      obtain ⟨w, ew, rw'⟩ := z1 d rfl
      exact ⟨a', b', ps, k, w, ⟨rfl, rfl⟩, hn, hb, ew, Post.here g2 h2 rw'⟩
    · exact h2.elim
theorem bin_if {p : D → D → AH → Bool} {g g1 g2 : D → D → AH → Out D} (hg : ∀ x y h, g x y h = if p x y h = true then g1 x y h else g2 x y h) (σ : Sl) (ah : AH) : bin g ma mb σ ah = bin g1 ma mb σ ah ∨ bin g ma mb σ ah = bin g2 ma mb σ ah := by
  unfold bin
  cases ma σ ah with
  | ok x h1 =>
    show ((mb σ h1).bind _) = ((mb σ h1).bind _) ∨ ((mb σ h1).bind _) = ((mb σ h1).bind _)
    cases mb σ h1 with
    | ok y h2 =>
      show g x y h2 = g1 x y h2 ∨ g x y h2 = g2 x y h2
      rw [hg]
      by_cases q : p x y h2 = true
      · rw [if_pos q]; exact .inl rfl
      · rw [if_neg q]; exact .inr rfl
    | exc => exact .inl rfl
    | bad => exact .inl rfl
  | exc => exact .inl rfl
  | bad => exact .inl rfl
theorem me_dg (hP : X.prog = C.P) (hw : X.w = C.w) (hu : X.A.units + 64 < cLine) (ha : ME X C ε W a ma) (hb : ME X C ε W b mb) (hs : NoSl b := by intro _ _; rfl) : ME X C ε W (.Subscript a b pos) (bin gDg ma mb) := me_as fun σ ah _ => by
  rcases bin_if (ma := ma) (mb := mb) (p := fun x y h => (dK x h).isSome) (g := gDg) (g1 := gDgK) (g2 := gDgT) (fun x y h => by
    unfold gDgK gDgT
    by_cases q : (dK x h).isSome = true
    · rw [if_pos q, if_pos q]
    · rw [if_neg q, if_neg q]) σ ah with e | e
  · exact ⟨_, e.symm, me_dgK (by omega) ha hb hs⟩
  · exact ⟨_, e.symm, me_dgT hP hw hu ha hb hs⟩
theorem me_at (hK : X.K = C.K) (hu : X.A.units + 64 < cLine) (ha : ME X C ε W a ma) (hb : ME X C ε W b mb) (hs : PlainIx b := by intro _ _; rfl) (hs2 : NoSl b := by intro _ _; rfl) (hP : X.prog = C.P := by rfl) (hw : X.w = C.w := by rfl) : ME X C ε W (.Subscript a b pos) (bin gAt ma mb) := me_as fun σ ah _ => by
  rcases bin_if (ma := ma) (mb := mb) (p := fun x y h => (look x y h).isSome) (g := gAt) (g1 := gDg) (g2 := gIx) (fun _ _ _ => rfl) σ ah with e | e
  · exact ⟨_, e.symm, me_dg hP hw hu ha hb hs2⟩
  · exact ⟨_, e.symm, me_ix hK ha hb hs⟩
end
def setOf (d : D) (h : AH) : Option (List Key) := match d with
  | .set xs => keysOfDs xs
  | .cell n => (match h.get n with
    | some (.set xs) => keysOfDs xs
    | _ => none)
  | _ => none
def gInD (y x : D) (h : AH) : Out D := match look x y h with
  | some o => .ok (.bl o.isSome) h
  | none => .bad
def rInDg (n : Bool → Bool) : R2 := fun y x H Q => ∃ a o, x = .ref a ∧ DGet H a y o ∧ Q (.bl (n o.isSome)) H
theorem or_inDg {X : Cx} (hu : X.A.units + 1 < cLine) : OpR X (compareOp .In) (rInDg id) := by
  intro pins s σ H x y v u Q I rx ry h
  obtain ⟨a, o, rfl, dg, q⟩ := h
  cases ry
  exact d_in hu I dg rx fun s' I' => ⟨.bl o.isSome, H, I', rfl, q⟩
theorem _root_.L2.OpR.or' {X : Cx} {f : Value → Value → Sem Value} {r1 r2 : R2} (h1 : OpR X f r1) (h2 : OpR X f r2) : OpR X f (fun x y H Q => r1 x y H Q ∨ r2 x y H Q) := fun pins s σ H x y v u Q I rx ry h => h.elim (h1 pins s σ H x y v u Q I rx ry) (h2 pins s σ H x y v u Q I rx ry)
theorem _root_.L2.CallR.or' {X : Cx} {f : Value} {r1 r2 : List V → Hp → VK → Prop} (h1 : CallR X f r1) (h2 : CallR X f r2) : CallR X f (fun xs H Q => r1 xs H Q ∨ r2 xs H Q) := fun pins s σ H xs us Q I r h => h.elim (h1 pins s σ H xs us Q I r) (h2 pins s σ H xs us Q I r)
/-- of sets -/
def gInM (y x : D) (h : AH) : Out D := match setOf x h, keyOfD y with
  | some ks, some k => .ok (.bl (decide (k ∈ ks))) h
  | _, _ => .bad
def rInM (P : Program) (w : World) (n : Bool → Bool) : R2 := fun y x H Q => ∃ a ks k, x = .ref a ∧ H a = some (SetM P w a ks) ∧ y = kV k ∧ Q (.bl (n (decide (k ∈ ks)))) H
theorem SetMR.setOf {P : Program} {w : World} {h : Heap} {a : Addr} {ks : List Key} (R : SetMR P w h a ks) : h.SetOf (mixKind P w) a (fun k => decide (k ∈ ks)) ks.length := by
  obtain ⟨o, es, ep, t, ⟨ho, hex, hd⟩, g, pk, nd, hb, hf, hr, hl⟩ := R
  refine ⟨o, es, ep, t, ho, hex, hd, goodM_elems g, fun k => ?_, hb, hf, SetMR.size (h := h) (o := o) pk⟩
  rw [decide_eq_true_eq, ← pk.mem_iff, List.mem_map]
  exact ⟨fun ⟨e, he, q⟩ => ⟨e, he, by rw [goodM_is (g e he)]; exact decide_eq_true q.symm⟩, fun ⟨e, he, q⟩ => ⟨e, he, by rw [goodM_is (g e he)] at q; exact (of_decide_eq_true q).symm⟩⟩
theorem or_inM {X : Cx} : OpR X (compareOp .In) (rInM X.prog X.w id) := by
  intro pins s σ H x y v u Q I rx ry h
  obtain ⟨a, ks, k, rfl, ha, rfl, q⟩ := h
  cases ry
  exact wpAny_inSet_of (kV_is rx) (key_scan rx) (setM_get I ha).setOf ⟨.bl (decide (k ∈ ks)), H, I.tok _, rfl, q⟩
theorem setOf_ok {C : Cf} {s : Sx} {d : D} {v : V} {ks : List Key} (g : Good C s) (r : R C s.F s.ρ d v) (h : setOf d s.ah = some ks) : ∃ a, v = .ref a ∧ s.H a = some (SetM C.P C.w a ks) := by
  unfold setOf at h
  split at h
  · unfold R at r
    obtain ⟨a, ks', rfl, fa, rfl⟩ := r
    rw [keysOfDs_map] at h; cases h
    exact ⟨a, rfl, g.sub _ _ fa⟩
  · rename_i n
    split at h
    · rename_i xs e
      unfold R at r
      obtain ⟨a, rfl, ea⟩ := r
      obtain ⟨a', q1, q2, ks', z1, z2⟩ := g.own n _ e
      rw [ea] at q1; cases q1
      rw [z2, keysOfDs_map] at h; cases h
      exact ⟨a, rfl, z1⟩
    · cases h
  · cases h
/-- all of it -/
def gInA (y x : D) (h : AH) : Out D := if (look x y h).isSome = true then gInD y x h else if (setOf x h).isSome = true then gInM y x h else
  match lstOf x h with
  | some xs => (match toPy (seen y h), toPy (.lst xs) with
    | some a, some (.list bs) => if (SeqAt.shaped a && SeqAt.shaped (.list bs)) = true then .ok (.bl (bs.any fun z => PyData.eqv z a)) h else .bad
    | _, _ => .bad)
  | none => gIn y x h
def rInA (X : Cx) (n : Bool → Bool) (rd : R2) : R2 := fun y x H Q => rInDg n y x H Q ∨ (rInN X n y x H Q ∨ (rInM X.prog X.w n y x H Q ∨ (rd y x H Q ∨ rInS n y x H Q)))
theorem or_inA {X : Cx} {k : Nat} (hr : Room k X.A) : OpR X (compareOp .In) (rInA X id (rInD X.K)) := OpR.or' (or_inDg (by have := hr.units; omega)) (OpR.or' (or_inN (by have := hr.un; omega)) (OpR.or' or_inM (OpR.or' (op_inD (by have := hr.un; omega)) or_in)))
theorem gIn_ok {y x : D} {h h' : AH} {d : D} (e : gIn y x h = .ok d h') : ∃ (c : Nat) (z : Str), y = .str ⟨#[c]⟩ ∧ x = .str z ∧ d = .bl (decide (c ∈ z.cps.toList)) ∧ h' = h := by
  cases y with
  | str i =>
    cases x with
    | str z =>
      unfold gIn at e
      dsimp only at e
      split at e
      · rename_i c ec
        cases e
        refine ⟨c, z, ?_, rfl, rfl, rfl⟩
        cases i with
        | mk cps => cases cps with
          | mk l => cases (show l = [c] from ec); rfl
      · cases e
    | _ => cases e
  | _ => cases e
theorem inA_core {X : Cx} {C : Cf} {n : Bool → Bool} {rd : R2} (hat : At X C) (hrd : ∀ y x H Q d ds, Dp X.K H y d → Dp X.K H x (.list ds) → SeqAt.shaped d = true → SeqAt.shaped (.list ds) = true → Q (.bl (n (ds.any fun z => PyData.eqv z d))) H → rd y x H Q)
    {s : Sx} {y x : D} {u v : V} {Q : VK} (g : Good C s) (ry : R C s.F s.ρ y u) (rx : R C s.F s.ρ x v) {b : Bool} {h' : AH} (e : gInA y x s.ah = .ok (.bl b) h') (h : ∀ (e : h' = s.ah), Q (.bl (n b)) s.H) : rInA X n rd u v s.H Q := by
  unfold gInA at e
  split at e
  · unfold gInD at e
    split at e
    · rename_i o eo
      cases e
      by_cases hk : (dK x s.ah).isSome = true
      · obtain ⟨a, o', rfl, dg, z1, z2⟩ := look_ok g rx ry eo hk
        refine .inl ⟨a, o', rfl, dg, ?_⟩
        have : o'.isSome = o.isSome := by
          cases o with
          | none => rw [z2 rfl]; rfl
          | some d => obtain ⟨w, rfl, _⟩ := z1 d rfl; rfl
        rw [this]; exact h rfl
      · obtain ⟨a, b, ps, k, rfl, rfl, hn, hb, z1, z2⟩ := lookT_ok hat.P hat.w g rx ry eo (by simpa using hk)
        refine .inr (.inl ⟨a, b, ps, k, ⟨rfl, rfl⟩, hn, hb, ?_⟩)
        have : (valN ps k).isSome = o.isSome := by
          cases o with
          | none => rw [z2 rfl]; rfl
          | some d => obtain ⟨w, e, _⟩ := z1 d rfl; rw [e]; rfl
        rw [this]; exact h rfl
    · cases e
  · split at e
    · unfold gInM at e
      split at e
      · rename_i ks k e1 e2
        cases e
        obtain ⟨a, rfl, ha⟩ := setOf_ok g rx e1
        exact .inr (.inr (.inl ⟨a, ks, k, rfl, by rw [hat.P, hat.w]; exact ha, (keyOfD_rel ry e2).1, h rfl⟩))
      · cases e
    · split at e
      · rename_i xs el
        split at e
        · rename_i a bs e1 e2
          split at e
          · rename_i hs
            have hs := Bool.and_eq_true_iff.mp hs
            cases e
            obtain ⟨p, ys, rfl, hp, rr⟩ := lstOf_ok g rx el
            unfold toPy at e2
            cases q : toPys xs with
            | none => rw [q] at e2; cases e2
            | some ps =>
              rw [q] at e2; cases e2
              exact .inr (.inr (.inr (.inl (hrd _ _ _ _ a bs (seen_ok g ry e1) (.lst (SqL.of hp) (toPys_ok g.sub rr q)) hs.1 hs.2 (h rfl)))))
          · cases e
        · cases e
      · obtain ⟨c, z, rfl, rfl, e1, rfl⟩ := gIn_ok e
        cases e1
        exact .inr (.inr (.inr (.inr ⟨c, z, ry.str_eq, rx.str_eq, h rfl⟩)))
theorem gInA_bl {y x : D} {h h' : AH} {d : D} (e : gInA y x h = .ok d h') : ∃ b, d = .bl b ∧ h' = h := by
  unfold gInA at e
  split at e
  · unfold gInD at e
    split at e <;> cases e
    exact ⟨_, rfl, rfl⟩
  · split at e
    · unfold gInM at e
      split at e <;> cases e
      exact ⟨_, rfl, rfl⟩
    · split at e
      · split at e
        · split at e <;> cases e
          exact ⟨_, rfl, rfl⟩
        · cases e
      · unfold gIn at e
        split at e
        · split at e <;> cases e
          exact ⟨_, rfl, rfl⟩
        · cases e
theorem gInA_exc {y x : D} {h h' : AH} {z : Exc} (e : gInA y x h = .exc z h') : False := by
  unfold gInA at e
  split at e
  · unfold gInD at e
    split at e <;> cases e
  · split at e
    · unfold gInM at e
      split at e <;> cases e
    · split at e
      · split at e
        · split at e <;> cases e
        · cases e
      · unfold gIn at e
        split at e
        · split at e <;> cases e
        · cases e
theorem os_inA {X : Cx} {C : Cf} (hat : At X C) : OpS C (rInA X id (rInD X.K)) gInA := by
  intro W σ s y x u v Q g ry rx h
  cases e : gInA y x s.ah with
  | ok d h' =>
    rw [e] at h
    obtain ⟨b, rfl, rfl⟩ := gInA_bl e
    exact inA_core (n := id) hat (fun y x H Q d ds a1 a2 a3 a4 a5 => ⟨d, ds, a1, a2, a3, a4, a5⟩) g ry rx e fun _ => Post.bl g h
  | exc => exact (gInA_exc e).elim
  | bad => rw [e] at h; exact h.elim
end Ws
set_option Elab.async false
set_option linter.all false
set_option maxRecDepth 100000
set_option maxHeartbeats 2000000
set_option autoImplicit false
namespace Ws
open PySem PySem.Spec PyProof.Rows L2
def cellD (d : D) (h : AH) : Option (Nat × List (D × D)) := match d with
  | .cell n => (match h.get n with
    | some (.dct kvs) => some (n, kvs)
    | _ => none)
  | _ => none
def cellT (d : D) (h : AH) : Option (Nat × List (D × D)) := match d with
  | .cell n => (match h.get n with
    | some (.dcT kvs) => some (n, kvs)
    | _ => none)
  | _ => none
def putDK (kvs : List (D × D)) (k : Key) (d : D) : List (D × D) := if (kvs.any fun p => decide (keyOfD p.1 = some k)) = true then kvs.map (fun p => if keyOfD p.1 = some k then (p.1, d) else p) else kvs ++ [(keyD k, d)]
def putDT (kvs : List (D × D)) (k : NK) (kd d : D) : List (D × D) := if (kvs.any fun p => decide (nkOf p.1 = some k)) = true then kvs.map (fun p => if nkOf p.1 = some k then (p.1, d) else p) else kvs ++ [(kd, d)]
section
variable {C : Cf} {F : Hp} {ρ : Rho} {s : Sx}
theorem Rk.length : ∀ {a : List (D × D)} {b : List (Key × V)}, Rk C F ρ a b → a.length = b.length
  | [], _, h => by unfold Rk at h; cases h; rfl
  | (_, _) :: _, _, h => by unfold Rk at h; obtain ⟨k, v, t, rfl, _, _, b⟩ := h; simp [Rk.length b]
theorem Rt.length : ∀ {a : List (D × D)} {b : NP}, Rt C F ρ a b → a.length = b.length
  | [], _, h => by unfold Rt at h; cases h; rfl
  | (_, _) :: _, _, h => by unfold Rt at h; obtain ⟨k, b0, v, t, rfl, _, _, _, _, b⟩ := h; simp [Rt.length b]
theorem Rk.any (k : Key) : ∀ {a : List (D × D)} {b : List (Key × V)}, Rk C F ρ a b → (a.any fun p => decide (keyOfD p.1 = some k)) = b.any fun kv => decide (kv.1 = k)
  | [], _, h => by unfold Rk at h; cases h; rfl
  | (_, _) :: _, _, h => by
    unfold Rk at h
    obtain ⟨x, v, t, rfl, rfl, _, b⟩ := h
    rw [List.any_cons, List.any_cons, Rk.any k b, keyOfD_keyD]
    congr 1
    simp
theorem Rt.any (k : NK) : ∀ {a : List (D × D)} {b : NP}, Rt C F ρ a b → (a.any fun p => decide (nkOf p.1 = some k)) = (b.find? fun p => decide (p.1 = k)).isSome
  | [], _, h => by unfold Rt at h; cases h; rfl
  | (_, _) :: _, _, h => by
    unfold Rt at h
    obtain ⟨x, b0, v, t, rfl, ek, _, _, _, b⟩ := h
    rw [List.any_cons, List.find?_cons, Rt.any k b]
    dsimp only
    rw [ek]
    by_cases e : x = k
    · simp [e]
    · rw [decide_eq_false (fun z => e (Option.some.inj z)), decide_eq_false e, Bool.false_or]
theorem Rk.upd (k : Key) {d : D} {v : V} (r : R C F ρ d v) : ∀ {a : List (D × D)} {b : List (Key × V)}, Rk C F ρ a b → Rk C F ρ (a.map fun p => if keyOfD p.1 = some k then (p.1, d) else p) (b.map fun kv => if kv.1 = k then (kv.1, v) else kv)
  | [], _, h => by unfold Rk at h; cases h; unfold Rk; rfl
  | (_, _) :: _, _, h => by
    unfold Rk at h
    obtain ⟨x, u, t, rfl, rfl, ru, b⟩ := h
    simp only [List.map_cons]
    rw [keyOfD_keyD]
    by_cases e : x = k
    · subst e
      rw [if_pos rfl, if_pos rfl]; unfold Rk; exact ⟨_, v, _, rfl, rfl, r, Rk.upd x r b⟩
    · rw [if_neg (fun z => e (Option.some.inj z)), if_neg e]; unfold Rk; exact ⟨x, u, _, rfl, rfl, ru, Rk.upd k r b⟩
theorem Rt.upd (k : NK) {d : D} {v : V} (r : R C F ρ d v) : ∀ {a : List (D × D)} {b : NP}, Rt C F ρ a b → Rt C F ρ (a.map fun p => if nkOf p.1 = some k then (p.1, d) else p) (b.map fun p => if p.1 = k then (p.1, p.2.1, v) else p)
  | [], _, h => by unfold Rt at h; cases h; unfold Rt; rfl
  | (_, _) :: _, _, h => by
    unfold Rt at h
    obtain ⟨x, b0, u, t, rfl, ek, ed, rk, ru, b⟩ := h
    simp only [List.map_cons]
    rw [ek]
    by_cases e : x = k
    · subst e
      rw [if_pos rfl, if_pos rfl]; unfold Rt; exact ⟨x, b0, v, _, rfl, ek, ed, rk, r, Rt.upd x r b⟩
    · rw [if_neg (fun z => e (Option.some.inj z)), if_neg e]; unfold Rt; exact ⟨x, b0, u, _, rfl, ek, ed, rk, ru, Rt.upd k r b⟩
theorem Rk.snoc (k : Key) {d : D} {v : V} (r : R C F ρ d v) : ∀ {a : List (D × D)} {b : List (Key × V)}, Rk C F ρ a b → Rk C F ρ (a ++ [(keyD k, d)]) (b ++ [(k, v)])
  | [], _, h => by unfold Rk at h; cases h; show Rk C F ρ [(keyD k, d)] [(k, v)]; unfold Rk; exact ⟨k, v, [], rfl, rfl, r, by unfold Rk; rfl⟩
  | (_, _) :: _, _, h => by
    unfold Rk at h
    obtain ⟨x, u, t, rfl, rfl, ru, b⟩ := h
    simp only [List.cons_append]
    unfold Rk
    exact ⟨x, u, _, rfl, rfl, ru, Rk.snoc k r b⟩
theorem Rt.snoc {k : NK} {kd : D} {b0 : Addr} (ek : nkOf kd = some k) (ed : k.depth ≤ 8) (rk : R C F ρ kd (.ref b0)) {d : D} {v : V} (r : R C F ρ d v) : ∀ {a : List (D × D)} {b : NP}, Rt C F ρ a b → Rt C F ρ (a ++ [(kd, d)]) (b ++ [(k, b0, v)])
  | [], _, h => by unfold Rt at h; cases h; show Rt C F ρ [(kd, d)] [(k, b0, v)]; unfold Rt; exact ⟨k, b0, v, [], rfl, ek, ed, rk, r, by unfold Rt; rfl⟩
  | (_, _) :: _, _, h => by
    unfold Rt at h
    obtain ⟨x, b1, u, t, rfl, ek1, ed1, rk1, ru, b⟩ := h
    simp only [List.cons_append]
    unfold Rt
    exact ⟨x, b1, u, _, rfl, ek1, ed1, rk1, ru, Rt.snoc ek ed rk r b⟩
theorem Rk.put {a : List (D × D)} {b : List (Key × V)} (h : Rk C F ρ a b) (k : Key) {d : D} {v : V} (r : R C F ρ d v) : Rk C F ρ (putDK a k d) (putK b k v) := by
  unfold putDK putK
  rw [h.any k]
  by_cases e : (b.any fun kv => decide (kv.1 = k)) = true
  · rw [if_pos e, if_pos e]; exact h.upd k r
  · rw [if_neg e, if_neg e]; exact h.snoc k r
theorem Rt.put {a : List (D × D)} {b : NP} (h : Rt C F ρ a b) {k : NK} {kd : D} {b0 : Addr} (ek : nkOf kd = some k) (ed : k.depth ≤ 8) (rk : R C F ρ kd (.ref b0)) {d : D} {v : V} (r : R C F ρ d v) : Rt C F ρ (putDT a k kd d) (putN b k b0 v) := by
  unfold putDT putN
  rw [h.any k]
  by_cases e : (b.find? fun p => decide (p.1 = k)).isSome = true
  · rw [if_pos e, if_pos e]; exact h.upd k r
  · rw [if_neg e, if_neg e]; exact Rt.snoc ek ed rk r h
theorem cellD_ok {d : D} {v : V} {n : Nat} {kvs : List (D × D)} (g : Good C s) (r : R C s.F s.ρ d v) (h : cellD d s.ah = some (n, kvs)) : ∃ a ks, v = .ref a ∧ s.ρ.c n = some a ∧ s.ah.get n = some (.dct kvs) ∧ s.H a = some (.dK ks) ∧ Rk C s.F s.ρ kvs ks := by
  cases d with
  | cell m =>
    unfold cellD at h
    dsimp only at h
    split at h
    · rename_i zs e
      cases h
      unfold R at r
      obtain ⟨a, rfl, ea⟩ := r
      obtain ⟨a', q1, q2, ys, z1, z2⟩ := g.own n _ e
      rw [ea] at q1; cases q1
      exact ⟨a, ys, rfl, ea, e, z1, z2⟩
    · cases h
  | _ => cases h
theorem cellT_ok {d : D} {v : V} {n : Nat} {kvs : List (D × D)} (g : Good C s) (r : R C s.F s.ρ d v) (h : cellT d s.ah = some (n, kvs)) : ∃ a ks, v = .ref a ∧ s.ρ.c n = some a ∧ s.ah.get n = some (.dcT kvs) ∧ s.H a = some (dictN C.P C.w a ks) ∧ Rt C s.F s.ρ kvs ks := by
  cases d with
  | cell m =>
    unfold cellT at h
    dsimp only at h
    split at h
    · rename_i zs e
      cases h
      unfold R at r
      obtain ⟨a, rfl, ea⟩ := r
      obtain ⟨a', q1, q2, ys, z1, z2⟩ := g.own n _ e
      rw [ea] at q1; cases q1
      exact ⟨a, ys, rfl, ea, e, z1, z2⟩
    · cases h
  | _ => cases h
end
/-- o[i] = d, by values: what becomes of the cells -/
def stD (o i d : D) (h : AH) : Option AH := match cellD o h with
  | some (n, kvs) => (match keyOfD i with
    | some k => if kvs.length < 1000000 then some (h.put n (.dct (putDK kvs k d))) else none
    | none => none)
  | none => (match cellT o h with
    | some (n, kvs) => (match tkOf i with
      | some k => if kvs.length < 1000000 then some (h.put n (.dcT (putDT kvs k i d))) else none
      | none => none)
    | none => (match cellL o h, i with
      | some (n, xs), .int j => (match ixN xs.length j with
        | some j => some (h.put n (.lst (xs.set j d)))
        | none => none)
      | _, _ => none))
def rSetA (X : Cx) : TSet := fun o i v H Q => rSetL o i v H Q ∨ (rSetD o i v H Q ∨ rSetN X o i v H Q)
theorem set_A {X : Cx} (hu : X.A.units + 64 < cLine) : PSet X (rSetA X) := fun pins s σ H o i v ov iv u Q I ro ri rv h => h.elim (set_list pins s σ H o i v ov iv u Q I ro ri rv) fun h => h.elim (set_dict (by omega) pins s σ H o i v ov iv u Q I ro ri rv) (set_N hu pins s σ H o i v ov iv u Q I ro ri rv)
theorem stD_ok {X : Cx} {C : Cf} {s : Sx} (hP : X.prog = C.P) (hw : X.w = C.w) {o i d : D} {vo vi v : V} {h' : AH} {Q : Hp → Prop} (g : Good C s) (ro : R C s.F s.ρ o vo) (ri : R C s.F s.ρ i vi) (rd : R C s.F s.ρ d v) (e : stD o i d s.ah = some h') (q : ∀ s', s'.ah = h' → Fwd s s' → Good C s' → Q s'.H) : rSetA X vo vi v s.H Q := by
  unfold stD at e
  split at e
  · rename_i n kvs ec
    split at e
    · rename_i k ek
      split at e
      · rename_i hl
        cases e
        obtain ⟨a, ks, rfl, ea, en, hH, rr⟩ := cellD_ok g ro ec
        refine .inr (.inl ⟨a, _, rfl, .inl ⟨ks, k, hH, (keyOfD_rel ri ek).1, lim_lt (by rw [← rr.length]; exact hl), rfl⟩, ?_⟩)
        exact q (s.wr n a (.dK (putK ks k v)) (.dct (putDK kvs k d))) rfl (Fwd.wr g en ea) (g.wr en ea ⟨_, upd_same, rr.put k rd⟩)
      · cases e
    · cases e
  · split at e
    · rename_i n kvs ec
      split at e
      · rename_i k ek
        split at e
        · rename_i hl
          cases e
          obtain ⟨a, ks, rfl, ea, en, hH, rr⟩ := cellT_ok g ro ec
          obtain ⟨b, rfl, hb⟩ := tkOf_rel g ri ek
          refine .inr (.inr ⟨a, b, ks, k, ⟨rfl, rfl⟩, by rw [hP, hw]; exact hH, rr.keysAt g.sub, hb, lim_lt (by rw [← rr.length]; exact hl), ?_⟩)
          rw [hP, hw]
          obtain ⟨nk, nd, _⟩ := tkOf_nk ek
          exact q (s.wr n a (dictN C.P C.w a (putN ks k b v)) (.dcT (putDT kvs k i d))) rfl (Fwd.wr g en ea) (g.wr en ea ⟨_, upd_same, rr.put nk nd ri rd⟩)
        · cases e
      · cases e
    · split at e
      · rename_i n xs j ec
        split at e
        · rename_i j' ej
          cases e
          obtain ⟨a, ys, rfl, ea, en, hH, rr⟩ := cellL_ok g ro ec
          refine .inl ⟨a, ys, j, j', rfl, ri.int_eq, hH, by rw [← rr.length]; exact ej, ?_⟩
          exact q (s.wr n a (.lst (ys.set j' v)) (.lst (xs.set j' d))) rfl (Fwd.wr g en ea) (g.wr en ea ⟨_, upd_same, Rs.set rd j' rr⟩)
        · cases e
      · cases e
/-- o[i] = .., whatever o is -/
def tgSt (mo mi : M D) : Tg := fun d σ h => match mo σ h with
  | .ok o h1 => (match mi σ h1 with
    | .ok i h2 => (match stD o i d h2 with
      | some h3 => .ok σ h3
      | none => .bad)
    | _ => .bad)
  | _ => .bad
section
variable {X : Cx} {C : Cf} {ε : Ep} {W : WX} {o i : Expr} {mo mi : M D} {pos : Pos}
theorem mg_st (hu : X.A.units + 64 < cLine) (ho : ME X C ε WF o mo) (hi : ME X C ε WF i mi)
    (ha : ∀ v, assign (.Subscript o i pos) X.env v = (do let ov ← holding [v] (eval o X.env); let iv ← holding [v, ov] (eval i X.env); standAt pos; holding [v, ov, iv] (setItem ov iv v); release [v, ov, iv] []) := by intro _; rfl) (hP : X.prog = C.P := by rfl) (hw : X.w = C.w := by rfl) : MG X C ε (.Subscript o i pos) (tgSt mo mi) :=
  (pg_sub ho hi (set_A (by omega)) ha).imp fun v σ H Q h => by
    obtain ⟨s, dσ, d, rfl, ex, g, rs, r, h⟩ := h
    unfold tgSt at h
    refine ⟨s, dσ, rfl, ex, g, rs, ?_⟩
    cases q1 : mo dσ s.ah with
    | ok od h1 =>
      rw [q1] at h
      intro s1 ov e1 f1 g1 r1
      subst e1
      refine ⟨s1, dσ, rfl, f1.rho.x.trans ex, g1, rs.fwd f1, ?_⟩
      dsimp only at h
      cases q2 : mi dσ s1.ah with
      | ok id h2 =>
        rw [q2] at h
        intro s2 iv e2 f2 g2 r2
        subst e2
        dsimp only at h
        cases q3 : stD od id d s2.ah with
        | some h3 =>
          rw [q3] at h
          have f := f1.trans f2
          exact stD_ok hP hw g2 (r1.fwd f2) r2 (r.fwd f) q3 fun s3 e3 f3 g3 => h s3 σ e3 (f.trans f3) g3 (rs.fwd (f.trans f3))
        | none => rw [q3] at h; exact h.elim
      | exc => rw [q2] at h; exact h.elim
      | bad => rw [q2] at h; exact h.elim
    | exc => rw [q1] at h; exact h.elim
    | bad => rw [q1] at h; exact h.elim
end
def prNil : M (List (D × D)) := fun _ h => .ok [] h
def prCons (k v : M D) (r : M (List (D × D))) : M (List (D × D)) := fun σ h => (k σ h).bind fun x h1 => (v σ h1).bind fun y h2 => (r σ h2).bind fun ps h3 => .ok ((x, y) :: ps) h3
/-- pairs, as keys -/
def keyPrs : List (D × D) → Option (List (Key × D))
  | [] => some []
  | (x, y) :: r => (match keyOfD x, keyPrs r with
    | some k, some ps => some ((k, y) :: ps)
    | _, _ => none)
def mergeD (ps : List (Key × D)) : List (D × D) := ps.foldl (fun acc p => putDK acc p.1 p.2) []
section
variable {X : Cx} {C : Cf} {ε : Ep} {W : WX} {pos : Pos} {k v : Expr} {ks : List (Option Expr)} {vs : List Expr} {mk mv : M D} {mr : M (List (D × D))}
/-- {k: v, ..}; kept -/
def disp (m : M (List (D × D))) : M D := fun σ h => (m σ h).bind fun ps h1 => match keyPrs ps with
  | some qs => .ok (.dct (mergeD qs)) h1
  | none => .bad
/-- in a cell -/
def dispC (m : M (List (D × D))) : M D := fun σ h => (m σ h).bind fun ps h1 => match keyPrs ps with
  | some qs => .ok (.cell h1.length) (h1 ++ [some (.dct (mergeD qs))])
  | none => .bad
/-- {} -/
def emptyK : M D := fun _ h => .ok (.dct []) h
def emptyKC : M D := fun _ h => .ok (.cell h.length) (h ++ [some (.dct [])])
def emptyTC : M D := fun _ h => .ok (.cell h.length) (h ++ [some (.dcT [])])
theorem me_emptyK : ME X C ε W (.Dict [] [] pos) emptyK := (pe_lk pe_dnewK).imp fun σ H Q h => by
  obtain ⟨s, dσ, rfl, ex, g, rs, h⟩ := h
  intro p hp
  refine ⟨p, _, rfl, upd_same, trivial, fun od => ?_⟩
  have g2 := g.fill (o := .dK []) hp (fun _ z => nomatch z)
  have i2 : Fill (s.setp p (.dK [])) p (.dK []) := Fill.new g hp
  have g3 := g2.setp (o := .frz od (.dK [])) i2 (fun _ z => nomatch z)
  have i3 : Fill ((s.setp p (.dK [])).setp p (.frz od (.dK []))) p (.frz od (.dK [])) := i2.setp
  obtain ⟨g4, sb⟩ := g3.done i3
  refine h (((s.setp p (.dK [])).setp p (.frz od (.dK []))).done p (.frz od (.dK []))) (.ref p) rfl ((((Fwd.refl s).setp hp).setp hp).done hp i3) g4 ?_
  unfold R
  exact ⟨p, od, [], rfl, upd_same, by unfold Rk; rfl⟩
end
end Ws
set_option Elab.async false
set_option linter.all false
set_option maxRecDepth 100000
set_option maxHeartbeats 2000000
set_option autoImplicit false
namespace Ws
open PySem PySem.Spec PyProof.Rows L2
mutual
def sbD (n : Nat) (d : D) : D → D
  | .tup xs => .tup (sbDs n d xs)
  | .rtp xs => .rtp (sbDs n d xs)
  | .lst xs => .lst (sbDs n d xs)
  | .dct kvs => .dct (sbK n d kvs)
  | .dcT kvs => .dcT (sbK n d kvs)
  | .ins c fs => .ins c (sbF n d fs)
  | .exn c fs => .exn c (sbF n d fs)
  | .cell m => if m = n then d else .cell m
  | x => x
def sbDs (n : Nat) (d : D) : List D → List D
  | [] => []
  | x :: xs => sbD n d x :: sbDs n d xs
def sbK (n : Nat) (d : D) : List (D × D) → List (D × D)
  | [] => []
  | (k, x) :: xs => (k, sbD n d x) :: sbK n d xs
def sbF (n : Nat) (d : D) : List (Str × D) → List (Str × D)
  | [] => []
  | (k, x) :: xs => (k, sbD n d x) :: sbF n d xs
end
section
variable {C : Cf} {F : Hp} {ρ : Rho} {n : Nat} {d : D} {a : Addr}
mutual
theorem R.sb (ea : ρ.c n = some a) (rd : R C F ρ d (.ref a)) : ∀ {x : D} {v : V}, R C F ρ x v → R C F ρ (sbD n d x) v
  | .tup xs, _, h => by unfold sbD; unfold R at h ⊢; obtain ⟨b, ys, e, f, q⟩ := h; exact ⟨b, ys, e, f, Rs.sb ea rd q⟩
  | .rtp xs, _, h => by unfold sbD; unfold R at h ⊢; obtain ⟨b, ys, e, f, q⟩ := h; exact ⟨b, ys, e, f, Rs.sb ea rd q⟩
  | .lst xs, _, h => by unfold sbD; unfold R at h ⊢; obtain ⟨b, ys, e, f, q⟩ := h; exact ⟨b, ys, e, f, Rs.sb ea rd q⟩
  | .dct kvs, _, h => by unfold sbD; unfold R at h ⊢; obtain ⟨b, o, ks, e, f, q⟩ := h; exact ⟨b, o, ks, e, f, Rk.sb ea rd q⟩
  | .dcT kvs, _, h => by unfold sbD; unfold R at h ⊢; obtain ⟨b, o, ks, e, f, q⟩ := h; exact ⟨b, o, ks, e, f, Rt.sb ea rd q⟩
  | .ins c fs, _, h => by unfold sbD; unfold R at h ⊢; obtain ⟨b, dx, gs, e, f, q⟩ := h; exact ⟨b, dx, gs, e, f, Rf.sb ea rd q⟩
  | .exn c fs, _, h => by
    unfold sbD; unfold R at h ⊢
    obtain ⟨b, od, e, f, z⟩ := h
    refine ⟨b, od, e, f, ?_⟩
    rcases z with ⟨z1, z2⟩ | ⟨d', gs, e1, e2, q⟩
    · subst z2; exact .inl ⟨z1, by unfold sbF; rfl⟩
    · exact .inr ⟨d', gs, e1, e2, Rf.sb ea rd q⟩
  | .cell m, _, h => by
    unfold sbD
    by_cases e : m = n
    · subst e
      rw [if_pos rfl]
      unfold R at h
      obtain ⟨b, rfl, eb⟩ := h
      rw [ea] at eb; cases eb
      exact rd
    · rw [if_neg e]; exact h
  | .non, _, h | .bl _, _, h | .int _, _, h | .str _, _, h | .ty _, _, h | .glo _, _, h | .set _, _, h | .scr _, _, h | .lam _, _, h | .seT _, _, h | .exv _ _ _, _, h | .odc _ _, _, h => by unfold sbD; exact h
theorem Rs.sb (ea : ρ.c n = some a) (rd : R C F ρ d (.ref a)) : ∀ {x : List D} {v : List V}, Rs C F ρ x v → Rs C F ρ (sbDs n d x) v
  | [], _, h => by unfold sbDs; exact h
  | _ :: _, _, h => by unfold sbDs; unfold Rs at h ⊢; obtain ⟨v, t, e, p, q⟩ := h; exact ⟨v, t, e, R.sb ea rd p, Rs.sb ea rd q⟩
theorem Rf.sb (ea : ρ.c n = some a) (rd : R C F ρ d (.ref a)) : ∀ {x : List (Str × D)} {v : List (Str × V)}, Rf C F ρ x v → Rf C F ρ (sbF n d x) v
  | [], _, h => by unfold sbF; exact h
  | (_, _) :: _, _, h => by unfold sbF; unfold Rf at h ⊢; obtain ⟨v, t, e, p, q⟩ := h; exact ⟨v, t, e, R.sb ea rd p, Rf.sb ea rd q⟩
theorem Rk.sb (ea : ρ.c n = some a) (rd : R C F ρ d (.ref a)) : ∀ {x : List (D × D)} {v : List (Key × V)}, Rk C F ρ x v → Rk C F ρ (sbK n d x) v
  | [], _, h => by unfold sbK; exact h
  | (_, _) :: _, _, h => by unfold sbK; unfold Rk at h ⊢; obtain ⟨k, v, t, e, ek, p, q⟩ := h; exact ⟨k, v, t, e, ek, R.sb ea rd p, Rk.sb ea rd q⟩
theorem Rt.sb (ea : ρ.c n = some a) (rd : R C F ρ d (.ref a)) : ∀ {x : List (D × D)} {v : NP}, Rt C F ρ x v → Rt C F ρ (sbK n d x) v
  | [], _, h => by unfold sbK; exact h
  | (_, _) :: _, _, h => by unfold sbK; unfold Rt at h ⊢; obtain ⟨k, b0, v, t, e, ek, ed, rk, p, q⟩ := h; exact ⟨k, b0, v, t, e, ek, ed, rk, R.sb ea rd p, Rt.sb ea rd q⟩
end
end
end Ws
set_option Elab.async false
set_option linter.all false
set_option maxRecDepth 100000
set_option maxHeartbeats 2000000
set_option autoImplicit false
namespace Ws
open PySem PySem.Spec PyProof.Rows L2
end Ws
set_option Elab.async false
set_option linter.all false
set_option maxRecDepth 100000
set_option maxHeartbeats 2000000
set_option autoImplicit false
namespace Ws
open PySem PySem.Spec PyProof.Rows L2
theorem Rk.keys {C : Cf} {F : Hp} {ρ : Rho} : ∀ {a : List (D × D)} {b : List (Key × V)}, Rk C F ρ a b → a.map (·.1) = (b.map (·.1)).map keyD
  | [], _, h => by unfold Rk at h; cases h; rfl
  | (_, _) :: _, _, h => by unfold Rk at h; obtain ⟨k, v, t, rfl, rfl, _, b⟩ := h; simp [Rk.keys b]
def lenA (d : D) (h : AH) : Option Nat := match dK d h with
  | some kvs => some kvs.length
  | none => (match setOf d h with
    | some ks => some ks.length
    | none => lenD d h)
def gLenA (ds : List D) (h : AH) : Out D := match ds with
  | [d] => (match lenA d h with
    | some n => .ok (.int n) h
    | none => .bad)
  | _ => .bad
def rLenD : List V → Hp → VK → Prop := fun xs H Q => ∃ a kvs, xs = [V.ref a] ∧ Rd H a (.dK kvs) ∧ Q (.int kvs.length) H
theorem call_lenDK {X : Cx} : CallR X (.builtin "len") rLenD := by
  intro pins s σ H xs us Q I r h
  obtain ⟨a, kvs, rfl, hd, q⟩ := h
  obtain ⟨u, rfl, rx⟩ := vals1 r
  cases rx
  exact d_len I hd fun t s' I' => ⟨.int kvs.length, H, I', ⟨t, rfl⟩, q⟩
def rLenM (P : Program) (w : World) : List V → Hp → VK → Prop := fun xs H Q => ∃ a ks, xs = [V.ref a] ∧ H a = some (SetM P w a ks) ∧ Q (.int ks.length) H
theorem call_lenM {X : Cx} : CallR X (.builtin "len") (rLenM X.prog X.w) := by
  intro pins s σ H xs us Q I r h
  obtain ⟨a, ks, rfl, ha, q⟩ := h
  obtain ⟨u, rfl, rx⟩ := vals1 r
  cases rx
  obtain ⟨o, es, ep, t, ⟨ho, hex, hd⟩, g, pk, nd, hb, hf, hr, hl⟩ := setM_get I ha
  have hz : es.size = ks.length := SetMR.size (h := s.heap) (o := o) pk
  refine call_len_set ho hex hd hf (by unfold scanBound at hb; omega) ?_
  rw [hz]
  exact ⟨.int ks.length, H, I.tok _, ⟨_, rfl⟩, q⟩
def rLenAll (X : Cx) : List V → Hp → VK → Prop := fun vs H Q => rLenD vs H Q ∨ (rLenM X.prog X.w vs H Q ∨ rLenA X.K vs H Q)
theorem call_lenAll {X : Cx} : CallR X (.builtin "len") (rLenAll X) := CallR.or' call_lenDK (CallR.or' call_lenM call_len)
theorem cs_lenAll {X : Cx} {C : Cf} (hat : At X C) : CallS C (rLenAll X) gLenA := fun W σ s x v Q g r h => by
  unfold gLenA at h
  split at h
  · rename_i d
    split at h
    · rename_i n e
      unfold lenA at e
      split at e
      · rename_i kvs ek
        cases e
        obtain ⟨v1, rfl, r1⟩ := r.one
        obtain ⟨a, ks, rfl, rd, rr⟩ := dK_ok g r1 ek
        exact .inl ⟨a, ks, rfl, rd, by rw [← rr.length]; exact Post.int g h⟩
      · split at e
        · rename_i ks ek
          cases e
          obtain ⟨v1, rfl, r1⟩ := r.one
          obtain ⟨a, rfl, ha⟩ := setOf_ok g r1 ek
          exact .inr (.inl ⟨a, ks, rfl, by rw [hat.P, hat.w]; exact ha, Post.int g h⟩)
        · refine .inr (.inr ?_)
          rw [hat.K]
          exact cs_len W σ s _ v Q g r (by unfold gLen; dsimp only; rw [e]; exact h)
    · exact h.elim
  · exact h.elim
def seqA (d : D) (h : AH) : Option (List D) := match dK d h with
  | some kvs => some (kvs.map (·.1))
  | none => seqOf d h
def gListA (ds : List D) (h : AH) : Out D := match ds with
  | [d] => (match seqA d h with
    | some xs => .ok (.lst xs) h
    | none => .bad)
  | _ => .bad
def gListAC (ds : List D) (h : AH) : Out D := match ds with
  | [d] => (match seqA d h with
    | some xs => .ok (.cell h.length) (h ++ [some (.lst xs)])
    | none => .bad)
  | _ => .bad
def rListDK : List V → Hp → VK → Prop := fun xs H Q => ∃ (a : Addr) (kvs : List (Key × V)), xs = [.ref a] ∧ Rd H a (.dK kvs) ∧ ∀ p, H p = none → Q (.ref p) (upd H p (.lst (kvs.map fun kv => kV kv.1)))
def rListAll (X : Cx) : List V → Hp → VK → Prop := fun vs H Q => rListDK vs H Q ∨ rListOf X.K vs H Q
theorem call_listAll {X : Cx} (hc : X.calm = true) : CallR X (.type "list") (rListAll X) := CallR.or' (call_listD hc) call_list_of
theorem Rs.keysV {C : Cf} {F : Hp} {ρ : Rho} : ∀ ks : List Key, Rs C F ρ (ks.map keyD) (ks.map kV)
  | [] => by simp [Rs]
  | .inl i :: ks => by simp only [List.map_cons]; unfold Rs; exact ⟨_, _, rfl, by unfold keyD R; rfl, Rs.keysV ks⟩
  | .inr i :: ks => by simp only [List.map_cons]; unfold Rs; exact ⟨_, _, rfl, by unfold keyD R; rfl, Rs.keysV ks⟩
theorem Rk.keysR {C : Cf} {F : Hp} {ρ : Rho} {a : List (D × D)} {b : List (Key × V)} (h : Rk C F ρ a b) : Rs C F ρ (a.map (·.1)) (b.map fun kv => kV kv.1) := by
  rw [h.keys, show (b.map fun kv => kV kv.1) = (b.map (·.1)).map kV by rw [List.map_map]; rfl]
  exact Rs.keysV _
theorem cs_listAll {X : Cx} {C : Cf} (hat : At X C) : CallS C (rListAll X) gListA := fun W σ s x v Q g r h => by
  unfold gListA at h
  split at h
  · rename_i d
    split at h
    · rename_i xs e
      unfold seqA at e
      obtain ⟨v1, rfl, r1⟩ := r.one
      split at e
      · rename_i kvs ek
        cases e
        obtain ⟨a, ks, rfl, rd, rr⟩ := dK_ok g r1 ek
        exact .inl ⟨a, ks, rfl, rd, Post.lst g h rr.keysR⟩
      · obtain ⟨a, ys, rfl, sq, rr⟩ := seqOf_ok g r1 e
        exact .inr ⟨a, ys, rfl, sq, Post.lst g h rr⟩
    · exact h.elim
  · exact h.elim
theorem cs_listAllC {X : Cx} {C : Cf} (hat : At X C) : CallS C (rListAll X) gListAC := fun W σ s x v Q g r h => by
  unfold gListAC at h
  split at h
  · rename_i d
    split at h
    · rename_i xs e
      unfold seqA at e
      obtain ⟨v1, rfl, r1⟩ := r.one
      split at e
      · rename_i kvs ek
        cases e
        obtain ⟨a, ks, rfl, rd, rr⟩ := dK_ok g r1 ek
        exact .inl ⟨a, ks, rfl, rd, Post.cellL g h rr.keysR⟩
      · obtain ⟨a, ys, rfl, sq, rr⟩ := seqOf_ok g r1 e
        exact .inr ⟨a, ys, rfl, sq, Post.cellL g h rr⟩
    · exact h.elim
  · exact h.elim
def gTupleA (ds : List D) (h : AH) : Out D := match ds with
  | [d] => (match seqOf d h with
    | some xs => .ok (.tup xs) h
    | none => .bad)
  | _ => .bad
def gInt1 (ds : List D) (h : AH) : Out D := match ds with
  | [.int i] => .ok (.int i) h
  | [.bl b] => .ok (.int (if b then 1 else 0)) h
  | _ => .bad
def augS (i : Nat) (g : D → D → AH → Out D) (m : M D) : SM := fun σ h => match σ[i]? with
  | some (some x) => bindS (m σ h) σ fun y h1 => bindS (g x y h1) σ fun z h2 => .nx (σ.set i (some z)) h2
  | _ => .bad
def asgs (ms : M (List D)) (js : List Nat) : SM := fun σ h => bindS (ms σ h) σ fun ds h1 => if ds.length = js.length then .nx ((js.zip ds).foldl (fun σ p => σ.set p.1 (some p.2)) σ) h1 else .bad
section
variable {X : Cx} {C : Cf} {ε : Ep} {W : WX} {e a b c : Expr} {me : M D} {mr : M (List D)} {pos : Pos}
theorem Rs.three {F : Hp} {ρ : Rho} {d e f : D} {vs : List V} (r : Rs C F ρ [d, e, f] vs) : ∃ v w u, vs = [v, w, u] ∧ R C F ρ d v ∧ R C F ρ e w ∧ R C F ρ f u := by
  unfold Rs at r
  obtain ⟨v, t, rfl, a, r⟩ := r
  obtain ⟨w, u, rfl, b, c⟩ := r.two
  exact ⟨v, w, u, rfl, a, b, c⟩
end
end Ws
set_option Elab.async false
set_option linter.all false
set_option maxRecDepth 100000
set_option maxHeartbeats 2000000
set_option autoImplicit false
namespace Ws
open PySem PySem.Spec PyProof.Rows L2
theorem vals_app : ∀ {a c : List V} {b d : List Value}, Vals a b → Vals c d → Vals (a ++ c) (b ++ d)
  | [], _, _, _, .nil, h => h
  | _ :: _, _, _, _, .cons r t, h => .cons r (vals_app t h)
end Ws
set_option Elab.async false
set_option linter.all false
namespace Ws
open PySem PySem.Spec L2
def gIAdd := gInt0 fun i j => i + j
def gISub := gInt0 fun i j => i - j
end Ws
set_option Elab.async false
set_option linter.all false
set_option maxRecDepth 100000
set_option maxHeartbeats 2000000
set_option autoImplicit false
namespace Ws
open PySem PySem.Spec PyProof.Rows L2
abbrev Gd := AH → Prop
def IterG (C : Cf) (s : Sx) (p : List D × Gd) (J : It) : Prop := ∀ t (i : Nat), Mon s t → Good C t → p.2 t.ah →
  (i < p.1.length → J.go i t.H ∧ ∀ x H', J.yld i t.H x H' → ∃ t' d, t'.H = H' ∧ Fwd t t' ∧ Good C t' ∧ t'.ah = t.ah ∧ p.1[i]? = some d ∧ R C t'.F t'.ρ d x) ∧ (p.1.length ≤ i → J.stop i t.H)
abbrev rItG (C : Cf) : Rl (List D × Gd) It := fun s p J => IterG C s p J
abbrev MIg (X : Cx) (C : Cf) (ε : Ep) (W : WX) (tg e : Expr) (m : M (List D × Gd)) : Prop := PI X tg e (tG C ε W (rItG C) m)
section
variable {α : Type}
open Classical in
noncomputable def ccGoG (G : Gd) (f : D → α → AH → Out α) : List D → α → AH → Out α
  | [], a, h => if G h then .ok a h else .bad
  | d :: ds, a, h => if G h then (match f d a h with
    | .ok a' h' => ccGoG G f ds a' h'
    | _ => .bad) else .bad
noncomputable def ccG (vs : List Nat) (mi : M (List D × Gd)) (t : Tg) (c : M Bool) (em : Em α) (a0 : α) (fin : α → AH → Out D) : M D := fun σ h => (mi σ h).bind fun p h1 => match ccGoG p.2 (turnC t c em (wipeD σ vs)) p.1 a0 h1 with
  | .ok a h2 => fin a h2
  | _ => .bad
variable {C : Cf} {ε : Ep} {W : WX} {A : Acc α} {g : TG} {t : Tg} {c : M Bool} {em : Em α} {tm : TM}
theorem ccGoG_core {vs : List Nat} {σ : L2.St} {dσ : Sl} {s0 s1 : Sx} {ds : List D} {G : Gd} {J : It} {p : Addr} {a : α} {o : HO} {N : Hp → Prop} (tw : TgW C ε vs g t) (ht : EmS C ε A vs tm em) (mA : ∀ s s' p a o, Mon s s' → A s p a o → A s' p a o) (ex : s1.ρ.x = ε) (it : IterG C s1 (ds, G) J)
    (rs : RS C s1 σ dσ) (s2 : Sx) (m2 : Mon s1 s2) (f2 : Fwd s0 s2) (hp : s0.H p = none) (g2 : Good C s2) (fi : Fill s2 p o) (ha : A s2 p a o)
    (h : match ccGoG G (turnC t c em (wipeD dσ vs)) ds a s2.ah with
      | .ok a' h' => ∀ s' o', s'.ah = h' → Mon s1 s' → Fwd s0 s' → Good C s' → Fill s' p o' → A s' p a' o' → N s'.H
      | _ => False) :
    ∃ W1 : Nat → Nat → Hp → Prop, (∃ m, W1 0 m s2.H) ∧ ∀ j k H, W1 j k H → (J.stop j H ∧ N H) ∨ (J.go j H ∧ ∃ Nx1 : Hp → Prop, (∀ H', Nx1 H' → ∃ k', k' < k ∧ W1 (j + 1) k' H') ∧
      ∀ x H', J.yld j H x H' → g x (wipe σ vs) H' fun σ3 H5 => wipe σ3 vs = wipe σ vs ∧ tG C ε WF rB c σ3 H5 fun b H6 => if b = true then tm p σ3 H6 Nx1 else Nx1 H6) := by
  refine ⟨fun i k H => k = ds.length - i ∧ i ≤ ds.length ∧ ∃ s o a, s.H = H ∧ Mon s1 s ∧ Fwd s0 s ∧ Good C s ∧ Fill s p o ∧ A s p a o ∧ (match ccGoG G (turnC t c em (wipeD dσ vs)) (ds.drop i) a s.ah with
      | .ok a' h' => ∀ s' o', s'.ah = h' → Mon s1 s' → Fwd s0 s' → Good C s' → Fill s' p o' → A s' p a' o' → N s'.H
      | _ => False), ⟨_, rfl, Nat.zero_le _, s2, o, a, rfl, m2, f2, g2, fi, ha, h⟩, ?_⟩
  rintro i k H ⟨rfl, hi, s, o, a, rfl, m1, f, g', fi, ha, h⟩
  by_cases hlt : i < ds.length
  · have hdr : ds.drop i = ds[i] :: ds.drop (i + 1) := List.drop_eq_getElem_cons hlt
    rw [hdr] at h
    unfold ccGoG at h
    by_cases hG : G s.ah
    · rw [if_pos hG] at h
      obtain ⟨go, yl⟩ := (it s i m1 g' hG).1 hlt
      refine .inr ⟨go, fun H => ∃ s o a, s.H = H ∧ Mon s1 s ∧ Fwd s0 s ∧ Good C s ∧ Fill s p o ∧ A s p a o ∧ (match ccGoG G (turnC t c em (wipeD dσ vs)) (ds.drop (i + 1)) a s.ah with
        | .ok a' h' => ∀ s' o', s'.ah = h' → Mon s1 s' → Fwd s0 s' → Good C s' → Fill s' p o' → A s' p a' o' → N s'.H
        | _ => False), fun H' z => ⟨_, by omega, rfl, hlt, z⟩, fun x H' y => ?_⟩
      obtain ⟨t', d, rfl, f', gt', eh, ed, r⟩ := yl x H' y
      have ed : ds[i]? = some d := ed
      rw [List.getElem?_eq_getElem hlt] at ed
      cases ed
      rw [← eh] at h
      have mx := m1.trans f'.mon
      refine turnC_core tw ht mA (mx.rho.x.trans ex) (f.trans f') hp gt' ((rs.mon mx).wipe vs) r (fi.fwd f') (mA _ _ _ _ _ f'.mon ha) ?_
      cases q : turnC t c em (wipeD dσ vs) ds[i] a t'.ah with
      | ok a2 h2 =>
        rw [q] at h
        exact fun s' o' e2 m2 f2 g2 i2 a2' => ⟨s', o', a2, rfl, mx.trans m2, f2, g2, i2, a2', by rw [e2]; exact h⟩
      | exc => rw [q] at h; exact h.elim
      | bad => rw [q] at h; exact h.elim
    · rw [if_neg hG] at h; exact h.elim
  · have e : i = ds.length := by omega
    subst e
    rw [List.drop_length] at h
    unfold ccGoG at h
    by_cases hG : G s.ah
    · rw [if_pos hG] at h
      exact .inl ⟨(it s _ m1 g' hG).2 (Nat.le_refl _), h s o rfl m1 f g' fi ha⟩
    · rw [if_neg hG] at h; exact h.elim
theorem ccG_read {O0 : Addr → HO} {mi : M (List D × Gd)} {a0 : α} {fin : α → AH → Out D} {vs : List Nat} {σ : L2.St} {H : Hp} {Q Q' : VK} (tw : TgW C ε vs g t) (ht : EmS C ε A vs tm em) (mA : ∀ s s' p a o, Mon s s' → A s p a o → A s' p a o) (nt : ∀ p ys, O0 p ≠ .tup ys) (h0 : ∀ s p, A s p a0 (O0 p)) (hf : FinS C W σ A fin Q Q')
    (h : tG C ε W (rD C) (ccG vs mi t c em a0 fin) σ H Q) (nu : ∀ p, NT (O0 p) := by intro p; (intro ps z; first | exact nomatch z | exact nomatch (show HO.ext _ = HO.tbl ps from z))) : tCc O0 (tG C ε W (rItG C) mi) g (tG C ε WF rB c) tm vs σ H Q' := by
  obtain ⟨s, dσ, rfl, ex, gd, rs, h⟩ := h
  refine Post.bind ex gd rs h fun s1 pr J e1 f1 g1 rs1 it h1 => ?_
  obtain ⟨ds, G⟩ := pr
  intro p hp
  refine ccGoG_core (s2 := s1.setp p (O0 p)) (s0 := s1) tw ht mA e1 it rs1 ⟨.refl _, .refl _⟩ ((Fwd.refl s1).setp hp) hp (g1.fill hp (nt p)) (Fill.new g1 hp (nu p)) (h0 _ p) ?_
  dsimp only at h1
  cases q : ccGoG G (turnC t c em (wipeD dσ vs)) ds a0 (s1.setp p (O0 p)).ah with
  | ok a' h' =>
    have q' : ccGoG G (turnC t c em (wipeD dσ vs)) ds a0 s1.ah = .ok a' h' := q
    rw [q'] at h1
    intro s' o' e2 m2 f2 g2 i2 a2
    exact hf s1 s' p a' o' hp f2 g2 i2 a2 (by rw [e2]; exact h1)
  | exc => have q' : ccGoG G (turnC t c em (wipeD dσ vs)) ds a0 s1.ah = _ := q; rw [q'] at h1; exact h1.elim
  | bad => have q' : ccGoG G (turnC t c em (wipeD dσ vs)) ds a0 s1.ah = _ := q; rw [q'] at h1; exact h1.elim
end
section
variable {X : Cx} {C : Cf} {ε : Ep} {W : WX} {elt tg iter e : Expr} {ifs : List Expr} {scope : Scope} {own : List (Str × Nat)} {pos spos : Pos} {mi : M (List D × Gd)} {g : TG} {t : Tg} {c : M Bool} {me me' : M D}
theorem me_lcG {fin : List D → AH → Out D} (hf : ∀ (W : WX) (σ : L2.St) (Q : VK), FinS C W σ (accL C) fin Q Q) (hc : X.calm = true) (hN : X.N.Nodup) (hi : MIg X C ε W tg iter mi) (ok : BlkOk X.N X.env.scope scope own) (hg : InBlk X scope fun Y => PG Y tg g) (tw : TgW C ε (own.map (·.2)) g t)
    (ht : InBlk X scope fun Y => MTs Y C ε ifs c) (he : InBlk X scope fun Y => ME Y C ε WF elt me) (hs : ∀ x, foldedSetIterable iter X.env x = pure x := by intro _; rfl) :
    ME X C ε W (.ListComp elt [⟨tg, iter, ifs, 0⟩] scope pos) (ccG (own.map (·.2)) mi t c (emE me stepL) [] fin) := (pe_lc hc hN hi ok hg ht he hs).imp fun σ H Q h =>
  ccG_read (O0 := fun _ => .lst []) (tm := tApp (tG C ε WF (rD C) me)) tw ems_list accL_mon (fun _ _ z => nomatch z) (fun _ _ => ⟨[], rfl, by unfold Rs; rfl⟩) (hf W σ Q) h
def cellG (d : D) (h : AH) : Out (List D × Gd) := match cellL d h with
  | some (n, xs) => .ok (xs, fun h => h.get n = some (.lst xs)) h
  | none => .bad
def walkG (m : M D) : M (List D × Gd) := fun σ h => (m σ h).bind cellG
theorem mi_cellG (hK : X.K = C.K) (he : ME X C ε W e me) : MIg X C ε W tg e (walkG me) := (pi_list he).imp fun σ H Q h => by
  obtain ⟨s, dσ, rfl, ex, g, rs, h⟩ := h
  refine Post.bind ex g rs h fun s1 d v e1 f1 g1 rs1 r1 h1 => ?_
  unfold cellG at h1
  split at h1
  · rename_i n xs ec
    obtain ⟨a, ys, rfl, ea, en, hH, rr⟩ := cellL_ok g1 r1 ec
    refine ⟨a, rfl, ⟨ys, SqL.of hH⟩, Post.here (rl := rItG C) g1 h1 ?_⟩
    intro t i mt gt hG
    have hG : t.ah.get n = some (.lst xs) := hG
    obtain ⟨a', q1, q2, zs, z1, z2⟩ := gt.own n _ hG
    rw [mt.rho.c n a ea] at q1; cases q1
    refine ⟨fun hi => ?_, fun hi => ⟨zs, SqL.of z1, by rw [← z2.length]; exact hi⟩⟩
    obtain ⟨w, ew, rw'⟩ := z2.get (List.getElem?_eq_getElem hi)
    refine ⟨⟨zs, w, SqL.of z1, ew⟩, fun x H' y => ?_⟩
    obtain ⟨rfl, y⟩ := y
    have := y zs (SqL.of z1)
    rw [ew] at this; cases this
    exact ⟨t, _, rfl, .refl _, gt, rfl, List.getElem?_eq_getElem hi, rw'⟩
  · exact h1.elim
end
end Ws
set_option Elab.async false
set_option linter.all false
set_option maxRecDepth 100000
set_option autoImplicit false
namespace Ws
open PySem
/-- a field read -/
def rdF (cs : List Str) (y : Str) (o : D) (h : AH) : Out D := match insOf o h with
  | some (c, fs) => if c ∈ cs then (match fs.lookup y with
    | some d => .ok d h
    | none => .bad) else .bad
  | none => .bad
/-- an instance of this class, m no field of its own -/
def isI (c m : Str) (o : D) (h : AH) : Bool := match insOf o h with
  | some p => decide (p.1 = c ∧ (p.2.lookup m).isNone = true)
  | none => false
theorem x_bind_ok {α β : Type} (a : α) (h : AH) (k : α → AH → Out β) : (Out.ok a h).bind k = k a h := (rfl)
theorem x_bind_exc {α β : Type} (x : Exc) (h : AH) (k : α → AH → Out β) : (Out.exc x h).bind k = .exc x h := (rfl)
theorem x_bind_bad {α β : Type} (k : α → AH → Out β) : (Out.bad : Out α).bind k = .bad := (rfl)
theorem x_bindS_ok {α : Type} (a : α) (h : AH) (dσ : Sl) (k : α → AH → SOut) : bindS (.ok a h) dσ k = k a h := (rfl)
theorem x_bindS_exc {α : Type} (x : Exc) (h : AH) (dσ : Sl) (k : α → AH → SOut) : bindS (.exc x h) dσ k = .exc x dσ h := (rfl)
theorem x_bindS_bad {α : Type} (dσ : Sl) (k : α → AH → SOut) : bindS (.bad : Out α) dσ k = .bad := (rfl)
theorem x_isBl (b : Bool) (h : AH) : isBl (.bl b) h = .ok b h := (rfl)
section
variable {σ : Sl} {h : AH}
theorem ap_var (i : Nat) : var i σ h = match σ[i]? with
  | some (some d) => .ok d h
  | _ => .bad := (rfl)
theorem ap_cst (d : D) : cst d σ h = .ok d h := (rfl)
theorem ap_bin (g : D → D → AH → Out D) (a b : M D) : bin g a b σ h = (a σ h).bind fun x h1 => (b σ h1).bind fun y h2 => g x y h2 := (rfl)
theorem ap_un (g : D → AH → Out D) (a : M D) : un g a σ h = (a σ h).bind fun x h1 => g x h1 := (rfl)
theorem ap_nil : nilA σ h = .ok [] h := (rfl)
theorem ap_cons (a : M D) (b : M (List D)) : consA a b σ h = (a σ h).bind fun x h1 => (b σ h1).bind fun y h2 => .ok (x :: y) h2 := (rfl)
theorem ap_app (g : List D → AH → Out D) (a : M (List D)) : app g a σ h = (a σ h).bind fun x h1 => g x h1 := (rfl)
theorem ap_asB (a : M D) : asB a σ h = (a σ h).bind isBl := (rfl)
theorem ap_notB (a : M Bool) : notB a σ h = (a σ h).bind fun x h1 => .ok (!x) h1 := (rfl)
theorem ap_andB (a b : M Bool) : andB a b σ h = (a σ h).bind fun x h1 => if x = true then b σ h1 else .ok false h1 := (rfl)
theorem ap_orB (a b : M Bool) : orB a b σ h = (a σ h).bind fun x h1 => if x = true then .ok true h1 else b σ h1 := (rfl)
theorem ap_andV (a b : M D) : andV a b σ h = (asB a σ h).bind fun x h1 => if x = true then b σ h1 else .ok (.bl false) h1 := (rfl)
theorem ap_orV (a b : M D) : orV a b σ h = (asB a σ h).bind fun x h1 => if x = true then .ok (.bl true) h1 else b σ h1 := (rfl)
theorem ap_notV (a : M D) : notV a σ h = (asB a σ h).bind fun x h1 => .ok (.bl (!x)) h1 := (rfl)
theorem ap_ifE (c : M Bool) (a b : M D) : ifE c a b σ h = (c σ h).bind fun x h1 => if x = true then a σ h1 else b σ h1 := (rfl)
theorem ap_chain (g g' : D → D → AH → Out D) (a b c : M D) : chain g g' a b c σ h = (a σ h).bind fun x h1 => (b σ h1).bind fun y h2 => (g x y h2).bind fun z h3 => (isBl z h3).bind fun k h4 => if k = true then (c σ h4).bind fun w h5 => g' y w h5 else .ok (.bl false) h4 := (rfl)
theorem ap_skip : skip σ h = .nx σ h := (rfl)
theorem ap_seq (a b : SM) : seqS a b σ h = match a σ h with
  | .nx σ' h' => b σ' h'
  | o => o := (rfl)
theorem ap_drop (m : M D) : Ws.drop m σ h = bindS (m σ h) σ fun _ h1 => .nx σ h1 := (rfl)
theorem ap_ret (m : M D) : Ws.ret m σ h = bindS (m σ h) σ fun d h1 => .rt d h1 := (rfl)
theorem ap_retN : retN σ h = .rt .non h := (rfl)
theorem ap_brk : brk σ h = .bk σ h := (rfl)
theorem ap_cont : cont σ h = .ct σ h := (rfl)
theorem ap_ifS (c : M Bool) (a b : SM) : ifS c a b σ h = bindS (c σ h) σ fun x h1 => if x = true then a σ h1 else b σ h1 := (rfl)
theorem ap_asg (m : M D) (t : Tg) : asg m t σ h = bindS (m σ h) σ fun d h1 => match t d σ h1 with
  | .ok σ2 h2 => .nx σ2 h2
  | _ => .bad := (rfl)
theorem ap_asgs (ms : M (List D)) (js : List Nat) : asgs ms js σ h = bindS (ms σ h) σ fun ds h1 => if ds.length = js.length then .nx ((js.zip ds).foldl (fun σ p => σ.set p.1 (some p.2)) σ) h1 else .bad := (rfl)
theorem ap_aug (i : Nat) (g : D → D → AH → Out D) (m : M D) : augS i g m σ h = match σ[i]? with
  | some (some x) => bindS (m σ h) σ fun y h1 => bindS (g x y h1) σ fun z h2 => .nx (σ.set i (some z)) h2
  | _ => .bad := (rfl)
theorem ap_tgN (i : Nat) (d : D) : tgN i d σ h = .ok (σ.set i (some d)) h := (rfl)
theorem ap_tgTup (b : Tgs) (xs : List D) : tgTup b (.tup xs) σ h = b xs σ h := (rfl)
theorem ap_tgRtp (b : Tgs) (xs : List D) : tgTup b (.rtp xs) σ h = b xs σ h := (rfl)
theorem ap_tgCons (a : Tg) (b : Tgs) (d : D) (r : List D) : tgCons a b (d :: r) σ h = (a d σ h).bind fun σ1 h1 => b r σ1 h1 := (rfl)
theorem ap_tgNil : tgNil [] σ h = .ok σ h := (rfl)
theorem ap_tgSt (mo mi : M D) (d : D) : tgSt mo mi d σ h = match mo σ h with
  | .ok o h1 => (match mi σ h1 with
    | .ok i h2 => (match stD o i d h2 with
      | some h3 => .ok σ h3
      | none => .bad)
    | _ => .bad)
  | _ => .bad := (rfl)
theorem ap_for (mi : M (List D)) (t : Tg) (m : SM) : forS mi t m σ h = bindS (mi σ h) σ fun ds h1 => forGo keepAll t m ds σ h1 := (rfl)
theorem ap_forT (js : List Nat) (mi : M (List D)) (t : Tg) (m : SM) : forT js mi t m σ h = bindS (mi σ h) σ fun ds h1 => forGo (trim h1.length js) t m ds σ h1 := (rfl)
theorem ap_walk (g : D → AH → Out (List D)) (m : M D) : walk g m σ h = (m σ h).bind g := (rfl)
theorem ap_walkA (g : List D → AH → Out (List D)) (m : M (List D)) : walkA g m σ h = (m σ h).bind g := (rfl)
theorem ap_ccF {α : Type} (vs : List Nat) (mi : M (List D)) (t : Tg) (c : M Bool) (em : Em α) (a0 : α) (fin : α → AH → Out D) : ccF vs mi t c em a0 fin σ h = (mi σ h).bind fun ds h1 => match ccGo (turnC t c em (wipeD σ vs)) ds a0 h1 with
  | .ok a h2 => fin a h2
  | _ => .bad := (rfl)
theorem ap_sc (vs : List Nat) (mi : M (List D)) (t : Tg) (c : M Bool) (em : Em (List L2.Key)) : sc vs mi t c em σ h = (mi σ h).bind fun ds h1 => match ccGo (turnC t c em (wipeD σ vs)) ds [] h1 with
  | .ok a h2 => .ok (.set (a.map keyD)) h2
  | _ => .bad := by
  unfold sc ccF
  cases mi σ h with
  | ok ds h1 => simp only [Out.bind_ok]; cases ccGo (turnC t c em (wipeD σ vs)) ds [] h1 <;> rfl
  | exc => rfl
  | bad => rfl
theorem ap_yes : yesB σ h = .ok true h := (rfl)
theorem ap_fldC (cs : List Str) (y : Str) (mo : M D) : fldC cs y mo σ h = (mo σ h).bind (rdF cs y) := (rfl)
theorem ap_meth (c m : Str) (g : List D → AH → Out D) (mo : M D) (mr : M (List D)) : meth c m g mo mr σ h = (mo σ h).bind fun o h1 => if isI c m o h1 = true then (mr σ h1).bind fun ds h2 => g (o :: ds) h2 else .bad := by
  unfold meth isI
  cases mo σ h with
  | ok o h1 =>
    simp only [Out.bind_ok]
    cases insOf o h1 with
    | none => rfl
    | some p =>
      dsimp only
      by_cases q : p.1 = c ∧ (p.2.lookup m).isNone = true
      · rw [if_pos q, if_pos (decide_eq_true q)]
      · rw [if_neg q, if_neg (by rw [decide_eq_false q]; exact Bool.false_ne_true)]
  | exc => rfl
  | bad => rfl
theorem ap_bm (ty : D → AH → Bool) (g : D → List D → AH → Out D) (mo : M D) (mr : M (List D)) : bm ty g mo mr σ h = (mo σ h).bind fun o h1 => if ty o h1 = true then (mr σ h1).bind fun ds h2 => g o ds h2 else .bad := (rfl)
theorem ap_sl (a : M D) (lo hi : M (Option Int)) : sl a lo hi σ h = (a σ h).bind fun x h1 => (lo σ h1).bind fun l h2 => (hi σ h2).bind fun u h3 => gSl x l u h3 := (rfl)
theorem ap_noPart : noPart σ h = .ok none h := (rfl)
theorem ap_part (m : M D) : part m σ h = (m σ h).bind fun d h1 => match d with
  | .int i => .ok (some i) h1
  | _ => .bad := (rfl)
theorem ap_orM (a b : M D) : orM a b σ h = match a σ h with
  | .bad => b σ h
  | o => o := (rfl)
theorem ap_disp (m : M (List (D × D))) : disp m σ h = (m σ h).bind fun ps h1 => match keyPrs ps with
  | some qs => .ok (.dct (mergeD qs)) h1
  | none => .bad := (rfl)
theorem ap_dispC (m : M (List (D × D))) : dispC m σ h = (m σ h).bind fun ps h1 => match keyPrs ps with
  | some qs => .ok (.cell h1.length) (h1 ++ [some (.dct (mergeD qs))])
  | none => .bad := (rfl)
theorem ap_prNil : prNil σ h = .ok [] h := (rfl)
theorem ap_prCons (k v : M D) (r : M (List (D × D))) : prCons k v r σ h = (k σ h).bind fun x h1 => (v σ h1).bind fun y h2 => (r σ h2).bind fun ps h3 => .ok ((x, y) :: ps) h3 := (rfl)
theorem ap_emptyK : emptyK σ h = .ok (.dct []) h := (rfl)
theorem ap_emptyKC : emptyKC σ h = .ok (.cell h.length) (h ++ [some (.dct [])]) := (rfl)
theorem ap_emptyTC : emptyTC σ h = .ok (.cell h.length) (h ++ [some (.dcT [])]) := (rfl)
theorem ap_rz (c : Str) : rz c σ h = .exc ⟨c, []⟩ σ h := (rfl)
theorem ap_rz1 (c y : Str) (m : M D) : rz1 c y m σ h = bindS (m σ h) σ fun d h1 => .exc ⟨c, [(y, d)]⟩ σ h1 := (rfl)
theorem ap_stf (cs : List Str) (y : Str) (mv mo : M D) : stf cs y mv mo σ h = bindS (mv σ h) σ fun d h1 => bindS (mo σ h1) σ fun o h2 => match o with
  | .cell n => (match h2.get n with
    | some (.ins c fs) => if c ∈ cs ∧ fs.length < 900 then .nx σ (h2.put n (.ins c (putD y d fs))) else .bad
    | _ => .bad)
  | _ => .bad := (rfl)
theorem ap_makeK (c : Str) (n m : Nat) (gD : List D → List D → List D) (g : List D → AH → Out D) (ps : Nat) (mr mk : M (List D)) : makeK c n m gD g ps mr mk σ h = (mr σ h).bind fun ds h1 => (mk σ h1).bind fun zs h2 =>
  if ds.length = n ∧ zs.length = m ∧ (gD ds zs).length + 1 = ps then make c g (gD ds zs) h2 else .bad := (rfl)
end
section
variable (i j : Int) (h : AH)
theorem o_add : gAdd (.int i) (.int j) h = .ok (.int (i + j)) h := (rfl)
theorem o_sub : gSub (.int i) (.int j) h = .ok (.int (i - j)) h := (rfl)
theorem o_gt : gGt (.int i) (.int j) h = .ok (.bl (decide (j < i))) h := (rfl)
theorem o_lt : gLt (.int i) (.int j) h = .ok (.bl (decide (i < j))) h := (rfl)
theorem o_ge : gGe (.int i) (.int j) h = .ok (.bl (decide (j ≤ i))) h := (rfl)
theorem o_le : gLe (.int i) (.int j) h = .ok (.bl (decide (i ≤ j))) h := (rfl)
theorem o_eq : gEqD (.int i) (.int j) h = .ok (.bl (decide (i = j))) h := gEq_int i j h
theorem o_iadd : gIAdd (.int i) (.int j) h = .ok (.int (i + j)) h := (rfl)
theorem o_isub : gISub (.int i) (.int j) h = .ok (.int (i - j)) h := (rfl)
theorem o_neg : gNeg (.int i) h = .ok (.int (-i)) h := (rfl)
theorem o_half : gDiv (.int i) (.int 2) h = .ok (.int (i / 2)) h := (rfl)
theorem o_int1 : gInt1 [.int i] h = .ok (.int i) h := (rfl)
theorem o_max2 : gMax2 [.int i, .int j] h = .ok (.int (if j > i then j else i)) h := (rfl)
theorem o_isN : gIs .non .non h = .ok (.bl true) h := (rfl)
theorem o_isI : gIs (.int i) .non h = .ok (.bl false) h := (rfl)
theorem o_nisN : gNot gIs .non .non h = .ok (.bl false) h := (rfl)
theorem o_nisI : gNot gIs (.int i) .non h = .ok (.bl true) h := (rfl)
theorem o_tup1 (a : D) : gTup [a] h = .ok (.tup [a]) h := (rfl)
theorem o_tup2 (a b : D) : gTup [a, b] h = .ok (.tup [a, b]) h := (rfl)
theorem o_tup3 (a b c : D) : gTup [a, b, c] h = .ok (.tup [a, b, c]) h := (rfl)
theorem o_tup4 (a b c d : D) : gTup [a, b, c, d] h = .ok (.tup [a, b, c, d]) h := (rfl)
theorem o_lenT (a : List D) : gLenA [.tup a] h = .ok (.int a.length) h := (rfl)
theorem o_lenL (a : List D) : gLenA [.lst a] h = .ok (.int a.length) h := (rfl)
theorem o_lenD (a : List (D × D)) : gLenA [.dct a] h = .ok (.int a.length) h := (rfl)
theorem o_takeT (a : List D) (n : Nat) : gSl (.tup a) none (some (n : Int)) h = .ok (.tup (a.take n)) h := by
  show Out.ok (D.tup (cutD a none (some (n : Int)))) h = _
  unfold cutD
  rw [HT.sIx_none, HT.sIx_nat]
  simp
theorem o_dropT (a : List D) (n : Nat) : gSl (.tup a) (some (n : Int)) none h = .ok (.tup (a.drop n)) h := by
  show Out.ok (D.tup (cutD a (some (n : Int)) none)) h = _
  unfold cutD
  rw [HT.sIx_none, HT.sIx_nat]
  congr 2
  by_cases e : n ≤ a.length
  · rw [Nat.min_eq_left e, ← List.length_drop, List.take_length]
  · rw [Nat.min_eq_right (by omega), List.drop_eq_nil_of_le (Nat.le_refl _), List.drop_eq_nil_of_le (by omega)]; simp
theorem o_takeL (a : List D) (n : Nat) : gSl (.lst a) none (some (n : Int)) h = .ok (.lst (a.take n)) h := by
  show Out.ok (D.lst (cutD a none (some (n : Int)))) h = _
  unfold cutD
  rw [HT.sIx_none, HT.sIx_nat]
  simp
theorem o_dropL (a : List D) (n : Nat) : gSl (.lst a) (some (n : Int)) none h = .ok (.lst (a.drop n)) h := by
  show Out.ok (D.lst (cutD a (some (n : Int)) none)) h = _
  unfold cutD
  rw [HT.sIx_none, HT.sIx_nat]
  congr 2
  by_cases e : n ≤ a.length
  · rw [Nat.min_eq_left e, ← List.length_drop, List.take_length]
  · rw [Nat.min_eq_right (by omega), List.drop_eq_nil_of_le (Nat.le_refl _), List.drop_eq_nil_of_le (by omega)]; simp
theorem o_rng (n : Nat) (hn : n < 1000000) : rng1 [.int n] h = .ok ((List.range n).map fun (i : Nat) => D.int (i : Nat)) h := by
  rw [rng_nat hn h]
  simp only [Int.zero_add]
theorem o_itemsT (a : List D) : itemsA (.tup a) h = .ok a h := (rfl)
theorem o_itemsL (a : List D) : itemsA (.lst a) h = .ok a h := (rfl)
theorem o_itemsS (x : Str) : itemsA (.str x) h = .ok (x.cps.toList.map sgn) h := (rfl)
theorem o_finL (xs : List D) : finL xs h = .ok (.lst xs) h := (rfl)
theorem o_tupL (xs : List D) : gTupleA [.lst xs] h = .ok (.tup xs) h := (rfl)
theorem o_inS (c : Nat) (z : Str) : gInA (sgn c) (.str z) h = .ok (.bl (decide (c ∈ z.cps.toList))) h := (rfl)
theorem o_ninS (c : Nat) (z : Str) : gNot gInA (sgn c) (.str z) h = .ok (.bl (!decide (c ∈ z.cps.toList))) h := (rfl)
theorem o_anyB (bs : List Bool) : gAny [.lst (bs.map .bl)] h = .ok (.bl (bs.any id)) h := by simp [gAny, lstOf, blsOf_map]
theorem o_allB (bs : List Bool) : gAll [.lst (bs.map .bl)] h = .ok (.bl (bs.all id)) h := by simp [gAll, lstOf, blsOf_map]
end
/-- one turn -/
def turnS (t : Tg) (m : SM) (d : D) (σ : Sl) (h : AH) : SOut := match t d σ h with
  | .ok σ1 h1 => m σ1 h1
  | _ => .bad
theorem ap_turn (t : Tg) (m : SM) (d : D) (σ : Sl) (h : AH) : turnS t m d σ h = match t d σ h with
  | .ok σ1 h1 => m σ1 h1
  | _ => .bad := (rfl)
/-- for, a state that goes on -/
theorem forGo_st {α β : Type} {t : Tg} {m : SM} {g : α → D} (S : β → Sl → AH → Prop) (st : β → α → β) : ∀ {xs : List α} {b : β} {σ : Sl} {h : AH}, S b σ h →
    (∀ x ∈ xs, ∀ b σ h, S b σ h → ∃ σ2 h2, turnS t m (g x) σ h = .nx σ2 h2 ∧ S (st b x) σ2 h2) → ∃ σ' h', forGo keepAll t m (xs.map g) σ h = .nx σ' h' ∧ S (xs.foldl st b) σ' h'
  | [], b, σ, h, i, _ => ⟨σ, h, rfl, i⟩
  | x :: xs, b, σ, h, i, hm => by
    obtain ⟨σ2, h2, e, i2⟩ := hm x List.mem_cons_self b σ h i
    obtain ⟨σ', h', e3, i3⟩ := forGo_st S st (xs := xs) i2 fun z hz => hm z (List.mem_cons_of_mem _ hz)
    refine ⟨σ', h', ?_, i3⟩
    rw [List.map_cons]
    unfold forGo
    unfold turnS at e
    cases q : t (g x) σ h with
    | ok σ1 h1 =>
      rw [q] at e
      dsimp only at e ⊢
      rw [e]
      exact e3
    | exc => rw [q] at e; cases e
    | bad => rw [q] at e; cases e
/-- comprehensions: lists, nothing else changes -/
theorem ccGo_cons {α : Type} (f : D → α → AH → Out α) (d : D) (ds : List D) (a : α) (h : AH) : ccGo f (d :: ds) a h = match f d a h with
    | .ok a' h' => ccGo f ds a' h'
    | _ => .bad := (rfl)
theorem turnC_yes {α : Type} {t : Tg} {c : M Bool} {em : Em α} {σ σ1 : Sl} {d : D} {a : α} {h h1 h2 : AH} (e1 : t d σ h = .ok σ1 h1) (e2 : c σ1 h1 = .ok true h2) : turnC t c em σ d a h = em σ1 a h2 := by unfold turnC; rw [e1]; dsimp only; rw [e2]
theorem turnC_no {α : Type} {t : Tg} {c : M Bool} {em : Em α} {σ σ1 : Sl} {d : D} {a : α} {h h1 h2 : AH} (e1 : t d σ h = .ok σ1 h1) (e2 : c σ1 h1 = .ok false h2) : turnC t c em σ d a h = .ok a h2 := by unfold turnC; rw [e1]; dsimp only; rw [e2]
theorem emE_ok {α : Type} {e : M D} {st : D → α → Option α} {σ : Sl} {a a' : α} {h h' : AH} {y : D} (e1 : e σ h = .ok y h') (e2 : st y a = some a') : emE e st σ a h = .ok a' h' := by unfold emE; rw [e1]; dsimp only; rw [e2]
theorem ccGo_list {α : Type} {t : Tg} {c : M Bool} {e : M D} {σ : Sl} {h : AH} {g f : α → D} {p : α → Bool} : ∀ {xs : List α} {acc : List D}, (∀ x ∈ xs, ∃ σ1, t (g x) σ h = .ok σ1 h ∧ c σ1 h = .ok (p x) h ∧ (p x = true → e σ1 h = .ok (f x) h)) → acc.length + xs.length ≤ 1000000 →
    ccGo (turnC t c (emE e stepL) σ) (xs.map g) acc h = .ok (acc ++ (xs.filter p).map f) h
  | [], acc, _, _ => by simp [ccGo]
  | x :: xs, acc, hm, hl => by
    obtain ⟨σ1, e1, e2, e3⟩ := hm x List.mem_cons_self
    simp only [List.length_cons] at hl
    rw [List.map_cons, ccGo_cons]
    by_cases q : p x = true
    · rw [q] at e2
      rw [turnC_yes e1 e2, emE_ok (a' := acc ++ [f x]) (e3 q) (by unfold stepL; rw [if_pos (by omega)])]
      dsimp only
      have ih := ccGo_list (xs := xs) (acc := acc ++ [f x]) (fun z hz => hm z (List.mem_cons_of_mem _ hz)) (by simp; omega)
      rw [ih, List.filter_cons_of_pos q]
      simp
    · simp only [Bool.not_eq_true] at q
      rw [q] at e2
      rw [turnC_no e1 e2]
      dsimp only
      have ih := ccGo_list (xs := xs) (acc := acc) (fun z hz => hm z (List.mem_cons_of_mem _ hz)) (by omega)
      rw [ih, List.filter_cons_of_neg (by rw [q]; exact Bool.false_ne_true)]
theorem ccGo_map {α : Type} {t : Tg} {c : M Bool} {e : M D} {σ : Sl} {h : AH} {g f : α → D} {xs : List α} {acc : List D} (hm : ∀ x ∈ xs, ∃ σ1, t (g x) σ h = .ok σ1 h ∧ c σ1 h = .ok true h ∧ e σ1 h = .ok (f x) h) (hl : acc.length + xs.length ≤ 1000000) :
    ccGo (turnC t c (emE e stepL) σ) (xs.map g) acc h = .ok (acc ++ xs.map f) h := by
  rw [ccGo_list (p := fun _ => true) (f := f) (fun x hx => by
    obtain ⟨σ1, e1, e2, e3⟩ := hm x hx
    exact ⟨σ1, e1, e2, fun _ => e3⟩) hl, List.filter_eq_self.mpr (fun _ _ => rfl)]
/-- comprehensions with draws: what stands in the cells goes on -/
theorem ccGo_draw {α β : Type} {t : Tg} {c : M Bool} {e : M D} {σ : Sl} {g : α → D} {f : β → D} (I : AH → Prop) (P : β → Prop) : ∀ {xs : List α} {acc : List D} {h : AH}, I h → (∀ x ∈ xs, ∀ h, I h → ∃ σ1 y h', t (g x) σ h = .ok σ1 h ∧ c σ1 h = .ok true h ∧ e σ1 h = .ok (f y) h' ∧ I h' ∧ P y) → acc.length + xs.length ≤ 1000000 →
    ∃ (ys : List β) (h' : AH), ccGo (turnC t c (emE e stepL) σ) (xs.map g) acc h = .ok (acc ++ ys.map f) h' ∧ I h' ∧ ys.length = xs.length ∧ ∀ y ∈ ys, P y
  | [], acc, h, i, _, _ => ⟨[], h, by simp [ccGo], i, rfl, fun _ z => nomatch z⟩
  | x :: xs, acc, h, i, hm, hl => by
    obtain ⟨σ1, y, h1, e1, e2, e3, i1, p1⟩ := hm x List.mem_cons_self h i
    simp only [List.length_cons] at hl
    obtain ⟨ys, h', ih, i2, l2, p2⟩ := ccGo_draw I P (xs := xs) (acc := acc ++ [f y]) i1 (fun z hz => hm z (List.mem_cons_of_mem _ hz)) (by simp; omega)
    refine ⟨y :: ys, h', ?_, i2, by simp [l2], fun z hz => (List.mem_cons.mp hz).elim (fun e => by rw [e]; exact p1) (p2 z)⟩
    rw [List.map_cons, ccGo_cons, turnC_yes e1 e2, emE_ok (a' := acc ++ [f y]) e3 (by unfold stepL; rw [if_pos (by omega)])]
    dsimp only
    rw [ih]
    simp
end Ws
set_option Elab.async false
set_option linter.all false
set_option maxRecDepth 100000
set_option autoImplicit false
namespace Ws
open PySem
inductive Go where
  | front | steps (n : Int) | half | like
structure Th where
  name : Str
  marks : Str
  weight : Int
  rule : Go
structure Hs where
  things : List Th
  lift : Option Int
  press : Nat
  hold : Int
def dft : Th := ⟨"", "", 0, .front⟩
def ruleD : Go → D
  | .front => .ins "Front" []
  | .steps n => .ins "By" [("steps", .int n)]
  | .half => .ins "Half" []
  | .like => .ins "Like" []
def thD (t : Th) : D := .ins "Thing" [("name", .str t.name), ("marks", .str t.marks), ("weight", .int t.weight), ("rule", ruleD t.rule)]
def optD : Option Int → D
  | none => .non
  | some i => .int i
def byName (ts : List Th) (f : Th → D) : D := .dct (ts.map fun t => (.str t.name, f t))
def houseD (H : Hs) : D := .ins "House" [("held", byName H.things thD), ("lift", optD H.lift), ("press", .int H.press), ("hold", .int H.hold)]
def ruleT : Go → D
  | .front => .tup [.str "front", .int 0]
  | .steps n => .tup [.str "by", .int n]
  | .half => .tup [.str "half", .int 0]
  | .like => .tup [.str "like", .int 0]
def nmD (t : Th) : D := .str t.name
def modelD (H : Hs) : D := .dct [(.str "names", .lst (H.things.map nmD)), (.str "marks", byName H.things fun t => .str t.marks), (.str "heavy", byName H.things fun t => .int t.weight), (.str "rules", byName H.things fun t => ruleT t.rule), (.str "bar", optD H.lift), (.str "sinks", .int H.press), (.str "slack", .int H.hold)]
def ordD (o : List Th) : D := .tup (o.map nmD)
def cps (x : Str) : List Nat := x.cps.toList
/-- small letters -/
def letter (c : Nat) : Prop := 97 ≤ c ∧ c ≤ 122
structure OkN (x : Str) : Prop where
  lo : 1 ≤ (cps x).length
  hi : (cps x).length ≤ 8
  al : ∀ c ∈ cps x, letter c
structure OkM (x : Str) : Prop where
  al : ∀ c ∈ cps x, letter c
  up : (cps x).Pairwise (· < ·)
structure Th.Ok (t : Th) : Prop where
  nm : OkN t.name
  ma : OkM t.marks
  w0 : 0 ≤ t.weight
  w1 : t.weight ≤ 99
  rl : ∀ n, t.rule = .steps n → 0 ≤ n
structure Hs.Ok (H : Hs) : Prop where
  nd : (H.things.map (·.name)).Nodup
  th : ∀ t ∈ H.things, t.Ok
  lo : 1 ≤ H.things.length
  hi : H.things.length ≤ 6
  sm : ∃ t ∈ H.things, t.marks ≠ ""
  l0 : ∀ l, H.lift = some l → 0 ≤ l ∧ l ≤ 99
  pr : H.press ≤ 3
  h0 : 0 ≤ H.hold
  h1 : H.hold ≤ 99
/-- an order: all things, each once -/
structure IsO (H : Hs) (o : List Th) : Prop where
  pm : o.Perm H.things
theorem IsO.mem {H : Hs} {o : List Th} (h : IsO H o) {t : Th} (ht : t ∈ o) : t ∈ H.things := h.pm.mem_iff.mp ht
theorem IsO.len {H : Hs} {o : List Th} (h : IsO H o) : o.length = H.things.length := h.pm.length_eq
def has (c : Nat) (t : Th) : Bool := decide (c ∈ cps t.marks)
def nearest (o : List Th) (c : Nat) : Option Nat := (List.range o.length).find? fun i => has c (o.getD i dft)
def meet (x z : Str) : Bool := (cps x).any fun c => decide (c ∈ cps z)
def likeV (o : List Th) (p : Nat) : Nat := match (List.range p).reverse.find? fun q => meet (o.getD p dft).marks (o.getD q dft).marks with
  | some q => q + 1
  | none => p
def aimS (o : List Th) (p : Nat) : Nat := match (o.getD p dft).rule with
  | .front => 0
  | .steps n => ((p : Int) - n).toNat
  | .half => p / 2
  | .like => likeV o p
def heavy (H : Hs) (a b : Th) : Bool := match H.lift with
  | none => false
  | some l => decide (l < a.weight - b.weight)
def goalGo (ok : Nat → Bool) (aim : Nat) : Nat → Nat
  | 0 => 0
  | g + 1 => if aim < g + 1 ∧ ok g = true then goalGo ok aim g else g + 1
def goalS (H : Hs) (o : List Th) (p : Nat) : Nat := goalGo (fun g => !heavy H (o.getD g dft) (o.getD p dft)) (aimS o p) p
def moved {α : Type} (d : α) (o : List α) (p g : Nat) : List α := ((o.take p ++ o.drop (p + 1)).take g ++ [o.getD p d]) ++ (o.take p ++ o.drop (p + 1)).drop g
def exch {α : Type} (d : α) (o : List α) (i : Nat) : List α := (o.take i ++ [o.getD (i + 1) d, o.getD i d]) ++ o.drop (i + 2)
def loose (H : Hs) (o : List Th) (i : Nat) : Bool := decide (H.hold < (o.getD i dft).weight - (o.getD (i + 1) dft).weight)
def foremost (H : Hs) (o : List Th) : Option Nat := (List.range (o.length - 1)).find? fun i => loose H o i
def pressStep (H : Hs) (s : List Th × List Nat) : List Th × List Nat := match foremost H s.1 with
  | some i => (exch dft s.1 i, s.2 ++ [i])
  | none => s
def pressGo (H : Hs) : Nat → List Th × List Nat → List Th × List Nat
  | 0, s => s
  | k + 1, s => pressGo H k (pressStep H s)
def pressed (H : Hs) (o : List Th) : List Th × List Nat := pressGo H H.press (o, [])
/-- what a round tells -/
structure Tr where
  who : Option (Str × Nat × Nat)
  ps : List Nat
def placesD (ps : List Nat) : D := .tup (ps.map fun p => .int (p : Nat))
def trD (t : Tr) : D := match t.who with
  | none => .tup [.non, .non, .non, placesD t.ps]
  | some (n, p, g) => .tup [.str n, .int (p : Nat), .int (g : Nat), placesD t.ps]
def roundS (H : Hs) (o : List Th) (c : Nat) : List Th × Tr := match nearest o c with
  | none => let r := pressed H o; (r.1, ⟨none, r.2⟩)
  | some p => let g := goalS H o p; let r := pressed H (moved dft o p g); (r.1, ⟨some ((o.getD p dft).name, p, g), r.2⟩)
theorem pureDs_map {α : Type} {L : Nat} {f : α → D} : ∀ {xs : List α}, (∀ x ∈ xs, pureD L (f x) = true) → pureDs L (xs.map f) = true
  | [], _ => rfl
  | x :: xs, h => by
    simp only [List.map_cons, pureDs]
    rw [h x List.mem_cons_self, pureDs_map fun z hz => h z (List.mem_cons_of_mem _ hz)]; rfl
theorem pureK_map {α : Type} {L : Nat} {k f : α → D} : ∀ {xs : List α}, (∀ x ∈ xs, pureD L (f x) = true) → pureK L (xs.map fun x => (k x, f x)) = true
  | [], _ => rfl
  | x :: xs, h => by
    simp only [List.map_cons, pureK]
    rw [h x List.mem_cons_self, pureK_map fun z hz => h z (List.mem_cons_of_mem _ hz)]; rfl
theorem pure_rule (L : Nat) (r : Go) : pureD L (ruleD r) = true := by cases r <;> rfl
theorem pure_ruleT (L : Nat) (r : Go) : pureD L (ruleT r) = true := by cases r <;> rfl
theorem pure_th (L : Nat) (t : Th) : pureD L (thD t) = true := by
  unfold thD
  simp only [pureD, pureF, pure_rule, Bool.and_true, Bool.true_and]
theorem pure_opt (L : Nat) (o : Option Int) : pureD L (optD o) = true := by cases o <;> rfl
theorem pure_by (L : Nat) (ts : List Th) (f : Th → D) (h : ∀ t ∈ ts, pureD L (f t) = true) : pureD L (byName ts f) = true := by
  unfold byName
  simp only [pureD]
  exact pureK_map h
theorem pure_house (L : Nat) (H : Hs) : pureD L (houseD H) = true := by
  unfold houseD
  simp only [pureD, pureF, pure_opt, pure_by L _ _ (fun t _ => pure_th L t), Bool.and_true, Bool.true_and]
theorem pure_model (L : Nat) (H : Hs) : pureD L (modelD H) = true := by
  unfold modelD
  have a := pure_by L H.things (fun t => .str t.marks) (fun _ _ => rfl)
  have b := pure_by L H.things (fun t => .int t.weight) (fun _ _ => rfl)
  have c := pure_by L H.things (fun t => ruleT t.rule) (fun t _ => pure_ruleT L t.rule)
  have d : pureDs L (H.things.map nmD) = true := pureDs_map fun _ _ => rfl
  simp only [pureD, pureK, pure_opt, a, b, c, d, Bool.and_true, Bool.true_and]
theorem pure_ord (L : Nat) (o : List Th) : pureD L (ordD o) = true := by
  unfold ordD
  simp only [pureD]
  exact pureDs_map fun _ _ => rfl
theorem pure_places (L : Nat) (ps : List Nat) : pureD L (placesD ps) = true := by
  unfold placesD
  simp only [pureD]
  exact pureDs_map fun _ _ => rfl
theorem pure_tr (L : Nat) (t : Tr) : pureD L (trD t) = true := by
  unfold trD
  cases t.who with
  | none => simp only [pureD, pureDs, pure_places, Bool.and_true]
  | some w => simp only [pureD, pureDs, pure_places, Bool.and_true]
theorem pure_str (L : Nat) (x : Str) : pureD L (.str x) = true := rfl
theorem pure_int (L : Nat) (x : Int) : pureD L (.int x) = true := rfl
theorem pure_nm (L : Nat) (t : Th) : pureD L (nmD t) = true := rfl
theorem pure_sgn (L : Nat) (c : Nat) : pureD L (sgn c) = true := rfl
theorem r_held (H : Hs) (h : AH) : rdF ["House"] "held" (houseD H) h = .ok (byName H.things thD) h := (rfl)
theorem r_lift (H : Hs) (h : AH) : rdF ["House"] "lift" (houseD H) h = .ok (optD H.lift) h := (rfl)
theorem r_press (H : Hs) (h : AH) : rdF ["House"] "press" (houseD H) h = .ok (.int H.press) h := (rfl)
theorem r_hold (H : Hs) (h : AH) : rdF ["House"] "hold" (houseD H) h = .ok (.int H.hold) h := (rfl)
theorem r_name (t : Th) (h : AH) : rdF ["Thing"] "name" (thD t) h = .ok (.str t.name) h := (rfl)
theorem r_marks (t : Th) (h : AH) : rdF ["Thing"] "marks" (thD t) h = .ok (.str t.marks) h := (rfl)
theorem r_weight (t : Th) (h : AH) : rdF ["Thing"] "weight" (thD t) h = .ok (.int t.weight) h := (rfl)
theorem r_rule (t : Th) (h : AH) : rdF ["Thing"] "rule" (thD t) h = .ok (ruleD t.rule) h := (rfl)
theorem a_names (H : Hs) (h : AH) : gAt (modelD H) (.str "names") h = .ok (.lst (H.things.map nmD)) h := (rfl)
theorem a_marks (H : Hs) (h : AH) : gAt (modelD H) (.str "marks") h = .ok (byName H.things fun t => .str t.marks) h := (rfl)
theorem a_heavy (H : Hs) (h : AH) : gAt (modelD H) (.str "heavy") h = .ok (byName H.things fun t => .int t.weight) h := (rfl)
theorem a_rules (H : Hs) (h : AH) : gAt (modelD H) (.str "rules") h = .ok (byName H.things fun t => ruleT t.rule) h := (rfl)
theorem a_bar (H : Hs) (h : AH) : gAt (modelD H) (.str "bar") h = .ok (optD H.lift) h := (rfl)
theorem a_sinks (H : Hs) (h : AH) : gAt (modelD H) (.str "sinks") h = .ok (.int H.press) h := (rfl)
theorem a_slack (H : Hs) (h : AH) : gAt (modelD H) (.str "slack") h = .ok (.int H.hold) h := (rfl)
theorem atI_map {α β : Type} {f : α → β} {xs : List α} {d : α} {i : Int} {n : Nat} (e : i = n) (hn : n < xs.length) : L2.atI (xs.map f) i = some (f (xs.getD n d)) := by
  subst e
  unfold L2.atI L2.ixN
  rw [List.length_map, if_pos (by omega), if_pos (by omega)]
  simp [hn]
theorem at_lst {α : Type} {f : α → D} {xs : List α} {i : Int} {n : Nat} (d : α) (h : AH) (e : i = n) (hn : n < xs.length) : gAt (.lst (xs.map f)) (.int i) h = .ok (f (xs.getD n d)) h := by
  show gIx (.lst (xs.map f)) (.int i) h = _
  have := atI_map (f := f) (d := d) e hn
  unfold gIx lstOf
  dsimp only
  rw [this]
theorem getD_mem {α : Type} {xs : List α} {n : Nat} {d : α} (h : n < xs.length) : xs.getD n d ∈ xs := by
  rw [show xs.getD n d = xs[n] by simp [h]]; exact List.getElem_mem h
end Ws
set_option Elab.async false
set_option linter.all false
set_option maxRecDepth 100000
set_option autoImplicit false
namespace Ws
open PySem
section
variable {α : Type} {d : α}
theorem exch_eq {o : List α} {i : Nat} (hi : i + 1 < o.length) : o = (o.take i ++ [o.getD i d, o.getD (i + 1) d]) ++ o.drop (i + 2) := by
  have h1 : i < o.length := by omega
  conv => lhs; rw [← List.take_append_drop i o, List.drop_eq_getElem_cons h1, List.drop_eq_getElem_cons hi]
  simp [h1, hi]
theorem exch_perm {o : List α} {i : Nat} (hi : i + 1 < o.length) : (exch d o i).Perm o := by
  conv => rhs; rw [exch_eq (d := d) hi]
  unfold exch
  refine List.Perm.append_right _ (List.Perm.append_left _ ?_)
  exact .swap _ _ _
theorem moved_perm {o : List α} {p g : Nat} (hp : p < o.length) : (moved d o p g).Perm o := by
  have e : o.Perm (o.getD p d :: (o.take p ++ o.drop (p + 1))) := by
    conv => lhs; rw [← List.take_append_drop p o, List.drop_eq_getElem_cons hp]
    rw [show o.getD p d = o[p] by simp [hp]]
    exact List.perm_middle
  refine .trans ?_ e.symm
  unfold moved
  conv => rhs; rw [← List.take_append_drop g (o.take p ++ o.drop (p + 1))]
  rw [List.append_assoc]
  exact List.perm_middle
end
theorem foremost_lt {H : Hs} {o : List Th} {i : Nat} (e : foremost H o = some i) : i + 1 < o.length := by
  unfold foremost at e
  have := List.mem_of_find?_eq_some e
  simp at this
  omega
theorem IsO.step {H : Hs} {s : List Th × List Nat} (h : IsO H s.1) : IsO H (pressStep H s).1 := by
  unfold pressStep
  cases e : foremost H s.1 with
  | none => exact h
  | some i => exact ⟨(exch_perm (foremost_lt e)).trans h.pm⟩
theorem IsO.go {H : Hs} : ∀ {k : Nat} {s : List Th × List Nat}, IsO H s.1 → IsO H (pressGo H k s).1
  | 0, _, h => h
  | k + 1, _, h => IsO.go (k := k) h.step
theorem IsO.pressed {H : Hs} {o : List Th} (h : IsO H o) : IsO H (pressed H o).1 := IsO.go (s := (o, [])) h
theorem nearest_lt {o : List Th} {c p : Nat} (e : nearest o c = some p) : p < o.length := by
  unfold nearest at e
  have := List.mem_of_find?_eq_some e
  simpa using this
theorem IsO.moved {H : Hs} {o : List Th} {p g : Nat} (h : IsO H o) (hp : p < o.length) : IsO H (moved dft o p g) := ⟨(moved_perm hp).trans h.pm⟩
theorem IsO.round {H : Hs} {o : List Th} {c : Nat} (h : IsO H o) : IsO H (roundS H o c).1 := by
  unfold roundS
  cases e : nearest o c with
  | none => exact h.pressed
  | some p => exact (h.moved (nearest_lt e)).pressed
end Ws
set_option Elab.async false
set_option linter.all false
set_option maxRecDepth 100000
set_option autoImplicit false
namespace Ws
open PySem
def mkS (l : List Nat) : Str := ⟨l.toArray⟩
theorem cps_mk (l : List Nat) : cps (mkS l) = l := rfl
theorem mk_cps (x : Str) : mkS (cps x) = x := by
  cases x with
  | mk a => cases a; rfl
theorem cps_inj {x y : Str} (e : cps x = cps y) : x = y := by rw [← mk_cps x, ← mk_cps y, e]
theorem cps_app (x y : Str) : cps (x ++ y) = cps x ++ cps y := by
  show (x.cps ++ y.cps).toList = _
  rw [Array.toList_append]; rfl
theorem len_cps (x : Str) : x.length = (cps x).length := by
  show x.cps.size = _
  simp [cps]
theorem cps_join : ∀ ys : List Str, cps (Str.join "" ys) = (ys.map cps).flatten
  | [] => rfl
  | [x] => by simp [Str.join]
  | x :: y :: r => by
    show cps (x ++ "" ++ Str.join "" (y :: r)) = _
    rw [cps_app, cps_app, cps_join (y :: r)]
    simp only [List.map_cons, List.flatten_cons]
    rw [show cps ("" : Str) = [] from rfl]
    simp
theorem join_mk (ys : List Str) : Txt.join "" ys = mkS (ys.map cps).flatten := by
  refine cps_inj ?_
  rw [show Txt.join ("" : Str) ys = Str.join "" ys from TL.join_eq "" ys, cps_join, cps_mk]
theorem strsOf_map : ∀ ys : List Str, strsOf (ys.map .str) = some ys
  | [] => rfl
  | y :: ys => by simp only [List.map_cons, strsOf, strsOf_map ys]; rfl
theorem sum_len (ys : List Str) : (ys.map (·.length)).sum = (ys.map cps).flatten.length := by
  induction ys with
  | nil => rfl
  | cons y ys ih => rw [List.map_cons, List.sum_cons, List.map_cons, List.flatten_cons, List.length_append, ih, len_cps]
theorem o_join (ys : List Str) (h : AH) (hl : (ys.map cps).flatten.length ≤ 1000000) : gJoin (.str "") [.lst (ys.map .str)] h = .ok (.str (mkS (ys.map cps).flatten)) h := by
  unfold gJoin seqOf lstOf
  simp only [Option.bind, strsOf_map]
  rw [if_pos (by rw [sum_len, show (("" : Str).length) = 0 from rfl, Nat.mul_zero]; exact hl), join_mk]
/-- one sign each -/
theorem flat_one (cs : List Nat) : ((cs.map fun c => mkS [c]).map cps).flatten = cs := by
  induction cs with
  | nil => rfl
  | cons c cs ih =>
    simp only [List.map_cons, List.flatten_cons, ih]
    rfl
theorem o_join1 (cs : List Nat) (h : AH) (hl : cs.length ≤ 1000000) : gJoin (.str "") [.lst (cs.map sgn)] h = .ok (.str (mkS cs)) h := by
  have e : cs.map sgn = (cs.map fun c => mkS [c]).map .str := by rw [List.map_map]; rfl
  rw [e, o_join _ _ (by rw [flat_one]; exact hl), flat_one]
def alpha : List Nat := (List.range 26).map (· + 97)
theorem alpha_cps : cps "abcdefghijklmnopqrstuvwxyz" = alpha := by decide +kernel
theorem mem_alpha {c : Nat} : c ∈ alpha ↔ letter c := by
  unfold alpha letter
  simp only [List.mem_map, List.mem_range]
  constructor
  · rintro ⟨a, h, rfl⟩; omega
  · intro h; exact ⟨c - 97, by omega, by omega⟩
theorem alpha_lt : alpha.Pairwise (· < ·) := by decide +kernel
def lettersS (H : Hs) : List Nat := alpha.filter fun c => H.things.any (has c)
def wishesS (H : Hs) : List Nat := 45 :: lettersS H
theorem letters_lt (H : Hs) : (lettersS H).Pairwise (· < ·) := alpha_lt.filter _
theorem okStr {x : Str} (h : ∀ c ∈ cps x, c < 1114112) : PyData.canLay0 (.str x) = true := by
  unfold PyData.canLay0 PyData.strOk
  rw [Array.all_eq_true_iff_forall_mem]
  intro c hc
  have := h c (by unfold cps; simpa using hc)
  simpa using this
theorem okN_str {x : Str} (h : OkN x) : PyData.canLay0 (.str x) = true := okStr fun c hc => by have := h.al c hc; unfold letter at this; omega
theorem okM_str {x : Str} (h : OkM x) : PyData.canLay0 (.str x) = true := okStr fun c hc => by have := h.al c hc; unfold letter at this; omega
theorem fit_str {n : Nat} {x : Str} (h : PyData.canLay0 (.str x) = true) : fit n (.str x) = true := by cases n <;> exact h
theorem fit_int {n : Nat} (i : Int) : fit n (.int i) = true := by cases n <;> rfl
theorem fit_lst {n : Nat} {xs : List D} (h : ∀ d ∈ xs, fit n d = true) : fit (n + 1) (.lst xs) = true := fits_all h
theorem fit_tup {n : Nat} {xs : List D} (h : ∀ d ∈ xs, fit n d = true) : fit (n + 1) (.tup xs) = true := fits_all h
theorem o_eqSelf {x : D} (h : AH) (hs : seen x h = x) (hf : fit 64 x = true) : gEqD x x h = .ok (.bl true) h := gEq_self rfl (by rw [hs]; exact hf)
theorem o_neSelf {x : D} (h : AH) (hs : seen x h = x) (hf : fit 64 x = true) : gNot gEqD x x h = .ok (.bl false) h := by
  unfold gNot
  rw [o_eqSelf h hs hf]
  rfl
end Ws
set_option Elab.async false
set_option linter.all false
set_option maxRecDepth 100000
set_option autoImplicit false
namespace Ws
open PySem
theorem fn_nxP {n : Nat} {m : SM} {ds : List D} {σ' : Sl} {h h' : AH} (e : m (startD n ds) h = .nx σ' h') (hl : h'.length = h.length) (q : pureH h.length h' = true) : fn n m ds h = .ok .non h' := by
  unfold fn
  rw [e]
  unfold outD leave
  dsimp only
  have tk : h'.take h.length = h' := List.take_of_length_le (by omega)
  rw [tk, if_pos ⟨rfl, q⟩]
end Ws
set_option Elab.async false
set_option linter.all false
set_option maxRecDepth 100000
set_option autoImplicit false
namespace Ws
open PySem
theorem o_neNil {xs : List D} (h : AH) (hf : ∀ d ∈ xs, fit 63 d = true) : gNot gEqD (.lst xs) (.lst []) h = .ok (.bl (!xs.isEmpty)) h := by
  unfold gNot
  rw [gEq_of (x := .lst xs) (y := .lst []) (fit_lst hf) rfl]
  dsimp only
  rw [show eqB (seen (.lst xs) h) (seen (.lst []) h) = xs.isEmpty from eqB_nil (n := 63) (fits_all hf)]
theorem at_cell {α : Type} {f : α → D} {xs : List α} {i : Int} {n k : Nat} {h : AH} (d : α) (e : h.get n = some (.lst (xs.map f))) (ei : i = k) (hk : k < xs.length) : gAt (.cell n) (.int i) h = .ok (f (xs.getD k d)) h := by
  have nl : look (.cell n) (.int i) h = none := by
    unfold look dK dT
    dsimp only
    rw [e]
  unfold gAt
  rw [nl]
  simp only [Option.isSome_none, Bool.false_eq_true, if_false]
  unfold gIx lstOf
  dsimp only
  rw [e]
  dsimp only
  rw [atI_map (f := f) (d := d) ei hk]
theorem zip_tail {α : Type} {f : α → D} (d : α) (xs : List α) (h : AH) : zipA [.lst (xs.map f), .lst ((xs.map f).drop 1)] h = .ok ((List.range (xs.length - 1)).map fun i => .rtp [f (xs.getD i d), f (xs.getD (i + 1) d)]) h := by
  unfold zipA seqD
  dsimp only
  congr 1
  cases xs with
  | nil => rfl
  | cons x xs =>
    simp only [List.map_cons, List.drop_succ_cons, List.drop_zero, List.length_cons, Nat.add_sub_cancel]
    induction xs generalizing x with
    | nil => rfl
    | cons y ys ih =>
      rw [List.map_cons, zipD, List.length_cons, List.range_succ_eq_map, List.map_cons, List.map_map, ih y]
      simp only [List.getD_cons_zero, List.getD_cons_succ, List.cons.injEq, true_and]
      rfl
theorem ccF_map {α : Type} {vs : List Nat} {mi : M (List D)} {t : Tg} {c : M Bool} {e : M D} {σ : Sl} {h : AH} {g f : α → D} {xs : List α} (ei : mi σ h = .ok (xs.map g) h) (hm : ∀ x ∈ xs, ∃ σ1, t (g x) (wipeD σ vs) h = .ok σ1 h ∧ c σ1 h = .ok true h ∧ e σ1 h = .ok (f x) h) (hl : xs.length ≤ 1000000) :
    ccF vs mi t c (emE e stepL) [] finL σ h = .ok (.lst (xs.map f)) h := by
  rw [ap_ccF, ei, x_bind_ok, ccGo_map (f := f) hm (by simpa using hl)]
  rfl
theorem ccG_list {α : Type} {vs : List Nat} {mi : M (List D × Gd)} {t : Tg} {c : M Bool} {e : M D} {σ : Sl} {h : AH} {g f : α → D} {G : Gd} (p : α → Bool) {xs : List α} (ei : mi σ h = .ok (xs.map g, G) h) (hG : G h) (hm : ∀ x ∈ xs, ∃ σ1, t (g x) (wipeD σ vs) h = .ok σ1 h ∧ c σ1 h = .ok (p x) h ∧ (p x = true → e σ1 h = .ok (f x) h)) (hl : xs.length ≤ 1000) :
    ccG vs mi t c (emE e stepL) [] finL σ h = .ok (.lst ((xs.filter p).map f)) h := by
  have key : ∀ (ys : List α) (acc : List D), (∀ x ∈ ys, x ∈ xs) → acc.length + ys.length ≤ 1000 → ccGoG G (turnC t c (emE e stepL) (wipeD σ vs)) (ys.map g) acc h = .ok (acc ++ (ys.filter p).map f) h := by
    intro ys
    induction ys with
    | nil => intro acc _ _; rw [List.map_nil, ccGoG, if_pos hG]; simp
    | cons y ys ih =>
      intro acc hy hl
      obtain ⟨σ1, e1, e2, e3⟩ := hm y (hy y List.mem_cons_self)
      simp only [List.length_cons] at hl
      rw [List.map_cons, ccGoG, if_pos hG]
      by_cases q : p y = true
      · rw [q] at e2
        rw [turnC_yes e1 e2, emE_ok (a' := acc ++ [f y]) (e3 q) (by unfold stepL; rw [if_pos (by omega)])]
        dsimp only
        rw [ih (acc ++ [f y]) (fun x hx => hy x (List.mem_cons_of_mem _ hx)) (by simp; omega), List.filter_cons_of_pos q]
        simp
      · simp only [Bool.not_eq_true] at q
        rw [q] at e2
        rw [turnC_no e1 e2]
        dsimp only
        rw [ih acc (fun x hx => hy x (List.mem_cons_of_mem _ hx)) (by omega), List.filter_cons_of_neg (by rw [q]; exact Bool.false_ne_true)]
  unfold ccG
  rw [ei, x_bind_ok, key xs [] (fun _ z => z) (by simpa using hl)]
  rfl
theorem walkG_cell {m : M D} {σ : Sl} {h : AH} {n : Nat} {xs : List D} (e1 : m σ h = .ok (.cell n) h) (e2 : h.get n = some (.lst xs)) : walkG m σ h = .ok (xs, fun h => h.get n = some (.lst xs)) h := by
  unfold walkG
  rw [e1, x_bind_ok]
  unfold cellG cellL
  dsimp only
  rw [e2]
end Ws
set_option Elab.async false
set_option linter.all false
set_option maxRecDepth 100000
set_option autoImplicit false
namespace Ws
open PySem
theorem o_mod {i j : Int} (hj : 0 < j) (h : AH) : gMod (.int i) (.int j) h = .ok (.int (i % j)) h := by
  unfold gMod gInt
  dsimp only
  rw [if_pos (decide_eq_true hj)]
theorem o_div {i j : Int} (hj : 0 < j) (h2 : j < 1073741824) (h : AH) : gDiv (.int i) (.int j) h = .ok (.int (i / j)) h := by
  unfold gDiv gInt
  dsimp only
  rw [if_pos (by rw [decide_eq_true hj, decide_eq_true h2]; rfl)]
theorem o_mulL {i j : Int} (hi : small64 i = true) (h : AH) : gMul (.int i) (.int j) h = .ok (.int (i * j)) h := by
  unfold gMul gInt
  dsimp only
  rw [if_pos (by rw [hi]; rfl)]
theorem o_mulR {i j : Int} (hj : small64 j = true) (h : AH) : gMul (.int i) (.int j) h = .ok (.int (i * j)) h := by
  unfold gMul gInt
  dsimp only
  rw [if_pos (by rw [hj, Bool.or_true])]
/-- the state of the draws: one number, or three -/
inductive Dr : List D → Prop where
  | one (a : Int) : Dr [.int a]
  | three (a u c : Int) : Dr [.int a, .int u, .int c]
theorem Dr.pure {st : List D} (h : Dr st) (L : Nat) : pureDs L st = true := by cases h <;> rfl
section
variable {r : AH} {x y z : D}
theorem s_at0 : gAt (.cell 0) (.int 0) (some (.lst [x, y, z]) :: r) = .ok x (some (.lst [x, y, z]) :: r) := (rfl)
theorem s_at1 : gAt (.cell 0) (.int 1) (some (.lst [x, y, z]) :: r) = .ok y (some (.lst [x, y, z]) :: r) := (rfl)
theorem s_at2 : gAt (.cell 0) (.int 2) (some (.lst [x, y, z]) :: r) = .ok z (some (.lst [x, y, z]) :: r) := (rfl)
theorem s_one : gAt (.cell 0) (.int 0) (some (.lst [x]) :: r) = .ok x (some (.lst [x]) :: r) := (rfl)
theorem s_st0 {d : D} : stD (.cell 0) (.int 0) d (some (.lst [x, y, z]) :: r) = some (some (.lst [d, y, z]) :: r) := (rfl)
theorem s_st2 {d : D} : stD (.cell 0) (.int 2) d (some (.lst [x, y, z]) :: r) = some (some (.lst [x, y, d]) :: r) := (rfl)
theorem s_len1 : gLenA [.cell 0] (some (.lst [x]) :: r) = .ok (.int 1) (some (.lst [x]) :: r) := (rfl)
theorem s_len3 : gLenA [.cell 0] (some (.lst [x, y, z]) :: r) = .ok (.int 3) (some (.lst [x, y, z]) :: r) := (rfl)
theorem s_isl {st : List D} : isLst (.cell 0) (some (.lst st) :: r) = true := (rfl)
theorem s_ext : gExtend (.cell 0) [.lst [y, z]] (some (.lst [x]) :: r) = .ok .non (some (.lst [x, y, z]) :: r) := by
  unfold gExtend
  show (if 1 + 2 ≤ lim then Out.ok D.non (some (OB.lst [x, y, z]) :: r) else .bad) = _
  rw [if_pos (by unfold lim; omega)]
theorem o_lst2 (a b : D) (h : AH) : gLst [a, b] h = .ok (.lst [a, b]) h := (rfl)
end
/-- a rest of cells, each without cells of its own or with lesser ones -/
def PH (r : AH) : Prop := ∀ L, r.length < L → pureH L r = true
theorem PH.nil : PH [] := fun _ _ => rfl
theorem pureH_app {L : Nat} : ∀ {a b : AH}, pureH L a = true → pureH L b = true → pureH L (a ++ b) = true
  | [], b, _, h => h
  | none :: a, b, h1, h2 => by
    unfold pureH at h1
    show pureH L (none :: (a ++ b)) = true
    unfold pureH
    exact pureH_app h1 h2
  | some x :: a, b, h1, h2 => by
    unfold pureH at h1
    obtain ⟨q1, q2⟩ := Bool.and_eq_true_iff.mp h1
    show pureH L (some x :: (a ++ b)) = true
    unfold pureH
    rw [q1, pureH_app q2 h2]; rfl
theorem PH.snoc {r : AH} (h : PH r) {ob : OB} (ho : ∀ L, pureO L ob = true) : PH (r ++ [some ob]) := fun L hl => by
  simp only [List.length_append, List.length_singleton] at hl
  refine pureH_app (h L (by omega)) ?_
  unfold pureH pureH
  rw [ho]; rfl
end Ws
set_option Elab.async false
set_option linter.all false
set_option maxRecDepth 100000
set_option autoImplicit false
namespace Ws
open PySem
theorem o_lenS {x : Str} (hl : (cps x).length ≤ 1000000) (h : AH) : gLenA [.str x] h = .ok (.int (cps x).length) h := by
  show (match (if x.length ≤ lim then some x.length else none) with
    | some n => Out.ok (D.int (n : Nat)) h
    | none => .bad) = _
  rw [len_cps, if_pos (show _ ≤ lim from hl)]
theorem o_ltS {a b : Nat} (hab : a < b) (h : AH) : gLt (sgn a) (sgn b) h = .ok (.bl true) h := by
  show Out.ok (D.bl (ltS (mkS [a]) (mkS [b]))) h = _
  congr 2
  unfold ltS
  refine decide_eq_true ?_
  show [a] < [b]
  exact List.Lex.rel hab
theorem o_dropS (x : Str) (n : Nat) (h : AH) (hl : (cps x).length ≤ 1000000) : gSl (.str x) (some (n : Int)) none h = .ok (.str (mkS ((cps x).drop n))) h := by
  show (if x.length ≤ lim then Out.ok (D.str (L2.cutS x (some (n : Int)) none)) h else .bad) = _
  rw [if_pos (by rw [len_cps]; exact hl)]
  congr 2
  apply cps_inj
  rw [cps_mk]
  show List.take (HT.sIx x.length x.length none - HT.sIx x.length 0 (some (n : Int))) (List.drop (HT.sIx x.length 0 (some (n : Int))) (cps x)) = _
  rw [HT.sIx_none, HT.sIx_nat, len_cps]
  by_cases e : n ≤ (cps x).length
  · rw [Nat.min_eq_left e, ← List.length_drop, List.take_length]
  · rw [Nat.min_eq_right (by omega), List.drop_eq_nil_of_le (Nat.le_refl _), List.drop_eq_nil_of_le (by omega)]; simp
theorem zip_tailS (x : Str) (h : AH) : zipA [.str x, .str (mkS ((cps x).drop 1))] h = .ok ((List.range ((cps x).length - 1)).map fun i => .rtp [sgn ((cps x).getD i 0), sgn ((cps x).getD (i + 1) 0)]) h := by
  have := zip_tail (f := sgn) 0 (cps x) h
  rw [← this, ← List.map_drop]
  rfl
/-- what are bools all of them -/
theorem o_allT {α : Type} (xs : List α) (h : AH) : gAll [.lst (xs.map fun _ => .bl true)] h = .ok (.bl true) h := by
  rw [show (xs.map fun _ => D.bl true) = (xs.map fun _ => true).map .bl by rw [List.map_map]; rfl, o_allB]
  congr 2
  induction xs with
  | nil => rfl
  | cons x xs ih => simp
theorem h_get0 (ob : OB) : AH.get [some ob] 0 = some ob := (rfl)
theorem h_put0 (ob ob' : OB) : AH.put [some ob] 0 ob' = [some ob'] := (rfl)
theorem ne_name_marks : (("name" : Str) = "marks") = False := by
  refine eq_false ?_
  decide +kernel
theorem ne_name_weight : (("name" : Str) = "weight") = False := by
  refine eq_false ?_
  decide +kernel
theorem ne_name_rule : (("name" : Str) = "rule") = False := by
  refine eq_false ?_
  decide +kernel
theorem ne_marks_weight : (("marks" : Str) = "weight") = False := by
  refine eq_false ?_
  decide +kernel
theorem ne_marks_rule : (("marks" : Str) = "rule") = False := by
  refine eq_false ?_
  decide +kernel
theorem ne_weight_rule : (("weight" : Str) = "rule") = False := by
  refine eq_false ?_
  decide +kernel
theorem ne_held_lift : (("held" : Str) = "lift") = False := by
  refine eq_false ?_
  decide +kernel
theorem ne_held_press : (("held" : Str) = "press") = False := by
  refine eq_false ?_
  decide +kernel
theorem ne_held_hold : (("held" : Str) = "hold") = False := by
  refine eq_false ?_
  decide +kernel
theorem ne_lift_press : (("lift" : Str) = "press") = False := by
  refine eq_false ?_
  decide +kernel
theorem ne_lift_hold : (("lift" : Str) = "hold") = False := by
  refine eq_false ?_
  decide +kernel
theorem ne_press_hold : (("press" : Str) = "hold") = False := by
  refine eq_false ?_
  decide +kernel
end Ws
set_option Elab.async false
set_option linter.all false
set_option maxRecDepth 100000
set_option autoImplicit false
namespace Ws
open PySem
abbrev Pr (H : Hs) (o : List Th) : List Th := (pressed H o).1
/-- till it stays -/
inductive Settles {α : Type} (P : α → α) : α → α → Nat → Prop where
  | stop {o : α} : P o = o → Settles P o o 0
  | step {o r : α} {n : Nat} : P o ≠ o → Settles P (P o) r n → Settles P o r (n + 1)
theorem Settles.isO {H : Hs} {o r : List Th} {n : Nat} (h : Settles (Pr H) o r n) (ho : IsO H o) : IsO H r := by
  induction h with
  | stop => exact ho
  | step _ _ ih => exact ih ho.pressed
end Ws
set_option Elab.async false
set_option linter.all false
set_option maxRecDepth 100000
set_option autoImplicit false
namespace Ws
open PySem
theorem names_inj {H : Hs} (ok : H.Ok) : ∀ {a b : List Th}, (∀ t ∈ a, t ∈ H.things) → (∀ t ∈ b, t ∈ H.things) → a.map (·.name) = b.map (·.name) → a = b
  | [], [], _, _, _ => rfl
  | [], _ :: _, _, _, e => nomatch e
  | _ :: _, [], _, _, e => nomatch e
  | x :: a, y :: b, ha, hb, e => by
    simp only [List.map_cons, List.cons.injEq] at e
    have : ∀ {ts : List Th}, (ts.map (·.name)).Nodup → x ∈ ts → y ∈ ts → x = y := by
      intro ts
      induction ts with
      | nil => intro _ h; cases h
      | cons t ts ih =>
        intro nd hx hy
        simp only [List.map_cons, List.nodup_cons] at nd
        rcases List.mem_cons.mp hx with h1 | h1
        · rcases List.mem_cons.mp hy with h2 | h2
          · rw [h1, h2]
          · exact absurd (List.mem_map.mpr ⟨y, h2, by rw [← e.1, h1]⟩) nd.1
        · rcases List.mem_cons.mp hy with h2 | h2
          · exact absurd (List.mem_map.mpr ⟨x, h1, by rw [e.1, h2]⟩) nd.1
          · exact ih nd.2 h1 h2
    rw [this ok.nd (ha x List.mem_cons_self) (hb y List.mem_cons_self), names_inj ok (fun t ht => ha t (List.mem_cons_of_mem _ ht)) (fun t ht => hb t (List.mem_cons_of_mem _ ht)) e.2]
end Ws
set_option Elab.async false
set_option linter.all false
set_option maxRecDepth 100000
set_option autoImplicit false
namespace Ws
open PySem PySem.Spec PyProof.Rows L2 RT
end Ws
set_option Elab.async false
set_option linter.all false
set_option maxRecDepth 100000
set_option autoImplicit false
namespace Ws
open PySem PySem.Spec PyProof.Rows L2
end Ws
set_option Elab.async false
set_option linter.all false
set_option maxRecDepth 100000
set_option autoImplicit false
namespace Ws
open PySem PySem.Spec PyProof.Rows L2
end Ws
namespace Ws
open PySem PySem.Spec PyProof.Rows L2
end Ws
set_option Elab.async false
set_option linter.all false
set_option maxRecDepth 100000
set_option autoImplicit false
namespace Ws
open PySem PySem.Spec PyProof.Rows L2
end Ws
set_option Elab.async false
set_option linter.all false
set_option maxRecDepth 100000
set_option autoImplicit false
namespace Ws
open PySem PySem.Spec PyProof.Rows L2
end Ws
set_option Elab.async false
set_option linter.all false
set_option maxRecDepth 100000
set_option autoImplicit false
namespace Ws
open PySem PySem.Spec PyProof.Rows L2
end Ws
set_option Elab.async false
set_option linter.all false
set_option maxRecDepth 100000
set_option autoImplicit false
namespace Ws
open PySem PySem.Spec PyProof.Rows L2
end Ws
set_option Elab.async false
set_option linter.all false
set_option maxRecDepth 100000
set_option autoImplicit false
namespace Ws
open PySem PySem.Spec PyProof.Rows L2
end Ws
set_option Elab.async false
set_option linter.all false
set_option maxRecDepth 100000
set_option autoImplicit false
namespace Ws
open PySem PySem.Spec PyProof.Rows L2
mutual
def shD (L : Nat) : D → D
  | .tup xs => .tup (shDs L xs)
  | .rtp xs => .rtp (shDs L xs)
  | .lst xs => .lst (shDs L xs)
  | .dct kvs => .dct (shK L kvs)
  | .dcT kvs => .dcT (shK L kvs)
  | .ins c fs => .ins c (shF L fs)
  | .cell n => .cell (L + n)
  | .non => .non | .bl b => .bl b | .int i => .int i | .str x => .str x | .ty n => .ty n | .glo x => .glo x | .set xs => .set xs | .scr ns => .scr ns | .exn c fs => .exn c fs | .lam cs => .lam (shDs L cs) | .seT xs => .seT xs | .exv c y x => .exv c y x | .odc k x => .odc k x
def shDs (L : Nat) : List D → List D
  | [] => []
  | d :: ds => shD L d :: shDs L ds
def shK (L : Nat) : List (D × D) → List (D × D)
  | [] => []
  | (k, d) :: ds => (k, shD L d) :: shK L ds
def shF (L : Nat) : List (Str × D) → List (Str × D)
  | [] => []
  | (k, d) :: ds => (k, shD L d) :: shF L ds
end
def shO (L : Nat) : OB → OB
  | .lst xs => .lst (shDs L xs)
  | .dct kvs => .dct (shK L kvs)
  | .dcT kvs => .dcT (shK L kvs)
  | .ins c fs => .ins c (shF L fs)
  | .set xs => .set xs
def shH (L : Nat) (h : AH) : AH := h.map (Option.map (shO L))
/-- back from a callee that saw no cells, with its own -/
def Sx.join (s t : Sx) : Sx := { F := t.F, ρ := { c := fun n => if n < s.ah.length then s.ρ.c n else t.ρ.c (n - s.ah.length), x := s.ρ.x }, H := t.H, ah := s.ah ++ shH s.ah.length t.ah }
end Ws
set_option Elab.async false
set_option linter.all false
set_option maxRecDepth 100000
set_option maxHeartbeats 2000000
set_option autoImplicit false
namespace Ws
open PySem PySem.Spec PyProof.Rows L2
section
variable {C : Cf} {ε : Ep} {W : WX}
def finT (kvs : List (D × D)) (h : AH) : Out D := .ok (.dcT kvs) h
end
end Ws
set_option Elab.async false
set_option linter.all false
set_option maxRecDepth 100000
set_option maxHeartbeats 2000000
set_option autoImplicit false
namespace Ws
open PySem PySem.Spec PyProof.Rows PyProof.Rows.G L2
/-- one tuple's texts stand at or below the other's -/
def ltSS : List Str → List Str → Bool
  | [], [] => false
  | [], _ :: _ => true
  | _ :: _, [] => false
  | x :: r, y :: t => decide (x.cps.toList < y.cps.toList) || (!decide (y.cps.toList < x.cps.toList) && ltSS r t)
end Ws
set_option Elab.async false
set_option linter.all false
set_option maxRecDepth 100000
set_option maxHeartbeats 2000000
set_option autoImplicit false
namespace Ws
open PySem PySem.Spec PyProof.Rows PyProof.Rows.G L2
def cpsL (k : List Str) : List (List Nat) := k.map fun x => x.cps.toList
theorem ltSS_iff : ∀ a b : List Str, ltSS a b = true ↔ cpsL a < cpsL b
  | [], [] => by simp [ltSS, cpsL]
  | [], y :: b => by simp [ltSS, cpsL]
  | x :: a, [] => by simp [ltSS, cpsL]
  | x :: a, y :: b => by
    show (decide (x.cps.toList < y.cps.toList) || (!decide (y.cps.toList < x.cps.toList) && ltSS a b)) = true ↔ (x.cps.toList :: cpsL a) < (y.cps.toList :: cpsL b)
    rw [List.cons_lt_cons_iff, Bool.or_eq_true, Bool.and_eq_true, decide_eq_true_eq, ltSS_iff a b, Bool.not_eq_true', decide_eq_false_iff_not]
    constructor
    · rintro (h | ⟨h1, h2⟩)
      · exact .inl h
      · by_cases hx : x.cps.toList < y.cps.toList
        · exact .inl hx
        · exact .inr ⟨List.le_antisymm (List.not_lt.mp h1) (List.not_lt.mp hx), h2⟩
    · rintro (h | ⟨h1, h2⟩)
      · exact .inl h
      · exact .inr ⟨by rw [h1]; exact List.lt_irrefl _, h2⟩
end Ws
set_option Elab.async false
set_option linter.all false
set_option maxRecDepth 100000
set_option maxHeartbeats 2000000
set_option autoImplicit false
namespace Ws
open PySem PySem.Spec PyProof.Rows L2
end Ws
set_option Elab.async false
set_option linter.all false
set_option maxRecDepth 100000
set_option maxHeartbeats 2000000
set_option autoImplicit false
namespace Ws
open PySem PySem.Spec PyProof.Rows L2
end Ws
set_option Elab.async false
set_option linter.all false
set_option maxRecDepth 100000
set_option autoImplicit false
namespace Ws
open PySem PySem.Spec PyProof.Rows L2
end Ws
set_option Elab.async false
set_option linter.all false
set_option maxRecDepth 100000
set_option autoImplicit false
namespace Ws
open PySem PySem.Spec PyProof.Rows L2
end Ws
set_option Elab.async false
set_option linter.all false
set_option maxRecDepth 100000
set_option autoImplicit false
namespace Ws
open PySem PySem.Spec PyProof.Rows L2
end Ws
set_option Elab.async false
set_option linter.all false
set_option maxRecDepth 100000
set_option maxHeartbeats 2000000
set_option autoImplicit false
namespace Ws
open PySem PySem.Spec PyProof.Rows L2
end Ws
set_option Elab.async false
set_option linter.all false
set_option maxRecDepth 100000
set_option maxHeartbeats 2000000
set_option autoImplicit false
namespace Ws
open PySem PySem.Spec PyProof.Rows L2
end Ws
set_option Elab.async false
set_option linter.all false
set_option maxRecDepth 100000
set_option maxHeartbeats 2000000
set_option autoImplicit false
namespace Ws
open PySem PySem.Spec PyProof.Rows L2
end Ws
set_option Elab.async false
set_option linter.all false
set_option maxRecDepth 100000
set_option maxHeartbeats 2000000
set_option autoImplicit false
namespace Ws
open PySem PySem.Spec PyProof.Rows L2
def spL (C : Cf) (L : LamV) (np : Nat) (Fn : List D → AH → Out D) : Sp := fun vs H Q E => ∃ s ds cs, s.H = H ∧ s.ρ.x = none ∧ Good C s ∧ Rs C s.F s.ρ ds vs ∧ Rs C s.F s.ρ cs L.us ∧ s.F L.c = some (LamX.CodeO L.c L.q) ∧ ds.length = np ∧ Post C (fun cls od _ H => E cls od H) [] (rD C) s Q (Fn (ds ++ cs) s.ah)
structure LamRun (P : Program) (w : World) (K : PySem.W.Frag) (mg : Str → Option Value) (base : Heap) (k : Nat) (C : Cf) (L : LamV) (np : Nat) (Fn : List D → AH → Out D) : Prop where
  obj : ∃ oc od fd sl, base.get? L.f = some ⟨oc, od, .func fd, sl⟩
  run : ∀ (A : Around) (outer : List Env) (s : Shared) (H : Hp) (us : List Value) (vs : List V) (Q : VK) (E : XK), Room k A → Env0 P w K mg base A outer s H → Vals vs us → spL C L np Fn vs H Q E → codeAny (model P w) A (.call (.ref L.f) ⟨us, []⟩) (CR (L2.CX P w) outer P w H s Q E) s
theorem LamRun.mono {P : Program} {w : World} {K : PySem.W.Frag} {mg : Str → Option Value} {base : Heap} {j k : Nat} {C : Cf} {L : LamV} {np : Nat} {Fn : List D → AH → Out D} (R : LamRun P w K mg base j C L np Fn) (h : j ≤ k) : LamRun P w K mg base k C L np Fn :=
  ⟨R.obj, fun A outer s H us vs Q E hr => R.run A outer s H us vs Q E (hr.mono h)⟩
end Ws
set_option Elab.async false
set_option linter.all false
set_option maxRecDepth 100000
set_option maxHeartbeats 2000000
set_option autoImplicit false
namespace Ws
open PySem PySem.Spec PyProof.Rows L2
def PostC (C : Cf) (W : WX) (σ : L2.St) (s : Sx) (G : Sx → List D → Prop) : Out (List D) → Prop
  | .ok ds h => ∀ s', s'.ah = h → Fwd s s' → Good C s' → G s' ds
  | .exc x h => ∀ s' od, s'.ah = h → Fwd s s' → Good C s' → XR C s' x od → W (.ref (He.ga C.K x.c)) od σ s'.H
  | .bad => False
theorem PostC.fwd {C : Cf} {W : WX} {σ : L2.St} {s t : Sx} {G : Sx → List D → Prop} {o : Out (List D)} (f : Fwd s t) (h : PostC C W σ s G o) : PostC C W σ t G o := by
  cases o with
  | ok d h' => exact fun s' e g k => h s' e (f.trans g) k
  | exc x h' => exact fun s' od e g k r => h s' od e (f.trans g) k r
  | bad => exact h
theorem Mod.up {K : PySem.W.Frag} {mg : Str → Option Value} {base base' : Heap} (m : Mod K mg base) (k : ∀ b o, base.get? b = some o → base'.get? b = some o) : Mod K mg base' :=
  ⟨m.kin.keeps k, m.glob.keeps k, let ⟨mb, h1, h2⟩ := m.blt; ⟨mb, h1.keeps k, h2⟩, m.nolimit.keeps k⟩
/-- a def's promise where it is called around A alone -/
structure FnAt (A : Around) (P : Program) (w : World) (K : PySem.W.Frag) (mg : Str → Option Value) (base : Heap) (CX : CXT) (k : Nat) (f : Addr) (fd : FuncData) (ps : List Str) (sp : Sp) : Prop where
  lenA : ∀ vs H Q E, sp vs H Q E → vs.length = ps.length
  go : ∀ (lies : List Env) (s : Shared) (H : Hp) (args : Args) (us : List Value) (vs : List V) (Q : VK) (E : XK), Room k A → Env0 P w K mg base A lies s H → BindsTo s fd args (ps.zip us) → Vals vs us → sp vs H Q E → codeAny (model P w) A (.call (.ref f) args) (CR CX lies P w H s Q E) s
/-- .. where no list or tuple is just being written out -/
def FnG (P : Program) (w : World) (K : PySem.W.Frag) (mg : Str → Option Value) (base : Heap) (CX : CXT) (k : Nat) (f : Addr) (fd : FuncData) (ps : List Str) (sp : Sp) : Prop := ∀ A : Around, A.guards = some [] → FnAt A P w K mg base CX k f fd ps sp
end Ws
set_option Elab.async false
set_option linter.all false
set_option maxRecDepth 100000
set_option maxHeartbeats 2000000
set_option autoImplicit false
namespace Ws
open PySem PySem.Spec PyProof.Rows L2
abbrev Mks := List ((Str × Option Str) × Str)
/-- the name that a lambda made there bears -/
abbrev lamQ (q : Str) : Str := q ++ ".<locals>." ++ "<lambda>"
def tabsT (K : PySem.W.Frag) (ms : Mks) : List (Addr × Str) := ms.map fun p => (tabAt K p.1, lamQ p.2)
def TabsB (K : PySem.W.Frag) (mg : Str → Option Value) (base : Heap) (ms : Mks) : Prop := ∀ p ∈ ms, LamX.TabB base mg (codeOf K p.1) (tabAt K p.1)
theorem TabsB.up {K : PySem.W.Frag} {mg : Str → Option Value} {base base' : Heap} {ms : Mks} (t : TabsB K mg base ms) (k : ∀ b o, base.get? b = some o → base'.get? b = some o) : TabsB K mg base' ms := fun p hp =>
  ⟨(t p hp).code.keeps k, (t p hp).bm.keeps k, (t p hp).gP⟩
section
variable {P : Program} {w : World} {K : PySem.W.Frag} {mg : Str → Option Value} {base : Heap} {ms : Mks} {lf : Option LamV}
abbrev cfT (P : Program) (w : World) (K : PySem.W.Frag) (ms : Mks) (lf : Option LamV) : Cf := ⟨P, w, K, tabsT K ms, lf⟩
end
end Ws
set_option Elab.async false
set_option linter.all false
set_option maxRecDepth 100000
set_option autoImplicit false
namespace Ws
open PySem
def ranStep (H : Hs) (s : List Th × List Tr) (c : Nat) : List Th × List Tr := ((roundS H s.1 c).1, s.2 ++ [(roundS H s.1 c).2])
theorem ran_isO {H : Hs} : ∀ {cs : List Nat} {s : List Th × List Tr}, IsO H s.1 → IsO H (cs.foldl (ranStep H) s).1
  | [], _, h => h
  | c :: cs, s, h => ran_isO (cs := cs) (s := ranStep H s c) (IsO.round h)
end Ws
set_option Elab.async false
set_option linter.all false
set_option maxRecDepth 100000
set_option autoImplicit false
namespace Ws
open PySem
def stB (H : Hs) (o : List Th) (cs : List Nat) : Nat → List Th
  | 0 => o
  | b + 1 => (roundS H (stB H o cs b) (cs.getD (b % cs.length) 0)).1
end Ws
set_option Elab.async false
set_option linter.all false
set_option maxRecDepth 100000
set_option autoImplicit false
namespace Ws
open PySem
def allT {α : Type} (xs : List α) : Nat → List (List α)
  | 0 => [[]]
  | n + 1 => xs.flatMap fun x => (allT xs n).map fun l => x :: l
theorem mem_allT {α : Type} {xs : List α} : ∀ {l : List α}, (∀ x ∈ l, x ∈ xs) → l ∈ allT xs l.length
  | [], _ => List.mem_singleton.mpr rfl
  | x :: l, h => List.mem_flatMap.mpr ⟨x, h x List.mem_cons_self, List.mem_map.mpr ⟨l, mem_allT fun y hy => h y (List.mem_cons_of_mem _ hy), rfl⟩⟩
theorem IsO.all {H : Hs} {o : List Th} (h : IsO H o) : o ∈ allT H.things H.things.length := by
  have := mem_allT (xs := H.things) (l := o) fun x hx => h.mem hx
  rw [h.len] at this
  exact this
end Ws
set_option Elab.async false
set_option linter.all false
set_option maxRecDepth 100000
set_option autoImplicit false
namespace Ws
open PySem
theorem at_str {z : Str} {i : Int} {n : Nat} (h : AH) (e : i = n) (hn : n < (cps z).length) (hl : (cps z).length ≤ 1000000) : gAt (.str z) (.int i) h = .ok (sgn ((cps z).getD n 0)) h := by
  show gIx (.str z) (.int i) h = _
  have := atI_map (f := id) (xs := cps z) (d := 0) e hn
  rw [List.map_id] at this
  unfold gIx
  dsimp only
  rw [show L2.atI z.cps.toList i = some (id ((cps z).getD n 0)) from this]
  dsimp only
  rw [if_pos (by rw [len_cps]; exact hl)]
  rfl
end Ws
set_option Elab.async false
set_option linter.all false
set_option maxRecDepth 100000
set_option autoImplicit false
namespace Ws
open PySem
end Ws
set_option Elab.async false
set_option linter.all false
set_option maxRecDepth 100000
set_option autoImplicit false
namespace Ws
open PySem
def okey (o : List Th) : NK := .tup (o.map fun t => .text t.name)
theorem okey_inj {H : Hs} (ok : H.Ok) {a b : List Th} (ha : IsO H a) (hb : IsO H b) (e : okey a = okey b) : a = b := by
  refine names_inj ok (fun t ht => ha.mem ht) (fun t ht => hb.mem ht) ?_
  unfold okey at e
  injection e with e
  have inj : ∀ (x y : List Th), (x.map fun t => NestedKey.text t.name) = (y.map fun t => NestedKey.text t.name) → x.map (·.name) = y.map (·.name) := by
    intro x
    induction x with
    | nil => intro y h; cases y with
      | nil => rfl
      | cons => cases h
    | cons a x ih => intro y h; cases y with
      | nil => cases h
      | cons b y =>
        rw [List.map_cons, List.map_cons, List.cons.injEq] at h
        rw [List.map_cons, List.map_cons, ih y h.2]
        injection h.1 with h1
        rw [h1]
  exact inj _ _ e
end Ws
set_option Elab.async false
set_option linter.all false
set_option maxRecDepth 100000
set_option autoImplicit false
namespace Ws
open PySem
def lookT (t : Tr) : Int := match t.who with
  | none => 0
  | some (_, p, _) => (p : Nat) + 1
/-- a trace of a house's own round -/
structure TrOf (H : Hs) (t : Tr) : Prop where
  nm : ∀ x p g, t.who = some (x, p, g) → ∃ th ∈ H.things, th.name = x
  pl : ∀ x p g, t.who = some (x, p, g) → p < 6 ∧ g ≤ p
  ps : t.ps.length ≤ 3
theorem TrOf.look {H : Hs} {t : Tr} (h : TrOf H t) : 0 ≤ lookT t ∧ lookT t ≤ 6 := by
  unfold lookT
  cases e : t.who with
  | none => exact ⟨by decide, by decide⟩
  | some w =>
    obtain ⟨x, p, g⟩ := w
    have := h.pl x p g e
    dsimp only
    omega
end Ws
set_option Elab.async false
set_option linter.all false
set_option maxRecDepth 100000
set_option autoImplicit false
namespace Ws
open PySem
end Ws
set_option Elab.async false
set_option linter.all false
set_option maxRecDepth 100000
set_option autoImplicit false
namespace Ws
open PySem
end Ws
set_option Elab.async false
set_option linter.all false
set_option maxRecDepth 100000
set_option autoImplicit false
namespace Ws
open PySem
theorem ne_ii (i : Int) (h : AH) : gNot gEqD (.int i) (.int i) h = .ok (.bl false) h := by
  unfold gNot
  rw [o_eq]
  simp
end Ws
set_option Elab.async false
set_option linter.all false
set_option maxRecDepth 100000
set_option autoImplicit false
namespace Ws
open PySem
def names (o : List Th) : List Str := o.map (·.name)
def permsN : Nat → List Th → List (List Th)
  | _, [] => [[]]
  | 0, _ :: _ => []
  | n + 1, t :: ts => (t :: ts).flatMap fun x => (permsN n ((t :: ts).filter fun y => decide (y.name ≠ x.name))).map (x :: ·)
theorem perm_out {ts : List Th} (nd : (names ts).Nodup) {x : Th} (hx : x ∈ ts) : ts.Perm (x :: ts.filter fun y => decide (y.name ≠ x.name)) := by
  induction ts with
  | nil => cases hx
  | cons t ts ih =>
    rw [names, List.map_cons, List.nodup_cons] at nd
    rcases List.mem_cons.mp hx with e | e
    · subst e
      rw [List.filter_cons_of_neg (by simp)]
      rw [List.filter_eq_self.mpr]
      intro y hy
      rw [decide_eq_true_eq]
      exact fun z => nd.1 (z ▸ List.mem_map_of_mem hy)
    · have ne : t.name ≠ x.name := fun z => nd.1 (z ▸ List.mem_map_of_mem e)
      rw [List.filter_cons_of_pos (by simpa using ne)]
      exact ((ih nd.2 e).cons t).trans (.swap _ _ _)
theorem nodup_out {ts : List Th} (nd : (names ts).Nodup) (p : Th → Bool) : (names (ts.filter p)).Nodup := nd.sublist ((List.filter_sublist).map _)
theorem len_out {ts : List Th} (nd : (names ts).Nodup) {x : Th} (hx : x ∈ ts) : (ts.filter fun y => decide (y.name ≠ x.name)).length + 1 = ts.length := by
  have := (perm_out nd hx).length_eq
  rw [List.length_cons] at this
  exact this.symm
theorem mem_perms : ∀ {n : Nat} {ts : List Th}, ts.length ≤ n → (names ts).Nodup → ∀ {o : List Th}, o ∈ permsN n ts ↔ o.Perm ts
  | n, [], _, _, o => by
    cases n <;> (unfold permsN; rw [List.mem_singleton]; exact ⟨fun e => by subst e; exact .nil, fun h => h.eq_nil⟩)
  | 0, t :: ts, h, _, _ => by simp at h
  | n + 1, t :: ts, h, nd, o => by
    unfold permsN
    rw [List.mem_flatMap]
    constructor
    · rintro ⟨x, hx, hm⟩
      obtain ⟨r, hr, rfl⟩ := List.mem_map.mp hm
      have l := len_out nd hx
      have := (mem_perms (n := n) (by omega) (nodup_out nd _)).mp hr
      exact (this.cons x).trans (perm_out nd hx).symm
    · intro hp
      cases o with
      | nil => exact absurd hp.symm.eq_nil (by simp)
      | cons x r =>
        have hx : x ∈ t :: ts := hp.subset List.mem_cons_self
        have l := len_out nd hx
        refine ⟨x, hx, List.mem_map.mpr ⟨r, (mem_perms (n := n) (by omega) (nodup_out nd _)).mpr ?_, rfl⟩⟩
        exact (hp.trans (perm_out nd hx)).cons_inv
/-- one order stands ahead of another -/
def ltO (a b : List Th) : Prop := ltSS (names a) (names b) = true
theorem ltSS_irrefl (k : List Str) : ltSS k k = false := by
  rw [← Bool.not_eq_true, ltSS_iff]
  exact List.lt_irrefl _
theorem perms_up : ∀ {n : Nat} {ts : List Th}, ts.Pairwise (fun a b => a.name.cps.toList < b.name.cps.toList) → (permsN n ts).Pairwise ltO
  | n, [], _ => by cases n <;> (unfold permsN; exact List.pairwise_singleton _ _)
  | 0, t :: ts, _ => by unfold permsN; exact .nil
  | n + 1, t :: ts, h => by
    unfold permsN
    rw [List.pairwise_flatMap]
    refine ⟨fun x hx => ?_, ?_⟩
    · rw [List.pairwise_map]
      refine (perms_up (n := n) (h.filter _)).imp fun {a b} hab => ?_
      show (decide (x.name.cps.toList < x.name.cps.toList) || (!decide (x.name.cps.toList < x.name.cps.toList) && ltSS (names a) (names b))) = true
      rw [decide_eq_false (List.lt_irrefl _)]
      exact hab
    · refine h.imp fun {x y} hxy a ha b hb => ?_
      obtain ⟨a', _, rfl⟩ := List.mem_map.mp ha
      obtain ⟨b', _, rfl⟩ := List.mem_map.mp hb
      show (decide (x.name.cps.toList < y.name.cps.toList) || _) = true
      rw [decide_eq_true hxy]
      rfl
def thS (H : Hs) : List Th := H.things.mergeSort fun a b => leS a.name b.name
theorem thS_perm (H : Hs) : (thS H).Perm H.things := List.mergeSort_perm _ _
theorem thS_le (H : Hs) : (thS H).Pairwise fun a b => leS a.name b.name = true := List.pairwise_mergeSort (le := fun a b : Th => leS a.name b.name) (fun a b c h1 h2 => leS_trans a.name b.name c.name h1 h2) (fun a b => leS_total a.name b.name) H.things
theorem thS_nd {H : Hs} (ok : H.Ok) : (names (thS H)).Nodup := (((thS_perm H).map _).nodup_iff).mpr ok.nd
theorem thS_up {H : Hs} (ok : H.Ok) : (thS H).Pairwise fun a b => a.name.cps.toList < b.name.cps.toList := by
  have h1 := thS_le H
  have h2 := thS_nd ok
  unfold names at h2
  rw [List.Nodup, List.pairwise_map] at h2
  refine (h1.and h2).imp fun {a b} ⟨x, y⟩ => ?_
  rw [leS_iff] at x
  refine List.not_le.mp fun z => y ?_
  have e := List.le_antisymm x z
  cases ha : a.name; cases hb : b.name
  rw [ha, hb] at e
  congr 1
  exact Array.ext' e
def ordersS (H : Hs) : List (List Th) := permsN 7 (thS H)
theorem mem_orders {H : Hs} (ok : H.Ok) {o : List Th} : o ∈ ordersS H ↔ IsO H o := by
  have l : (thS H).length ≤ 7 := by rw [(thS_perm H).length_eq]; have := ok.hi; omega
  unfold ordersS
  rw [mem_perms l (thS_nd ok)]
  exact ⟨fun h => ⟨h.trans (thS_perm H)⟩, fun h => h.pm.trans (thS_perm H).symm⟩
theorem orders_up {H : Hs} (ok : H.Ok) : (ordersS H).Pairwise ltO := perms_up (thS_up ok)
theorem okey_ltO {a b : List Th} (h : ltO a b) : okey a ≠ okey b := fun e => by
  have : names a = names b := by
    unfold okey at e
    have e2 : (a.map fun t => NestedKey.text t.name) = b.map fun t => NestedKey.text t.name := by
      injection e
    have e3 := congrArg (List.map fun k => match k with
      | NestedKey.text x => x
      | _ => ("" : Str)) e2
    rw [List.map_map, List.map_map] at e3
    exact e3
  rw [ltO, this, ltSS_irrefl] at h
  cases h
theorem orders_keys {H : Hs} (ok : H.Ok) : ((ordersS H).map okey).Nodup := by
  rw [List.Nodup, List.pairwise_map]
  exact (orders_up ok).imp fun h => okey_ltO h
theorem perms_len : ∀ (n : Nat) (ts : List Th), (names ts).Nodup → ts.length ≤ n → (permsN n ts).length ≤ n ^ n
  | n, [], _, _ => by
    cases n with
    | zero => unfold permsN; simp
    | succ n => unfold permsN; exact Nat.pow_pos (by omega)
  | 0, t :: ts, _, h => by simp at h
  | n + 1, t :: ts, nd, h => by
    unfold permsN
    have : ∀ (xs : List Th), (∀ x ∈ xs, x ∈ t :: ts) → (xs.flatMap fun x => (permsN n ((t :: ts).filter fun y => decide (y.name ≠ x.name))).map (x :: ·)).length ≤ xs.length * n ^ n := by
      intro xs
      induction xs with
      | nil => intro _; simp
      | cons x xs ih =>
        intro hx
        have l := len_out nd (hx x List.mem_cons_self)
        have h1 := perms_len n _ (nodup_out nd fun y => decide (y.name ≠ x.name)) (by omega)
        have h2 := ih fun y hy => hx y (List.mem_cons_of_mem _ hy)
        rw [List.flatMap_cons, List.length_append, List.length_map, List.length_cons, Nat.succ_mul]
        omega
    have h3 := this (t :: ts) fun _ z => z
    have h4 : (t :: ts).length * n ^ n ≤ (n + 1) * (n + 1) ^ n := Nat.mul_le_mul h (Nat.pow_le_pow_left (by omega) n)
    have h5 : (n + 1) * (n + 1) ^ n = (n + 1) ^ (n + 1) := by rw [Nat.pow_succ, Nat.mul_comm]
    omega
end Ws
set_option Elab.async false
set_option linter.all false
set_option maxRecDepth 100000
set_option autoImplicit false
namespace Ws
open PySem
theorem eq_nil {xs : List D} (h : AH) (hf : ∀ d ∈ xs, fit 63 d = true) : gEqD (.lst xs) (.lst []) h = .ok (.bl xs.isEmpty) h := by
  have := o_neNil h hf
  unfold gNot at this
  cases e : gEqD (.lst xs) (.lst []) h with
  | ok d h' =>
    rw [e] at this
    cases d with
    | bl b =>
      cases b <;> cases xs <;> simp_all [isBl]
    | _ => simp_all [isBl]
  | exc => rw [e] at this; simp_all
  | bad => rw [e] at this; simp_all
def insAll (x : Th) (l : List Th) : List (List Th) := (List.range (l.length + 1)).map fun k => (l.take k ++ [x]) ++ l.drop k
theorem mem_ins {x : Th} {l o : List Th} : o ∈ insAll x l ↔ ∃ a b, o = a ++ x :: b ∧ l = a ++ b := by
  unfold insAll
  rw [List.mem_map]
  constructor
  · rintro ⟨k, _, rfl⟩
    exact ⟨l.take k, l.drop k, by simp, (List.take_append_drop _ _).symm⟩
  · rintro ⟨a, b, rfl, rfl⟩
    exact ⟨a.length, by simp; omega, by simp⟩
end Ws
set_option Elab.async false
set_option linter.all false
set_option maxRecDepth 100000
set_option autoImplicit false
namespace Ws
open PySem
def aft (H : Hs) (o : List Th) (c : Nat) : List Th := (roundS H o c).1
def idxO (o : List Th) (t : Th) : Nat := (names o).idxOf t.name
def nearB (o : List Th) (t : Th) (p : Nat) : Bool := decide (idxO o t ≤ p)
def heldA (H : Hs) (t : Th) (p : Nat) (K : List Th → Bool) (a : List Th) : Bool := nearB a t p && (wishesS H).all fun c => K (aft H a c)
def heldB (H : Hs) (t : Th) (p : Nat) (K : List Th → Bool) (o : List Th) : Bool := (wishesS H).any fun c => heldA H t p K (aft H o c)
def PostF (H : Hs) (t : Th) (p : Nat) (S : List Th → Bool) : Prop := ∀ o, IsO H o → S o = true → nearB o t p = true ∧ heldB H t p S o = true
theorem aft_isO {H : Hs} {o : List Th} (ho : IsO H o) (c : Nat) : IsO H (aft H o c) := by
  have := ran_isO (H := H) (cs := [c]) (s := (o, [])) ho
  exact this
theorem heldA_mono {H : Hs} {t : Th} {p q : Nat} {K S : List Th → Bool} (hpq : p ≤ q) (hs : ∀ o, IsO H o → S o = true → K o = true) {a : List Th} (ha : IsO H a) (h : heldA H t p S a = true) : heldA H t q K a = true := by
  unfold heldA at h ⊢
  rw [Bool.and_eq_true, List.all_eq_true] at h ⊢
  refine ⟨?_, fun c hc => hs _ (aft_isO ha c) (h.2 c hc)⟩
  have := h.1
  unfold nearB at this ⊢
  rw [decide_eq_true_eq] at this ⊢
  omega
theorem heldB_mono {H : Hs} {t : Th} {p q : Nat} {K S : List Th → Bool} (hpq : p ≤ q) (hs : ∀ o, IsO H o → S o = true → K o = true) {o : List Th} (ho : IsO H o) (h : heldB H t p S o = true) : heldB H t q K o = true := by
  unfold heldB at h ⊢
  rw [List.any_eq_true] at h ⊢
  obtain ⟨c, hc, h⟩ := h
  exact ⟨c, hc, heldA_mono hpq hs (aft_isO ho c) h⟩
abbrev Rk' := List (List Th × Int)
structure KInv (H : Hs) (t : Th) (p : Nat) (K : List Th → Bool) (rs : Rk') (rank : Int) : Prop where
  near : ∀ o, IsO H o → K o = true → nearB o t p = true
  keys : (rs.map fun q => okey q.1).Nodup
  isO : ∀ q ∈ rs, IsO H q.1
  part : ∀ o, IsO H o → (K o = false ↔ ∃ r, (o, r) ∈ rs)
  lo : ∀ q ∈ rs, 0 ≤ q.2 ∧ q.2 ≤ rank
  zero : ∀ q ∈ rs, q.2 = 0 ↔ nearB q.1 t p = false
  pos : ∀ q ∈ rs, 0 < q.2 → ∀ c ∈ wishesS H, nearB (aft H q.1 c) t p = true → ∃ c2 ∈ wishesS H, ∃ r', r' < q.2 ∧ (aft H (aft H q.1 c) c2, r') ∈ rs
  top : ∀ S : List Th → Bool, PostF H t p S → ∀ o, IsO H o → S o = true → K o = true
  up : 0 ≤ rank
def ranks0 (H : Hs) (t : Th) (p : Nat) : Rk' := ((ordersS H).filter fun o => !nearB o t p).map fun o => (o, 0)
def fallen (H : Hs) (t : Th) (p : Nat) (K : List Th → Bool) : List (List Th) := (ordersS H).filter fun o => K o && !heldB H t p K o
theorem keys_filter {H : Hs} (ok : H.Ok) (P : List Th → Bool) : (((ordersS H).filter P).map okey).Nodup := (orders_keys ok).sublist ((List.filter_sublist).map _)
theorem KInv.init {H : Hs} (ok : H.Ok) (t : Th) (p : Nat) : KInv H t p (fun o => nearB o t p) (ranks0 H t p) 0 where
  near := fun _ _ h => h
  keys := by
    unfold ranks0
    rw [List.map_map]
    exact keys_filter ok _
  isO := fun q hq => by
    obtain ⟨o, ho, rfl⟩ := List.mem_map.mp hq
    exact (mem_orders ok).mp (List.mem_filter.mp ho).1
  part := fun o ho => by
    unfold ranks0
    constructor
    · intro h
      exact ⟨0, List.mem_map.mpr ⟨o, List.mem_filter.mpr ⟨(mem_orders ok).mpr ho, by rw [h]; rfl⟩, rfl⟩⟩
    · rintro ⟨r, h⟩
      obtain ⟨o', ho', e⟩ := List.mem_map.mp h
      cases e
      simpa using (List.mem_filter.mp ho').2
  lo := fun q hq => by
    obtain ⟨o, _, rfl⟩ := List.mem_map.mp hq
    exact ⟨Int.le_refl _, Int.le_refl _⟩
  zero := fun q hq => by
    obtain ⟨o, ho, rfl⟩ := List.mem_map.mp hq
    exact ⟨fun _ => by simpa using (List.mem_filter.mp ho).2, fun _ => rfl⟩
  pos := fun q hq h => by
    obtain ⟨o, _, rfl⟩ := List.mem_map.mp hq
    exact absurd h (Int.lt_irrefl _)
  top := fun S hS o ho h => (hS o ho h).1
  up := Int.le_refl _
theorem KInv.step {H : Hs} (ok : H.Ok) {t : Th} {p : Nat} {K : List Th → Bool} {rs : Rk'} {rank : Int} (I : KInv H t p K rs rank) : KInv H t p (fun o => K o && heldB H t p K o) (rs ++ (fallen H t p K).map fun o => (o, rank + 1)) (rank + 1) where
  near := fun o ho h => I.near o ho (Bool.and_eq_true_iff.mp h).1
  keys := by
    rw [List.map_append, List.nodup_append]
    refine ⟨I.keys, by rw [List.map_map]; exact keys_filter ok _, fun a ha b hb e => ?_⟩
    obtain ⟨q, hq, rfl⟩ := List.mem_map.mp ha
    obtain ⟨q2, hq2, rfl⟩ := List.mem_map.mp hb
    obtain ⟨o, ho, rfl⟩ := List.mem_map.mp hq2
    obtain ⟨h1, h2⟩ := List.mem_filter.mp ho
    have io := (mem_orders ok).mp h1
    have eo : q.1 = o := okey_inj ok (I.isO q hq) io e
    have := (I.part o io).mpr ⟨q.2, by rw [← eo]; exact hq⟩
    rw [this] at h2
    cases h2
  isO := fun q hq => by
    rcases List.mem_append.mp hq with h | h
    · exact I.isO q h
    · obtain ⟨o, ho, rfl⟩ := List.mem_map.mp h
      exact (mem_orders ok).mp (List.mem_filter.mp ho).1
  part := fun o ho => by
    constructor
    · intro h
      cases hk : K o with
      | false =>
        obtain ⟨r, hr⟩ := (I.part o ho).mp hk
        exact ⟨r, List.mem_append_left _ hr⟩
      | true =>
        rw [hk, Bool.true_and] at h
        exact ⟨rank + 1, List.mem_append_right _ (List.mem_map.mpr ⟨o, List.mem_filter.mpr ⟨(mem_orders ok).mpr ho, by rw [hk, h]; rfl⟩, rfl⟩)⟩
    · rintro ⟨r, h⟩
      rcases List.mem_append.mp h with h | h
      · rw [(I.part o ho).mpr ⟨r, h⟩]; rfl
      · obtain ⟨o', ho', e⟩ := List.mem_map.mp h
        cases e
        have := (Bool.and_eq_true_iff.mp (List.mem_filter.mp ho').2).2
        rw [Bool.not_eq_true'] at this
        rw [this, Bool.and_false]
  lo := fun q hq => by
    rcases List.mem_append.mp hq with h | h
    · have := I.lo q h; omega
    · obtain ⟨o, _, rfl⟩ := List.mem_map.mp h
      have := I.up
      exact ⟨by show 0 ≤ rank + 1; omega, Int.le_refl _⟩
  zero := fun q hq => by
    rcases List.mem_append.mp hq with h | h
    · exact I.zero q h
    · obtain ⟨o, ho, rfl⟩ := List.mem_map.mp h
      obtain ⟨h1, h2⟩ := List.mem_filter.mp ho
      have nr := I.near o ((mem_orders ok).mp h1) (Bool.and_eq_true_iff.mp h2).1
      have := I.up
      constructor
      · intro z
        have : rank + 1 = 0 := z
        omega
      · intro z
        have z : nearB o t p = false := z
        rw [nr] at z
        cases z
  pos := fun q hq hp c hc hn => by
    rcases List.mem_append.mp hq with h | h
    · obtain ⟨c2, hc2, r', h1, h2⟩ := I.pos q h hp c hc hn
      exact ⟨c2, hc2, r', h1, List.mem_append_left _ h2⟩
    · obtain ⟨o, ho, rfl⟩ := List.mem_map.mp h
      obtain ⟨h1, h2⟩ := List.mem_filter.mp ho
      have io := (mem_orders ok).mp h1
      have nh := (Bool.and_eq_true_iff.mp h2).2
      rw [Bool.not_eq_true'] at nh
      unfold heldB at nh
      rw [List.any_eq_false] at nh
      have := nh c hc
      unfold heldA at this
      rw [hn, Bool.true_and, List.all_eq_true] at this
      have ⟨c2, hc2, hk⟩ : ∃ c2, c2 ∈ wishesS H ∧ K (aft H (aft H o c) c2) = false := by
        apply Classical.byContradiction
        intro z
        apply this
        intro c2 hc2
        cases hk : K (aft H (aft H o c) c2) with
        | true => rfl
        | false => exact absurd ⟨c2, hc2, hk⟩ z
      obtain ⟨r, hr⟩ := (I.part _ (aft_isO (aft_isO io c) c2)).mp hk
      exact ⟨c2, hc2, r, by have := (I.lo _ hr).2; show r < rank + 1; have : r ≤ rank := this; omega, List.mem_append_left _ hr⟩
  top := fun S hS o ho h => by
    have h1 := I.top S hS o ho h
    rw [h1, Bool.true_and]
    exact heldB_mono (Nat.le_refl _) (fun a ha z => I.top S hS a ha z) ho (hS o ho h).2
  up := by have := I.up; omega
/-- what a helper can keep: the greatest such set -/
structure KeptO (H : Hs) (t : Th) (p : Nat) (K : List Th → Bool) : Prop where
  fix : ∀ o, IsO H o → (K o = true ↔ nearB o t p = true ∧ heldB H t p K o = true)
  top : ∀ S : List Th → Bool, PostF H t p S → ∀ o, IsO H o → S o = true → K o = true
theorem KInv.kept {H : Hs} {t : Th} {p : Nat} {K : List Th → Bool} {rs : Rk'} {rank : Int} (I : KInv H t p K rs rank) (h : ∀ o, IsO H o → K o = true → heldB H t p K o = true) : KeptO H t p K where
  fix := fun o ho => by
    refine ⟨fun hk => ⟨I.near o ho hk, h o ho hk⟩, fun ⟨h1, h2⟩ => ?_⟩
    have hp : PostF H t p (fun o => K o || (nearB o t p && heldB H t p K o)) := fun a ha z => by
      have mono : ∀ b, IsO H b → K b = true → (fun o => K o || (nearB o t p && heldB H t p K o)) b = true := fun b _ hb => by dsimp only; rw [hb]; rfl
      dsimp only at z
      rw [Bool.or_eq_true, Bool.and_eq_true] at z
      rcases z with z | ⟨z1, z2⟩
      · exact ⟨I.near a ha z, heldB_mono (Nat.le_refl _) mono ha (h a ha z)⟩
      · exact ⟨z1, heldB_mono (Nat.le_refl _) mono ha z2⟩
    exact I.top _ hp o ho (by rw [h1, h2, Bool.or_comm]; rfl)
  top := I.top
theorem KeptO.mono {H : Hs} {t : Th} {p q : Nat} {K L : List Th → Bool} (hpq : p ≤ q) (hK : KeptO H t p K) (hL : KeptO H t q L) {o : List Th} (ho : IsO H o) (h : K o = true) : L o = true :=
  hL.top K (fun a ha z => by
    obtain ⟨z1, z2⟩ := (hK.fix a ha).mp z
    refine ⟨?_, heldB_mono hpq (fun _ _ z => z) ha z2⟩
    unfold nearB at z1 ⊢
    rw [decide_eq_true_eq] at z1 ⊢
    omega) o ho h
theorem KeptO.eq {H : Hs} {t : Th} {p : Nat} {K L : List Th → Bool} (hK : KeptO H t p K) (hL : KeptO H t p L) {o : List Th} (ho : IsO H o) : K o = L o := by
  have h1 := hK.mono (Nat.le_refl _) hL ho
  have h2 := hL.mono (Nat.le_refl _) hK ho
  cases hk : K o <;> cases hl : L o <;> simp_all
end Ws
set_option Elab.async false
set_option linter.all false
set_option maxRecDepth 100000
set_option autoImplicit false
namespace Ws
open PySem
theorem min_ex {xs : List Int} (h : xs ≠ []) : ∃ m, xs.min? = some m ∧ ∀ p, m ≤ p ↔ ∃ x ∈ xs, x ≤ p := by
  cases e : xs.min? with
  | none => exact absurd (List.min?_eq_none_iff.mp e) h
  | some m =>
    refine ⟨m, rfl, fun p => ⟨fun hp => ⟨m, List.min?_mem e, hp⟩, ?_⟩⟩
    rintro ⟨x, hx, hp⟩
    have := (List.le_min?_iff e).mp (Int.le_refl m) x hx
    omega
end Ws
set_option Elab.async false
set_option linter.all false
set_option maxRecDepth 100000
set_option autoImplicit false
namespace Ws
open PySem
theorem ords_len {H : Hs} (ok : H.Ok) : (ordersS H).length ≤ 823543 := by
  have := perms_len 7 (thS H) (thS_nd ok) (by rw [(thS_perm H).length_eq]; have := ok.hi; omega)
  have e7 : (7 : Nat) ^ 7 = 823543 := by decide
  unfold ordersS
  omega
theorem nodup_len {α : Type} : ∀ {l m : List α}, l.Nodup → (∀ x ∈ l, x ∈ m) → l.length ≤ m.length
  | [], _, _, _ => Nat.zero_le _
  | x :: l, m, nd, sub => by
    obtain ⟨a, b, rfl⟩ := List.append_of_mem (sub x List.mem_cons_self)
    rw [List.nodup_cons] at nd
    have := nodup_len (m := a ++ b) nd.2 fun y hy => by
      have := sub y (List.mem_cons_of_mem _ hy)
      rw [List.mem_append, List.mem_cons] at this
      rw [List.mem_append]
      rcases this with z | z | z
      · exact .inl z
      · subst z; exact absurd hy nd.1
      · exact .inr z
    simp only [List.length_append, List.length_cons] at this ⊢
    omega
end Ws
set_option Elab.async false
set_option linter.all false
set_option maxRecDepth 100000
set_option autoImplicit false
namespace Ws
open PySem
theorem ints_of : ∀ ns : List Int, intsOf (ns.map .int) = some ns
  | [] => rfl
  | n :: ns => by
    show (intsOf (ns.map .int)).map (n :: ·) = _
    rw [ints_of ns]; rfl
theorem o_min1 {ns : List Int} {m : Int} (e : ns.min? = some m) (h : AH) : gMin1 [.lst (ns.map .int)] h = .ok (.int m) h := by
  unfold gMin1 gNums
  dsimp only [lstOf]
  rw [Option.bind_some, ints_of]
  dsimp only
  rw [e]
theorem o_catL (xs ys : List D) (h : AH) (hl : xs.length + ys.length ≤ 1000000) : gAdd (.lst xs) (.lst ys) h = .ok (.lst (xs ++ ys)) h := by
  unfold gAdd
  dsimp only [lstOf]
  rw [if_pos (show xs.length + ys.length ≤ lim from hl)]
end Ws
set_option Elab.async false
set_option linter.all false
set_option maxRecDepth 100000
set_option maxHeartbeats 2000000
set_option autoImplicit false
namespace Ws
open PySem PySem.Spec PyProof.Rows L2
def dropN (ps : NP) (k : NK) : NP := ps.filter fun p => decide (p.1 ≠ k)
def dropDT (kvs : List (D × D)) (k : NK) : List (D × D) := kvs.filter fun p => decide (nkOf p.1 ≠ some k)
theorem Rt.drop {C : Cf} {F : Hp} {ρ : Rho} (k : NK) : ∀ {kvs : List (D × D)} {ps : NP}, Rt C F ρ kvs ps → Rt C F ρ (dropDT kvs k) (dropN ps k)
  | [], ps, h => by unfold Rt at h; subst h; unfold dropDT dropN Rt; rfl
  | (x, d) :: r, ps, h => by
    unfold Rt at h
    obtain ⟨key, b, v, t, rfl, ek, ed, rk, rd, rr⟩ := h
    have ih := Rt.drop k rr
    unfold dropDT dropN at *
    rw [List.filter_cons, List.filter_cons]
    by_cases q : key = k
    · rw [if_neg (by simp [ek, q]), if_neg (by simp [q])]
      exact ih
    · rw [if_pos (by simp [ek, q]), if_pos (by simp [q])]
      unfold Rt
      exact ⟨key, b, v, _, rfl, ek, ed, rk, rd, ih⟩
end Ws
set_option Elab.async false
set_option linter.all false
set_option maxRecDepth 100000
set_option maxHeartbeats 2000000
set_option autoImplicit false
namespace Ws
open PySem PySem.Spec PyProof.Rows L2
end Ws
set_option Elab.async false
set_option linter.all false
set_option maxRecDepth 100000
set_option autoImplicit false
namespace Ws
open PySem
theorem idx_nd : ∀ {l : List Str} {i : Nat}, l.Nodup → (hi : i < l.length) → l.idxOf l[i] = i
  | x :: l, 0, _, _ => by simp
  | x :: l, i + 1, nd, hi => by
    rw [List.nodup_cons] at nd
    simp only [List.length_cons] at hi
    have hi' : i < l.length := by omega
    rw [List.getElem_cons_succ, List.idxOf_cons, show (x == l[i]) = false from beq_false_of_ne fun e => nd.1 (e ▸ List.getElem_mem hi')]
    show l.idxOf l[i] + 1 = i + 1
    rw [idx_nd nd.2 hi']
theorem idx_at {b : List Th} (nd : (b.map (·.name)).Nodup) {i : Nat} (hi : i < b.length) : idxO b (b.getD i dft) = i := by
  unfold idxO names
  have := idx_nd (l := b.map (·.name)) (i := i) nd (by simpa using hi)
  rw [List.getElem_map] at this
  rw [List.getD_eq_getElem?_getD, List.getElem?_eq_getElem hi]
  exact this
def crossI (a b : List Th) (i : Nat) : Nat := ((a.drop (i + 1)).filter fun y => decide (idxO b y < idxO b (a.getD i dft))).length
def crossV (a b : List Th) : Int := ((List.range a.length).map fun i => (crossI a b i : Int)).sum
end Ws
set_option Elab.async false
set_option linter.all false
set_option maxRecDepth 100000
set_option maxHeartbeats 2000000
set_option autoImplicit false
namespace Ws
open PySem
def invN : List Nat → Nat
  | [] => 0
  | x :: xs => (xs.filter fun y => decide (y < x)).length + invN xs
theorem invN_swap (x y : Nat) (B : List Nat) : ∀ A : List Nat, invN (A ++ x :: y :: B) + (if x < y then 1 else 0) = invN (A ++ y :: x :: B) + (if y < x then 1 else 0)
  | [] => by
    simp only [List.nil_append, invN, List.filter_cons]
    by_cases h1 : x < y <;> by_cases h2 : y < x <;> simp [h1, h2] <;> omega
  | a :: A => by
    have ih := invN_swap x y B A
    have e : ((A ++ x :: y :: B).filter fun z => decide (z < a)).length = ((A ++ y :: x :: B).filter fun z => decide (z < a)).length :=
      ((List.Perm.append_left A (List.Perm.swap y x B)).filter _).length_eq
    simp only [List.cons_append, invN]
    omega
theorem inv_rises {l : List Nat} (h : l.Pairwise (· ≤ ·)) : invN l = 0 := by
  induction l with
  | nil => rfl
  | cons x l ih =>
    rw [List.pairwise_cons] at h
    unfold invN
    rw [ih h.2, List.filter_eq_nil_iff.mpr (fun y hy => by have := h.1 y hy; simp; omega)]
    rfl
theorem cross_inv (b : List Th) : ∀ a : List Th, crossV a b = (invN (a.map (idxO b)) : Nat)
  | [] => rfl
  | t :: a => by
    have ih := cross_inv b a
    unfold crossV at ih ⊢
    rw [List.length_cons, List.range_succ_eq_map, List.map_cons, List.sum_cons, List.map_map]
    have e : ((fun i => ((crossI (t :: a) b i : Nat) : Int)) ∘ Nat.succ) = fun i => ((crossI a b i : Nat) : Int) := by
      funext i
      rfl
    rw [e, ih, List.map_cons]
    show _ = ((((a.map (idxO b)).filter fun y => decide (y < idxO b t)).length + invN (a.map (idxO b)) : Nat) : Int)
    have e0 : crossI (t :: a) b 0 = ((a.map (idxO b)).filter fun y => decide (y < idxO b t)).length := by
      rw [List.filter_map, List.length_map]
      rfl
    rw [e0]
    omega
theorem cross_exch {a : List Th} (b : List Th) {i : Nat} (hi : i + 1 < a.length) :
    crossV a b + (if idxO b (a.getD i dft) < idxO b (a.getD (i + 1) dft) then 1 else 0) = crossV (exch dft a i) b + (if idxO b (a.getD (i + 1) dft) < idxO b (a.getD i dft) then 1 else 0) := by
  have h := invN_swap (idxO b (a.getD i dft)) (idxO b (a.getD (i + 1) dft)) ((a.drop (i + 2)).map (idxO b)) ((a.take i).map (idxO b))
  have e1 : a.map (idxO b) = (a.take i).map (idxO b) ++ idxO b (a.getD i dft) :: idxO b (a.getD (i + 1) dft) :: (a.drop (i + 2)).map (idxO b) := by
    conv => lhs; rw [exch_eq (d := dft) hi]
    rw [List.map_append, List.map_append, List.append_assoc]
    rfl
  have e2 : (exch dft a i).map (idxO b) = (a.take i).map (idxO b) ++ idxO b (a.getD (i + 1) dft) :: idxO b (a.getD i dft) :: (a.drop (i + 2)).map (idxO b) := by
    unfold exch
    rw [List.map_append, List.map_append, List.append_assoc]
    rfl
  rw [cross_inv, cross_inv, e1, e2]
  by_cases p : idxO b (a.getD i dft) < idxO b (a.getD (i + 1) dft)
  · have q : ¬ idxO b (a.getD (i + 1) dft) < idxO b (a.getD i dft) := by omega
    rw [if_pos p, if_neg q] at h ⊢
    omega
  · by_cases q : idxO b (a.getD (i + 1) dft) < idxO b (a.getD i dft)
    · rw [if_neg p, if_pos q] at h ⊢
      omega
    · rw [if_neg p, if_neg q] at h ⊢
      omega
theorem cross_lip {a : List Th} (b : List Th) {i : Nat} (hi : i + 1 < a.length) : crossV a b ≤ crossV (exch dft a i) b + 1 ∧ crossV (exch dft a i) b ≤ crossV a b + 1 := by
  have := cross_exch b hi
  constructor <;> (split at this <;> split at this <;> omega)
theorem idx_list {H : Hs} (ok : H.Ok) {b : List Th} (hb : IsO H b) : b.map (idxO b) = List.range b.length := by
  have nd : (b.map (·.name)).Nodup := ((hb.pm.map _).nodup_iff).mpr ok.nd
  apply List.ext_getElem
  · simp
  · intro i h1 h2
    have hi : i < b.length := by simpa using h2
    rw [List.getElem_map, List.getElem_range]
    have := idx_at nd hi
    rwa [List.getD_eq_getElem?_getD, List.getElem?_eq_getElem hi] at this
theorem cross_self {H : Hs} (ok : H.Ok) {b : List Th} (hb : IsO H b) : crossV b b = 0 := by
  rw [cross_inv, idx_list ok hb, inv_rises (List.pairwise_lt_range.imp fun h => Nat.le_of_lt h)]
  rfl
theorem exch_isO {H : Hs} {o : List Th} (ho : IsO H o) {i : Nat} (hi : i + 1 < o.length) : IsO H (exch dft o i) := ⟨(exch_perm hi).trans ho.pm⟩
def minO (H : Hs) (f : List Th → Int) : Int := (((ordersS H).map f).min?).getD 0
theorem orders_ne {H : Hs} (ok : H.Ok) : ordersS H ≠ [] := fun e => by
  have : H.things ∈ ordersS H := (mem_orders ok).mpr ⟨.refl _⟩
  rw [e] at this; cases this
theorem minO_le {H : Hs} (ok : H.Ok) (f : List Th → Int) {p : List Th} (hp : IsO H p) : minO H f ≤ f p := by
  obtain ⟨m, e, h⟩ := min_ex (xs := (ordersS H).map f) (by simpa using orders_ne ok)
  unfold minO
  rw [e]
  exact (h (f p)).mpr ⟨f p, List.mem_map_of_mem ((mem_orders ok).mpr hp), Int.le_refl _⟩
theorem minO_at {H : Hs} (ok : H.Ok) (f : List Th → Int) : ∃ p, IsO H p ∧ minO H f = f p := by
  obtain ⟨m, e, h⟩ := min_ex (xs := (ordersS H).map f) (by simpa using orders_ne ok)
  obtain ⟨x, hx, hl⟩ := (h m).mp (Int.le_refl _)
  obtain ⟨p, hp, rfl⟩ := List.mem_map.mp hx
  have hp := (mem_orders ok).mp hp
  refine ⟨p, hp, Int.le_antisymm (minO_le ok f hp) ?_⟩
  unfold minO
  rw [e]
  exact hl
def sprS (H : Hs) (pr : Int) (f : List Th → Int) (o : List Th) : Int := minO H fun p => pr * crossV o p + f p
theorem spr_le {H : Hs} (ok : H.Ok) {pr : Int} {f : List Th → Int} {o p : List Th} (hp : IsO H p) : sprS H pr f o ≤ pr * crossV o p + f p := minO_le ok (fun p => pr * crossV o p + f p) hp
theorem spr_at {H : Hs} (ok : H.Ok) (pr : Int) (f : List Th → Int) (o : List Th) : ∃ p, IsO H p ∧ sprS H pr f o = pr * crossV o p + f p := minO_at ok (fun p => pr * crossV o p + f p)
theorem spr_self {H : Hs} (ok : H.Ok) {pr : Int} {f : List Th → Int} {o : List Th} (ho : IsO H o) : sprS H pr f o ≤ f o := by
  have := spr_le ok (pr := pr) (f := f) (o := o) ho
  rw [cross_self ok ho] at this
  simpa using this
theorem spr_lip {H : Hs} (ok : H.Ok) {pr : Int} (h0 : 0 ≤ pr) {f : List Th → Int} {o : List Th} {i : Nat} (hi : i + 1 < o.length) : sprS H pr f o ≤ sprS H pr f (exch dft o i) + pr := by
  obtain ⟨p, hp, e⟩ := spr_at ok pr f (exch dft o i)
  have h1 := spr_le ok (pr := pr) (f := f) (o := o) hp
  have h2 := Int.mul_le_mul_of_nonneg_left (cross_lip p hi).1 h0
  rw [Int.mul_add, Int.mul_one] at h2
  omega
inductive Way (H : Hs) (pr : Int) (here stay : List Th → Int) : List Th → List Th → Prop where
  | end_ {o : List Th} : here o = stay o → Way H pr here stay o o
  | step {o q p : List Th} : here o ≠ stay o → (∃ i, i + 1 < o.length ∧ q = exch dft o i) → here q + pr = here o → Way H pr here stay q p → Way H pr here stay o p
theorem Way.isO {H : Hs} {pr : Int} {here stay : List Th → Int} {o p : List Th} (w : Way H pr here stay o p) : IsO H o → IsO H p := by
  induction w with
  | end_ _ => exact id
  | step _ hi _ _ ih =>
    obtain ⟨i, h1, rfl⟩ := hi
    exact fun ho => ih (exch_isO ho h1)
end Ws
set_option Elab.async false
set_option linter.all false
set_option maxRecDepth 100000
set_option maxHeartbeats 2000000
set_option autoImplicit false
namespace Ws
open PySem
abbrev WT := List Th → Int
def updT (f : WT) (o : List Th) (v : Int) : WT := fun x => if names x = names o then v else f x
theorem names_eq {H : Hs} (ok : H.Ok) {a b : List Th} (ha : IsO H a) (hb : IsO H b) (e : names a = names b) : a = b := names_inj ok (fun t ht => ha.mem ht) (fun t ht => hb.mem ht) e
def nbS (o : List Th) : List (List Th) := (List.range (o.length - 1)).map fun i => exch dft o i
def mnS (pr : Int) (f : WT) (o : List Th) : Int := (match ((nbS o).map f).min? with
  | some m => m
  | none => f o) + pr
theorem mn_ge {pr : Int} {f : WT} {o : List Th} {b : Int} (h0 : b ≤ f o + pr) (h : ∀ i, i + 1 < o.length → b ≤ f (exch dft o i) + pr) : b ≤ mnS pr f o := by
  unfold mnS
  cases e : ((nbS o).map f).min? with
  | none => exact h0
  | some m =>
    have hm := (List.min?_eq_some_iff.mp e).1
    obtain ⟨q, hq, rfl⟩ := List.mem_map.mp hm
    obtain ⟨i, hi, rfl⟩ := List.mem_map.mp hq
    exact h i (by have := List.mem_range.mp hi; omega)
def relS (pr : Int) (s : WT × Bool) (o : List Th) : WT × Bool := if mnS pr s.1 o < s.1 o then (updT s.1 o (mnS pr s.1 o), true) else s
structure RInv (H : Hs) (pr : Int) (f0 f : WT) : Prop where
  lo : ∀ o, IsO H o → sprS H pr f0 o ≤ f o
  hi : ∀ o, IsO H o → f o ≤ f0 o
theorem RInv.init {H : Hs} (ok : H.Ok) (pr : Int) (f0 : WT) : RInv H pr f0 f0 := ⟨fun o ho => spr_self ok ho, fun _ _ => Int.le_refl _⟩
theorem RInv.rel {H : Hs} (ok : H.Ok) {pr : Int} (h0 : 0 ≤ pr) {f0 : WT} {s : WT × Bool} (I : RInv H pr f0 s.1) {o : List Th} (ho : IsO H o) : RInv H pr f0 (relS pr s o).1 := by
  unfold relS
  split
  · rename_i hlt
    refine ⟨fun x hx => ?_, fun x hx => ?_⟩
    · show _ ≤ updT s.1 o (mnS pr s.1 o) x
      unfold updT
      split
      · rename_i e
        have e := names_eq ok hx ho e
        subst e
        refine mn_ge (by have := I.lo x ho; omega) fun i hi => ?_
        have h1 := spr_lip ok h0 (f := f0) hi
        have h2 := I.lo _ (exch_isO ho hi)
        omega
      · exact I.lo x hx
    · show updT s.1 o (mnS pr s.1 o) x ≤ _
      unfold updT
      split
      · rename_i e
        have e := names_eq ok hx ho e
        subst e
        have := I.hi x ho
        omega
      · exact I.hi x hx
  · exact I
end Ws
set_option Elab.async false
set_option linter.all false
set_option maxRecDepth 100000
set_option maxHeartbeats 2000000
set_option autoImplicit false
namespace Ws
open PySem PySem.Spec PyProof.Rows L2
mutual
def ldD (k : Nat → Option D) : D → D
  | .tup xs => .tup (ldDs k xs)
  | .rtp xs => .rtp (ldDs k xs)
  | .lst xs => .lst (ldDs k xs)
  | .dct kvs => .dct (ldK k kvs)
  | .dcT kvs => .dcT (ldK k kvs)
  | .ins c fs => .ins c (ldF k fs)
  | .cell m => (match k m with
    | some d => d
    | none => .cell m)
  | x => x
def ldDs (k : Nat → Option D) : List D → List D
  | [] => []
  | x :: xs => ldD k x :: ldDs k xs
def ldK (k : Nat → Option D) : List (D × D) → List (D × D)
  | [] => []
  | (y, x) :: xs => (y, ldD k x) :: ldK k xs
def ldF (k : Nat → Option D) : List (Str × D) → List (Str × D)
  | [] => []
  | (y, x) :: xs => (y, ldD k x) :: ldF k xs
end
/-- what cells of lists hold -/
def lk (h : AH) : Nat → Nat → Option D
  | 0, _ => none
  | f + 1, n => (match h.get n with
    | some (.lst xs) => some (.lst (ldDs (lk h f) xs))
    | _ => none)
end Ws
set_option Elab.async false
set_option linter.all false
set_option maxRecDepth 100000
set_option maxHeartbeats 1000000
set_option autoImplicit false
namespace Ws
open PySem PySem.Spec PyProof.Rows L2 RT
/-- reversed(z), the next place i -/
def IsRz (h : Heap) (a : Addr) (z : Str) (i : Int) : Prop := ∃ o u, h.get? a = some o ∧ o.cls = .type "reversed" ∧ o.data = .fields #[.str z u, rawInt i]
section
variable {prog : Program} {w : World} {A : Around} {E : Value → Shared → Prop} {s : Shared} {z : Str} {u : Tok} {a : Addr}
theorem IsRz.at {h h' : Heap} {i : Int} (x : IsRz h a z i) (e : ∀ o, h.get? a = some o → h'.get? a = some o) : IsRz h' a z i := let ⟨o, u, ho, r⟩ := x; ⟨o, u, e _ ho, r⟩
theorem IsRz.ty {i : Int} (x : IsRz s.heap a z i) : s.TypeIs (.ref a) "reversed" := let ⟨o, _, ho, hc, _⟩ := x; ⟨o, ho, hc⟩
end
end Ws
set_option Elab.async false
set_option linter.all false
set_option maxRecDepth 100000
set_option maxHeartbeats 2000000
set_option autoImplicit false
namespace Ws
open PySem
theorem at_cellL {h : AH} {n k : Nat} {xs : List D} {d : D} (e : h.get n = some (.lst xs)) (ek : xs[k]? = some d) : gAt (.cell n) (.int (k : Nat)) h = .ok d h := by
  have hk : k < xs.length := (List.getElem?_eq_some_iff.mp ek).1
  have := at_cell (f := id) (xs := xs) (i := (k : Nat)) (n := n) (k := k) (h := h) .non (by rw [List.map_id]; exact e) rfl hk
  rw [this, List.getD_eq_getElem?_getD, ek]
  rfl
end Ws
set_option Elab.async false
set_option linter.all false
set_option maxRecDepth 100000
set_option maxHeartbeats 2000000
set_option autoImplicit false
namespace Ws
open PySem
end Ws
set_option Elab.async false
set_option linter.all false
set_option maxRecDepth 100000
set_option maxHeartbeats 2000000
set_option autoImplicit false
namespace Ws
open PySem
end Ws
set_option Elab.async false
set_option linter.all false
set_option maxRecDepth 100000
set_option maxHeartbeats 2000000
set_option autoImplicit false
namespace Ws
open PySem
end Ws
set_option Elab.async false
set_option linter.all false
set_option maxRecDepth 100000
set_option maxHeartbeats 2000000
set_option autoImplicit false
namespace Ws
open PySem
end Ws
set_option Elab.async false
set_option linter.all false
set_option maxRecDepth 100000
set_option maxHeartbeats 2000000
set_option autoImplicit false
namespace Ws
open PySem PySem.Spec PyProof.Rows L2
end Ws
set_option Elab.async false
set_option linter.all false
set_option maxRecDepth 100000
set_option maxHeartbeats 2000000
set_option autoImplicit false
namespace Ws
open PySem
end Ws
set_option Elab.async false
set_option linter.all false
set_option maxRecDepth 100000
set_option maxHeartbeats 2000000
set_option autoImplicit false
namespace Ws
open PySem
end Ws
set_option Elab.async false
set_option linter.all false
set_option maxRecDepth 100000
set_option maxHeartbeats 2000000
set_option autoImplicit false
namespace Ws
open PySem PySem.Spec PyProof.Rows L2
open PySem.W (alike dataLt rcLt_alike)
end Ws
set_option Elab.async false
set_option linter.all false
set_option maxRecDepth 100000
set_option maxHeartbeats 2000000
set_option autoImplicit false
namespace Ws
open PySem PySem.Spec PyProof.Rows L2
end Ws
set_option Elab.async false
set_option linter.all false
set_option maxRecDepth 100000
set_option maxHeartbeats 2000000
set_option autoImplicit false
namespace Ws
open PySem PySem.Spec PyProof.Rows L2
abbrev Rw := List (List Th × List Nat)
def findR (rows : Rw) (o : List Th) : Option (List Th × List Nat) := rows.find? fun q => decide (okey q.1 = okey o)
def inR (rows : Rw) (o : List Th) : Bool := (findR rows o).isSome
def rowR (rows : Rw) (o : List Th) : List Nat := ((findR rows o).map (·.2)).getD []
theorem inR_iff {rows : Rw} {o : List Th} : inR rows o = true ↔ ∃ q ∈ rows, okey q.1 = okey o := by
  unfold inR findR
  rw [List.find?_isSome]
  simp
abbrev Bs := Rw × List (List Th)
def turnB (H : Hs) (o : List Th) (st : Bs) (c : Nat) : Bs := if inR st.1 (aft H o c) = true then st else (st.1 ++ [(aft H o c, rowR st.1 o ++ [c])], st.2 ++ [aft H o c])
/-- what holds while the search goes on; n: how many stood there ahead of the layer -/
structure BInv (H : Hs) (n : Nat) (st : Bs) : Prop where
  nd : (st.1.map fun q => okey q.1).Nodup
  io : ∀ q ∈ st.1, IsO H q.1
  sh : ∀ q ∈ st.1, q.2.length < st.1.length
  fo : ∀ a ∈ st.2, IsO H a ∧ inR st.1 a = true
  ln : st.1.length = n + st.2.length
theorem inR_app {rows : Rw} {o : List Th} (z : List Th × List Nat) (h : inR rows o = true) : inR (rows ++ [z]) o = true := by
  obtain ⟨q, hq, k⟩ := inR_iff.mp h
  exact inR_iff.mpr ⟨q, List.mem_append_left _ hq, k⟩
section
variable {H : Hs} {n : Nat} {st : Bs}
theorem BInv.len (ok : H.Ok) (B : BInv H n st) : st.1.length ≤ 823543 := by
  have h : (st.1.map (·.1)).length ≤ (ordersS H).length := nodup_len (by
      have := B.nd
      exact List.Pairwise.of_map (S := fun x y : NK => x ≠ y) okey (fun a b hne e => hne (congrArg okey e)) (by rw [List.map_map]; exact this)) fun o ho => by
    obtain ⟨q, hq, rfl⟩ := List.mem_map.mp ho
    exact (mem_orders ok).mpr (B.io q hq)
  rw [List.length_map] at h
  exact Nat.le_trans h (ords_len ok)
end
end Ws
set_option Elab.async false
set_option linter.all false
set_option maxRecDepth 100000
set_option maxHeartbeats 2000000
set_option autoImplicit false
namespace Ws
open PySem PySem.Spec PyProof.Rows L2
end Ws
set_option Elab.async false
set_option linter.all false
set_option maxRecDepth 100000
set_option maxHeartbeats 2000000
set_option autoImplicit false
namespace Ws
open PySem PySem.Spec PyProof.Rows L2
def keyY (r : List Nat) : PyData := .tuple [.int (r.length : Nat), .str (mkS r)]
def ltR (r s : List Nat) : Bool := PySem.W.dataLt (keyY r) (keyY s)
abbrev Sp := List Nat × (Nat → List Nat)
def setS (f : Nat → List Nat) (p : Nat) (r : List Nat) : Nat → List Nat := fun q => if q = p then r else f q
def updS (S : Sp) (p : Nat) (r : List Nat) : Sp := if p ∈ S.1 then (if ltR r (S.2 p) = true then (S.1, setS S.2 p r) else S) else (S.1 ++ [p], setS S.2 p r)
/-- what holds of the places found -/
structure SpOk (H : Hs) (S : Sp) : Prop where
  nd : S.1.Nodup
  lt : ∀ p ∈ S.1, p < H.things.length
  rw' : ∀ p ∈ S.1, (S.2 p).length ≤ 823543 ∧ ∀ c ∈ S.2 p, c ∈ wishesS H
theorem SpOk.nil (H : Hs) : SpOk H ([], fun _ => []) := ⟨.nil, (fun _ z => nomatch z), fun _ z => nomatch z⟩
theorem SpOk.len {H : Hs} {S : Sp} (h : SpOk H S) : S.1.length ≤ H.things.length := by
  have := nodup_len (l := S.1) (m := List.range H.things.length) h.nd fun p hp => List.mem_range.mpr (h.lt p hp)
  rwa [List.length_range] at this
theorem SpOk.upd {H : Hs} {S : Sp} (h : SpOk H S) {p : Nat} (hp : p < H.things.length) {r : List Nat} (hr : r.length ≤ 823543 ∧ ∀ c ∈ r, c ∈ wishesS H) : SpOk H (updS S p r) := by
  have st : ∀ q, (q ∈ S.1 ∨ q = p) → (setS S.2 p r q).length ≤ 823543 ∧ ∀ c ∈ setS S.2 p r q, c ∈ wishesS H := fun q hq => by
    unfold setS
    by_cases e : q = p
    · rw [if_pos e]; exact hr
    · rw [if_neg e]
      rcases hq with z | z
      · exact h.rw' q z
      · exact absurd z e
  unfold updS
  by_cases m : p ∈ S.1
  · rw [if_pos m]
    by_cases l : ltR r (S.2 p) = true
    · rw [if_pos l]
      exact ⟨h.nd, h.lt, fun q hq => st q (.inl hq)⟩
    · rw [if_neg l]; exact h
  · rw [if_neg m]
    refine ⟨?_, fun q hq => ?_, fun q hq => ?_⟩
    · rw [List.nodup_append]
      refine ⟨h.nd, by simp, fun x hx y hy e => ?_⟩
      rw [List.mem_singleton] at hy
      subst e hy
      exact m hx
    · rcases List.mem_append.mp hq with z | z
      · exact h.lt q z
      · rw [List.mem_singleton] at z; subst z; exact hp
    · rcases List.mem_append.mp hq with z | z
      · exact st q (.inl z)
      · rw [List.mem_singleton] at z; exact st q (.inr z)
end Ws
set_option Elab.async false
set_option linter.all false
set_option maxRecDepth 100000
set_option maxHeartbeats 2000000
set_option autoImplicit false
namespace Ws
open PySem PySem.Spec PyProof.Rows L2
def slR (r s : List Nat) : Prop := r.length < s.length ∨ (r.length = s.length ∧ r < s)
theorem lt_app : ∀ {a b : List Nat}, a.length = b.length → a < b → ∀ x y : List Nat, a ++ x < b ++ y
  | [], [], _, h, _, _ => absurd h (List.lt_irrefl _)
  | [], _ :: _, e, _, _, _ => by simp at e
  | _ :: _, [], e, _, _, _ => by simp at e
  | p :: a, q :: b, e, h, x, y => by
    rw [List.cons_append, List.cons_append, List.cons_lt_cons_iff]
    rcases List.cons_lt_cons_iff.mp h with z | ⟨z1, z2⟩
    · exact .inl z
    · exact .inr ⟨z1, lt_app (by simpa using e) z2 x y⟩
theorem lt_pre : ∀ (a : List Nat) {x y : List Nat}, x < y → a ++ x < a ++ y
  | [], _, _, h => h
  | p :: a, x, y, h => by
    rw [List.cons_append, List.cons_append, List.cons_lt_cons_iff]
    exact .inr ⟨rfl, lt_pre a h⟩
theorem slx_irr (r : List Nat) : ¬ slR r r := fun h => by
  rcases h with h | ⟨_, h⟩
  · exact Nat.lt_irrefl _ h
  · exact List.lt_irrefl _ h
theorem slx_trans {r s t : List Nat} (h1 : slR r s) (h2 : slR s t) : slR r t := by
  rcases h1 with a | ⟨a, a'⟩ <;> rcases h2 with b | ⟨b, b'⟩
  · exact .inl (Nat.lt_trans a b)
  · exact .inl (by omega)
  · exact .inl (by omega)
  · exact .inr ⟨a.trans b, List.lt_trans a' b'⟩
theorem slx_tri (r s : List Nat) : slR r s ∨ r = s ∨ slR s r := by
  rcases Nat.lt_trichotomy r.length s.length with h | h | h
  · exact .inl (.inl h)
  · by_cases a : r < s
    · exact .inl (.inr ⟨h, a⟩)
    · by_cases b : s < r
      · exact .inr (.inr (.inr ⟨h.symm, b⟩))
      · exact .inr (.inl (List.le_antisymm (List.not_lt.mp b) (List.not_lt.mp a)))
  · exact .inr (.inr (.inl h))
theorem slx_snoc (v : List Nat) (d : Nat) : slR v (v ++ [d]) := .inl (by simp)
theorem slx_app {r v : List Nat} (h : slR r v) (d e : Nat) : slR (r ++ [d]) (v ++ [e]) := by
  rcases h with a | ⟨a, b⟩
  · exact .inl (by simpa using a)
  · exact .inr ⟨by simpa using a, lt_app a b _ _⟩
theorem slx_last (r : List Nat) {d e : Nat} (h : d < e) : slR (r ++ [d]) (r ++ [e]) := .inr ⟨by simp, lt_pre r (List.cons_lt_cons_iff.mpr (.inl h))⟩
def endR (H : Hs) (o : List Th) (r : List Nat) : List Th := r.foldl (aft H) o
theorem end_snoc (H : Hs) (o : List Th) (r : List Nat) (c : Nat) : endR H o (r ++ [c]) = aft H (endR H o r) c := by
  unfold endR
  rw [List.foldl_append]
  rfl
theorem end_app (H : Hs) (o : List Th) (r s : List Nat) : endR H o (r ++ s) = endR H (endR H o r) s := by
  unfold endR
  rw [List.foldl_append]
theorem end_isO {H : Hs} : ∀ (r : List Nat) {o : List Th}, IsO H o → IsO H (endR H o r)
  | [], _, h => h
  | c :: r, o, h => end_isO r (o := aft H o c) (aft_isO h c)
def overW (H : Hs) (r : List Nat) : Prop := ∀ c ∈ r, c ∈ wishesS H
theorem wish_up (H : Hs) : (wishesS H).Pairwise (· < ·) := by
  unfold wishesS
  refine List.pairwise_cons.mpr ⟨fun c hc => ?_, letters_lt H⟩
  have : c ∈ alpha := (List.mem_filter.mp hc).1
  have h : (alpha.all fun c => decide (45 < c)) = true := by decide +kernel
  exact of_decide_eq_true (List.all_eq_true.mp h c this)
/-- r is the first of the shortest rows from o to what is wanted -/
def LeastR (H : Hs) (o : List Th) (p : List Th → Bool) (r : List Nat) : Prop := overW H r ∧ p (endR H o r) = true ∧ ∀ s, overW H s → p (endR H o s) = true → ¬ slR s r
theorem slx_pre {x r s : List Nat} (h : slR r s) : slR (x ++ r) (x ++ s) := by
  rcases h with a | ⟨a, b⟩
  · exact .inl (by rw [List.length_append, List.length_append]; omega)
  · exact .inr ⟨by rw [List.length_append, List.length_append, a], lt_pre x b⟩
/-- the rest of such a row is such a row -/
theorem LeastR.drop {H : Hs} {o : List Th} {p : List Th → Bool} {r : List Nat} (h : LeastR H o p r) (n : Nat) : LeastR H (endR H o (r.take n)) p (r.drop n) := by
  refine ⟨fun c hc => h.1 c (List.mem_of_mem_drop hc), ?_, fun s hs ps z => ?_⟩
  · rw [← end_app, List.take_append_drop]; exact h.2.1
  · refine h.2.2 (r.take n ++ s) (fun c hc => ?_) (by rw [end_app]; exact ps) ?_
    · rcases List.mem_append.mp hc with y | y
      · exact h.1 c (List.mem_of_mem_take y)
      · exact hs c y
    · have := slx_pre (x := r.take n) z
      rwa [List.take_append_drop] at this
section
variable {H : Hs} {o0 : List Th}
theorem findR_app {rows : Rw} {b : List Th} (z : List Th × List Nat) (h : inR rows b = true) : findR (rows ++ [z]) b = findR rows b := by
  unfold inR at h
  unfold findR at h ⊢
  rw [List.find?_append]
  cases e : rows.find? fun q => decide (okey q.1 = okey b) with
  | none => rw [e] at h; cases h
  | some y => rfl
theorem rowR_app {rows : Rw} {b : List Th} (z : List Th × List Nat) (h : inR rows b = true) : rowR (rows ++ [z]) b = rowR rows b := by
  unfold rowR
  rw [findR_app z h]
theorem rowR_new {rows : Rw} {a : List Th} {t : List Nat} (h : inR rows a = false) : rowR (rows ++ [(a, t)]) a = t := by
  unfold inR at h
  unfold rowR findR at *
  rw [List.find?_append]
  cases e : rows.find? fun q => decide (okey q.1 = okey a) with
  | some y => rw [e] at h; cases h
  | none =>
    rw [List.find?_cons, decide_eq_true rfl]
    rfl
/-- the rows found: each leads there, and is the first of the shortest that do -/
structure Rows1 (H : Hs) (o0 : List Th) (rows : Rw) : Prop where
  io : ∀ q ∈ rows, IsO H q.1
  st : inR rows o0 = true
  at_ : ∀ a, IsO H a → inR rows a = true → overW H (rowR rows a) ∧ endR H o0 (rowR rows a) = a ∧ ∀ s, overW H s → endR H o0 s = a → ¬ slR s (rowR rows a)
def closedR (H : Hs) (rows : Rw) (b : List Th) : Prop := ∀ d ∈ wishesS H, inR rows (aft H b d) = true
structure Pre (H : Hs) (o0 : List Th) (rows : Rw) (layer : List (List Th)) (k : Nat) : Prop where
  r1 : Rows1 H o0 rows
  lay : ∀ a ∈ layer, IsO H a ∧ inR rows a = true ∧ (rowR rows a).length = k
  old : ∀ a, IsO H a → inR rows a = true → a ∈ layer ∨ (closedR H rows a ∧ (rowR rows a).length < k)
  asc : layer.Pairwise fun a b => rowR rows a < rowR rows b
abbrev Cand := List Th × Nat
def cands (H : Hs) (layer : List (List Th)) : List Cand := layer.flatMap fun o => (wishesS H).map fun c => (o, c)
def tC (rows : Rw) (p : Cand) : List Nat := rowR rows p.1 ++ [p.2]
theorem cands_asc {rows : Rw} {layer : List (List Th)} {k : Nat} (P : Pre H o0 rows layer k) : (cands H layer).Pairwise fun p q => slR (tC rows p) (tC rows q) := by
  unfold cands
  rw [List.pairwise_flatMap]
  refine ⟨fun o _ => List.pairwise_map.mpr ((wish_up H).imp fun h => slx_last _ h), ?_⟩
  refine P.asc.imp_of_mem fun {a b} ha hb h x hx y hy => ?_
  obtain ⟨c, _, rfl⟩ := List.mem_map.mp hx
  obtain ⟨d, _, rfl⟩ := List.mem_map.mp hy
  exact slx_app (.inr ⟨by rw [(P.lay a ha).2.2, (P.lay b hb).2.2], h⟩) c d
/-- while a layer's candidates are gone through: C1, those done -/
structure Mid (H : Hs) (o0 : List Th) (rows0 : Rw) (k : Nat) (C1 : List Cand) (st : Bs) : Prop where
  r1 : Rows1 H o0 st.1
  ext : ∀ a, inR rows0 a = true → inR st.1 a = true ∧ rowR st.1 a = rowR rows0 a
  cl : ∀ a, IsO H a → inR st.1 a = true → inR rows0 a = true ∨ a ∈ st.2
  done : ∀ p ∈ C1, inR st.1 (aft H p.1 p.2) = true
  fo : ∀ a ∈ st.2, IsO H a ∧ inR st.1 a = true ∧ ∃ p ∈ C1, rowR st.1 a = tC rows0 p
  asc : st.2.Pairwise fun a b => rowR st.1 a < rowR st.1 b
theorem inR_new (ok : H.Ok) {rows : Rw} {a b : List Th} {t : List Nat} (ha : IsO H a) (hb : IsO H b) (h : inR (rows ++ [(a, t)]) b = true) : inR rows b = true ∨ b = a := by
  obtain ⟨q, hq, e⟩ := inR_iff.mp h
  rcases List.mem_append.mp hq with z | z
  · exact .inl (inR_iff.mpr ⟨q, z, e⟩)
  · rw [List.mem_singleton] at z
    subst z
    exact .inr (okey_inj ok ha hb e).symm
theorem Mid.step (ok : H.Ok) (ho : IsO H o0) {rows0 : Rw} {layer : List (List Th)} {k : Nat} (P : Pre H o0 rows0 layer k) {C1 C2 : List Cand} {p : Cand} (eC : cands H layer = C1 ++ p :: C2) {st : Bs} (M : Mid H o0 rows0 k C1 st) : Mid H o0 rows0 k (C1 ++ [p]) (turnB H p.1 st p.2) := by
  have hp : p ∈ cands H layer := by rw [eC]; exact List.mem_append_right _ List.mem_cons_self
  have hpl : p.1 ∈ layer ∧ p.2 ∈ wishesS H := by
    unfold cands at hp
    obtain ⟨o, h1, h2⟩ := List.mem_flatMap.mp hp
    obtain ⟨c, h3, h4⟩ := List.mem_map.mp h2
    rw [← h4]
    exact ⟨h1, h3⟩
  have io := (P.lay p.1 hpl.1).1
  have ia := aft_isO io p.2
  have asc := cands_asc P
  rw [eC, List.pairwise_append, List.pairwise_cons] at asc
  obtain ⟨_, ⟨a2, _⟩, a3⟩ := asc
  have er : rowR st.1 p.1 = rowR rows0 p.1 := (M.ext p.1 (P.lay p.1 hpl.1).2.1).2
  have tl : (tC rows0 p).length = k + 1 := by
    unfold tC
    rw [List.length_append, (P.lay p.1 hpl.1).2.2]
    rfl
  unfold turnB
  by_cases hin : inR st.1 (aft H p.1 p.2) = true
  · rw [if_pos hin]
    refine ⟨M.r1, M.ext, M.cl, fun q hq => ?_, fun a ha => ?_, M.asc⟩
    · rcases List.mem_append.mp hq with z | z
      · exact M.done q z
      · rw [List.mem_singleton] at z; rw [z]; exact hin
    · obtain ⟨x1, x2, q, hq, e⟩ := M.fo a ha
      exact ⟨x1, x2, q, List.mem_append_left _ hq, e⟩
  · rw [if_neg hin]
    have hin' : inR st.1 (aft H p.1 p.2) = false := by simpa using hin
    have et : rowR st.1 p.1 ++ [p.2] = tC rows0 p := by unfold tC; rw [er]
    rw [et]
    -- all lesser rows lead to what stands there
    have lem : ∀ (n : Nat) (u : List Nat), u.length = n → overW H u → slR u (tC rows0 p) → inR st.1 (endR H o0 u) = true := by
      intro n
      induction n with
      | zero =>
        intro u hu _ _
        rw [List.length_eq_zero_iff.mp hu]
        exact M.r1.st
      | succ n ih =>
        intro u hu hW hs
        have ne : u ≠ [] := fun z => by rw [z] at hu; cases hu
        obtain ⟨v, d, rfl⟩ : ∃ v d, u = v ++ [d] := ⟨u.dropLast, u.getLast ne, (List.dropLast_concat_getLast ne).symm⟩
        have lv : v.length = n := by simpa using hu
        have vW : overW H v := fun c hc => hW c (List.mem_append_left _ hc)
        have dW : d ∈ wishesS H := hW d (List.mem_append_right _ (List.mem_singleton.mpr rfl))
        have hb := ih v lv vW (slx_trans (slx_snoc v d) hs)
        have ib := end_isO (H := H) v ho
        obtain ⟨w1, w2, w3⟩ := M.r1.at_ _ ib hb
        have w4 := w3 v vW rfl
        have le : slR (rowR st.1 (endR H o0 v) ++ [d]) (tC rows0 p) := by
          rcases slx_tri (rowR st.1 (endR H o0 v)) v with z | z | z
          · exact slx_trans (slx_app z d d) hs
          · rw [z]; exact hs
          · exact absurd z w4
        rw [end_snoc]
        rcases M.cl _ ib hb with z | z
        · rcases P.old _ ib z with y | y
          · have hc : (endR H o0 v, d) ∈ cands H layer := List.mem_flatMap.mpr ⟨_, y, List.mem_map.mpr ⟨d, dW, rfl⟩⟩
            have e2 : tC rows0 (endR H o0 v, d) = rowR st.1 (endR H o0 v) ++ [d] := by
              unfold tC
              rw [(M.ext _ z).2]
            rw [eC] at hc
            rcases List.mem_append.mp hc with x | x
            · exact M.done _ x
            · rw [← e2] at le
              rcases List.mem_cons.mp x with x | x
              · rw [x] at le; exact absurd le (slx_irr _)
              · exact absurd (slx_trans le (a2 _ x)) (slx_irr _)
          · exact (M.ext _ (y.1 d dW)).1
        · obtain ⟨_, _, q, hq, e⟩ := M.fo _ z
          have lq : (rowR st.1 (endR H o0 v)).length = k + 1 := by
            rw [e]
            have hq' : q ∈ cands H layer := by rw [eC]; exact List.mem_append_left _ hq
            unfold cands at hq'
            obtain ⟨o, h1, h2⟩ := List.mem_flatMap.mp hq'
            obtain ⟨c, h3, rfl⟩ := List.mem_map.mp h2
            unfold tC
            rw [List.length_append, (P.lay o h1).2.2]
            rfl
          exfalso
          rcases le with x | ⟨x, _⟩
          · rw [List.length_append, lq, tl] at x
            simp at x
            omega
          · rw [List.length_append, lq, tl] at x
            simp at x
    have new : ∀ s, overW H s → endR H o0 s = aft H p.1 p.2 → ¬ slR s (tC rows0 p) := fun s hs e z => by
      have := lem s.length s rfl hs z
      rw [e] at this
      exact hin this
    have tW : overW H (tC rows0 p) := fun c hc => by
      unfold tC at hc
      rcases List.mem_append.mp hc with z | z
      · exact (P.r1.at_ p.1 io (P.lay p.1 hpl.1).2.1).1 c z
      · rw [List.mem_singleton] at z; rw [z]; exact hpl.2
    have tE : endR H o0 (tC rows0 p) = aft H p.1 p.2 := by
      unfold tC
      rw [end_snoc, (P.r1.at_ p.1 io (P.lay p.1 hpl.1).2.1).2.1]
    have newIn : inR (st.1 ++ [(aft H p.1 p.2, tC rows0 p)]) (aft H p.1 p.2) = true := inR_iff.mpr ⟨_, List.mem_append_right _ (List.mem_singleton.mpr rfl), rfl⟩
    refine ⟨⟨fun q hq => ?_, inR_app _ M.r1.st, fun a ia2 ha => ?_⟩, fun a ha => ?_, fun a ia2 ha => ?_, fun q hq => ?_, fun a ha => ?_, ?_⟩
    · rcases List.mem_append.mp hq with z | z
      · exact M.r1.io q z
      · rw [List.mem_singleton] at z; rw [z]; exact ia
    · rcases inR_new ok ia ia2 ha with z | z
      · rw [rowR_app _ z]; exact M.r1.at_ a ia2 z
      · subst z
        rw [rowR_new hin']
        exact ⟨tW, tE, new⟩
    · obtain ⟨x, y⟩ := M.ext a ha
      exact ⟨inR_app _ x, by rw [rowR_app _ x]; exact y⟩
    · rcases inR_new ok ia ia2 ha with z | z
      · rcases M.cl a ia2 z with y | y
        · exact .inl y
        · exact .inr (List.mem_append_left _ y)
      · exact .inr (List.mem_append_right _ (by rw [z]; exact List.mem_singleton.mpr rfl))
    · rcases List.mem_append.mp hq with z | z
      · exact inR_app _ (M.done q z)
      · rw [List.mem_singleton] at z; rw [z]; exact newIn
    · rcases List.mem_append.mp ha with z | z
      · obtain ⟨x1, x2, q, hq, e⟩ := M.fo a z
        exact ⟨x1, inR_app _ x2, q, List.mem_append_left _ hq, by rw [rowR_app _ x2]; exact e⟩
      · rw [List.mem_singleton] at z
        subst z
        exact ⟨ia, newIn, p, List.mem_append_right _ (List.mem_singleton.mpr rfl), rowR_new hin'⟩
    · refine List.pairwise_append.mpr ⟨M.asc.imp_of_mem fun {a b} ha hb h => ?_, by simp, fun a ha b hb => ?_⟩
      · rw [rowR_app _ (M.fo a ha).2.1, rowR_app _ (M.fo b hb).2.1]; exact h
      · rw [List.mem_singleton] at hb
        subst hb
        obtain ⟨x1, x2, q, hq, e⟩ := M.fo a ha
        rw [rowR_app _ x2, rowR_new hin', e]
        rcases a3 q hq p List.mem_cons_self with z | ⟨_, z⟩
        · have lq : (tC rows0 q).length = k + 1 := by
            have hq' : q ∈ cands H layer := by rw [eC]; exact List.mem_append_left _ hq
            unfold cands at hq'
            obtain ⟨o, h1, h2⟩ := List.mem_flatMap.mp hq'
            obtain ⟨c, h3, rfl⟩ := List.mem_map.mp h2
            unfold tC
            rw [List.length_append, (P.lay o h1).2.2]
            rfl
          omega
        · exact z
theorem Mid.all (ok : H.Ok) (ho : IsO H o0) {rows0 : Rw} {layer : List (List Th)} {k : Nat} (P : Pre H o0 rows0 layer k) : ∀ (C2 C1 : List Cand) (st : Bs), cands H layer = C1 ++ C2 → Mid H o0 rows0 k C1 st → Mid H o0 rows0 k (C1 ++ C2) (C2.foldl (fun st p => turnB H p.1 st p.2) st)
  | [], C1, st, _, M => by rw [List.append_nil]; exact M
  | p :: C2, C1, st, e, M => by
    have := Mid.all ok ho P C2 (C1 ++ [p]) _ (by rw [e, List.append_assoc]; rfl) (M.step ok ho P e)
    rw [List.append_assoc] at this
    exact this
theorem Pre.start {o0 : List Th} (ho : IsO H o0) (ok : H.Ok) : Pre H o0 [(o0, [])] [o0] 0 := by
  have e : rowR [(o0, [])] o0 = [] := by
    unfold rowR findR
    rw [List.find?_cons, decide_eq_true rfl]
    rfl
  have i : inR [(o0, [])] o0 = true := inR_iff.mpr ⟨_, List.mem_singleton.mpr rfl, rfl⟩
  have only : ∀ a, IsO H a → inR [(o0, [])] a = true → a = o0 := fun a ia h => by
    obtain ⟨q, hq, k⟩ := inR_iff.mp h
    rw [List.mem_singleton] at hq
    subst hq
    exact (okey_inj ok ho ia k).symm
  refine ⟨⟨fun q hq => by rw [List.mem_singleton] at hq; subst hq; exact ho, i, fun a ia h => ?_⟩, fun a ha => ?_, fun a ia h => .inl (by rw [only a ia h]; exact List.mem_singleton.mpr rfl), by simp⟩
  · rw [only a ia h, e]
    refine ⟨(fun _ z => nomatch z), rfl, fun s _ _ z => ?_⟩
    rcases z with z | ⟨z, z2⟩
    · exact absurd z (Nat.not_lt_zero _)
    · rw [List.length_eq_zero_iff.mp z] at z2; exact List.lt_irrefl _ z2
  · rw [List.mem_singleton] at ha
    subst ha
    exact ⟨ho, i, by rw [e]; rfl⟩
end
end Ws
set_option Elab.async false
set_option linter.all false
set_option maxRecDepth 100000
set_option maxHeartbeats 2000000
set_option autoImplicit false
namespace Ws
open PySem PySem.Spec PyProof.Rows L2
section
variable {H : Hs} {o0 : List Th} {p : List Th → Bool}
theorem Pre.near (ho : IsO H o0) {rows : Rw} {layer : List (List Th)} {k : Nat} (P : Pre H o0 rows layer k) : ∀ (n : Nat) (u : List Nat), u.length = n → n ≤ k → overW H u → inR rows (endR H o0 u) = true := by
  intro n
  induction n with
  | zero =>
    intro u hu _ _
    rw [List.length_eq_zero_iff.mp hu]
    exact P.r1.st
  | succ n ih =>
    intro u hu hk hW
    have ne : u ≠ [] := fun z => by rw [z] at hu; cases hu
    obtain ⟨v, d, rfl⟩ : ∃ v d, u = v ++ [d] := ⟨u.dropLast, u.getLast ne, (List.dropLast_concat_getLast ne).symm⟩
    have lv : v.length = n := by simpa using hu
    have vW : overW H v := fun c hc => hW c (List.mem_append_left _ hc)
    have hb := ih v lv (by omega) vW
    have ib := end_isO (H := H) v ho
    have w3 := (P.r1.at_ _ ib hb).2.2 v vW rfl
    have ll : (rowR rows (endR H o0 v)).length ≤ n := by
      rw [← lv]
      exact Nat.not_lt.mp fun z => w3 (.inl z)
    rw [end_snoc]
    rcases P.old _ ib hb with y | y
    · have := (P.lay _ y).2.2
      omega
    · exact y.1 d (hW d (List.mem_append_right _ (List.mem_singleton.mpr rfl)))
end
end Ws
set_option Elab.async false
set_option linter.all false
set_option maxRecDepth 100000
set_option maxHeartbeats 2000000
set_option autoImplicit false
namespace Ws
open PySem PySem.Spec PyProof.Rows L2
end Ws
set_option Elab.async false
set_option linter.all false
set_option maxRecDepth 100000
set_option maxHeartbeats 2000000
set_option autoImplicit false
namespace Ws
open PySem PySem.Spec PyProof.Rows L2
open PySem.W (alike dataLt minD AlikeAll)
end Ws
set_option Elab.async false
set_option linter.all false
set_option maxRecDepth 100000
set_option maxHeartbeats 2000000
set_option autoImplicit false
namespace Ws
open PySem PySem.Spec PyProof.Rows L2
end Ws
set_option Elab.async false
set_option linter.all false
set_option maxRecDepth 100000
set_option maxHeartbeats 2000000
set_option autoImplicit false
namespace Ws
open PySem PySem.Spec PyProof.Rows L2
end Ws
set_option Elab.async false
set_option linter.all false
set_option maxRecDepth 100000
set_option maxHeartbeats 2000000
set_option autoImplicit false
namespace Ws
open PySem PySem.Spec PyProof.Rows L2
open Sem (wp)
end Ws
set_option Elab.async false
set_option linter.all false
set_option maxRecDepth 100000
set_option maxHeartbeats 2000000
set_option autoImplicit false
namespace Ws
open PySem PySem.Spec PyProof.Rows L2
end Ws
set_option Elab.async false
set_option linter.all false
set_option maxRecDepth 100000
set_option maxHeartbeats 2000000
set_option autoImplicit false
namespace Ws
open PySem PySem.Spec PyProof.Rows L2
abbrev Wc := List (List Th × Int)
def findW (W : Wc) (a : List Th) : Option (List Th × Int) := W.find? fun q => decide (okey q.1 = okey a)
def inW (W : Wc) (a : List Th) : Bool := (findW W a).isSome
def setW (W : Wc) (a : List Th) (v : Int) : Wc := if inW W a = true then W.map (fun q => if okey q.1 = okey a then (q.1, v) else q) else W ++ [(a, v)]
theorem inW_iff {W : Wc} {a : List Th} : inW W a = true ↔ ∃ q ∈ W, okey q.1 = okey a := by
  unfold inW findW
  rw [List.find?_isSome]
  simp only [decide_eq_true_eq]
structure WcOk (H : Hs) (W : Wc) : Prop where
  io : ∀ q ∈ W, IsO H q.1
  nd : (W.map fun q => okey q.1).Nodup
  ps : ∀ q ∈ W, 1 ≤ q.2
theorem WcOk.nil (H : Hs) : WcOk H [] := ⟨(fun _ z => nomatch z), .nil, fun _ z => nomatch z⟩
section
variable {H : Hs} {W R : Wc} {a b : List Th}
theorem WcOk.len (ok : H.Ok) (h : WcOk H W) : W.length ≤ (ordersS H).length := by
  have : (W.map (·.1)).length ≤ (ordersS H).length := nodup_len (by
      have := h.nd
      exact List.Pairwise.of_map (S := fun x y : NK => x ≠ y) okey (fun a b hne e => hne (congrArg okey e)) (by rw [List.map_map]; exact this)) fun o ho => by
    obtain ⟨q, hq, rfl⟩ := List.mem_map.mp ho
    exact (mem_orders ok).mpr (h.io q hq)
  rwa [List.length_map] at this
theorem setW_keys {v : Int} : (setW W a v).map (fun q => okey q.1) = if inW W a = true then W.map (fun q => okey q.1) else W.map (fun q => okey q.1) ++ [okey a] := by
  unfold setW
  by_cases h : inW W a = true
  · rw [if_pos h, if_pos h, List.map_map]
    refine List.map_congr_left fun q _ => ?_
    show okey (if okey q.1 = okey a then (q.1, v) else q).1 = okey q.1
    split <;> rfl
  · rw [if_neg h, if_neg h, List.map_append]
    rfl
theorem inW_keys {W : Wc} {b : List Th} : inW W b = true ↔ okey b ∈ W.map fun q => okey q.1 := by
  rw [inW_iff, List.mem_map]
theorem WcOk.set (h : WcOk H W) (ia : IsO H a) {v : Int} (hv : 1 ≤ v) : WcOk H (setW W a v) := by
  refine ⟨fun q hq => ?_, ?_, fun q hq => ?_⟩
  · unfold setW at hq
    split at hq
    · obtain ⟨p, hp, rfl⟩ := List.mem_map.mp hq
      split
      · exact h.io p hp
      · exact h.io p hp
    · rcases List.mem_append.mp hq with z | z
      · exact h.io q z
      · rw [List.mem_singleton.mp z]; exact ia
  · rw [setW_keys]
    split
    · exact h.nd
    · rename_i n
      refine List.nodup_append.mpr ⟨h.nd, by simp, fun x hx y hy e => ?_⟩
      rw [List.mem_singleton] at hy
      subst hy
      subst e
      exact n (inW_keys.mpr hx)
  · unfold setW at hq
    split at hq
    · obtain ⟨p, hp, rfl⟩ := List.mem_map.mp hq
      split
      · exact hv
      · exact h.ps p hp
    · rcases List.mem_append.mp hq with z | z
      · exact h.ps q z
      · rw [List.mem_singleton.mp z]; exact hv
end
end Ws
set_option Elab.async false
set_option linter.all false
set_option maxRecDepth 100000
set_option maxHeartbeats 2000000
set_option autoImplicit false
namespace Ws
open PySem PySem.Spec PyProof.Rows L2
abbrev Kn := List (List Th × Nat)
structure KnOk (H : Hs) (m : Kn) : Prop where
  io : ∀ q ∈ m, IsO H q.1 ∧ q.2 ∈ wishesS H
  nd : m.Nodup
theorem KnOk.nil (H : Hs) : KnOk H [] := ⟨(fun _ z => nomatch z), .nil⟩
section
variable {H : Hs} (ok : H.Ok) {m : Kn} (k : KnOk H m) {a : List Th} (ia : IsO H a) {c : Nat}
include ok k ia
omit ia in
theorem KnOk.len : m.length ≤ (ordersS H).length * (wishesS H).length := by
  have := nodup_len (l := m) (m := (ordersS H).flatMap fun o => (wishesS H).map fun c => (o, c)) k.nd fun q hq => by
    obtain ⟨h1, h2⟩ := k.io q hq
    exact List.mem_flatMap.mpr ⟨q.1, (mem_orders ok).mpr h1, List.mem_map.mpr ⟨q.2, h2, rfl⟩⟩
  refine Nat.le_trans this (Nat.le_of_eq ?_)
  rw [List.length_flatMap]
  have : ∀ os : List (List Th), (os.map fun o => ((wishesS H).map fun c => (o, c)).length).sum = os.length * (wishesS H).length := fun os => by
    induction os with
    | nil => simp
    | cons o os ih => rw [List.map_cons, List.sum_cons, ih, List.length_map, List.length_cons, Nat.succ_mul, Nat.add_comm]
  exact this _
end
end Ws
set_option Elab.async false
set_option linter.all false
set_option maxRecDepth 100000
set_option maxHeartbeats 2000000
set_option autoImplicit false
namespace Ws
open PySem PySem.Spec PyProof.Rows L2
end Ws
set_option Elab.async false
set_option linter.all false
set_option maxRecDepth 100000
set_option maxHeartbeats 3200000
set_option autoImplicit false
namespace Ws
open PySem PySem.Spec PyProof.Rows L2
def rSetL (X : Cx) : List V → Hp → VK → Prop := fun vs H Q => ∃ (l : Addr) (ks : List Key), vs = [V.ref l] ∧ SqL X.K H l (ks.map kV) ∧ ks.length + 1 < scanBound ∧ ∀ p, H p = none → Q (.ref p) (upd H p (SetM X.prog X.w p (ks.foldl addK [])))
end Ws
set_option Elab.async false
set_option linter.all false
set_option maxRecDepth 100000
set_option maxHeartbeats 2000000
set_option autoImplicit false
namespace Ws
open PySem PySem.Spec PyProof.Rows L2
def hasTD (ds : List D) (k : NK) : Bool := ds.any fun d => decide (nkOf d = some k)
section
variable {C : Cf} {F : Hp} {ρ : Rho}
theorem Rn.any {k : NK} : ∀ {ds : List D} {L : NR}, Rn C F ρ ds L → (L.any fun p => decide (p.1 = k)) = hasTD ds k
  | [], _, h => by unfold Rn at h; subst h; rfl
  | d :: ds, _, h => by
    unfold Rn at h
    obtain ⟨key, b, r, rfl, ek, ed, rk, hr⟩ := h
    unfold hasTD
    rw [List.any_cons, List.any_cons, Rn.any hr]
    unfold hasTD
    rw [ek]
    congr 1
    by_cases q : key = k
    · rw [decide_eq_true q, decide_eq_true (congrArg some q)]
    · rw [decide_eq_false q, decide_eq_false fun z => q (Option.some.inj z)]
theorem Rn.snoc {k : NK} {y : D} {b : Addr} (ek : nkOf y = some k) (ed : k.depth ≤ 8) (rk : R C F ρ y (.ref b)) : ∀ {ds : List D} {L : NR}, Rn C F ρ ds L → Rn C F ρ (ds ++ [y]) (L ++ [(k, b)])
  | [], _, h => by
    unfold Rn at h; subst h
    show Rn C F ρ [y] [(k, b)]
    unfold Rn
    exact ⟨k, b, [], rfl, ek, ed, rk, by unfold Rn; rfl⟩
  | d :: ds, _, h => by
    unfold Rn at h
    obtain ⟨key, c, r, rfl, e1, e2, e3, hr⟩ := h
    show Rn C F ρ (d :: (ds ++ [y])) _
    unfold Rn
    exact ⟨key, c, _, rfl, e1, e2, e3, Rn.snoc ek ed rk hr⟩
end
end Ws
set_option Elab.async false
set_option linter.all false
set_option maxRecDepth 100000
set_option maxHeartbeats 3200000
set_option autoImplicit false
namespace Ws
open PySem PySem.Spec PyProof.Rows L2
end Ws
set_option Elab.async false
set_option linter.all false
set_option maxRecDepth 100000
set_option maxHeartbeats 2000000
set_option autoImplicit false
namespace Ws
open PySem PySem.Spec PyProof.Rows L2
end Ws
set_option Elab.async false
set_option linter.all false
set_option maxRecDepth 100000
set_option maxHeartbeats 2000000
set_option autoImplicit false
namespace Ws
open PySem PySem.Spec PyProof.Rows L2
section
variable {H : Hs} {o0 : List Th}
/-- a comes from o by some row -/
def Comes (H : Hs) (o a : List Th) : Prop := ∃ s, overW H s ∧ endR H o s = a
theorem Comes.refl (o : List Th) : Comes H o o := ⟨[], (fun _ z => nomatch z), rfl⟩
theorem Comes.trans {a b c : List Th} (h : Comes H a b) (k : Comes H b c) : Comes H a c := by
  obtain ⟨s, hs, rfl⟩ := h
  obtain ⟨t, ht, rfl⟩ := k
  exact ⟨s ++ t, fun d hd => (List.mem_append.mp hd).elim (hs d) (ht d), end_app ..⟩
theorem Comes.isO {o a : List Th} (ho : IsO H o) (h : Comes H o a) : IsO H a := by
  obtain ⟨s, _, rfl⟩ := h
  exact end_isO s ho
end
end Ws
set_option Elab.async false
set_option linter.all false
set_option maxRecDepth 100000
set_option maxHeartbeats 2000000
set_option autoImplicit false
namespace Ws
open PySem PySem.Spec PyProof.Rows L2
open PySem.W in
theorem ltR_iff (r s : List Nat) : ltR r s = true ↔ slR r s := by
  unfold ltR keyY
  rw [dataLt_tuple]
  simp only [keyToksAll, keyToks, List.cons_append, List.nil_append, List.singleton_append]
  rw [show mkS r = ⟨r.toArray⟩ from rfl, show mkS s = ⟨s.toArray⟩ from rfl]
  rw [lex_self]
  unfold slR
  by_cases e : r.length = s.length
  · rw [e, lex_self, lex_self]
    by_cases q : r = s
    · subst q
      rw [lex_self, lex_self]
      refine ⟨fun z => ?_, fun z => ?_⟩
      · cases z
      · rcases z with z | z
        · omega
        · exact absurd z.2 (List.lt_irrefl _)
    · rw [lex_diff (fun z => q (by injection z))]
      show decide (r < s) = true ↔ _
      rw [decide_eq_true_iff]
      exact ⟨fun z => .inr ⟨rfl, z⟩, fun z => z.elim (fun z => absurd z (Nat.lt_irrefl _)) fun z => z.2⟩
  · rw [lex_diff (fun z => e (by injection z with z; omega))]
    show decide (((r.length : Nat) : Int) < ((s.length : Nat) : Int)) = true ↔ _
    rw [decide_eq_true_iff]
    exact ⟨fun z => .inl (by omega), fun z => z.elim (fun z => by omega) fun z => absurd z.1 e⟩
structure SpL (f : List Th × List Nat → Nat) (rows : Rw) (S : Sp) : Prop where
  ky : ∀ p, p ∈ S.1 ↔ ∃ q ∈ rows, f q = p
  mn : ∀ p ∈ S.1, (∃ q ∈ rows, f q = p ∧ S.2 p = q.2) ∧ ∀ q ∈ rows, f q = p → ¬ slR q.2 (S.2 p)
theorem SpL.upd {f : List Th × List Nat → Nat} {rows : Rw} {S : Sp} (h : SpL f rows S) (z : List Th × List Nat) : SpL f (rows ++ [z]) (updS S (f z) z.2) := by
  unfold updS
  by_cases hp : f z ∈ S.1
  · rw [if_pos hp]
    obtain ⟨⟨q0, m0, e0, s0⟩, k0⟩ := h.mn _ hp
    have ky : ∀ p, p ∈ S.1 ↔ ∃ q ∈ rows ++ [z], f q = p := fun p => by
      rw [h.ky p]
      constructor
      · rintro ⟨q, hq, e⟩; exact ⟨q, List.mem_append_left _ hq, e⟩
      · rintro ⟨q, hq, e⟩
        rcases List.mem_append.mp hq with hq | hq
        · exact ⟨q, hq, e⟩
        · rw [List.mem_singleton] at hq
          subst hq
          exact ⟨q0, m0, by rw [e0, e]⟩
    by_cases hl : ltR z.2 (S.2 (f z)) = true
    · rw [if_pos hl]
      have hl' := (ltR_iff _ _).mp hl
      refine ⟨ky, fun p pm => ?_⟩
      show (∃ q ∈ rows ++ [z], f q = p ∧ setS S.2 (f z) z.2 p = q.2) ∧ ∀ q ∈ rows ++ [z], f q = p → ¬ slR q.2 (setS S.2 (f z) z.2 p)
      unfold setS
      by_cases e : p = f z
      · rw [if_pos e]
        refine ⟨⟨z, List.mem_append_right _ (List.mem_singleton_self _), e.symm, rfl⟩, fun q hq eq => ?_⟩
        rcases List.mem_append.mp hq with hq | hq
        · intro w
          exact k0 q hq (by rw [eq, e]) (slx_trans w hl')
        · rw [List.mem_singleton.mp hq]; exact slx_irr _
      · rw [if_neg e]
        obtain ⟨⟨q, hq, eq, sq⟩, k⟩ := h.mn p pm
        refine ⟨⟨q, List.mem_append_left _ hq, eq, sq⟩, fun q hq eq => ?_⟩
        rcases List.mem_append.mp hq with hq | hq
        · exact k q hq eq
        · rw [List.mem_singleton.mp hq] at eq; exact absurd eq.symm e
    · rw [if_neg hl]
      refine ⟨ky, fun p pm => ?_⟩
      obtain ⟨⟨q, hq, eq, sq⟩, k⟩ := h.mn p pm
      refine ⟨⟨q, List.mem_append_left _ hq, eq, sq⟩, fun q hq eq => ?_⟩
      rcases List.mem_append.mp hq with hq | hq
      · exact k q hq eq
      · rw [List.mem_singleton] at hq
        subst hq
        rw [← eq]
        exact fun w => hl ((ltR_iff _ _).mpr w)
  · rw [if_neg hp]
    refine ⟨fun p => ?_, fun p pm => ?_⟩
    · show p ∈ S.1 ++ [f z] ↔ _
      rw [List.mem_append, List.mem_singleton, h.ky p]
      constructor
      · rintro (⟨q, hq, e⟩ | e)
        · exact ⟨q, List.mem_append_left _ hq, e⟩
        · exact ⟨z, List.mem_append_right _ (List.mem_singleton_self _), e.symm⟩
      · rintro ⟨q, hq, e⟩
        rcases List.mem_append.mp hq with hq | hq
        · exact .inl ⟨q, hq, e⟩
        · rw [List.mem_singleton.mp hq] at e; exact .inr e.symm
    · show (∃ q ∈ rows ++ [z], f q = p ∧ setS S.2 (f z) z.2 p = q.2) ∧ ∀ q ∈ rows ++ [z], f q = p → ¬ slR q.2 (setS S.2 (f z) z.2 p)
      unfold setS
      have pm : p ∈ S.1 ++ [f z] := pm
      by_cases e : p = f z
      · rw [if_pos e]
        refine ⟨⟨z, List.mem_append_right _ (List.mem_singleton_self _), e.symm, rfl⟩, fun q hq eq => ?_⟩
        rcases List.mem_append.mp hq with hq | hq
        · exact absurd ((h.ky _).mpr ⟨q, hq, eq.trans e⟩) hp
        · rw [List.mem_singleton.mp hq]; exact slx_irr _
      · rw [if_neg e]
        rcases List.mem_append.mp pm with pm | pm
        · obtain ⟨⟨q, hq, eq, sq⟩, k⟩ := h.mn p pm
          refine ⟨⟨q, List.mem_append_left _ hq, eq, sq⟩, fun q hq eq => ?_⟩
          rcases List.mem_append.mp hq with hq | hq
          · exact k q hq eq
          · rw [List.mem_singleton.mp hq] at eq; exact absurd eq.symm e
        · exact absurd (List.mem_singleton.mp pm) e
end Ws
set_option Elab.async false
set_option linter.all false
set_option maxRecDepth 100000
set_option maxHeartbeats 2000000
set_option autoImplicit false
namespace Ws
open PySem PySem.Spec PyProof.Rows L2
theorem ccGo_pick {α : Type} {t : Tg} {c : M Bool} {e : M D} {σ : Sl} {g f : α → D} (I : AH → Prop) : ∀ {xs : List α} {acc : List D} {h : AH}, I h → (∀ x ∈ xs, ∀ h, I h → ∃ σ1 b h', t (g x) σ h = .ok σ1 h ∧ c σ1 h = .ok b h' ∧ (b = true → e σ1 h' = .ok (f x) h') ∧ I h') → acc.length + xs.length ≤ 1000000 →
    ∃ (ys : List α) (h' : AH), ccGo (turnC t c (emE e stepL) σ) (xs.map g) acc h = .ok (acc ++ ys.map f) h' ∧ I h' ∧ ys.Sublist xs
  | [], acc, h, i, _, _ => ⟨[], h, by simp [ccGo], i, .slnil⟩
  | x :: xs, acc, h, i, hm, hl => by
    obtain ⟨σ1, b, h1, e1, e2, e3, i1⟩ := hm x List.mem_cons_self h i
    simp only [List.length_cons] at hl
    cases b with
    | false =>
      obtain ⟨ys, h', ih, i2, s2⟩ := ccGo_pick I (xs := xs) (acc := acc) i1 (fun z hz => hm z (List.mem_cons_of_mem _ hz)) (by omega)
      refine ⟨ys, h', ?_, i2, s2.cons _⟩
      have tc : turnC t c (emE e stepL) σ (g x) acc h = .ok acc h1 := by
        unfold turnC
        rw [e1]
        dsimp only
        rw [e2]
      rw [List.map_cons, ccGo_cons, tc]
      exact ih
    | true =>
      obtain ⟨ys, h', ih, i2, s2⟩ := ccGo_pick I (xs := xs) (acc := acc ++ [f x]) i1 (fun z hz => hm z (List.mem_cons_of_mem _ hz)) (by simp; omega)
      refine ⟨x :: ys, h', ?_, i2, s2.cons_cons _⟩
      have tc : turnC t c (emE e stepL) σ (g x) acc h = .ok (acc ++ [f x]) h1 := by
        unfold turnC
        rw [e1]
        dsimp only
        rw [e2]
        dsimp only
        exact emE_ok (a' := acc ++ [f x]) (e3 rfl) (by unfold stepL; rw [if_pos (by omega)])
      rw [List.map_cons, ccGo_cons, tc]
      dsimp only
      rw [ih, List.map_cons, List.append_assoc]
      rfl
end Ws
set_option Elab.async false
set_option linter.all false
set_option maxRecDepth 100000
set_option maxHeartbeats 2000000
set_option autoImplicit false
namespace Ws
open PySem PySem.Spec PyProof.Rows L2
end Ws
set_option Elab.async false
set_option linter.all false
set_option maxRecDepth 100000
set_option maxHeartbeats 2000000
set_option autoImplicit false
namespace Ws
open PySem PySem.Spec PyProof.Rows L2
end Ws
set_option Elab.async false
set_option linter.all false
set_option maxRecDepth 100000
set_option maxHeartbeats 2000000
set_option autoImplicit false
namespace Ws
open PySem PySem.Spec PyProof.Rows L2
end Ws
set_option Elab.async false
set_option linter.all false
set_option maxRecDepth 100000
set_option maxHeartbeats 2000000
set_option autoImplicit false
namespace Ws
open PySem PySem.Spec PyProof.Rows L2
section
variable {P : Program} {w : World} {K : PySem.W.Frag} {mg : Str → Option Value} {base : Heap} {CX : CXT} {k : Nat} {f : Addr} {ps : List Str} {sp : L2.Sp}
theorem FnG.mono {fd : FuncData} {j : Nat} (F : FnG P w K mg base CX j f fd ps sp) (h : j ≤ k) : FnG P w K mg base CX k f fd ps sp := fun A hA => ⟨(F A hA).lenA, fun lies s H args us vs Q E r => (F A hA).go lies s H args us vs Q E (r.mono h)⟩
end
end Ws
set_option Elab.async false
set_option linter.all false
set_option maxRecDepth 100000
set_option maxHeartbeats 2000000
set_option autoImplicit false
namespace Ws
open PySem PySem.Spec PyProof.Rows L2
end Ws
set_option Elab.async false
set_option linter.all false
set_option maxRecDepth 100000
set_option maxHeartbeats 2000000
set_option autoImplicit false
namespace Ws
open PySem PySem.Spec PyProof.Rows L2
end Ws
set_option Elab.async false
set_option linter.all false
set_option maxRecDepth 100000
set_option maxHeartbeats 2000000
set_option autoImplicit false
namespace Ws
open PySem PySem.Spec PyProof.Rows L2
end Ws
set_option Elab.async false
set_option linter.all false
set_option maxRecDepth 100000
set_option maxHeartbeats 4000000
set_option autoImplicit false
namespace Ws
open PySem PySem.Spec PyProof.Rows L2
end Ws
set_option Elab.async false
set_option linter.all false
set_option maxRecDepth 100000
set_option maxHeartbeats 4000000
set_option autoImplicit false
namespace Ws
open PySem PySem.Spec PyProof.Rows L2
end Ws
set_option Elab.async false
set_option linter.all false
set_option maxRecDepth 100000
set_option maxHeartbeats 2000000
set_option autoImplicit false
namespace Ws
open PySem PySem.Spec PyProof.Rows L2
end Ws
set_option Elab.async false
set_option linter.all false
set_option maxRecDepth 100000
set_option maxHeartbeats 2000000
set_option autoImplicit false
namespace Ws
open PySem PySem.Spec PyProof.Rows L2
/-- where each parameter behind the written ones comes from: the i-th keyword, or the j-th default -/
abbrev Srcs := List (Nat ⊕ Nat)
def picks {α : Type} (src : Srcs) (mv ws : List α) : List α := src.filterMap fun z => match z with
  | .inl i => ws[i]?
  | .inr j => mv[j]?
def putK (src : Srcs) (dd a b : List D) : List D := a ++ picks src dd b
theorem vals_get : ∀ {vs : List V} {us : List Value}, Vals vs us → ∀ i : Nat, (vs[i]? = none ∧ us[i]? = none) ∨ ∃ v u, vs[i]? = some v ∧ us[i]? = some u ∧ RelV v u
  | _, _, .nil, i => .inl ⟨by simp, by simp⟩
  | _, _, .cons r t, i => by
    cases i with
    | zero => exact .inr ⟨_, _, by simp, by simp, r⟩
    | succ i =>
      have := vals_get t i
      simpa using this
theorem picks_vals {mvs : List V} {mv : List Value} {zs : List V} {ws : List Value} (hm : Vals mvs mv) (hz : Vals zs ws) : ∀ src : Srcs, Vals (picks src mvs zs) (picks src mv ws)
  | [] => .nil
  | z :: src => by
    have ih := picks_vals hm hz src
    unfold picks at ih ⊢
    rw [List.filterMap_cons, List.filterMap_cons]
    cases z with
    | inl i =>
      dsimp only
      rcases vals_get hz i with ⟨e1, e2⟩ | ⟨v, u, e1, e2, r⟩
      · rw [e1, e2]; exact ih
      · rw [e1, e2]; exact .cons r ih
    | inr j =>
      dsimp only
      rcases vals_get hm j with ⟨e1, e2⟩ | ⟨v, u, e1, e2, r⟩
      · rw [e1, e2]; exact ih
      · rw [e1, e2]; exact .cons r ih
section
variable {C : Cf} {F : Hp} {ρ : Rho}
theorem Rs.getI : ∀ {ds : List D} {vs : List V}, Rs C F ρ ds vs → ∀ i : Nat, (ds[i]? = none ∧ vs[i]? = none) ∨ ∃ d v, ds[i]? = some d ∧ vs[i]? = some v ∧ R C F ρ d v
  | [], vs, h, i => by unfold Rs at h; subst h; exact .inl ⟨by simp, by simp⟩
  | d :: ds, vs, h, i => by
    unfold Rs at h
    obtain ⟨v, t, rfl, a, r⟩ := h
    cases i with
    | zero => exact .inr ⟨_, _, by simp, by simp, a⟩
    | succ i =>
      have := Rs.getI r i
      simpa using this
theorem picks_rs {dd : List D} {mvs : List V} {b : List D} {v : List V} (hm : Rs C F ρ dd mvs) (hz : Rs C F ρ b v) : ∀ src : Srcs, Rs C F ρ (picks src dd b) (picks src mvs v)
  | [] => by unfold picks; show Rs C F ρ [] []; unfold Rs; rfl
  | z :: src => by
    have ih := picks_rs hm hz src
    unfold picks at ih ⊢
    rw [List.filterMap_cons, List.filterMap_cons]
    cases z with
    | inl i =>
      dsimp only
      rcases Rs.getI hz i with ⟨e1, e2⟩ | ⟨d, u, e1, e2, r⟩
      · rw [e1, e2]; exact ih
      · rw [e1, e2]; unfold Rs; exact ⟨_, _, rfl, r, ih⟩
    | inr j =>
      dsimp only
      rcases Rs.getI hm j with ⟨e1, e2⟩ | ⟨d, u, e1, e2, r⟩
      · rw [e1, e2]; exact ih
      · rw [e1, e2]; unfold Rs; exact ⟨_, _, rfl, r, ih⟩
end
theorem puts_k {C : Cf} {src : Srcs} {dd : List D} {mvs : List V} (fl : Filled C dd mvs) : Puts C (fun u v => u ++ picks src mvs v) (putK src dd) := fun F ρ _ _ _ _ h k => Rs.app h (picks_rs (fl F ρ) k src)
/-- defaults of keyword-only parameters -/
def kdD : List (Str × V) → List D
  | [] => []
  | (_, .int i) :: r => .int i :: kdD r
  | (_, .non) :: r => .non :: kdD r
  | (_, .bl b) :: r => .bl b :: kdD r
  | (_, .str x) :: r => .str x :: kdD r
  | _ :: r => kdD r
def kdOk : List (Str × V) → Bool
  | [] => true
  | (_, .int _) :: r | (_, .non) :: r | (_, .bl _) :: r | (_, .str _) :: r => kdOk r
  | _ :: _ => false
theorem filled_kd {C : Cf} : ∀ {ms : List (Str × V)}, kdOk ms = true → Filled C (kdD ms) (ms.map (·.2))
  | [], _ => fun F ρ => by show Rs C F ρ [] []; unfold Rs; rfl
  | (_, .int i) :: r, h => fun F ρ => by show Rs C F ρ (.int i :: kdD r) (.int i :: r.map (·.2)); unfold Rs; exact ⟨_, _, rfl, by unfold R; rfl, filled_kd (ms := r) h F ρ⟩
  | (_, .non) :: r, h => fun F ρ => by show Rs C F ρ (.non :: kdD r) (.non :: r.map (·.2)); unfold Rs; exact ⟨_, _, rfl, by unfold R; rfl, filled_kd (ms := r) h F ρ⟩
  | (_, .bl i) :: r, h => fun F ρ => by show Rs C F ρ (.bl i :: kdD r) (.bl i :: r.map (·.2)); unfold Rs; exact ⟨_, _, rfl, by unfold R; rfl, filled_kd (ms := r) h F ρ⟩
  | (_, .str i) :: r, h => fun F ρ => by show Rs C F ρ (.str i :: kdD r) (.str i :: r.map (·.2)); unfold Rs; exact ⟨_, _, rfl, by unfold R; rfl, filled_kd (ms := r) h F ρ⟩
  | (_, .ref _) :: _, h => by cases h
section
variable {K : PySem.W.Frag} {x qual : Str} {params : Arguments} {body : List Stmt} {scope : Scope} {kws : List (Str × V)} {f : Addr} {fd : FuncData} {ps : List Str}
theorem kb_src (F : FunD K x qual params body scope [] kws f fd) (n : Nat) (ks : List Str) (ms : List (Str × V)) (src : Srcs) (hk : kws ≠ []) (hms : ∀ q ∈ ms, q ∈ kws)
    (h : ∀ (D : Addr) (doc pm : Value) (an : Option Addr) (cdv ct : Value) (us mv ws : List Value), us.length = n → mv.length = ms.length → ws.length = ks.length →
      KwChain D ((ms.map (·.1)).zip mv) (bindArgs (PySem.W.fnOf x qual params body scope .none (.ref D) doc pm an cdv ct) ⟨us, ks.zip ws⟩) (ps.zip (us ++ picks src mv ws))) :
    ∃ mv : List Value, KBn K fd ps n ks (fun us ws => us ++ picks src mv ws) (fun vs zs => vs ++ picks src (ms.map (·.2)) zs) :=
  F.kbinds0 (ps := ps) n ks ms (fun us mv ws => us ++ picks src mv ws) hk hms (fun a b c => vals_app a (picks_vals b c src)) h
end
section
variable {X : Cx} {C : Cf} {W : WX} {k n : Nat} {f : Addr} {fd : FuncData} {ps ks : List Str} {g : List D → AH → Out D} {x c : Str} {p pos : Pos} {e : Expr} {es : List Expr} {mr mk : M (List D)} {kws : List Keyword} {src : Srcs} {ms : List (Str × V)}
theorem me_makeS (hK : X.K = C.K) (tk : Takes X W) (Mc : Mk X.K (He.ga X.K c) f) (F : FnM X C k f fd ps g) (hr : Room (k + 1) X.A) (hg : Gl X x) (hm : X.mg x = some (.ref (He.ga X.K c))) (hb : ∃ mv : List Value, KBn X.K fd ps (n + 1) ks (fun us ws => us ++ picks src mv ws) (fun vs zs => vs ++ picks src (ms.map (·.2)) zs))
    (hd : kdOk ms = true) (ha : MA X C none W (e :: es) mr) (hkw : MK X C none W kws mk)
    (hall : (backToKw pos (keywordEach kws X.env)).all (·.1.isSome) = true := by rfl) (hks : (backToKw pos (keywordEach kws X.env)).filterMap (·.1) = ks := by rfl) (hdb : (x == ("__debug__" : Str)) = false := by decide)
    (he : starEach (e :: es) X.env = (false, eval e X.env) :: starEach es X.env := by rfl) (hpl : ((backTo pos (starEach (e :: es) X.env)).any (·.1) || (backToKw pos (keywordEach kws X.env)).any (·.1.isNone)) = false := by rfl) :
    ME X C none W (.Call (.Name x p) (e :: es) kws pos) (makeK c n ks.length (putK src (kdD ms)) g ps.length mr mk) := by
  obtain ⟨mv, hb⟩ := hb
  exact me_makeK (gA := fun us ws => us ++ picks src mv ws) (gV := fun vs zs => vs ++ picks src (ms.map (·.2)) zs) hK tk Mc F hr hg hm hb (fun _ _ _ => rfl) (fun _ _ _ => rfl) (fun h k => hb.rel h k) (puts_k (filled_kd hd)) ha hkw hall hks hdb he hpl
end
end Ws
set_option Elab.async false
set_option linter.all false
set_option maxRecDepth 100000
set_option autoImplicit false
namespace Ws
open PySem PySem.Spec PyProof.Rows L2
end Ws
set_option Elab.async false
set_option linter.all false
set_option maxRecDepth 100000
set_option maxHeartbeats 2000000
set_option autoImplicit false
namespace GQ2
open PySem PySem.SeqAt GQ
open AutoSeq1 (wpAny_loadPart')
open MeetsSeq MeetsSeq2 MeetsSeq3 SeqRoads2
section
variable {prog : Program} {w : World} {A : Around} {R : Result → Shared → Prop}
/-- the two lists as they stand in s -/
structure TwoL (l b : Addr) (N : Nat) (s : Shared) (items items2 : Array Value) : Prop where
  l : ∃ d k n, s.heap.get? l = some { cls := .type "list", dict := d, data := .seq items n, slots := k }
  b : ∃ d k n, s.heap.get? b = some { cls := .type "list", dict := d, data := .seq items2 n, slots := k }
  nl : items.size = N
  nb : items2.size = N
structure LoopB (prog : Program) (w : World) (A : Around) (E : Value → Shared → Prop) (l b : Addr) (N : Nat) (bs : Nat → Bool) (I : Nat → Shared → Prop) : Prop where
  hh : ∀ i s, I i s → ∃ items items2, TwoL l b N s items items2
  ht : ∀ i, (∀ j, j < i → bs j = true) → ∀ s, I i s → ∀ items items2, TwoL l b N s items items2 → ∀ (h1 : i < items.size) (h2 : i < items2.size), wpAny (model prog w) A.in1 (eqBool items[i] items2[i]) (fun r s' => r = bs i ∧ I (i + 1) s') E s
theorem eq_loopB (l b : Addr) (N : Nat) (bs : Nat → Bool) (I : Nat → Shared → Prop) (L : LoopB prog w A (fun e s' => R (.error e) s') l b N bs I)
    (finT : (∀ j, j < N → bs j = true) → ∀ s, I N s → R (.ok (.ret (.bool true))) s) (finF : ∀ j, j < N → bs j = false → ∀ s, I (j + 1) s → R (.ok (.ret (.bool false))) s) (k : Nat) :
    ∀ i : Nat, N - i = k → i ≤ N → (∀ j, j < i → bs j = true) → ∀ s, I i s →
      wpAny (model prog w) A.in1 (Builtin.«list.__eq__.loop» ⟨[.ref l, .ref b, rawInt i, rawInt 2], []⟩) (FinOf prog w A R) (fun e s' => R (.error e) s') s := by
  induction k with
  | zero =>
    intro i hk hi hb s h
    obtain ⟨items, items2, ⟨⟨d1, k1, n1, hl1⟩, ⟨d2, k2, n2, hb1⟩, hs1, hs2⟩⟩ := L.hh _ _ h
    have hi' : i = N := by omega
    have hR : R (.ok (.ret (.bool true))) s := finT (hi' ▸ hb) s (hi' ▸ h)
    obtain ⟨hp, g, d, tk, os⟩ := s
    wp_walk using wpAny_loadPart' hl1, wpAny_loadPart' hb1
    have hi1 : items[((i : Nat) : Int).toNat]? = none := by simp; omega
    have hi2 : items2[((i : Nat) : Int).toNat]? = none := by simp; omega
    rw [hi1, hi2]
    wp_walk using wpAny_loadPart' hl1, wpAny_loadPart' hb1
    show R (.ok (.ret (.bool (items.size == items2.size)))) _
    rw [hs1, hs2]
    simpa using hR
  | succ k ih =>
    intro i hk hi hb s h
    obtain ⟨items, items2, T⟩ := L.hh _ _ h
    have T' := T
    obtain ⟨⟨d1, k1, n1, hl1⟩, ⟨d2, k2, n2, hb1⟩, hs1, hs2⟩ := T'
    have hlt : i < items.size := by omega
    have hlt2 : i < items2.size := by omega
    have ht := L.ht i hb s h items items2 T hlt hlt2
    obtain ⟨hp, g, d, tk, os⟩ := s
    wp_walk using wpAny_loadPart' hl1, wpAny_loadPart' hb1
    have hi1 : items[((i : Nat) : Int).toNat]? = some items[i] := by simp [hlt]
    have hi2 : items2[((i : Nat) : Int).toNat]? = some items2[i] := by simp [hlt2]
    have hc : ((i : Int) + 1) = ((i + 1 : Nat) : Int) := by omega
    rw [hi1, hi2]
    refine wpAny_bind (wpAny_mono ht (fun r s2 h2 => ?_) fun _ _ x => x)
    obtain ⟨hr, h2⟩ := h2
    subst hr
    cases hbi : bs i with
    | true =>
      have hrec := ih (i + 1) (by omega) (by omega) (fun j hj => by
        rcases Nat.lt_succ_iff_lt_or_eq.mp hj with z | z
        · exact hb j z
        · rw [z]; exact hbi) s2 h2
      obtain ⟨hp2, g2, d2, tk2, os2⟩ := s2
      wp_walk
      rw [hc]
      exact ⟨plainId_quiet plain_eq_loop _, codeAny_builtin entry_eq_loop (by
        rw [Around.under_plainId plain_eq_loop _]
        exact hrec)⟩
    | false =>
      have hR := finF i (by omega) hbi s2 h2
      obtain ⟨jt, jt2, ⟨⟨e1, f1, m1, gl1⟩, ⟨e2, f2, m2, gb1⟩, js1, js2⟩⟩ := L.hh _ _ h2
      obtain ⟨hp2, g2, d2, tk2, os2⟩ := s2
      have g1 : jt[((i : Nat) : Int).toNat]? = some (jt[i]'(by omega)) := by simp
      have g2 : jt2[((i : Nat) : Int).toNat]? = some (jt2[i]'(by omega)) := by simp
      wp_walk using wpAny_loadPart' gl1, wpAny_loadPart' gb1
      rw [g1, g2]
      wp_walk
      exact hR
theorem list_eqB (l b : Addr) (N : Nat) (bs : Nat → Bool) (I : Nat → Shared → Prop) (L : LoopB prog w A (fun e s' => R (.error e) s') l b N bs I)
    (finT : (∀ j, j < N → bs j = true) → ∀ s, I N s → R (.ok (.ret (.bool true))) s) (finF : ∀ j, j < N → bs j = false → ∀ s, I (j + 1) s → R (.ok (.ret (.bool false))) s) {s : Shared} (h : I 0 s) :
    wpAny (model prog w) A.in1 (Builtin.«list.__eq__» ⟨[.ref l, .ref b], []⟩) (FinOf prog w A R) (fun e s' => R (.error e) s') s := by
  obtain ⟨items, items2, ⟨⟨d1, k1, n1, hl1⟩, ⟨d2, k2, n2, hb1⟩, hs1, hs2⟩⟩ := L.hh _ _ h
  have hrec := eq_loopB (A := A) (R := R) l b N bs I L finT finF _ 0 rfl (Nat.zero_le _) (fun j hj => absurd hj (Nat.not_lt_zero _)) s h
  obtain ⟨hp, g, d, tk, os⟩ := s
  have f3 := AutoSeq1.sub_list_list
  have hne : ¬ (items.size != items2.size) = true := by simp [hs1, hs2]
  wp_walk using wpAny_loadPart' hl1, wpAny_loadPart' hb1
  exact ⟨plainId_quiet plain_eq_loop _, codeAny_builtin entry_eq_loop (by
    rw [Around.under_plainId plain_eq_loop _]
    exact hrec)⟩
theorem list_eqZ (l b : Addr) {items items2 : Array Value} {s : Shared} {d1 d2 : Option Addr} {k1 k2 : Array (Option Value)} {n1 n2 : Nat} (hl1 : s.heap.get? l = some { cls := .type "list", dict := d1, data := .seq items n1, slots := k1 }) (hb1 : s.heap.get? b = some { cls := .type "list", dict := d2, data := .seq items2 n2, slots := k2 })
    (ne : items.size ≠ items2.size) (h : R (.ok (.ret (.bool false))) s) : wpAny (model prog w) A.in1 (Builtin.«list.__eq__» ⟨[.ref l, .ref b], []⟩) (FinOf prog w A R) (fun e s' => R (.error e) s') s := by
  obtain ⟨hp, g, d, tk, os⟩ := s
  have f3 := AutoSeq1.sub_list_list
  have hne : (items.size != items2.size) = true := by simpa using ne
  wp_walk using wpAny_loadPart' hl1, wpAny_loadPart' hb1
  exact h
theorem ne_loopB (l b : Addr) (N : Nat) (bs : Nat → Bool) (I : Nat → Shared → Prop) (L : LoopB prog w A (fun e s' => R (.error e) s') l b N bs I)
    (finT : (∀ j, j < N → bs j = true) → ∀ s, I N s → R (.ok (.ret (.bool false))) s) (finF : ∀ j, j < N → bs j = false → ∀ s, I (j + 1) s → R (.ok (.ret (.bool true))) s) (k : Nat) :
    ∀ i : Nat, N - i = k → i ≤ N → (∀ j, j < i → bs j = true) → ∀ s, I i s →
      wpAny (model prog w) A.in1 (Builtin.«list.__eq__.loop» ⟨[.ref l, .ref b, rawInt i, rawInt 3], []⟩) (FinOf prog w A R) (fun e s' => R (.error e) s') s := by
  induction k with
  | zero =>
    intro i hk hi hb s h
    obtain ⟨items, items2, ⟨⟨d1, k1, n1, hl1⟩, ⟨d2, k2, n2, hb1⟩, hs1, hs2⟩⟩ := L.hh _ _ h
    have hi' : i = N := by omega
    have hR : R (.ok (.ret (.bool false))) s := finT (hi' ▸ hb) s (hi' ▸ h)
    obtain ⟨hp, g, d, tk, os⟩ := s
    wp_walk using wpAny_loadPart' hl1, wpAny_loadPart' hb1
    have hi1 : items[((i : Nat) : Int).toNat]? = none := by simp; omega
    have hi2 : items2[((i : Nat) : Int).toNat]? = none := by simp; omega
    rw [hi1, hi2]
    wp_walk using wpAny_loadPart' hl1, wpAny_loadPart' hb1
    show R (.ok (.ret (.bool (items.size != items2.size)))) _
    rw [hs1, hs2]
    simpa using hR
  | succ k ih =>
    intro i hk hi hb s h
    obtain ⟨items, items2, T⟩ := L.hh _ _ h
    have T' := T
    obtain ⟨⟨d1, k1, n1, hl1⟩, ⟨d2, k2, n2, hb1⟩, hs1, hs2⟩ := T'
    have hlt : i < items.size := by omega
    have hlt2 : i < items2.size := by omega
    have ht := L.ht i hb s h items items2 T hlt hlt2
    obtain ⟨hp, g, d, tk, os⟩ := s
    wp_walk using wpAny_loadPart' hl1, wpAny_loadPart' hb1
    have hi1 : items[((i : Nat) : Int).toNat]? = some items[i] := by simp [hlt]
    have hi2 : items2[((i : Nat) : Int).toNat]? = some items2[i] := by simp [hlt2]
    have hc : ((i : Int) + 1) = ((i + 1 : Nat) : Int) := by omega
    rw [hi1, hi2]
    refine wpAny_bind (wpAny_mono ht (fun r s2 h2 => ?_) fun _ _ x => x)
    obtain ⟨hr, h2⟩ := h2
    subst hr
    cases hbi : bs i with
    | true =>
      have hrec := ih (i + 1) (by omega) (by omega) (fun j hj => by
        rcases Nat.lt_succ_iff_lt_or_eq.mp hj with z | z
        · exact hb j z
        · rw [z]; exact hbi) s2 h2
      obtain ⟨hp2, g2, d2, tk2, os2⟩ := s2
      wp_walk
      rw [hc]
      exact ⟨plainId_quiet plain_eq_loop _, codeAny_builtin entry_eq_loop (by
        rw [Around.under_plainId plain_eq_loop _]
        exact hrec)⟩
    | false =>
      have hR := finF i (by omega) hbi s2 h2
      obtain ⟨jt, jt2, ⟨⟨e1, f1, m1, gl1⟩, ⟨e2, f2, m2, gb1⟩, js1, js2⟩⟩ := L.hh _ _ h2
      obtain ⟨hp2, g2, d2, tk2, os2⟩ := s2
      have g1 : jt[((i : Nat) : Int).toNat]? = some (jt[i]'(by omega)) := by simp
      have g2 : jt2[((i : Nat) : Int).toNat]? = some (jt2[i]'(by omega)) := by simp
      wp_walk using wpAny_loadPart' gl1, wpAny_loadPart' gb1
      rw [g1, g2]
      wp_walk
      exact hR
theorem list_neB (l b : Addr) (N : Nat) (bs : Nat → Bool) (I : Nat → Shared → Prop) (L : LoopB prog w A (fun e s' => R (.error e) s') l b N bs I)
    (finT : (∀ j, j < N → bs j = true) → ∀ s, I N s → R (.ok (.ret (.bool false))) s) (finF : ∀ j, j < N → bs j = false → ∀ s, I (j + 1) s → R (.ok (.ret (.bool true))) s) {s : Shared} (h : I 0 s) :
    wpAny (model prog w) A.in1 (Builtin.«list.__ne__» ⟨[.ref l, .ref b], []⟩) (FinOf prog w A R) (fun e s' => R (.error e) s') s := by
  obtain ⟨items, items2, ⟨⟨d1, k1, n1, hl1⟩, ⟨d2, k2, n2, hb1⟩, hs1, hs2⟩⟩ := L.hh _ _ h
  have hrec := ne_loopB (A := A) (R := R) l b N bs I L finT finF _ 0 rfl (Nat.zero_le _) (fun j hj => absurd hj (Nat.not_lt_zero _)) s h
  obtain ⟨hp, g, d, tk, os⟩ := s
  have f3 := AutoSeq1.sub_list_list
  have hne : ¬ (items.size != items2.size) = true := by simp [hs1, hs2]
  wp_walk using wpAny_loadPart' hl1, wpAny_loadPart' hb1
  exact ⟨plainId_quiet plain_eq_loop _, codeAny_builtin entry_eq_loop (by
    rw [Around.under_plainId plain_eq_loop _]
    exact hrec)⟩
theorem list_neZ (l b : Addr) {items items2 : Array Value} {s : Shared} {d1 d2 : Option Addr} {k1 k2 : Array (Option Value)} {n1 n2 : Nat} (hl1 : s.heap.get? l = some { cls := .type "list", dict := d1, data := .seq items n1, slots := k1 }) (hb1 : s.heap.get? b = some { cls := .type "list", dict := d2, data := .seq items2 n2, slots := k2 })
    (ne : items.size ≠ items2.size) (h : R (.ok (.ret (.bool true))) s) : wpAny (model prog w) A.in1 (Builtin.«list.__ne__» ⟨[.ref l, .ref b], []⟩) (FinOf prog w A R) (fun e s' => R (.error e) s') s := by
  obtain ⟨hp, g, d, tk, os⟩ := s
  have f3 := AutoSeq1.sub_list_list
  have hne : (items.size != items2.size) = true := by simpa using ne
  wp_walk using wpAny_loadPart' hl1, wpAny_loadPart' hb1
  exact h
end
section
variable {prog : Program} {w : World} {A : Around} {E : Value → Shared → Prop} {s : Shared}
theorem rc_eqB {l b : Addr} {N : Nat} {Q : Value → Shared → Prop} (hu : A.units < cLine) (bs : Nat → Bool) (I : Nat → Shared → Prop) (L : LoopB prog w A E l b N bs I)
    (finT : (∀ j, j < N → bs j = true) → ∀ s, I N s → Q (.bool true) s) (finF : ∀ j, j < N → bs j = false → ∀ s, I (j + 1) s → Q (.bool false) s) (h : I 0 s) : wpAny (model prog w) A (richCompare .Eq (.ref l) (.ref b)) Q E s := by
  obtain ⟨items, items2, ⟨⟨d1, k1, n1, hl1⟩, ⟨d2, k2, n2, hb1⟩, _, _⟩⟩ := L.hh _ _ h
  refine wpAny_richCompare_same_room (op := .Eq) ⟨_, hl1, rfl⟩ ⟨_, hb1, rfl⟩ F.slot_list_eq (call_here F.slot_list_eq ⟨_, hl1, rfl⟩ F.entry_list_eq (F.args_list_eq_2 _ _) ?_) hu
  exact list_eqB (R := wants (fun v s' => v ≠ .notImplemented ∧ Q v s') E) l b N bs I L (fun hb s' q => ⟨(fun x => nomatch x), finT hb s' q⟩) (fun j hj hb s' q => ⟨(fun x => nomatch x), finF j hj hb s' q⟩) h
theorem rc_eqZ {l b : Addr} {items items2 : Array Value} {Q : Value → Shared → Prop} (hu : A.units < cLine) (hl : s.heap.IsList l items) (hb : s.heap.IsList b items2) (ne : items.size ≠ items2.size) (h : Q (.bool false) s) : wpAny (model prog w) A (richCompare .Eq (.ref l) (.ref b)) Q E s := by
  obtain ⟨⟨c1, d1, e1, k1⟩, g1, t1, m1, x1⟩ := id hl
  obtain ⟨⟨c2, d2, e2, k2⟩, g2, t2, m2, x2⟩ := id hb
  dsimp only at t1 x1 t2 x2
  subst t1 x1 t2 x2
  refine wpAny_richCompare_same_room (op := .Eq) ⟨_, g1, rfl⟩ ⟨_, g2, rfl⟩ F.slot_list_eq (call_here F.slot_list_eq ⟨_, g1, rfl⟩ F.entry_list_eq (F.args_list_eq_2 _ _) ?_) hu
  exact list_eqZ (R := wants (fun v s' => v ≠ .notImplemented ∧ Q v s') E) l b g1 g2 ne ⟨(fun x => nomatch x), h⟩
theorem rc_neB {l b : Addr} {N : Nat} {Q : Value → Shared → Prop} (hu : A.units < cLine) (bs : Nat → Bool) (I : Nat → Shared → Prop) (L : LoopB prog w A E l b N bs I)
    (finT : (∀ j, j < N → bs j = true) → ∀ s, I N s → Q (.bool false) s) (finF : ∀ j, j < N → bs j = false → ∀ s, I (j + 1) s → Q (.bool true) s) (h : I 0 s) : wpAny (model prog w) A (richCompare .NotEq (.ref l) (.ref b)) Q E s := by
  obtain ⟨items, items2, ⟨⟨d1, k1, n1, hl1⟩, ⟨d2, k2, n2, hb1⟩, _, _⟩⟩ := L.hh _ _ h
  refine wpAny_richCompare_same_room (op := .NotEq) ⟨_, hl1, rfl⟩ ⟨_, hb1, rfl⟩ F.slot_list_ne (call_here F.slot_list_ne ⟨_, hl1, rfl⟩ F.entry_list_ne (F.args_list_ne_2 _ _) ?_) hu
  exact list_neB (R := wants (fun v s' => v ≠ .notImplemented ∧ Q v s') E) l b N bs I L (fun hb s' q => ⟨(fun x => nomatch x), finT hb s' q⟩) (fun j hj hb s' q => ⟨(fun x => nomatch x), finF j hj hb s' q⟩) h
theorem rc_neZ {l b : Addr} {items items2 : Array Value} {Q : Value → Shared → Prop} (hu : A.units < cLine) (hl : s.heap.IsList l items) (hb : s.heap.IsList b items2) (ne : items.size ≠ items2.size) (h : Q (.bool true) s) : wpAny (model prog w) A (richCompare .NotEq (.ref l) (.ref b)) Q E s := by
  obtain ⟨⟨c1, d1, e1, k1⟩, g1, t1, m1, x1⟩ := id hl
  obtain ⟨⟨c2, d2, e2, k2⟩, g2, t2, m2, x2⟩ := id hb
  dsimp only at t1 x1 t2 x2
  subst t1 x1 t2 x2
  refine wpAny_richCompare_same_room (op := .NotEq) ⟨_, g1, rfl⟩ ⟨_, g2, rfl⟩ F.slot_list_ne (call_here F.slot_list_ne ⟨_, g1, rfl⟩ F.entry_list_ne (F.args_list_ne_2 _ _) ?_) hu
  exact list_neZ (R := wants (fun v s' => v ≠ .notImplemented ∧ Q v s') E) l b g1 g2 ne ⟨(fun x => nomatch x), h⟩
end
end GQ2
set_option Elab.async false
set_option linter.all false
set_option maxRecDepth 100000
set_option maxHeartbeats 2000000
set_option autoImplicit false
namespace Ws
open PySem PySem.Spec PyProof.Rows L2
mutual
def apartD (kt : Kit) : D → D → Bool
  | .bl a, .bl b => decide (a ≠ b)
  | .int a, .int b => decide (a ≠ b)
  | .str a, .str b => decide (a ≠ b)
  | .ins c fs, .ins c' gs => (decide (Ty.c c ∈ kt.tys) && (decide (Ty.c c' ∈ kt.tys) && kt.cls.any fun u => kt.sub (.c c) u != kt.sub (.c c') u)) || apartF kt fs gs
  | _, _ => false
def apartF (kt : Kit) : List (Str × D) → List (Str × D) → Bool
  | (n, d) :: fs, (m, e) :: gs => (decide (n = m) && apartD kt d e) || apartF kt fs gs
  | _, _ => false
end
mutual
theorem apart_ok {C : Cf} {kt : Kit} (hk : KitOk C.K kt) {F : Hp} {ρ : Rho} : ∀ {x y : D} {v : V}, apartD kt x y = true → R C F ρ x v → R C F ρ y v → False
  | .bl a, .bl b, v, h, rx, ry => by
    unfold apartD at h
    unfold R at rx ry
    rw [rx] at ry
    injection ry with e
    exact of_decide_eq_true h e
  | .int a, .int b, v, h, rx, ry => by
    unfold apartD at h
    unfold R at rx ry
    rw [rx] at ry
    injection ry with e
    exact of_decide_eq_true h e
  | .str a, .str b, v, h, rx, ry => by
    unfold apartD at h
    unfold R at rx ry
    rw [rx] at ry
    injection ry with e
    exact of_decide_eq_true h e
  | .ins c fs, .ins c' gs, v, h, rx, ry => by
    unfold apartD at h
    unfold R at rx ry
    obtain ⟨a, dx, ws, e1, f1, r1⟩ := rx
    obtain ⟨b, dy, us, e2, f2, r2⟩ := ry
    rw [e1] at e2
    injection e2 with e2
    subst e2
    rw [f1] at f2
    have f3 := Option.some.inj f2
    injection f3 with ec _ eg
    subst eg
    rw [Bool.or_eq_true] at h
    rcases h with h | h
    · simp only [Bool.and_eq_true, decide_eq_true_eq] at h
      obtain ⟨h1, h2, h3⟩ := h
      obtain ⟨u, hu, hne⟩ := List.any_eq_true.mp h3
      have o1 := hk.one _ h1 u hu
      have o2 := hk.one _ h2 u hu
      have ev : (Ty.c c).v C.K = (Ty.c c').v C.K := by show Value.ref _ = Value.ref _; rw [ec]
      rw [ev, o2] at o1
      have o1 := Option.some.inj o1
      rw [o1] at hne
      simp at hne
    · exact apartF_ok hk h r1 r2
theorem apartF_ok {C : Cf} {kt : Kit} (hk : KitOk C.K kt) {F : Hp} {ρ : Rho} : ∀ {fs gs : List (Str × D)} {ws : List (Str × V)}, apartF kt fs gs = true → Rf C F ρ fs ws → Rf C F ρ gs ws → False
  | (n, d) :: fs, (m, e) :: gs, ws, h, r1, r2 => by
    unfold apartF at h
    unfold Rf at r1 r2
    obtain ⟨v, t, e1, rv, q1⟩ := r1
    obtain ⟨u, t2, e2, ru, q2⟩ := r2
    rw [e1] at e2
    injection e2 with e2 e3
    injection e2 with _ e4
    subst e4 e3
    rw [Bool.or_eq_true] at h
    rcases h with h | h
    · rw [Bool.and_eq_true] at h
      exact apart_ok hk h.2 rv ru
    · exact apartF_ok hk h q1 q2
end
def ElOk (X : Cx) (C : Cf) (n : Nat) (el : D → D → Option Bool) : Prop :=
  ∀ (A : Around) (pins : List (Addr × Obj)) (s : Shared) (σ : L2.St) (sx : Sx) (x y : D) (v u : V) (v' u' : Value) (b : Bool), L2.Sub X n A → Inv X pins σ sx.H s → Good C sx → R C sx.F sx.ρ x v → R C sx.F sx.ρ y u → RelV v v' → RelV u u' → el x y = some b →
    wpAny (model X.prog X.w) A (eqBool v' u') (fun r s' => r = b ∧ ∃ sx', Fwd sx sx' ∧ Good C sx' ∧ sx'.ah = sx.ah ∧ Inv X pins σ sx'.H s') X.xe s
def elF : D → D → Option Bool
  | .non, .non => some true
  | .bl a, .bl b => some (a == b)
  | .int a, .int b => some (a == b)
  | .str a, .str b => some (a == b)
  | _, _ => none
theorem elF_ok {X : Cx} {C : Cf} {n : Nat} : ElOk X C n elF := by
  intro A pins s σ sx x y v u v' u' b sb I g rx ry rv ru h
  have key : ∃ b', b' = b ∧ flatV v = true ∧ flatV u = true ∧ eqV v u = b' := by
    unfold elF at h
    split at h
    · rw [rx.non_eq, ry.non_eq]; cases h; exact ⟨_, rfl, rfl, rfl, rfl⟩
    · rw [rx.bl_eq, ry.bl_eq]; cases h; exact ⟨_, rfl, rfl, rfl, rfl⟩
    · rw [rx.int_eq, ry.int_eq]; cases h; exact ⟨_, rfl, rfl, rfl, rfl⟩
    · rw [rx.str_eq, ry.str_eq]; cases h; exact ⟨_, rfl, rfl, rfl, rfl⟩
    · cases h
  obtain ⟨b', rfl, fv, fu, e⟩ := key
  have q := eqAt_V (A := A) (s := s) rv ru fv fu
  rw [e] at q
  exact q X.prog X.w X.xe _ ⟨rfl, sx, .refl sx, g, rfl, I⟩
def elOr (f g : D → D → Option Bool) (x y : D) : Option Bool := match f x y with
  | some b => some b
  | none => g x y
theorem elOr_ok {X : Cx} {C : Cf} {n : Nat} {f g : D → D → Option Bool} (hf : ElOk X C n f) (hg : ElOk X C n g) : ElOk X C n (elOr f g) := by
  intro A pins s σ sx x y v u v' u' b sb I gd rx ry rv ru h
  unfold elOr at h
  split at h
  · rename_i b' e
    cases h
    exact hf A pins s σ sx x y v u v' u' _ sb I gd rx ry rv ru e
  · exact hg A pins s σ sx x y v u v' u' _ sb I gd rx ry rv ru h
/-- x == y of two instances, by the own __eq__ of x's class -/
def ownB (c : Str) (kt : Kit) (g : List D → AH → Out D) (x y : D) : Option Bool := match x, y with
  | .ins c1 fs, .ins c2 gs => if c1 = c ∧ Ty.c c2 ∈ kt.tys ∧ pureDs 0 [.ins c1 fs, .ins c2 gs] = true then (match g [.ins c1 fs, .ins c2 gs] [] with
    | .ok (.bl b) _ => if (b || apartD kt (.ins c1 fs) (.ins c2 gs)) = true then some b else none
    | _ => none) else none
  | _, _ => none
section
variable {X : Cx} {C : Cf} {k : Nat} {f : Addr} {c : Str} {kt : Kit} {fd : FuncData} {ps : List Str} {g : List D → AH → Out D}
theorem rcA_own {sp : L2.Sp} {cA : Addr} (F : FnOk X.prog X.w X.K X.mg X.base (L2.CX X.prog X.w) k f fd ps sp) (hb : L2.Binds X.K fd ps []) (hs : PySem.W.findIn X.K (.ref cA) "__eq__" = some (some (.ref f))) (hf : PySem.W.isFn X.K (.ref f) = true)
    {A : Around} {pins : List (Addr × Obj)} {s : Shared} {σ : L2.St} {H : Hp} {a dx : Addr} {fs : List (Str × V)} {t : Value} {y : V} {u : Value} {Q : Bool → Hp → Prop} (sb : L2.Sub X k A) (I : Inv X pins σ H s) (ha : H a = some (.ins cA dx fs)) (ty : TyX X.K H y t) (nf : PySem.W.notFirst X.K cA t = true)
    (ry : RelV y u) (hsp : sp [.ref a, y] H (fun v H' => ∃ b, v = .bl b ∧ Q b H') (fun _ _ _ => False)) :
    wpAny (model X.prog X.w) A (PySem.call (.ref f) [.ref a, u]) (fun r s' => ∃ b H', r = .bool b ∧ Inv X pins σ H' s' ∧ Q b H') X.xe s := by
  have e0 : Env0 X.prog X.w X.K X.mg X.base A X.stack s H := by
    have e := I.env0
    exact ⟨by rw [sb.fr]; exact e.frames, e.mod, e.bs, e.bsz, e.funs, e.frf, e.hok, e.bare⟩
  have hl := F.len _ _ _ _ hsp
  have r2 : Vals [V.ref a, y] [Value.ref a, u] := .cons rfl (.cons ry .nil)
  refine wpAny_call (codeAny_mono (F.run A X.stack s H ⟨[.ref a, u], []⟩ [.ref a, u] [.ref a, y] _ _ sb.room e0 (by
    have := hb s [.ref a, u] I.kIn (by simpa using hl)
    simpa using this) r2 hsp) fun r s' hq => ?_)
  cases r with
  | error e => exact passL pins σ H s e s' I hq
  | ok fl =>
    cases fl with
    | ret w =>
      obtain ⟨z, H', I', rz, b, rfl, q⟩ := I.after hq
      cases rz
      exact ⟨b, H', rfl, I', q⟩
    | next => exact False.elim hq
    | brk => exact False.elim hq
    | cont => exact False.elim hq
theorem sp_own {n : Nat} {sx : Sx} {x y : D} {v u : V} {b : Bool} {h' : AH} (gd : Good C sx) (rx : R C sx.F sx.ρ x v) (ry : R C sx.F sx.ρ y u) (p : pureDs 0 [x, y] = true) (e : g [x, y] [] = .ok (.bl b) h') : spM C 2 g [v, u] sx.H (fun w H' => ∃ b', w = .bl b' ∧ (b' = b ∧ ∃ sx', Fwd sx sx' ∧ Good C sx' ∧ sx'.ah = sx.ah ∧ sx'.H = H')) (fun _ _ _ => False) := by
  refine spM.call (W := WF) (σ := []) (ds := [x, y]) (.inr p) gd ?_ rfl ?_
  · unfold Rs
    refine ⟨_, _, rfl, rx, ?_⟩
    unfold Rs
    exact ⟨_, _, rfl, ry, by unfold Rs; rfl⟩
  · unfold Ws.call
    rw [if_pos p, e]
    dsimp only
    rw [if_pos (by rfl)]
    intro s' w e1 f1 g1 r1
    exact ⟨b, r1.bl_eq, rfl, s', f1, g1, e1, rfl⟩
theorem ownB_ok (F : FnOk X.prog X.w X.K X.mg X.base (L2.CX X.prog X.w) k f fd ps (spM C 2 g)) (hb : L2.Binds X.K fd ps []) (hs : PySem.W.findIn X.K (.ref (He.ga C.K c)) "__eq__" = some (some (.ref f))) (hf : PySem.W.isFn X.K (.ref f) = true)
    (hC : C.K = X.K) (hk : KitOk C.K kt) (hn : ∀ t ∈ kt.tys, PySem.W.notFirst C.K (He.ga C.K c) (t.v C.K) = true) : ElOk X C k (ownB c kt g) := by
  intro A pins s σ sx x y v u v' u' b sb I gd rx ry rv ru h
  unfold ownB at h
  split at h
  case h_2 => cases h
  rename_i c1 fs c2 gs
  split at h
  case isFalse => cases h
  rename_i hc
  obtain ⟨rfl, ht, p⟩ := hc
  split at h
  case h_2 => cases h
  rename_i b0 h0 e0
  split at h
  case isFalse => cases h
  rename_i hap
  cases h
  obtain ⟨a, dx, ws, rfl, ea, _⟩ := insOf_ok (c := c1) (fs := fs) gd rx rfl
  obtain ⟨a2, dx2, ws2, rfl, ea2, _⟩ := insOf_ok (c := c2) (fs := gs) gd ry rfl
  cases rv
  cases ru
  by_cases haa : a = a2
  · subst haa
    rw [Bool.or_eq_true] at hap
    have hb1 : b = true := by
      rcases hap with z | z
      · exact z
      · exact (apart_ok hk z rx ry).elim
    subst hb1
    exact SeqAt.EqAt.same (A := A) (s := s) (.ref a) X.prog X.w X.xe _ ⟨rfl, sx, .refl sx, gd, rfl, I⟩
  · refine GQ.eqBool_refG haa ?_
    have ty := tyOf_ok gd ry (t := .c c2) rfl hk.tys ht
    obtain ⟨mA, J, _⟩ := ins_get I.hok ea
    obtain ⟨od, J, _⟩ := J.look
    rw [hC] at ty hs hn ea J
    obtain ⟨P, Z, pz, hx⟩ := kit_of I (x := .ref a2) (u := Value.ref a2) rfl ty
    obtain ⟨m, hF⟩ := I.fr
    refine PySem.W.cmp_K (op := .Eq) (tb := _) sb.room.units0 hF I.ok.mod.kin J (Z.ty _ _ I.kIn pz) (hn _ ht) hs hf ?_
    refine wpAny_mono (rcA_own F hb hs hf sb I ea ty (hn _ ht) rfl (sp_own (n := 2) gd rx ry p e0)) (fun r s' q => ?_) fun _ _ z => z
    obtain ⟨b1, H', rfl, I', rfl, sx', f1, g1, e1, rfl⟩ := q
    exact ⟨b1, rfl, rfl, sx', f1, g1, e1, I'⟩
end
end Ws
namespace Ws
open L2
theorem ElOk.mono {X : Cx} {C : Cf} {n m : Nat} {el : D → D → Option Bool} (h : n ≤ m) (k : ElOk X C n el) : ElOk X C m el := fun A pins s σ sx x y v u v' u' b sb => k A pins s σ sx x y v u v' u' b (sb.mono h)
end Ws
set_option Elab.async false
set_option linter.all false
set_option maxRecDepth 100000
set_option maxHeartbeats 2000000
set_option autoImplicit false
namespace Ws
open PySem PySem.Spec PyProof.Rows L2
def lstE (el : D → D → Option Bool) : List D → List D → Option Bool
  | [], [] => some true
  | x :: xs, y :: ys => match el x y with
    | some true => lstE el xs ys
    | some false => some false
    | none => none
  | _, _ => none
def bitE (el : D → D → Option Bool) (xs ys : List D) (i : Nat) : Bool := match xs[i]?, ys[i]? with
  | some x, some y => (el x y).getD false
  | _, _ => false
theorem lstE_at {el : D → D → Option Bool} : ∀ {xs ys : List D} {b : Bool}, lstE el xs ys = some b → ∀ i x y, xs[i]? = some x → ys[i]? = some y → (∀ j, j < i → bitE el xs ys j = true) → el x y = some (bitE el xs ys i)
  | [], ys, b, h, i, x, y, hx, _, _ => by simp at hx
  | _ :: _, [], b, h, i, x, y, _, hy, _ => by simp at hy
  | x0 :: xs, y0 :: ys, b, h, i, x, y, hx, hy, hj => by
    unfold lstE at h
    cases i with
    | zero =>
      simp at hx hy
      subst hx hy
      show el x0 y0 = some ((el x0 y0).getD false)
      cases q : el x0 y0 with
      | none => rw [q] at h; cases h
      | some b => rfl
    | succ i =>
      have z := hj 0 (Nat.succ_pos _)
      have z : (el x0 y0).getD false = true := z
      cases q : el x0 y0 with
      | none => rw [q] at h; cases h
      | some b0 =>
        rw [q] at z h
        have z : b0 = true := z
        subst z
        have hx : xs[i]? = some x := by simpa using hx
        have hy : ys[i]? = some y := by simpa using hy
        exact lstE_at h i x y hx hy fun j hj' => hj (j + 1) (Nat.succ_lt_succ hj')
theorem lstE_all {el : D → D → Option Bool} : ∀ {xs ys : List D} {b : Bool}, lstE el xs ys = some b → ((∀ j, j < xs.length → bitE el xs ys j = true) → b = true) ∧ ∀ j, j < xs.length → bitE el xs ys j = false → b = false
  | [], [], b, h => by
    unfold lstE at h
    cases h
    exact ⟨fun _ => rfl, fun j hj => absurd hj (Nat.not_lt_zero _)⟩
  | [], _ :: _, b, h => by unfold lstE at h; cases h
  | _ :: _, [], b, h => by unfold lstE at h; cases h
  | x0 :: xs, y0 :: ys, b, h => by
    unfold lstE at h
    cases q : el x0 y0 with
    | none => rw [q] at h; cases h
    | some b0 =>
      rw [q] at h
      have b00 : bitE el (x0 :: xs) (y0 :: ys) 0 = b0 := by
        show (el x0 y0).getD false = b0
        rw [q]; rfl
      cases b0 with
      | true =>
        obtain ⟨h1, h2⟩ := lstE_all h
        refine ⟨fun hj => h1 fun j hj' => hj (j + 1) (Nat.succ_lt_succ hj'), fun j hj hb => ?_⟩
        cases j with
        | zero => rw [b00] at hb; cases hb
        | succ j => exact h2 j (Nat.lt_of_succ_lt_succ hj) hb
      | false =>
        have h : b = false := (Option.some.inj h).symm
        subst h
        refine ⟨fun hj => ?_, fun _ _ _ => rfl⟩
        have := hj 0 (Nat.succ_pos _)
        rw [b00] at this
        cases this
def gEqOL (el : D → D → Option Bool) (neg : Bool) (x y : D) (h : AH) : Out D := match lstOf x h, lstOf y h with
  | some xs, some ys => if xs.length = ys.length then (match lstE el xs ys with
    | some b => .ok (.bl (b != neg)) h
    | none => .bad) else .ok (.bl neg) h
  | _, _ => .bad
def rOL (C : Cf) (el : D → D → Option Bool) (neg : Bool) : R2 := fun v u H Q => ∃ (sx : Sx) (x y : D) (b : Bool), sx.H = H ∧ Good C sx ∧ R C sx.F sx.ρ x v ∧ R C sx.F sx.ρ y u ∧ gEqOL el neg x y sx.ah = .ok (.bl b) sx.ah ∧ ∀ sx', Fwd sx sx' → Good C sx' → sx'.ah = sx.ah → Q (.bl b) sx'.H
theorem os_eqOL {C : Cf} {el : D → D → Option Bool} {neg : Bool} : OpS C (rOL C el neg) (gEqOL el neg) := by
  intro W σ s x y v u Q g rx ry h
  have key : ∃ b, gEqOL el neg x y s.ah = .ok (.bl b) s.ah := by
    cases e : gEqOL el neg x y s.ah with
    | bad => rw [e] at h; exact h.elim
    | ok d h' =>
      unfold gEqOL at e
      split at e
      · split at e
        · split at e
          · cases e; exact ⟨_, rfl⟩
          · cases e
        · cases e; exact ⟨_, rfl⟩
      · cases e
    | exc x h' =>
      unfold gEqOL at e
      split at e
      · split at e
        · split at e <;> cases e
        · cases e
      · cases e
  obtain ⟨b, e⟩ := key
  rw [e] at h
  exact ⟨s, x, y, b, rfl, g, rx, ry, e, fun s' f g' ea => h s' (.bl b) ea f g' (by show R C _ _ _ _; unfold R; rfl)⟩
section
variable {X : Cx} {C : Cf} {n : Nat} {el : D → D → Option Bool} {neg : Bool}
theorem two_at {pins : List (Addr × Obj)} {σ : L2.St} {sx : Sx} {s : Shared} {a b : Addr} {x y : D} {xs ys : List D} (g : Good C sx) (I : Inv X pins σ sx.H s) (r1 : R C sx.F sx.ρ x (.ref a)) (r2 : R C sx.F sx.ρ y (.ref b)) (e1 : lstOf x sx.ah = some xs) (e2 : lstOf y sx.ah = some ys) (hl : xs.length = ys.length) :
    ∃ (vs us : List V) (its its2 : List Value), Rs C sx.F sx.ρ xs vs ∧ Rs C sx.F sx.ρ ys us ∧ Vals vs its ∧ Vals us its2 ∧ GQ2.TwoL a b xs.length s its.toArray its2.toArray := by
  obtain ⟨a', vs, ea, ha, ra⟩ := lstOf_ok g r1 e1
  obtain ⟨b', us, eb, hb, rb⟩ := lstOf_ok g r2 e2
  cases ea
  cases eb
  obtain ⟨its, v1, p1, _⟩ := I.list (SqL.of ha)
  obtain ⟨its2, v2, p2, _⟩ := I.list (SqL.of hb)
  refine ⟨vs, us, its, its2, ra, rb, v1, v2, ?_, ?_, ?_, ?_⟩
  · obtain ⟨⟨c1, d1, t1, k1⟩, g1, q1, m1, x1⟩ := id p1.isList
    dsimp only at q1 x1
    subst q1 x1
    exact ⟨_, _, _, g1⟩
  · obtain ⟨⟨c1, d1, t1, k1⟩, g1, q1, m1, x1⟩ := id p2.isList
    dsimp only at q1 x1
    subst q1 x1
    exact ⟨_, _, _, g1⟩
  · rw [List.size_toArray, ← v1.length, ← ra.length]
  · rw [List.size_toArray, ← v2.length, ← rb.length, hl]
theorem two_un {a b : Addr} {N : Nat} {s : Shared} {i1 i2 j1 j2 : Array Value} (p : GQ2.TwoL a b N s i1 i2) (q : GQ2.TwoL a b N s j1 j2) : i1 = j1 ∧ i2 = j2 := by
  obtain ⟨⟨_, _, _, h1⟩, ⟨_, _, _, h2⟩, _, _⟩ := p
  obtain ⟨⟨_, _, _, h3⟩, ⟨_, _, _, h4⟩, _, _⟩ := q
  rw [h1] at h3
  rw [h2] at h4
  have e1 := Option.some.inj h3
  have e2 := Option.some.inj h4
  injection e1 with _ _ e1
  injection e2 with _ _ e2
  injection e1 with e1
  injection e2 with e2
  exact ⟨e1, e2⟩
theorem loop_of (he : ElOk X C n el) (hr : Room (n + 1) X.A) {pins : List (Addr × Obj)} {σ : L2.St} {sx : Sx} {a b : Addr} {x y : D} {xs ys : List D} {b0 : Bool} (r1 : R C sx.F sx.ρ x (.ref a)) (r2 : R C sx.F sx.ρ y (.ref b)) (e1 : lstOf x sx.ah = some xs) (e2 : lstOf y sx.ah = some ys) (hl : xs.length = ys.length) (hb : lstE el xs ys = some b0) :
    GQ2.LoopB X.prog X.w X.A X.xe a b xs.length (bitE el xs ys) (fun _ s' => ∃ sx', Fwd sx sx' ∧ Good C sx' ∧ sx'.ah = sx.ah ∧ Inv X pins σ sx'.H s') := by
  refine ⟨fun i s h => ?_, fun i hj s h items items2 T h1 h2 => ?_⟩
  · obtain ⟨sx', f, g, ea, I⟩ := h
    obtain ⟨_, _, its, its2, _, _, _, _, T⟩ := two_at g I (r1.fwd f) (r2.fwd f) (ea ▸ e1) (ea ▸ e2) hl
    exact ⟨_, _, T⟩
  · obtain ⟨sx', f, g, ea, I⟩ := h
    obtain ⟨vs, us, its, its2, ra, rb, v1, v2, T'⟩ := two_at g I (r1.fwd f) (r2.fwd f) (ea ▸ e1) (ea ▸ e2) hl
    obtain ⟨rfl, rfl⟩ := two_un T T'
    have hi : i < xs.length := by have := T.nl; omega
    have hi2 : i < ys.length := by omega
    obtain ⟨v, ev, rv⟩ := ra.get (List.getElem?_eq_getElem hi)
    obtain ⟨u, eu, ru⟩ := rb.get (List.getElem?_eq_getElem hi2)
    obtain ⟨v', ev', rv'⟩ := v1.get ev
    obtain ⟨u', eu', ru'⟩ := v2.get eu
    have k1 : its.toArray[i] = v' := by
      have : i < its.length := by simpa using h1
      rw [List.getElem?_eq_getElem this] at ev'
      simpa using ev'
    have k2 : its2.toArray[i] = u' := by
      have : i < its2.length := by simpa using h2
      rw [List.getElem?_eq_getElem this] at eu'
      simpa using eu'
    rw [k1, k2]
    have ee := lstE_at hb i _ _ (List.getElem?_eq_getElem hi) (List.getElem?_eq_getElem hi2) hj
    refine wpAny_mono (he X.A.in1 pins s σ sx' _ _ v u v' u' _ ⟨hr.in1, rfl⟩ I g rv ru rv' ru' ee) (fun r s2 q => ?_) fun _ _ z => z
    obtain ⟨q1, sx2, f2, g2, ea2, I2⟩ := q
    exact ⟨q1, sx2, f.trans f2, g2, ea2.trans ea, I2⟩
theorem sizes_ne {pins : List (Addr × Obj)} {σ : L2.St} {sx : Sx} {s : Shared} {a b : Addr} {x y : D} {xs ys : List D} (g : Good C sx) (I : Inv X pins σ sx.H s) (r1 : R C sx.F sx.ρ x (.ref a)) (r2 : R C sx.F sx.ρ y (.ref b)) (e1 : lstOf x sx.ah = some xs) (e2 : lstOf y sx.ah = some ys) (hl : ¬ xs.length = ys.length) :
    ∃ (its its2 : Array Value), s.heap.IsList a its ∧ s.heap.IsList b its2 ∧ its.size ≠ its2.size := by
  obtain ⟨a', vs, ea, ha, ra⟩ := lstOf_ok g r1 e1
  obtain ⟨b', us, eb, hb, rb⟩ := lstOf_ok g r2 e2
  cases ea
  cases eb
  obtain ⟨its, v1, p1, _⟩ := I.list (SqL.of ha)
  obtain ⟨its2, v2, p2, _⟩ := I.list (SqL.of hb)
  refine ⟨_, _, p1.isList, p2.isList, ?_⟩
  rw [List.size_toArray, List.size_toArray, ← v1.length, ← v2.length, ← ra.length, ← rb.length]
  exact hl
theorem op_eqOL (he : ElOk X C n el) (hr : Room (n + 1) X.A) : OpR X (compareOp .Eq) (rOL C el false) := by
  rintro pins s σ H x y v u Q I rx ry ⟨sx, dx, dy, b, rfl, g, r1, r2, e, q⟩
  show wpAny (model X.prog X.w) X.A (richCompare .Eq v u) (EP X pins σ Q) X.xe s
  unfold gEqOL at e
  split at e
  case h_2 => cases e
  rename_i xs ys e1 e2
  obtain ⟨a, vs, rfl, ha, ra⟩ := lstOf_ok g r1 e1
  obtain ⟨b', us, rfl, hb, rb⟩ := lstOf_ok g r2 e2
  cases rx
  cases ry
  split at e
  · rename_i hl
    split at e
    case h_2 => cases e
    rename_i b0 hb0
    have eb : b = (b0 != false) := by injection e with e; injection e with e; exact e.symm
    have eb : b = b0 := by rw [eb]; cases b0 <;> rfl
    subst eb
    obtain ⟨f1, f2⟩ := lstE_all hb0
    refine GQ2.rc_eqB hr.units0 _ _ (loop_of he hr r1 r2 e1 e2 hl hb0) (fun hbt s' h => ?_) (fun j hj hbf s' h => ?_) ⟨sx, .refl sx, g, rfl, I⟩
    · obtain ⟨sx', f, g', ea, I'⟩ := h
      have := f1 hbt
      subst this
      exact ⟨.bl true, sx'.H, I', rfl, q sx' f g' ea⟩
    · obtain ⟨sx', f, g', ea, I'⟩ := h
      have := f2 j hj hbf
      subst this
      exact ⟨.bl false, sx'.H, I', rfl, q sx' f g' ea⟩
  · rename_i hl
    have eb : b = false := by injection e with e; injection e with e; exact e.symm
    subst eb
    obtain ⟨its, its2, p1, p2, ne⟩ := sizes_ne g I r1 r2 e1 e2 hl
    exact GQ2.rc_eqZ hr.units0 p1 p2 ne ⟨.bl false, sx.H, I, rfl, q sx (.refl sx) g rfl⟩
theorem op_neOL (he : ElOk X C n el) (hr : Room (n + 1) X.A) : OpR X (compareOp .NotEq) (rOL C el true) := by
  rintro pins s σ H x y v u Q I rx ry ⟨sx, dx, dy, b, rfl, g, r1, r2, e, q⟩
  show wpAny (model X.prog X.w) X.A (richCompare .NotEq v u) (EP X pins σ Q) X.xe s
  unfold gEqOL at e
  split at e
  case h_2 => cases e
  rename_i xs ys e1 e2
  obtain ⟨a, vs, rfl, ha, ra⟩ := lstOf_ok g r1 e1
  obtain ⟨b', us, rfl, hb, rb⟩ := lstOf_ok g r2 e2
  cases rx
  cases ry
  split at e
  · rename_i hl
    split at e
    case h_2 => cases e
    rename_i b0 hb0
    have eb : b = (b0 != true) := by injection e with e; injection e with e; exact e.symm
    obtain ⟨f1, f2⟩ := lstE_all hb0
    refine GQ2.rc_neB hr.units0 _ _ (loop_of he hr r1 r2 e1 e2 hl hb0) (fun hbt s' h => ?_) (fun j hj hbf s' h => ?_) ⟨sx, .refl sx, g, rfl, I⟩
    · obtain ⟨sx', f, g', ea, I'⟩ := h
      have := f1 hbt
      subst this
      subst eb
      exact ⟨.bl false, sx'.H, I', rfl, q sx' f g' ea⟩
    · obtain ⟨sx', f, g', ea, I'⟩ := h
      have := f2 j hj hbf
      subst this
      subst eb
      exact ⟨.bl true, sx'.H, I', rfl, q sx' f g' ea⟩
  · rename_i hl
    have eb : b = true := by injection e with e; injection e with e; exact e.symm
    subst eb
    obtain ⟨its, its2, p1, p2, ne⟩ := sizes_ne g I r1 r2 e1 e2 hl
    exact GQ2.rc_neZ hr.units0 p1 p2 ne ⟨.bl true, sx.H, I, rfl, q sx (.refl sx) g rfl⟩
end
end Ws
set_option Elab.async false
set_option linter.all false
set_option maxRecDepth 100000
set_option maxHeartbeats 2000000
set_option autoImplicit false
namespace PySem.W
open PySem PySem.Calls PyProof.Rows
section
variable {prog : Program} {w : World} {A : Around} {E : Value → Shared → Prop} {s : Shared} {K : Frag} {x C L f : Addr} {h₀ : Heap} {m : Str → Option Value} {ox : Obj} {od : Option Obj} {b tb : Value}
theorem ne_bind (self : Value) : bindSpecial (.builtin "object.__ne__") self = pure (.builtin "object.__ne__", [self]) := PySem.F.cmp_object.ne.bind self
theorem cmp_neK {Q : Value → Shared → Prop} (hu : A.units + 1 < cLine) (F : Fr h₀ L s.heap m) (X₀ : K.In h₀) (I : InstAt s.heap x ox C od) (hb : Looks (model prog w) s.heap (typeOf b) tb) (hn : notFirst K C tb = true)
    (hne : findIn K (.ref C) "__ne__" = some (some (.builtin "object.__ne__"))) (hp : plainOver K C = true) (hs : findIn K (.ref C) "__eq__" = some (some (.ref f))) (hf : isFn K (.ref f) = true)
    (h : wpAny (model prog w) A.in1 (call (.ref f) [.ref x, b]) (fun v s' => ∃ r, v = .bool r ∧ Q (.bool (!r)) s') E s) : wpAny (model prog w) A (richCompare .NotEq (.ref x) b) Q E s := by
  have X := X₀.keeps F.keep
  obtain ⟨cd, hc, ho⟩ := any_some hp
  have ne : cd.mro.isEmpty = false := by cases q : cd.mro with | nil => rw [q] at ho; cases ho | cons _ _ => rfl
  have sub : Looks (model prog w) s.heap (isInstance (.ref x) (.type "object")) true := I.type.andThen (looks_mroIn X (by unfold mroIn; rw [hc, Option.bind_some, if_neg (by rw [ne]; decide), only_has ho]))
  have one : wpAny (model prog w) A (tryCompare (.ref x) "__ne__" b) (fun r s' => ∃ v, r = some v ∧ Q v s') E s := by
    unfold tryCompare
    refine wpAny_bind ?_
    simp only [callSpecialIfBound?, bindSpecialIfBound?]
    refine wpAny_holding (wpAny_bind (wpAny_bind (wpAny_bind (I.type.here ((looks_findIn X hne).here ?_)))))
    have fin : wpAny (model prog w) A (call (.builtin "object.__ne__") ([.ref x] ++ [b])) (fun v s' => ∃ r, v = .bool r ∧ Q (.bool r) s') E s := by
      refine wpAny_call (codeAny_call_builtin PySem.F.cmp_object.ne.plain PySem.F.cmpEntry_ne (@check_slot (model prog w) _ _ s "object.__ne__" "object" "__ne__" (.ref x) [b] [] _ PySem.F.cmpKind_ne PySem.F.cmpSplit_ne sub (PySem.F.cmpArgs_ne _ _) ?_))
      obtain ⟨hp0, g0, d0, t0, os0⟩ := s
      unfold Builtin.«object.__ne__»
      repeat (first | with_reducible refine wpAny_cRoomFor (by show A.units + 1 < cLine; exact hu) ?_ | with_reducible refine ifBound_K X I hs hf (wpAny_mono h (fun v s' q => ?_) fun _ _ z => z) | wp_step)
      obtain ⟨r, rfl, q⟩ := q
      obtain ⟨hp1, g1, d1, t1, os1⟩ := s'
      repeat wp_step
      exact ⟨_, rfl, q⟩
    have z2 : ∀ v s', (∃ r, v = .bool r ∧ Q (.bool r) s') → wpAny (model prog w) A (match (some v : Option Value) with
        | some .notImplemented | none => pure none
        | some v => pure (some v)) (fun r s' => ∃ v, r = some v ∧ Q v s') E s' := fun v s' ⟨r, e, q⟩ => by
      subst e
      exact wpAny_pure ⟨_, rfl, q⟩
    simp only [ne_bind]
    refine wpAny_bind (wpAny_askSetting (wpAny_ite ?_))
    split
    · refine wpAny_bind (wpAny_pure (wpAny_pure ?_))
      refine wpAny_bind (wpAny_mono fin (fun v s' q => wpAny_pure (z2 v s' q)) fun _ _ z => z)
    · refine wpAny_tryCatch (wpAny_bind (wpAny_pure (wpAny_pure ?_)))
      refine wpAny_bind (wpAny_mono fin (fun v s' q => wpAny_pure (z2 v s' q)) fun _ _ z => z)
  unfold richCompare
  simp only [oneThing_ref]
  refine wpAny_holding (wpAny_bind (wpAny_cRoomFor (by omega) ?_))
  refine wpAny_bind (I.type.here (wpAny_bind (hb.here ?_)))
  split
  · rename_i q
    have e : subIn K tb (.ref C) = some false := by
      rcases Bool.or_eq_true_iff.mp hn with e | e
      · rw [beq_iff_eq.mp e] at q; simp at q
      · exact beq_iff_eq.mp e
    refine wpAny_bind ((looks_subIn X e).here ?_)
    simp only [Bool.false_eq_true, if_false]
    refine wpAny_bind (wpAny_mono one (fun r s' z => ?_) fun _ _ e => e)
    obtain ⟨v, rfl, hq⟩ := z
    exact wpAny_pure hq
  · refine wpAny_bind (wpAny_pure ?_)
    simp only [Bool.false_eq_true, if_false]
    refine wpAny_bind (wpAny_mono one (fun r s' z => ?_) fun _ _ e => e)
    obtain ⟨v, rfl, hq⟩ := z
    exact wpAny_pure hq
end
end PySem.W
namespace Ws
open PySem PySem.Spec PyProof.Rows L2
/-- what the head looks at for it -/
theorem ne_facts {K : PySem.W.Frag} {cA : Addr} (h : (He.eqO (PySem.W.findIn K (.ref cA) "__ne__") (some (some (.builtin "object.__ne__"))) && PySem.W.plainOver K cA) = true) : PySem.W.findIn K (.ref cA) "__ne__" = some (some (.builtin "object.__ne__")) ∧ PySem.W.plainOver K cA = true := by
  obtain ⟨a, b⟩ := He.ba h
  exact ⟨He.eqO_ok a, b⟩
def gOwnNe (c : Str) (kt : Kit) (g : List D → AH → Out D) (x y : D) (h : AH) : Out D := match gOwn c kt g x y h with
  | .ok (.bl b) h' => .ok (.bl (!b)) h'
  | _ => .bad
def rOwnNe (K : PySem.W.Frag) (cA : Addr) (sp : L2.Sp) : R2 := fun x y H Q => ∃ a dx fs t, x = .ref a ∧ H a = some (.ins cA dx fs) ∧ TyX K H y t ∧ PySem.W.notFirst K cA t = true ∧ sp [x, y] H (fun v H' => ∃ b, v = .bl b ∧ Q (.bl (!b)) H') (fun _ _ _ => False)
theorem or_ownNe {X : Cx} {k : Nat} {f cA : Addr} {fd : FuncData} {ps : List Str} {sp : L2.Sp} (F : FnOk X.prog X.w X.K X.mg X.base (L2.CX X.prog X.w) k f fd ps sp) (hr : Room (k + 1) X.A) (hb : L2.Binds X.K fd ps []) (hs : PySem.W.findIn X.K (.ref cA) "__eq__" = some (some (.ref f))) (hf : PySem.W.isFn X.K (.ref f) = true)
    (hne : PySem.W.findIn X.K (.ref cA) "__ne__" = some (some (.builtin "object.__ne__")) ∧ PySem.W.plainOver X.K cA = true) : OpR X (compareOp .NotEq) (rOwnNe X.K cA sp) := by
  intro pins s σ H x y v u Q I rx ry h
  obtain ⟨a, dx, fs, t, rfl, ha, ty, nf, hsp⟩ := h
  obtain rfl : v = Value.ref a := rx
  obtain ⟨mA, J, _⟩ := ins_get I.hok ha
  obtain ⟨od, J, _⟩ := J.look
  obtain ⟨P, Z, p, hx⟩ := kit_of I ry ty
  obtain ⟨m, hF⟩ := I.fr
  show wpAny (model X.prog X.w) X.A (richCompare .NotEq (.ref a) u) (EP X pins σ Q) X.xe s
  refine PySem.W.cmp_neK (by have := hr.un; omega) hF I.ok.mod.kin J (Z.ty _ _ I.kIn p) nf hne.1 hne.2 hs hf ?_
  refine wpAny_mono (rcA_own (Q := fun b H' => Q (.bl (!b)) H') F hb hs hf ⟨hr.in1, rfl⟩ I ha ty nf ry hsp) (fun w s' hq => ?_) fun _ _ z => z
  obtain ⟨b, H', rfl, I', q⟩ := hq
  exact ⟨b, rfl, .bl (!b), H', I', rfl, q⟩
theorem os_ownNe {C : Cf} {c : Str} {kt : Kit} {g : List D → AH → Out D} (hk : KitOk C.K kt) (hn : ∀ t ∈ kt.tys, PySem.W.notFirst C.K (He.ga C.K c) (t.v C.K) = true) : OpS C (rOwnNe C.K (He.ga C.K c) (spM C 2 g)) (gOwnNe c kt g) := by
  intro W σ s x y v u Q gd rx ry h
  have key := os_own (g := g) hk hn W σ s x y v u (fun w H' => ∃ b, w = .bl b ∧ Q (.bl (!b)) H') gd rx ry (by
    unfold gOwnNe at h
    cases q : gOwn c kt g x y s.ah with
    | bad => rw [q] at h; exact h.elim
    | exc x' h' => rw [q] at h; exact h.elim
    | ok d h' =>
      rw [q] at h
      cases d with
      | bl b => 
        intro s' w e f g' r
        exact ⟨b, r.bl_eq, h s' (.bl (!b)) e f g' (by show R C _ _ _ _; unfold R; rfl)⟩
      | _ => exact h.elim)
  obtain ⟨a, dx, fs, t, rfl, ha, ty, nf, hsp⟩ := key
  refine ⟨a, dx, fs, t, rfl, ha, ty, nf, ?_⟩
  obtain ⟨s0, ds, e1, e2, e3, e4, e5, p⟩ := hsp
  refine ⟨s0, ds, e1, e2, e3, e4, e5, ?_⟩
  cases q : g ds s0.ah with
  | bad => rw [q] at p; exact p.elim
  | exc x' h' => rw [q] at p; exact p
  | ok d h' =>
    rw [q] at p
    intro s' w e f g' r
    obtain ⟨b, rfl, b', eb, q2⟩ := p s' w e f g' r
    injection eb with eb
    subst eb
    exact ⟨b, rfl, q2⟩
end Ws
set_option Elab.async false
set_option linter.all false
set_option maxRecDepth 100000
set_option maxHeartbeats 2000000
set_option autoImplicit false
namespace Ws
open PySem PySem.Spec PyProof.Rows L2
def Sx.only (s : Sx) (n : Nat) (ob : OB) : Sx := { s with ρ := { c := fun m => if m = 0 then s.ρ.c n else none, x := none }, ah := [some ob] }
def Sx.backS (s : Sx) (n : Nat) (ob : OB) (t : Sx) : Sx := { F := t.F, ρ := s.ρ, H := t.H, ah := s.ah.put n ob }
theorem get_one {ob : OB} {m : Nat} {o : OB} (e : AH.get [some ob] m = some o) : m = 0 ∧ o = ob := by
  cases m with
  | zero =>
    have e : some ob = some o := e
    exact ⟨rfl, (Option.some.inj e).symm⟩
  | succ m => simp [AH.get] at e
theorem one_ne {ob : OB} {m : Nat} (h : AH.get [some ob] m ≠ none) : m = 0 := by
  cases m with
  | zero => rfl
  | succ m => simp [AH.get] at h
theorem only_good {C : Cf} {s : Sx} {n : Nat} {ob : OB} (g : Good C s) (e : s.ah.get n = some ob) (p : pureO 0 ob = true) : Good C (s.only n ob) where
  sub := g.sub
  tups := g.tups
  own := fun m o k => by
    obtain ⟨rfl, rfl⟩ := get_one k
    obtain ⟨a, e1, e2, e3⟩ := g.own n o e
    exact ⟨a, by show (if 0 = 0 then s.ρ.c n else none) = some a; rw [if_pos rfl]; exact e1, e2, e3.pure (REq.zero _ _) p⟩
  inj := fun m k a h1 h2 _ _ => (one_ne h1).trans (one_ne h2).symm
  dom := fun m h => by
    have h : 1 ≤ m := h
    show (if m = 0 then s.ρ.c n else none) = none
    rw [if_neg (by omega)]
  tabs := g.tabs
theorem backS_ok {C : Cf} {s t : Sx} {n : Nat} {ob ob' : OB} (g : Good C s) (e : s.ah.get n = some ob) (f : Fwd (s.only n ob) t) (gt : Good C t) (et : t.ah.get 0 = some ob') (p : pureO 0 ob' = true) : Fwd s (s.backS n ob' t) ∧ Good C (s.backS n ob' t) := by
  have hn : n < s.ah.length := AH.get_lt e
  obtain ⟨a0, c0, f0, o0⟩ := g.own n ob e
  have c0' : t.ρ.c 0 = some a0 := f.rho.c 0 a0 (by show (if 0 = 0 then s.ρ.c n else none) = some a0; rw [if_pos rfl]; exact c0)
  have fr : ∀ a o, s.H a = some o → NT o → a ≠ a0 → t.H a = some o := fun a o h nt ne => f.frame a o h nt fun m z => by
    have z : (if m = 0 then s.ρ.c n else none) = some a := z
    by_cases hm : m = 0
    · rw [if_pos hm, c0] at z
      exact absurd (Option.some.inj z).symm ne
    · rw [if_neg hm] at z; cases z
  refine ⟨⟨f.sub, .refl _, fun a o h nt k => ?_, fun m a h k => ?_, f.there, fun a o h => ?_⟩, ⟨gt.sub, gt.tups, fun m o h => ?_, fun m k a h1 h2 e1 e2 => ?_, fun m h => ?_, gt.tabs⟩⟩
  · exact fr a o h nt fun z => by
      rw [z] at k
      rw [k n c0] at e
      cases e
  · refine .inl ⟨h, ?_⟩
    have k : AH.get (s.ah.put n ob') m ≠ none := k
    rw [AH.get_put hn] at k
    by_cases z : m = n
    · rw [z, e]; exact fun z => nomatch z
    · rw [if_neg z] at k; exact k
  · rcases f.still a o h with z | z | ⟨m, z, z2⟩
    · exact .inl z
    · exact .inr (.inl z)
    · have hm := one_ne z2
      have z : (if m = 0 then s.ρ.c n else none) = some a := z
      rw [if_pos hm] at z
      exact .inr (.inr ⟨n, z, by rw [e]; exact fun z => nomatch z⟩)
  · have h : AH.get (s.ah.put n ob') m = some o := h
    rw [AH.get_put hn] at h
    by_cases z : m = n
    · rw [if_pos z] at h
      cases h
      obtain ⟨a, e1, e2, e3⟩ := gt.own 0 ob' et
      rw [c0'] at e1
      cases e1
      exact ⟨a0, by rw [z]; exact c0, e2, e3.pure (REq.zero _ _) p⟩
    · rw [if_neg z] at h
      obtain ⟨a, e1, e2, e3⟩ := g.own m o h
      have ne : a ≠ a0 := fun y => by
        subst y
        exact z (g.inj m n a (by rw [h]; exact fun z => nomatch z) (by rw [e]; exact fun z => nomatch z) e1 c0)
      obtain ⟨o', w, nt⟩ := e3.thereN
      refine ⟨a, e1, ?_, e3.mono f.sub (.refl _) ((fr a o' w nt ne).trans w.symm)⟩
      cases q : t.F a with
      | none => exact q
      | some o2 =>
        rcases f.still a o2 q with y | y | ⟨k, y, y2⟩
        · exact absurd (show s.F a = some o2 from y) (by rw [e2]; exact fun z => nomatch z)
        · exact absurd (show s.H a = none from y) (by rw [w]; exact fun z => nomatch z)
        · have hk := one_ne y2
          have y : (if k = 0 then s.ρ.c n else none) = some a := y
          rw [if_pos hk, c0] at y
          exact absurd (Option.some.inj y).symm ne
  · have back : ∀ m, AH.get (s.ah.put n ob') m ≠ none → s.ah.get m ≠ none := fun m h => by
      rw [AH.get_put hn] at h
      by_cases z : m = n
      · rw [z, e]; exact fun z => nomatch z
      · rw [if_neg z] at h; exact h
    exact g.inj m k a (back m h1) (back k h2) e1 e2
  · have h : (s.ah.put n ob').length ≤ m := h
    exact g.dom m (by unfold AH.put at h; rw [List.length_set] at h; exact h)
/-- the first argument a list's cell, the others without cells -/
def calS (n : Nat) (g : List D → AH → Out D) (ds : List D) (h : AH) : Out D := match ds with
  | .cell k :: r => (match h.get k with
    | some (.lst st) => if (r.length + 1 = n ∧ pureDs 0 r = true) ∧ pureDs 0 st = true then (match g (.cell 0 :: r) [some (.lst st)] with
      | .ok d h' => (match h'.get 0 with
        | some (.lst st') => if pureD 0 d = true ∧ pureDs 0 st' = true then .ok d (h.put k (.lst st')) else .bad
        | _ => .bad)
      | _ => .bad) else .bad
    | _ => .bad)
  | _ => .bad
section
variable {X : Cx} {C : Cf} {W : WX} {k : Nat} {f : Addr} {fd : FuncData} {ps : List Str} {g : List D → AH → Out D} {x : Str} {p pos : Pos} {e : Expr} {es : List Expr} {mr : M (List D)} {ds : List Value}
theorem spM.callS {σ : L2.St} {s : Sx} {Q : VK} {n : Nat} {ds : List D} {vs : List V} (gd : Good C s) (r : Rs C s.F s.ρ ds vs) (h : Post C W σ (rD C) s Q (calS n g ds s.ah)) : spM C n g vs s.H Q (fun cls od H => W cls od σ H) := by
  unfold calS at h
  split at h
  case h_2 => exact h.elim
  rename_i i rs
  split at h
  case h_2 => exact h.elim
  rename_i st es
  split at h
  case isFalse => exact h.elim
  rename_i hc
  obtain ⟨⟨l, pr⟩, pst⟩ := hc
  split at h
  case h_2 => exact h.elim
  rename_i d h' eg
  split at h
  case h_2 => exact h.elim
  rename_i st' es'
  split at h
  case isFalse => exact h.elim
  rename_i hd
  obtain ⟨pd, pst'⟩ := hd
  have r0 : Rs C s.F s.ρ (.cell i :: rs) vs := r
  unfold Rs at r0
  obtain ⟨v, us, rfl, rv, ru⟩ := r0
  have rv' : R C (s.only i (.lst st)).F (s.only i (.lst st)).ρ (.cell 0) v := by
    unfold R at rv ⊢
    obtain ⟨a, e1, e2⟩ := rv
    exact ⟨a, e1, by show (if 0 = 0 then s.ρ.c i else none) = some a; rw [if_pos rfl]; exact e2⟩
  refine ⟨s.only i (.lst st), .cell 0 :: rs, rfl, rfl, only_good gd es pst, ?_, by simpa using l, ?_⟩
  · unfold Rs
    exact ⟨v, us, rfl, rv', Rs.pure (REq.zero _ _) pr ru⟩
  · show Post C _ _ _ (s.only i (.lst st)) Q (g (.cell 0 :: rs) [some (.lst st)])
    rw [eg]
    intro t w e1 ft gt rt
    obtain ⟨f2, g2⟩ := backS_ok (ob' := .lst st') gd es ft gt (by rw [e1]; exact es') pst'
    exact h (s.backS i (.lst st') t) w rfl f2 g2 (R.pure (REq.zero _ _) pd rt)
theorem me_callS (tk : Takes X W) (F : FnM X C k f fd ps g) (hr : Room k X.A) (hg : Gl X x) (hm : X.mg x = some (.ref f)) (hk : PySem.W.keepIn X.K (.ref f) = true) (hb : Binds X.K fd ps [])
    (ha : MA X C none W (e :: es) mr) (hdb : (x == ("__debug__" : Str)) = false := by decide) (he : starEach (e :: es) X.env = (false, eval e X.env) :: starEach es X.env := by rfl) (hpl : (backTo pos (starEach es X.env)).any (·.1) = false := by rfl) :
    ME X C none W (.Call (.Name x p) (e :: es) [] pos) (app (calS ps.length g) mr) :=
  (pe_callSD (E := fun σ cls od H => W cls od σ H) F hr hg hm hk hb (dvs := []) .nil (fun σ => passAt tk σ) ha hdb he hpl).imp fun σ H Q h => by
    obtain ⟨s, dσ, rfl, ex, gd, rs, h⟩ := h
    refine Post.bind ex gd rs h fun s1 x v e1 f1 g1 rs1 r1 h1 => ?_
    rw [List.append_nil]
    exact spM.callS g1 r1 h1
end
end Ws
set_option Elab.async false
set_option linter.all false
set_option maxRecDepth 100000
set_option maxHeartbeats 4000000
set_option autoImplicit false
namespace Lk02
open PySem PySem.Spec PyProof.Rows L2 Ws
noncomputable section
def m_is_whole : SM := (seqS
  (ifS (orB (notB (asB (app (gIsi kt) (consA (var 0) (consA (cst (.ty "int")) nilA))))) (asB (app (gIsi kt) (consA (var 0) (consA (cst (.ty "bool")) nilA)))))
  (ret (cst (.bl false)))
  skip)
  (ret (andV (orV (bin gIs (var 1) (cst .non)) (bin gLe (var 1) (var 0))) (orV (bin gIs (var 2) (cst .non)) (bin gLe (var 0) (var 2))))))
def d_is_whole : List D → AH → Out D := fn 3 m_is_whole
def m_are_marks : SM := (seqS
  (ifS (orB (notB (asB (app (gIsi kt) (consA (var 0) (consA (cst (.ty "str")) nilA))))) (notB (asB (app gAll (consA (ccF [1] (walk itemsA (var 0)) (tgN 1) yesB (emE (bin gInA (var 1) (cst (.str "abcdefghijklmnopqrstuvwxyz"))) stepL) [] finL) nilA)))))
  (ret (cst (.bl false)))
  skip)
  (ret (app gAll (consA (ccF [2, 3] (walkA zipA (consA (var 0) (consA (sl (var 0) (part (cst (.int 1))) noPart) nilA))) (tgTup (tgCons (tgN 2) (tgCons (tgN 3) tgNil))) yesB (emE (bin gLt (var 2) (var 3)) stepL) [] finL) nilA))))
def d_are_marks : List D → AH → Out D := fn 4 m_are_marks
def m_is_name : SM := (seqS
  (ifS (orB (notB (asB (app (gIsi kt) (consA (var 0) (consA (cst (.ty "str")) nilA))))) (notB (asB (chain gLe gLe (cst (.int 1)) (app gLenA (consA (var 0) nilA)) (cst (.int 8))))))
  (ret (cst (.bl false)))
  skip)
  (ret (app gAll (consA (ccF [1] (walk itemsA (var 0)) (tgN 1) yesB (emE (bin gInA (var 1) (cst (.str "abcdefghijklmnopqrstuvwxyz"))) stepL) [] finL) nilA))))
def d_is_name : List D → AH → Out D := fn 2 m_is_name
def m_Thing_ZinitZ : SM := (seqS
  (ifS (notB (asB (app (cal 1 [] d_is_name) (consA (var 1) nilA))))
  (rz1 "NoThing" "what" (cst (.str "name")))
  skip)
  (seqS
  (ifS (notB (asB (app (cal 1 [] d_are_marks) (consA (var 2) nilA))))
  (rz1 "NoThing" "what" (cst (.str "marks")))
  skip)
  (seqS
  (ifS (notB (asB (app (cal 3 [] d_is_whole) (consA (var 3) (consA (cst (.int 0)) (consA (cst (.int 99)) nilA))))))
  (rz1 "NoThing" "what" (cst (.str "weight")))
  skip)
  (seqS
  (ifS (andB (asB (bin (gNot gIs) (var 4) (cst .non))) (notB (asB (app (gIsi kt) (consA (var 4) (consA (cst (.glo "Rule")) nilA))))))
  (rz1 "NoThing" "what" (cst (.str "rule")))
  skip)
  (seqS
  (stf ["Thing"] "name" (var 1) (var 0))
  (seqS
  (stf ["Thing"] "marks" (var 2) (var 0))
  (seqS
  (stf ["Thing"] "weight" (var 3) (var 0))
  (stf ["Thing"] "rule" (ifE (asB (bin gIs (var 4) (cst .non))) (cst (.ins "Front" [])) (var 4)) (var 0)))))))))
def d_Thing_ZinitZ : List D → AH → Out D := fn 5 m_Thing_ZinitZ
def m__law_made : SM := (seqS
  (tryAs (catOf [("ShelfError", true), ("NoRule", true), ("NoThing", true), ("NoHouse", true)]) 1
  (ret (makeK "Thing" 2 2 (putK [.inl 1, .inl 0] []) d_Thing_ZinitZ 5 (consA (bin gAt (var 0) (cst (.int 0))) (consA (bin gAt (var 0) (cst (.int 1))) nilA)) (consA (bin gAt (var 0) (cst (.int 3))) (consA (bin gAt (var 0) (cst (.int 2))) nilA))))
  (seqS
  (asg (cst (.str "other")) (tgN 2))
  (ifS (andB (asB (app (gIsE ekt) (consA (var 1) (consA (cst (.glo "NoThing")) nilA)))) (andB (asB (app (gIsE ekt) (consA (var 1) (consA (cst (.ty "ValueError")) nilA)))) (notB (asB (app (gIsE ekt) (consA (var 1) (consA (app gRtp (consA (cst (.glo "NoHouse")) (consA (cst (.glo "NoRule")) nilA))) nilA)))))))
  (asg (fldE ["NoThing", "NoHouse"] "what" (var 1)) (tgN 2))
  skip)))
  (ret (var 2)))
def d__law_made : List D → AH → Out D := fn 3 m__law_made
def m__law_digit : SM := (seqS
  (ifS (asB (bin gEqD (app gLenA (consA (var 0) nilA)) (cst (.int 1))))
  (drop (bm isLst gExtend (var 0) (consA (app gLst (consA (bin gMod (bin gAt (var 0) (cst (.int 0))) (cst (.int 2147483647))) (consA (cst (.int 0)) nilA))) nilA)))
  skip)
  (seqS
  (ifS (asB (bin gGe (bin gAt (var 0) (cst (.int 0))) (var 1)))
  (seqS
  (asg (bin gMod (bin gAt (var 0) (cst (.int 0))) (var 1)) (tgN 2))
  (seqS
  (asg (bin gDiv (bin gAt (var 0) (cst (.int 0))) (var 1)) (tgSt (var 0) (cst (.int 0))))
  (ret (var 2))))
  skip)
  (seqS
  (asg (bin gAdd (bin gAt (var 0) (cst (.int 2))) (cst (.int 1))) (tgSt (var 0) (cst (.int 2))))
  (seqS
  (asg (bin gMod (bin gMul (bin gAdd (bin gAt (var 0) (cst (.int 1))) (bin gMul (cst (.int 7919)) (bin gAt (var 0) (cst (.int 2))))) (cst (.int 48271))) (cst (.int 2147483647))) (tgN 3))
  (ret (bin gMod (bin gDiv (bin gMod (bin gMul (bin gAdd (var 3) (bin gDiv (var 3) (cst (.int 1009)))) (bin gAdd (bin gDiv (var 3) (cst (.int 65537))) (cst (.int 69621)))) (cst (.int 2147483629))) (cst (.int 7))) (var 1)))))))
def d__law_digit : List D → AH → Out D := fn 4 m__law_digit
def m__law_bad : SM := (seqS
  (asg (app gLst (consA (cst (.str "")) (consA (cst (.str "ninelette")) (consA (cst (.str "Ab")) (consA (cst (.str "a b")) (consA (cst (.str "a1")) (consA (cst .non) (consA (cst (.int 7)) (consA (app gTup (consA (cst (.str "a")) nilA)) (consA (cst (.str "a-")) nilA)))))))))) (tgN 2))
  (seqS
  (asg (app gLst (consA (cst (.str "ba")) (consA (cst (.str "aa")) (consA (cst (.str "A")) (consA (cst (.str "a b")) (consA (cst .non) (consA (cst (.int 5)) (consA (app gLst (consA (cst (.str "a")) nilA)) (consA (cst (.str "-")) (consA (cst (.str "abca")) nilA)))))))))) (tgN 3))
  (seqS
  (asg (app gLst (consA (un gNeg (cst (.int 1))) (consA (cst (.int 100)) (consA (cst (.bl true)) (consA (cst .non) (consA (cst (.str "5")) (consA (app gTup (consA (cst (.int 1)) nilA)) (consA (app gLst nilA) (consA (bin gPow (cst (.int 10)) (cst (.int 30))) (consA (cst (.bl false)) nilA)))))))))) (tgN 4))
  (seqS
  (asg (app gLst (consA (cst (.str "Front")) (consA (cst (.int 5)) (consA (cst (.bl true)) (consA (app gTup nilA) (consA (app gLst nilA) (consA (cst (.str "front")) (consA emptyK (consA (cst (.int 0)) (consA (cst (.str "-")) nilA)))))))))) (tgN 5))
  (ret (bin gAt (bin gAt (app gLst (consA (var 2) (consA (var 3) (consA (var 4) (consA (var 5) nilA))))) (var 1)) (app (cal 2 [] d__law_digit) (consA (var 0) (consA (cst (.int 9)) nilA)))))))))
def d__law_bad : List D → AH → Out D := fn 6 m__law_bad
def m_Front_same_class : SM := (ret (app (gIsi kt) (consA (var 1) (consA (cst (.glo "Front")) nilA))))
def d_Front_same_class : List D → AH → Out D := fn 2 m_Front_same_class
def m_By_same_class : SM := (ret (app (gIsi kt) (consA (var 1) (consA (cst (.glo "By")) nilA))))
def d_By_same_class : List D → AH → Out D := fn 2 m_By_same_class
def m_Half_same_class : SM := (ret (app (gIsi kt) (consA (var 1) (consA (cst (.glo "Half")) nilA))))
def d_Half_same_class : List D → AH → Out D := fn 2 m_Half_same_class
def m_Like_same_class : SM := (ret (app (gIsi kt) (consA (var 1) (consA (cst (.glo "Like")) nilA))))
def d_Like_same_class : List D → AH → Out D := fn 2 m_Like_same_class
def m_Rule_steps_of : SM := (ret (cst .non))
def d_Rule_steps_of : List D → AH → Out D := fn 1 m_Rule_steps_of
def m_By_steps_of : SM := (ret (fldC ["By"] "steps" (var 0)))
def d_By_steps_of : List D → AH → Out D := fn 1 m_By_steps_of
def m_Rule_ZeqZ : SM := (ret (andV (orM (meth "Front" "same_class" (cal 2 [] d_Front_same_class) (var 0) (consA (var 1) nilA)) (orM (meth "By" "same_class" (cal 2 [] d_By_same_class) (var 0) (consA (var 1) nilA)) (orM (meth "Half" "same_class" (cal 2 [] d_Half_same_class) (var 0) (consA (var 1) nilA)) (meth "Like" "same_class" (cal 2 [] d_Like_same_class) (var 0) (consA (var 1) nilA))))) (bin gEqD (orM (meth "Front" "steps_of" (cal 1 [] d_Rule_steps_of) (var 0) nilA) (orM (meth "By" "steps_of" (cal 1 [] d_By_steps_of) (var 0) nilA) (orM (meth "Half" "steps_of" (cal 1 [] d_Rule_steps_of) (var 0) nilA) (meth "Like" "steps_of" (cal 1 [] d_Rule_steps_of) (var 0) nilA)))) (orM (meth "Front" "steps_of" (cal 1 [] d_Rule_steps_of) (var 1) nilA) (orM (meth "By" "steps_of" (cal 1 [] d_By_steps_of) (var 1) nilA) (orM (meth "Half" "steps_of" (cal 1 [] d_Rule_steps_of) (var 1) nilA) (meth "Like" "steps_of" (cal 1 [] d_Rule_steps_of) (var 1) nilA)))))))
def d_Rule_ZeqZ : List D → AH → Out D := fn 2 m_Rule_ZeqZ
def m_Thing_ZeqZ : SM := (seqS
  (ifS (notB (asB (app (gIsi kt) (consA (var 1) (consA (cst (.glo "Thing")) nilA)))))
  (ret (cst (.bl false)))
  skip)
  (seqS
  (ifS (asB (bin (gNot gEqD) (app gTup (consA (fldC ["Thing"] "name" (var 0)) (consA (fldC ["Thing"] "marks" (var 0)) (consA (fldC ["Thing"] "weight" (var 0)) nilA)))) (app gTup (consA (fldC ["Thing"] "name" (var 1)) (consA (fldC ["Thing"] "marks" (var 1)) (consA (fldC ["Thing"] "weight" (var 1)) nilA))))))
  (ret (cst (.bl false)))
  skip)
  (ret (orM (bin (gOwn "Front" kt d_Rule_ZeqZ) (fldC ["Thing"] "rule" (var 0)) (fldC ["Thing"] "rule" (var 1))) (orM (bin (gOwn "By" kt d_Rule_ZeqZ) (fldC ["Thing"] "rule" (var 0)) (fldC ["Thing"] "rule" (var 1))) (orM (bin (gOwn "Half" kt d_Rule_ZeqZ) (fldC ["Thing"] "rule" (var 0)) (fldC ["Thing"] "rule" (var 1))) (bin (gOwn "Like" kt d_Rule_ZeqZ) (fldC ["Thing"] "rule" (var 0)) (fldC ["Thing"] "rule" (var 1)))))))))
def d_Thing_ZeqZ : List D → AH → Out D := fn 2 m_Thing_ZeqZ
def m_By_ZinitZ : SM := (seqS
  (ifS (notB (asB (app (cal 3 [] d_is_whole) (consA (var 1) (consA (cst (.int 0)) (consA (cst .non) nilA))))))
  (rz "NoRule")
  skip)
  (stf ["By"] "steps" (var 1) (var 0)))
def d_By_ZinitZ : List D → AH → Out D := fn 2 m_By_ZinitZ
def m__law_good : SM := (seqS
  (asg (cst (.str "abcdefghijklmnopqrstuvwxyz")) (tgN 1))
  (seqS
  (asg (bm isStr gJoin (cst (.str "")) (consA (ccF [3] (walkA rng1 (consA (bin gAdd (cst (.int 1)) (app (cal 2 [] d__law_digit) (consA (var 0) (consA (cst (.int 8)) nilA)))) nilA)) (tgN 3) yesB (emE (bin gAt (var 1) (app (cal 2 [] d__law_digit) (consA (var 0) (consA (cst (.int 26)) nilA)))) stepL) [] finL) nilA)) (tgN 2))
  (seqS
  (asg (bm isStr gJoin (cst (.str "")) (consA (ccF [5] (walk itemsA (var 1)) (tgN 5) (asB (bin gEqD (app (cal 2 [] d__law_digit) (consA (var 0) (consA (bin gAt (app gLst (consA (cst (.int 2)) (consA (cst (.int 9)) nilA))) (app (cal 2 [] d__law_digit) (consA (var 0) (consA (cst (.int 2)) nilA)))) nilA))) (cst (.int 0)))) (emE (var 5) stepL) [] finL) nilA)) (tgN 4))
  (seqS
  (asg (bin gAt (app gLst (consA (cst (.ins "Front" [])) (consA (app (makeN "By" 2 [] d_By_ZinitZ) (consA (app (cal 2 [] d__law_digit) (consA (var 0) (consA (cst (.int 5)) nilA))) nilA)) (consA (cst (.ins "Half" [])) (consA (cst (.ins "Like" [])) nilA))))) (app (cal 2 [] d__law_digit) (consA (var 0) (consA (cst (.int 4)) nilA)))) (tgN 6))
  (ret (app gLst (consA (var 2) (consA (var 4) (consA (bin gAt (app gLst (consA (cst (.int 0)) (consA (cst (.int 99)) (consA (app (cal 2 [] d__law_digit) (consA (var 0) (consA (cst (.int 100)) nilA))) nilA)))) (app (cal 2 [] d__law_digit) (consA (var 0) (consA (cst (.int 3)) nilA)))) (consA (var 6) nilA))))))))))
def d__law_good : List D → AH → Out D := fn 7 m__law_good
def m_law : SM := (seqS
  (asg (app gLstC nilA) (tgN 1))
  (seqS
  (forT [2, 3, 4, 5, 6, 7, 8, 9, 10] (walk itemsA (bin gAdd (app gLst (consA (cst (.int 0)) (consA (cst (.int 1)) (consA (cst (.int 2)) nilA)))) (sl (var 0) noPart (part (cst (.int 10)))))) (tgN 2)
  (seqS
  (asg (app gLstC (consA (var 2) nilA)) (tgN 3))
  (seqS
  (asg (app (calS 1 d__law_good) (consA (var 3) nilA)) (tgN 4))
  (seqS
  (asg (app (cal 1 [] d__law_made) (consA (var 4) nilA)) (tgN 5))
  (seqS
  (ifS (orB (notB (asB (app (gIsi kt) (consA (var 5) (consA (cst (.glo "Thing")) nilA))))) (asB (bin (gEqOL (elOr (elOr (elOr (elOr elF (ownB "Front" kt d_Rule_ZeqZ)) (ownB "By" kt d_Rule_ZeqZ)) (ownB "Half" kt d_Rule_ZeqZ)) (ownB "Like" kt d_Rule_ZeqZ)) true) (app gLst (consA (fldC ["Thing"] "name" (var 5)) (consA (fldC ["Thing"] "marks" (var 5)) (consA (fldC ["Thing"] "weight" (var 5)) (consA (fldC ["Thing"] "rule" (var 5)) nilA))))) (var 4))))
  (ret (cst (.bl false)))
  skip)
  (seqS
  (asg (makeK "Thing" 2 0 (putK [.inr 0, .inr 1] [.int 0, .non]) d_Thing_ZinitZ 5 (consA (bin gAt (var 4) (cst (.int 0))) (consA (bin gAt (var 4) (cst (.int 1))) nilA)) nilA) (tgN 6))
  (seqS
  (ifS (orB (asB (bin (gNot gEqD) (fldC ["Thing"] "weight" (var 6)) (cst (.int 0)))) (orB (orT (asB (bin (gOwnNe "Front" kt d_Rule_ZeqZ) (fldC ["Thing"] "rule" (var 6)) (cst (.ins "Front" [])))) (orT (asB (bin (gOwnNe "By" kt d_Rule_ZeqZ) (fldC ["Thing"] "rule" (var 6)) (cst (.ins "Front" [])))) (orT (asB (bin (gOwnNe "Half" kt d_Rule_ZeqZ) (fldC ["Thing"] "rule" (var 6)) (cst (.ins "Front" [])))) (asB (bin (gOwnNe "Like" kt d_Rule_ZeqZ) (fldC ["Thing"] "rule" (var 6)) (cst (.ins "Front" []))))))) (asB (bin (gOwnNe "Thing" kt d_Thing_ZeqZ) (makeK "Thing" 2 1 (putK [.inr 0, .inl 0] [.int 0]) d_Thing_ZinitZ 5 (consA (bin gAt (var 4) (cst (.int 0))) (consA (bin gAt (var 4) (cst (.int 1))) nilA)) (consA (cst .non) nilA)) (var 6)))))
  (ret (cst (.bl false)))
  skip)
  (seqS
  (ifS (orB (asB (bin (gNot gEqD) (bin (gOwn "Thing" kt d_Thing_ZeqZ) (var 6) (var 5)) (bin (gEqOL (elOr (elOr (elOr (elOr elF (ownB "Front" kt d_Rule_ZeqZ)) (ownB "By" kt d_Rule_ZeqZ)) (ownB "Half" kt d_Rule_ZeqZ)) (ownB "Like" kt d_Rule_ZeqZ)) false) (sl (var 4) (part (cst (.int 2))) noPart) (app gLst (consA (cst (.int 0)) (consA (cst (.ins "Front" [])) nilA)))))) (orB (asB (bin (gOwnNe "Thing" kt d_Thing_ZeqZ) (var 5) (app (cal 1 [] d__law_made) (consA (app gListA (consA (var 4) nilA)) nilA)))) (asB (bin (gOwn "Thing" kt d_Thing_ZeqZ) (var 5) (bin gAt (var 4) (cst (.int 0)))))))
  (ret (cst (.bl false)))
  skip)
  (seqS
  (ifS (asB (bin (gNot gEqD) (ccG [7, 8] (walkG (var 1)) (tgTup (tgCons (tgN 7) (tgCons (tgN 8) tgNil))) (asB (bin (gNot gEqD) (bin (gOwn "Thing" kt d_Thing_ZeqZ) (var 7) (var 5)) (bin (gEqOL (elOr (elOr (elOr (elOr elF (ownB "Front" kt d_Rule_ZeqZ)) (ownB "By" kt d_Rule_ZeqZ)) (ownB "Half" kt d_Rule_ZeqZ)) (ownB "Like" kt d_Rule_ZeqZ)) false) (var 8) (var 4)))) (emE (cst (.int 1)) stepL) [] finL) (app gLst nilA)))
  (ret (cst (.bl false)))
  skip)
  (seqS
  (drop (bm isLst gAppend (var 1) (consA (app gTup (consA (var 5) (consA (var 4) nilA))) nilA)))
  (seqS
  (asg (bin gAdd (ccF [10] (walkA rng1 (consA (cst (.int 4)) nilA)) (tgN 10) (asB (bin gEqD (app (calS 2 d__law_digit) (consA (var 3) (consA (cst (.int 3)) nilA))) (cst (.int 0)))) (emE (var 10) stepL) [] finL) (app gLst (consA (app (calS 2 d__law_digit) (consA (var 3) (consA (cst (.int 4)) nilA))) nilA))) (tgN 9))
  (seqS
  (asg (app gListAC (consA (var 4) nilA)) (tgN 7))
  (seqS
  (forS (walk itemsA (var 9)) (tgN 10)
  (asg (app (calS 2 d__law_bad) (consA (var 3) (consA (var 10) nilA))) (tgSt (var 7) (var 10))))
  (ifS (asB (bin (gNot gEqD) (app (cal 1 [] d__law_made) (consA (var 7) nilA)) (bin gAt (app gLst (consA (cst (.str "name")) (consA (cst (.str "marks")) (consA (cst (.str "weight")) (consA (cst (.str "rule")) nilA))))) (app gMin1 (consA (var 9) nilA)))))
  (ret (cst (.bl false)))
  skip))))))))))))))
  (ret (cst (.bl true)))))
def d_law : List D → AH → Out D := fn 11 m_law
end
abbrev CF (P : Program) (w : World) (K : PySem.W.Frag) (lf : Option LamV) : Cf := cfT P w K lts lf
section
variable {P : Program} {w : World} {K : PySem.W.Frag} {mg : Str → Option Value} {base h : Heap} {lf : Option LamV}
theorem sc_NoThing_ZinitZ : FnScope ["self", "what"] ["self", "what"] (defScope ((clsDefs (top 4)).getD 0 (.Pass ⟨0, 0, 0, 0⟩))) := ⟨rfl, rfl, rfl, by decide +kernel, rfl, by decide +kernel, by decide +kernel⟩
theorem ok_NoThing_ZinitZ (S : SaysB fa fnl K) (KX : K.In h) (G : h.Ns mainGlobals mg) (TB : TabsB K mg base lts) : ∃ fd, FunD K "__init__" "NoThing.__init__" (defArgs ((clsDefs (top 4)).getD 0 (.Pass ⟨0, 0, 0, 0⟩))) (defBody ((clsDefs (top 4)).getD 0 (.Pass ⟨0, 0, 0, 0⟩))) (defScope ((clsDefs (top 4)).getD 0 (.Pass ⟨0, 0, 0, 0⟩))) [] [] (He.fAd K ("NoThing", some "__init__")) fd ∧ FnOk P w K mg base (L2.CX P w) 1 (He.fAd K ("NoThing", some "__init__")) fd ["self", "what"] (spX K "what") := by
  obtain ⟨fd, F⟩ := S.def_ 0 rfl
  refine ⟨fd, F, oxi_ok (C := CF P w K none) (N := ["self", "what"]) (m := "this makes no thing") F sc_NoThing_ZinitZ rfl (fun cdv A outer s H E => ?_)⟩
  exact (pss_cons (ps_expr (pe_binit rfl (He.glo_ok KX G (S.fact 38 rfl)) (by decide) (base_ok (S.fact 76 rfl)).1 (base_ok (S.fact 76 rfl)).2.1 (base_ok (S.fact 76 rfl)).2.2 (pa_cons (pe_var (i := 0) rfl (by first | exact Or.inl rfl | exact Or.inr (Or.inl rfl) | exact Or.inr (Or.inr rfl))) (pa_cons pe_str pa_nil)))) (pss_one (ps_ost (pe_var (i := 0) rfl (by first | exact Or.inl rfl | exact Or.inr (Or.inl rfl) | exact Or.inr (Or.inr rfl))) (pe_var (i := 1) rfl (by first | exact Or.inl rfl | exact Or.inr (Or.inl rfl) | exact Or.inr (Or.inr rfl))))))
theorem sc_is_whole : FnScope ["thing", "low", "high"] ["thing", "low", "high"] (defScope (top 9)) := ⟨rfl, rfl, rfl, by decide +kernel, rfl, by decide +kernel, by decide +kernel⟩
theorem ok_is_whole (S : SaysB fa fnl K) (KX : K.In h) (G : h.Ns mainGlobals mg) (TB : TabsB K mg base lts) : ∃ fd, FunD K "is_whole" "is_whole" (defArgs (top 9)) (defBody (top 9)) (defScope (top 9)) [] [] (He.fAd K ("is_whole", none)) fd ∧ FnOk P w K mg base (L2.CX P w) 1 (He.fAd K ("is_whole", none)) fd ["thing", "low", "high"] (spM (CF P w K lf) 3 d_is_whole) := by
  obtain ⟨fd, F⟩ := S.def_ 1 rfl
  refine ⟨fd, F, fn_ok (C := CF P w K lf) (N := ["thing", "low", "high"]) F sc_is_whole (fun cdv A outer s H E hr => ?_)⟩
  have tk : Takes (cxOf (L2.CX P w) P w K mg base ["thing", "low", "high"] "is_whole" (defScope (top 9)) (He.fAd K ("is_whole", none)) cdv A outer s H E) (fun cls od _ H => E cls od H) := takes_of rfl rfl rfl rfl
  have pw : PassesOwn (model P w) (cxOf (L2.CX P w) P w K mg base ["thing", "low", "high"] "is_whole" (defScope (top 9)) (He.fAd K ("is_whole", none)) cdv A outer s H E).A (cxOf (L2.CX P w) P w K mg base ["thing", "low", "high"] "is_whole" (defScope (top 9)) (He.fAd K ("is_whole", none)) cdv A outer s H E).env (cxOf (L2.CX P w) P w K mg base ["thing", "low", "high"] "is_whole" (defScope (top 9)) (He.fAd K ("is_whole", none)) cdv A outer s H E).xe := passes_of rfl
  exact (ms_cons
  (ms_if (mt_w (mw_or (mt_not (mt_val (me_callB cr_isi (cs_isi (kit_ok (S.fact 7 rfl))) (by exact rfl) (He.free_ok KX G (S.fact 28 rfl)) (by decide +kernel) (ma_cons (me_var 0) (ma_cons (me_ty (by exact rfl) (He.free_ok KX G (S.fact 48 rfl)) (by decide +kernel)) ma_nil))))) (mw_or1 (mt_val (me_callB cr_isi (cs_isi (kit_ok (S.fact 7 rfl))) (by exact rfl) (He.free_ok KX G (S.fact 28 rfl)) (by decide +kernel) (ma_cons (me_var 0) (ma_cons (me_ty (by exact rfl) (He.free_ok KX G (S.fact 49 rfl)) (by decide +kernel)) ma_nil)))))))
  (ms_one (ms_ret me_bl))
  ms_nil)
  (ms_one (ms_ret (me_and (me_or (me_cmp or_is os_is (me_var 1) me_non) (me_one (me_cmp or_le os_le (me_var 1) (me_var 0)))) (me_one (me_or (me_cmp or_is os_is (me_var 2) me_non) (me_one (me_cmp or_le os_le (me_var 0) (me_var 2)))))))))
theorem sc_are_marks : FnScope ["thing", "sign", "one", "other"] ["thing"] (defScope (top 11)) := ⟨rfl, rfl, rfl, by decide +kernel, rfl, by decide +kernel, by decide +kernel⟩
theorem ok_are_marks (S : SaysB fa fnl K) (KX : K.In h) (G : h.Ns mainGlobals mg) (TB : TabsB K mg base lts) : ∃ fd, FunD K "are_marks" "are_marks" (defArgs (top 11)) (defBody (top 11)) (defScope (top 11)) [] [] (He.fAd K ("are_marks", none)) fd ∧ FnOk P w K mg base (L2.CX P w) 1 (He.fAd K ("are_marks", none)) fd ["thing"] (spM (CF P w K lf) 1 d_are_marks) := by
  obtain ⟨fd, F⟩ := S.def_ 2 rfl
  refine ⟨fd, F, fn_ok (C := CF P w K lf) (N := ["thing", "sign", "one", "other"]) F sc_are_marks (fun cdv A outer s H E hr => ?_)⟩
  have tk : Takes (cxOf (L2.CX P w) P w K mg base ["thing", "sign", "one", "other"] "are_marks" (defScope (top 11)) (He.fAd K ("are_marks", none)) cdv A outer s H E) (fun cls od _ H => E cls od H) := takes_of rfl rfl rfl rfl
  have pw : PassesOwn (model P w) (cxOf (L2.CX P w) P w K mg base ["thing", "sign", "one", "other"] "are_marks" (defScope (top 11)) (He.fAd K ("are_marks", none)) cdv A outer s H E).A (cxOf (L2.CX P w) P w K mg base ["thing", "sign", "one", "other"] "are_marks" (defScope (top 11)) (He.fAd K ("are_marks", none)) cdv A outer s H E).env (cxOf (L2.CX P w) P w K mg base ["thing", "sign", "one", "other"] "are_marks" (defScope (top 11)) (He.fAd K ("are_marks", none)) cdv A outer s H E).xe := passes_of rfl
  exact (ms_cons
  (ms_if (mt_w (mw_or (mt_not (mt_val (me_callB cr_isi (cs_isi (kit_ok (S.fact 7 rfl))) (by exact rfl) (He.free_ok KX G (S.fact 28 rfl)) (by decide +kernel) (ma_cons (me_var 0) (ma_cons (me_ty (by exact rfl) (He.free_ok KX G (S.fact 52 rfl)) (by decide +kernel)) ma_nil))))) (mw_or1 (mt_not (mt_val (me_callB (cr_all rfl) cs_all (by exact rfl) (He.free_ok KX G (S.fact 51 rfl)) (by decide +kernel) (ma_cons (me_lcF (own := [("sign", 1)]) (fun _ _ _ => fin_lst) rfl sc_are_marks.nd (mi_any rfl (me_var 0)) (blk_of rfl (by kernel_rfl)) (fun _ _ _ _ _ => by exact (pg_name (i := 1) sc_are_marks.nd rfl (by first | exact Or.inl rfl | exact Or.inr rfl))) (tgw_name 1 (by decide)) (fun _ _ _ _ _ => by exact mts_nil) (fun _ _ _ _ _ => by exact (me_cmp (or_inA hr) (os_inA ⟨rfl, rfl, rfl⟩) (me_var 1) (me_gstr (by exact rfl) (Exists.choose_spec (He.str_ok KX G (S.fact 53 rfl))))))) ma_nil)))))))
  (ms_one (ms_ret me_bl))
  ms_nil)
  (ms_one (ms_ret (me_callB (cr_all rfl) cs_all (by exact rfl) (He.free_ok KX G (S.fact 51 rfl)) (by decide +kernel) (ma_cons (me_lcF (own := [("one", 2), ("other", 3)]) (fun _ _ _ => fin_lst) rfl sc_are_marks.nd (mi_zipA (by exact rfl) (He.free_ok KX G (S.fact 50 rfl)) (ma_cons (me_var 0) (ma_cons (me_sl rfl (me_var 0) (mo_some me_int) mo_none) ma_nil))) (blk_of rfl (by kernel_rfl)) (fun _ _ _ _ _ => by exact (pg_tup rfl (pgs_cons (pg_name (i := 2) sc_are_marks.nd rfl (by first | exact Or.inl rfl | exact Or.inr rfl)) (pgs_cons (pg_name (i := 3) sc_are_marks.nd rfl (by first | exact Or.inl rfl | exact Or.inr rfl)) pgs_nil)))) (tgw_tup (tgw_cons (i := 2) (by decide) (tgw_cons (i := 3) (by decide) tgw_nil)) (tgl_cons (tgl_cons tgl_nil))) (fun _ _ _ _ _ => by exact mts_nil) (fun _ _ _ _ _ => by exact (me_cmp or_lt os_lt (me_var 2) (me_var 3)))) ma_nil)))))
theorem sc_is_name : FnScope ["thing", "sign"] ["thing"] (defScope (top 10)) := ⟨rfl, rfl, rfl, by decide +kernel, rfl, by decide +kernel, by decide +kernel⟩
theorem ok_is_name (S : SaysB fa fnl K) (KX : K.In h) (G : h.Ns mainGlobals mg) (TB : TabsB K mg base lts) : ∃ fd, FunD K "is_name" "is_name" (defArgs (top 10)) (defBody (top 10)) (defScope (top 10)) [] [] (He.fAd K ("is_name", none)) fd ∧ FnOk P w K mg base (L2.CX P w) 1 (He.fAd K ("is_name", none)) fd ["thing"] (spM (CF P w K lf) 1 d_is_name) := by
  obtain ⟨fd, F⟩ := S.def_ 3 rfl
  refine ⟨fd, F, fn_ok (C := CF P w K lf) (N := ["thing", "sign"]) F sc_is_name (fun cdv A outer s H E hr => ?_)⟩
  have tk : Takes (cxOf (L2.CX P w) P w K mg base ["thing", "sign"] "is_name" (defScope (top 10)) (He.fAd K ("is_name", none)) cdv A outer s H E) (fun cls od _ H => E cls od H) := takes_of rfl rfl rfl rfl
  have pw : PassesOwn (model P w) (cxOf (L2.CX P w) P w K mg base ["thing", "sign"] "is_name" (defScope (top 10)) (He.fAd K ("is_name", none)) cdv A outer s H E).A (cxOf (L2.CX P w) P w K mg base ["thing", "sign"] "is_name" (defScope (top 10)) (He.fAd K ("is_name", none)) cdv A outer s H E).env (cxOf (L2.CX P w) P w K mg base ["thing", "sign"] "is_name" (defScope (top 10)) (He.fAd K ("is_name", none)) cdv A outer s H E).xe := passes_of rfl
  exact (ms_cons
  (ms_if (mt_w (mw_or (mt_not (mt_val (me_callB cr_isi (cs_isi (kit_ok (S.fact 7 rfl))) (by exact rfl) (He.free_ok KX G (S.fact 28 rfl)) (by decide +kernel) (ma_cons (me_var 0) (ma_cons (me_ty (by exact rfl) (He.free_ok KX G (S.fact 52 rfl)) (by decide +kernel)) ma_nil))))) (mw_or1 (mt_not (mt_chain or_le or_le os_le os_le me_int (me_callB call_lenAll (cs_lenAll ⟨rfl, rfl, rfl⟩) (by exact rfl) (He.free_ok KX G (S.fact 54 rfl)) (by decide +kernel) (ma_cons (me_var 0) ma_nil)) (me_gint (by exact rfl) (Exists.choose_spec (He.int_ok KX G (S.fact 55 rfl)))))))))
  (ms_one (ms_ret me_bl))
  ms_nil)
  (ms_one (ms_ret (me_callB (cr_all rfl) cs_all (by exact rfl) (He.free_ok KX G (S.fact 51 rfl)) (by decide +kernel) (ma_cons (me_lcF (own := [("sign", 1)]) (fun _ _ _ => fin_lst) rfl sc_is_name.nd (mi_any rfl (me_var 0)) (blk_of rfl (by kernel_rfl)) (fun _ _ _ _ _ => by exact (pg_name (i := 1) sc_is_name.nd rfl (by first | exact Or.inl rfl | exact Or.inr rfl))) (tgw_name 1 (by decide)) (fun _ _ _ _ _ => by exact mts_nil) (fun _ _ _ _ _ => by exact (me_cmp (or_inA hr) (os_inA ⟨rfl, rfl, rfl⟩) (me_var 1) (me_gstr (by exact rfl) (Exists.choose_spec (He.str_ok KX G (S.fact 53 rfl))))))) ma_nil)))))
theorem sc_Thing_ZinitZ : FnScope ["self", "name", "marks", "weight", "rule"] ["self", "name", "marks", "weight", "rule"] (defScope ((clsDefs (top 20)).getD 0 (.Pass ⟨0, 0, 0, 0⟩))) := ⟨rfl, rfl, rfl, by decide +kernel, rfl, by decide +kernel, by decide +kernel⟩
theorem ok_Thing_ZinitZ (S : SaysB fa fnl K) (KX : K.In h) (G : h.Ns mainGlobals mg) (TB : TabsB K mg base lts) : ∃ fd, FunD K "__init__" "Thing.__init__" (defArgs ((clsDefs (top 20)).getD 0 (.Pass ⟨0, 0, 0, 0⟩))) (defBody ((clsDefs (top 20)).getD 0 (.Pass ⟨0, 0, 0, 0⟩))) (defScope ((clsDefs (top 20)).getD 0 (.Pass ⟨0, 0, 0, 0⟩))) [] [("weight", .int 0), ("rule", .non)] (He.fAd K ("Thing", some "__init__")) fd ∧ FnOk P w K mg base (L2.CX P w) 3 (He.fAd K ("Thing", some "__init__")) fd ["self", "name", "marks", "weight", "rule"] (spM (CF P w K lf) 5 d_Thing_ZinitZ) := by
  obtain ⟨fd, F⟩ := S.def_ 4 rfl
  obtain ⟨fd_NoThing_ZinitZ, F_NoThing_ZinitZ, O_NoThing_ZinitZ⟩ := ok_NoThing_ZinitZ (P := P) (w := w) (base := base) S KX G TB
  have B_NoThing_ZinitZ : L2.Binds K fd_NoThing_ZinitZ ["self", "what"] [] := F_NoThing_ZinitZ.bindsN fun _ _ _ _ _ _ us hl => match us, hl with | [_, _], _ => rfl
  obtain ⟨fd_is_whole, F_is_whole, O_is_whole⟩ := ok_is_whole (P := P) (w := w) (base := base) (lf := lf) S KX G TB
  have B_is_whole : L2.Binds K fd_is_whole ["thing", "low", "high"] [] := F_is_whole.bindsN fun _ _ _ _ _ _ us hl => match us, hl with | [_, _, _], _ => rfl
  obtain ⟨fd_are_marks, F_are_marks, O_are_marks⟩ := ok_are_marks (P := P) (w := w) (base := base) (lf := lf) S KX G TB
  have B_are_marks : L2.Binds K fd_are_marks ["thing"] [] := F_are_marks.bindsN fun _ _ _ _ _ _ us hl => match us, hl with | [_], _ => rfl
  obtain ⟨fd_is_name, F_is_name, O_is_name⟩ := ok_is_name (P := P) (w := w) (base := base) (lf := lf) S KX G TB
  have B_is_name : L2.Binds K fd_is_name ["thing"] [] := F_is_name.bindsN fun _ _ _ _ _ _ us hl => match us, hl with | [_], _ => rfl
  refine ⟨fd, F, fn_ok (C := CF P w K lf) (N := ["self", "name", "marks", "weight", "rule"]) F sc_Thing_ZinitZ (fun cdv A outer s H E hr => ?_)⟩
  have tk : Takes (cxOf (L2.CX P w) P w K mg base ["self", "name", "marks", "weight", "rule"] "Thing.__init__" (defScope ((clsDefs (top 20)).getD 0 (.Pass ⟨0, 0, 0, 0⟩))) (He.fAd K ("Thing", some "__init__")) cdv A outer s H E) (fun cls od _ H => E cls od H) := takes_of rfl rfl rfl rfl
  have pw : PassesOwn (model P w) (cxOf (L2.CX P w) P w K mg base ["self", "name", "marks", "weight", "rule"] "Thing.__init__" (defScope ((clsDefs (top 20)).getD 0 (.Pass ⟨0, 0, 0, 0⟩))) (He.fAd K ("Thing", some "__init__")) cdv A outer s H E).A (cxOf (L2.CX P w) P w K mg base ["self", "name", "marks", "weight", "rule"] "Thing.__init__" (defScope ((clsDefs (top 20)).getD 0 (.Pass ⟨0, 0, 0, 0⟩))) (He.fAd K ("Thing", some "__init__")) cdv A outer s H E).env (cxOf (L2.CX P w) P w K mg base ["self", "name", "marks", "weight", "rule"] "Thing.__init__" (defScope ((clsDefs (top 20)).getD 0 (.Pass ⟨0, 0, 0, 0⟩))) (He.fAd K ("Thing", some "__init__")) cdv A outer s H E).xe := passes_of rfl
  exact (ms_cons
  (ms_if (mt_not (mt_val (me_call (ps := ["thing"]) tk O_is_name (hr.mono (by decide : 1 ≤ 2)) (by exact rfl) (He.glo_ok KX G (S.fact 47 rfl)) F_is_name.kp B_is_name .nil Filled.nil (ma_cons (me_var 1) ma_nil))))
  (ms_one (ms_rz1 rfl rfl tk (oex_ok (S.fact 41 rfl)) (no_ok (S.fact 42 rfl)) (oexI_ok (S.fact 43 rfl)).1 (oexI_ok (S.fact 43 rfl)).2 O_NoThing_ZinitZ (hr.mono (by decide : 2 ≤ 2)) B_NoThing_ZinitZ (by exact rfl) (He.glo_ok KX G (S.fact 32 rfl)) me_str))
  ms_nil)
  (ms_cons
  (ms_if (mt_not (mt_val (me_call (ps := ["thing"]) tk O_are_marks (hr.mono (by decide : 1 ≤ 2)) (by exact rfl) (He.glo_ok KX G (S.fact 46 rfl)) F_are_marks.kp B_are_marks .nil Filled.nil (ma_cons (me_var 2) ma_nil))))
  (ms_one (ms_rz1 rfl rfl tk (oex_ok (S.fact 41 rfl)) (no_ok (S.fact 42 rfl)) (oexI_ok (S.fact 43 rfl)).1 (oexI_ok (S.fact 43 rfl)).2 O_NoThing_ZinitZ (hr.mono (by decide : 2 ≤ 2)) B_NoThing_ZinitZ (by exact rfl) (He.glo_ok KX G (S.fact 32 rfl)) me_str))
  ms_nil)
  (ms_cons
  (ms_if (mt_not (mt_val (me_call (ps := ["thing", "low", "high"]) tk O_is_whole (hr.mono (by decide : 1 ≤ 2)) (by exact rfl) (He.glo_ok KX G (S.fact 45 rfl)) F_is_whole.kp B_is_whole .nil Filled.nil (ma_cons (me_var 3) (ma_cons me_int (ma_cons (me_gint (by exact rfl) (Exists.choose_spec (He.int_ok KX G (S.fact 44 rfl)))) ma_nil))))))
  (ms_one (ms_rz1 rfl rfl tk (oex_ok (S.fact 41 rfl)) (no_ok (S.fact 42 rfl)) (oexI_ok (S.fact 43 rfl)).1 (oexI_ok (S.fact 43 rfl)).2 O_NoThing_ZinitZ (hr.mono (by decide : 2 ≤ 2)) B_NoThing_ZinitZ (by exact rfl) (He.glo_ok KX G (S.fact 32 rfl)) me_str))
  ms_nil)
  (ms_cons
  (ms_if (mt_w (mw_and (mt_cmp or_isnot os_isnot (me_var 4) me_non) (mw_and1 (mt_not (mt_val (me_callB cr_isi (cs_isi (kit_ok (S.fact 7 rfl))) (by exact rfl) (He.free_ok KX G (S.fact 28 rfl)) (by decide +kernel) (ma_cons (me_var 4) (ma_cons (me_glo (by exact rfl) (He.glo_ok KX G (S.fact 40 rfl))) ma_nil))))))))
  (ms_one (ms_rz1 rfl rfl tk (oex_ok (S.fact 41 rfl)) (no_ok (S.fact 42 rfl)) (oexI_ok (S.fact 43 rfl)).1 (oexI_ok (S.fact 43 rfl)).2 O_NoThing_ZinitZ (hr.mono (by decide : 2 ≤ 2)) B_NoThing_ZinitZ (by exact rfl) (He.glo_ok KX G (S.fact 32 rfl)) me_str))
  ms_nil)
  (ms_cons
  (ms_fld rfl (me_var 0) (me_var 1) (has_ok (S.fact 30 rfl)))
  (ms_cons
  (ms_fld rfl (me_var 0) (me_var 2) (has_ok (S.fact 29 rfl)))
  (ms_cons
  (ms_fld rfl (me_var 0) (me_var 3) (has_ok (S.fact 20 rfl)))
  (ms_one (ms_fld rfl (me_var 0) (me_if (mt_cmp or_is os_is (me_var 4) me_non) (me_makeO rfl (mko_ok (S.fact 17 rfl)) (by exact rfl) (He.glo_ok KX G (S.fact 18 rfl))) (me_var 4)) (has_ok (S.fact 21 rfl)))))))))))
theorem sc__law_made : FnScope ["_law_parts", "e", "_law_found"] ["_law_parts"] (defScope (top 26)) := ⟨rfl, rfl, rfl, by decide +kernel, rfl, by decide +kernel, by decide +kernel⟩
theorem ok__law_made (S : SaysB fa fnl K) (KX : K.In h) (G : h.Ns mainGlobals mg) (TB : TabsB K mg base lts) : ∃ fd, FunD K "_law_made" "_law_made" (defArgs (top 26)) (defBody (top 26)) (defScope (top 26)) [] [] (He.fAd K ("_law_made", none)) fd ∧ FnOk P w K mg base (L2.CX P w) 5 (He.fAd K ("_law_made", none)) fd ["_law_parts"] (spM (CF P w K lf) 1 d__law_made) := by
  obtain ⟨fd, F⟩ := S.def_ 5 rfl
  obtain ⟨fd_Thing_ZinitZ, F_Thing_ZinitZ, O_Thing_ZinitZ⟩ := ok_Thing_ZinitZ (P := P) (w := w) (base := base) (lf := lf) S KX G TB
  have KS_Thing_ZinitZ_rule_weight : ∃ mv : List Value, KBn K fd_Thing_ZinitZ ["self", "name", "marks", "weight", "rule"] 3 ["rule", "weight"] (fun us ws => us ++ picks [.inl 1, .inl 0] mv ws) (fun vs zs => vs ++ picks [.inl 1, .inl 0] (([] : List (Str × V)).map (·.2)) zs) := kb_src F_Thing_ZinitZ 3 ["rule", "weight"] [] [.inl 1, .inl 0] (by decide) (by show ∀ q ∈ ([] : List (Str × V)), q ∈ ([("weight", .int 0), ("rule", .non)] : List (Str × V)); simp) (fun _ _ _ _ _ _ us mv ws l1 l2 l3 => match us, mv, ws, l1, l2, l3 with | [_, _, _], [], [_, _], _, _, _ => rfl)
  refine ⟨fd, F, fn_ok (C := CF P w K lf) (N := ["_law_parts", "e", "_law_found"]) F sc__law_made (fun cdv A outer s H E hr => ?_)⟩
  have tk : Takes (cxOf (L2.CX P w) P w K mg base ["_law_parts", "e", "_law_found"] "_law_made" (defScope (top 26)) (He.fAd K ("_law_made", none)) cdv A outer s H E) (fun cls od _ H => E cls od H) := takes_of rfl rfl rfl rfl
  have pw : PassesOwn (model P w) (cxOf (L2.CX P w) P w K mg base ["_law_parts", "e", "_law_found"] "_law_made" (defScope (top 26)) (He.fAd K ("_law_made", none)) cdv A outer s H E).A (cxOf (L2.CX P w) P w K mg base ["_law_parts", "e", "_law_found"] "_law_made" (defScope (top 26)) (He.fAd K ("_law_made", none)) cdv A outer s H E).env (cxOf (L2.CX P w) P w K mg base ["_law_parts", "e", "_law_found"] "_law_made" (defScope (top 26)) (He.fAd K ("_law_made", none)) cdv A outer s H E).xe := passes_of rfl
  exact (ms_cons
  (ms_try (i := 1) rfl rfl rfl sc__law_made.nd rfl rfl ⟨rfl, by decide, .inl (He.glo_ok KX G (S.fact 38 rfl))⟩ tk (cat_ok (S.fact 39 rfl))
  (fun W1 pn1 xe1 tk1 pw1 => (ms_one (ms_ret (me_makeS (ps := ["self", "name", "marks", "weight", "rule"]) (ks := ["rule", "weight"]) (n := 2) (src := [.inl 1, .inl 0]) (ms := []) rfl tk1 (mk_ok (S.fact 26 rfl)) O_Thing_ZinitZ (hr.mono (by decide : 4 ≤ 4)) (by exact rfl) (He.glo_ok KX G (S.fact 27 rfl)) KS_Thing_ZinitZ_rule_weight rfl (ma_cons (me_at rfl hr.units (me_var 0) me_int) (ma_cons (me_at rfl hr.units (me_var 0) me_int) ma_nil)) (mk_cons (me_at rfl hr.units (me_var 0) me_int) (mk_cons (me_at rfl hr.units (me_var 0) me_int) mk_nil))))))
  (fun a oe c od pn hz hf => (ms_cons
  (ms_set (i := 2) sc__law_made.nd rfl (by first | exact Or.inl rfl | exact Or.inr rfl) me_str)
  (ms_one (ms_if (mt_w (mw_and (mt_val (me_isE (X := (cxOf (L2.CX P w) P w K mg base ["_law_parts", "e", "_law_found"] "_law_made" (defScope (top 26)) (He.fAd K ("_law_made", none)) cdv A outer s H E)) rfl (ekit_ok (S.fact 33 rfl)) hz hf (by exact rfl) (He.free_ok KX G (S.fact 28 rfl)) (by decide +kernel) (ma_cons (me_var 1) (ma_cons (me_glo (by exact rfl) (He.glo_ok KX G (S.fact 32 rfl))) ma_nil)))) (mw_and (mt_val (me_isE (X := (cxOf (L2.CX P w) P w K mg base ["_law_parts", "e", "_law_found"] "_law_made" (defScope (top 26)) (He.fAd K ("_law_made", none)) cdv A outer s H E)) rfl (ekit_ok (S.fact 33 rfl)) hz hf (by exact rfl) (He.free_ok KX G (S.fact 28 rfl)) (by decide +kernel) (ma_cons (me_var 1) (ma_cons (me_ty (by exact rfl) (He.free_ok KX G (S.fact 34 rfl)) (by decide +kernel)) ma_nil)))) (mw_and1 (mt_not (mt_val (me_isE (X := (cxOf (L2.CX P w) P w K mg base ["_law_parts", "e", "_law_found"] "_law_made" (defScope (top 26)) (He.fAd K ("_law_made", none)) cdv A outer s H E)) rfl (ekit_ok (S.fact 33 rfl)) hz hf (by exact rfl) (He.free_ok KX G (S.fact 28 rfl)) (by decide +kernel) (ma_cons (me_var 1) (ma_cons (me_rtp (ma_cons (me_glo (by exact rfl) (He.glo_ok KX G (S.fact 36 rfl))) (ma_cons (me_glo (by exact rfl) (He.glo_ok KX G (S.fact 35 rfl))) ma_nil))) ma_nil)))))))))
  (ms_one (ms_set (i := 2) sc__law_made.nd rfl (by first | exact Or.inl rfl | exact Or.inr rfl) (me_fldE (X := (cxOf (L2.CX P w) P w K mg base ["_law_parts", "e", "_law_found"] "_law_made" (defScope (top 26)) (He.fAd K ("_law_made", none)) cdv A outer s H E)) rfl (xf_ok (S.fact 37 rfl)) hz hf (me_var 1))))
  ms_nil)))))
  (ms_one (ms_ret (me_var 2))))
theorem sc__law_digit : FnScope ["_law_state", "_law_base", "_law_found", "_law_mixed"] ["_law_state", "_law_base"] (defScope (top 23)) := ⟨rfl, rfl, rfl, by decide +kernel, rfl, by decide +kernel, by decide +kernel⟩
theorem ok__law_digit (S : SaysB fa fnl K) (KX : K.In h) (G : h.Ns mainGlobals mg) (TB : TabsB K mg base lts) : ∃ fd, FunD K "_law_digit" "_law_digit" (defArgs (top 23)) (defBody (top 23)) (defScope (top 23)) [] [] (He.fAd K ("_law_digit", none)) fd ∧ FnOk P w K mg base (L2.CX P w) 1 (He.fAd K ("_law_digit", none)) fd ["_law_state", "_law_base"] (spM (CF P w K lf) 2 d__law_digit) := by
  obtain ⟨fd, F⟩ := S.def_ 6 rfl
  refine ⟨fd, F, fn_ok (C := CF P w K lf) (N := ["_law_state", "_law_base", "_law_found", "_law_mixed"]) F sc__law_digit (fun cdv A outer s H E hr => ?_)⟩
  have tk : Takes (cxOf (L2.CX P w) P w K mg base ["_law_state", "_law_base", "_law_found", "_law_mixed"] "_law_digit" (defScope (top 23)) (He.fAd K ("_law_digit", none)) cdv A outer s H E) (fun cls od _ H => E cls od H) := takes_of rfl rfl rfl rfl
  have pw : PassesOwn (model P w) (cxOf (L2.CX P w) P w K mg base ["_law_state", "_law_base", "_law_found", "_law_mixed"] "_law_digit" (defScope (top 23)) (He.fAd K ("_law_digit", none)) cdv A outer s H E).A (cxOf (L2.CX P w) P w K mg base ["_law_state", "_law_base", "_law_found", "_law_mixed"] "_law_digit" (defScope (top 23)) (He.fAd K ("_law_digit", none)) cdv A outer s H E).env (cxOf (L2.CX P w) P w K mg base ["_law_state", "_law_base", "_law_found", "_law_mixed"] "_law_digit" (defScope (top 23)) (He.fAd K ("_law_digit", none)) cdv A outer s H E).xe := passes_of rfl
  exact (ms_cons
  (ms_if (mt_cmp (op_eqD hr.units) os_eq (me_callB call_lenAll (cs_lenAll ⟨rfl, rfl, rfl⟩) (by exact rfl) (He.free_ok KX G (S.fact 54 rfl)) (by decide +kernel) (ma_cons (me_var 0) ma_nil)) me_int)
  (ms_one (ms_expr (me_bm rfl PySem.F.plainAttrs_list PySem.F.slot_list_extend PySem.F.type_list_extend mt_extend ts_lst ms_extend (me_var 0) (ma_cons (me_lst (ma_cons (me_bin op_mod os_mod (me_at rfl hr.units (me_var 0) me_int) me_int) (ma_cons me_int ma_nil))) ma_nil))))
  ms_nil)
  (ms_cons
  (ms_if (mt_cmp or_ge os_ge (me_at rfl hr.units (me_var 0) me_int) (me_var 1))
  (ms_cons
  (ms_set (i := 2) sc__law_digit.nd rfl (by first | exact Or.inl rfl | exact Or.inr rfl) (me_bin op_mod os_mod (me_at rfl hr.units (me_var 0) me_int) (me_var 1)))
  (ms_cons
  (ms_asg (me_bin op_fdiv os_div (me_at rfl hr.units (me_var 0) me_int) (me_var 1)) (mg_st hr.units (me_var 0) me_int))
  (ms_one (ms_ret (me_var 2)))))
  ms_nil)
  (ms_cons
  (ms_asg (me_bin or_add os_add (me_at rfl hr.units (me_var 0) me_int) me_int) (mg_st hr.units (me_var 0) me_int))
  (ms_cons
  (ms_set (i := 3) sc__law_digit.nd rfl (by first | exact Or.inl rfl | exact Or.inr rfl) (me_bin op_mod os_mod (me_bin op_mul os_mul (me_bin or_add os_add (me_at rfl hr.units (me_var 0) me_int) (me_bin op_mul os_mul me_int (me_at rfl hr.units (me_var 0) me_int))) me_int) me_int))
  (ms_one (ms_ret (me_bin op_mod os_mod (me_bin op_fdiv os_div (me_bin op_mod os_mod (me_bin op_mul os_mul (me_bin or_add os_add (me_var 3) (me_bin op_fdiv os_div (me_var 3) me_int)) (me_bin or_add os_add (me_bin op_fdiv os_div (me_var 3) me_int) me_int)) me_int) me_int) (me_var 1))))))))
theorem sc__law_bad : FnScope ["_law_state", "_law_at", "_law_names", "_law_marks", "_law_heavies", "_law_goes"] ["_law_state", "_law_at"] (defScope (top 25)) := ⟨rfl, rfl, rfl, by decide +kernel, rfl, by decide +kernel, by decide +kernel⟩
theorem ok__law_bad (S : SaysB fa fnl K) (KX : K.In h) (G : h.Ns mainGlobals mg) (TB : TabsB K mg base lts) : ∃ fd, FunD K "_law_bad" "_law_bad" (defArgs (top 25)) (defBody (top 25)) (defScope (top 25)) [] [] (He.fAd K ("_law_bad", none)) fd ∧ FnOk P w K mg base (L2.CX P w) 2 (He.fAd K ("_law_bad", none)) fd ["_law_state", "_law_at"] (spM (CF P w K lf) 2 d__law_bad) := by
  obtain ⟨fd, F⟩ := S.def_ 7 rfl
  obtain ⟨fd__law_digit, F__law_digit, O__law_digit⟩ := ok__law_digit (P := P) (w := w) (base := base) (lf := lf) S KX G TB
  have B__law_digit : L2.Binds K fd__law_digit ["_law_state", "_law_base"] [] := F__law_digit.bindsN fun _ _ _ _ _ _ us hl => match us, hl with | [_, _], _ => rfl
  refine ⟨fd, F, fn_ok (C := CF P w K lf) (N := ["_law_state", "_law_at", "_law_names", "_law_marks", "_law_heavies", "_law_goes"]) F sc__law_bad (fun cdv A outer s H E hr => ?_)⟩
  have tk : Takes (cxOf (L2.CX P w) P w K mg base ["_law_state", "_law_at", "_law_names", "_law_marks", "_law_heavies", "_law_goes"] "_law_bad" (defScope (top 25)) (He.fAd K ("_law_bad", none)) cdv A outer s H E) (fun cls od _ H => E cls od H) := takes_of rfl rfl rfl rfl
  have pw : PassesOwn (model P w) (cxOf (L2.CX P w) P w K mg base ["_law_state", "_law_at", "_law_names", "_law_marks", "_law_heavies", "_law_goes"] "_law_bad" (defScope (top 25)) (He.fAd K ("_law_bad", none)) cdv A outer s H E).A (cxOf (L2.CX P w) P w K mg base ["_law_state", "_law_at", "_law_names", "_law_marks", "_law_heavies", "_law_goes"] "_law_bad" (defScope (top 25)) (He.fAd K ("_law_bad", none)) cdv A outer s H E).env (cxOf (L2.CX P w) P w K mg base ["_law_state", "_law_at", "_law_names", "_law_marks", "_law_heavies", "_law_goes"] "_law_bad" (defScope (top 25)) (He.fAd K ("_law_bad", none)) cdv A outer s H E).xe := passes_of rfl
  exact (ms_cons
  (ms_set (i := 2) sc__law_bad.nd rfl (by first | exact Or.inl rfl | exact Or.inr rfl) (me_lst (ma_cons me_str (ma_cons me_str (ma_cons me_str (ma_cons me_str (ma_cons me_str (ma_cons me_non (ma_cons me_int (ma_cons (me_tup (ma_cons me_str ma_nil)) (ma_cons me_str ma_nil)))))))))))
  (ms_cons
  (ms_set (i := 3) sc__law_bad.nd rfl (by first | exact Or.inl rfl | exact Or.inr rfl) (me_lst (ma_cons me_str (ma_cons me_str (ma_cons me_str (ma_cons me_str (ma_cons me_non (ma_cons me_int (ma_cons (me_lst (ma_cons me_str ma_nil)) (ma_cons me_str (ma_cons me_str ma_nil)))))))))))
  (ms_cons
  (ms_set (i := 4) sc__law_bad.nd rfl (by first | exact Or.inl rfl | exact Or.inr rfl) (me_lst (ma_cons (me_un un_neg us_neg me_int) (ma_cons me_int (ma_cons me_bl (ma_cons me_non (ma_cons me_str (ma_cons (me_tup (ma_cons me_int ma_nil)) (ma_cons (me_lst ma_nil) (ma_cons (me_bin op_pow os_pow me_int me_int) (ma_cons me_bl ma_nil)))))))))))
  (ms_cons
  (ms_set (i := 5) sc__law_bad.nd rfl (by first | exact Or.inl rfl | exact Or.inr rfl) (me_lst (ma_cons me_str (ma_cons me_int (ma_cons me_bl (ma_cons (me_tup ma_nil) (ma_cons (me_lst ma_nil) (ma_cons me_str (ma_cons me_emptyK (ma_cons me_int (ma_cons me_str ma_nil)))))))))))
  (ms_one (ms_ret (me_at rfl hr.units (me_at rfl hr.units (me_lst (ma_cons (me_var 2) (ma_cons (me_var 3) (ma_cons (me_var 4) (ma_cons (me_var 5) ma_nil))))) (me_var 1)) (me_call (ps := ["_law_state", "_law_base"]) tk O__law_digit (hr.mono (by decide : 1 ≤ 1)) (by exact rfl) (He.glo_ok KX G (S.fact 5 rfl)) F__law_digit.kp B__law_digit .nil Filled.nil (ma_cons (me_var 0) (ma_cons me_int ma_nil))))))))))
theorem sc_Front_same_class : FnScope ["self", "thing"] ["self", "thing"] (defScope ((clsDefs (top 14)).getD 0 (.Pass ⟨0, 0, 0, 0⟩))) := ⟨rfl, rfl, rfl, by decide +kernel, rfl, by decide +kernel, by decide +kernel⟩
theorem ok_Front_same_class (S : SaysB fa fnl K) (KX : K.In h) (G : h.Ns mainGlobals mg) (TB : TabsB K mg base lts) : ∃ fd, FunD K "same_class" "Front.same_class" (defArgs ((clsDefs (top 14)).getD 0 (.Pass ⟨0, 0, 0, 0⟩))) (defBody ((clsDefs (top 14)).getD 0 (.Pass ⟨0, 0, 0, 0⟩))) (defScope ((clsDefs (top 14)).getD 0 (.Pass ⟨0, 0, 0, 0⟩))) [] [] (He.fAd K ("Front", some "same_class")) fd ∧ FnOk P w K mg base (L2.CX P w) 1 (He.fAd K ("Front", some "same_class")) fd ["self", "thing"] (spM (CF P w K lf) 2 d_Front_same_class) := by
  obtain ⟨fd, F⟩ := S.def_ 8 rfl
  refine ⟨fd, F, fn_ok (C := CF P w K lf) (N := ["self", "thing"]) F sc_Front_same_class (fun cdv A outer s H E hr => ?_)⟩
  have tk : Takes (cxOf (L2.CX P w) P w K mg base ["self", "thing"] "Front.same_class" (defScope ((clsDefs (top 14)).getD 0 (.Pass ⟨0, 0, 0, 0⟩))) (He.fAd K ("Front", some "same_class")) cdv A outer s H E) (fun cls od _ H => E cls od H) := takes_of rfl rfl rfl rfl
  have pw : PassesOwn (model P w) (cxOf (L2.CX P w) P w K mg base ["self", "thing"] "Front.same_class" (defScope ((clsDefs (top 14)).getD 0 (.Pass ⟨0, 0, 0, 0⟩))) (He.fAd K ("Front", some "same_class")) cdv A outer s H E).A (cxOf (L2.CX P w) P w K mg base ["self", "thing"] "Front.same_class" (defScope ((clsDefs (top 14)).getD 0 (.Pass ⟨0, 0, 0, 0⟩))) (He.fAd K ("Front", some "same_class")) cdv A outer s H E).env (cxOf (L2.CX P w) P w K mg base ["self", "thing"] "Front.same_class" (defScope ((clsDefs (top 14)).getD 0 (.Pass ⟨0, 0, 0, 0⟩))) (He.fAd K ("Front", some "same_class")) cdv A outer s H E).xe := passes_of rfl
  exact (ms_one (ms_ret (me_callB cr_isi (cs_isi (kit_ok (S.fact 7 rfl))) (by exact rfl) (He.free_ok KX G (S.fact 28 rfl)) (by decide +kernel) (ma_cons (me_var 1) (ma_cons (me_glo (by exact rfl) (He.glo_ok KX G (S.fact 18 rfl))) ma_nil)))))
theorem sc_By_same_class : FnScope ["self", "thing"] ["self", "thing"] (defScope ((clsDefs (top 15)).getD 1 (.Pass ⟨0, 0, 0, 0⟩))) := ⟨rfl, rfl, rfl, by decide +kernel, rfl, by decide +kernel, by decide +kernel⟩
theorem ok_By_same_class (S : SaysB fa fnl K) (KX : K.In h) (G : h.Ns mainGlobals mg) (TB : TabsB K mg base lts) : ∃ fd, FunD K "same_class" "By.same_class" (defArgs ((clsDefs (top 15)).getD 1 (.Pass ⟨0, 0, 0, 0⟩))) (defBody ((clsDefs (top 15)).getD 1 (.Pass ⟨0, 0, 0, 0⟩))) (defScope ((clsDefs (top 15)).getD 1 (.Pass ⟨0, 0, 0, 0⟩))) [] [] (He.fAd K ("By", some "same_class")) fd ∧ FnOk P w K mg base (L2.CX P w) 1 (He.fAd K ("By", some "same_class")) fd ["self", "thing"] (spM (CF P w K lf) 2 d_By_same_class) := by
  obtain ⟨fd, F⟩ := S.def_ 9 rfl
  refine ⟨fd, F, fn_ok (C := CF P w K lf) (N := ["self", "thing"]) F sc_By_same_class (fun cdv A outer s H E hr => ?_)⟩
  have tk : Takes (cxOf (L2.CX P w) P w K mg base ["self", "thing"] "By.same_class" (defScope ((clsDefs (top 15)).getD 1 (.Pass ⟨0, 0, 0, 0⟩))) (He.fAd K ("By", some "same_class")) cdv A outer s H E) (fun cls od _ H => E cls od H) := takes_of rfl rfl rfl rfl
  have pw : PassesOwn (model P w) (cxOf (L2.CX P w) P w K mg base ["self", "thing"] "By.same_class" (defScope ((clsDefs (top 15)).getD 1 (.Pass ⟨0, 0, 0, 0⟩))) (He.fAd K ("By", some "same_class")) cdv A outer s H E).A (cxOf (L2.CX P w) P w K mg base ["self", "thing"] "By.same_class" (defScope ((clsDefs (top 15)).getD 1 (.Pass ⟨0, 0, 0, 0⟩))) (He.fAd K ("By", some "same_class")) cdv A outer s H E).env (cxOf (L2.CX P w) P w K mg base ["self", "thing"] "By.same_class" (defScope ((clsDefs (top 15)).getD 1 (.Pass ⟨0, 0, 0, 0⟩))) (He.fAd K ("By", some "same_class")) cdv A outer s H E).xe := passes_of rfl
  exact (ms_one (ms_ret (me_callB cr_isi (cs_isi (kit_ok (S.fact 7 rfl))) (by exact rfl) (He.free_ok KX G (S.fact 28 rfl)) (by decide +kernel) (ma_cons (me_var 1) (ma_cons (me_glo (by exact rfl) (He.glo_ok KX G (S.fact 68 rfl))) ma_nil)))))
theorem sc_Half_same_class : FnScope ["self", "thing"] ["self", "thing"] (defScope ((clsDefs (top 16)).getD 0 (.Pass ⟨0, 0, 0, 0⟩))) := ⟨rfl, rfl, rfl, by decide +kernel, rfl, by decide +kernel, by decide +kernel⟩
theorem ok_Half_same_class (S : SaysB fa fnl K) (KX : K.In h) (G : h.Ns mainGlobals mg) (TB : TabsB K mg base lts) : ∃ fd, FunD K "same_class" "Half.same_class" (defArgs ((clsDefs (top 16)).getD 0 (.Pass ⟨0, 0, 0, 0⟩))) (defBody ((clsDefs (top 16)).getD 0 (.Pass ⟨0, 0, 0, 0⟩))) (defScope ((clsDefs (top 16)).getD 0 (.Pass ⟨0, 0, 0, 0⟩))) [] [] (He.fAd K ("Half", some "same_class")) fd ∧ FnOk P w K mg base (L2.CX P w) 1 (He.fAd K ("Half", some "same_class")) fd ["self", "thing"] (spM (CF P w K lf) 2 d_Half_same_class) := by
  obtain ⟨fd, F⟩ := S.def_ 10 rfl
  refine ⟨fd, F, fn_ok (C := CF P w K lf) (N := ["self", "thing"]) F sc_Half_same_class (fun cdv A outer s H E hr => ?_)⟩
  have tk : Takes (cxOf (L2.CX P w) P w K mg base ["self", "thing"] "Half.same_class" (defScope ((clsDefs (top 16)).getD 0 (.Pass ⟨0, 0, 0, 0⟩))) (He.fAd K ("Half", some "same_class")) cdv A outer s H E) (fun cls od _ H => E cls od H) := takes_of rfl rfl rfl rfl
  have pw : PassesOwn (model P w) (cxOf (L2.CX P w) P w K mg base ["self", "thing"] "Half.same_class" (defScope ((clsDefs (top 16)).getD 0 (.Pass ⟨0, 0, 0, 0⟩))) (He.fAd K ("Half", some "same_class")) cdv A outer s H E).A (cxOf (L2.CX P w) P w K mg base ["self", "thing"] "Half.same_class" (defScope ((clsDefs (top 16)).getD 0 (.Pass ⟨0, 0, 0, 0⟩))) (He.fAd K ("Half", some "same_class")) cdv A outer s H E).env (cxOf (L2.CX P w) P w K mg base ["self", "thing"] "Half.same_class" (defScope ((clsDefs (top 16)).getD 0 (.Pass ⟨0, 0, 0, 0⟩))) (He.fAd K ("Half", some "same_class")) cdv A outer s H E).xe := passes_of rfl
  exact (ms_one (ms_ret (me_callB cr_isi (cs_isi (kit_ok (S.fact 7 rfl))) (by exact rfl) (He.free_ok KX G (S.fact 28 rfl)) (by decide +kernel) (ma_cons (me_var 1) (ma_cons (me_glo (by exact rfl) (He.glo_ok KX G (S.fact 69 rfl))) ma_nil)))))
theorem sc_Like_same_class : FnScope ["self", "thing"] ["self", "thing"] (defScope ((clsDefs (top 17)).getD 0 (.Pass ⟨0, 0, 0, 0⟩))) := ⟨rfl, rfl, rfl, by decide +kernel, rfl, by decide +kernel, by decide +kernel⟩
theorem ok_Like_same_class (S : SaysB fa fnl K) (KX : K.In h) (G : h.Ns mainGlobals mg) (TB : TabsB K mg base lts) : ∃ fd, FunD K "same_class" "Like.same_class" (defArgs ((clsDefs (top 17)).getD 0 (.Pass ⟨0, 0, 0, 0⟩))) (defBody ((clsDefs (top 17)).getD 0 (.Pass ⟨0, 0, 0, 0⟩))) (defScope ((clsDefs (top 17)).getD 0 (.Pass ⟨0, 0, 0, 0⟩))) [] [] (He.fAd K ("Like", some "same_class")) fd ∧ FnOk P w K mg base (L2.CX P w) 1 (He.fAd K ("Like", some "same_class")) fd ["self", "thing"] (spM (CF P w K lf) 2 d_Like_same_class) := by
  obtain ⟨fd, F⟩ := S.def_ 11 rfl
  refine ⟨fd, F, fn_ok (C := CF P w K lf) (N := ["self", "thing"]) F sc_Like_same_class (fun cdv A outer s H E hr => ?_)⟩
  have tk : Takes (cxOf (L2.CX P w) P w K mg base ["self", "thing"] "Like.same_class" (defScope ((clsDefs (top 17)).getD 0 (.Pass ⟨0, 0, 0, 0⟩))) (He.fAd K ("Like", some "same_class")) cdv A outer s H E) (fun cls od _ H => E cls od H) := takes_of rfl rfl rfl rfl
  have pw : PassesOwn (model P w) (cxOf (L2.CX P w) P w K mg base ["self", "thing"] "Like.same_class" (defScope ((clsDefs (top 17)).getD 0 (.Pass ⟨0, 0, 0, 0⟩))) (He.fAd K ("Like", some "same_class")) cdv A outer s H E).A (cxOf (L2.CX P w) P w K mg base ["self", "thing"] "Like.same_class" (defScope ((clsDefs (top 17)).getD 0 (.Pass ⟨0, 0, 0, 0⟩))) (He.fAd K ("Like", some "same_class")) cdv A outer s H E).env (cxOf (L2.CX P w) P w K mg base ["self", "thing"] "Like.same_class" (defScope ((clsDefs (top 17)).getD 0 (.Pass ⟨0, 0, 0, 0⟩))) (He.fAd K ("Like", some "same_class")) cdv A outer s H E).xe := passes_of rfl
  exact (ms_one (ms_ret (me_callB cr_isi (cs_isi (kit_ok (S.fact 7 rfl))) (by exact rfl) (He.free_ok KX G (S.fact 28 rfl)) (by decide +kernel) (ma_cons (me_var 1) (ma_cons (me_glo (by exact rfl) (He.glo_ok KX G (S.fact 70 rfl))) ma_nil)))))
theorem sc_Rule_steps_of : FnScope ["self"] ["self"] (defScope ((clsDefs (top 13)).getD 1 (.Pass ⟨0, 0, 0, 0⟩))) := ⟨rfl, rfl, rfl, by decide +kernel, rfl, by decide +kernel, by decide +kernel⟩
theorem ok_Rule_steps_of (S : SaysB fa fnl K) (KX : K.In h) (G : h.Ns mainGlobals mg) (TB : TabsB K mg base lts) : ∃ fd, FunD K "steps_of" "Rule.steps_of" (defArgs ((clsDefs (top 13)).getD 1 (.Pass ⟨0, 0, 0, 0⟩))) (defBody ((clsDefs (top 13)).getD 1 (.Pass ⟨0, 0, 0, 0⟩))) (defScope ((clsDefs (top 13)).getD 1 (.Pass ⟨0, 0, 0, 0⟩))) [] [] (He.fAd K ("Rule", some "steps_of")) fd ∧ FnOk P w K mg base (L2.CX P w) 1 (He.fAd K ("Rule", some "steps_of")) fd ["self"] (spM (CF P w K lf) 1 d_Rule_steps_of) := by
  obtain ⟨fd, F⟩ := S.def_ 12 rfl
  refine ⟨fd, F, fn_ok (C := CF P w K lf) (N := ["self"]) F sc_Rule_steps_of (fun cdv A outer s H E hr => ?_)⟩
  have tk : Takes (cxOf (L2.CX P w) P w K mg base ["self"] "Rule.steps_of" (defScope ((clsDefs (top 13)).getD 1 (.Pass ⟨0, 0, 0, 0⟩))) (He.fAd K ("Rule", some "steps_of")) cdv A outer s H E) (fun cls od _ H => E cls od H) := takes_of rfl rfl rfl rfl
  have pw : PassesOwn (model P w) (cxOf (L2.CX P w) P w K mg base ["self"] "Rule.steps_of" (defScope ((clsDefs (top 13)).getD 1 (.Pass ⟨0, 0, 0, 0⟩))) (He.fAd K ("Rule", some "steps_of")) cdv A outer s H E).A (cxOf (L2.CX P w) P w K mg base ["self"] "Rule.steps_of" (defScope ((clsDefs (top 13)).getD 1 (.Pass ⟨0, 0, 0, 0⟩))) (He.fAd K ("Rule", some "steps_of")) cdv A outer s H E).env (cxOf (L2.CX P w) P w K mg base ["self"] "Rule.steps_of" (defScope ((clsDefs (top 13)).getD 1 (.Pass ⟨0, 0, 0, 0⟩))) (He.fAd K ("Rule", some "steps_of")) cdv A outer s H E).xe := passes_of rfl
  exact (ms_one (ms_ret me_non))
theorem sc_By_steps_of : FnScope ["self"] ["self"] (defScope ((clsDefs (top 15)).getD 2 (.Pass ⟨0, 0, 0, 0⟩))) := ⟨rfl, rfl, rfl, by decide +kernel, rfl, by decide +kernel, by decide +kernel⟩
theorem ok_By_steps_of (S : SaysB fa fnl K) (KX : K.In h) (G : h.Ns mainGlobals mg) (TB : TabsB K mg base lts) : ∃ fd, FunD K "steps_of" "By.steps_of" (defArgs ((clsDefs (top 15)).getD 2 (.Pass ⟨0, 0, 0, 0⟩))) (defBody ((clsDefs (top 15)).getD 2 (.Pass ⟨0, 0, 0, 0⟩))) (defScope ((clsDefs (top 15)).getD 2 (.Pass ⟨0, 0, 0, 0⟩))) [] [] (He.fAd K ("By", some "steps_of")) fd ∧ FnOk P w K mg base (L2.CX P w) 1 (He.fAd K ("By", some "steps_of")) fd ["self"] (spM (CF P w K lf) 1 d_By_steps_of) := by
  obtain ⟨fd, F⟩ := S.def_ 13 rfl
  refine ⟨fd, F, fn_ok (C := CF P w K lf) (N := ["self"]) F sc_By_steps_of (fun cdv A outer s H E hr => ?_)⟩
  have tk : Takes (cxOf (L2.CX P w) P w K mg base ["self"] "By.steps_of" (defScope ((clsDefs (top 15)).getD 2 (.Pass ⟨0, 0, 0, 0⟩))) (He.fAd K ("By", some "steps_of")) cdv A outer s H E) (fun cls od _ H => E cls od H) := takes_of rfl rfl rfl rfl
  have pw : PassesOwn (model P w) (cxOf (L2.CX P w) P w K mg base ["self"] "By.steps_of" (defScope ((clsDefs (top 15)).getD 2 (.Pass ⟨0, 0, 0, 0⟩))) (He.fAd K ("By", some "steps_of")) cdv A outer s H E).A (cxOf (L2.CX P w) P w K mg base ["self"] "By.steps_of" (defScope ((clsDefs (top 15)).getD 2 (.Pass ⟨0, 0, 0, 0⟩))) (He.fAd K ("By", some "steps_of")) cdv A outer s H E).env (cxOf (L2.CX P w) P w K mg base ["self"] "By.steps_of" (defScope ((clsDefs (top 15)).getD 2 (.Pass ⟨0, 0, 0, 0⟩))) (He.fAd K ("By", some "steps_of")) cdv A outer s H E).xe := passes_of rfl
  exact (ms_one (ms_ret (me_fld rfl (me_var 0) (has_ok (S.fact 71 rfl)))))
theorem sc_Rule_ZeqZ : FnScope ["self", "thing"] ["self", "thing"] (defScope ((clsDefs (top 13)).getD 0 (.Pass ⟨0, 0, 0, 0⟩))) := ⟨rfl, rfl, rfl, by decide +kernel, rfl, by decide +kernel, by decide +kernel⟩
theorem ok_Rule_ZeqZ (S : SaysB fa fnl K) (KX : K.In h) (G : h.Ns mainGlobals mg) (TB : TabsB K mg base lts) : ∃ fd, FunD K "__eq__" "Rule.__eq__" (defArgs ((clsDefs (top 13)).getD 0 (.Pass ⟨0, 0, 0, 0⟩))) (defBody ((clsDefs (top 13)).getD 0 (.Pass ⟨0, 0, 0, 0⟩))) (defScope ((clsDefs (top 13)).getD 0 (.Pass ⟨0, 0, 0, 0⟩))) [] [] (He.fAd K ("Rule", some "__eq__")) fd ∧ FnOk P w K mg base (L2.CX P w) 2 (He.fAd K ("Rule", some "__eq__")) fd ["self", "thing"] (spM (CF P w K lf) 2 d_Rule_ZeqZ) := by
  obtain ⟨fd, F⟩ := S.def_ 14 rfl
  obtain ⟨fd_Front_same_class, F_Front_same_class, O_Front_same_class⟩ := ok_Front_same_class (P := P) (w := w) (base := base) (lf := lf) S KX G TB
  have B_Front_same_class : L2.Binds K fd_Front_same_class ["self", "thing"] [] := F_Front_same_class.bindsN fun _ _ _ _ _ _ us hl => match us, hl with | [_, _], _ => rfl
  obtain ⟨fd_By_same_class, F_By_same_class, O_By_same_class⟩ := ok_By_same_class (P := P) (w := w) (base := base) (lf := lf) S KX G TB
  have B_By_same_class : L2.Binds K fd_By_same_class ["self", "thing"] [] := F_By_same_class.bindsN fun _ _ _ _ _ _ us hl => match us, hl with | [_, _], _ => rfl
  obtain ⟨fd_Half_same_class, F_Half_same_class, O_Half_same_class⟩ := ok_Half_same_class (P := P) (w := w) (base := base) (lf := lf) S KX G TB
  have B_Half_same_class : L2.Binds K fd_Half_same_class ["self", "thing"] [] := F_Half_same_class.bindsN fun _ _ _ _ _ _ us hl => match us, hl with | [_, _], _ => rfl
  obtain ⟨fd_Like_same_class, F_Like_same_class, O_Like_same_class⟩ := ok_Like_same_class (P := P) (w := w) (base := base) (lf := lf) S KX G TB
  have B_Like_same_class : L2.Binds K fd_Like_same_class ["self", "thing"] [] := F_Like_same_class.bindsN fun _ _ _ _ _ _ us hl => match us, hl with | [_, _], _ => rfl
  obtain ⟨fd_Rule_steps_of, F_Rule_steps_of, O_Rule_steps_of⟩ := ok_Rule_steps_of (P := P) (w := w) (base := base) (lf := lf) S KX G TB
  have B_Rule_steps_of : L2.Binds K fd_Rule_steps_of ["self"] [] := F_Rule_steps_of.bindsN fun _ _ _ _ _ _ us hl => match us, hl with | [_], _ => rfl
  obtain ⟨fd_By_steps_of, F_By_steps_of, O_By_steps_of⟩ := ok_By_steps_of (P := P) (w := w) (base := base) (lf := lf) S KX G TB
  have B_By_steps_of : L2.Binds K fd_By_steps_of ["self"] [] := F_By_steps_of.bindsN fun _ _ _ _ _ _ us hl => match us, hl with | [_], _ => rfl
  refine ⟨fd, F, fn_ok (C := CF P w K lf) (N := ["self", "thing"]) F sc_Rule_ZeqZ (fun cdv A outer s H E hr => ?_)⟩
  have tk : Takes (cxOf (L2.CX P w) P w K mg base ["self", "thing"] "Rule.__eq__" (defScope ((clsDefs (top 13)).getD 0 (.Pass ⟨0, 0, 0, 0⟩))) (He.fAd K ("Rule", some "__eq__")) cdv A outer s H E) (fun cls od _ H => E cls od H) := takes_of rfl rfl rfl rfl
  have pw : PassesOwn (model P w) (cxOf (L2.CX P w) P w K mg base ["self", "thing"] "Rule.__eq__" (defScope ((clsDefs (top 13)).getD 0 (.Pass ⟨0, 0, 0, 0⟩))) (He.fAd K ("Rule", some "__eq__")) cdv A outer s H E).A (cxOf (L2.CX P w) P w K mg base ["self", "thing"] "Rule.__eq__" (defScope ((clsDefs (top 13)).getD 0 (.Pass ⟨0, 0, 0, 0⟩))) (He.fAd K ("Rule", some "__eq__")) cdv A outer s H E).env (cxOf (L2.CX P w) P w K mg base ["self", "thing"] "Rule.__eq__" (defScope ((clsDefs (top 13)).getD 0 (.Pass ⟨0, 0, 0, 0⟩))) (He.fAd K ("Rule", some "__eq__")) cdv A outer s H E).xe := passes_of rfl
  exact (ms_one (ms_ret (me_and (me_orM (me_meth (ps := ["self", "thing"]) tk rfl (me_var 0) (He.cls_ok (S.fact 56 rfl)) (meth_ok (S.fact 57 rfl)) O_Front_same_class (hr.mono (by decide : 1 ≤ 1)) B_Front_same_class .nil Filled.nil (ma_cons (me_var 1) ma_nil)) (me_orM (me_meth (ps := ["self", "thing"]) tk rfl (me_var 0) (He.cls_ok (S.fact 58 rfl)) (meth_ok (S.fact 59 rfl)) O_By_same_class (hr.mono (by decide : 1 ≤ 1)) B_By_same_class .nil Filled.nil (ma_cons (me_var 1) ma_nil)) (me_orM (me_meth (ps := ["self", "thing"]) tk rfl (me_var 0) (He.cls_ok (S.fact 60 rfl)) (meth_ok (S.fact 61 rfl)) O_Half_same_class (hr.mono (by decide : 1 ≤ 1)) B_Half_same_class .nil Filled.nil (ma_cons (me_var 1) ma_nil)) (me_meth (ps := ["self", "thing"]) tk rfl (me_var 0) (He.cls_ok (S.fact 62 rfl)) (meth_ok (S.fact 63 rfl)) O_Like_same_class (hr.mono (by decide : 1 ≤ 1)) B_Like_same_class .nil Filled.nil (ma_cons (me_var 1) ma_nil))))) (me_one (me_cmp (op_eqD hr.units) os_eq (me_orM (me_meth0 (ps := ["self"]) tk rfl (me_var 0) (He.cls_ok (S.fact 56 rfl)) (meth_ok (S.fact 64 rfl)) O_Rule_steps_of (hr.mono (by decide : 1 ≤ 1)) B_Rule_steps_of .nil Filled.nil ) (me_orM (me_meth0 (ps := ["self"]) tk rfl (me_var 0) (He.cls_ok (S.fact 58 rfl)) (meth_ok (S.fact 65 rfl)) O_By_steps_of (hr.mono (by decide : 1 ≤ 1)) B_By_steps_of .nil Filled.nil ) (me_orM (me_meth0 (ps := ["self"]) tk rfl (me_var 0) (He.cls_ok (S.fact 60 rfl)) (meth_ok (S.fact 66 rfl)) O_Rule_steps_of (hr.mono (by decide : 1 ≤ 1)) B_Rule_steps_of .nil Filled.nil ) (me_meth0 (ps := ["self"]) tk rfl (me_var 0) (He.cls_ok (S.fact 62 rfl)) (meth_ok (S.fact 67 rfl)) O_Rule_steps_of (hr.mono (by decide : 1 ≤ 1)) B_Rule_steps_of .nil Filled.nil )))) (me_orM (me_meth0 (ps := ["self"]) tk rfl (me_var 1) (He.cls_ok (S.fact 56 rfl)) (meth_ok (S.fact 64 rfl)) O_Rule_steps_of (hr.mono (by decide : 1 ≤ 1)) B_Rule_steps_of .nil Filled.nil ) (me_orM (me_meth0 (ps := ["self"]) tk rfl (me_var 1) (He.cls_ok (S.fact 58 rfl)) (meth_ok (S.fact 65 rfl)) O_By_steps_of (hr.mono (by decide : 1 ≤ 1)) B_By_steps_of .nil Filled.nil ) (me_orM (me_meth0 (ps := ["self"]) tk rfl (me_var 1) (He.cls_ok (S.fact 60 rfl)) (meth_ok (S.fact 66 rfl)) O_Rule_steps_of (hr.mono (by decide : 1 ≤ 1)) B_Rule_steps_of .nil Filled.nil ) (me_meth0 (ps := ["self"]) tk rfl (me_var 1) (He.cls_ok (S.fact 62 rfl)) (meth_ok (S.fact 67 rfl)) O_Rule_steps_of (hr.mono (by decide : 1 ≤ 1)) B_Rule_steps_of .nil Filled.nil )))))))))
theorem sc_Thing_ZeqZ : FnScope ["self", "thing"] ["self", "thing"] (defScope ((clsDefs (top 20)).getD 1 (.Pass ⟨0, 0, 0, 0⟩))) := ⟨rfl, rfl, rfl, by decide +kernel, rfl, by decide +kernel, by decide +kernel⟩
theorem ok_Thing_ZeqZ (S : SaysB fa fnl K) (KX : K.In h) (G : h.Ns mainGlobals mg) (TB : TabsB K mg base lts) : ∃ fd, FunD K "__eq__" "Thing.__eq__" (defArgs ((clsDefs (top 20)).getD 1 (.Pass ⟨0, 0, 0, 0⟩))) (defBody ((clsDefs (top 20)).getD 1 (.Pass ⟨0, 0, 0, 0⟩))) (defScope ((clsDefs (top 20)).getD 1 (.Pass ⟨0, 0, 0, 0⟩))) [] [] (He.fAd K ("Thing", some "__eq__")) fd ∧ FnOk P w K mg base (L2.CX P w) 3 (He.fAd K ("Thing", some "__eq__")) fd ["self", "thing"] (spM (CF P w K lf) 2 d_Thing_ZeqZ) := by
  obtain ⟨fd, F⟩ := S.def_ 15 rfl
  obtain ⟨fd_Rule_ZeqZ, F_Rule_ZeqZ, O_Rule_ZeqZ⟩ := ok_Rule_ZeqZ (P := P) (w := w) (base := base) (lf := lf) S KX G TB
  have B_Rule_ZeqZ : L2.Binds K fd_Rule_ZeqZ ["self", "thing"] [] := F_Rule_ZeqZ.bindsN fun _ _ _ _ _ _ us hl => match us, hl with | [_, _], _ => rfl
  refine ⟨fd, F, fn_ok (C := CF P w K lf) (N := ["self", "thing"]) F sc_Thing_ZeqZ (fun cdv A outer s H E hr => ?_)⟩
  have tk : Takes (cxOf (L2.CX P w) P w K mg base ["self", "thing"] "Thing.__eq__" (defScope ((clsDefs (top 20)).getD 1 (.Pass ⟨0, 0, 0, 0⟩))) (He.fAd K ("Thing", some "__eq__")) cdv A outer s H E) (fun cls od _ H => E cls od H) := takes_of rfl rfl rfl rfl
  have pw : PassesOwn (model P w) (cxOf (L2.CX P w) P w K mg base ["self", "thing"] "Thing.__eq__" (defScope ((clsDefs (top 20)).getD 1 (.Pass ⟨0, 0, 0, 0⟩))) (He.fAd K ("Thing", some "__eq__")) cdv A outer s H E).A (cxOf (L2.CX P w) P w K mg base ["self", "thing"] "Thing.__eq__" (defScope ((clsDefs (top 20)).getD 1 (.Pass ⟨0, 0, 0, 0⟩))) (He.fAd K ("Thing", some "__eq__")) cdv A outer s H E).env (cxOf (L2.CX P w) P w K mg base ["self", "thing"] "Thing.__eq__" (defScope ((clsDefs (top 20)).getD 1 (.Pass ⟨0, 0, 0, 0⟩))) (He.fAd K ("Thing", some "__eq__")) cdv A outer s H E).xe := passes_of rfl
  exact (ms_cons
  (ms_if (mt_not (mt_val (me_callB cr_isi (cs_isi (kit_ok (S.fact 7 rfl))) (by exact rfl) (He.free_ok KX G (S.fact 28 rfl)) (by decide +kernel) (ma_cons (me_var 1) (ma_cons (me_glo (by exact rfl) (He.glo_ok KX G (S.fact 27 rfl))) ma_nil)))))
  (ms_one (ms_ret me_bl))
  ms_nil)
  (ms_cons
  (ms_if (mt_cmp (op_neD hr.units) os_ne (me_tup (ma_cons (me_fld rfl (me_var 0) (has_ok (S.fact 30 rfl))) (ma_cons (me_fld rfl (me_var 0) (has_ok (S.fact 29 rfl))) (ma_cons (me_fld rfl (me_var 0) (has_ok (S.fact 20 rfl))) ma_nil)))) (me_tup (ma_cons (me_fld rfl (me_var 1) (has_ok (S.fact 30 rfl))) (ma_cons (me_fld rfl (me_var 1) (has_ok (S.fact 29 rfl))) (ma_cons (me_fld rfl (me_var 1) (has_ok (S.fact 20 rfl))) ma_nil)))))
  (ms_one (ms_ret me_bl))
  ms_nil)
  (ms_one (ms_ret (me_orM (me_cmp (or_own O_Rule_ZeqZ (hr.mono (by decide : 2 ≤ 2)) B_Rule_ZeqZ (meth_ok (S.fact 9 rfl)).at_ (meth_ok (S.fact 9 rfl)).fn) (os_own (kit_ok (S.fact 7 rfl)) (notF_ok (S.fact 10 rfl))) (me_fld rfl (me_var 0) (has_ok (S.fact 21 rfl))) (me_fld rfl (me_var 1) (has_ok (S.fact 21 rfl)))) (me_orM (me_cmp (or_own O_Rule_ZeqZ (hr.mono (by decide : 2 ≤ 2)) B_Rule_ZeqZ (meth_ok (S.fact 11 rfl)).at_ (meth_ok (S.fact 11 rfl)).fn) (os_own (kit_ok (S.fact 7 rfl)) (notF_ok (S.fact 12 rfl))) (me_fld rfl (me_var 0) (has_ok (S.fact 21 rfl))) (me_fld rfl (me_var 1) (has_ok (S.fact 21 rfl)))) (me_orM (me_cmp (or_own O_Rule_ZeqZ (hr.mono (by decide : 2 ≤ 2)) B_Rule_ZeqZ (meth_ok (S.fact 13 rfl)).at_ (meth_ok (S.fact 13 rfl)).fn) (os_own (kit_ok (S.fact 7 rfl)) (notF_ok (S.fact 14 rfl))) (me_fld rfl (me_var 0) (has_ok (S.fact 21 rfl))) (me_fld rfl (me_var 1) (has_ok (S.fact 21 rfl)))) (me_cmp (or_own O_Rule_ZeqZ (hr.mono (by decide : 2 ≤ 2)) B_Rule_ZeqZ (meth_ok (S.fact 15 rfl)).at_ (meth_ok (S.fact 15 rfl)).fn) (os_own (kit_ok (S.fact 7 rfl)) (notF_ok (S.fact 16 rfl))) (me_fld rfl (me_var 0) (has_ok (S.fact 21 rfl))) (me_fld rfl (me_var 1) (has_ok (S.fact 21 rfl)))))))))))
theorem sc_By_ZinitZ : FnScope ["self", "steps"] ["self", "steps"] (defScope ((clsDefs (top 15)).getD 0 (.Pass ⟨0, 0, 0, 0⟩))) := ⟨rfl, rfl, rfl, by decide +kernel, rfl, by decide +kernel, by decide +kernel⟩
theorem ok_By_ZinitZ (S : SaysB fa fnl K) (KX : K.In h) (G : h.Ns mainGlobals mg) (TB : TabsB K mg base lts) : ∃ fd, FunD K "__init__" "By.__init__" (defArgs ((clsDefs (top 15)).getD 0 (.Pass ⟨0, 0, 0, 0⟩))) (defBody ((clsDefs (top 15)).getD 0 (.Pass ⟨0, 0, 0, 0⟩))) (defScope ((clsDefs (top 15)).getD 0 (.Pass ⟨0, 0, 0, 0⟩))) [] [] (He.fAd K ("By", some "__init__")) fd ∧ FnOk P w K mg base (L2.CX P w) 2 (He.fAd K ("By", some "__init__")) fd ["self", "steps"] (spM (CF P w K lf) 2 d_By_ZinitZ) := by
  obtain ⟨fd, F⟩ := S.def_ 16 rfl
  obtain ⟨fd_is_whole, F_is_whole, O_is_whole⟩ := ok_is_whole (P := P) (w := w) (base := base) (lf := lf) S KX G TB
  have B_is_whole : L2.Binds K fd_is_whole ["thing", "low", "high"] [] := F_is_whole.bindsN fun _ _ _ _ _ _ us hl => match us, hl with | [_, _, _], _ => rfl
  refine ⟨fd, F, fn_ok (C := CF P w K lf) (N := ["self", "steps"]) F sc_By_ZinitZ (fun cdv A outer s H E hr => ?_)⟩
  have tk : Takes (cxOf (L2.CX P w) P w K mg base ["self", "steps"] "By.__init__" (defScope ((clsDefs (top 15)).getD 0 (.Pass ⟨0, 0, 0, 0⟩))) (He.fAd K ("By", some "__init__")) cdv A outer s H E) (fun cls od _ H => E cls od H) := takes_of rfl rfl rfl rfl
  have pw : PassesOwn (model P w) (cxOf (L2.CX P w) P w K mg base ["self", "steps"] "By.__init__" (defScope ((clsDefs (top 15)).getD 0 (.Pass ⟨0, 0, 0, 0⟩))) (He.fAd K ("By", some "__init__")) cdv A outer s H E).A (cxOf (L2.CX P w) P w K mg base ["self", "steps"] "By.__init__" (defScope ((clsDefs (top 15)).getD 0 (.Pass ⟨0, 0, 0, 0⟩))) (He.fAd K ("By", some "__init__")) cdv A outer s H E).env (cxOf (L2.CX P w) P w K mg base ["self", "steps"] "By.__init__" (defScope ((clsDefs (top 15)).getD 0 (.Pass ⟨0, 0, 0, 0⟩))) (He.fAd K ("By", some "__init__")) cdv A outer s H E).xe := passes_of rfl
  exact (ms_cons
  (ms_if (mt_not (mt_val (me_call (ps := ["thing", "low", "high"]) tk O_is_whole (hr.mono (by decide : 1 ≤ 1)) (by exact rfl) (He.glo_ok KX G (S.fact 45 rfl)) F_is_whole.kp B_is_whole .nil Filled.nil (ma_cons (me_var 1) (ma_cons me_int (ma_cons me_non ma_nil))))))
  (ms_one (ms_rz rfl rfl tk PySem.F.excBase_ValueError (He.exc_ok (S.fact 75 rfl)).1 (He.glo_ok KX G (S.fact 35 rfl)) (He.exc_ok (S.fact 75 rfl)).2.1 (raises_own (He.exc_ok (S.fact 75 rfl)).2.2.1 (He.exc_ok (S.fact 75 rfl)).2.2.2) (by exact rfl)))
  ms_nil)
  (ms_one (ms_fld rfl (me_var 0) (me_var 1) (has_ok (S.fact 71 rfl)))))
theorem sc__law_good : FnScope ["_law_state", "_law_signs", "_law_name", "_law_k", "_law_marks", "_law_sign", "_law_goes"] ["_law_state"] (defScope (top 24)) := ⟨rfl, rfl, rfl, by decide +kernel, rfl, by decide +kernel, by decide +kernel⟩
theorem ok__law_good (S : SaysB fa fnl K) (KX : K.In h) (G : h.Ns mainGlobals mg) (TB : TabsB K mg base lts) : ∃ fd, FunD K "_law_good" "_law_good" (defArgs (top 24)) (defBody (top 24)) (defScope (top 24)) [] [] (He.fAd K ("_law_good", none)) fd ∧ FnOk P w K mg base (L2.CX P w) 4 (He.fAd K ("_law_good", none)) fd ["_law_state"] (spM (CF P w K lf) 1 d__law_good) := by
  obtain ⟨fd, F⟩ := S.def_ 17 rfl
  obtain ⟨fd__law_digit, F__law_digit, O__law_digit⟩ := ok__law_digit (P := P) (w := w) (base := base) (lf := lf) S KX G TB
  have B__law_digit : L2.Binds K fd__law_digit ["_law_state", "_law_base"] [] := F__law_digit.bindsN fun _ _ _ _ _ _ us hl => match us, hl with | [_, _], _ => rfl
  obtain ⟨fd_By_ZinitZ, F_By_ZinitZ, O_By_ZinitZ⟩ := ok_By_ZinitZ (P := P) (w := w) (base := base) (lf := lf) S KX G TB
  have B_By_ZinitZ : L2.Binds K fd_By_ZinitZ ["self", "steps"] [] := F_By_ZinitZ.bindsN fun _ _ _ _ _ _ us hl => match us, hl with | [_, _], _ => rfl
  refine ⟨fd, F, fn_ok (C := CF P w K lf) (N := ["_law_state", "_law_signs", "_law_name", "_law_k", "_law_marks", "_law_sign", "_law_goes"]) F sc__law_good (fun cdv A outer s H E hr => ?_)⟩
  have tk : Takes (cxOf (L2.CX P w) P w K mg base ["_law_state", "_law_signs", "_law_name", "_law_k", "_law_marks", "_law_sign", "_law_goes"] "_law_good" (defScope (top 24)) (He.fAd K ("_law_good", none)) cdv A outer s H E) (fun cls od _ H => E cls od H) := takes_of rfl rfl rfl rfl
  have pw : PassesOwn (model P w) (cxOf (L2.CX P w) P w K mg base ["_law_state", "_law_signs", "_law_name", "_law_k", "_law_marks", "_law_sign", "_law_goes"] "_law_good" (defScope (top 24)) (He.fAd K ("_law_good", none)) cdv A outer s H E).A (cxOf (L2.CX P w) P w K mg base ["_law_state", "_law_signs", "_law_name", "_law_k", "_law_marks", "_law_sign", "_law_goes"] "_law_good" (defScope (top 24)) (He.fAd K ("_law_good", none)) cdv A outer s H E).env (cxOf (L2.CX P w) P w K mg base ["_law_state", "_law_signs", "_law_name", "_law_k", "_law_marks", "_law_sign", "_law_goes"] "_law_good" (defScope (top 24)) (He.fAd K ("_law_good", none)) cdv A outer s H E).xe := passes_of rfl
  exact (ms_cons
  (ms_set (i := 1) sc__law_good.nd rfl (by first | exact Or.inl rfl | exact Or.inr rfl) me_str)
  (ms_cons
  (ms_set (i := 2) sc__law_good.nd rfl (by first | exact Or.inl rfl | exact Or.inr rfl) (me_bm rfl PySem.F.plainAttrs_str PySem.F.slot_str_join PySem.F.type_str_join mt_join ts_str ms_join me_str (ma_cons (me_lcF (own := [("_law_k", 3)]) (fun _ _ _ => fin_lst) rfl sc__law_good.nd (mi_range1 (by exact rfl) (He.free_ok KX G (S.fact 4 rfl)) (ma_cons (me_bin or_add os_add me_int (me_call (ps := ["_law_state", "_law_base"]) tk O__law_digit (hr.mono (by decide : 1 ≤ 3)) (by exact rfl) (He.glo_ok KX G (S.fact 5 rfl)) F__law_digit.kp B__law_digit .nil Filled.nil (ma_cons (me_var 0) (ma_cons me_int ma_nil)))) ma_nil)) (blk_of rfl (by kernel_rfl)) (fun _ _ _ _ _ => by exact (pg_name (i := 3) sc__law_good.nd rfl (by first | exact Or.inl rfl | exact Or.inr rfl))) (tgw_name 3 (by decide)) (fun _ _ _ _ _ => by exact mts_nil) (fun _ _ _ _ _ => by exact (me_at rfl hr.units (me_var 1) (me_call (ps := ["_law_state", "_law_base"]) takes0 O__law_digit (hr.mono (by decide : 1 ≤ 3)) (by exact rfl) (He.glo_ok KX G (S.fact 5 rfl)) F__law_digit.kp B__law_digit .nil Filled.nil (ma_cons (me_var 0) (ma_cons me_int ma_nil)))))) ma_nil)))
  (ms_cons
  (ms_set (i := 4) sc__law_good.nd rfl (by first | exact Or.inl rfl | exact Or.inr rfl) (me_bm rfl PySem.F.plainAttrs_str PySem.F.slot_str_join PySem.F.type_str_join mt_join ts_str ms_join me_str (ma_cons (me_lcF (own := [("_law_sign", 5)]) (fun _ _ _ => fin_lst) rfl sc__law_good.nd (mi_any rfl (me_var 1)) (blk_of rfl (by kernel_rfl)) (fun _ _ _ _ _ => by exact (pg_name (i := 5) sc__law_good.nd rfl (by first | exact Or.inl rfl | exact Or.inr rfl))) (tgw_name 5 (by decide)) (fun _ _ _ _ _ => by exact (mts_one (mt_cmp (op_eqD hr.units) os_eq (me_call (ps := ["_law_state", "_law_base"]) takes0 O__law_digit (hr.mono (by decide : 1 ≤ 3)) (by exact rfl) (He.glo_ok KX G (S.fact 5 rfl)) F__law_digit.kp B__law_digit .nil Filled.nil (ma_cons (me_var 0) (ma_cons (me_at rfl hr.units (me_lst (ma_cons me_int (ma_cons me_int ma_nil))) (me_call (ps := ["_law_state", "_law_base"]) takes0 O__law_digit (hr.mono (by decide : 1 ≤ 3)) (by exact rfl) (He.glo_ok KX G (S.fact 5 rfl)) F__law_digit.kp B__law_digit .nil Filled.nil (ma_cons (me_var 0) (ma_cons me_int ma_nil)))) ma_nil))) me_int))) (fun _ _ _ _ _ => by exact (me_var 5))) ma_nil)))
  (ms_cons
  (ms_set (i := 6) sc__law_good.nd rfl (by first | exact Or.inl rfl | exact Or.inr rfl) (me_at rfl hr.units (me_lst (ma_cons (me_makeO rfl (mko_ok (S.fact 17 rfl)) (by exact rfl) (He.glo_ok KX G (S.fact 18 rfl))) (ma_cons (me_make (ps := ["self", "steps"]) rfl tk (mk_ok (S.fact 74 rfl)) O_By_ZinitZ (hr.mono (by decide : 3 ≤ 3)) (by exact rfl) (He.glo_ok KX G (S.fact 68 rfl)) B_By_ZinitZ .nil Filled.nil (ma_cons (me_call (ps := ["_law_state", "_law_base"]) tk O__law_digit (hr.mono (by decide : 1 ≤ 3)) (by exact rfl) (He.glo_ok KX G (S.fact 5 rfl)) F__law_digit.kp B__law_digit .nil Filled.nil (ma_cons (me_var 0) (ma_cons me_int ma_nil))) ma_nil)) (ma_cons (me_makeO rfl (mko_ok (S.fact 73 rfl)) (by exact rfl) (He.glo_ok KX G (S.fact 69 rfl))) (ma_cons (me_makeO rfl (mko_ok (S.fact 72 rfl)) (by exact rfl) (He.glo_ok KX G (S.fact 70 rfl))) ma_nil))))) (me_call (ps := ["_law_state", "_law_base"]) tk O__law_digit (hr.mono (by decide : 1 ≤ 3)) (by exact rfl) (He.glo_ok KX G (S.fact 5 rfl)) F__law_digit.kp B__law_digit .nil Filled.nil (ma_cons (me_var 0) (ma_cons me_int ma_nil)))))
  (ms_one (ms_ret (me_lst (ma_cons (me_var 2) (ma_cons (me_var 4) (ma_cons (me_at rfl hr.units (me_lst (ma_cons me_int (ma_cons me_int (ma_cons (me_call (ps := ["_law_state", "_law_base"]) tk O__law_digit (hr.mono (by decide : 1 ≤ 3)) (by exact rfl) (He.glo_ok KX G (S.fact 5 rfl)) F__law_digit.kp B__law_digit .nil Filled.nil (ma_cons (me_var 0) (ma_cons me_int ma_nil))) ma_nil)))) (me_call (ps := ["_law_state", "_law_base"]) tk O__law_digit (hr.mono (by decide : 1 ≤ 3)) (by exact rfl) (He.glo_ok KX G (S.fact 5 rfl)) F__law_digit.kp B__law_digit .nil Filled.nil (ma_cons (me_var 0) (ma_cons me_int ma_nil)))) (ma_cons (me_var 6) ma_nil)))))))))))
theorem sc_law : FnScope ["_law_script", "_law_made_here", "_law_cell", "_law_state", "_law_parts", "_law_one", "_law_plain", "_law_other", "_law_its", "_law_spoilt", "_law_at"] ["_law_script"] (defScope (top 27)) := ⟨rfl, rfl, rfl, by decide +kernel, rfl, by decide +kernel, by decide +kernel⟩
theorem ok_law (S : SaysB fa fnl K) (KX : K.In h) (G : h.Ns mainGlobals mg) (TB : TabsB K mg base lts) : ∃ fd, FunD K "law" "law" (defArgs (top 27)) (defBody (top 27)) (defScope (top 27)) [] [] (He.fAd K ("law", none)) fd ∧ FnOk P w K mg base (L2.CX P w) 6 (He.fAd K ("law", none)) fd ["_law_script"] (spM (CF P w K lf) 1 d_law) := by
  obtain ⟨fd, F⟩ := S.def_ 18 rfl
  obtain ⟨fd__law_made, F__law_made, O__law_made⟩ := ok__law_made (P := P) (w := w) (base := base) (lf := lf) S KX G TB
  have B__law_made : L2.Binds K fd__law_made ["_law_parts"] [] := F__law_made.bindsN fun _ _ _ _ _ _ us hl => match us, hl with | [_], _ => rfl
  obtain ⟨fd__law_bad, F__law_bad, O__law_bad⟩ := ok__law_bad (P := P) (w := w) (base := base) (lf := lf) S KX G TB
  have B__law_bad : L2.Binds K fd__law_bad ["_law_state", "_law_at"] [] := F__law_bad.bindsN fun _ _ _ _ _ _ us hl => match us, hl with | [_, _], _ => rfl
  obtain ⟨fd__law_digit, F__law_digit, O__law_digit⟩ := ok__law_digit (P := P) (w := w) (base := base) (lf := lf) S KX G TB
  have B__law_digit : L2.Binds K fd__law_digit ["_law_state", "_law_base"] [] := F__law_digit.bindsN fun _ _ _ _ _ _ us hl => match us, hl with | [_, _], _ => rfl
  obtain ⟨fd_Thing_ZeqZ, F_Thing_ZeqZ, O_Thing_ZeqZ⟩ := ok_Thing_ZeqZ (P := P) (w := w) (base := base) (lf := lf) S KX G TB
  have B_Thing_ZeqZ : L2.Binds K fd_Thing_ZeqZ ["self", "thing"] [] := F_Thing_ZeqZ.bindsN fun _ _ _ _ _ _ us hl => match us, hl with | [_, _], _ => rfl
  obtain ⟨fd_Rule_ZeqZ, F_Rule_ZeqZ, O_Rule_ZeqZ⟩ := ok_Rule_ZeqZ (P := P) (w := w) (base := base) (lf := lf) S KX G TB
  have B_Rule_ZeqZ : L2.Binds K fd_Rule_ZeqZ ["self", "thing"] [] := F_Rule_ZeqZ.bindsN fun _ _ _ _ _ _ us hl => match us, hl with | [_, _], _ => rfl
  obtain ⟨fd_Thing_ZinitZ, F_Thing_ZinitZ, O_Thing_ZinitZ⟩ := ok_Thing_ZinitZ (P := P) (w := w) (base := base) (lf := lf) S KX G TB
  have KS_Thing_ZinitZ_rule : ∃ mv : List Value, KBn K fd_Thing_ZinitZ ["self", "name", "marks", "weight", "rule"] 3 ["rule"] (fun us ws => us ++ picks [.inr 0, .inl 0] mv ws) (fun vs zs => vs ++ picks [.inr 0, .inl 0] (([("weight", .int 0)] : List (Str × V)).map (·.2)) zs) := kb_src F_Thing_ZinitZ 3 ["rule"] [("weight", .int 0)] [.inr 0, .inl 0] (by decide) (by show ∀ q ∈ ([("weight", .int 0)] : List (Str × V)), q ∈ ([("weight", .int 0), ("rule", .non)] : List (Str × V)); simp) (fun _ _ _ _ _ _ us mv ws l1 l2 l3 => match us, mv, ws, l1, l2, l3 with | [_, _, _], [_], [_], _, _, _ => ⟨_, _, _, _, _, _, rfl, rfl, rfl⟩)
  have KS_Thing_ZinitZ_none : ∃ mv : List Value, KBn K fd_Thing_ZinitZ ["self", "name", "marks", "weight", "rule"] 3 [] (fun us ws => us ++ picks [.inr 0, .inr 1] mv ws) (fun vs zs => vs ++ picks [.inr 0, .inr 1] (([("weight", .int 0), ("rule", .non)] : List (Str × V)).map (·.2)) zs) := kb_src F_Thing_ZinitZ 3 [] [("weight", .int 0), ("rule", .non)] [.inr 0, .inr 1] (by decide) (by show ∀ q ∈ ([("weight", .int 0), ("rule", .non)] : List (Str × V)), q ∈ ([("weight", .int 0), ("rule", .non)] : List (Str × V)); simp) (fun _ _ _ _ _ _ us mv ws l1 l2 l3 => match us, mv, ws, l1, l2, l3 with | [_, _, _], [_, _], [], _, _, _ => ⟨_, _, _, _, _, _, rfl, rfl, ⟨_, _, _, _, _, _, rfl, rfl, rfl⟩⟩)
  obtain ⟨fd__law_good, F__law_good, O__law_good⟩ := ok__law_good (P := P) (w := w) (base := base) (lf := lf) S KX G TB
  have B__law_good : L2.Binds K fd__law_good ["_law_state"] [] := F__law_good.bindsN fun _ _ _ _ _ _ us hl => match us, hl with | [_], _ => rfl
  refine ⟨fd, F, fn_ok (C := CF P w K lf) (N := ["_law_script", "_law_made_here", "_law_cell", "_law_state", "_law_parts", "_law_one", "_law_plain", "_law_other", "_law_its", "_law_spoilt", "_law_at"]) F sc_law (fun cdv A outer s H E hr => ?_)⟩
  have tk : Takes (cxOf (L2.CX P w) P w K mg base ["_law_script", "_law_made_here", "_law_cell", "_law_state", "_law_parts", "_law_one", "_law_plain", "_law_other", "_law_its", "_law_spoilt", "_law_at"] "law" (defScope (top 27)) (He.fAd K ("law", none)) cdv A outer s H E) (fun cls od _ H => E cls od H) := takes_of rfl rfl rfl rfl
  have pw : PassesOwn (model P w) (cxOf (L2.CX P w) P w K mg base ["_law_script", "_law_made_here", "_law_cell", "_law_state", "_law_parts", "_law_one", "_law_plain", "_law_other", "_law_its", "_law_spoilt", "_law_at"] "law" (defScope (top 27)) (He.fAd K ("law", none)) cdv A outer s H E).A (cxOf (L2.CX P w) P w K mg base ["_law_script", "_law_made_here", "_law_cell", "_law_state", "_law_parts", "_law_one", "_law_plain", "_law_other", "_law_its", "_law_spoilt", "_law_at"] "law" (defScope (top 27)) (He.fAd K ("law", none)) cdv A outer s H E).env (cxOf (L2.CX P w) P w K mg base ["_law_script", "_law_made_here", "_law_cell", "_law_state", "_law_parts", "_law_one", "_law_plain", "_law_other", "_law_its", "_law_spoilt", "_law_at"] "law" (defScope (top 27)) (He.fAd K ("law", none)) cdv A outer s H E).xe := passes_of rfl
  exact (ms_cons
  (ms_set (i := 1) sc_law.nd rfl (by first | exact Or.inl rfl | exact Or.inr rfl) (me_lstC ma_nil))
  (ms_cons
  (ms_forT [2, 3, 4, 5, 6, 7, 8, 9, 10] pw rfl (mi_any rfl (me_bin or_add os_add (me_lst (ma_cons me_int (ma_cons me_int (ma_cons me_int ma_nil)))) (me_sl rfl (me_var 0) mo_none (mo_some me_int)))) (mg_name (i := 2) sc_law.nd rfl (by first | exact Or.inl rfl | exact Or.inr rfl))
  (ms_cons
  (ms_set (i := 3) sc_law.nd rfl (by first | exact Or.inl rfl | exact Or.inr rfl) (me_lstC (ma_cons (me_var 2) ma_nil)))
  (ms_cons
  (ms_set (i := 4) sc_law.nd rfl (by first | exact Or.inl rfl | exact Or.inr rfl) (me_callS (ps := ["_law_state"]) tk O__law_good (hr.mono (by decide : 4 ≤ 5)) (by exact rfl) (He.glo_ok KX G (S.fact 31 rfl)) F__law_good.kp B__law_good (ma_cons (me_var 3) ma_nil)))
  (ms_cons
  (ms_set (i := 5) sc_law.nd rfl (by first | exact Or.inl rfl | exact Or.inr rfl) (me_call (ps := ["_law_parts"]) tk O__law_made (hr.mono (by decide : 5 ≤ 5)) (by exact rfl) (He.glo_ok KX G (S.fact 0 rfl)) F__law_made.kp B__law_made .nil Filled.nil (ma_cons (me_var 4) ma_nil)))
  (ms_cons
  (ms_if (mt_w (mw_or (mt_not (mt_val (me_callB cr_isi (cs_isi (kit_ok (S.fact 7 rfl))) (by exact rfl) (He.free_ok KX G (S.fact 28 rfl)) (by decide +kernel) (ma_cons (me_var 5) (ma_cons (me_glo (by exact rfl) (He.glo_ok KX G (S.fact 27 rfl))) ma_nil))))) (mw_or1 (mt_cmp (op_neOL (elOr_ok (elOr_ok (elOr_ok (elOr_ok elF_ok (ElOk.mono (by decide : 2 ≤ 2) (ownB_ok O_Rule_ZeqZ B_Rule_ZeqZ (meth_ok (S.fact 9 rfl)).at_ (meth_ok (S.fact 9 rfl)).fn rfl (kit_ok (S.fact 7 rfl)) (notF_ok (S.fact 10 rfl))))) (ElOk.mono (by decide : 2 ≤ 2) (ownB_ok O_Rule_ZeqZ B_Rule_ZeqZ (meth_ok (S.fact 11 rfl)).at_ (meth_ok (S.fact 11 rfl)).fn rfl (kit_ok (S.fact 7 rfl)) (notF_ok (S.fact 12 rfl))))) (ElOk.mono (by decide : 2 ≤ 2) (ownB_ok O_Rule_ZeqZ B_Rule_ZeqZ (meth_ok (S.fact 13 rfl)).at_ (meth_ok (S.fact 13 rfl)).fn rfl (kit_ok (S.fact 7 rfl)) (notF_ok (S.fact 14 rfl))))) (ElOk.mono (by decide : 2 ≤ 2) (ownB_ok O_Rule_ZeqZ B_Rule_ZeqZ (meth_ok (S.fact 15 rfl)).at_ (meth_ok (S.fact 15 rfl)).fn rfl (kit_ok (S.fact 7 rfl)) (notF_ok (S.fact 16 rfl))))) (hr.mono (by decide : 3 ≤ 5))) os_eqOL (me_lst (ma_cons (me_fld rfl (me_var 5) (has_ok (S.fact 30 rfl))) (ma_cons (me_fld rfl (me_var 5) (has_ok (S.fact 29 rfl))) (ma_cons (me_fld rfl (me_var 5) (has_ok (S.fact 20 rfl))) (ma_cons (me_fld rfl (me_var 5) (has_ok (S.fact 21 rfl))) ma_nil))))) (me_var 4)))))
  (ms_one (ms_ret me_bl))
  ms_nil)
  (ms_cons
  (ms_set (i := 6) sc_law.nd rfl (by first | exact Or.inl rfl | exact Or.inr rfl) (me_makeS (ps := ["self", "name", "marks", "weight", "rule"]) (ks := []) (n := 2) (src := [.inr 0, .inr 1]) (ms := [("weight", .int 0), ("rule", .non)]) rfl tk (mk_ok (S.fact 26 rfl)) O_Thing_ZinitZ (hr.mono (by decide : 4 ≤ 5)) (by exact rfl) (He.glo_ok KX G (S.fact 27 rfl)) KS_Thing_ZinitZ_none rfl (ma_cons (me_at rfl hr.units (me_var 4) me_int) (ma_cons (me_at rfl hr.units (me_var 4) me_int) ma_nil)) mk_nil))
  (ms_cons
  (ms_if (mt_w (mw_or (mt_cmp (op_neD hr.units) os_ne (me_fld rfl (me_var 6) (has_ok (S.fact 20 rfl))) me_int) (mw_or (mt_orT (mt_cmp (or_ownNe O_Rule_ZeqZ (hr.mono (by decide : 3 ≤ 5)) B_Rule_ZeqZ (meth_ok (S.fact 9 rfl)).at_ (meth_ok (S.fact 9 rfl)).fn (ne_facts (S.fact 22 rfl))) (os_ownNe (kit_ok (S.fact 7 rfl)) (notF_ok (S.fact 10 rfl))) (me_fld rfl (me_var 6) (has_ok (S.fact 21 rfl))) (me_makeO rfl (mko_ok (S.fact 17 rfl)) (by exact rfl) (He.glo_ok KX G (S.fact 18 rfl)))) (mt_orT (mt_cmp (or_ownNe O_Rule_ZeqZ (hr.mono (by decide : 3 ≤ 5)) B_Rule_ZeqZ (meth_ok (S.fact 11 rfl)).at_ (meth_ok (S.fact 11 rfl)).fn (ne_facts (S.fact 23 rfl))) (os_ownNe (kit_ok (S.fact 7 rfl)) (notF_ok (S.fact 12 rfl))) (me_fld rfl (me_var 6) (has_ok (S.fact 21 rfl))) (me_makeO rfl (mko_ok (S.fact 17 rfl)) (by exact rfl) (He.glo_ok KX G (S.fact 18 rfl)))) (mt_orT (mt_cmp (or_ownNe O_Rule_ZeqZ (hr.mono (by decide : 3 ≤ 5)) B_Rule_ZeqZ (meth_ok (S.fact 13 rfl)).at_ (meth_ok (S.fact 13 rfl)).fn (ne_facts (S.fact 24 rfl))) (os_ownNe (kit_ok (S.fact 7 rfl)) (notF_ok (S.fact 14 rfl))) (me_fld rfl (me_var 6) (has_ok (S.fact 21 rfl))) (me_makeO rfl (mko_ok (S.fact 17 rfl)) (by exact rfl) (He.glo_ok KX G (S.fact 18 rfl)))) (mt_cmp (or_ownNe O_Rule_ZeqZ (hr.mono (by decide : 3 ≤ 5)) B_Rule_ZeqZ (meth_ok (S.fact 15 rfl)).at_ (meth_ok (S.fact 15 rfl)).fn (ne_facts (S.fact 25 rfl))) (os_ownNe (kit_ok (S.fact 7 rfl)) (notF_ok (S.fact 16 rfl))) (me_fld rfl (me_var 6) (has_ok (S.fact 21 rfl))) (me_makeO rfl (mko_ok (S.fact 17 rfl)) (by exact rfl) (He.glo_ok KX G (S.fact 18 rfl))))))) (mw_or1 (mt_cmp (or_ownNe O_Thing_ZeqZ (hr.mono (by decide : 4 ≤ 5)) B_Thing_ZeqZ (meth_ok (S.fact 6 rfl)).at_ (meth_ok (S.fact 6 rfl)).fn (ne_facts (S.fact 19 rfl))) (os_ownNe (kit_ok (S.fact 7 rfl)) (notF_ok (S.fact 8 rfl))) (me_makeS (ps := ["self", "name", "marks", "weight", "rule"]) (ks := ["rule"]) (n := 2) (src := [.inr 0, .inl 0]) (ms := [("weight", .int 0)]) rfl tk (mk_ok (S.fact 26 rfl)) O_Thing_ZinitZ (hr.mono (by decide : 4 ≤ 5)) (by exact rfl) (He.glo_ok KX G (S.fact 27 rfl)) KS_Thing_ZinitZ_rule rfl (ma_cons (me_at rfl hr.units (me_var 4) me_int) (ma_cons (me_at rfl hr.units (me_var 4) me_int) ma_nil)) (mk_cons me_non mk_nil)) (me_var 6))))))
  (ms_one (ms_ret me_bl))
  ms_nil)
  (ms_cons
  (ms_if (mt_w (mw_or (mt_cmp (op_neD hr.units) os_ne (me_cmp (or_own O_Thing_ZeqZ (hr.mono (by decide : 3 ≤ 5)) B_Thing_ZeqZ (meth_ok (S.fact 6 rfl)).at_ (meth_ok (S.fact 6 rfl)).fn) (os_own (kit_ok (S.fact 7 rfl)) (notF_ok (S.fact 8 rfl))) (me_var 6) (me_var 5)) (me_cmp (op_eqOL (elOr_ok (elOr_ok (elOr_ok (elOr_ok elF_ok (ElOk.mono (by decide : 2 ≤ 2) (ownB_ok O_Rule_ZeqZ B_Rule_ZeqZ (meth_ok (S.fact 9 rfl)).at_ (meth_ok (S.fact 9 rfl)).fn rfl (kit_ok (S.fact 7 rfl)) (notF_ok (S.fact 10 rfl))))) (ElOk.mono (by decide : 2 ≤ 2) (ownB_ok O_Rule_ZeqZ B_Rule_ZeqZ (meth_ok (S.fact 11 rfl)).at_ (meth_ok (S.fact 11 rfl)).fn rfl (kit_ok (S.fact 7 rfl)) (notF_ok (S.fact 12 rfl))))) (ElOk.mono (by decide : 2 ≤ 2) (ownB_ok O_Rule_ZeqZ B_Rule_ZeqZ (meth_ok (S.fact 13 rfl)).at_ (meth_ok (S.fact 13 rfl)).fn rfl (kit_ok (S.fact 7 rfl)) (notF_ok (S.fact 14 rfl))))) (ElOk.mono (by decide : 2 ≤ 2) (ownB_ok O_Rule_ZeqZ B_Rule_ZeqZ (meth_ok (S.fact 15 rfl)).at_ (meth_ok (S.fact 15 rfl)).fn rfl (kit_ok (S.fact 7 rfl)) (notF_ok (S.fact 16 rfl))))) (hr.mono (by decide : 3 ≤ 5))) os_eqOL (me_sl rfl (me_var 4) (mo_some me_int) mo_none) (me_lst (ma_cons me_int (ma_cons (me_makeO rfl (mko_ok (S.fact 17 rfl)) (by exact rfl) (He.glo_ok KX G (S.fact 18 rfl))) ma_nil))))) (mw_or (mt_cmp (or_ownNe O_Thing_ZeqZ (hr.mono (by decide : 4 ≤ 5)) B_Thing_ZeqZ (meth_ok (S.fact 6 rfl)).at_ (meth_ok (S.fact 6 rfl)).fn (ne_facts (S.fact 19 rfl))) (os_ownNe (kit_ok (S.fact 7 rfl)) (notF_ok (S.fact 8 rfl))) (me_var 5) (me_call (ps := ["_law_parts"]) tk O__law_made (hr.mono (by decide : 5 ≤ 5)) (by exact rfl) (He.glo_ok KX G (S.fact 0 rfl)) F__law_made.kp B__law_made .nil Filled.nil (ma_cons (me_callTy (call_listAll rfl) (cs_listAll ⟨rfl, rfl, rfl⟩) (by exact rfl) (He.free_ok KX G (S.fact 3 rfl)) (by decide +kernel) (ma_cons (me_var 4) ma_nil)) ma_nil))) (mw_or1 (mt_cmp (or_own O_Thing_ZeqZ (hr.mono (by decide : 3 ≤ 5)) B_Thing_ZeqZ (meth_ok (S.fact 6 rfl)).at_ (meth_ok (S.fact 6 rfl)).fn) (os_own (kit_ok (S.fact 7 rfl)) (notF_ok (S.fact 8 rfl))) (me_var 5) (me_at rfl hr.units (me_var 4) me_int))))))
  (ms_one (ms_ret me_bl))
  ms_nil)
  (ms_cons
  (ms_if (mt_cmp (op_neD hr.units) os_ne (me_lcG (own := [("_law_other", 7), ("_law_its", 8)]) (fun _ _ _ => fin_lst) rfl sc_law.nd (mi_cellG rfl (me_var 1)) (blk_of rfl (by kernel_rfl)) (fun _ _ _ _ _ => by exact (pg_tup rfl (pgs_cons (pg_name (i := 7) sc_law.nd rfl (by first | exact Or.inl rfl | exact Or.inr rfl)) (pgs_cons (pg_name (i := 8) sc_law.nd rfl (by first | exact Or.inl rfl | exact Or.inr rfl)) pgs_nil)))) (tgw_tup (tgw_cons (i := 7) (by decide) (tgw_cons (i := 8) (by decide) tgw_nil)) (tgl_cons (tgl_cons tgl_nil))) (fun _ _ _ _ _ => by exact (mts_one (mt_cmp (op_neD hr.units) os_ne (me_cmp (or_own O_Thing_ZeqZ (hr.mono (by decide : 3 ≤ 5)) B_Thing_ZeqZ (meth_ok (S.fact 6 rfl)).at_ (meth_ok (S.fact 6 rfl)).fn) (os_own (kit_ok (S.fact 7 rfl)) (notF_ok (S.fact 8 rfl))) (me_var 7) (me_var 5)) (me_cmp (op_eqOL (elOr_ok (elOr_ok (elOr_ok (elOr_ok elF_ok (ElOk.mono (by decide : 2 ≤ 2) (ownB_ok O_Rule_ZeqZ B_Rule_ZeqZ (meth_ok (S.fact 9 rfl)).at_ (meth_ok (S.fact 9 rfl)).fn rfl (kit_ok (S.fact 7 rfl)) (notF_ok (S.fact 10 rfl))))) (ElOk.mono (by decide : 2 ≤ 2) (ownB_ok O_Rule_ZeqZ B_Rule_ZeqZ (meth_ok (S.fact 11 rfl)).at_ (meth_ok (S.fact 11 rfl)).fn rfl (kit_ok (S.fact 7 rfl)) (notF_ok (S.fact 12 rfl))))) (ElOk.mono (by decide : 2 ≤ 2) (ownB_ok O_Rule_ZeqZ B_Rule_ZeqZ (meth_ok (S.fact 13 rfl)).at_ (meth_ok (S.fact 13 rfl)).fn rfl (kit_ok (S.fact 7 rfl)) (notF_ok (S.fact 14 rfl))))) (ElOk.mono (by decide : 2 ≤ 2) (ownB_ok O_Rule_ZeqZ B_Rule_ZeqZ (meth_ok (S.fact 15 rfl)).at_ (meth_ok (S.fact 15 rfl)).fn rfl (kit_ok (S.fact 7 rfl)) (notF_ok (S.fact 16 rfl))))) (hr.mono (by decide : 3 ≤ 5))) os_eqOL (me_var 8) (me_var 4))))) (fun _ _ _ _ _ => by exact me_int)) (me_lst ma_nil))
  (ms_one (ms_ret me_bl))
  ms_nil)
  (ms_cons
  (ms_expr (me_bm rfl PySem.F.plainAttrs_list PySem.F.slot_list_append PySem.F.type_list_append mt_append ts_lst ms_append (me_var 1) (ma_cons (me_tup (ma_cons (me_var 5) (ma_cons (me_var 4) ma_nil))) ma_nil)))
  (ms_cons
  (ms_set (i := 9) sc_law.nd rfl (by first | exact Or.inl rfl | exact Or.inr rfl) (me_bin or_add os_add (me_lcF (own := [("_law_at", 10)]) (fun _ _ _ => fin_lst) rfl sc_law.nd (mi_range1 (by exact rfl) (He.free_ok KX G (S.fact 4 rfl)) (ma_cons me_int ma_nil)) (blk_of rfl (by kernel_rfl)) (fun _ _ _ _ _ => by exact (pg_name (i := 10) sc_law.nd rfl (by first | exact Or.inl rfl | exact Or.inr rfl))) (tgw_name 10 (by decide)) (fun _ _ _ _ _ => by exact (mts_one (mt_cmp (op_eqD hr.units) os_eq (me_callS (ps := ["_law_state", "_law_base"]) takes0 O__law_digit (hr.mono (by decide : 1 ≤ 5)) (by exact rfl) (He.glo_ok KX G (S.fact 5 rfl)) F__law_digit.kp B__law_digit (ma_cons (me_var 3) (ma_cons me_int ma_nil))) me_int))) (fun _ _ _ _ _ => by exact (me_var 10))) (me_lst (ma_cons (me_callS (ps := ["_law_state", "_law_base"]) tk O__law_digit (hr.mono (by decide : 1 ≤ 5)) (by exact rfl) (He.glo_ok KX G (S.fact 5 rfl)) F__law_digit.kp B__law_digit (ma_cons (me_var 3) (ma_cons me_int ma_nil))) ma_nil))))
  (ms_cons
  (ms_set (i := 7) sc_law.nd rfl (by first | exact Or.inl rfl | exact Or.inr rfl) (me_callTy (call_listAll rfl) (cs_listAllC ⟨rfl, rfl, rfl⟩) (by exact rfl) (He.free_ok KX G (S.fact 3 rfl)) (by decide +kernel) (ma_cons (me_var 4) ma_nil)))
  (ms_cons
  (ms_for pw rfl (mi_any rfl (me_var 9)) (mg_name (i := 10) sc_law.nd rfl (by first | exact Or.inl rfl | exact Or.inr rfl))
  (ms_one (ms_asg (me_callS (ps := ["_law_state", "_law_at"]) tk O__law_bad (hr.mono (by decide : 2 ≤ 5)) (by exact rfl) (He.glo_ok KX G (S.fact 2 rfl)) F__law_bad.kp B__law_bad (ma_cons (me_var 3) (ma_cons (me_var 10) ma_nil))) (mg_st hr.units (me_var 7) (me_var 10)))))
  (ms_one (ms_if (mt_cmp (op_neD hr.units) os_ne (me_call (ps := ["_law_parts"]) tk O__law_made (hr.mono (by decide : 5 ≤ 5)) (by exact rfl) (He.glo_ok KX G (S.fact 0 rfl)) F__law_made.kp B__law_made .nil Filled.nil (ma_cons (me_var 7) ma_nil)) (me_at rfl hr.units (me_lst (ma_cons me_str (ma_cons me_str (ma_cons me_str (ma_cons me_str ma_nil))))) (me_callB (cr_min rfl) cs_min1 (by exact rfl) (He.free_ok KX G (S.fact 1 rfl)) (by decide +kernel) (ma_cons (me_var 9) ma_nil))))
  (ms_one (ms_ret me_bl))
  ms_nil)))))))))))))))
  (ms_one (ms_ret me_bl))))
end
def lawDepth : Nat := 6
theorem law_fact {P : Program} {w : World} {K : PySem.W.Frag} {h : Heap} {mg : Str → Option Value} {f : Addr} (KX : K.In h) (G : h.Ns mainGlobals mg) (hmg : mg ("law" : Str) = some (.ref f)) (S : SaysB fa fnl K) :
    ∃ fd : FuncData, (∀ (s : Shared) (v : Value), BindsTo s fd ⟨[v], []⟩ [("_law_script", v)]) ∧ ∀ base : Heap, TabsB K mg base lts → FnOk P w K mg base (fun _ _ _ _ _ _ => False) lawDepth f fd ["_law_script"] (fun vs H Q _ => spM (CF P w K none) 1 d_law vs H Q fun _ _ _ => False) := by
  have e := hmg.symm.trans (He.glo_ok KX G (S.fact 77 rfl))
  cases e
  obtain ⟨fd, F⟩ := S.def_ 18 rfl
  refine ⟨fd, fun s v => (FunD.bindsA (ps := ["_law_script"]) F fun _ _ _ _ _ _ us hl => match us, hl with | [_], _ => rfl) s [v] rfl, fun base TB => ?_⟩
  obtain ⟨fd2, F2, O⟩ := ok_law (P := P) (w := w) (base := base) (lf := none) S KX G TB
  cases fun_same F F2
  exact fn_quiet (C := CF P w K none) O
end Lk02
set_option Elab.async false
set_option linter.all false
set_option maxRecDepth 100000
set_option maxHeartbeats 4000000
set_option autoImplicit false
namespace Lk02
open PySem Ws
def zzA := (And.intro @ap_turn (And.intro @ap_var (And.intro @ap_cst (And.intro @ap_bin (And.intro @ap_un (And.intro @ap_nil (And.intro @ap_cons (And.intro @ap_app (And.intro @ap_asB (And.intro @ap_notB (And.intro @ap_andB (And.intro @ap_orB (And.intro @ap_andV (And.intro @ap_orV (And.intro @ap_notV (And.intro @ap_ifE (And.intro @ap_chain (And.intro @ap_skip (And.intro @ap_seq (And.intro @ap_drop (And.intro @ap_ret (And.intro @ap_retN (And.intro @ap_brk (And.intro @ap_cont (And.intro @ap_ifS (And.intro @ap_asg (And.intro @ap_asgs (And.intro @ap_aug (And.intro @ap_tgN (And.intro @ap_tgTup (And.intro @ap_tgRtp (And.intro @ap_tgCons (And.intro @ap_tgNil (And.intro @ap_tgSt (And.intro @ap_for (And.intro @ap_forT (And.intro @ap_walk (And.intro @ap_walkA (And.intro @ap_yes (And.intro @ap_fldC (And.intro @ap_meth (And.intro @ap_bm (And.intro @ap_sl (And.intro @ap_noPart (And.intro @ap_part (And.intro @ap_orM (And.intro @ap_disp (And.intro @ap_dispC (And.intro @ap_prNil (And.intro @ap_prCons (And.intro @ap_emptyK (And.intro @ap_emptyKC (And.intro @ap_emptyTC (And.intro @ap_rz (And.intro @ap_rz1 (And.intro @ap_stf (And.intro @ap_makeK (And.intro @x_bind_ok (And.intro @x_bind_exc (And.intro @x_bind_bad (And.intro @x_bindS_ok (And.intro @x_bindS_exc (And.intro @x_bindS_bad @x_isBl)))))))))))))))))))))))))))))))))))))))))))))))))))))))))))))))
def zzB := (And.intro @ap_turn (And.intro @ap_var (And.intro @ap_cst (And.intro @ap_bin (And.intro @ap_un (And.intro @ap_nil (And.intro @ap_cons (And.intro @ap_app (And.intro @ap_asB (And.intro @ap_notB (And.intro @ap_andB (And.intro @ap_orB (And.intro @ap_andV (And.intro @ap_orV (And.intro @ap_notV (And.intro @ap_ifE (And.intro @ap_chain (And.intro @ap_skip (And.intro @ap_seq (And.intro @ap_drop (And.intro @ap_ret (And.intro @ap_retN (And.intro @ap_brk (And.intro @ap_cont (And.intro @ap_ifS (And.intro @ap_asg (And.intro @ap_asgs (And.intro @ap_aug (And.intro @ap_tgN (And.intro @ap_tgTup (And.intro @ap_tgRtp (And.intro @ap_tgCons (And.intro @ap_tgNil (And.intro @ap_tgSt (And.intro @ap_for (And.intro @ap_forT (And.intro @ap_walk (And.intro @ap_walkA (And.intro @ap_ccF (And.intro @ap_sc (And.intro @ap_yes (And.intro @ap_fldC (And.intro @ap_meth (And.intro @ap_bm (And.intro @ap_sl (And.intro @ap_noPart (And.intro @ap_part (And.intro @ap_orM (And.intro @ap_disp (And.intro @ap_dispC (And.intro @ap_prNil (And.intro @ap_prCons (And.intro @ap_emptyK (And.intro @ap_emptyKC (And.intro @ap_emptyTC (And.intro @ap_rz (And.intro @ap_rz1 (And.intro @ap_stf (And.intro @ap_makeK (And.intro @x_bind_ok (And.intro @x_bind_exc (And.intro @x_bind_bad (And.intro @x_bindS_ok (And.intro @x_bindS_exc (And.intro @x_bindS_bad @x_isBl)))))))))))))))))))))))))))))))))))))))))))))))))))))))))))))))))
def zzO := (And.intro @o_add (And.intro @o_sub (And.intro @o_gt (And.intro @o_lt (And.intro @o_ge (And.intro @o_le (And.intro @o_eq (And.intro @o_iadd (And.intro @o_isub (And.intro @o_neg (And.intro @o_half (And.intro @o_int1 (And.intro @o_max2 (And.intro @o_isN (And.intro @o_isI (And.intro @o_nisN (And.intro @o_nisI (And.intro @o_tup1 (And.intro @o_tup2 (And.intro @o_tup3 (And.intro @o_tup4 (And.intro @o_lenT (And.intro @o_lenL (And.intro @o_lenD (And.intro @o_takeT (And.intro @o_dropT (And.intro @o_takeL (And.intro @o_dropL (And.intro @o_itemsT (And.intro @o_itemsL (And.intro @o_itemsS (And.intro @o_finL (And.intro @o_tupL (And.intro @o_inS (And.intro @o_ninS (And.intro @o_anyB (And.intro @o_allB (And.intro @r_held (And.intro @r_lift (And.intro @r_press (And.intro @r_hold (And.intro @r_name (And.intro @r_marks (And.intro @r_weight (And.intro @r_rule (And.intro @a_names (And.intro @a_marks (And.intro @a_heavy (And.intro @a_rules (And.intro @a_bar (And.intro @a_sinks @a_slack)))))))))))))))))))))))))))))))))))))))))))))))))))
def zzP := (And.intro @o_add (And.intro @o_sub (And.intro @o_gt (And.intro @o_lt (And.intro @o_ge (And.intro @o_le (And.intro @o_eq (And.intro @o_iadd (And.intro @o_isub (And.intro @o_neg (And.intro @o_half (And.intro @o_int1 (And.intro @o_max2 (And.intro @o_isN (And.intro @o_isI (And.intro @o_nisN (And.intro @o_nisI (And.intro @o_tup1 (And.intro @o_tup2 (And.intro @o_tup3 (And.intro @o_tup4 (And.intro @o_lenL (And.intro @o_lenD (And.intro @o_takeT (And.intro @o_dropT (And.intro @o_takeL (And.intro @o_dropL (And.intro @o_itemsT (And.intro @o_itemsL (And.intro @o_itemsS (And.intro @o_finL (And.intro @o_tupL (And.intro @o_inS (And.intro @o_ninS (And.intro @o_anyB (And.intro @o_allB (And.intro @r_held (And.intro @r_lift (And.intro @r_press (And.intro @r_hold (And.intro @r_name (And.intro @r_marks (And.intro @r_weight (And.intro @r_rule (And.intro @a_names (And.intro @a_marks (And.intro @a_heavy (And.intro @a_rules (And.intro @a_bar (And.intro @a_sinks @a_slack))))))))))))))))))))))))))))))))))))))))))))))))))
def zzL := (And.intro @List.getElem?_cons_zero.{0} (And.intro @List.getElem?_cons_succ.{0} (And.intro @List.set_cons_zero.{0} (And.intro @List.set_cons_succ.{0} (And.intro @if_true.{1} (And.intro @Bool.false_eq_true (And.intro @if_false.{1} (And.intro @ite_true.{1} (And.intro @ite_false.{1} (And.intro @Bool.not_true @Bool.not_false))))))))))
theorem isi_str (x : Str) (h : AH) : gIsi kt [.str x, .ty "str"] h = .ok (.bl true) h := (rfl)
theorem marks_le {t : Th} (ok : t.Ok) : (cps t.marks).length ≤ 26 := by
  have h1 := ok.ma.al
  have h2 := ok.ma.up
  generalize cps t.marks = l at h1 h2
  have : ∀ (l : List Nat) (a : Nat), (∀ c ∈ l, a ≤ c ∧ c ≤ 122) → l.Pairwise (· < ·) → l.length ≤ 123 - a := by
    intro l
    induction l with
    | nil => intro a _ _; simp
    | cons x l ih =>
      intro a h1 h2
      obtain ⟨p1, p2⟩ := List.pairwise_cons.mp h2
      have hx := h1 x List.mem_cons_self
      have := ih (x + 1) (fun c hc => ⟨p1 c hc, (h1 c (List.mem_cons_of_mem _ hc)).2⟩) p2
      simp only [List.length_cons]
      omega
  exact this l 97 h1 h2
theorem isi_int_int (i : Int) (h : AH) : gIsi kt [.int i, .ty "int"] h = .ok (.bl true) h := (rfl)
theorem isi_int_bool (i : Int) (h : AH) : gIsi kt [.int i, .ty "bool"] h = .ok (.bl false) h := (rfl)
theorem isi_rule (r : Go) (h : AH) : gIsi kt [ruleD r, .glo "Rule"] h = .ok (.bl true) h := by cases r <;> exact (rfl)
theorem c_whole {i lo hi : Int} (h1 : lo ≤ i) (h2 : i ≤ hi) (h : AH) : cal 3 [] d_is_whole [.int i, .int lo, .int hi] h = .ok (.bl true) h := by
  refine cal_pure (h0 := []) rfl (by simp only [pureDs, pure_house, pure_model, pure_ord, pure_nm, pure_str, pure_int, pure_tr, pure_th, pure_rule, pure_sgn, Bool.and_true, Bool.and_self]) (fn_rt0 (h' := []) ?_ rfl) rfl
  show m_is_whole [some (.int i), some (.int lo), some (.int hi)] [] = _
  unfold m_is_whole
  simp only [zzB, zzO, zzL, isi_int_int, isi_int_bool, decide_eq_true h1, decide_eq_true h2]
theorem c_wholeN {i lo : Int} (h1 : lo ≤ i) (h : AH) : cal 3 [] d_is_whole [.int i, .int lo, .non] h = .ok (.bl true) h := by
  refine cal_pure (h0 := []) rfl (by simp only [pureDs, pure_house, pure_model, pure_ord, pure_nm, pure_str, pure_int, pure_tr, pure_th, pure_rule, pure_sgn, Bool.and_true, Bool.and_self]; rfl) (fn_rt0 (h' := []) ?_ rfl) rfl
  show m_is_whole [some (.int i), some (.int lo), some .non] [] = _
  unfold m_is_whole
  simp only [zzB, zzO, zzL, isi_int_int, isi_int_bool, decide_eq_true h1]
theorem c_isname {x : Str} (ok : OkN x) (h : AH) : cal 1 [] d_is_name [.str x] h = .ok (.bl true) h := by
  refine cal_pure (h0 := []) rfl (by simp only [pureDs, pure_house, pure_model, pure_ord, pure_nm, pure_str, pure_int, pure_tr, pure_th, pure_rule, pure_sgn, Bool.and_true, Bool.and_self]) (fn_rt0 (h' := []) ?_ rfl) rfl
  show m_is_name [some (.str x), none] [] = _
  unfold m_is_name
  have l1 := ok.lo
  have l2 := ok.hi
  have k1 : ccF [1] (walk itemsA (var 0)) (tgN 1) yesB (emE (bin gInA (var 1) (cst (.str "abcdefghijklmnopqrstuvwxyz"))) stepL) [] finL [some (.str x), none] [] = .ok (.lst ((cps x).map fun _ => .bl true)) [] := by
    refine ccF_map (xs := cps x) (g := sgn) rfl (fun c hc => ⟨_, rfl, rfl, ?_⟩) (by omega)
    simp only [wipeD, zzB, zzO, zzL]
    rw [show ("abcdefghijklmnopqrstuvwxyz" : Str).cps.toList = alpha from alpha_cps, decide_eq_true (mem_alpha.mpr (ok.al c hc))]
  simp only [zzA, zzO, zzL, isi_str, o_lenS (show (cps x).length ≤ 1000000 by omega), decide_eq_true (show (1 : Int) ≤ (cps x).length by omega), decide_eq_true (show ((cps x).length : Int) ≤ 8 by omega), k1, o_allT]
theorem c_marks {x : Str} (ok : OkM x) (hl : (cps x).length ≤ 26) (h : AH) : cal 1 [] d_are_marks [.str x] h = .ok (.bl true) h := by
  refine cal_pure (h0 := []) rfl (by simp only [pureDs, pure_house, pure_model, pure_ord, pure_nm, pure_str, pure_int, pure_tr, pure_th, pure_rule, pure_sgn, Bool.and_true, Bool.and_self]) (fn_rt0 (h' := []) ?_ rfl) rfl
  show m_are_marks [some (.str x), none, none, none] [] = _
  unfold m_are_marks
  have k1 : ccF [1] (walk itemsA (var 0)) (tgN 1) yesB (emE (bin gInA (var 1) (cst (.str "abcdefghijklmnopqrstuvwxyz"))) stepL) [] finL [some (.str x), none, none, none] [] = .ok (.lst ((cps x).map fun _ => .bl true)) [] := by
    refine ccF_map (xs := cps x) (g := sgn) rfl (fun c hc => ⟨_, rfl, rfl, ?_⟩) (by omega)
    simp only [wipeD, zzB, zzO, zzL]
    rw [show ("abcdefghijklmnopqrstuvwxyz" : Str).cps.toList = alpha from alpha_cps, decide_eq_true (mem_alpha.mpr (ok.al c hc))]
  have k2 : ccF [2, 3] (walkA zipA (consA (var 0) (consA (sl (var 0) (part (cst (.int 1))) noPart) nilA))) (tgTup (tgCons (tgN 2) (tgCons (tgN 3) tgNil))) yesB (emE (bin gLt (var 2) (var 3)) stepL) [] finL [some (.str x), none, none, none] [] = .ok (.lst ((List.range ((cps x).length - 1)).map fun _ => .bl true)) [] := by
    refine ccF_map (xs := List.range ((cps x).length - 1)) (g := fun i => .rtp [sgn ((cps x).getD i 0), sgn ((cps x).getD (i + 1) 0)]) ?_ (fun i hi => ⟨_, rfl, rfl, ?_⟩) (by simp; omega)
    · have e1 : (1 : Int) = ((1 : Nat) : Int) := rfl
      simp only [zzB, zzO, zzL]
      rw [e1, o_dropS _ _ _ (by omega)]
      simp only [zzB, zzO, zzL]
      rw [zip_tailS]
    · have hi : i < (cps x).length - 1 := by simpa using hi
      simp only [wipeD, zzB, zzO, zzL]
      refine o_ltS ?_ _
      have := List.pairwise_iff_getElem.mp ok.up i (i + 1) (by omega) (by omega) (by omega)
      rw [show (cps x).getD i 0 = (cps x)[i] by simp [show i < (cps x).length by omega], show (cps x).getD (i + 1) 0 = (cps x)[i + 1] by simp [show i + 1 < (cps x).length by omega]]
      exact this
  simp only [zzA, zzO, zzL, isi_str, k1, k2, o_allT]
theorem mk_by {n : Int} (hn : 0 ≤ n) (h : AH) : makeN "By" 2 [] d_By_ZinitZ [.int n] h = .ok (ruleD (.steps n)) h := by
  have e : d_By_ZinitZ [.cell 0, .int n] [some (.ins "By" [])] = .ok .non [some (.ins "By" [("steps", .int n)])] := by
    refine fn_nxP (σ' := [some (.cell 0), some (.int n)]) ?_ rfl rfl
    show m_By_ZinitZ [some (.cell 0), some (.int n)] [some (.ins "By" [])] = _
    unfold m_By_ZinitZ
    simp only [zzB, zzO, zzL, c_wholeN hn]
    rfl
  unfold makeN make
  simp only [List.append_nil]
  rw [if_pos (show [D.int n].length + 1 = 2 from rfl), if_pos (show pureDs 0 [D.int n] = true from rfl), e]
  rfl
theorem mk_thing {t : Th} (ok : t.Ok) (h : AH) : make "Thing" d_Thing_ZinitZ [nmD t, .str t.marks, .int t.weight, ruleD t.rule] h = .ok (thD t) h := by
  have e : d_Thing_ZinitZ [.cell 0, nmD t, .str t.marks, .int t.weight, ruleD t.rule] [some (.ins "Thing" [])] = .ok .non [some (.ins "Thing" [("name", .str t.name), ("marks", .str t.marks), ("weight", .int t.weight), ("rule", ruleD t.rule)])] := by
    refine fn_nxP (σ' := [some (.cell 0), some (nmD t), some (.str t.marks), some (.int t.weight), some (ruleD t.rule)]) ?_ rfl ?_
    · show m_Thing_ZinitZ [some (.cell 0), some (.str t.name), some (.str t.marks), some (.int t.weight), some (ruleD t.rule)] [some (.ins "Thing" [])] = _
      unfold m_Thing_ZinitZ
      have n1 : ∀ h, gNot gIs (ruleD t.rule) .non h = .ok (.bl true) h := fun h => by cases t.rule <;> rfl
      have n2 : ∀ h, gIs (ruleD t.rule) .non h = .ok (.bl false) h := fun h => by cases t.rule <;> rfl
      simp only [zzB, zzO, zzL, c_isname ok.nm, c_marks ok.ma (marks_le ok), c_whole ok.w0 ok.w1, n1, n2, isi_rule, h_get0, h_put0, List.mem_singleton, List.mem_cons, true_and, true_or, List.length_nil, List.length_cons, Nat.zero_add, putD, ne_name_marks, ne_name_weight, ne_name_rule, ne_marks_weight, ne_marks_rule, ne_weight_rule, ne_held_lift, ne_held_press, ne_held_hold, ne_lift_press, ne_lift_hold, ne_press_hold, (show (0 < 900) = True from eq_true (by decide)), (show (1 < 900) = True from eq_true (by decide)), (show (2 < 900) = True from eq_true (by decide)), (show (3 < 900) = True from eq_true (by decide)), (show (0 + 1 < 900) = True from eq_true (by decide)), (show (0 + 1 + 1 < 900) = True from eq_true (by decide)), (show (0 + 1 + 1 + 1 < 900) = True from eq_true (by decide))]
      rfl
    · simp only [pureH, pureO, pureF, pureD, pure_rule, Bool.and_true, Bool.true_and]
  unfold make
  rw [if_pos (by simp only [pureDs, pure_house, pure_model, pure_ord, pure_nm, pure_str, pure_int, pure_tr, pure_th, pure_rule, pure_sgn, Bool.and_true, Bool.and_self]), e]
  dsimp only
  rw [if_pos (by simp only [pureF, pureD, pure_rule, Bool.and_true, Bool.true_and])]
  rfl
end Lk02
set_option Elab.async false
set_option linter.all false
set_option maxRecDepth 100000
set_option maxHeartbeats 4000000
set_option autoImplicit false
namespace Lk02
open PySem Ws
theorem c_digitW {st : List D} (hs : Dr st) {r : AH} (hr : pureH (r.length + 1) r = true) {b : Int} (hb : 0 < b) (hb2 : b < 1073741824) :
    ∃ (n : Nat) (st' : List D), cal 2 [] d__law_digit [.cell 0, .int b] (some (.lst st) :: r) = .ok (.int (n : Nat)) (some (.lst st') :: r) ∧ (n : Int) < b ∧ Dr st' := by
  have main : ∃ (n : Nat) (st' : List D), m__law_digit [some (.cell 0), some (.int b), none, none] (some (.lst st) :: r) = .rt (.int (n : Nat)) (some (.lst st') :: r) ∧ (n : Int) < b ∧ Dr st' := by
    have key : ∀ a u c : Int, ∃ (n : Nat) (st' : List D), (seqS
        (ifS (asB (bin gGe (bin gAt (var 0) (cst (.int 0))) (var 1)))
        (seqS
        (asg (bin gMod (bin gAt (var 0) (cst (.int 0))) (var 1)) (tgN 2))
        (seqS
        (asg (bin gDiv (bin gAt (var 0) (cst (.int 0))) (var 1)) (tgSt (var 0) (cst (.int 0))))
        (ret (var 2))))
        skip)
        (seqS
        (asg (bin gAdd (bin gAt (var 0) (cst (.int 2))) (cst (.int 1))) (tgSt (var 0) (cst (.int 2))))
        (seqS
        (asg (bin gMod (bin gMul (bin gAdd (bin gAt (var 0) (cst (.int 1))) (bin gMul (cst (.int 7919)) (bin gAt (var 0) (cst (.int 2))))) (cst (.int 48271))) (cst (.int 2147483647))) (tgN 3))
        (ret (bin gMod (bin gDiv (bin gMod (bin gMul (bin gAdd (var 3) (bin gDiv (var 3) (cst (.int 1009)))) (bin gAdd (bin gDiv (var 3) (cst (.int 65537))) (cst (.int 69621)))) (cst (.int 2147483629))) (cst (.int 7))) (var 1))))))
        [some (.cell 0), some (.int b), none, none] (some (.lst [.int a, .int u, .int c]) :: r) = .rt (.int (n : Nat)) (some (.lst st') :: r) ∧ (n : Int) < b ∧ Dr st' := by
      intro a u c
      have fin : ∀ x : Int, ((x % b).toNat : Int) = x % b := fun x => Int.toNat_of_nonneg (Int.emod_nonneg _ (by omega))
      by_cases hge : b ≤ a
      · refine ⟨(a % b).toNat, [.int (a / b), .int u, .int c], ?_, by rw [fin]; exact Int.emod_lt_of_pos _ hb, .three _ _ _⟩
        rw [fin]
        simp only [zzB, zzO, zzL, s_at0, decide_eq_true hge, o_mod hb, o_div hb (show b < 1073741824 by omega), s_st0]
      · obtain ⟨mx, hmx⟩ : ∃ mx, mx = (u + 7919 * (c + 1)) * 48271 % 2147483647 := ⟨_, rfl⟩
        have m0 : 0 ≤ mx := by rw [hmx]; exact Int.emod_nonneg _ (by decide)
        have m1 : mx < 2147483647 := by rw [hmx]; exact Int.emod_lt_of_pos _ (by decide)
        have s1 : small64 48271 = true := by decide
        have s2 : small64 7919 = true := by decide
        have s3 : small64 (mx / 65537 + 69621) = true := by unfold small64; simp only [Bool.and_eq_true, decide_eq_true_eq]; omega
        refine ⟨((mx + mx / 1009) * (mx / 65537 + 69621) % 2147483629 / 7 % b).toNat, [.int a, .int u, .int (c + 1)], ?_, by rw [fin]; exact Int.emod_lt_of_pos _ hb, .three _ _ _⟩
        rw [fin]
        simp only [zzB, zzO, zzL, s_at0, s_at1, s_at2, decide_eq_false hge, s_st2, o_mulL s2, o_mulR s1, o_mod (show (0 : Int) < 2147483647 by decide), ← hmx, o_div (show (0 : Int) < 1009 by decide) (by decide), o_div (show (0 : Int) < 65537 by decide) (by decide), o_mulR s3, o_mod (show (0 : Int) < 2147483629 by decide), o_div (show (0 : Int) < 7 by decide) (by decide), o_mod hb]
    unfold m__law_digit
    cases hs with
    | one a =>
      obtain ⟨n, st', k1, k2, k3⟩ := key a (a % 2147483647) 0
      refine ⟨n, st', ?_, k2, k3⟩
      rw [ap_seq, show (ifS (asB (bin gEqD (app gLenA (consA (var 0) nilA)) (cst (.int 1))))
        (drop (bm isLst gExtend (var 0) (consA (app gLst (consA (bin gMod (bin gAt (var 0) (cst (.int 0))) (cst (.int 2147483647))) (consA (cst (.int 0)) nilA))) nilA)))
        skip) [some (.cell 0), some (.int b), none, none] (some (.lst [.int a]) :: r) = .nx [some (.cell 0), some (.int b), none, none] (some (.lst [.int a, .int (a % 2147483647), .int 0]) :: r) from by
          simp only [zzB, zzO, zzL, s_len1, decide_true, s_isl, s_one, o_mod (show (0 : Int) < 2147483647 by decide), o_lst2, s_ext]]
      exact k1
    | three a u c =>
      obtain ⟨n, st', k1, k2, k3⟩ := key a u c
      refine ⟨n, st', ?_, k2, k3⟩
      rw [ap_seq, show (ifS (asB (bin gEqD (app gLenA (consA (var 0) nilA)) (cst (.int 1))))
        (drop (bm isLst gExtend (var 0) (consA (app gLst (consA (bin gMod (bin gAt (var 0) (cst (.int 0))) (cst (.int 2147483647))) (consA (cst (.int 0)) nilA))) nilA)))
        skip) [some (.cell 0), some (.int b), none, none] (some (.lst [.int a, .int u, .int c]) :: r) = .nx [some (.cell 0), some (.int b), none, none] (some (.lst [.int a, .int u, .int c]) :: r) from by
          simp only [zzB, zzO, zzL, s_len3, show decide ((3 : Int) = 1) = false from rfl]]
      exact k1
  obtain ⟨n, st', e, hn, h'⟩ := main
  refine ⟨n, st', ?_, hn, h'⟩
  rw [cal_cell (n := 2) (ds := [.cell 0, .int b]) rfl rfl]
  have pq : pureH (r.length + 1) (some (.lst st') :: r) = true := by
    unfold pureH pureO
    dsimp only
    rw [h'.pure, hr]; rfl
  have tk : List.take (r.length + 1) (some (OB.lst st') :: r) = some (.lst st') :: r := List.take_of_length_le (by simp)
  have := fn_rt (n := 4) (m := m__law_digit) (ds := [.cell 0, .int b]) (h := some (.lst st) :: r) e rfl (by simp only [List.length_cons]; rw [tk]; exact pq)
  simp only [List.length_cons] at this
  rw [tk] at this
  exact this
theorem c_digit {st : List D} (hs : Dr st) {r : AH} (hr : pureH (r.length + 1) r = true) {b : Int} (hb : 0 < b) (hb2 : b < 1073741824) :
    ∃ (n : Nat) (st' : List D), cal 2 [] d__law_digit [.cell 0, .int b] (some (.lst st) :: r) = .ok (.int (n : Nat)) (some (.lst st') :: r) ∧ (n : Int) < b ∧ Dr st' := c_digitW hs hr hb (hb2)
end Lk02
set_option Elab.async false
set_option linter.all false
set_option maxRecDepth 100000
set_option maxHeartbeats 4000000
set_option autoImplicit false
namespace Lk02
open PySem Ws
def eqG : Go → Go → Bool
  | .front, .front => true
  | .steps m, .steps n => decide (m = n)
  | .half, .half => true
  | .like, .like => true
  | _, _ => false
theorem rule_eq (a b : Go) : d_Rule_ZeqZ [ruleD a, ruleD b] [] = .ok (.bl (eqG a b)) [] := by
  cases a <;> cases b <;> exact (rfl)
def clsG : Go → Str
  | .front => "Front" | .steps _ => "By" | .half => "Half" | .like => "Like"
theorem callG (a b : Go) (h : AH) : callP d_Rule_ZeqZ [ruleD a, ruleD b] h = .ok (.bl (eqG a b)) h := by
  have p : pureDs 0 [ruleD a, ruleD b] = true := by cases a <;> cases b <;> rfl
  unfold callP Ws.call
  rw [if_pos p, if_pos p, rule_eq]
  rfl
theorem ownG (a b : Go) (h : AH) : gOwn (clsG a) kt d_Rule_ZeqZ (ruleD a) (ruleD b) h = .ok (.bl (eqG a b)) h := by
  have e := callG a b h
  have key : gOwn (clsG a) kt d_Rule_ZeqZ (ruleD a) (ruleD b) h = (match noX (callP d_Rule_ZeqZ [ruleD a, ruleD b] h) with
    | .ok (.bl b) h' => .ok (.bl b) h'
    | _ => .bad) := by cases a <;> cases b <;> rfl
  rw [key, e]
  rfl
theorem ownN {a : Go} (b : Go) {c : Str} (hc : c ≠ clsG a) (h : AH) : gOwn c kt d_Rule_ZeqZ (ruleD a) (ruleD b) h = .bad := by
  have : insOf (ruleD a) h = some (clsG a, match a with | .steps n => [("steps", .int n)] | _ => []) := by cases a <;> rfl
  unfold gOwn
  rw [this]
  cases tyOf (ruleD b) h with
  | none => rfl
  | some t =>
    dsimp only
    rw [if_neg fun z => hc z.1.symm]
abbrev OW (mx my : Ws.M D) : Ws.M D := orM (bin (gOwn "Front" kt d_Rule_ZeqZ) mx my) (orM (bin (gOwn "By" kt d_Rule_ZeqZ) mx my) (orM (bin (gOwn "Half" kt d_Rule_ZeqZ) mx my) (bin (gOwn "Like" kt d_Rule_ZeqZ) mx my)))
theorem own4 {a b : Go} {mx my : Ws.M D} {σ : Sl} {h : AH} (ex : mx σ h = .ok (ruleD a) h) (ey : my σ h = .ok (ruleD b) h) : OW mx my σ h = .ok (.bl (eqG a b)) h := by
  have bn : ∀ c, bin (gOwn c kt d_Rule_ZeqZ) mx my σ h = gOwn c kt d_Rule_ZeqZ (ruleD a) (ruleD b) h := fun c => by rw [ap_bin, ex, x_bind_ok, ey, x_bind_ok]
  have g := ownG a b h
  unfold OW
  rw [ap_orM, ap_orM, ap_orM, bn, bn, bn, bn]
  cases a with
  | front => rw [show gOwn "Front" kt d_Rule_ZeqZ (ruleD .front) (ruleD b) h = _ from g]
  | steps n =>
    rw [ownN b (c := "Front") (by show ("Front" : Str) ≠ "By"; decide) h]
    dsimp only
    rw [show gOwn "By" kt d_Rule_ZeqZ (ruleD (.steps n)) (ruleD b) h = _ from g]
  | half =>
    rw [ownN b (c := "Front") (by decide) h, ownN b (c := "By") (by decide) h]
    dsimp only
    rw [show gOwn "Half" kt d_Rule_ZeqZ (ruleD .half) (ruleD b) h = _ from g]
  | like =>
    rw [ownN b (c := "Front") (by decide) h, ownN b (c := "By") (by decide) h, ownN b (c := "Half") (by decide) h]
    dsimp only
    rw [show gOwn "Like" kt d_Rule_ZeqZ (ruleD .like) (ruleD b) h = _ from g]
def eqT (a b : Th) : Bool := (decide (a.name = b.name) && (decide (a.marks = b.marks) && decide (a.weight = b.weight))) && eqG a.rule b.rule
theorem eqG_self (a : Go) : eqG a a = true := by cases a <;> simp [eqG]
theorem eqT_self (a : Th) : eqT a a = true := by
  unfold eqT
  rw [eqG_self]
  simp
theorem ne_tup3 {n m n' m' : Str} {w w' : Int} (h1 : PyData.canLay0 (.str n) = true) (h2 : PyData.canLay0 (.str m) = true) (h3 : PyData.canLay0 (.str n') = true) (h4 : PyData.canLay0 (.str m') = true) (h : AH) :
    gNot gEqD (.tup [.str n, .str m, .int w]) (.tup [.str n', .str m', .int w']) h = .ok (.bl (!(decide (n = n') && (decide (m = m') && decide (w = w'))))) h := by
  have f : ∀ {n m : Str} {w : Int}, PyData.canLay0 (.str n) = true → PyData.canLay0 (.str m) = true → fit 64 (.tup [.str n, .str m, .int w]) = true := fun a b => fit_tup fun d hd => by
    simp only [List.mem_cons, List.not_mem_nil, or_false] at hd
    rcases hd with rfl | rfl | rfl
    · exact fit_str a
    · exact fit_str b
    · exact fit_int _
  unfold gNot
  rw [gEq_of (x := .tup [.str n, .str m, .int w]) (y := .tup [.str n', .str m', .int w']) (f h1 h2) (f h3 h4)]
  have : eqB (seen (.tup [.str n, .str m, .int w]) h) (seen (.tup [.str n', .str m', .int w']) h) = (decide (n = n') && (decide (m = m') && decide (w = w'))) := by
    show eqB (.tup [.str n, .str m, .int w]) (.tup [.str n', .str m', .int w']) = _
    have de : ∀ {α : Type} [DecidableEq α] (a b : α), (a == b) = decide (a = b) := fun a b => by
      by_cases z : a = b
      · rw [decide_eq_true z]; exact beq_iff_eq.mpr z
      · rw [decide_eq_false z]; exact beq_eq_false_iff_ne.mpr z
    simp [eqB, toPy, toPys, PyData.eqv, PyData.eqvAll, de]
  rw [this]
theorem th_lay {t : Th} (ok : t.Ok) : PyData.canLay0 (.str t.name) = true ∧ PyData.canLay0 (.str t.marks) = true := ⟨okN_str ok.nm, okM_str ok.ma⟩
theorem thing_eq {a b : Th} (ha : a.Ok) (hb : b.Ok) : d_Thing_ZeqZ [thD a, thD b] [] = .ok (.bl (eqT a b)) [] := by
  refine fn_rt0 (h' := []) ?_ rfl
  show m_Thing_ZeqZ [some (thD a), some (thD b)] [] = _
  unfold m_Thing_ZeqZ
  have f1 : ∀ (i : Nat) (t : Th) (h : AH), fldC ["Thing"] "name" (cst (thD t)) [some (thD a), some (thD b)] h = .ok (.str t.name) h := fun _ _ _ => rfl
  have it : ∀ h, gIsi kt [thD b, .glo "Thing"] h = .ok (.bl true) h := fun _ => rfl
  have g3 : ∀ (x y z : D) (h : AH), gTup [x, y, z] h = .ok (.tup [x, y, z]) h := fun _ _ _ _ => rfl
  have ne := fun h => ne_tup3 (w := a.weight) (w' := b.weight) (th_lay ha).1 (th_lay ha).2 (th_lay hb).1 (th_lay hb).2 h
  have ow := own4 (a := a.rule) (b := b.rule) (mx := fldC ["Thing"] "rule" (var 0)) (my := fldC ["Thing"] "rule" (var 1)) (σ := [some (thD a), some (thD b)]) (h := []) rfl rfl
  unfold OW at ow
  unfold eqT
  have n0 : ∀ h, fldC ["Thing"] "name" (var 0) [some (thD a), some (thD b)] h = .ok (.str a.name) h := fun _ => rfl
  have n1 : ∀ h, fldC ["Thing"] "name" (var 1) [some (thD a), some (thD b)] h = .ok (.str b.name) h := fun _ => rfl
  have m0 : ∀ h, fldC ["Thing"] "marks" (var 0) [some (thD a), some (thD b)] h = .ok (.str a.marks) h := fun _ => rfl
  have m1 : ∀ h, fldC ["Thing"] "marks" (var 1) [some (thD a), some (thD b)] h = .ok (.str b.marks) h := fun _ => rfl
  have w0 : ∀ h, fldC ["Thing"] "weight" (var 0) [some (thD a), some (thD b)] h = .ok (.int a.weight) h := fun _ => rfl
  have w1 : ∀ h, fldC ["Thing"] "weight" (var 1) [some (thD a), some (thD b)] h = .ok (.int b.weight) h := fun _ => rfl
  rw [seq_nx (σ' := [some (thD a), some (thD b)]) (h' := []) (by simp only [zzA, zzP, zzL, it])]
  cases q : (decide (a.name = b.name) && (decide (a.marks = b.marks) && decide (a.weight = b.weight))) with
  | true =>
    rw [q] at ne
    rw [seq_nx (σ' := [some (thD a), some (thD b)]) (h' := []) (by simp only [ap_ifS, ap_asB, ap_bin, ap_app, ap_cons, ap_nil, n0, n1, m0, m1, w0, w1, g3, x_bind_ok, ne, x_isBl, x_bindS_ok]; rfl)]
    rw [ap_ret, ow]
    rfl
  | false =>
    rw [q] at ne
    rw [ap_seq]
    simp only [ap_ifS, ap_asB, ap_bin, ap_app, ap_cons, ap_nil, n0, n1, m0, m1, w0, w1, g3, x_bind_ok, ne, x_isBl, x_bindS_ok]
    rfl
theorem thing_str {a : Th} (x : Str) : d_Thing_ZeqZ [thD a, .str x] [] = .ok (.bl false) [] := by
  refine fn_rt0 (h' := []) ?_ rfl
  show m_Thing_ZeqZ [some (thD a), some (.str x)] [] = _
  unfold m_Thing_ZeqZ
  have it : ∀ h, gIsi kt [.str x, .glo "Thing"] h = .ok (.bl false) h := fun _ => rfl
  simp only [zzA, zzP, zzL, it]
theorem ownT {a b : Th} (ha : a.Ok) (hb : b.Ok) (h : AH) : gOwn "Thing" kt d_Thing_ZeqZ (thD a) (thD b) h = .ok (.bl (eqT a b)) h := by
  have p : pureDs 0 [thD a, thD b] = true := by show (pureD 0 (thD a) && (pureD 0 (thD b) && true)) = true; rw [pure_th, pure_th]; rfl
  have e : callP d_Thing_ZeqZ [thD a, thD b] h = .ok (.bl (eqT a b)) h := by
    unfold callP Ws.call
    rw [if_pos p, if_pos p, thing_eq ha hb]
    rfl
  have key : gOwn "Thing" kt d_Thing_ZeqZ (thD a) (thD b) h = (match noX (callP d_Thing_ZeqZ [thD a, thD b] h) with
    | .ok (.bl b) h' => .ok (.bl b) h'
    | _ => .bad) := rfl
  rw [key, e]
  rfl
theorem ownTs {a : Th} (x : Str) (h : AH) : gOwn "Thing" kt d_Thing_ZeqZ (thD a) (.str x) h = .ok (.bl false) h := by
  have p : pureDs 0 [thD a, .str x] = true := by show (pureD 0 (thD a) && (true && true)) = true; rw [pure_th]; rfl
  have e : callP d_Thing_ZeqZ [thD a, .str x] h = .ok (.bl false) h := by
    unfold callP Ws.call
    rw [if_pos p, if_pos p, thing_str]
    rfl
  have key : gOwn "Thing" kt d_Thing_ZeqZ (thD a) (.str x) h = (match noX (callP d_Thing_ZeqZ [thD a, .str x] h) with
    | .ok (.bl b) h' => .ok (.bl b) h'
    | _ => .bad) := rfl
  rw [key, e]
  rfl
theorem neT {a b : Th} (ha : a.Ok) (hb : b.Ok) (h : AH) : gOwnNe "Thing" kt d_Thing_ZeqZ (thD a) (thD b) h = .ok (.bl (!eqT a b)) h := by
  unfold gOwnNe
  rw [ownT ha hb]
noncomputable def EL : D → D → Option Bool := elOr (elOr (elOr (elOr elF (ownB "Front" kt d_Rule_ZeqZ)) (ownB "By" kt d_Rule_ZeqZ)) (ownB "Half" kt d_Rule_ZeqZ)) (ownB "Like" kt d_Rule_ZeqZ)
theorem ownB_at (a b : Go) : ownB (clsG a) kt d_Rule_ZeqZ (ruleD a) (ruleD b) = some (eqG a b) := by
  have e := rule_eq a b
  have p : pureDs 0 [ruleD a, ruleD b] = true := by cases a <;> cases b <;> rfl
  have ap : (eqG a b || apartD kt (ruleD a) (ruleD b)) = true := by
    cases a <;> cases b <;> first
      | exact (rfl)
      | skip
    rename_i m n
    show (decide (m = n) || (false || ((decide (("steps" : Str) = "steps") && decide (m ≠ n)) || false))) = true
    by_cases z : m = n
    · rw [decide_eq_true z]; rfl
    · rw [decide_eq_false z, decide_eq_true (show m ≠ n from z)]; rfl
  have key : ownB (clsG a) kt d_Rule_ZeqZ (ruleD a) (ruleD b) = (match d_Rule_ZeqZ [ruleD a, ruleD b] [] with
    | .ok (.bl b') _ => if (b' || apartD kt (ruleD a) (ruleD b)) = true then some b' else none
    | _ => none) := by
    cases a <;> cases b <;> rfl
  rw [key, e]
  dsimp only
  rw [if_pos ap]
theorem ownB_no {a : Go} (b : Go) {c : Str} (hc : c ≠ clsG a) : ownB c kt d_Rule_ZeqZ (ruleD a) (ruleD b) = none := by
  cases a <;> cases b <;> (unfold ownB ruleD; dsimp only; rw [if_neg fun z => hc z.1.symm])
theorem EL_rule (a b : Go) : EL (ruleD a) (ruleD b) = some (eqG a b) := by
  have g := ownB_at a b
  have f : elF (ruleD a) (ruleD b) = none := by cases a <;> cases b <;> rfl
  unfold EL
  cases a with
  | front =>
    unfold elOr
    rw [f, show ownB "Front" kt d_Rule_ZeqZ (ruleD .front) (ruleD b) = _ from g]
  | steps n =>
    unfold elOr
    rw [f, ownB_no b (c := "Front") (by show ("Front" : Str) ≠ "By"; decide), show ownB "By" kt d_Rule_ZeqZ (ruleD (.steps n)) (ruleD b) = _ from g]
  | half =>
    unfold elOr
    rw [f, ownB_no b (c := "Front") (by decide), ownB_no b (c := "By") (by decide), show ownB "Half" kt d_Rule_ZeqZ (ruleD .half) (ruleD b) = _ from g]
  | like =>
    unfold elOr
    rw [f, ownB_no b (c := "Front") (by decide), ownB_no b (c := "By") (by decide), ownB_no b (c := "Half") (by decide), show ownB "Like" kt d_Rule_ZeqZ (ruleD .like) (ruleD b) = _ from g]
theorem EL_str (x y : Str) : EL (.str x) (.str y) = some (x == y) := rfl
theorem EL_int (x y : Int) : EL (.int x) (.int y) = some (x == y) := rfl
def partsL (t : Th) : List D := [.str t.name, .str t.marks, .int t.weight, ruleD t.rule]
theorem lst_wr (w w' : Int) (a b : Go) : lstE EL [.int w, ruleD a] [.int w', ruleD b] = some (decide (w = w') && eqG a b) := by
  unfold lstE
  rw [EL_int]
  by_cases z : w = w'
  · rw [show (w == w') = true from beq_iff_eq.mpr z, decide_eq_true z]
    dsimp only
    unfold lstE
    rw [EL_rule]
    cases eqG a b <;> rfl
  · rw [show (w == w') = false from beq_eq_false_iff_ne.mpr z, decide_eq_false z]
    rfl
theorem lst_parts (a b : Th) : lstE EL (partsL a) (partsL b) = some (eqT a b) := by
  unfold partsL lstE eqT
  rw [EL_str]
  by_cases z : a.name = b.name
  · rw [show (a.name == b.name) = true from beq_iff_eq.mpr z, decide_eq_true z]
    dsimp only
    unfold lstE
    rw [EL_str]
    by_cases z : a.marks = b.marks
    · rw [show (a.marks == b.marks) = true from beq_iff_eq.mpr z, decide_eq_true z]
      dsimp only
      rw [lst_wr]
      rfl
    · rw [show (a.marks == b.marks) = false from beq_eq_false_iff_ne.mpr z, decide_eq_false z]
      rfl
  · rw [show (a.name == b.name) = false from beq_eq_false_iff_ne.mpr z, decide_eq_false z]
    rfl
end Lk02
set_option Elab.async false
set_option linter.all false
set_option maxRecDepth 100000
set_option maxHeartbeats 4000000
set_option autoImplicit false
namespace Lk02
open PySem Ws
theorem dg {st : List D} (hs : Dr st) {b : Int} (hb : 0 < b) (hb2 : b < 1073741824) : ∃ (n : Nat) (st' : List D), cal 2 [] d__law_digit [.cell 0, .int b] [some (.lst st)] = .ok (.int (n : Nat)) [some (.lst st')] ∧ (n : Int) < b ∧ Dr st' :=
  c_digit hs (r := []) rfl hb hb2
theorem calS_ok {n k : Nat} {g : List D → AH → Out D} {r : List D} {h : AH} {st st' : List D} {d : D} (e : h.get k = some (.lst st)) (l : r.length + 1 = n) (pr : pureDs 0 r = true) (ps : pureDs 0 st = true) (eg : g (.cell 0 :: r) [some (.lst st)] = .ok d [some (.lst st')]) (pd : pureD 0 d = true) (pq : pureDs 0 st' = true) : calS n g (.cell k :: r) h = .ok d (h.put k (.lst st')) := by
  unfold calS
  dsimp only
  rw [e]
  dsimp only
  rw [if_pos ⟨⟨l, pr⟩, ps⟩, eg]
  dsimp only
  rw [show AH.get [some (OB.lst st')] 0 = some (.lst st') from rfl]
  dsimp only
  rw [if_pos ⟨pd, pq⟩]
theorem dr_pure {st : List D} (hs : Dr st) : pureDs 0 st = true := by cases hs <;> rfl
theorem dgS {k : Nat} {h : AH} {st : List D} (e : h.get k = some (.lst st)) (hs : Dr st) {b : Int} (hb : 0 < b) (hb2 : b < 1073741824) : ∃ (n : Nat) (st' : List D), calS 2 d__law_digit [.cell k, .int b] h = .ok (.int (n : Nat)) (h.put k (.lst st')) ∧ (n : Int) < b ∧ Dr st' := by
  obtain ⟨n, st', e1, h1, hs1⟩ := dg hs hb hb2
  rw [cal_cell (n := 2) (ds := [.cell 0, .int b]) rfl rfl] at e1
  exact ⟨n, st', calS_ok e rfl rfl (dr_pure hs) e1 rfl (dr_pure hs1), h1, hs1⟩
abbrev alS : Str := "abcdefghijklmnopqrstuvwxyz"
theorem al_len : (cps alS).length = 26 := by rw [show cps alS = alpha from alpha_cps]; rfl
theorem al_letter {c : Nat} (h : c ∈ cps alS) : letter c := by rw [show cps alS = alpha from alpha_cps] at h; exact mem_alpha.mp h
theorem al_up : (cps alS).Pairwise (· < ·) := by
  rw [show cps alS = alpha from alpha_cps]
  decide +kernel
theorem c_lgood {st : List D} (hs : Dr st) : ∃ (t : Th) (st' : List D), d__law_good [.cell 0] [some (.lst st)] = .ok (.lst (partsL t)) [some (.lst st')] ∧ t.Ok ∧ Dr st' := by
  -- the name
  obtain ⟨n, st1, e1, h1, hs1⟩ := dg hs (b := 8) (by decide) (by decide)
  have rg : ∀ h, rng1 [.int (1 + ((n : Nat) : Int))] h = .ok ((List.range (n + 1)).map fun (i : Nat) => D.int (i : Nat)) h := fun h => by
    rw [show (1 + ((n : Nat) : Int)) = ((n + 1 : Nat) : Int) by omega]
    exact o_rng h (n + 1) (by omega)
  obtain ⟨ys, h', ec, ⟨st2, rfl, hs2⟩, yl, hy⟩ := ccGo_draw (t := tgN 3) (c := yesB) (e := bin gAt (var 1) (app (cal 2 [] d__law_digit) (consA (var 0) (consA (cst (.int 26)) nilA)))) (σ := [some (.cell 0), some (.str alS), none, none, none, none, none]) (g := fun (i : Nat) => D.int (i : Nat)) (f := sgn)
    (fun h => ∃ st2, h = [some (.lst st2)] ∧ Dr st2) (fun c => letter c) (xs := List.range (n + 1)) (acc := []) (h := [some (.lst st1)]) ⟨st1, rfl, hs1⟩ (by
      rintro i _ h ⟨st2, rfl, hs2⟩
      obtain ⟨k, st3, e3, h3, hs3⟩ := dg hs2 (b := 26) (by decide) (by decide)
      have hk : k < (cps alS).length := by rw [al_len]; omega
      refine ⟨[some (.cell 0), some (.str alS), none, some (.int (i : Nat)), none, none, none], (cps alS).getD k 0, [some (.lst st3)], rfl, rfl, ?_, ⟨st3, rfl, hs3⟩, al_letter (getD_mem hk)⟩
      simp only [zzA, zzO, zzL, e3]
      exact at_str _ rfl hk (by rw [al_len]; omega)) (by simp; omega)
  simp only [List.length_range] at yl
  rw [List.nil_append] at ec
  have okn : OkN (mkS ys) := ⟨by rw [cps_mk]; omega, by rw [cps_mk]; omega, by rw [cps_mk]; exact hy⟩
  -- the marks
  obtain ⟨zs, h', em, ⟨st4, rfl, hs4⟩, sb⟩ := ccGo_pick (t := tgN 5) (c := asB (bin gEqD (app (cal 2 [] d__law_digit) (consA (var 0) (consA (bin gAt (app gLst (consA (cst (.int 2)) (consA (cst (.int 9)) nilA))) (app (cal 2 [] d__law_digit) (consA (var 0) (consA (cst (.int 2)) nilA)))) nilA))) (cst (.int 0)))) (e := var 5) (σ := [some (.cell 0), some (.str alS), some (.str (mkS ys)), none, none, none, none]) (g := sgn) (f := sgn)
    (fun h => ∃ st2, h = [some (.lst st2)] ∧ Dr st2) (xs := cps alS) (acc := []) (h := [some (.lst st2)]) ⟨st2, rfl, hs2⟩ (by
      rintro c _ h ⟨st3, rfl, hs3⟩
      obtain ⟨k, st5, e5, h5, hs5⟩ := dg hs3 (b := 2) (by decide) (by decide)
      have g2 : ∀ (a b : D) (h : AH), gLst [a, b] h = .ok (.lst [a, b]) h := fun _ _ _ => rfl
      obtain ⟨b, b0, b9, gb⟩ : ∃ b : Nat, 0 < b ∧ b < 10 ∧ ∀ h, gAt (.lst [.int 2, .int 9]) (.int (k : Nat)) h = .ok (.int (b : Nat)) h := by
        have : k = 0 ∨ k = 1 := by omega
        rcases this with rfl | rfl
        · exact ⟨2, by decide, by decide, fun _ => rfl⟩
        · exact ⟨9, by decide, by decide, fun _ => rfl⟩
      obtain ⟨m, st6, e6, h6, hs6⟩ := dg hs5 (b := (b : Nat)) (by omega) (by omega)
      refine ⟨[some (.cell 0), some (.str alS), some (.str (mkS ys)), none, none, some (sgn c), none], decide (((m : Nat) : Int) = 0), [some (.lst st6)], rfl, ?_, fun _ => rfl, st6, rfl, hs6⟩
      simp only [zzA, zzP, zzL, g2, e5, gb, e6]) (by rw [al_len]; decide)
  rw [List.nil_append] at em
  have okm : OkM (mkS zs) := ⟨by rw [cps_mk]; exact fun c hc => al_letter (sb.subset hc), by rw [cps_mk]; exact al_up.sublist sb⟩
  have zl : zs.length ≤ 26 := by have := sb.length_le; rw [al_len] at this; exact this
  -- the rule
  obtain ⟨k5, st5, e5, h5, hs5⟩ := dg hs4 (b := 5) (by decide) (by decide)
  obtain ⟨k6, st6, e6, h6, hs6⟩ := dg hs5 (b := 4) (by decide) (by decide)
  have g4 : ∀ (a b c d : D) (h : AH), gLst [a, b, c, d] h = .ok (.lst [a, b, c, d]) h := fun _ _ _ _ _ => rfl
  have mb := fun h => mk_by (n := ((k5 : Nat) : Int)) (by omega) h
  obtain ⟨go, gg, okg⟩ : ∃ go : Go, (∀ h, gAt (.lst [.ins "Front" [], ruleD (.steps (k5 : Nat)), .ins "Half" [], .ins "Like" []]) (.int (k6 : Nat)) h = .ok (ruleD go) h) ∧ ∀ n, go = .steps n → 0 ≤ n := by
    have : k6 = 0 ∨ k6 = 1 ∨ k6 = 2 ∨ k6 = 3 := by omega
    rcases this with rfl | rfl | rfl | rfl
    · exact ⟨.front, fun _ => rfl, fun _ z => nomatch z⟩
    · exact ⟨.steps (k5 : Nat), fun _ => rfl, fun n z => by injection z with z; omega⟩
    · exact ⟨.half, fun _ => rfl, fun _ z => nomatch z⟩
    · exact ⟨.like, fun _ => rfl, fun _ z => nomatch z⟩
  -- the weight
  obtain ⟨k7, st7, e7, h7, hs7⟩ := dg hs6 (b := 100) (by decide) (by decide)
  obtain ⟨k8, st8, e8, h8, hs8⟩ := dg hs7 (b := 3) (by decide) (by decide)
  have g3 : ∀ (a b c : D) (h : AH), gLst [a, b, c] h = .ok (.lst [a, b, c]) h := fun _ _ _ _ => rfl
  obtain ⟨w, gw, w0, w1⟩ : ∃ w : Int, (∀ h, gAt (.lst [.int 0, .int 99, .int (k7 : Nat)]) (.int (k8 : Nat)) h = .ok (.int w) h) ∧ 0 ≤ w ∧ w ≤ 99 := by
    have : k8 = 0 ∨ k8 = 1 ∨ k8 = 2 := by omega
    rcases this with rfl | rfl | rfl
    · exact ⟨0, fun _ => rfl, by decide, by decide⟩
    · exact ⟨99, fun _ => rfl, by decide, by decide⟩
    · exact ⟨(k7 : Nat), fun _ => rfl, by omega, by omega⟩
  refine ⟨⟨mkS ys, mkS zs, w, go⟩, st8, ?_, ⟨okn, okm, w0, w1, okg⟩, hs8⟩
  have iss : ∀ x h, isStr (.str x) h = true := fun _ _ => rfl
  have main : m__law_good [some (.cell 0), none, none, none, none, none, none] [some (.lst st)] = .rt (.lst (partsL ⟨mkS ys, mkS zs, w, go⟩)) [some (.lst st8)] := by
    unfold m__law_good
    rw [seq_asg (i := 1) (d := .str alS) (h' := [some (.lst st)]) rfl]
    dsimp only [List.set_cons_succ, List.set_cons_zero]
    rw [seq_asg (i := 2) (d := .str (mkS ys)) (h' := [some (.lst st2)]) (by
      simp only [zzA, zzP, zzL, iss]
      rw [ap_ccF, ap_walkA]
      simp only [zzA, zzP, zzL, e1, rg, wipeD]
      rw [ec]
      simp only [zzA, zzP, zzL, o_join1 _ _ (show ys.length ≤ 1000000 by omega)])]
    dsimp only [List.set_cons_succ, List.set_cons_zero]
    rw [seq_asg (i := 4) (d := .str (mkS zs)) (h' := [some (.lst st4)]) (by
      simp only [zzA, zzP, zzL, iss]
      rw [ap_ccF]
      rw [show walk itemsA (var 1) [some (.cell 0), some (.str alS), some (.str (mkS ys)), none, none, none, none] [some (.lst st2)] = .ok ((cps alS).map sgn) [some (.lst st2)] from rfl]
      simp only [zzA, zzP, zzL, wipeD]
      rw [em]
      simp only [zzA, zzP, zzL, o_join1 _ _ (show zs.length ≤ 1000000 by omega)])]
    dsimp only [List.set_cons_succ, List.set_cons_zero]
    rw [seq_asg (i := 6) (d := ruleD go) (h' := [some (.lst st6)]) (by simp only [zzA, zzP, zzL, e5, mb, g4, e6, gg])]
    dsimp only [List.set_cons_succ, List.set_cons_zero]
    simp only [zzA, zzP, zzL, e7, g3, e8, gw, g4]
    rfl
  have pu : pureD 1 (.lst (partsL ⟨mkS ys, mkS zs, w, go⟩)) = true := by
    show (true && (true && (true && (pureD 1 (ruleD go) && true)))) = true
    rw [pure_rule]; rfl
  exact fn_rt (n := 7) (m := m__law_good) (ds := [.cell 0]) (h := [some (.lst st)]) main pu (by
    show pureH 1 [some (OB.lst st8)] = true
    unfold pureH pureO
    dsimp only
    rw [hs8.pure]; rfl)
end Lk02
set_option Elab.async false
set_option linter.all false
set_option maxRecDepth 100000
set_option maxHeartbeats 4000000
set_option autoImplicit false
namespace Lk02
open PySem Ws
theorem c_made_good {t : Th} (ok : t.Ok) (h : AH) : cal 1 [] d__law_made [.lst (partsL t)] h = .ok (thD t) h := by
  have pp : pureDs 0 (partsL t) = true := by
    show (true && (true && (true && (pureD 0 (ruleD t.rule) && true)))) = true
    rw [pure_rule]; rfl
  refine cal_pure (h0 := []) rfl (by show (pureDs 0 (partsL t) && true) = true; rw [pp]; rfl) (fn_rt0 (h' := []) ?_ (pure_th 0 t)) (pure_th 0 t)
  show m__law_made [some (.lst (partsL t)), none, none] [] = _
  unfold m__law_made
  have a0 : ∀ h, gAt (.lst (partsL t)) (.int 0) h = .ok (.str t.name) h := fun _ => rfl
  have a1 : ∀ h, gAt (.lst (partsL t)) (.int 1) h = .ok (.str t.marks) h := fun _ => rfl
  have a2 : ∀ h, gAt (.lst (partsL t)) (.int 2) h = .ok (.int t.weight) h := fun _ => rfl
  have a3 : ∀ h, gAt (.lst (partsL t)) (.int 3) h = .ok (ruleD t.rule) h := fun _ => rfl
  have mk : makeK "Thing" 2 2 (putK [.inl 1, .inl 0] []) d_Thing_ZinitZ 5 (consA (bin gAt (var 0) (cst (.int 0))) (consA (bin gAt (var 0) (cst (.int 1))) nilA)) (consA (bin gAt (var 0) (cst (.int 3))) (consA (bin gAt (var 0) (cst (.int 2))) nilA)) [some (.lst (partsL t)), none, none] [] = .ok (thD t) [] := by
    rw [ap_makeK]
    simp only [zzA, zzP, zzL, a0, a1, a2, a3]
    exact mk_thing ok []
  rw [ap_seq]
  unfold tryAs
  rw [ap_ret, mk]
  rfl
def BadK (k : Nat) (d : D) : Prop := (∀ L, pureD L d = true) ∧ match k with
  | 0 => ∀ h, cal 1 [] d_is_name [d] h = .ok (.bl false) h
  | 1 => ∀ h, cal 1 [] d_are_marks [d] h = .ok (.bl false) h
  | 2 => ∀ h, cal 3 [] d_is_whole [d, .int 0, .int 99] h = .ok (.bl false) h
  | _ => (∀ h, gNot gIs d .non h = .ok (.bl true) h) ∧ ∀ h, gIsi kt [d, .glo "Rule"] h = .ok (.bl false) h
def badL : List (List D) := [[.str "", .str "ninelette", .str "Ab", .str "a b", .str "a1", .non, .int 7, .tup [.str "a"], .str "a-"],
  [.str "ba", .str "aa", .str "A", .str "a b", .non, .int 5, .lst [.str "a"], .str "-", .str "abca"],
  [.int (-1), .int 100, .bl true, .non, .str "5", .tup [.int 1], .lst [], .int (10 ^ 30), .bl false],
  [.str "Front", .int 5, .bl true, .tup [], .lst [], .str "front", .dct [], .int 0, .str "-"]]
theorem c0 {n : Nat} {g : List D → AH → Out D} {ds : List D} {b : Bool} (l : ds.length = n) (p : pureDs 0 ds = true) (e : g ds [] = .ok (.bl b) []) (h : AH) : cal n [] g ds h = .ok (.bl b) h := cal_pure (h0 := []) l p e rfl
theorem bad0 : ∀ d ∈ badL.getD 0 [], BadK 0 d := by
  intro d hd
  have hd : d ∈ ([.str "", .str "ninelette", .str "Ab", .str "a b", .str "a1", .non, .int 7, .tup [.str "a"], .str "a-"] : List D) := hd
  simp only [List.mem_cons, List.not_mem_nil, or_false] at hd
  rcases hd with rfl | rfl | rfl | rfl | rfl | rfl | rfl | rfl | rfl <;> exact ⟨fun _ => rfl, c0 rfl rfl (rfl)⟩
theorem bad1 : ∀ d ∈ badL.getD 1 [], BadK 1 d := by
  intro d hd
  have hd : d ∈ ([.str "ba", .str "aa", .str "A", .str "a b", .non, .int 5, .lst [.str "a"], .str "-", .str "abca"] : List D) := hd
  simp only [List.mem_cons, List.not_mem_nil, or_false] at hd
  rcases hd with rfl | rfl | rfl | rfl | rfl | rfl | rfl | rfl | rfl <;> exact ⟨fun _ => rfl, c0 rfl rfl (rfl)⟩
theorem bad2 : ∀ d ∈ badL.getD 2 [], BadK 2 d := by
  intro d hd
  have hd : d ∈ ([.int (-1), .int 100, .bl true, .non, .str "5", .tup [.int 1], .lst [], .int (10 ^ 30), .bl false] : List D) := hd
  simp only [List.mem_cons, List.not_mem_nil, or_false] at hd
  rcases hd with rfl | rfl | rfl | rfl | rfl | rfl | rfl | rfl | rfl <;> exact ⟨fun _ => rfl, c0 rfl rfl (rfl)⟩
theorem bad3 : ∀ d ∈ badL.getD 3 [], BadK 3 d := by
  intro d hd
  have hd : d ∈ ([.str "Front", .int 5, .bl true, .tup [], .lst [], .str "front", .dct [], .int 0, .str "-"] : List D) := hd
  simp only [List.mem_cons, List.not_mem_nil, or_false] at hd
  rcases hd with rfl | rfl | rfl | rfl | rfl | rfl | rfl | rfl | rfl <;> exact ⟨fun _ => rfl, fun _ => rfl, fun _ => rfl⟩
theorem badL_ok {k : Nat} (hk : k < 4) {d : D} (hd : d ∈ badL.getD k []) : BadK k d := by
  have : k = 0 ∨ k = 1 ∨ k = 2 ∨ k = 3 := by omega
  rcases this with rfl | rfl | rfl | rfl
  · exact bad0 d hd
  · exact bad1 d hd
  · exact bad2 d hd
  · exact bad3 d hd
end Lk02
set_option Elab.async false
set_option linter.all false
set_option maxRecDepth 100000
set_option maxHeartbeats 4000000
set_option autoImplicit false
namespace Lk02
open PySem Ws
theorem min_of : ∀ (ks : List Nat) (k : Nat), ∃ w ∈ k :: ks, (∀ x ∈ k :: ks, w ≤ x) ∧ ((k :: ks).map fun x : Nat => (x : Int)).min? = some (w : Int) := fun ks k => by
  have key : ∀ (ks : List Nat), ks ≠ [] → ∃ w ∈ ks, ∀ x ∈ ks, w ≤ x := by
    intro ks
    induction ks with
    | nil => intro h; exact absurd rfl h
    | cons a r ih =>
      intro _
      by_cases hr : r = []
      · subst hr
        exact ⟨a, by simp, by simp⟩
      · obtain ⟨w, hw, hm⟩ := ih hr
        by_cases c : a ≤ w
        · exact ⟨a, by simp, fun x hx => by
            rcases List.mem_cons.mp hx with rfl | hx
            · exact Nat.le_refl _
            · exact Nat.le_trans c (hm x hx)⟩
        · exact ⟨w, List.mem_cons_of_mem _ hw, fun x hx => by
            rcases List.mem_cons.mp hx with rfl | hx
            · omega
            · exact hm x hx⟩
  obtain ⟨w, hw, hm⟩ := key (k :: ks) (by simp)
  refine ⟨w, hw, hm, ?_⟩
  rw [List.min?_eq_some_iff]
  refine ⟨List.mem_map.mpr ⟨w, hw, rfl⟩, fun b hb => ?_⟩
  obtain ⟨x, hx, rfl⟩ := List.mem_map.mp hb
  exact Int.ofNat_le.mpr (hm x hx)
theorem fnx_S {n : Nat} {m : SM} {ds : List D} {x : Exc} {σ' : Sl} {h h' : AH} (e : m (startD n ds) h = .exc x σ' h') (p : pureX h.length x = true) (q : pureH h.length (h'.take h.length) = true) : fn n m ds h = .exc x (h'.take h.length) := by
  unfold fn
  rw [e]
  show (if pureX h.length x = true ∧ pureH h.length (h'.take h.length) = true then Out.exc x (h'.take h.length) else .bad) = _
  rw [if_pos ⟨p, q⟩]
theorem mk_thing0 {n m : Str} (hn : OkN n) (hm : OkM m) (h : AH) : make "Thing" d_Thing_ZinitZ [.str n, .str m, .int 0, .non] h = .ok (thD ⟨n, m, 0, .front⟩) h := by
  have ok : (⟨n, m, 0, .front⟩ : Th).Ok := ⟨hn, hm, Int.le_refl 0, (by decide : (0 : Int) ≤ 99), fun _ z => nomatch z⟩
  have e : d_Thing_ZinitZ [.cell 0, .str n, .str m, .int 0, .non] [some (.ins "Thing" [])] = .ok .non [some (.ins "Thing" [("name", .str n), ("marks", .str m), ("weight", .int 0), ("rule", .ins "Front" [])])] := by
    refine fn_nxP (σ' := [some (.cell 0), some (.str n), some (.str m), some (.int 0), some .non]) ?_ rfl ?_
    · show m_Thing_ZinitZ [some (.cell 0), some (.str n), some (.str m), some (.int 0), some .non] [some (.ins "Thing" [])] = _
      unfold m_Thing_ZinitZ
      have n1 : ∀ h, gNot gIs .non .non h = .ok (.bl false) h := fun h => rfl
      have n2 : ∀ h, gIs .non .non h = .ok (.bl true) h := fun h => rfl
      have wh := fun h => c_whole (i := 0) (lo := 0) (hi := 99) (Int.le_refl 0) (by decide) h
      simp only [zzB, zzO, zzL, c_isname hn, c_marks hm (marks_le ok), wh, n1, n2, h_get0, h_put0, List.mem_singleton, List.mem_cons, true_and, true_or, List.length_nil, List.length_cons, Nat.zero_add, putD, ne_name_marks, ne_name_weight, ne_name_rule, ne_marks_weight, ne_marks_rule, ne_weight_rule, ne_held_lift, ne_held_press, ne_held_hold, ne_lift_press, ne_lift_hold, ne_press_hold, (show (0 < 900) = True from eq_true (by decide)), (show (1 < 900) = True from eq_true (by decide)), (show (2 < 900) = True from eq_true (by decide)), (show (3 < 900) = True from eq_true (by decide)), (show (0 + 1 < 900) = True from eq_true (by decide)), (show (0 + 1 + 1 < 900) = True from eq_true (by decide)), (show (0 + 1 + 1 + 1 < 900) = True from eq_true (by decide))]
    · rfl
  unfold make
  rw [if_pos (show pureDs 0 [.str n, .str m, .int 0, .non] = true from rfl), e]
  rfl
theorem ap_thing0 {mr : Ws.M (List D)} {n m : Str} (hn : OkN n) (hm : OkM m) {σ : Sl} {h h' : AH} (e : mr σ h = .ok [.str n, .str m] h') : makeK "Thing" 2 0 (putK [.inr 0, .inr 1] [.int 0, .non]) d_Thing_ZinitZ 5 mr nilA σ h = .ok (thD ⟨n, m, 0, .front⟩) h' := by
  rw [ap_makeK, e, x_bind_ok, ap_nil, x_bind_ok, if_pos ⟨rfl, rfl, rfl⟩]
  exact mk_thing0 hn hm h'
theorem ap_thingN {mr mk : Ws.M (List D)} {n m : Str} (hn : OkN n) (hm : OkM m) {σ : Sl} {h h' : AH} (e : mr σ h = .ok [.str n, .str m] h') (e2 : mk σ h' = .ok [.non] h') : makeK "Thing" 2 1 (putK [.inr 0, .inl 0] [.int 0]) d_Thing_ZinitZ 5 mr mk σ h = .ok (thD ⟨n, m, 0, .front⟩) h' := by
  rw [ap_makeK, e, x_bind_ok, e2, x_bind_ok, if_pos ⟨rfl, rfl, rfl⟩]
  exact mk_thing0 hn hm h'
theorem c_lbad {k : Nat} (hk : k < 4) {st : List D} (hs : Dr st) : ∃ (d : D) (st' : List D), d__law_bad [.cell 0, .int (k : Nat)] [some (.lst st)] = .ok d [some (.lst st')] ∧ BadK k d ∧ Dr st' := by
  obtain ⟨m, st1, e1, h1, hs1⟩ := dg hs (b := 9) (by decide) (by decide)
  have g9 : ∀ (a b c d e f g i j : D) (h : AH), gLst [a, b, c, d, e, f, g, i, j] h = .ok (.lst [a, b, c, d, e, f, g, i, j]) h := fun _ _ _ _ _ _ _ _ _ _ => rfl
  have g4 : ∀ (a b c d : D) (h : AH), gLst [a, b, c, d] h = .ok (.lst [a, b, c, d]) h := fun _ _ _ _ _ => rfl
  have g1 : ∀ (a : D) (h : AH), gLst [a] h = .ok (.lst [a]) h := fun _ _ => rfl
  have g0 : ∀ (h : AH), gLst [] h = .ok (.lst []) h := fun _ => rfl
  have t1 : ∀ (a : D) (h : AH), gTup [a] h = .ok (.tup [a]) h := fun _ _ => rfl
  have t0 : ∀ (h : AH), gTup [] h = .ok (.tup []) h := fun _ => rfl
  have pw : ∀ h, gPow (.int 10) (.int 30) h = .ok (.int (10 ^ 30)) h := fun _ => rfl
  have ng : ∀ h, gNeg (.int 1) h = .ok (.int (-1)) h := fun _ => rfl
  have lk : (badL.getD k []).length = 9 := by
    have : k = 0 ∨ k = 1 ∨ k = 2 ∨ k = 3 := by omega
    rcases this with rfl | rfl | rfl | rfl <;> rfl
  have hm : m < 9 := by omega
  have ak : ∀ h, gAt (.lst (badL.map D.lst)) (.int (k : Nat)) h = .ok (.lst (badL.getD k [])) h := fun h => at_lst (f := D.lst) (xs := badL) [] h rfl (by show k < 4; exact hk)
  have am : ∀ h, gAt (.lst (badL.getD k [])) (.int (m : Nat)) h = .ok ((badL.getD k []).getD m .non) h := fun h => by
    have := at_lst (f := fun d : D => d) (xs := badL.getD k []) .non h rfl (show m < (badL.getD k []).length by rw [lk]; exact hm)
    rwa [List.map_id'] at this
  have bd := badL_ok hk (getD_mem (d := D.non) (show m < (badL.getD k []).length by rw [lk]; exact hm))
  refine ⟨(badL.getD k []).getD m .non, st1, ?_, bd, hs1⟩
  have main : m__law_bad [some (.cell 0), some (.int (k : Nat)), none, none, none, none] [some (.lst st)] = .rt ((badL.getD k []).getD m .non) [some (.lst st1)] := by
    unfold m__law_bad
    rw [seq_asg (i := 2) (d := .lst (badL.getD 0 [])) (h' := [some (.lst st)]) (by simp only [ap_app, ap_cons, ap_nil, ap_cst, x_bind_ok, t1, g9]; rfl)]
    dsimp only [List.set_cons_succ, List.set_cons_zero]
    rw [seq_asg (i := 3) (d := .lst (badL.getD 1 [])) (h' := [some (.lst st)]) (by simp only [ap_app, ap_cons, ap_nil, ap_cst, x_bind_ok, g1, g9]; rfl)]
    dsimp only [List.set_cons_succ, List.set_cons_zero]
    rw [seq_asg (i := 4) (d := .lst (badL.getD 2 [])) (h' := [some (.lst st)]) (by simp only [ap_app, ap_cons, ap_nil, ap_cst, ap_un, ap_bin, x_bind_ok, ng, t1, g0, pw, g9]; rfl)]
    dsimp only [List.set_cons_succ, List.set_cons_zero]
    rw [seq_asg (i := 5) (d := .lst (badL.getD 3 [])) (h' := [some (.lst st)]) (by simp only [ap_app, ap_cons, ap_nil, ap_cst, x_bind_ok, t0, g0, ap_emptyK, g9]; rfl)]
    dsimp only [List.set_cons_succ, List.set_cons_zero]
    have g4' : ∀ h, gLst [.lst (badL.getD 0 []), .lst (badL.getD 1 []), .lst (badL.getD 2 []), .lst (badL.getD 3 [])] h = .ok (.lst (badL.map D.lst)) h := fun _ => rfl
    simp only [ap_ret, ap_bin, ap_app, ap_cons, ap_nil, ap_cst, ap_var, zzL, x_bind_ok, g4', ak, e1, am]
    rfl
  exact fn_rt (n := 6) (m := m__law_bad) (ds := [.cell 0, .int (k : Nat)]) (h := [some (.lst st)]) main (bd.1 _) (by
    show pureH 1 [some (OB.lst st1)] = true
    unfold pureH pureO
    dsimp only
    rw [hs1.pure]; rfl)
abbrev exTh (w : Str) : Exc := ⟨"NoThing", [("what", .str w)]⟩
def wordsT : List Str := ["name", "marks", "weight", "rule"]
theorem mk_tbad {t : Th} (ok : t.Ok) {d0 d1 d2 d3 : D} {w : Nat} (w4 : w < 4) (g0 : d0 = .str t.name ∧ 0 < w ∨ BadK 0 d0 ∧ w = 0) (g1 : w < 1 ∨ d1 = .str t.marks ∧ 1 < w ∨ BadK 1 d1 ∧ w = 1) (g2 : w < 2 ∨ d2 = .int t.weight ∧ 2 < w ∨ BadK 2 d2 ∧ w = 2) (g3 : w < 3 ∨ BadK 3 d3 ∧ w = 3)
    (p : pureDs 0 [d0, d1, d2, d3] = true) (h : AH) : make "Thing" d_Thing_ZinitZ [d0, d1, d2, d3] h = .exc (exTh (wordsT.getD w "")) h := by
  have main : ∃ h', d_Thing_ZinitZ [.cell 0, d0, d1, d2, d3] [some (.ins "Thing" [])] = .exc (exTh (wordsT.getD w "")) h' := by
    refine ⟨_, fnx_S (n := 5) (m := m_Thing_ZinitZ) (σ' := [some (.cell 0), some d0, some d1, some d2, some d3]) (h := [some (.ins "Thing" [])]) (h' := [some (.ins "Thing" [])]) ?_ rfl rfl⟩
    show m_Thing_ZinitZ [some (.cell 0), some d0, some d1, some d2, some d3] [some (.ins "Thing" [])] = _
    unfold m_Thing_ZinitZ
    have cn := fun h => c_isname ok.nm h
    have cm := fun h => c_marks ok.ma (marks_le ok) h
    have cw := fun h => c_whole ok.w0 ok.w1 h
    rcases g0 with ⟨rfl, w0⟩ | ⟨b, rfl⟩
    · rcases g1 with z | ⟨rfl, w1⟩ | ⟨b, rfl⟩
      · omega
      · rcases g2 with z | ⟨rfl, w2⟩ | ⟨b, rfl⟩
        · omega
        · rcases g3 with z | ⟨b, rfl⟩
          · omega
          · have b1 : ∀ h, gNot gIs d3 .non h = .ok (.bl true) h := b.2.1
            have b2 : ∀ h, gIsi kt [d3, .glo "Rule"] h = .ok (.bl false) h := b.2.2
            simp only [zzA, zzP, zzL, cn, cm, cw, b1, b2]
            rfl
        · have b2 : ∀ h, cal 3 [] d_is_whole [d2, .int 0, .int 99] h = .ok (.bl false) h := b.2
          simp only [zzA, zzP, zzL, cn, cm, b2]
          rfl
      · have b2 : ∀ h, cal 1 [] d_are_marks [d1] h = .ok (.bl false) h := b.2
        simp only [zzA, zzP, zzL, cn, b2]
        rfl
    · have b2 : ∀ h, cal 1 [] d_is_name [d0] h = .ok (.bl false) h := b.2
      simp only [zzA, zzP, zzL, b2]
      rfl
  obtain ⟨h', e⟩ := main
  unfold make
  rw [if_pos p, e]
  rfl
theorem c_made_bad {t : Th} (ok : t.Ok) {d0 d1 d2 d3 : D} {w k : Nat} {h : AH} (w4 : w < 4) (g0 : d0 = .str t.name ∧ 0 < w ∨ BadK 0 d0 ∧ w = 0) (g1 : w < 1 ∨ d1 = .str t.marks ∧ 1 < w ∨ BadK 1 d1 ∧ w = 1) (g2 : w < 2 ∨ d2 = .int t.weight ∧ 2 < w ∨ BadK 2 d2 ∧ w = 2) (g3 : w < 3 ∨ BadK 3 d3 ∧ w = 3)
    (p : pureDs 0 [d0, d1, d2, d3] = true) (eh : h.get k = some (.lst [d0, d1, d2, d3])) (ph : pureH h.length h = true) : cal 1 [] d__law_made [.cell k] h = .ok (.str (wordsT.getD w "")) h := by
  rw [cal_cell (n := 1) (ds := [.cell k]) rfl rfl]
  have hk : k < h.length := AH.get_lt eh
  have at_ : ∀ (i : Nat) (d : D), [d0, d1, d2, d3][i]? = some d → gAt (.cell k) (.int (i : Nat)) h = .ok d h := fun i d e => at_cellL eh e
  have a0 : gAt (.cell k) (.int 0) h = .ok d0 h := at_ 0 d0 rfl
  have a1 : gAt (.cell k) (.int 1) h = .ok d1 h := at_ 1 d1 rfl
  have a2 : gAt (.cell k) (.int 2) h = .ok d2 h := at_ 2 d2 rfl
  have a3 : gAt (.cell k) (.int 3) h = .ok d3 h := at_ 3 d3 rfl
  have mk : makeK "Thing" 2 2 (putK [.inl 1, .inl 0] []) d_Thing_ZinitZ 5 (consA (bin gAt (var 0) (cst (.int 0))) (consA (bin gAt (var 0) (cst (.int 1))) nilA)) (consA (bin gAt (var 0) (cst (.int 3))) (consA (bin gAt (var 0) (cst (.int 2))) nilA)) [some (.cell k), none, none] h = .exc (exTh (wordsT.getD w "")) h := by
    rw [ap_makeK]
    simp only [zzA, zzP, zzL, a0, a1, a2, a3]
    exact mk_tbad ok w4 g0 g1 g2 g3 p h
  have main : m__law_made [some (.cell k), none, none] h = .rt (.str (wordsT.getD w "")) h := by
    unfold m__law_made
    rw [seq_nx (σ' := [some (.cell k), none, some (.str (wordsT.getD w ""))]) (h' := h)]
    · rfl
    · unfold tryAs
      rw [ap_ret, mk]
      simp only [x_bindS_exc]
      rw [show catOf [("ShelfError", true), ("NoRule", true), ("NoThing", true), ("NoHouse", true)] (exTh (wordsT.getD w "")).c = some true from rfl]
      dsimp only
      have i1 : ∀ h, gIsE ekt [.exn "NoThing" [("what", .str (wordsT.getD w ""))], .glo "NoThing"] h = .ok (.bl true) h := fun _ => rfl
      have i2 : ∀ h, gIsE ekt [.exn "NoThing" [("what", .str (wordsT.getD w ""))], .ty "ValueError"] h = .ok (.bl true) h := fun _ => rfl
      have i3 : ∀ h, gIsE ekt [.exn "NoThing" [("what", .str (wordsT.getD w ""))], .rtp [.glo "NoHouse", .glo "NoRule"]] h = .ok (.bl false) h := fun _ => rfl
      have r2 : ∀ (a b : D) (h : AH), gRtp [a, b] h = .ok (.rtp [a, b]) h := fun _ _ _ => rfl
      have fe : ∀ z h, fldE ["NoThing", "NoHouse"] "what" (var 1) [some (.cell k), some (.exn "NoThing" [("what", .str (wordsT.getD w ""))]), z] h = .ok (.str (wordsT.getD w "")) h := fun _ _ => rfl
      rw [show ((seqS (asg (cst (.str "other")) (tgN 2)) _) ([some (.cell k), none, none].set 1 (some (.exn (exTh (wordsT.getD w "")).c (exTh (wordsT.getD w "")).fs))) h) = SOut.nx [some (.cell k), some (.exn "NoThing" [("what", .str (wordsT.getD w ""))]), some (.str (wordsT.getD w ""))] h from by
        simp only [List.set_cons_zero, List.set_cons_succ, zzA, zzP, zzL, i1, i2, i3, r2, fe]]
      unfold freed
      dsimp only
      rw [if_pos ⟨by show (decide (k < h.length) && _) = true; rw [decide_eq_true hk]; rfl, ph⟩]
      rfl
  have := fn_rt (n := 3) (m := m__law_made) (ds := [.cell k]) (h := h) (h' := h) main rfl (by rw [List.take_length]; exact ph)
  rwa [List.take_length] at this
end Lk02
set_option Elab.async false
set_option linter.all false
set_option maxRecDepth 100000
set_option maxHeartbeats 4000000
set_option autoImplicit false
namespace Lk02
open PySem Ws
theorem law_walkH {ns : List Int} (hl : ns.length ≤ 63) {σ : Sl} {h : AH} {mr : Ws.M (List D)} {pre : List Int} {k : Int} (e0 : var 0 σ h = .ok (.scr ns) h) (e1 : mr σ h = .ok (pre.map .int) h) (hp : pre.length ≤ 100) : walk itemsA (bin gAdd (app gLst mr) (sl (var 0) noPart (part (cst (.int k))))) σ h = .ok ((pre ++ cutD ns none (some k)).map .int) h := by
  unfold walk
  have l : (cutD ns none (some k)).length ≤ 63 := by
    unfold cutD
    simp only [List.length_take, List.length_drop]
    omega
  have ea : app gLst mr σ h = .ok (.lst (pre.map .int)) h := by
    unfold app; rw [e1]
    show gLst _ _ = _
    unfold gLst
    rw [if_pos (by simp [lim]; omega)]
  have es : sl (var 0) noPart (part (cst (.int k))) σ h = .ok (.lst ((cutD ns none (some k)).map .int)) h := by
    rw [ap_sl, e0]; rfl
  rw [bin_ok ea es]
  simp only [gAdd, lstOf]
  rw [if_pos (by simp [lim]; omega)]
  simp [itemsA, itemsL]
noncomputable def bodyT : SM :=   (seqS
  (asg (app gLstC (consA (var 2) nilA)) (tgN 3))
  (seqS
  (asg (app (calS 1 d__law_good) (consA (var 3) nilA)) (tgN 4))
  (seqS
  (asg (app (cal 1 [] d__law_made) (consA (var 4) nilA)) (tgN 5))
  (seqS
  (ifS (orB (notB (asB (app (gIsi kt) (consA (var 5) (consA (cst (.glo "Thing")) nilA))))) (asB (bin (gEqOL EL true) (app gLst (consA (fldC ["Thing"] "name" (var 5)) (consA (fldC ["Thing"] "marks" (var 5)) (consA (fldC ["Thing"] "weight" (var 5)) (consA (fldC ["Thing"] "rule" (var 5)) nilA))))) (var 4))))
  (ret (cst (.bl false)))
  skip)
  (seqS
  (asg (makeK "Thing" 2 0 (putK [.inr 0, .inr 1] [.int 0, .non]) d_Thing_ZinitZ 5 (consA (bin gAt (var 4) (cst (.int 0))) (consA (bin gAt (var 4) (cst (.int 1))) nilA)) nilA) (tgN 6))
  (seqS
  (ifS (orB (asB (bin (gNot gEqD) (fldC ["Thing"] "weight" (var 6)) (cst (.int 0)))) (orB (orT (asB (bin (gOwnNe "Front" kt d_Rule_ZeqZ) (fldC ["Thing"] "rule" (var 6)) (cst (.ins "Front" [])))) (orT (asB (bin (gOwnNe "By" kt d_Rule_ZeqZ) (fldC ["Thing"] "rule" (var 6)) (cst (.ins "Front" [])))) (orT (asB (bin (gOwnNe "Half" kt d_Rule_ZeqZ) (fldC ["Thing"] "rule" (var 6)) (cst (.ins "Front" [])))) (asB (bin (gOwnNe "Like" kt d_Rule_ZeqZ) (fldC ["Thing"] "rule" (var 6)) (cst (.ins "Front" []))))))) (asB (bin (gOwnNe "Thing" kt d_Thing_ZeqZ) (makeK "Thing" 2 1 (putK [.inr 0, .inl 0] [.int 0]) d_Thing_ZinitZ 5 (consA (bin gAt (var 4) (cst (.int 0))) (consA (bin gAt (var 4) (cst (.int 1))) nilA)) (consA (cst .non) nilA)) (var 6)))))
  (ret (cst (.bl false)))
  skip)
  (seqS
  (ifS (orB (asB (bin (gNot gEqD) (bin (gOwn "Thing" kt d_Thing_ZeqZ) (var 6) (var 5)) (bin (gEqOL EL false) (sl (var 4) (part (cst (.int 2))) noPart) (app gLst (consA (cst (.int 0)) (consA (cst (.ins "Front" [])) nilA)))))) (orB (asB (bin (gOwnNe "Thing" kt d_Thing_ZeqZ) (var 5) (app (cal 1 [] d__law_made) (consA (app gListA (consA (var 4) nilA)) nilA)))) (asB (bin (gOwn "Thing" kt d_Thing_ZeqZ) (var 5) (bin gAt (var 4) (cst (.int 0)))))))
  (ret (cst (.bl false)))
  skip)
  (seqS
  (ifS (asB (bin (gNot gEqD) (ccG [7, 8] (walkG (var 1)) (tgTup (tgCons (tgN 7) (tgCons (tgN 8) tgNil))) (asB (bin (gNot gEqD) (bin (gOwn "Thing" kt d_Thing_ZeqZ) (var 7) (var 5)) (bin (gEqOL EL false) (var 8) (var 4)))) (emE (cst (.int 1)) stepL) [] finL) (app gLst nilA)))
  (ret (cst (.bl false)))
  skip)
  (seqS
  (drop (bm isLst gAppend (var 1) (consA (app gTup (consA (var 5) (consA (var 4) nilA))) nilA)))
  (seqS
  (asg (bin gAdd (ccF [10] (walkA rng1 (consA (cst (.int 4)) nilA)) (tgN 10) (asB (bin gEqD (app (calS 2 d__law_digit) (consA (var 3) (consA (cst (.int 3)) nilA))) (cst (.int 0)))) (emE (var 10) stepL) [] finL) (app gLst (consA (app (calS 2 d__law_digit) (consA (var 3) (consA (cst (.int 4)) nilA))) nilA))) (tgN 9))
  (seqS
  (asg (app gListAC (consA (var 4) nilA)) (tgN 7))
  (seqS
  (forS (walk itemsA (var 9)) (tgN 10)
  (asg (app (calS 2 d__law_bad) (consA (var 3) (consA (var 10) nilA))) (tgSt (var 7) (var 10))))
  (ifS (asB (bin (gNot gEqD) (app (cal 1 [] d__law_made) (consA (var 7) nilA)) (bin gAt (app gLst (consA (cst (.str "name")) (consA (cst (.str "marks")) (consA (cst (.str "weight")) (consA (cst (.str "rule")) nilA))))) (app gMin1 (consA (var 9) nilA)))))
  (ret (cst (.bl false)))
  skip)))))))))))))
def mD (t : Th) : D := .tup [thD t, .lst (partsL t)]
theorem pure_parts (L : Nat) (t : Th) : pureDs L (partsL t) = true := by
  show (true && (true && (true && (pureD L (ruleD t.rule) && true)))) = true
  rw [pure_rule]; rfl
theorem pure_m (L : Nat) (t : Th) : pureD L (mD t) = true := by
  show (pureD L (thD t) && (pureDs L (partsL t) && true)) = true
  rw [pure_th, pure_parts]; rfl
theorem lst_self (t : Th) (h : AH) : gEqOL EL true (.lst (partsL t)) (.lst (partsL t)) h = .ok (.bl false) h := by
  unfold gEqOL lstOf
  dsimp only
  rw [if_pos rfl, lst_parts, eqT_self]
  rfl
theorem lst_two (a b : Th) (h : AH) : gEqOL EL false (.lst (partsL a)) (.lst (partsL b)) h = .ok (.bl (eqT a b)) h := by
  unfold gEqOL lstOf
  dsimp only
  rw [if_pos (show (partsL a).length = (partsL b).length from rfl), lst_parts]
  dsimp only
  cases eqT a b <;> rfl
theorem lst_wr2 (w : Int) (r : Go) (h : AH) : gEqOL EL false (.lst [.int w, ruleD r]) (.lst [.int 0, .ins "Front" []]) h = .ok (.bl (decide (w = 0) && eqG r .front)) h := by
  unfold gEqOL lstOf
  dsimp only
  rw [if_pos (show [D.int w, ruleD r].length = [D.int 0, D.ins "Front" []].length from rfl), show (D.ins "Front" []) = ruleD .front from rfl, lst_wr]
  dsimp only
  cases (decide (w = 0) && eqG r .front) <;> rfl
theorem ne_bl (b : Bool) (h : AH) : gNot gEqD (.bl b) (.bl b) h = .ok (.bl false) h := o_neSelf h rfl rfl
abbrev slT (ns : List Int) (c : Int) (t : Th) (x5 x6 x7 x8 x9 x10 : Option D) : Sl := [some (.scr ns), some (.cell 0), some (.int c), some (.cell 1), some (.lst (partsL t)), x5, x6, x7, x8, x9, x10]
def thP (t : Th) : Th := ⟨t.name, t.marks, 0, .front⟩
theorem eqT_plain (t : Th) : eqT (thP t) t = (decide (t.weight = 0) && eqG t.rule .front) := by
  unfold eqT thP
  rw [decide_eq_true (rfl : t.name = t.name), decide_eq_true (rfl : t.marks = t.marks)]
  dsimp only
  rw [show decide ((0 : Int) = t.weight) = decide (t.weight = 0) from by
    by_cases z : t.weight = 0
    · rw [decide_eq_true z, decide_eq_true z.symm]
    · rw [decide_eq_false z, decide_eq_false fun y => z y.symm]]
  cases t.rule <;> rfl
section
variable {ns : List Int} {c : Int} {t : Th} (ok : t.Ok) {ms : List Th} (hm : ∀ u ∈ ms, u.Ok) (lm : ms.length ≤ 100)
noncomputable def stB : SM := (seqS
  (ifS (orB (notB (asB (app (gIsi kt) (consA (var 5) (consA (cst (.glo "Thing")) nilA))))) (asB (bin (gEqOL EL true) (app gLst (consA (fldC ["Thing"] "name" (var 5)) (consA (fldC ["Thing"] "marks" (var 5)) (consA (fldC ["Thing"] "weight" (var 5)) (consA (fldC ["Thing"] "rule" (var 5)) nilA))))) (var 4))))
  (ret (cst (.bl false)))
  skip)
  (seqS
  (asg (makeK "Thing" 2 0 (putK [.inr 0, .inr 1] [.int 0, .non]) d_Thing_ZinitZ 5 (consA (bin gAt (var 4) (cst (.int 0))) (consA (bin gAt (var 4) (cst (.int 1))) nilA)) nilA) (tgN 6))
  (seqS
  (ifS (orB (asB (bin (gNot gEqD) (fldC ["Thing"] "weight" (var 6)) (cst (.int 0)))) (orB (orT (asB (bin (gOwnNe "Front" kt d_Rule_ZeqZ) (fldC ["Thing"] "rule" (var 6)) (cst (.ins "Front" [])))) (orT (asB (bin (gOwnNe "By" kt d_Rule_ZeqZ) (fldC ["Thing"] "rule" (var 6)) (cst (.ins "Front" [])))) (orT (asB (bin (gOwnNe "Half" kt d_Rule_ZeqZ) (fldC ["Thing"] "rule" (var 6)) (cst (.ins "Front" [])))) (asB (bin (gOwnNe "Like" kt d_Rule_ZeqZ) (fldC ["Thing"] "rule" (var 6)) (cst (.ins "Front" []))))))) (asB (bin (gOwnNe "Thing" kt d_Thing_ZeqZ) (makeK "Thing" 2 1 (putK [.inr 0, .inl 0] [.int 0]) d_Thing_ZinitZ 5 (consA (bin gAt (var 4) (cst (.int 0))) (consA (bin gAt (var 4) (cst (.int 1))) nilA)) (consA (cst .non) nilA)) (var 6)))))
  (ret (cst (.bl false)))
  skip)
  (ifS (orB (asB (bin (gNot gEqD) (bin (gOwn "Thing" kt d_Thing_ZeqZ) (var 6) (var 5)) (bin (gEqOL EL false) (sl (var 4) (part (cst (.int 2))) noPart) (app gLst (consA (cst (.int 0)) (consA (cst (.ins "Front" [])) nilA)))))) (orB (asB (bin (gOwnNe "Thing" kt d_Thing_ZeqZ) (var 5) (app (cal 1 [] d__law_made) (consA (app gListA (consA (var 4) nilA)) nilA)))) (asB (bin (gOwn "Thing" kt d_Thing_ZeqZ) (var 5) (bin gAt (var 4) (cst (.int 0)))))))
  (ret (cst (.bl false)))
  skip))))
include ok
theorem st_ok (h : AH) : stB (slT ns c t (some (thD t)) none none none none none) h = .nx (slT ns c t (some (thD t)) (some (thD (thP t))) none none none none) h := by
  have okP : (thP t).Ok := ⟨ok.nm, ok.ma, Int.le_refl 0, (by decide : (0 : Int) ≤ 99), fun _ z => nomatch z⟩
  have it : ∀ h, gIsi kt [thD t, .glo "Thing"] h = .ok (.bl true) h := fun _ => rfl
  have g4 : ∀ h, gLst [.str t.name, .str t.marks, .int t.weight, ruleD t.rule] h = .ok (.lst (partsL t)) h := fun _ => rfl
  have n5 : ∀ x6 h, fldC ["Thing"] "name" (var 5) (slT ns c t (some (thD t)) x6 none none none none) h = .ok (.str t.name) h := fun _ _ => rfl
  have m5 : ∀ x6 h, fldC ["Thing"] "marks" (var 5) (slT ns c t (some (thD t)) x6 none none none none) h = .ok (.str t.marks) h := fun _ _ => rfl
  have w5 : ∀ x6 h, fldC ["Thing"] "weight" (var 5) (slT ns c t (some (thD t)) x6 none none none none) h = .ok (.int t.weight) h := fun _ _ => rfl
  have r5 : ∀ x6 h, fldC ["Thing"] "rule" (var 5) (slT ns c t (some (thD t)) x6 none none none none) h = .ok (ruleD t.rule) h := fun _ _ => rfl
  have v4 : ∀ x6 h, var 4 (slT ns c t (some (thD t)) x6 none none none none) h = .ok (.lst (partsL t)) h := fun _ _ => rfl
  have v5 : ∀ x6 h, var 5 (slT ns c t (some (thD t)) x6 none none none none) h = .ok (thD t) h := fun _ _ => rfl
  have v6 : ∀ h, var 6 (slT ns c t (some (thD t)) (some (thD (thP t))) none none none none) h = .ok (thD (thP t)) h := fun _ => rfl
  have a0 : ∀ h, gAt (.lst (partsL t)) (.int 0) h = .ok (.str t.name) h := fun _ => rfl
  have a1 : ∀ h, gAt (.lst (partsL t)) (.int 1) h = .ok (.str t.marks) h := fun _ => rfl
  have nm : ∀ x6 h, consA (bin gAt (var 4) (cst (.int 0))) (consA (bin gAt (var 4) (cst (.int 1))) nilA) (slT ns c t (some (thD t)) x6 none none none none) h = .ok [.str t.name, .str t.marks] h := fun x6 h => by
    simp only [ap_cons, ap_nil, ap_bin, ap_cst, v4, x_bind_ok, a0, a1]
  unfold stB
  rw [seq_nx (σ' := slT ns c t (some (thD t)) none none none none none) (h' := h) (by simp only [ap_ifS, ap_orB, ap_notB, ap_asB, ap_app, ap_bin, ap_cons, ap_nil, ap_cst, v5, x_bind_ok, it, x_isBl, n5, m5, w5, r5, g4, v4, lst_self, x_bindS_ok]; rfl)]
  rw [seq_asg (i := 6) (d := thD (thP t)) (h' := h) (ap_thing0 ok.nm ok.ma (nm _ _))]
  dsimp only [slT, List.set_cons_succ, List.set_cons_zero]
  show seqS _ _ (slT ns c t (some (thD t)) (some (thD (thP t))) none none none none) h = _
  have w6 : ∀ h, fldC ["Thing"] "weight" (var 6) (slT ns c t (some (thD t)) (some (thD (thP t))) none none none none) h = .ok (.int 0) h := fun _ => rfl
  have r6 : ∀ h, fldC ["Thing"] "rule" (var 6) (slT ns c t (some (thD t)) (some (thD (thP t))) none none none none) h = .ok (ruleD .front) h := fun _ => rfl
  have nf : ∀ h, gOwnNe "Front" kt d_Rule_ZeqZ (ruleD .front) (.ins "Front" []) h = .ok (.bl false) h := fun h => by
    unfold gOwnNe
    rw [show gOwn "Front" kt d_Rule_ZeqZ (ruleD .front) (.ins "Front" []) h = _ from ownG .front .front h]
    rfl
  have n0 : ∀ h, gNot gEqD (.int 0) (.int 0) h = .ok (.bl false) h := fun h => ne_ii 0 h
  have mN : ∀ h, makeK "Thing" 2 1 (putK [.inr 0, .inl 0] [.int 0]) d_Thing_ZinitZ 5 (consA (bin gAt (var 4) (cst (.int 0))) (consA (bin gAt (var 4) (cst (.int 1))) nilA)) (consA (cst .non) nilA) (slT ns c t (some (thD t)) (some (thD (thP t))) none none none none) h = .ok (thD (thP t)) h := fun h => ap_thingN ok.nm ok.ma (nm _ _) rfl
  have nP : ∀ h, gOwnNe "Thing" kt d_Thing_ZeqZ (thD (thP t)) (thD (thP t)) h = .ok (.bl false) h := fun h => by rw [neT okP okP, eqT_self]; rfl
  have oT : ∀ (b : Ws.M Bool) h, orT (asB (bin (gOwnNe "Front" kt d_Rule_ZeqZ) (fldC ["Thing"] "rule" (var 6)) (cst (.ins "Front" [])))) b (slT ns c t (some (thD t)) (some (thD (thP t))) none none none none) h = .ok false h := fun b h => by
    unfold orT
    rw [ap_asB, ap_bin, r6, x_bind_ok, ap_cst, x_bind_ok, nf, x_bind_ok]
    rfl
  rw [seq_nx (σ' := slT ns c t (some (thD t)) (some (thD (thP t))) none none none none) (h' := h) (by simp only [ap_ifS, ap_orB, ap_asB, ap_bin, ap_cst, w6, x_bind_ok, n0, x_isBl, oT, mN, v6, nP, x_bindS_ok]; rfl)]
  have sl2 : ∀ h, gSl (.lst (partsL t)) (some 2) none h = .ok (.lst [.int t.weight, ruleD t.rule]) h := fun _ => rfl
  have g2 : ∀ (a b : D) (h : AH), gLst [a, b] h = .ok (.lst [a, b]) h := fun _ _ _ => rfl
  have gl : ∀ h, gListA [.lst (partsL t)] h = .ok (.lst (partsL t)) h := fun _ => rfl
  have mg := fun h => c_made_good ok h
  have nT : ∀ h, gOwnNe "Thing" kt d_Thing_ZeqZ (thD t) (thD t) h = .ok (.bl false) h := fun h => by rw [neT ok ok, eqT_self]; rfl
  have oP : ∀ h, gOwn "Thing" kt d_Thing_ZeqZ (thD (thP t)) (thD t) h = .ok (.bl (decide (t.weight = 0) && eqG t.rule .front)) h := fun h => by rw [ownT okP ok, eqT_plain]
  have oS : ∀ h, gOwn "Thing" kt d_Thing_ZeqZ (thD t) (.str t.name) h = .ok (.bl false) h := fun h => ownTs t.name h
  simp only [ap_ifS, ap_orB, ap_asB, ap_bin, ap_app, ap_cons, ap_nil, ap_cst, ap_sl, ap_part, ap_noPart, v4, v5, v6, x_bind_ok, oP, sl2, g2, lst_wr2, ne_bl, x_isBl, gl, mg, nT, a0, oS, x_bindS_ok]
  rfl
end
theorem seq4 {a b c d k : SM} {σ σ' : Sl} {h h' : AH} {out : SOut} (e : (seqS a (seqS b (seqS c d))) σ h = .nx σ' h') (e2 : k σ' h' = out) : (seqS a (seqS b (seqS c (seqS d k)))) σ h = out := by
  rw [ap_seq] at e ⊢
  cases q : a σ h with
  | nx σ1 h1 =>
    rw [q] at e
    dsimp only at e ⊢
    rw [ap_seq] at e ⊢
    cases q2 : b σ1 h1 with
    | nx σ2 h2 =>
      rw [q2] at e
      dsimp only at e ⊢
      rw [ap_seq] at e ⊢
      cases q3 : c σ2 h2 with
      | nx σ3 h3 =>
        rw [q3] at e
        dsimp only at e ⊢
        rw [ap_seq, e]
        exact e2
      | _ => rw [q3] at e; cases e
    | _ => rw [q2] at e; cases e
  | _ => rw [q] at e; cases e
structure SpO (t : Th) (done : List Nat) (zs : List D) : Prop where
  len : zs.length = 4
  bad : ∀ j, j < 4 → j ∈ done → BadK j (zs.getD j .non)
  good : ∀ j, j < 4 → j ∉ done → zs.getD j .non = (partsL t).getD j .non
theorem sp_start (t : Th) : SpO t [] (partsL t) := ⟨rfl, fun _ _ z => (by cases z), fun _ _ _ => rfl⟩
theorem sp_step {t : Th} {done : List Nat} {zs : List D} (s : SpO t done zs) {k : Nat} (hk : k < 4) {d : D} (b : BadK k d) : SpO t (done ++ [k]) (zs.set k d) := by
  have kl : k < zs.length := by rw [s.len]; exact hk
  have ge : (zs.set k d).getD k .non = d := by
    rw [List.getD_eq_getElem?_getD, List.getElem?_set_self kl]; rfl
  have gn : ∀ j, k ≠ j → (zs.set k d).getD j .non = zs.getD j .non := fun j h => by
    rw [List.getD_eq_getElem?_getD, List.getElem?_set_ne h, List.getD_eq_getElem?_getD]
  refine ⟨by rw [List.length_set]; exact s.len, fun j hj hm => ?_, fun j hj hm => ?_⟩
  · by_cases e : k = j
    · subst e; rw [ge]; exact b
    · rw [gn j e]
      rcases List.mem_append.mp hm with z | z
      · exact s.bad j hj z
      · exact absurd (List.mem_singleton.mp z).symm e
  · have e : k ≠ j := fun z => hm (List.mem_append.mpr (.inr (by rw [z]; exact List.mem_singleton_self j)))
    rw [gn j e]
    exact s.good j hj fun z => hm (List.mem_append.mpr (.inl z))
theorem sp_pure {t : Th} {done : List Nat} {zs : List D} (s : SpO t done zs) (L : Nat) : pureDs L zs = true := by
  obtain ⟨a, b, c, d, rfl⟩ : ∃ a b c d, zs = [a, b, c, d] := by
    have l := s.len
    match zs, l with
    | [a, b, c, d], _ => exact ⟨a, b, c, d, rfl⟩
  have one : ∀ j, j < 4 → pureD L ([a, b, c, d].getD j .non) = true := fun j hj => by
    by_cases m : j ∈ done
    · exact (s.bad j hj m).1 L
    · rw [s.good j hj m]
      have pp := pure_parts L t
      have : j = 0 ∨ j = 1 ∨ j = 2 ∨ j = 3 := by omega
      rcases this with rfl | rfl | rfl | rfl
      · rfl
      · rfl
      · rfl
      · exact pure_rule L t.rule
  show (pureD L a && (pureD L b && (pureD L c && (pureD L d && true)))) = true
  rw [show pureD L a = true from one 0 (by decide), show pureD L b = true from one 1 (by decide), show pureD L c = true from one 2 (by decide), show pureD L d = true from one 3 (by decide)]
  rfl
theorem tstT (k : Nat) (hk : k < 4) (σ : Sl) (d : D) (a b : Option OB) (ys : List D) (h3 : σ[7]? = some (some (.cell 2))) (h5 : σ[10]? = some (some (.int (k : Nat)))) (h4 : ys.length = 4) : tgSt (var 7) (var 10) d σ [a, b, some (.lst ys)] = .ok σ [a, b, some (.lst (ys.set k d))] := by
  unfold tgSt
  have e3 : ∀ h, var 7 σ h = .ok (.cell 2) h := fun h => by unfold var; rw [h3]
  have e5 : ∀ h, var 10 σ h = .ok (.int (k : Nat)) h := fun h => by unfold var; rw [h5]
  rw [e3]
  dsimp only
  rw [e5]
  dsimp only
  match ys, h4, k, hk with
  | [_, _, _, _], _, 0, _ => rfl
  | [_, _, _, _], _, 1, _ => rfl
  | [_, _, _, _], _, 2, _ => rfl
  | [_, _, _, _], _, 3, _ => rfl
section
variable {ns : List Int} {c : Int} {t : Th} (ok : t.Ok) {M : List Th} (hM : M.length ≤ 200)
noncomputable def spB : SM := (seqS
  (asg (bin gAdd (ccF [10] (walkA rng1 (consA (cst (.int 4)) nilA)) (tgN 10) (asB (bin gEqD (app (calS 2 d__law_digit) (consA (var 3) (consA (cst (.int 3)) nilA))) (cst (.int 0)))) (emE (var 10) stepL) [] finL) (app gLst (consA (app (calS 2 d__law_digit) (consA (var 3) (consA (cst (.int 4)) nilA))) nilA))) (tgN 9))
  (seqS
  (asg (app gListAC (consA (var 4) nilA)) (tgN 7))
  (seqS
  (forS (walk itemsA (var 9)) (tgN 10)
  (asg (app (calS 2 d__law_bad) (consA (var 3) (consA (var 10) nilA))) (tgSt (var 7) (var 10))))
  (ifS (asB (bin (gNot gEqD) (app (cal 1 [] d__law_made) (consA (var 7) nilA)) (bin gAt (app gLst (consA (cst (.str "name")) (consA (cst (.str "marks")) (consA (cst (.str "weight")) (consA (cst (.str "rule")) nilA))))) (app gMin1 (consA (var 9) nilA)))))
  (ret (cst (.bl false)))
  skip))))
abbrev hpT (M : List Th) (st : List D) : AH := [some (.lst (M.map mD)), some (.lst st)]
include ok
theorem sp_ok {st : List D} (hs : Dr st) : ∃ σ2 h2, spB (slT ns c t (some (thD t)) (some (thD (thP t))) none none none none) (hpT M st) = .nx σ2 h2 ∧ trim 1 [2, 3, 4, 5, 6, 7, 8, 9, 10] σ2 h2 = .ok [some (.scr ns), some (.cell 0), none, none, none, none, none, none, none, none, none] [some (.lst (M.map mD))] := by
  have pM : ∀ L, pureDs L (M.map mD) = true := fun L => pureDs_map fun u _ => pure_m L u
  have er4 : ∀ h, rng1 [.int 4] h = .ok ((List.range 4).map fun (i : Nat) => D.int (i : Nat)) h := fun h => o_rng h 4 (by omega)
  obtain ⟨ys, hA, ec, ⟨st5, rfl, hs5⟩, sub⟩ := ccGo_pick (t := tgN 10) (c := asB (bin gEqD (app (calS 2 d__law_digit) (consA (var 3) (consA (cst (.int 3)) nilA))) (cst (.int 0)))) (e := var 10) (σ := slT ns c t (some (thD t)) (some (thD (thP t))) none none none none) (g := fun i : Nat => D.int (i : Nat)) (f := fun i : Nat => D.int (i : Nat)) (fun h => ∃ st, h = hpT M st ∧ Dr st) (xs := List.range 4) (acc := []) (h := hpT M st) ⟨st, rfl, hs⟩ (fun i _ h ⟨st, eh, hs⟩ => by
      subst eh
      obtain ⟨n, st', e, _, hs'⟩ := dgS (k := 1) (h := hpT M st) (st := st) rfl hs (b := 3) (by decide) (by decide)
      have e : calS 2 d__law_digit [.cell 1, .int 3] (hpT M st) = .ok (.int (n : Nat)) (hpT M st') := e
      refine ⟨slT ns c t (some (thD t)) (some (thD (thP t))) none none none (some (.int (i : Nat))), decide ((n : Int) = 0), hpT M st', rfl, ?_, fun _ => rfl, st', rfl, hs'⟩
      simp only [ap_asB, ap_bin, ap_app, ap_cons, ap_nil, ap_var, ap_cst, zzL, x_bind_ok, e, gEq_int, x_isBl]) (by decide)
  obtain ⟨n, st6, e6, hn, hs6⟩ := dgS (k := 1) (h := hpT M st5) (st := st5) rfl hs5 (b := 4) (by decide) (by decide)
  have e6 : calS 2 d__law_digit [.cell 1, .int 4] (hpT M st5) = .ok (.int (n : Nat)) (hpT M st6) := e6
  have hys : ∀ k ∈ ys, k < 4 := fun k hk => by simpa using sub.subset hk
  have lys : ys.length ≤ 4 := by simpa using sub.length_le
  obtain ⟨ks, eks⟩ : ∃ ks, ks = ys ++ [n] := ⟨_, rfl⟩
  have hks : ∀ k ∈ ks, k < 4 := fun k hk => by
    rw [eks] at hk
    rcases List.mem_append.mp hk with z | z
    · exact hys k z
    · rw [List.mem_singleton.mp z]; omega
  obtain ⟨w, hw, hmn, hmin⟩ : ∃ w ∈ ks, (∀ x ∈ ks, w ≤ x) ∧ (ks.map fun x : Nat => (x : Int)).min? = some (w : Int) := by
    cases e : ks with
    | nil => rw [eks] at e; exact absurd e (by simp)
    | cons a r => exact min_of r a
  have w4 := hks w hw
  -- the loop
  obtain ⟨σ', h', el, x10, zs, st7, rfl, rfl, hs7, S⟩ := forGo_st (t := tgN 10) (m := asg (app (calS 2 d__law_bad) (consA (var 3) (consA (var 10) nilA))) (tgSt (var 7) (var 10))) (g := fun k : Nat => D.int (k : Nat)) (fun (done : List Nat) σ h => ∃ x10 zs st7, σ = slT ns c t (some (thD t)) (some (thD (thP t))) (some (.cell 2)) none (some (.lst (ks.map fun k => .int (k : Nat)))) x10 ∧ h = [some (.lst (M.map mD)), some (.lst st7), some (.lst zs)] ∧ Dr st7 ∧ SpO t done zs) (fun done k => done ++ [k]) (xs := ks) (b := []) (σ := slT ns c t (some (thD t)) (some (thD (thP t))) (some (.cell 2)) none (some (.lst (ks.map fun k => .int (k : Nat)))) none) (h := [some (.lst (M.map mD)), some (.lst st6), some (.lst (partsL t))]) ⟨none, partsL t, st6, rfl, rfl, hs6, sp_start t⟩ (by
    rintro k hk done σ h ⟨x10, zs, st7, rfl, rfl, hs7, S⟩
    have k4 := hks k hk
    obtain ⟨d, st8, e8, bd, hs8⟩ := c_lbad k4 hs7
    have e8 := calS_ok (n := 2) (k := 1) (h := [some (.lst (M.map mD)), some (.lst st7), some (.lst zs)]) (st := st7) (r := [.int (k : Nat)]) rfl rfl rfl (dr_pure hs7) e8 (bd.1 0) (dr_pure hs8)
    have e8 : calS 2 d__law_bad [.cell 1, .int (k : Nat)] [some (.lst (M.map mD)), some (.lst st7), some (.lst zs)] = .ok d [some (.lst (M.map mD)), some (.lst st8), some (.lst zs)] := e8
    refine ⟨slT ns c t (some (thD t)) (some (thD (thP t))) (some (.cell 2)) none (some (.lst (ks.map fun k => .int (k : Nat)))) (some (.int (k : Nat))), [some (.lst (M.map mD)), some (.lst st8), some (.lst (zs.set k d))], ?_, _, _, _, rfl, rfl, hs8, sp_step S k4 bd⟩
    have tt := tstT k k4 (slT ns c t (some (thD t)) (some (thD (thP t))) (some (.cell 2)) none (some (.lst (ks.map fun k => .int (k : Nat)))) (some (.int (k : Nat)))) d (some (.lst (M.map mD))) (some (.lst st8)) zs rfl rfl S.len
    show asg (app (calS 2 d__law_bad) (consA (var 3) (consA (var 10) nilA))) (tgSt (var 7) (var 10)) (slT ns c t (some (thD t)) (some (thD (thP t))) (some (.cell 2)) none (some (.lst (ks.map fun k => .int (k : Nat)))) (some (.int (k : Nat)))) _ = _
    rw [ap_asg]
    rw [show app (calS 2 d__law_bad) (consA (var 3) (consA (var 10) nilA)) (slT ns c t (some (thD t)) (some (thD (thP t))) (some (.cell 2)) none (some (.lst (ks.map fun k => .int (k : Nat)))) (some (.int (k : Nat)))) [some (.lst (M.map mD)), some (.lst st7), some (.lst zs)] = .ok d [some (.lst (M.map mD)), some (.lst st8), some (.lst zs)] from e8, x_bindS_ok, tt])
  have fd : ∀ (l acc : List Nat), l.foldl (fun done k => done ++ [k]) acc = acc ++ l := fun l => by
    induction l with
    | nil => intro acc; simp
    | cons a r ih => intro acc; rw [List.foldl_cons, ih]; simp
  rw [fd, List.nil_append] at S
  obtain ⟨d0, d1, d2, d3, rfl⟩ : ∃ a b c d, zs = [a, b, c, d] := by
    have l := S.len
    match zs, l with
    | [a, b, c, d], _ => exact ⟨a, b, c, d, rfl⟩
  have pz := fun L => sp_pure S L
  have lt : ∀ j, j < w → j ∉ ks := fun j hj m => by have := hmn j m; omega
  have ph : pureH 3 [some (OB.lst (M.map mD)), some (.lst st7), some (.lst [d0, d1, d2, d3])] = true := by
    show (pureDs 3 (M.map mD) && (pureDs 3 st7 && (pureDs 3 [d0, d1, d2, d3] && true))) = true
    rw [pM, hs7.pure, pz]; rfl
  have mb := c_made_bad ok (d0 := d0) (d1 := d1) (d2 := d2) (d3 := d3) (w := w) (k := 2) (h := [some (.lst (M.map mD)), some (.lst st7), some (.lst [d0, d1, d2, d3])]) w4 (by
      by_cases z : w = 0
      · exact .inr ⟨S.bad 0 (by decide) (z ▸ hw), z⟩
      · exact .inl ⟨S.good 0 (by decide) (lt 0 (by omega)), by omega⟩) (by
      by_cases z : w < 1
      · exact .inl z
      · by_cases z2 : w = 1
        · exact .inr (.inr ⟨S.bad 1 (by decide) (z2 ▸ hw), z2⟩)
        · exact .inr (.inl ⟨S.good 1 (by decide) (lt 1 (by omega)), by omega⟩)) (by
      by_cases z : w < 2
      · exact .inl z
      · by_cases z2 : w = 2
        · exact .inr (.inr ⟨S.bad 2 (by decide) (z2 ▸ hw), z2⟩)
        · exact .inr (.inl ⟨S.good 2 (by decide) (lt 2 (by omega)), by omega⟩)) (by
      by_cases z : w < 3
      · exact .inl z
      · have z2 : w = 3 := by omega
        exact .inr ⟨S.bad 3 (by decide) (z2 ▸ hw), z2⟩) (pz 0) rfl ph
  have l1 : ∀ (a : D) (h : AH), gLst [a] h = .ok (.lst [a]) h := fun _ _ => rfl
  have l4 : ∀ (a b c d : D) (h : AH), gLst [a, b, c, d] h = .ok (.lst [a, b, c, d]) h := fun _ _ _ _ _ => rfl
  have ck : ∀ h, gAdd (.lst (ys.map fun i : Nat => D.int (i : Nat))) (.lst [.int (n : Nat)]) h = .ok (.lst (ks.map fun k => .int (k : Nat))) h := fun h => by
    rw [o_catL _ _ _ (by rw [List.length_map]; show _ + 1 ≤ _; omega), eks, List.map_append]
    rfl
  have ek : ccF [10] (walkA rng1 (consA (cst (.int 4)) nilA)) (tgN 10) (asB (bin gEqD (app (calS 2 d__law_digit) (consA (var 3) (consA (cst (.int 3)) nilA))) (cst (.int 0)))) (emE (var 10) stepL) [] finL (slT ns c t (some (thD t)) (some (thD (thP t))) none none none none) (hpT M st) = .ok (.lst (ys.map fun i : Nat => D.int (i : Nat))) (hpT M st5) := by
    rw [ap_ccF]
    simp only [ap_walkA, ap_cons, ap_nil, ap_cst, x_bind_ok, er4]
    rw [show wipeD (slT ns c t (some (thD t)) (some (thD (thP t))) none none none none) [10] = slT ns c t (some (thD t)) (some (thD (thP t))) none none none none from rfl]
    rw [ec, List.nil_append]
    rfl
  have mn : ∀ h, gMin1 [.lst (ks.map fun k => .int (k : Nat))] h = .ok (.int (w : Nat)) h := fun h => by
    have := o_min1 hmin h
    rw [List.map_map] at this
    exact this
  have aw : ∀ h, gAt (.lst [.str "name", .str "marks", .str "weight", .str "rule"]) (.int (w : Nat)) h = .ok (.str (wordsT.getD w "")) h := fun h => at_lst (f := D.str) (xs := wordsT) "" h rfl (by show w < 4; exact w4)
  have lay : PyData.canLay0 (.str (wordsT.getD w "")) = true := by
    have : w = 0 ∨ w = 1 ∨ w = 2 ∨ w = 3 := by omega
    rcases this with rfl | rfl | rfl | rfl <;> decide +kernel
  have nw : ∀ h, gNot gEqD (.str (wordsT.getD w "")) (.str (wordsT.getD w "")) h = .ok (.bl false) h := fun h => o_neSelf h rfl (fit_str lay)
  have gc : gListAC [.lst (partsL t)] (hpT M st6) = .ok (.cell 2) [some (.lst (M.map mD)), some (.lst st6), some (.lst (partsL t))] := rfl
  refine ⟨slT ns c t (some (thD t)) (some (thD (thP t))) (some (.cell 2)) none (some (.lst (ks.map fun k => .int (k : Nat)))) x10, [some (.lst (M.map mD)), some (.lst st7), some (.lst [d0, d1, d2, d3])], ?_, ?_⟩
  · unfold spB
    rw [seq_asg (i := 9) (d := .lst (ks.map fun k => .int (k : Nat))) (h' := hpT M st6) (by
      rw [ap_bin, ek]
      simp only [x_bind_ok, ap_app, ap_cons, ap_nil, ap_var, ap_cst, zzL, e6, l1, ck])]
    rw [seq_asg (i := 7) (d := .cell 2) (h' := [some (.lst (M.map mD)), some (.lst st6), some (.lst (partsL t))]) (by
      dsimp only [slT, List.set_cons_succ, List.set_cons_zero]
      simp only [ap_app, ap_cons, ap_nil, ap_var, zzL, x_bind_ok, gc])]
    dsimp only [slT, List.set_cons_succ, List.set_cons_zero]
    rw [seq_nx (for_at (ds := ks.map fun k : Nat => D.int (k : Nat)) (h' := [some (.lst (M.map mD)), some (.lst st6), some (.lst (partsL t))]) rfl el)]
    simp only [ap_ifS, ap_asB, ap_bin, ap_app, ap_cons, ap_nil, ap_var, ap_cst, zzL, x_bind_ok, mb, l4, mn, aw, nw, x_isBl, x_bindS_ok]
    rfl
  · unfold trim
    rw [if_pos]
    · rfl
    · refine ⟨rfl, ?_⟩
      show (pureDs 1 (M.map mD) && true) = true
      rw [pM]; rfl
end
theorem body_ok {ns : List Int} (c : Int) {ms : List Th} (hm : ∀ u ∈ ms, u.Ok) (lm : ms.length ≤ 100) : ∃ (t : Th) (σ2 : Sl) (h2 : AH), t.Ok ∧ bodyT [some (.scr ns), some (.cell 0), some (.int c), none, none, none, none, none, none, none, none] [some (.lst (ms.map mD))] = .nx σ2 h2 ∧ trim 1 [2, 3, 4, 5, 6, 7, 8, 9, 10] σ2 h2 = .ok [some (.scr ns), some (.cell 0), none, none, none, none, none, none, none, none, none] [some (.lst ((ms ++ [t]).map mD))] := by
  obtain ⟨t, st1, e1, ok, hs1⟩ := c_lgood (Dr.one c)
  have e1 := calS_ok (n := 1) (k := 1) (h := [some (.lst (ms.map mD)), some (.lst [.int c])]) (st := [.int c]) (r := []) rfl rfl rfl rfl e1 (pure_parts 0 t) (dr_pure hs1)
  have e1 : calS 1 d__law_good [.cell 1] [some (.lst (ms.map mD)), some (.lst [.int c])] = .ok (.lst (partsL t)) [some (.lst (ms.map mD)), some (.lst st1)] := e1
  obtain ⟨σ2, h2, es, et⟩ := sp_ok (ns := ns) (c := c) ok (M := ms ++ [t]) hs1
  refine ⟨t, σ2, h2, ok, ?_, et⟩
  have gc : gLstC [.int c] [some (OB.lst (ms.map mD))] = .ok (.cell 1) [some (.lst (ms.map mD)), some (.lst [.int c])] := rfl
  have so := st_ok (ns := ns) (c := c) ok [some (.lst (ms.map mD)), some (.lst st1)]
  unfold stB at so
  unfold bodyT
  rw [seq_asg (i := 3) (d := .cell 1) (h' := [some (.lst (ms.map mD)), some (.lst [.int c])]) (by simp only [ap_app, ap_cons, ap_nil, ap_var, zzL, x_bind_ok, gc])]
  dsimp only [List.set_cons_succ, List.set_cons_zero]
  rw [seq_asg (i := 4) (d := .lst (partsL t)) (h' := [some (.lst (ms.map mD)), some (.lst st1)]) (by simp only [ap_app, ap_cons, ap_nil, ap_var, zzL, x_bind_ok, e1])]
  dsimp only [List.set_cons_succ, List.set_cons_zero]
  rw [seq_asg (i := 5) (d := thD t) (h' := [some (.lst (ms.map mD)), some (.lst st1)]) (by simp only [ap_app, ap_cons, ap_nil, ap_var, zzL, x_bind_ok, c_made_good ok])]
  dsimp only [List.set_cons_succ, List.set_cons_zero]
  have go : ∀ (k : SM) (out : SOut), k (slT ns c t (some (thD t)) (some (thD (thP t))) none none none none) [some (.lst (ms.map mD)), some (.lst st1)] = out → (seqS _ (seqS _ (seqS _ (seqS _ k)))) (slT ns c t (some (thD t)) none none none none none) [some (.lst (ms.map mD)), some (.lst st1)] = out := fun k out e => seq4 so e
  refine go _ _ ?_
  -- among those made ahead
  have cc : ccG [7, 8] (walkG (var 1)) (tgTup (tgCons (tgN 7) (tgCons (tgN 8) tgNil))) (asB (bin (gNot gEqD) (bin (gOwn "Thing" kt d_Thing_ZeqZ) (var 7) (var 5)) (bin (gEqOL EL false) (var 8) (var 4)))) (emE (cst (.int 1)) stepL) [] finL (slT ns c t (some (thD t)) (some (thD (thP t))) none none none none) [some (.lst (ms.map mD)), some (.lst st1)] = .ok (.lst []) [some (.lst (ms.map mD)), some (.lst st1)] := by
    have := ccG_list (vs := [7, 8]) (mi := walkG (var 1)) (t := tgTup (tgCons (tgN 7) (tgCons (tgN 8) tgNil))) (c := asB (bin (gNot gEqD) (bin (gOwn "Thing" kt d_Thing_ZeqZ) (var 7) (var 5)) (bin (gEqOL EL false) (var 8) (var 4)))) (e := cst (.int 1)) (σ := slT ns c t (some (thD t)) (some (thD (thP t))) none none none none) (h := [some (.lst (ms.map mD)), some (.lst st1)]) (fun _ => false) (xs := ms) (g := mD) (f := fun _ => .int 1) (G := fun h => h.get 0 = some (.lst (ms.map mD))) (walkG_cell (n := 0) rfl rfl) rfl (fun u hu => ⟨slT ns c t (some (thD t)) (some (thD (thP t))) (some (thD u)) (some (.lst (partsL u))) none none, rfl, by
      have o1 := fun h => ownT (hm u hu) ok h
      have l1 := fun h => lst_two u t h
      have v7 : ∀ h, var 7 (slT ns c t (some (thD t)) (some (thD (thP t))) (some (thD u)) (some (.lst (partsL u))) none none) h = .ok (thD u) h := fun _ => rfl
      have v8 : ∀ h, var 8 (slT ns c t (some (thD t)) (some (thD (thP t))) (some (thD u)) (some (.lst (partsL u))) none none) h = .ok (.lst (partsL u)) h := fun _ => rfl
      have v5 : ∀ h, var 5 (slT ns c t (some (thD t)) (some (thD (thP t))) (some (thD u)) (some (.lst (partsL u))) none none) h = .ok (thD t) h := fun _ => rfl
      have v4 : ∀ h, var 4 (slT ns c t (some (thD t)) (some (thD (thP t))) (some (thD u)) (some (.lst (partsL u))) none none) h = .ok (.lst (partsL t)) h := fun _ => rfl
      simp only [ap_asB, ap_bin, v7, v8, v5, v4, x_bind_ok, o1, l1, ne_bl, x_isBl], fun z => (by cases z)⟩) (by omega)
    rw [this, List.filter_eq_nil_iff.mpr (fun _ _ z => by cases z)]
    rfl
  have l0 : ∀ h, gLst [] h = .ok (.lst []) h := fun _ => rfl
  have n0 : ∀ h, gNot gEqD (.lst []) (.lst []) h = .ok (.bl false) h := fun h => o_neSelf h rfl rfl
  rw [seq_nx (σ' := slT ns c t (some (thD t)) (some (thD (thP t))) none none none none) (h' := [some (.lst (ms.map mD)), some (.lst st1)]) (by
    rw [ap_ifS, ap_asB, ap_bin, cc]
    simp only [x_bind_ok, ap_app, ap_nil, l0, n0, x_isBl, x_bindS_ok]
    rfl)]
  have g2 : ∀ (a b : D) (h : AH), gTup [a, b] h = .ok (.tup [a, b]) h := fun _ _ _ => rfl
  have il : isLst (.cell 0) [some (OB.lst (ms.map mD)), some (.lst st1)] = true := rfl
  have ga : gAppend (.cell 0) [.tup [thD t, .lst (partsL t)]] [some (OB.lst (ms.map mD)), some (.lst st1)] = .ok .non (hpT (ms ++ [t]) st1) := by
    show (if (ms.map mD).length < lim then Out.ok D.non [some (.lst (ms.map mD ++ [.tup [thD t, .lst (partsL t)]])), some (.lst st1)] else .bad) = _
    rw [if_pos (by rw [List.length_map]; unfold lim; omega)]
    show _ = Out.ok D.non [some (.lst ((ms ++ [t]).map mD)), some (.lst st1)]
    rw [List.map_append]
    rfl
  rw [seq_nx (σ' := slT ns c t (some (thD t)) (some (thD (thP t))) none none none none) (h' := hpT (ms ++ [t]) st1) (by simp only [zzA, zzP, zzL, il, g2, ga])]
  unfold spB at es
  exact es
theorem math (ns : List Int) (hl : ns.length ≤ 63) : ∃ h', d_law [.scr ns] [] = .ok (.bl true) h' := by
  have lc : (cutD ns none (some 10)).length ≤ 63 := by
    unfold cutD
    simp only [List.length_take, List.length_drop]
    omega
  have ew := law_walkH hl (σ := [some (.scr ns), some (.cell 0), none, none, none, none, none, none, none, none, none]) (h := [some (.lst [])]) (mr := consA (cst (.int 0)) (consA (cst (.int 1)) (consA (cst (.int 2)) nilA))) (pre := [0, 1, 2]) (k := 10) rfl rfl (by decide)
  obtain ⟨σ', h', el, ms, hm, lm, rfl, rfl⟩ := forGo_invT (tr := trim 1 [2, 3, 4, 5, 6, 7, 8, 9, 10]) (t := tgN 2) (m := bodyT) (fun k σ h => ∃ ms : List Th, (∀ u ∈ ms, u.Ok) ∧ ms.length = k ∧ σ = [some (.scr ns), some (.cell 0), none, none, none, none, none, none, none, none, none] ∧ h = [some (.lst (ms.map mD))]) ((([0, 1, 2] : List Int) ++ cutD ns none (some 10)).map .int) 0 (σ := [some (.scr ns), some (.cell 0), none, none, none, none, none, none, none, none, none]) (h := [some (.lst [])]) ⟨[], fun _ z => (by cases z), rfl, rfl, rfl⟩ (by
    rintro j d σ h hd ⟨ms, hm, lm, rfl, rfl⟩
    obtain ⟨c, _, rfl⟩ := List.mem_map.mp (List.mem_of_getElem? hd)
    have hj : j < ((([0, 1, 2] : List Int) ++ cutD ns none (some 10)).map D.int).length := (List.getElem?_eq_some_iff.mp hd).1
    rw [List.length_map, List.length_append] at hj
    have hj : j < 3 + (cutD ns none (some 10)).length := hj
    obtain ⟨t, σ2, h2, ok, e1, e2⟩ := body_ok (ns := ns) c hm (by omega)
    refine ⟨_, _, σ2, h2, _, _, rfl, .inl e1, e2, ms ++ [t], fun u hu => ?_, by rw [List.length_append, lm]; rfl, rfl, rfl⟩
    rcases List.mem_append.mp hu with z | z
    · exact hm u z
    · rw [List.mem_singleton.mp z]; exact ok)
  refine ⟨[], fn_rt0 (h' := [some (.lst (ms.map mD))]) ?_ rfl⟩
  show m_law [some (.scr ns), none, none, none, none, none, none, none, none, none, none] [] = _
  unfold m_law
  rw [seq_asg (i := 1) (d := .cell 0) (h' := [some (.lst [])]) rfl]
  dsimp only [List.set_cons_succ, List.set_cons_zero]
  unfold bodyT EL at el
  rw [seq_nx (σ' := [some (.scr ns), some (.cell 0), none, none, none, none, none, none, none, none, none]) (h' := [some (.lst (ms.map mD))])]
  · rfl
  · rw [ap_forT, ew, x_bindS_ok]
    exact el
end Lk02
open PySem PySem.W PySem.Calls PyProof.Rows
theorem PySem.Challenge.cw_wishshelf_k02_what_is_no_thing_holds : PySem.Challenge.rw_wishshelf_k02_what_is_no_thing.Holds := by
  w_on; o_law
  refine HandSHeadRun.head_any (r := OpenLaw.row PySem.Challenge.rw_wishshelf_k02_what_is_no_thing) (q := view (OpenLaw.row PySem.Challenge.rw_wishshelf_k02_what_is_no_thing).prog [27]) (H := Lk02.Hd.hk) (ob := Lk02.Hd.ob) (M := 8000) (loose := Lk02.Hd.loose) (d := HandSHeadRun.topDef (OpenLaw.row PySem.Challenge.rw_wishshelf_k02_what_is_no_thing).prog 27) (kwd := []) Lk02.Hd.ob_eq
    (by kernel_rfl) (fun s => by kernel_rfl) Lk02.Hd.run (by kernel_rfl) (by kernel_rfl) (by kernel_rfl) (by rfl) (by first | assumption | decide +kernel) (by decide +kernel) ⟨rfl, rfl, rfl, rfl, rfl, by decide +kernel⟩ ?hw ?hc
  case hw => w_witness2
  case hc =>
    refine L2.walk_ofE (l := PySem.Challenge.rw_wishshelf_k02_what_is_no_thing) (n := 63) (k := Lk02.lawDepth) (x := "_law_script") (CX := fun _ _ _ _ _ _ => False) rfl (by decide) (by kernel_rfl) ⟨rfl, by decide, by decide⟩ ?F (fun _ _ _ _ z => z)
    intro w mg fa h Y G hmg0
    obtain ⟨K, KX, c⟩ := Y
    have hmg : mg ("law" : PySem.Str) = some (.ref fa) := by
      have e : (HandSHeadRun.topDef (OpenLaw.row PySem.Challenge.rw_wishshelf_k02_what_is_no_thing).prog 27).name = ("law" : PySem.Str) := by kernel_rfl
      rw [← e]
      exact hmg0
    obtain ⟨fd, hb, hF⟩ := Lk02.law_fact (P := (PySem.Challenge.rw_wishshelf_k02_what_is_no_thing).prog) (w := w) KX G hmg c
    exact ⟨K, fd, _, KX, hb, fun H a ns hl _ hS => (let ⟨h', e⟩ := Lk02.math ns hl; Ws.spM_law (C := Lk02.CF (PySem.Challenge.rw_wishshelf_k02_what_is_no_thing).prog w K none) rfl hS e), fun base _ _ => hF base fun _ z => nomatch z⟩
