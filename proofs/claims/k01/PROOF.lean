import PyProof.Rows.All
import HandS.ForMost
import HandS.ForExc
import HandS.Defaults
import HandS.MakeKw
import HandS.MakeKwOnly
import HandS.HeadHook1
import HandS.HeadHook2
import HandS.CallSlots
import HandS.IsInst
import HandS.ExcInit
import HandS.ExcIs
import HandS.ExcField
import HandS.SetKeys
import HandS.DictComp
import HandS.Rev
import HandS.Zip
import HandS.Style
import HandS.TupAny
import HandS.OwnEq
import KE.GoesMore
import KE.GoesEnum
import HandS.Head0
import HandS.Head1
import HandS.Head2
import HandS.HeadEnd
import HandS.WordsExc
import PySem.Challenge.RW_wishshelf_k01_how_far_rules_aim
set_option Elab.async false
set_option linter.all false
set_option maxRecDepth 100000
/-! The second layer: a def's body as a plain function over data. D: data; owned things (lists, dicts, instances that change) stand in cells. -/
namespace Ws
open PySem L2

/-! ### data -/
inductive D where
  | non | bl (b : Bool) | int (i : Int) | str (x : Str) | ty (n : String) | glo (x : Str)
  | tup (xs : List D) | lst (xs : List D) | dct (kvs : List (D × D)) | dcT (kvs : List (D × D)) | ins (c : Str) (fs : List (Str × D))
  | set (xs : List D) | scr (ns : List Int) | cell (n : Nat) | exn (c : Str) (fs : List (Str × D))
/-- what a cell holds -/
inductive OB where
  | lst (xs : List D) | dct (kvs : List (D × D)) | dcT (kvs : List (D × D)) | ins (c : Str) (fs : List (Str × D)) | set (xs : List D)
abbrev AH := List (Option OB)
def AH.get (h : AH) (n : Nat) : Option OB := (h[n]?).getD none
abbrev Sl := List (Option D)
structure Exc where
  c : Str
  fs : List (Str × D)
inductive Out (α : Type) where
  | ok (a : α) (h : AH) | exc (x : Exc) (h : AH) | bad

/-! ### how data stand in the heap -/
/-- cells' addresses; the exception of the suite: its address, its class, its dict -/
structure Rho where
  c : Nat → Option Addr
  x : Option (Addr × Str × Option Addr)
/-- K: the written part; F: the part of the heap that stays -/
structure Cf where
  P : Program
  w : World
  K : PySem.W.Frag

def keyD : Key → D
  | .inl i => .int i
  | .inr x => .str x

mutual
def R (C : Cf) (F : Hp) (ρ : Rho) : D → V → Prop
  | .non, v => v = .non
  | .bl b, v => v = .bl b
  | .int i, v => v = .int i
  | .str x, v => v = .str x
  | .ty n, v => v = .ty n
  | .glo x, v => v = .ref (He.ga C.K x)
  | .tup xs, v => ∃ a ys, v = .ref a ∧ F a = some (.tup ys) ∧ Rs C F ρ xs ys
  | .lst xs, v => ∃ a ys, v = .ref a ∧ F a = some (.lst ys) ∧ Rs C F ρ xs ys
  | .dct kvs, v => ∃ a o ks, v = .ref a ∧ F a = some (.frz o (.dK ks)) ∧ Rk C F ρ kvs ks
  | .dcT kvs, v => ∃ a o ks, v = .ref a ∧ F a = some (.frz o (.dT ks)) ∧ Rt C F ρ kvs ks
  | .ins c fs, v => ∃ a dx gs, v = .ref a ∧ F a = some (.ins (He.ga C.K c) dx gs) ∧ Rf C F ρ fs gs
  | .set xs, v => ∃ (a : Addr) (ks : List Key), v = .ref a ∧ F a = some (SetK C.P C.w a (fun k => ks.any fun j => decide (k = j)) ks.length) ∧ ks.Nodup ∧ xs = ks.map keyD
  | .scr ns, v => ∃ a, v = .ref a ∧ SqL C.K F a (ns.map V.int)
  | .cell n, v => ∃ a, v = .ref a ∧ ρ.c n = some a
  | .exn c fs, v => ∃ a od, v = .ref a ∧ ρ.x = some (a, c, od) ∧ ((od = none ∧ fs = []) ∨ ∃ d gs, od = some d ∧ F d = some (.xd gs) ∧ Rf C F ρ fs gs)
def Rs (C : Cf) (F : Hp) (ρ : Rho) : List D → List V → Prop
  | [], vs => vs = []
  | d :: ds, vs => ∃ v r, vs = v :: r ∧ R C F ρ d v ∧ Rs C F ρ ds r
def Rf (C : Cf) (F : Hp) (ρ : Rho) : List (Str × D) → List (Str × V) → Prop
  | [], vs => vs = []
  | (x, d) :: ds, vs => ∃ v r, vs = (x, v) :: r ∧ R C F ρ d v ∧ Rf C F ρ ds r
/-- a dict by ints and texts -/
def Rk (C : Cf) (F : Hp) (ρ : Rho) : List (D × D) → List (Key × V) → Prop
  | [], vs => vs = []
  | (k, d) :: ds, vs => ∃ key v r, vs = (key, v) :: r ∧ k = keyD key ∧ R C F ρ d v ∧ Rk C F ρ ds r
/-- a dict by tuples -/
def Rt (C : Cf) (F : Hp) (ρ : Rho) : List (D × D) → List (List Key × V) → Prop
  | [], vs => vs = []
  | (k, d) :: ds, vs => ∃ key v r, vs = (key, v) :: r ∧ k = .tup (key.map keyD) ∧ R C F ρ d v ∧ Rt C F ρ ds r
end

def Sub (F F' : Hp) : Prop := ∀ a o, F a = some o → F' a = some o
theorem Sub.refl (F : Hp) : Sub F F := fun _ _ h => h
theorem Sub.trans {F G H : Hp} (a : Sub F G) (b : Sub G H) : Sub F H := fun x o h => b x o (a x o h)
structure RSub (ρ ρ' : Rho) : Prop where
  c : ∀ n a, ρ.c n = some a → ρ'.c n = some a
  x : ρ'.x = ρ.x
theorem RSub.refl (ρ : Rho) : RSub ρ ρ := ⟨fun _ _ h => h, rfl⟩
theorem RSub.trans {a b c : Rho} (h : RSub a b) (k : RSub b c) : RSub a c := ⟨fun n x e => k.c n x (h.c n x e), k.x.trans h.x⟩
theorem Sub.sqL {K : PySem.W.Frag} {F F' : Hp} {a : Addr} {xs : List V} (s : Sub F F') (h : SqL K F a xs) : SqL K F' a xs := Same.seq s h

mutual
theorem R.mono {C : Cf} {F F' : Hp} {ρ ρ' : Rho} (s : Sub F F') (r : RSub ρ ρ') : ∀ {d : D} {v : V}, R C F ρ d v → R C F' ρ' d v
  | .non, _, h | .bl _, _, h | .int _, _, h | .str _, _, h | .ty _, _, h | .glo _, _, h => by unfold R at h ⊢; exact h
  | .tup _, _, h => by unfold R at h ⊢; obtain ⟨a, ys, e, f, q⟩ := h; exact ⟨a, ys, e, s _ _ f, Rs.mono s r q⟩
  | .lst _, _, h => by unfold R at h ⊢; obtain ⟨a, ys, e, f, q⟩ := h; exact ⟨a, ys, e, s _ _ f, Rs.mono s r q⟩
  | .dct _, _, h => by unfold R at h ⊢; obtain ⟨a, o, ks, e, f, q⟩ := h; exact ⟨a, o, ks, e, s _ _ f, Rk.mono s r q⟩
  | .dcT _, _, h => by unfold R at h ⊢; obtain ⟨a, o, ks, e, f, q⟩ := h; exact ⟨a, o, ks, e, s _ _ f, Rt.mono s r q⟩
  | .ins _ _, _, h => by unfold R at h ⊢; obtain ⟨a, dx, gs, e, f, q⟩ := h; exact ⟨a, dx, gs, e, s _ _ f, Rf.mono s r q⟩
  | .set _, _, h => by unfold R at h ⊢; obtain ⟨a, ks, e, f, q⟩ := h; exact ⟨a, ks, e, s _ _ f, q⟩
  | .scr _, _, h => by unfold R at h ⊢; obtain ⟨a, e, f⟩ := h; exact ⟨a, e, s.sqL f⟩
  | .cell n, _, h => by unfold R at h ⊢; obtain ⟨a, e, f⟩ := h; exact ⟨a, e, r.c n a f⟩
  | .exn _ _, _, h => by
    unfold R at h ⊢
    obtain ⟨a, od, e, f, z⟩ := h
    refine ⟨a, od, e, r.x.trans f, ?_⟩
    rcases z with z | ⟨d, gs, e1, e2, q⟩
    · exact .inl z
    · exact .inr ⟨d, gs, e1, s _ _ e2, Rf.mono s r q⟩
theorem Rs.mono {C : Cf} {F F' : Hp} {ρ ρ' : Rho} (s : Sub F F') (r : RSub ρ ρ') : ∀ {d : List D} {v : List V}, Rs C F ρ d v → Rs C F' ρ' d v
  | [], _, h => by unfold Rs at h ⊢; exact h
  | _ :: _, _, h => by unfold Rs at h ⊢; obtain ⟨v, t, e, a, b⟩ := h; exact ⟨v, t, e, R.mono s r a, Rs.mono s r b⟩
theorem Rf.mono {C : Cf} {F F' : Hp} {ρ ρ' : Rho} (s : Sub F F') (r : RSub ρ ρ') : ∀ {d : List (Str × D)} {v : List (Str × V)}, Rf C F ρ d v → Rf C F' ρ' d v
  | [], _, h => by unfold Rf at h ⊢; exact h
  | (_, _) :: _, _, h => by unfold Rf at h ⊢; obtain ⟨v, t, e, a, b⟩ := h; exact ⟨v, t, e, R.mono s r a, Rf.mono s r b⟩
theorem Rk.mono {C : Cf} {F F' : Hp} {ρ ρ' : Rho} (s : Sub F F') (r : RSub ρ ρ') : ∀ {d : List (D × D)} {v : List (Key × V)}, Rk C F ρ d v → Rk C F' ρ' d v
  | [], _, h => by unfold Rk at h ⊢; exact h
  | (_, _) :: _, _, h => by unfold Rk at h ⊢; obtain ⟨k, v, t, e, ek, a, b⟩ := h; exact ⟨k, v, t, e, ek, R.mono s r a, Rk.mono s r b⟩
theorem Rt.mono {C : Cf} {F F' : Hp} {ρ ρ' : Rho} (s : Sub F F') (r : RSub ρ ρ') : ∀ {d : List (D × D)} {v : List (List Key × V)}, Rt C F ρ d v → Rt C F' ρ' d v
  | [], _, h => by unfold Rt at h ⊢; exact h
  | (_, _) :: _, _, h => by unfold Rt at h ⊢; obtain ⟨k, v, t, e, ek, a, b⟩ := h; exact ⟨k, v, t, e, ek, R.mono s r a, Rt.mono s r b⟩
end
end Ws

set_option Elab.async false
set_option linter.all false
set_option maxRecDepth 100000
namespace Ws
open PySem L2
/-! ### states -/
structure Sx where
  F : Hp
  ρ : Rho
  H : Hp
  ah : AH
def OR (C : Cf) (F : Hp) (ρ : Rho) (H : Hp) (a : Addr) : OB → Prop
  | .lst xs => ∃ ys, H a = some (.lst ys) ∧ Rs C F ρ xs ys
  | .dct kvs => ∃ ks, H a = some (.dK ks) ∧ Rk C F ρ kvs ks
  | .dcT kvs => ∃ ks, H a = some (.dT ks) ∧ Rt C F ρ kvs ks
  | .ins c fs => ∃ dx gs, H a = some (.ins (He.ga C.K c) dx gs) ∧ Rf C F ρ fs gs
  | .set xs => ∃ (ks : List Key), H a = some (SetK C.P C.w a (fun k => ks.any fun j => decide (k = j)) ks.length) ∧ ks.Nodup ∧ xs = ks.map keyD
theorem OR.mono {C : Cf} {F F' : Hp} {ρ ρ' : Rho} {H H' : Hp} {a : Addr} {ob : OB} (s : Sub F F') (r : RSub ρ ρ') (e : H' a = H a) (h : OR C F ρ H a ob) : OR C F' ρ' H' a ob := by
  cases ob with
  | lst xs => obtain ⟨ys, q, z⟩ := h; exact ⟨ys, e.trans q, Rs.mono s r z⟩
  | dct kvs => obtain ⟨ks, q, z⟩ := h; exact ⟨ks, e.trans q, Rk.mono s r z⟩
  | dcT kvs => obtain ⟨ks, q, z⟩ := h; exact ⟨ks, e.trans q, Rt.mono s r z⟩
  | ins c fs => obtain ⟨dx, gs, q, z⟩ := h; exact ⟨dx, gs, e.trans q, Rf.mono s r z⟩
  | set xs => obtain ⟨ks, q, z⟩ := h; exact ⟨ks, e.trans q, z⟩
theorem OR.notTup {C : Cf} {F : Hp} {ρ : Rho} {H : Hp} {a : Addr} {ob : OB} (h : OR C F ρ H a ob) {ys : List V} (e : H a = some (.tup ys)) : False := by
  cases ob with
  | lst xs => obtain ⟨_, q, z⟩ := h; rw [e] at q; cases q
  | dct kvs => obtain ⟨ks, q, z⟩ := h; rw [e] at q; cases q
  | dcT kvs => obtain ⟨ks, q, z⟩ := h; rw [e] at q; cases q
  | ins c fs => obtain ⟨dx, gs, q, z⟩ := h; rw [e] at q; cases q
  | set xs => obtain ⟨ks, q, z⟩ := h; rw [e] at q; have q' : HO.tup ys = HO.ext _ := Option.some.inj q; cases q'
theorem OR.there {C : Cf} {F : Hp} {ρ : Rho} {H : Hp} {a : Addr} {ob : OB} (h : OR C F ρ H a ob) : ∃ o, H a = some o := by
  cases ob with
  | lst xs => obtain ⟨ys, q, z⟩ := h; exact ⟨_, q⟩
  | dct kvs => obtain ⟨ks, q, z⟩ := h; exact ⟨_, q⟩
  | dcT kvs => obtain ⟨ks, q, z⟩ := h; exact ⟨_, q⟩
  | ins c fs => obtain ⟨dx, gs, q, z⟩ := h; exact ⟨_, q⟩
  | set xs => obtain ⟨ks, q, z⟩ := h; exact ⟨_, q⟩
structure Good (C : Cf) (s : Sx) : Prop where
  sub : Sub s.F s.H
  tups : ∀ a ys, s.H a = some (.tup ys) → s.F a = some (.tup ys)
  own : ∀ n ob, s.ah.get n = some ob → ∃ a, s.ρ.c n = some a ∧ s.F a = none ∧ OR C s.F s.ρ s.H a ob
  inj : ∀ n m a, s.ah.get n ≠ none → s.ah.get m ≠ none → s.ρ.c n = some a → s.ρ.c m = some a → n = m
  dom : ∀ n, s.ah.length ≤ n → s.ρ.c n = none
structure Fwd (s s' : Sx) : Prop where
  sub : Sub s.F s'.F
  rho : RSub s.ρ s'.ρ
  frame : ∀ a o, s.H a = some o → (∀ n, s.ρ.c n = some a → s.ah.get n = none) → s'.H a = some o
  fresh : ∀ n a, s'.ρ.c n = some a → s'.ah.get n ≠ none → (s.ρ.c n = some a ∧ s.ah.get n ≠ none) ∨ s.H a = none
  there : ∀ a o, s.H a = some o → ∃ o', s'.H a = some o'
  still : ∀ a o, s'.F a = some o → s.F a = some o ∨ s.H a = none ∨ ∃ n, s.ρ.c n = some a ∧ s.ah.get n ≠ none
theorem Fwd.refl (s : Sx) : Fwd s s := ⟨.refl _, .refl _, fun _ _ h _ => h, fun _ _ h k => .inl ⟨h, k⟩, fun _ o h => ⟨o, h⟩, fun _ _ h => .inl h⟩
theorem Fwd.trans {s t u : Sx} (a : Fwd s t) (b : Fwd t u) : Fwd s u where
  sub := a.sub.trans b.sub
  rho := a.rho.trans b.rho
  frame := fun x o h k => b.frame x o (a.frame x o h k) fun n e => by
    cases q : t.ah.get n with
    | none => rfl
    | some ob =>
      rcases a.fresh n x e (by rw [q]; exact fun z => nomatch z) with ⟨z1, z2⟩ | z
      · exact absurd (k n z1) z2
      · rw [h] at z; cases z
  fresh := fun n x e k => by
    rcases b.fresh n x e k with ⟨z1, z2⟩ | z
    · exact a.fresh n x z1 z2
    · refine .inr ?_
      cases q : s.H x with
      | none => rfl
      | some o =>
        obtain ⟨o', z'⟩ := a.there x o q
        rw [z] at z'; cases z'
  there := fun x o h => by
    obtain ⟨o', z⟩ := a.there x o h
    exact b.there x o' z
  still := fun x o h => by
    rcases b.still x o h with z | z | ⟨n, z1, z2⟩
    · exact a.still x o z
    · refine .inr (.inl ?_)
      cases q : s.H x with
      | none => rfl
      | some o =>
        obtain ⟨o', z'⟩ := a.there x o q
        rw [z] at z'; cases z'
    · rcases a.fresh n x z1 z2 with ⟨y1, y2⟩ | y
      · exact .inr (.inr ⟨n, y1, y2⟩)
      · exact .inr (.inl y)
def RS (C : Cf) (s : Sx) (σ : St) (dσ : Sl) : Prop := σ.length = dσ.length ∧ ∀ (i : Nat) (d : D), dσ[i]? = some (some d) → ∃ v : V, σ[i]? = some (some v) ∧ R C s.F s.ρ d v
theorem R.fwd {C : Cf} {s s' : Sx} {d : D} {v : V} (f : Fwd s s') (h : R C s.F s.ρ d v) : R C s'.F s'.ρ d v := R.mono f.sub f.rho h
theorem Rs.fwd {C : Cf} {s s' : Sx} {d : List D} {v : List V} (f : Fwd s s') (h : Rs C s.F s.ρ d v) : Rs C s'.F s'.ρ d v := Rs.mono f.sub f.rho h
theorem RS.fwd {C : Cf} {s s' : Sx} {σ : St} {dσ : Sl} (f : Fwd s s') (h : RS C s σ dσ) : RS C s' σ dσ := ⟨h.1, fun i d e => let ⟨v, a, b⟩ := h.2 i d e; ⟨v, a, b.fwd f⟩⟩
theorem RS.set {C : Cf} {s : Sx} {σ : St} {dσ : Sl} {i : Nat} {d : D} {v : V} (h : RS C s σ dσ) (r : R C s.F s.ρ d v) : RS C s (σ.set i (some v)) (dσ.set i (some d)) := by
  refine ⟨by simp [h.1], fun j d' e => ?_⟩
  rw [List.getElem?_set] at e ⊢
  by_cases hj : i = j
  · rw [if_pos hj] at e ⊢
    split at e
    · rename_i hlt
      cases e
      exact ⟨v, by rw [if_pos (by rw [h.1]; exact hlt)], r⟩
    · cases e
  · rw [if_neg hj] at e ⊢
    exact h.2 j d' e
theorem RS.unset {C : Cf} {s : Sx} {σ : St} {dσ : Sl} {i : Nat} (h : RS C s σ dσ) : RS C s (σ.set i none) (dσ.set i none) := by
  refine ⟨by simp [h.1], fun j d' e => ?_⟩
  rw [List.getElem?_set] at e ⊢
  by_cases hj : i = j
  · rw [if_pos hj] at e
    split at e <;> cases e
  · rw [if_neg hj] at e ⊢
    exact h.2 j d' e

/-! ### new things -/
/-- a thing that stays -/
def Sx.frz (s : Sx) (p : Addr) (o : HO) : Sx := { s with F := upd s.F p o, H := upd s.H p o }
theorem Good.notF {C : Cf} {s : Sx} (g : Good C s) {p : Addr} (h : s.H p = none) : s.F p = none := by
  cases q : s.F p with
  | none => rfl
  | some o => rw [g.sub p o q] at h; cases h
theorem Good.notC {C : Cf} {s : Sx} (g : Good C s) {p : Addr} (h : s.H p = none) {n : Nat} (e : s.ρ.c n = some p) : s.ah.get n = none := by
  cases q : s.ah.get n with
  | none => rfl
  | some ob =>
    obtain ⟨a, e1, _, o⟩ := g.own n ob q
    rw [e] at e1; cases e1
    obtain ⟨o', z⟩ := o.there
    rw [h] at z; cases z
theorem Sub.upd' {F : Hp} {p : Addr} {o : HO} (h : F p = none) : Sub F (upd F p o) := fun a u e => by
  rw [upd_ne (ne_of_none e h)]; exact e
theorem Good.frz {C : Cf} {s : Sx} (g : Good C s) {p : Addr} {o : HO} (h : s.H p = none) : Good C (s.frz p o) where
  sub := fun a u e => by
    by_cases hp : a = p
    · subst hp; rw [show (s.frz a o).F a = _ from upd_same] at e; rw [show (s.frz a o).H a = _ from upd_same]; exact e
    · rw [show (s.frz p o).F a = _ from upd_ne hp] at e; rw [show (s.frz p o).H a = _ from upd_ne hp]; exact g.sub a u e
  tups := fun a ys e => by
    by_cases hp : a = p
    · subst hp; rw [show (s.frz a o).H a = _ from upd_same] at e; rw [show (s.frz a o).F a = _ from upd_same]; exact e
    · rw [show (s.frz p o).H a = _ from upd_ne hp] at e; rw [show (s.frz p o).F a = _ from upd_ne hp]; exact g.tups a ys e
  own := fun n ob e => by
    obtain ⟨a, e1, e2, e3⟩ := g.own n ob e
    obtain ⟨o', z⟩ := e3.there
    have ne : a ≠ p := ne_of_none z h
    exact ⟨a, e1, (show (s.frz p o).F a = none by rw [show (s.frz p o).F a = _ from upd_ne ne]; exact e2), e3.mono (Sub.upd' (g.notF h)) (.refl _) (show (s.frz p o).H a = s.H a from upd_ne ne)⟩
  inj := g.inj
  dom := g.dom
theorem Fwd.frz {C : Cf} {s : Sx} (g : Good C s) {p : Addr} {o : HO} (h : s.H p = none) : Fwd s (s.frz p o) :=
  ⟨Sub.upd' (g.notF h), .refl _, fun a u e _ => by rw [show (s.frz p o).H a = _ from upd_ne (ne_of_none e h)]; exact e, fun _ _ e k => .inl ⟨e, k⟩, fun a u e => ⟨u, by rw [show (s.frz p o).H a = _ from upd_ne (ne_of_none e h)]; exact e⟩, fun a u e => by
    by_cases hp : a = p
    · subst hp; exact .inr (.inl h)
    · rw [show (s.frz p o).F a = _ from upd_ne hp] at e; exact .inl e⟩
/-- a new cell -/
def Rho.put (ρ : Rho) (n : Nat) (p : Addr) : Rho := { ρ with c := fun k => if k = n then some p else ρ.c k }
def Sx.own (s : Sx) (p : Addr) (o : HO) (ob : OB) : Sx := { F := s.F, ρ := s.ρ.put s.ah.length p, H := upd s.H p o, ah := s.ah ++ [some ob] }
theorem AH.get_push (h : AH) (o : Option OB) (n : Nat) : AH.get (h ++ [o]) n = if n = h.length then o else AH.get h n := by
  unfold AH.get
  by_cases e : n = h.length
  · subst e; simp
  · rw [if_neg e]
    by_cases l : n < h.length
    · rw [List.getElem?_append_left l]
    · have l2 : h.length + 1 ≤ n := by omega
      rw [List.getElem?_eq_none (by simp; omega), List.getElem?_eq_none (by omega)]
theorem AH.get_len (h : AH) {n : Nat} (e : h.length ≤ n) : AH.get h n = none := by
  unfold AH.get; rw [List.getElem?_eq_none e]; rfl
theorem RSub.put {ρ : Rho} {n : Nat} {p : Addr} (h : ρ.c n = none) : RSub ρ (ρ.put n p) := ⟨fun k a e => by
  unfold Rho.put
  by_cases q : k = n
  · subst q; rw [h] at e; cases e
  · simp only [if_neg q]; exact e, rfl⟩
theorem Good.ownD {C : Cf} {s : Sx} (g : Good C s) {p : Addr} {o : HO} {ob : OB} (h : s.H p = none) (r : OR C s.F (s.ρ.put s.ah.length p) (upd s.H p o) p ob) : Good C (s.own p o ob) where
  sub := fun a u e => by
    have e' : s.F a = some u := e
    show upd s.H p o a = _
    rw [upd_ne (ne_of_none e' (g.notF h))]; exact g.sub a u e'
  tups := fun a ys e => by
    have e' : upd s.H p o a = some (.tup ys) := e
    by_cases hp : a = p
    · subst hp; exact (r.notTup e').elim
    · rw [upd_ne hp] at e'; exact g.tups a ys e'
  own := fun n x e => by
    have e' : AH.get (s.ah ++ [some ob]) n = some x := e
    rw [AH.get_push] at e'
    by_cases q : n = s.ah.length
    · rw [if_pos q] at e'
      cases e'
      subst q
      exact ⟨p, show (if s.ah.length = s.ah.length then some p else s.ρ.c s.ah.length) = some p from if_pos rfl, g.notF h, r⟩
    · rw [if_neg q] at e'
      obtain ⟨a, e1, e2, e3⟩ := g.own n x e'
      obtain ⟨o', z⟩ := e3.there
      exact ⟨a, show (if n = s.ah.length then some p else s.ρ.c n) = some a by rw [if_neg q]; exact e1, e2, e3.mono (.refl _) (RSub.put (g.dom _ (Nat.le_refl _))) (show upd s.H p o a = s.H a from upd_ne (ne_of_none z h))⟩
  inj := fun n m a k1 k2 e1 e2 => by
    have k1' : AH.get (s.ah ++ [some ob]) n ≠ none := k1
    have k2' : AH.get (s.ah ++ [some ob]) m ≠ none := k2
    rw [AH.get_push] at k1' k2'
    have e1' : (if n = s.ah.length then some p else s.ρ.c n) = some a := e1
    have e2' : (if m = s.ah.length then some p else s.ρ.c m) = some a := e2
    by_cases q1 : n = s.ah.length
    · by_cases q2 : m = s.ah.length
      · rw [q1, q2]
      · rw [if_pos q1] at e1'; rw [if_neg q2] at e2' k2'
        cases e1'
        exact absurd (g.notC h e2') k2'
    · by_cases q2 : m = s.ah.length
      · rw [if_neg q1] at e1' k1'; rw [if_pos q2] at e2'
        cases e2'
        exact absurd (g.notC h e1') k1'
      · rw [if_neg q1] at e1' k1'; rw [if_neg q2] at e2' k2'
        exact g.inj n m a k1' k2' e1' e2'
  dom := fun n e => by
    have e' : (s.ah ++ [some ob]).length ≤ n := e
    simp at e'
    show (if n = s.ah.length then some p else s.ρ.c n) = none
    rw [if_neg (by omega)]
    exact g.dom n (by omega)
theorem Fwd.ownD {C : Cf} {s : Sx} (g : Good C s) {p : Addr} {o : HO} {ob : OB} (h : s.H p = none) : Fwd s (s.own p o ob) where
  sub := .refl _
  rho := RSub.put (g.dom _ (Nat.le_refl _))
  frame := fun a u e _ => by show upd s.H p o a = _; rw [upd_ne (ne_of_none e h)]; exact e
  fresh := fun n a e k => by
    have e' : (if n = s.ah.length then some p else s.ρ.c n) = some a := e
    have k' : AH.get (s.ah ++ [some ob]) n ≠ none := k
    rw [AH.get_push] at k'
    by_cases q : n = s.ah.length
    · rw [if_pos q] at e'; cases e'; exact .inr h
    · rw [if_neg q] at e' k'; exact .inl ⟨e', k'⟩
  there := fun a u e => ⟨u, by show upd s.H p o a = _; rw [upd_ne (ne_of_none e h)]; exact e⟩
  still := fun _ _ e => .inl e
/-- a cell is written -/
def AH.put (h : AH) (n : Nat) (ob : OB) : AH := h.set n (some ob)
def Sx.wr (s : Sx) (n : Nat) (a : Addr) (o : HO) (ob : OB) : Sx := { s with H := upd s.H a o, ah := s.ah.put n ob }
theorem AH.get_lt {h : AH} {n : Nat} {ob : OB} (e : h.get n = some ob) : n < h.length := by
  by_cases l : n < h.length
  · exact l
  · rw [AH.get_len h (by omega)] at e; cases e
theorem AH.get_put {h : AH} {n m : Nat} {ob : OB} (l : n < h.length) : AH.get (h.put n ob) m = if m = n then some ob else h.get m := by
  unfold AH.get AH.put
  rw [List.getElem?_set]
  by_cases e : n = m
  · subst e; simp [l]
  · rw [if_neg e, if_neg (Ne.symm e)]
theorem Good.wr {C : Cf} {s : Sx} (g : Good C s) {n : Nat} {a : Addr} {o : HO} {ob ob' : OB} (e : s.ah.get n = some ob') (ea : s.ρ.c n = some a) (r : OR C s.F s.ρ (upd s.H a o) a ob) : Good C (s.wr n a o ob) where
  sub := fun b u q => by
    obtain ⟨a', e1, e2, _⟩ := g.own n ob' e
    rw [ea] at e1; cases e1
    have q' : s.F b = some u := q
    show upd s.H a o b = _
    rw [upd_ne (ne_of_none q' e2)]; exact g.sub b u q'
  tups := fun b ys q => by
    have q' : upd s.H a o b = some (.tup ys) := q
    by_cases hb : b = a
    · subst hb; exact (r.notTup q').elim
    · rw [upd_ne hb] at q'; exact g.tups b ys q'
  own := fun m x q => by
    have q' : AH.get (s.ah.put n ob) m = some x := q
    rw [AH.get_put (AH.get_lt e)] at q'
    by_cases hm : m = n
    · subst hm
      rw [if_pos rfl] at q'; cases q'
      obtain ⟨a', e1, e2, _⟩ := g.own m ob' e
      rw [ea] at e1; cases e1
      exact ⟨a, ea, e2, r⟩
    · rw [if_neg hm] at q'
      obtain ⟨b, e1, e2, e3⟩ := g.own m x q'
      have ne : b ≠ a := fun z => by
        subst z
        exact hm (g.inj m n b (by rw [q']; exact fun z => nomatch z) (by rw [e]; exact fun z => nomatch z) e1 ea)
      exact ⟨b, e1, e2, e3.mono (.refl _) (.refl _) (show upd s.H a o b = s.H b from upd_ne ne)⟩
  inj := fun m k b k1 k2 => by
    have k1' : AH.get (s.ah.put n ob) m ≠ none := k1
    have k2' : AH.get (s.ah.put n ob) k ≠ none := k2
    rw [AH.get_put (AH.get_lt e)] at k1' k2'
    refine g.inj m k b ?_ ?_
    · by_cases hm : m = n
      · rw [hm, e]; exact fun z => nomatch z
      · rw [if_neg hm] at k1'; exact k1'
    · by_cases hm : k = n
      · rw [hm, e]; exact fun z => nomatch z
      · rw [if_neg hm] at k2'; exact k2'
  dom := fun m q => g.dom m (by simpa [Sx.wr, AH.put] using q)
theorem Fwd.wr {C : Cf} {s : Sx} (g : Good C s) {n : Nat} {a : Addr} {o : HO} {ob ob' : OB} (e : s.ah.get n = some ob') (ea : s.ρ.c n = some a) : Fwd s (s.wr n a o ob) where
  sub := .refl _
  rho := .refl _
  frame := fun b u q k => by
    show upd s.H a o b = _
    rw [upd_ne (fun z => by subst z; rw [k n ea] at e; cases e)]; exact q
  fresh := fun m b q k => by
    refine .inl ⟨q, ?_⟩
    have k' : AH.get (s.ah.put n ob) m ≠ none := k
    rw [AH.get_put (AH.get_lt e)] at k'
    by_cases hm : m = n
    · rw [hm, e]; exact fun z => nomatch z
    · rw [if_neg hm] at k'; exact k'
  there := fun b u q => by
    by_cases hb : b = a
    · exact ⟨o, by rw [hb]; exact upd_same⟩
    · exact ⟨u, by show upd s.H a o b = _; rw [upd_ne hb]; exact q⟩
  still := fun _ _ e => .inl e
end Ws

set_option Elab.async false
set_option linter.all false
set_option maxRecDepth 100000
namespace Ws
open PySem L2
/-! ### what is reckoned, and what it says of the machine -/
abbrev M (α : Type) := Sl → AH → Out α
def Out.bind {α β : Type} (o : Out α) (k : α → AH → Out β) : Out β := match o with
  | .ok a h => k a h
  | .exc x h => .exc x h
  | .bad => .bad
@[simp] theorem Out.bind_ok {α β : Type} (a : α) (h : AH) (k : α → AH → Out β) : (Out.ok a h).bind k = k a h := rfl
@[simp] theorem Out.bind_exc {α β : Type} (x : Exc) (h : AH) (k : α → AH → Out β) : (Out.exc x h).bind k = .exc x h := rfl
@[simp] theorem Out.bind_bad {α β : Type} (k : α → AH → Out β) : (Out.bad : Out α).bind k = .bad := rfl
def XR (C : Cf) (s : Sx) (x : Exc) (od : Option Addr) : Prop := (od = none ∧ x.fs = []) ∨ ∃ d gs, od = some d ∧ s.F d = some (.xd gs) ∧ Rf C s.F s.ρ x.fs gs
abbrev Rl (α β : Type) := Sx → α → β → Prop
abbrev rD (C : Cf) : Rl D V := fun s d v => R C s.F s.ρ d v
abbrev rDs (C : Cf) : Rl (List D) (List V) := fun s d v => Rs C s.F s.ρ d v
abbrev rB : Rl Bool Bool := fun _ a b => a = b
section
variable {α β γ δ : Type}
def Post (C : Cf) (W : WX) (σ : St) (rl : Rl α β) (s : Sx) (Q : β → Hp → Prop) : Out α → Prop
  | .ok d h => ∀ s' v, s'.ah = h → Fwd s s' → Good C s' → rl s' d v → Q v s'.H
  | .exc x h => ∀ s' od, s'.ah = h → Fwd s s' → Good C s' → XR C s' x od → W (.ref (He.ga C.K x.c)) od σ s'.H
  | .bad => False
/-- the reading of what reckons m -/
def tG (C : Cf) (ε : Option (Addr × Str × Option Addr)) (W : WX) (rl : Rl α β) (m : M α) : St → Hp → (β → Hp → Prop) → Prop := fun σ H Q =>
  ∃ s dσ, s.H = H ∧ s.ρ.x = ε ∧ Good C s ∧ RS C s σ dσ ∧ Post C W σ rl s Q (m dσ s.ah)
variable {C : Cf} {ε : Option (Addr × Str × Option Addr)} {W : WX} {σ : St}
theorem Post.fwd {rl : Rl α β} {s s' : Sx} {Q : β → Hp → Prop} {o : Out α} (f : Fwd s s') (h : Post C W σ rl s Q o) : Post C W σ rl s' Q o := by
  cases o with
  | ok d h' => exact fun t v e g k r => h t v e (f.trans g) k r
  | exc x h' => exact fun t od e g k r => h t od e (f.trans g) k r
  | bad => exact h
/-- the value as it stands -/
theorem Post.here {rl : Rl α β} {s : Sx} {Q : β → Hp → Prop} {d : α} {v : β} (g : Good C s) (h : Post C W σ rl s Q (.ok d s.ah)) (r : rl s d v) : Q v s.H := h s v rfl (.refl s) g r
theorem tG.mk {rl : Rl α β} {m : M α} {s : Sx} {dσ : Sl} {Q : β → Hp → Prop} (ex : s.ρ.x = ε) (g : Good C s) (rs : RS C s σ dσ) (h : Post C W σ rl s Q (m dσ s.ah)) : tG C ε W rl m σ s.H Q := ⟨s, dσ, rfl, ex, g, rs, h⟩
/-- one behind another -/
theorem Post.bind {r1 : Rl α β} {r2 : Rl γ δ} {m : M α} {k : α → AH → Out γ} {s : Sx} {dσ : Sl} {Q : δ → Hp → Prop} {T : β → Hp → Prop} (ex : s.ρ.x = ε) (g : Good C s) (rs : RS C s σ dσ)
    (h : Post C W σ r2 s Q ((m dσ s.ah).bind k)) (hk : ∀ s' a b, s'.ρ.x = ε → Fwd s s' → Good C s' → RS C s' σ dσ → r1 s' a b → Post C W σ r2 s' Q (k a s'.ah) → T b s'.H) : tG C ε W r1 m σ s.H T := by
  refine ⟨s, dσ, rfl, ex, g, rs, ?_⟩
  cases e : m dσ s.ah with
  | ok a h' =>
    rw [e] at h
    intro s' b e1 f g' r
    subst e1
    exact hk s' a b (f.rho.x.trans ex) f g' (rs.fwd f) r (Post.fwd f h)
  | exc x h' =>
    rw [e] at h
    exact h
  | bad =>
    rw [e] at h
    exact h
end
theorem _root_.L2.PE.imp {X : Cx} {e : Expr} {t t' : TE} (h : PE X e t) (k : ∀ σ H Q, t' σ H Q → t σ H Q) : PE X e t' := ⟨fun pins s σ H Q I q => h.run pins s σ H Q I (k σ H Q q)⟩
theorem _root_.L2.PT.imp {X : Cx} {e : Expr} {t t' : TT} (h : PT X e t) (k : ∀ σ H Q, t' σ H Q → t σ H Q) : PT X e t' := ⟨fun pins s σ H Q I q => h.run pins s σ H Q I (k σ H Q q)⟩
theorem _root_.L2.PW.imp {X : Cx} {e : Expr} {t t' : TT} (h : PW X e t) (k : ∀ σ H Q, t' σ H Q → t σ H Q) : PW X e t' := ⟨fun wh pins s σ H Q I q => h.run wh pins s σ H Q I (k σ H Q q)⟩
theorem _root_.L2.PA.imp {X : Cx} {e : List Expr} {t t' : TA} (h : PA X e t) (k : ∀ σ H Q, t' σ H Q → t σ H Q) : PA X e t' := ⟨fun pos pins s σ H Q I q => h.run pos pins s σ H Q I (k σ H Q q)⟩
theorem _root_.L2.PS.imp {X : Cx} {e : Stmt} {t t' : TS} (h : PS X e t) (k : ∀ D σ H, t' D σ H → t D σ H) : PS X e t' := ⟨fun pins s σ H D I q => h.run pins s σ H D I (k D σ H q)⟩
theorem _root_.L2.PSs.imp {X : Cx} {e : List Stmt} {t t' : TS} (h : PSs X e t) (k : ∀ D σ H, t' D σ H → t D σ H) : PSs X e t' := ⟨fun pins s σ H D I q => h.run pins s σ H D I (k D σ H q)⟩
/-- an expression reckons m -/
abbrev ME (X : Cx) (C : Cf) (ε : Option (Addr × Str × Option Addr)) (W : WX) (e : Expr) (m : M D) : Prop := PE X e (tG C ε W (rD C) m)
abbrev MT (X : Cx) (C : Cf) (ε : Option (Addr × Str × Option Addr)) (W : WX) (e : Expr) (m : M Bool) : Prop := PT X e (tG C ε W rB m)
abbrev MW (X : Cx) (C : Cf) (ε : Option (Addr × Str × Option Addr)) (W : WX) (e : Expr) (m : M Bool) : Prop := PW X e (tG C ε W rB m)
abbrev MA (X : Cx) (C : Cf) (ε : Option (Addr × Str × Option Addr)) (W : WX) (e : List Expr) (m : M (List D)) : Prop := PA X e (tG C ε W (rDs C) m)

/-! ### the words -/
def var (i : Nat) : M D := fun σ h => match σ[i]? with
  | some (some d) => .ok d h
  | _ => .bad
def cst (d : D) : M D := fun _ h => .ok d h
def bin (g : D → D → AH → Out D) (a b : M D) : M D := fun σ h => (a σ h).bind fun x h1 => (b σ h1).bind fun y h2 => g x y h2
def un (g : D → AH → Out D) (a : M D) : M D := fun σ h => (a σ h).bind fun x h1 => g x h1
def nilA : M (List D) := fun _ h => .ok [] h
def consA (a : M D) (b : M (List D)) : M (List D) := fun σ h => (a σ h).bind fun x h1 => (b σ h1).bind fun y h2 => .ok (x :: y) h2
def app (g : List D → AH → Out D) (a : M (List D)) : M D := fun σ h => (a σ h).bind fun x h1 => g x h1
/-- a truth -/
def isBl (x : D) (h : AH) : Out Bool := match x with
  | .bl b => .ok b h
  | _ => .bad
@[simp] theorem isBl_bl (b : Bool) (h : AH) : isBl (.bl b) h = .ok b h := rfl
def asB (a : M D) : M Bool := fun σ h => (a σ h).bind isBl
def notB (a : M Bool) : M Bool := fun σ h => (a σ h).bind fun x h1 => .ok (!x) h1
def andB (a b : M Bool) : M Bool := fun σ h => (a σ h).bind fun x h1 => if x = true then b σ h1 else .ok false h1
def orB (a b : M Bool) : M Bool := fun σ h => (a σ h).bind fun x h1 => if x = true then .ok true h1 else b σ h1
def andV (a b : M D) : M D := fun σ h => (asB a σ h).bind fun x h1 => if x = true then b σ h1 else .ok (.bl false) h1
def orV (a b : M D) : M D := fun σ h => (asB a σ h).bind fun x h1 => if x = true then .ok (.bl true) h1 else b σ h1
def notV (a : M D) : M D := fun σ h => (asB a σ h).bind fun x h1 => .ok (.bl (!x)) h1
def ifE (c : M Bool) (a b : M D) : M D := fun σ h => (c σ h).bind fun x h1 => if x = true then a σ h1 else b σ h1

/-! ### operators by their values -/
def OpS (C : Cf) (r : R2) (g : D → D → AH → Out D) : Prop := ∀ (W : WX) (σ : St) (s : Sx) (x y : D) (v u : V) (Q : VK), Good C s → R C s.F s.ρ x v → R C s.F s.ρ y u → Post C W σ (rD C) s Q (g x y s.ah) → r v u s.H Q
def UnS (C : Cf) (r : V → Hp → VK → Prop) (g : D → AH → Out D) : Prop := ∀ (W : WX) (σ : St) (s : Sx) (x : D) (v : V) (Q : VK), Good C s → R C s.F s.ρ x v → Post C W σ (rD C) s Q (g x s.ah) → r v s.H Q
def CallS (C : Cf) (r : List V → Hp → VK → Prop) (g : List D → AH → Out D) : Prop := ∀ (W : WX) (σ : St) (s : Sx) (x : List D) (v : List V) (Q : VK), Good C s → Rs C s.F s.ρ x v → Post C W σ (rD C) s Q (g x s.ah) → r v s.H Q
section
variable {X : Cx} {C : Cf} {ε : Option (Addr × Str × Option Addr)} {W : WX} {a b c : Expr} {es : List Expr} {ma mb : M D} {mc mt mu : M Bool} {mr : M (List D)} {pos : Pos}
theorem me_var (i : Nat) {x : Str} (hN : X.N[i]? = some x := by rfl) (hv : Vis X.env.scope x := by first | exact Or.inl rfl | exact Or.inr (Or.inl rfl) | exact Or.inr (Or.inr rfl)) (hd : (x == ("__debug__" : Str)) = false := by decide)
    (hcd : (x == ("__classdict__" : Str)) = false := by decide) : ME X C ε W (.Name x pos) (var i) := by
  refine (pe_var hN hv hd hcd).imp fun σ H Q h => ?_
  obtain ⟨s, dσ, rfl, ex, g, rs, h⟩ := h
  unfold var at h
  split at h
  · rename_i d e
    obtain ⟨v, e1, r⟩ := rs.2 i d e
    exact ⟨v, e1, Post.here g h r⟩
  · exact h.elim
theorem me_int {i : Int} {j : Nat} : ME X C ε W (.Constant (.int i) j pos) (cst (.int i)) := pe_int.imp fun σ H Q h => by
  obtain ⟨s, dσ, rfl, ex, g, rs, h⟩ := h
  exact Post.here g h (by unfold R; rfl)
theorem me_bl {i : Bool} {j : Nat} : ME X C ε W (.Constant (.bool i) j pos) (cst (.bl i)) := pe_bl.imp fun σ H Q h => by
  obtain ⟨s, dσ, rfl, ex, g, rs, h⟩ := h
  exact Post.here g h (by unfold R; rfl)
theorem me_str {i : Str} {j : Nat} : ME X C ε W (.Constant (.str i) j pos) (cst (.str i)) := pe_str.imp fun σ H Q h => by
  obtain ⟨s, dσ, rfl, ex, g, rs, h⟩ := h
  exact Post.here g h (by unfold R; rfl)
theorem me_non {j : Nat} : ME X C ε W (.Constant .none j pos) (cst .non) := pe_non.imp fun σ H Q h => by
  obtain ⟨s, dσ, rfl, ex, g, rs, h⟩ := h
  exact Post.here g h (by unfold R; rfl)
/-- a constant of the module -/
theorem me_gstr {x z : Str} {t : Tok} (hg : Gl X x) (hm : X.mg x = some (.str z t)) (hd : (x == ("__debug__" : Str)) = false := by decide) : ME X C ε W (.Name x pos) (cst (.str z)) := (pe_glob (v := .str z) hg hm ⟨t, rfl⟩ hd).imp fun σ H Q h => by
  obtain ⟨s, dσ, rfl, ex, g, rs, h⟩ := h
  exact Post.here g h (by unfold R; rfl)
theorem me_gint {x : Str} {z : Int} {t : Tok} (hg : Gl X x) (hm : X.mg x = some (.int z t)) (hd : (x == ("__debug__" : Str)) = false := by decide) : ME X C ε W (.Name x pos) (cst (.int z)) := (pe_glob (v := .int z) hg hm ⟨t, rfl⟩ hd).imp fun σ H Q h => by
  obtain ⟨s, dσ, rfl, ex, g, rs, h⟩ := h
  exact Post.here g h (by unfold R; rfl)
/-- a class or a def of the module as a value -/
theorem me_glo {x : Str} (hg : Gl X x) (hm : X.mg x = some (.ref (He.ga C.K x))) (hd : (x == ("__debug__" : Str)) = false := by decide) : ME X C ε W (.Name x pos) (cst (.glo x)) := (pe_glob (v := .ref (He.ga C.K x)) hg hm rfl hd).imp fun σ H Q h => by
  obtain ⟨s, dσ, rfl, ex, g, rs, h⟩ := h
  exact Post.here g h (by unfold R; rfl)
theorem me_ty {x : Str} {n : String} (hg : Gl X x) (hm : X.mg x = none) (hv : bootBuiltins x = some (.type n)) (hn : x ≠ "__name__" := by decide) (hd : (x == ("__debug__" : Str)) = false := by decide) : ME X C ε W (.Name x pos) (cst (.ty n)) := (pe_bltn (v := .ty n) hg hm hv rfl hn hd).imp fun σ H Q h => by
  obtain ⟨s, dσ, rfl, ex, g, rs, h⟩ := h
  exact Post.here g h (by unfold R; rfl)
theorem me_bin {op : Operator} {r : R2} {g : D → D → AH → Out D} (ho : OpR X (binaryOp op) r) (hg : OpS C r g) (ha : ME X C ε W a ma) (hb : ME X C ε W b mb) : ME X C ε W (.BinOp a op b pos) (bin g ma mb) :=
  (pe_op ho ha hb).imp fun σ H Q h => by
    obtain ⟨s, dσ, rfl, ex, gd, rs, h⟩ := h
    refine Post.bind ex gd rs h fun s1 x v e1 f1 g1 rs1 r1 h1 => ?_
    exact Post.bind e1 g1 rs1 h1 fun s2 y u e2 f2 g2 rs2 r2 h2 => hg W σ s2 x y v u Q g2 (r1.fwd f2) r2 h2
theorem me_un {op : UnaryOp} {r : V → Hp → VK → Prop} {g : D → AH → Out D} (ho : UnR X (unaryOp op) r) (hg : UnS C r g) (ha : ME X C ε W a ma) : ME X C ε W (.UnaryOp op a pos) (un g ma) :=
  (pe_un ho ha).imp fun σ H Q h => by
    obtain ⟨s, dσ, rfl, ex, gd, rs, h⟩ := h
    exact Post.bind ex gd rs h fun s1 x v e1 f1 g1 rs1 r1 h1 => hg W σ s1 x v Q g1 r1 h1
theorem me_cmp {op : CmpOp} {r : R2} {g : D → D → AH → Out D} (ho : OpR X (compareOp op) r) (hg : OpS C r g) (ha : ME X C ε W a ma) (hb : ME X C ε W b mb) (hm : behindInMarks op b = false := by first | exact nomark _ | rfl) : ME X C ε W (.Compare a [op] [b] pos) (bin g ma mb) :=
  (pe_cmpR ho ha hb hm).imp fun σ H Q h => by
    obtain ⟨s, dσ, rfl, ex, gd, rs, h⟩ := h
    refine Post.bind ex gd rs h fun s1 x v e1 f1 g1 rs1 r1 h1 => ?_
    exact Post.bind e1 g1 rs1 h1 fun s2 y u e2 f2 g2 rs2 r2 h2 => hg W σ s2 x y v u Q g2 (r1.fwd f2) r2 h2
theorem Post.asB {s : Sx} {σ : St} {Q : Bool → Hp → Prop} {x : D} {v : V} (g : Good C s) (r : R C s.F s.ρ x v) (h : Post C W σ rB s Q (isBl x s.ah)) : ∃ k, v = .bl k ∧ Q k s.H := by
  cases x with
  | bl b => exact ⟨b, (by unfold R at r; exact r), Post.here g h rfl⟩
  | _ => exact h.elim
theorem mt_cmp {op : CmpOp} {r : R2} {g : D → D → AH → Out D} (ho : OpR X (compareOp op) r) (hg : OpS C r g) (ha : ME X C ε W a ma) (hb : ME X C ε W b mb) (hm : behindInMarks op b = false := by first | exact nomark _ | rfl) : MT X C ε W (.Compare a [op] [b] pos) (asB (bin g ma mb)) :=
  (pt_cmpR ho ha hb hm).imp fun σ H Q h => by
    obtain ⟨s, dσ, rfl, ex, gd, rs, h⟩ := h
    have h' : Post C W σ rB s Q ((ma dσ s.ah).bind fun x h1 => ((mb dσ h1).bind fun y h2 => g x y h2).bind isBl) := by
      have e : asB (bin g ma mb) dσ s.ah = ((ma dσ s.ah).bind fun x h1 => ((mb dσ h1).bind fun y h2 => g x y h2).bind isBl) := by
        unfold asB bin
        cases ma dσ s.ah <;> rfl
      rw [← e]; exact h
    refine Post.bind ex gd rs h' fun s1 x v e1 f1 g1 rs1 r1 h1 => ?_
    have h1' : Post C W σ rB s1 Q ((mb dσ s1.ah).bind fun y h2 => (g x y h2).bind isBl) := by
      have e : (((mb dσ s1.ah).bind fun y h2 => g x y h2).bind isBl) = ((mb dσ s1.ah).bind fun y h2 => (g x y h2).bind isBl) := by
        cases mb dσ s1.ah <;> rfl
      rw [← e]; exact h1
    refine Post.bind e1 g1 rs1 h1' fun s2 y u e2 f2 g2 rs2 r2 h2 => ?_
    refine hg W σ s2 x y v u _ g2 (r1.fwd f2) r2 ?_
    cases e : g x y s2.ah with
    | ok d ah' =>
      rw [e] at h2
      intro s3 w e3 f3 g3 r3
      subst e3
      exact Post.asB g3 r3 (Post.fwd f3 h2)
    | exc z ah' => rw [e] at h2; exact h2
    | bad => rw [e] at h2; exact h2
theorem mt_val (ha : ME X C ε W a ma) (he : ∀ whole, isTrue a X.env whole = (do let v ← whole; standAt a.pos; holding [v] (truthy v)) := by intro _; rfl) : MT X C ε W a (asB ma) :=
  (pt_val ha he).imp fun σ H Q h => by
    obtain ⟨s, dσ, rfl, ex, gd, rs, h⟩ := h
    exact Post.bind ex gd rs h fun s1 x v e1 f1 g1 rs1 r1 h1 => Post.asB g1 r1 h1
theorem mt_not (ha : MT X C ε W a mt) : MT X C ε W (.UnaryOp .Not a pos) (notB mt) := (pt_not ha).imp fun σ H Q h => by
  obtain ⟨s, dσ, rfl, ex, gd, rs, h⟩ := h
  exact Post.bind ex gd rs h fun s1 x v e1 f1 g1 rs1 r1 h1 => by subst r1; exact Post.here g1 h1 rfl
theorem mw_and1 (ha : MT X C ε W a mt) : MW X C ε W (.BoolOp .And [a] pos) mt := pw_and1 ha
theorem mw_or1 (ha : MT X C ε W a mt) : MW X C ε W (.BoolOp .Or [a] pos) mt := pw_or1 ha
theorem mw_and (ha : MT X C ε W a mt) (hb : MW X C ε W (.BoolOp .And (b :: es) pos) mu) : MW X C ε W (.BoolOp .And (a :: b :: es) pos) (andB mt mu) := (pw_and ha hb).imp fun σ H Q h => by
  obtain ⟨s, dσ, rfl, ex, gd, rs, h⟩ := h
  refine Post.bind ex gd rs h fun s1 x v e1 f1 g1 rs1 r1 h1 => ?_
  subst r1
  by_cases hx : x = true
  · rw [if_pos hx] at h1 ⊢; exact tG.mk e1 g1 rs1 h1
  · rw [if_neg hx] at h1 ⊢; exact Post.here g1 h1 rfl
theorem mw_or (ha : MT X C ε W a mt) (hb : MW X C ε W (.BoolOp .Or (b :: es) pos) mu) : MW X C ε W (.BoolOp .Or (a :: b :: es) pos) (orB mt mu) := (pw_or ha hb).imp fun σ H Q h => by
  obtain ⟨s, dσ, rfl, ex, gd, rs, h⟩ := h
  refine Post.bind ex gd rs h fun s1 x v e1 f1 g1 rs1 r1 h1 => ?_
  subst r1
  by_cases hx : x = true
  · rw [if_pos hx] at h1 ⊢; exact Post.here g1 h1 rfl
  · rw [if_neg hx] at h1 ⊢; exact tG.mk e1 g1 rs1 h1
theorem mt_w (h : MW X C ε W a mt) : MT X C ε W a mt := PW.pt h
theorem me_one {op : BoolOp} (h : ME X C ε W a ma) : ME X C ε W (.BoolOp op [a] pos) ma := pe_one h
theorem Post.bB {s : Sx} {σ : St} {Q : VK} {x : D} {v : V} {k : Bool → AH → Out D} {T : Bool → Prop} (g : Good C s) (r : R C s.F s.ρ x v) (h : Post C W σ (rD C) s Q ((isBl x s.ah).bind k)) (hk : ∀ c, Post C W σ (rD C) s Q (k c s.ah) → T c) : ∃ c, v = .bl c ∧ T c := by
  cases x with
  | bl b => exact ⟨b, (by unfold R at r; exact r), hk b h⟩
  | _ => exact h.elim
theorem asB_bind (dσ : Sl) (h : AH) (k : Bool → AH → Out D) : (asB ma dσ h).bind k = (ma dσ h).bind fun x h1 => (isBl x h1).bind k := by
  unfold asB
  cases ma dσ h <;> rfl
theorem me_and (ha : ME X C ε W a ma) (hb : ME X C ε W (.BoolOp .And (b :: es) pos) mb) : ME X C ε W (.BoolOp .And (a :: b :: es) pos) (andV ma mb) := (pe_and ha hb).imp fun σ H Q h => by
  obtain ⟨s, dσ, rfl, ex, gd, rs, h⟩ := h
  unfold andV at h
  rw [asB_bind] at h
  refine Post.bind ex gd rs h fun s1 x v e1 f1 g1 rs1 r1 h1 => ?_
  refine Post.bB g1 r1 h1 fun c h2 => ?_
  by_cases hx : c = true
  · rw [if_pos hx] at h2 ⊢; exact tG.mk e1 g1 rs1 h2
  · rw [if_neg hx] at h2 ⊢; exact Post.here g1 h2 (by unfold R; rfl)
theorem me_or (ha : ME X C ε W a ma) (hb : ME X C ε W (.BoolOp .Or (b :: es) pos) mb) : ME X C ε W (.BoolOp .Or (a :: b :: es) pos) (orV ma mb) := (pe_or ha hb).imp fun σ H Q h => by
  obtain ⟨s, dσ, rfl, ex, gd, rs, h⟩ := h
  unfold orV at h
  rw [asB_bind] at h
  refine Post.bind ex gd rs h fun s1 x v e1 f1 g1 rs1 r1 h1 => ?_
  refine Post.bB g1 r1 h1 fun c h2 => ?_
  by_cases hx : c = true
  · rw [if_pos hx] at h2 ⊢; exact Post.here g1 h2 (by unfold R; rfl)
  · rw [if_neg hx] at h2 ⊢; exact tG.mk e1 g1 rs1 h2
theorem me_not (ha : ME X C ε W a ma) : ME X C ε W (.UnaryOp .Not a pos) (notV ma) := (pe_not ha).imp fun σ H Q h => by
  obtain ⟨s, dσ, rfl, ex, gd, rs, h⟩ := h
  unfold notV at h
  rw [asB_bind] at h
  refine Post.bind ex gd rs h fun s1 x v e1 f1 g1 rs1 r1 h1 => ?_
  exact Post.bB g1 r1 h1 fun c h2 => Post.here g1 h2 (by unfold R; rfl)
theorem me_if (hc : MT X C ε W c mc) (ha : ME X C ε W a ma) (hb : ME X C ε W b mb) : ME X C ε W (.IfExp c a b pos) (ifE mc ma mb) := (pe_ifExp hc ha hb).imp fun σ H Q h => by
  obtain ⟨s, dσ, rfl, ex, gd, rs, h⟩ := h
  refine Post.bind ex gd rs h fun s1 x v e1 f1 g1 rs1 r1 h1 => ?_
  subst r1
  by_cases hx : x = true
  · rw [if_pos hx] at h1 ⊢; exact tG.mk e1 g1 rs1 h1
  · rw [if_neg hx] at h1 ⊢; exact tG.mk e1 g1 rs1 h1
theorem ma_nil : MA X C ε W [] nilA := pa_nil.imp fun σ H Q h => by
  obtain ⟨s, dσ, rfl, ex, g, rs, h⟩ := h
  exact Post.here g h (by unfold Rs; rfl)
theorem ma_cons (ha : ME X C ε W a ma) (hr : MA X C ε W es mr) (hs : starEach (a :: es) X.env = (false, eval a X.env) :: starEach es X.env := by rfl) : MA X C ε W (a :: es) (consA ma mr) := (pa_cons ha hr hs).imp fun σ H Q h => by
  obtain ⟨s, dσ, rfl, ex, gd, rs, h⟩ := h
  refine Post.bind ex gd rs h fun s1 x v e1 f1 g1 rs1 r1 h1 => ?_
  refine Post.bind e1 g1 rs1 h1 fun s2 y u e2 f2 g2 rs2 r2 h2 => ?_
  exact Post.here g2 h2 (by unfold Rs; exact ⟨v, u, rfl, r1.fwd f2, r2⟩)
/-- a built-in function -/
theorem me_callB {id : String} {x : Str} {p : Pos} {r : List V → Hp → VK → Prop} {g : List D → AH → Out D} (hc : CallR X (.builtin id) r) (hcs : CallS C r g) (hg : Gl X x) (hm : X.mg x = none) (hv : bootBuiltins x = some (.builtin id)) (ha : MA X C ε W (a :: es) mr) (hn : x ≠ "__name__" := by decide)
    (hdb : (x == ("__debug__" : Str)) = false := by decide) (he : starEach (a :: es) X.env = (false, eval a X.env) :: starEach es X.env := by rfl) (hpl : (backTo pos (starEach es X.env)).any (·.1) = false := by rfl) : ME X C ε W (.Call (.Name x p) (a :: es) [] pos) (app g mr) :=
  (pe_callB hc hg hm hv ha hn hdb he hpl).imp fun σ H Q h => by
    obtain ⟨s, dσ, rfl, ex, gd, rs, h⟩ := h
    exact Post.bind ex gd rs h fun s1 x v e1 f1 g1 rs1 r1 h1 => hcs W σ s1 x v Q g1 r1 h1
theorem me_callTy {id : String} {x : Str} {p : Pos} {r : List V → Hp → VK → Prop} {g : List D → AH → Out D} (hc : CallR X (.type id) r) (hcs : CallS C r g) (hg : Gl X x) (hm : X.mg x = none) (hv : bootBuiltins x = some (.type id)) (ha : MA X C ε W (a :: es) mr) (hn : x ≠ "__name__" := by decide)
    (hdb : (x == ("__debug__" : Str)) = false := by decide) (he : starEach (a :: es) X.env = (false, eval a X.env) :: starEach es X.env := by rfl) (hpl : (backTo pos (starEach es X.env)).any (·.1) = false := by rfl) : ME X C ε W (.Call (.Name x p) (a :: es) [] pos) (app g mr) :=
  (pe_callTy hc hg hm hv ha hn hdb he hpl).imp fun σ H Q h => by
    obtain ⟨s, dσ, rfl, ex, gd, rs, h⟩ := h
    exact Post.bind ex gd rs h fun s1 x v e1 f1 g1 rs1 r1 h1 => hcs W σ s1 x v Q g1 r1 h1
end
end Ws

set_option Elab.async false
set_option linter.all false
set_option maxRecDepth 100000
namespace Ws
open PySem L2
/-! ### data without cells from L on, without a caught error -/
mutual
def pureD (L : Nat) : D → Bool
  | .tup xs => pureDs L xs
  | .lst xs => pureDs L xs
  | .dct kvs => pureK L kvs
  | .dcT kvs => pureK L kvs
  | .ins _ fs => pureF L fs
  | .cell n => decide (n < L)
  | .exn _ _ => false
  | _ => true
def pureDs (L : Nat) : List D → Bool
  | [] => true
  | d :: ds => pureD L d && pureDs L ds
def pureK (L : Nat) : List (D × D) → Bool
  | [] => true
  | (_, d) :: ds => pureD L d && pureK L ds
def pureF (L : Nat) : List (Str × D) → Bool
  | [] => true
  | (_, d) :: ds => pureD L d && pureF L ds
end
def REq (L : Nat) (ρ ρ' : Rho) : Prop := ∀ n, n < L → ρ'.c n = ρ.c n
mutual
theorem R.pure {C : Cf} {F : Hp} {ρ ρ' : Rho} {L : Nat} (q : REq L ρ ρ') : ∀ {d : D} {v : V}, pureD L d = true → R C F ρ d v → R C F ρ' d v
  | .non, _, _, h | .bl _, _, _, h | .int _, _, _, h | .str _, _, _, h | .ty _, _, _, h | .glo _, _, _, h | .set _, _, _, h | .scr _, _, _, h => by unfold R at h ⊢; exact h
  | .tup _, _, p, h => by unfold pureD at p; unfold R at h ⊢; obtain ⟨a, ys, e, f, z⟩ := h; exact ⟨a, ys, e, f, Rs.pure q p z⟩
  | .lst _, _, p, h => by unfold pureD at p; unfold R at h ⊢; obtain ⟨a, ys, e, f, z⟩ := h; exact ⟨a, ys, e, f, Rs.pure q p z⟩
  | .dct _, _, p, h => by unfold pureD at p; unfold R at h ⊢; obtain ⟨a, o, ks, e, f, z⟩ := h; exact ⟨a, o, ks, e, f, Rk.pure q p z⟩
  | .dcT _, _, p, h => by unfold pureD at p; unfold R at h ⊢; obtain ⟨a, o, ks, e, f, z⟩ := h; exact ⟨a, o, ks, e, f, Rt.pure q p z⟩
  | .ins _ _, _, p, h => by unfold pureD at p; unfold R at h ⊢; obtain ⟨a, dx, gs, e, f, z⟩ := h; exact ⟨a, dx, gs, e, f, Rf.pure q p z⟩
  | .cell n, _, p, h => by unfold pureD at p; unfold R at h ⊢; obtain ⟨a, e, f⟩ := h; exact ⟨a, e, (q n (of_decide_eq_true p)).trans f⟩
  | .exn _ _, _, p, h => by unfold pureD at p; cases p
theorem Rs.pure {C : Cf} {F : Hp} {ρ ρ' : Rho} {L : Nat} (q : REq L ρ ρ') : ∀ {d : List D} {v : List V}, pureDs L d = true → Rs C F ρ d v → Rs C F ρ' d v
  | [], _, _, h => by unfold Rs at h ⊢; exact h
  | _ :: _, _, p, h => by
    unfold pureDs at p
    have p := Bool.and_eq_true_iff.mp p
    unfold Rs at h ⊢; obtain ⟨v, t, e, a, b⟩ := h; exact ⟨v, t, e, R.pure q p.1 a, Rs.pure q p.2 b⟩
theorem Rk.pure {C : Cf} {F : Hp} {ρ ρ' : Rho} {L : Nat} (q : REq L ρ ρ') : ∀ {d : List (D × D)} {v : List (Key × V)}, pureK L d = true → Rk C F ρ d v → Rk C F ρ' d v
  | [], _, _, h => by unfold Rk at h ⊢; exact h
  | (_, _) :: _, _, p, h => by
    unfold pureK at p
    have p := Bool.and_eq_true_iff.mp p
    unfold Rk at h ⊢; obtain ⟨k, v, t, e, ek, a, b⟩ := h; exact ⟨k, v, t, e, ek, R.pure q p.1 a, Rk.pure q p.2 b⟩
theorem Rt.pure {C : Cf} {F : Hp} {ρ ρ' : Rho} {L : Nat} (q : REq L ρ ρ') : ∀ {d : List (D × D)} {v : List (List Key × V)}, pureK L d = true → Rt C F ρ d v → Rt C F ρ' d v
  | [], _, _, h => by unfold Rt at h ⊢; exact h
  | (_, _) :: _, _, p, h => by
    unfold pureK at p
    have p := Bool.and_eq_true_iff.mp p
    unfold Rt at h ⊢; obtain ⟨k, v, t, e, ek, a, b⟩ := h; exact ⟨k, v, t, e, ek, R.pure q p.1 a, Rt.pure q p.2 b⟩
theorem Rf.pure {C : Cf} {F : Hp} {ρ ρ' : Rho} {L : Nat} (q : REq L ρ ρ') : ∀ {d : List (Str × D)} {v : List (Str × V)}, pureF L d = true → Rf C F ρ d v → Rf C F ρ' d v
  | [], _, _, h => by unfold Rf at h ⊢; exact h
  | (_, _) :: _, _, p, h => by
    unfold pureF at p
    have p := Bool.and_eq_true_iff.mp p
    unfold Rf at h ⊢; obtain ⟨v, t, e, a, b⟩ := h; exact ⟨v, t, e, R.pure q p.1 a, Rf.pure q p.2 b⟩
end
/-- what a cell holds, without cells from L on -/
def pureO (L : Nat) : OB → Bool
  | .lst xs => pureDs L xs
  | .dct kvs => pureK L kvs
  | .dcT kvs => pureK L kvs
  | .ins _ fs => pureF L fs
  | .set _ => true
theorem OR.pure {C : Cf} {F : Hp} {ρ ρ' : Rho} {H : Hp} {a : Addr} {L : Nat} {ob : OB} (q : REq L ρ ρ') (p : pureO L ob = true) (h : OR C F ρ H a ob) : OR C F ρ' H a ob := by
  cases ob with
  | lst xs => obtain ⟨ys, e, z⟩ := h; exact ⟨ys, e, Rs.pure q p z⟩
  | dct kvs => obtain ⟨ks, e, z⟩ := h; exact ⟨ks, e, Rk.pure q p z⟩
  | dcT kvs => obtain ⟨ks, e, z⟩ := h; exact ⟨ks, e, Rt.pure q p z⟩
  | ins c fs => obtain ⟨dx, gs, e, z⟩ := h; exact ⟨dx, gs, e, Rf.pure q p z⟩
  | set xs => exact h
/-- all cells of a heap speak of lesser cells alone -/
def pureH (L : Nat) : AH → Bool
  | [] => true
  | none :: r => pureH L r
  | some ob :: r => pureO L ob && pureH L r
theorem pureH_get {L : Nat} : ∀ {h : AH} {n : Nat} {ob : OB}, pureH L h = true → h.get n = some ob → pureO L ob = true
  | [], n, ob, _, e => by simp [AH.get] at e
  | none :: r, 0, ob, _, e => by simp [AH.get] at e
  | none :: r, n + 1, ob, p, e => pureH_get (h := r) (n := n) p (by simpa [AH.get] using e)
  | some x :: r, 0, ob, p, e => by
    unfold pureH at p
    simp [AH.get] at e
    subst e
    exact (Bool.and_eq_true_iff.mp p).1
  | some x :: r, n + 1, ob, p, e => by
    unfold pureH at p
    exact pureH_get (h := r) (n := n) (Bool.and_eq_true_iff.mp p).2 (by simpa [AH.get] using e)
/-! ### forgetting the cells from L on -/
def Rho.cut (ρ : Rho) (L : Nat) : Rho := { ρ with c := fun n => if n < L then ρ.c n else none }
def Sx.cut (s : Sx) (L : Nat) : Sx := { s with ρ := s.ρ.cut L, ah := s.ah.take L }
theorem AH.get_take (h : AH) (L n : Nat) : AH.get (h.take L) n = if n < L then h.get n else none := by
  unfold AH.get
  by_cases l : n < L
  · rw [List.getElem?_take_of_lt l, if_pos l]
  · rw [List.getElem?_take_eq_none (by omega), if_neg l]; rfl
theorem REq.cut (ρ : Rho) (L : Nat) : REq L ρ (ρ.cut L) := fun n l => if_pos l
theorem Good.cut {C : Cf} {s : Sx} (g : Good C s) {L : Nat} (p : pureH L (s.ah.take L) = true) : Good C (s.cut L) where
  sub := g.sub
  tups := g.tups
  own := fun n ob e => by
    have e' : AH.get (s.ah.take L) n = some ob := e
    have p' := pureH_get p e'
    rw [AH.get_take] at e'
    by_cases l : n < L
    · rw [if_pos l] at e'
      obtain ⟨a, e1, e2, e3⟩ := g.own n ob e'
      exact ⟨a, (show (if n < L then s.ρ.c n else none) = some a by rw [if_pos l]; exact e1), e2, e3.pure (REq.cut s.ρ L) p'⟩
    · rw [if_neg l] at e'; cases e'
  inj := fun n m a k1 k2 e1 e2 => by
    have k1' : AH.get (s.ah.take L) n ≠ none := k1
    have k2' : AH.get (s.ah.take L) m ≠ none := k2
    rw [AH.get_take] at k1' k2'
    have e1' : (if n < L then s.ρ.c n else none) = some a := e1
    have e2' : (if m < L then s.ρ.c m else none) = some a := e2
    by_cases l1 : n < L
    · by_cases l2 : m < L
      · rw [if_pos l1] at k1' e1'; rw [if_pos l2] at k2' e2'
        exact g.inj n m a k1' k2' e1' e2'
      · rw [if_neg l2] at e2'; cases e2'
    · rw [if_neg l1] at e1'; cases e1'
  dom := fun n e => by
    have e' : (s.ah.take L).length ≤ n := e
    rw [List.length_take] at e'
    show (if n < L then s.ρ.c n else none) = none
    by_cases l : n < L
    · rw [if_pos l]; exact g.dom n (by omega)
    · rw [if_neg l]
theorem Fwd.cut {s t : Sx} (f : Fwd s t) {L : Nat} (hd : ∀ n, L ≤ n → s.ρ.c n = none) : Fwd s (t.cut L) where
  sub := f.sub
  rho := ⟨fun n a e => by
    show (if n < L then t.ρ.c n else none) = some a
    have l : n < L := by
      by_cases l : n < L
      · exact l
      · rw [hd n (by omega)] at e; cases e
    rw [if_pos l]; exact f.rho.c n a e, f.rho.x⟩
  frame := f.frame
  fresh := fun n a e k => by
    have e' : (if n < L then t.ρ.c n else none) = some a := e
    have k' : AH.get (t.ah.take L) n ≠ none := k
    rw [AH.get_take] at k'
    by_cases l : n < L
    · rw [if_pos l] at e' k'; exact f.fresh n a e' k'
    · rw [if_neg l] at e'; cases e'
  there := f.there
  still := f.still
/-! ### defs and their calls -/
def pureX (L : Nat) (x : Exc) : Bool := pureF L x.fs
/-- what a def hands back: the cells that it made are forgotten -/
def leave (L : Nat) : Out D → Out D
  | .ok d h => if pureD L d = true ∧ pureH L (h.take L) = true then .ok d (h.take L) else .bad
  | .exc x h => if pureX L x = true ∧ pureH L (h.take L) = true then .exc x (h.take L) else .bad
  | .bad => .bad
theorem Post.leave {C : Cf} {W : WX} {σ : St} {s : Sx} {Q : VK} (g : Good C s) {o : Out D} (h : Post C W σ (rD C) s Q (leave s.ah.length o)) : Post C W σ (rD C) s Q o := by
  cases o with
  | ok d ah' =>
    by_cases p : pureD s.ah.length d = true ∧ pureH s.ah.length (ah'.take s.ah.length) = true
    · rw [show Ws.leave s.ah.length (.ok d ah') = .ok d (ah'.take s.ah.length) from if_pos p] at h
      intro t v e f gt r
      subst e
      exact h (t.cut s.ah.length) v rfl (f.cut g.dom) (gt.cut p.2) (R.pure (REq.cut t.ρ _) p.1 r)
    · rw [show Ws.leave s.ah.length (.ok d ah') = .bad from if_neg p] at h
      exact h.elim
  | exc x ah' =>
    by_cases p : pureX s.ah.length x = true ∧ pureH s.ah.length (ah'.take s.ah.length) = true
    · rw [show Ws.leave s.ah.length (.exc x ah') = .exc x (ah'.take s.ah.length) from if_pos p] at h
      intro t od e f gt r
      subst e
      refine h (t.cut s.ah.length) od rfl (f.cut g.dom) (gt.cut p.2) ?_
      rcases r with r | ⟨d, gs, e1, e2, r⟩
      · exact .inl r
      · exact .inr ⟨d, gs, e1, e2, Rf.pure (REq.cut t.ρ _) p.1 r⟩
    · rw [show Ws.leave s.ah.length (.exc x ah') = .bad from if_neg p] at h
      exact h.elim
  | bad => exact h
/-- a def of n parameters that reckons f -/
def spM (C : Cf) (n : Nat) (f : List D → AH → Out D) : Sp := fun vs H Q E => ∃ s ds, s.H = H ∧ s.ρ.x = none ∧ Good C s ∧ Rs C s.F s.ρ ds vs ∧ ds.length = n ∧ Post C (fun cls od _ H => E cls od H) [] (rD C) s Q (f ds s.ah)
theorem Rs.length {C : Cf} {F : Hp} {ρ : Rho} : ∀ {ds : List D} {vs : List V}, Rs C F ρ ds vs → ds.length = vs.length
  | [], vs, h => by unfold Rs at h; subst h; rfl
  | d :: ds, vs, h => by
    unfold Rs at h
    obtain ⟨v, r, rfl, _, h⟩ := h
    simp [Rs.length h]
theorem spM.len {C : Cf} {n : Nat} {f : List D → AH → Out D} {vs : List V} {H : Hp} {Q : VK} {E : XK} (h : spM C n f vs H Q E) : vs.length = n := by
  obtain ⟨s, ds, _, _, _, r, l, _⟩ := h
  rw [← r.length]; exact l
/-- at a call: where no argument holds a cell the callee sees none -/
def call (f : List D → AH → Out D) (ds : List D) (h : AH) : Out D :=
  if pureDs 0 ds = true then (match f ds [] with
    | .ok d h' => if pureD 0 d = true then .ok d h else .bad
    | .exc x h' => if pureX 0 x = true then .exc x h else .bad
    | .bad => .bad)
  else f ds h
def Sx.bare (s : Sx) : Sx := { s with ρ := { c := fun _ => none, x := none }, ah := [] }
theorem Good.bare {C : Cf} {s : Sx} (g : Good C s) : Good C s.bare where
  sub := g.sub
  tups := g.tups
  own := fun n ob e => by simp [Sx.bare, AH.get] at e
  inj := fun n m a k => by simp [Sx.bare, AH.get] at k
  dom := fun _ _ => rfl
/-- back from a callee that saw no cells -/
def Sx.back (s t : Sx) : Sx := { F := t.F, ρ := s.ρ, H := t.H, ah := s.ah }
theorem back_ok {C : Cf} {s t : Sx} (g : Good C s) (f : Fwd s.bare t) (gt : Good C t) : Fwd s (s.back t) ∧ Good C (s.back t) := by
  have fr : ∀ a o, s.H a = some o → t.H a = some o := fun a o e => f.frame a o e fun n z => nomatch z
  refine ⟨⟨f.sub, .refl _, fun a o e _ => fr a o e, fun n a e k => .inl ⟨e, k⟩, fun a o e => ⟨o, fr a o e⟩, fun a o e => ?_⟩, ⟨gt.sub, gt.tups, fun n ob e => ?_, g.inj, g.dom⟩⟩
  · rcases f.still a o e with z | z | ⟨n, z, _⟩
    · exact .inl z
    · exact .inr (.inl z)
    · exact nomatch z
  · obtain ⟨a, e1, e2, e3⟩ := g.own n ob e
    obtain ⟨o', z⟩ := e3.there
    refine ⟨a, e1, ?_, e3.mono f.sub (.refl _) ((fr a o' z).trans z.symm)⟩
    cases q : t.F a with
    | none => exact q
    | some o =>
      rcases f.still a o q with y | y | ⟨n, y, _⟩
      · exact absurd (show s.F a = some o from y) (by rw [e2]; exact fun z => nomatch z)
      · exact absurd (show s.H a = none from y) (by rw [z]; exact fun z => nomatch z)
      · exact nomatch y
theorem REq.zero (ρ ρ' : Rho) : REq 0 ρ ρ' := fun n l => absurd l (by omega)
def callP (f : List D → AH → Out D) (ds : List D) (h : AH) : Out D := if pureDs 0 ds = true then call f ds h else .bad
/-- the promise as a caller takes it -/
theorem spM.call {C : Cf} {W : WX} {σ : St} {s : Sx} {Q : VK} {n : Nat} {f : List D → AH → Out D} {ds : List D} {vs : List V} (ex : s.ρ.x = none ∨ pureDs 0 ds = true) (g : Good C s) (r : Rs C s.F s.ρ ds vs) (l : ds.length = n) (h : Post C W σ (rD C) s Q (call f ds s.ah)) :
    spM C n f vs s.H Q (fun cls od H => W cls od σ H) := by
  unfold Ws.call at h
  by_cases p : pureDs 0 ds = true
  · rw [if_pos p] at h
    refine ⟨s.bare, ds, rfl, rfl, g.bare, Rs.pure (REq.zero _ _) p r, l, ?_⟩
    show Post C _ _ _ s.bare Q (f ds [])
    cases e : f ds [] with
    | ok d h' =>
      rw [e] at h
      dsimp only at h
      split at h
      · rename_i pd
        intro t v e1 ft gt rt
        obtain ⟨f2, g2⟩ := back_ok g ft gt
        exact h (s.back t) v rfl f2 g2 (R.pure (REq.zero _ _) pd rt)
      · exact h.elim
    | exc x h' =>
      rw [e] at h
      dsimp only at h
      split at h
      · rename_i pd
        intro t od e1 ft gt rt
        obtain ⟨f2, g2⟩ := back_ok g ft gt
        refine h (s.back t) od rfl f2 g2 ?_
        rcases rt with rt | ⟨d, gs, e1, e2, rt⟩
        · exact .inl rt
        · exact .inr ⟨d, gs, e1, e2, Rf.pure (REq.zero _ _) pd rt⟩
      · exact h.elim
    | bad => rw [e] at h; exact h
  · rw [if_neg p] at h
    refine ⟨s, ds, rfl, ex.resolve_right p, g, r, l, ?_⟩
    cases e : f ds s.ah with
    | ok d h' => rw [e] at h; exact h
    | exc x h' => rw [e] at h; exact h
    | bad => rw [e] at h; exact h
end Ws

set_option Elab.async false
set_option linter.all false
set_option maxRecDepth 100000
namespace Ws
open PySem L2
/-! ### statements -/
inductive SOut where
  | nx (σ : Sl) (h : AH) | rt (d : D) (h : AH) | bk (σ : Sl) (h : AH) | ct (σ : Sl) (h : AH) | exc (x : Exc) (σ : Sl) (h : AH) | bad
abbrev SM := Sl → AH → SOut
def PostS (C : Cf) (W : WX) (s : Sx) (D : Ends) : SOut → Prop
  | .nx dσ h => ∀ s' σ, s'.ah = h → Fwd s s' → Good C s' → RS C s' σ dσ → D.nx σ s'.H
  | .rt d h => ∀ s' v, s'.ah = h → Fwd s s' → Good C s' → R C s'.F s'.ρ d v → D.rt v s'.H
  | .bk dσ h => ∀ s' σ, s'.ah = h → Fwd s s' → Good C s' → RS C s' σ dσ → D.bk σ s'.H
  | .ct dσ h => ∀ s' σ, s'.ah = h → Fwd s s' → Good C s' → RS C s' σ dσ → D.ct σ s'.H
  | .exc x dσ h => ∀ s' σ od, s'.ah = h → Fwd s s' → Good C s' → RS C s' σ dσ → XR C s' x od → W (.ref (He.ga C.K x.c)) od σ s'.H
  | .bad => False
def tS (C : Cf) (ε : Option (Addr × Str × Option Addr)) (W : WX) (m : SM) : TS := fun D σ H => ∃ s dσ, s.H = H ∧ s.ρ.x = ε ∧ Good C s ∧ RS C s σ dσ ∧ PostS C W s D (m dσ s.ah)
abbrev MS (X : Cx) (C : Cf) (ε : Option (Addr × Str × Option Addr)) (W : WX) (st : Stmt) (m : SM) : Prop := PS X st (tS C ε W m)
abbrev MSs (X : Cx) (C : Cf) (ε : Option (Addr × Str × Option Addr)) (W : WX) (st : List Stmt) (m : SM) : Prop := PSs X st (tS C ε W m)
section
variable {C : Cf} {ε : Option (Addr × Str × Option Addr)} {W : WX} {s s' : Sx} {D : Ends} {o : SOut} {σ : St} {dσ : Sl}
theorem PostS.fwd (f : Fwd s s') (h : PostS C W s D o) : PostS C W s' D o := by
  cases o with
  | nx => exact fun t v e g k r => h t v e (f.trans g) k r
  | rt => exact fun t v e g k r => h t v e (f.trans g) k r
  | bk => exact fun t v e g k r => h t v e (f.trans g) k r
  | ct => exact fun t v e g k r => h t v e (f.trans g) k r
  | exc => exact fun t v od e g k r => h t v od e (f.trans g) k r
  | bad => exact h
theorem PostS.here {h' : AH} (g : Good C s) (rs : RS C s σ dσ) (e : s.ah = h') (h : PostS C W s D (.nx dσ h')) : D.nx σ s.H := h s σ e (.refl s) g rs
/-- an expression, then what comes of its value -/
def bindS {α : Type} (o : Out α) (dσ : Sl) (k : α → AH → SOut) : SOut := match o with
  | .ok a h => k a h
  | .exc x h => .exc x dσ h
  | .bad => .bad
@[simp] theorem bindS_ok {α : Type} (a : α) (h : AH) (dσ : Sl) (k : α → AH → SOut) : bindS (.ok a h) dσ k = k a h := rfl
@[simp] theorem bindS_exc {α : Type} (x : Exc) (h : AH) (dσ : Sl) (k : α → AH → SOut) : bindS (.exc x h) dσ k = .exc x dσ h := rfl
@[simp] theorem bindS_bad {α : Type} (dσ : Sl) (k : α → AH → SOut) : bindS (.bad : Out α) dσ k = .bad := rfl
theorem PostS.bind {α β : Type} {r1 : Rl α β} {m : M α} {k : α → AH → SOut} {T : β → Hp → Prop} (ex : s.ρ.x = ε) (g : Good C s) (rs : RS C s σ dσ) (h : PostS C W s D (bindS (m dσ s.ah) dσ k))
    (hk : ∀ s' a b, s'.ρ.x = ε → Fwd s s' → Good C s' → RS C s' σ dσ → r1 s' a b → PostS C W s' D (k a s'.ah) → T b s'.H) : tG C ε W r1 m σ s.H T := by
  refine ⟨s, dσ, rfl, ex, g, rs, ?_⟩
  cases e : m dσ s.ah with
  | ok a h' =>
    rw [e] at h
    intro s' b e1 f g' r
    subst e1
    exact hk s' a b (f.rho.x.trans ex) f g' (rs.fwd f) r (PostS.fwd f h)
  | exc x h' =>
    rw [e] at h
    exact fun s' od e1 f g' r => h s' σ od e1 f g' (rs.fwd f) r
  | bad => rw [e] at h; exact h
end
/-! ### the words -/
def skip : SM := fun σ h => .nx σ h
def seqS (a b : SM) : SM := fun σ h => match a σ h with
  | .nx σ' h' => b σ' h'
  | o => o
def drop (m : M D) : SM := fun σ h => bindS (m σ h) σ fun _ h1 => .nx σ h1
def ret (m : M D) : SM := fun σ h => bindS (m σ h) σ fun d h1 => .rt d h1
def retN : SM := fun _ h => .rt .non h
def brk : SM := fun σ h => .bk σ h
def cont : SM := fun σ h => .ct σ h
def ifS (c : M Bool) (a b : SM) : SM := fun σ h => bindS (c σ h) σ fun x h1 => if x = true then a σ h1 else b σ h1
/-- targets -/
abbrev Tg := D → Sl → AH → Out Sl
def tgN (i : Nat) : Tg := fun d σ h => .ok (σ.set i (some d)) h
abbrev Tgs := List D → Sl → AH → Out Sl
def tgNil : Tgs := fun ds σ h => match ds with
  | [] => .ok σ h
  | _ => .bad
def tgCons (a : Tg) (b : Tgs) : Tgs := fun ds σ h => match ds with
  | d :: r => (a d σ h).bind fun σ1 h1 => b r σ1 h1
  | [] => .bad
def tgTup (b : Tgs) : Tg := fun d σ h => match d with
  | .tup xs => b xs σ h
  | _ => .bad
def asg (m : M D) (t : Tg) : SM := fun σ h => bindS (m σ h) σ fun d h1 => match t d σ h1 with
  | .ok σ2 h2 => .nx σ2 h2
  | _ => .bad
section
variable {X : Cx} {C : Cf} {ε : Option (Addr × Str × Option Addr)} {W : WX} {st : Stmt} {sts a b : List Stmt} {m1 m2 : SM} {e c : Expr} {me : M D} {mc : M Bool} {pos : Pos}
theorem ms_nil : MSs X C ε W [] skip := pss_nil.imp fun D σ H h => by
  obtain ⟨s, dσ, rfl, ex, g, rs, h⟩ := h
  exact PostS.here g rs rfl h
theorem ms_cons (h1 : MS X C ε W st m1) (h2 : MSs X C ε W sts m2) : MSs X C ε W (st :: sts) (seqS m1 m2) := (pss_cons h1 h2).imp fun D σ H h => by
  obtain ⟨s, dσ, rfl, ex, g, rs, h⟩ := h
  refine ⟨s, dσ, rfl, ex, g, rs, ?_⟩
  unfold seqS at h
  cases q : m1 dσ s.ah with
  | nx σ1 h1 =>
    rw [q] at h
    intro s' σ' e f g' rs'
    subst e
    exact ⟨s', σ1, rfl, f.rho.x.trans ex, g', rs', PostS.fwd f h⟩
  | rt => rw [q] at h; exact h
  | bk => rw [q] at h; exact h
  | ct => rw [q] at h; exact h
  | exc => rw [q] at h; exact h
  | bad => rw [q] at h; exact h
theorem ms_one (h1 : MS X C ε W st m1) : MSs X C ε W [st] m1 := pss_one h1
theorem ms_pass : MS X C ε W (.Pass pos) skip := ps_pass.imp fun D σ H h => by
  obtain ⟨s, dσ, rfl, ex, g, rs, h⟩ := h
  exact PostS.here g rs rfl h
theorem ms_brk : MS X C ε W (.Break pos) brk := ps_break.imp fun D σ H h => by
  obtain ⟨s, dσ, rfl, ex, g, rs, h⟩ := h
  exact h s σ rfl (.refl s) g rs
theorem ms_cont : MS X C ε W (.Continue pos) cont := ps_continue.imp fun D σ H h => by
  obtain ⟨s, dσ, rfl, ex, g, rs, h⟩ := h
  exact h s σ rfl (.refl s) g rs
theorem ms_expr (he : ME X C ε W e me) (hs : swapsWith e none pos.line X.env = pure false := by rfl) : MS X C ε W (.Expr e pos) (drop me) := (ps_expr he hs).imp fun D σ H h => by
  obtain ⟨s, dσ, rfl, ex, g, rs, h⟩ := h
  exact PostS.bind ex g rs h fun s1 x v e1 f1 g1 rs1 r1 h1 => PostS.here g1 rs1 rfl h1
theorem ms_ret (he : ME X C ε W e me) : MS X C ε W (.Return (some e) pos) (ret me) := (ps_ret he).imp fun D σ H h => by
  obtain ⟨s, dσ, rfl, ex, g, rs, h⟩ := h
  exact PostS.bind ex g rs h fun s1 x v e1 f1 g1 rs1 r1 h1 => h1 s1 v rfl (.refl s1) g1 r1
theorem ms_retN : MS X C ε W (.Return none pos) retN := ps_retN.imp fun D σ H h => by
  obtain ⟨s, dσ, rfl, ex, g, rs, h⟩ := h
  exact h s .non rfl (.refl s) g (by unfold R; rfl)
theorem ms_if (hc : MT X C ε W c mc) (ha : MSs X C ε W a m1) (hb : MSs X C ε W b m2) : MS X C ε W (.If c a b pos) (ifS mc m1 m2) := (ps_if hc ha hb).imp fun D σ H h => by
  obtain ⟨s, dσ, rfl, ex, g, rs, h⟩ := h
  refine PostS.bind ex g rs h fun s1 x v e1 f1 g1 rs1 r1 h1 => ?_
  subst r1
  by_cases hx : x = true
  · rw [if_pos hx] at h1 ⊢; exact ⟨s1, dσ, rfl, e1, g1, rs1, h1⟩
  · rw [if_neg hx] at h1 ⊢; exact ⟨s1, dσ, rfl, e1, g1, rs1, h1⟩
/-! ### targets -/
def PostT (C : Cf) (s : Sx) (Q : St → Hp → Prop) : Out Sl → Prop
  | .ok dσ h => ∀ s' σ, s'.ah = h → Fwd s s' → Good C s' → RS C s' σ dσ → Q σ s'.H
  | _ => False
theorem PostT.fwd {s s' : Sx} {Q : St → Hp → Prop} {o : Out Sl} (f : Fwd s s') (h : PostT C s Q o) : PostT C s' Q o := by
  cases o with
  | ok => exact fun t v e g k r => h t v e (f.trans g) k r
  | _ => exact h
def tT (C : Cf) (ε : Option (Addr × Str × Option Addr)) (t : Tg) : TG := fun v σ H Q => ∃ s dσ d, s.H = H ∧ s.ρ.x = ε ∧ Good C s ∧ RS C s σ dσ ∧ R C s.F s.ρ d v ∧ PostT C s Q (t d dσ s.ah)
def tTs (C : Cf) (ε : Option (Addr × Str × Option Addr)) (t : Tgs) : TGs := fun vs σ H Q => ∃ s dσ ds, s.H = H ∧ s.ρ.x = ε ∧ Good C s ∧ RS C s σ dσ ∧ Rs C s.F s.ρ ds vs ∧ PostT C s Q (t ds dσ s.ah)
abbrev MG (X : Cx) (C : Cf) (ε : Option (Addr × Str × Option Addr)) (e : Expr) (t : Tg) : Prop := PG X e (tT C ε t)
abbrev MGs (X : Cx) (C : Cf) (ε : Option (Addr × Str × Option Addr)) (e : List Expr) (t : Tgs) : Prop := PGs X e (tTs C ε t)
theorem _root_.L2.PG.imp {X : Cx} {e : Expr} {t t' : TG} (h : PG X e t) (k : ∀ v σ H Q, t' v σ H Q → t v σ H Q) : PG X e t' := ⟨fun pins s σ H v u Q I r q => h.run pins s σ H v u Q I r (k v σ H Q q)⟩
theorem _root_.L2.PGs.imp {X : Cx} {e : List Expr} {t t' : TGs} (h : PGs X e t) (k : ∀ v σ H Q, t' v σ H Q → t v σ H Q) : PGs X e t' := ⟨fun pins s σ H v u Q I r q => h.run pins s σ H v u Q I r (k v σ H Q q)⟩
theorem mg_name {i : Nat} {x : Str} (hN : X.N.Nodup) (hi : X.N[i]? = some x) (hx : Loc X.env.scope x) (hf : X.fn x = true ∨ X.env.scope.names.lookup x = some .local := by first | exact .inl rfl | exact .inr rfl | assumption) : MG X C ε (.Name x pos) (tgN i) :=
  (pg_name hN hi hx hf).imp fun v σ H Q h => by
    obtain ⟨s, dσ, d, rfl, ex, g, rs, r, h⟩ := h
    exact h s _ rfl (.refl s) g (rs.set r)
theorem mgs_nil : MGs X C ε [] tgNil := pgs_nil.imp fun v σ H Q h => by
  obtain ⟨s, dσ, ds, rfl, ex, g, rs, r, h⟩ := h
  cases ds with
  | nil => exact ⟨by unfold Rs at r; exact r, h s _ rfl (.refl s) g rs⟩
  | cons => exact h.elim
theorem mgs_cons {es : List Expr} {t : Tg} {u : Tgs} (h1 : MG X C ε e t) (h2 : MGs X C ε es u) (hs : (assignEach (e :: es) X.env).map (·.2) = assign e X.env :: (assignEach es X.env).map (·.2) := by rfl) : MGs X C ε (e :: es) (tgCons t u) :=
  (pgs_cons h1 h2 hs).imp fun v σ H Q h => by
    obtain ⟨s, dσ, ds, rfl, ex, g, rs, r, h⟩ := h
    cases ds with
    | nil => exact h.elim
    | cons d ds =>
      unfold Rs at r
      obtain ⟨v1, vr, rfl, rd, rr⟩ := r
      refine ⟨v1, vr, rfl, s, dσ, d, rfl, ex, g, rs, rd, ?_⟩
      have h' : PostT C s Q ((t d dσ s.ah).bind fun σ1 h1 => u ds σ1 h1) := h
      cases q : t d dσ s.ah with
      | ok σ1 h1 =>
        rw [q] at h'
        intro s' σ' e f g' rs'
        subst e
        exact ⟨s', σ1, ds, rfl, f.rho.x.trans ex, g', rs', rr.fwd f, PostT.fwd f h'⟩
      | exc => rw [q] at h'; exact h'
      | bad => rw [q] at h'; exact h'
theorem mg_tup {es : List Expr} {k : Nat} {t : Tgs} {n : Nat} (hc : X.calm = true) (hK : C.K = X.K) (h : MGs X C ε es t) (hn : (assignEach es X.env).length = n := by rfl) (hst : (assignEach es X.env).findIdx? (·.1) = none := by rfl)
    (hl : ∀ ds dσ h, t ds dσ h ≠ .bad → ds.length = n) : MG X C ε (.Tuple es k pos) (tgTup t) := (pg_tup hc h hn hst).imp fun v σ H Q h => by
  obtain ⟨s, dσ, d, rfl, ex, g, rs, r, h⟩ := h
  cases d with
  | tup xs =>
    unfold R at r
    obtain ⟨a, ys, rfl, fa, rr⟩ := r
    have h' : PostT C s Q (t xs dσ s.ah) := h
    refine ⟨a, ys, rfl, SqT.of (g.sub _ _ fa), ?_, s, dσ, xs, rfl, ex, g, rs, rr, h'⟩
    rw [← rr.length]
    exact hl xs dσ s.ah fun z => by rw [z] at h'; exact h'
  | _ => exact h.elim
theorem ms_asg {tg : Expr} {t : Tg} (he : ME X C ε W e me) (hg : MG X C ε tg t) (hs : swapsWithSole [tg] e pos.line X.env = pure false := by rfl) (hw : swappedStores [tg] e X.env = pure none := by rfl) (h1 : (assignEach [tg] X.env).map (·.2) = [assign tg X.env] := by rfl) :
    MS X C ε W (.Assign [tg] e pos) (asg me t) := (ps_asg he hg hs hw h1).imp fun D σ H h => by
  obtain ⟨s, dσ, rfl, ex, g, rs, h⟩ := h
  refine PostS.bind ex g rs h fun s1 x v e1 f1 g1 rs1 r1 h1 => ?_
  refine ⟨s1, dσ, x, rfl, e1, g1, rs1, r1, ?_⟩
  cases q : t x dσ s1.ah with
  | ok σ2 h2 => rw [q] at h1; exact h1
  | exc => rw [q] at h1; exact h1
  | bad => rw [q] at h1; exact h1
theorem ms_set {i : Nat} {x : Str} {pos' : Pos} (hN : X.N.Nodup) (hi : X.N[i]? = some x) (hx : Loc X.env.scope x) (he : ME X C ε W e me) (hs : swapsWith e (some (.Name x pos')) pos.line X.env = pure false := by rfl) (hf : X.fn x = true ∨ X.env.scope.names.lookup x = some .local := by first | exact .inl rfl | exact .inr rfl | assumption) :
    MS X C ε W (.Assign [.Name x pos'] e pos) (asg me (tgN i)) := (ps_set hN hi hx he hs hf).imp fun D σ H h => by
  obtain ⟨s, dσ, rfl, ex, g, rs, h⟩ := h
  refine PostS.bind ex g rs h fun s1 x v e1 f1 g1 rs1 r1 h1 => ?_
  exact PostS.here g1 (rs1.set r1) rfl h1
end
/-! ### a def's body -/
def startD (n : Nat) (ds : List D) : Sl := ds.map some ++ List.replicate (n - ds.length) none
def outD : SOut → Out D
  | .nx _ h => .ok .non h
  | .rt d h => .ok d h
  | .exc x _ h => .exc x h
  | _ => .bad
/-- a def with n names, its body m -/
def fn (n : Nat) (m : SM) : List D → AH → Out D := fun ds h => leave h.length (outD (m (startD n ds) h))
theorem Rs.get {C : Cf} {F : Hp} {ρ : Rho} : ∀ {ds : List D} {vs : List V} {i : Nat} {d : D}, Rs C F ρ ds vs → ds[i]? = some d → ∃ v, vs[i]? = some v ∧ R C F ρ d v
  | [], _, _, _, _, e => by simp at e
  | x :: xs, vs, 0, d, h, e => by
    unfold Rs at h
    obtain ⟨v, r, rfl, a, b⟩ := h
    simp at e; subst e
    exact ⟨v, rfl, a⟩
  | x :: xs, vs, i + 1, d, h, e => by
    unfold Rs at h
    obtain ⟨v, r, rfl, a, b⟩ := h
    obtain ⟨w, h1, h2⟩ := Rs.get (i := i) b (by simpa using e)
    exact ⟨w, by simpa using h1, h2⟩
theorem RS.start {C : Cf} {s : Sx} {N : List Str} {ds : List D} {vs : List V} (r : Rs C s.F s.ρ ds vs) : RS C s (L2.start N vs) (startD N.length ds) := by
  refine ⟨by unfold L2.start startD; simp [r.length], fun i d e => ?_⟩
  unfold startD at e
  have hi : i < ds.length := by
    by_cases hi : i < ds.length
    · exact hi
    · rw [List.getElem?_append_right (by simpa using hi), List.getElem?_replicate] at e
      split at e <;> cases e
  rw [List.getElem?_append_left (by simpa using hi), List.getElem?_map] at e
  cases q : ds[i]? with
  | none => rw [q] at e; cases e
  | some d' =>
    rw [q] at e; cases e
    obtain ⟨v, h1, h2⟩ := r.get q
    refine ⟨v, ?_, h2⟩
    unfold L2.start
    rw [List.getElem?_append_left (by rw [List.length_map, ← r.length]; exact hi), List.getElem?_map, h1]
    rfl
section
variable {C : Cf} {mg : Str → Option Value} {base : Heap} {x qual : Str} {params : Arguments} {body : List Stmt} {scope : Scope} {dvs : List V} {kws : List (Str × V)} {f : Addr} {fd : FuncData} {N ps : List Str} {k : Nat}
/-- THE RULE of a def -/
theorem fn_ok (F : FunD C.K x qual params body scope dvs kws f fd) (S : FnScope N ps scope) {m : SM}
    (hbody : ∀ (cdv : Value) (A : Around) (outer : List Env) (s : Shared) (H : Hp) (E : XK), Room k (A.deeper (PyProof.Rows.envOfC qual scope s.heap.objs.size f cdv)) →
      MSs (cxOf (L2.CX C.P C.w) C.P C.w C.K mg base N qual scope f cdv A outer s H E) C none (fun cls od _ H => E cls od H) body m) :
    FnOk C.P C.w C.K mg base (L2.CX C.P C.w) (k + 1) f fd ps (spM C ps.length (fn N.length m)) := by
  refine F.ok S (fun vs H Q E h => h.len) fun cdv A outer s H vs Q E hr hsp => ⟨_, hbody cdv A outer s H E hr, ?_⟩
  obtain ⟨sx, ds, rfl, ex, g, r, l, h⟩ := hsp
  have h := Post.leave g h
  refine ⟨sx, startD N.length ds, rfl, ex, g, RS.start r, ?_⟩
  cases q : m (startD N.length ds) sx.ah with
  | nx σ' h' =>
    rw [q] at h
    exact fun s' σ e f g' rs => h s' .non e f g' (by unfold R; rfl)
  | rt d h' =>
    rw [q] at h
    exact fun s' v e f g' r => h s' v e f g' r
  | exc x σ' h' =>
    rw [q] at h
    exact fun s' σ od e f g' rs r => h s' od e f g' r
  | bk => rw [q] at h; exact h.elim
  | ct => rw [q] at h; exact h.elim
  | bad => rw [q] at h; exact h.elim
/-- a def's reckoning by another function, where that one is not bad -/
theorem fn_as {n : Nat} {g g' : List D → AH → Out D} (F : FnOk C.P C.w C.K mg base (L2.CX C.P C.w) k f fd ps (spM C n g)) (h : ∀ ds ah, g' ds ah ≠ .bad → g ds ah = g' ds ah) : FnOk C.P C.w C.K mg base (L2.CX C.P C.w) k f fd ps (spM C n g') :=
  F.imp fun vs H Q E hs => by
    obtain ⟨s, ds, e, ex, gd, r, l, hp⟩ := hs
    refine ⟨s, ds, e, ex, gd, r, l, ?_⟩
    rw [h ds s.ah fun z => by rw [z] at hp; exact hp]
    exact hp
end
end Ws

set_option Elab.async false
set_option linter.all false
set_option maxRecDepth 100000
set_option autoImplicit false
namespace Ws
open PySem PySem.Spec PyProof.Rows L2
/-! ### calls of the text's own defs -/
abbrev Ep := Option (Addr × Str × Option Addr)
/-- what stands around a body: the config is the context's -/
structure At (X : Cx) (C : Cf) : Prop where
  P : X.prog = C.P
  w : X.w = C.w
  K : X.K = C.K
abbrev FnM (X : Cx) (C : Cf) (k : Nat) (f : Addr) (fd : FuncData) (ps : List Str) (g : List D → AH → Out D) : Prop := FnOk X.prog X.w X.K X.mg X.base (L2.CX X.prog X.w) k f fd ps (spM C ps.length g)
section
variable {X : Cx} {C : Cf} {W : WX} {k : Nat} {f cA : Addr} {fd : FuncData} {ps : List Str} {g : List D → AH → Out D} {x m c : Str} {p pos apos : Pos} {e o : Expr} {es : List Expr} {mr : M (List D)} {mo : M D} {ds : List Value} {dvs : List V} {dds : List D}
/-- the constants that fill up -/
def Filled (C : Cf) (dds : List D) (dvs : List V) : Prop := ∀ F ρ, Rs C F ρ dds dvs
theorem Filled.nil : Filled C [] [] := fun _ _ => by unfold Rs; rfl
theorem Rs.app {F : Hp} {ρ : Rho} : ∀ {a b : List D} {u v : List V}, Rs C F ρ a u → Rs C F ρ b v → Rs C F ρ (a ++ b) (u ++ v)
  | [], b, u, v, h, k => by unfold Rs at h; subst h; exact k
  | d :: a, b, u, v, h, k => by
    unfold Rs at h
    obtain ⟨y, r, rfl, q, h⟩ := h
    show Rs C F ρ (d :: (a ++ b)) (y :: (r ++ v))
    unfold Rs
    exact ⟨y, r ++ v, rfl, q, Rs.app h k⟩
/-- n arguments at least -/
def callN (n : Nat) (g : List D → AH → Out D) (ds : List D) (h : AH) : Out D := if ds.length = n then call g ds h else .bad
/-- .. and what fills up -/
def cal (n : Nat) (dds : List D) (g : List D → AH → Out D) (ds : List D) (h : AH) : Out D := callN n g (ds ++ dds) h
theorem me_call (tk : Takes X W) (F : FnM X C k f fd ps g) (hr : Room k X.A) (hg : Gl X x) (hm : X.mg x = some (.ref f)) (hk : PySem.W.keepIn X.K (.ref f) = true) (hb : Binds X.K fd ps ds) (hd : Vals dvs ds) (fl : Filled C dds dvs)
    (ha : MA X C none W (e :: es) mr) (hdb : (x == ("__debug__" : Str)) = false := by decide) (he : starEach (e :: es) X.env = (false, eval e X.env) :: starEach es X.env := by rfl) (hpl : (backTo pos (starEach es X.env)).any (·.1) = false := by rfl) :
    ME X C none W (.Call (.Name x p) (e :: es) [] pos) (app (cal ps.length dds g) mr) :=
  (pe_callSD (E := fun σ cls od H => W cls od σ H) F hr hg hm hk hb hd (fun σ => passAt tk σ) ha hdb he hpl).imp fun σ H Q h => by
    obtain ⟨s, dσ, rfl, ex, gd, rs, h⟩ := h
    refine Post.bind ex gd rs h fun s1 x v e1 f1 g1 rs1 r1 h1 => ?_
    unfold cal callN at h1
    split at h1
    · rename_i l
      exact spM.call (.inl e1) g1 (Rs.app r1 (fl _ _)) l h1
    · exact h1.elim
theorem me_call0 (tk : Takes X W) (F : FnM X C k f fd ps g) (hr : Room k X.A) (hg : Gl X x) (hm : X.mg x = some (.ref f)) (hk : PySem.W.keepIn X.K (.ref f) = true) (hb : Binds X.K fd ps ds) (hd : Vals dvs ds) (fl : Filled C dds dvs)
    (hdb : (x == ("__debug__" : Str)) = false := by decide) : ME X C none W (.Call (.Name x p) [] [] pos) (fun _ h => callN ps.length g dds h) := by
  refine ⟨fun pins s σ H Q I h => ?_⟩
  obtain ⟨sx, dσ, rfl, ex, gd, rs, h⟩ := h
  refine wpAny_Call_Name_kw (ld_glob I hg hm ?_ hdb)
  refine PySem.W.callWith_K0 I.kIn hk (run_fnSD (us := []) (vs := []) (E := fun σ cls od H => W cls od σ H) F hr hb hd (passAt tk σ) I .nil ?_)
  unfold callN at h
  split at h
  · rename_i l
    exact spM.call (.inl ex) gd (fl _ _) l h
  · exact h.elim
/-! ### methods -/
/-- an instance: its class and fields -/
def insOf (d : D) (h : AH) : Option (Str × List (Str × D)) := match d with
  | .ins c fs => some (c, fs)
  | .cell n => (match h.get n with
    | some (.ins c fs) => some (c, fs)
    | _ => none)
  | _ => none
theorem Rf.lookup {F : Hp} {ρ : Rho} {y : Str} : ∀ {fs : List (Str × D)} {gs : List (Str × V)}, Rf C F ρ fs gs → match fs.lookup y with
    | some d => ∃ v, gs.lookup y = some v ∧ R C F ρ d v
    | none => gs.lookup y = none
  | [], gs, h => by unfold Rf at h; subst h; simp
  | (z, d) :: fs, gs, h => by
    unfold Rf at h
    obtain ⟨v, r, rfl, q, h⟩ := h
    rw [List.lookup_cons, List.lookup_cons]
    cases e : y == z with
    | true => exact ⟨v, rfl, q⟩
    | false => exact Rf.lookup h
theorem insOf_ok {s : Sx} {d : D} {v : V} {fs : List (Str × D)} (g : Good C s) (r : R C s.F s.ρ d v) (h : insOf d s.ah = some (c, fs)) : ∃ a dx gs, v = .ref a ∧ s.H a = some (.ins (He.ga C.K c) dx gs) ∧ Rf C s.F s.ρ fs gs := by
  cases d with
  | ins c' fs' =>
    unfold insOf at h
    cases h
    unfold R at r
    obtain ⟨a, dx, gs, e, q, z⟩ := r
    exact ⟨a, dx, gs, e, g.sub _ _ q, z⟩
  | cell n =>
    unfold insOf at h
    unfold R at r
    obtain ⟨a, e, q⟩ := r
    dsimp only at h
    split at h
    · rename_i c' fs' e'
      cases h
      obtain ⟨a', q1, q2, dx, gs, z1, z2⟩ := g.own n _ e'
      rw [q] at q1; cases q1
      exact ⟨a, dx, gs, e, z1, z2⟩
    · cases h
  | _ => unfold insOf at h; cases h
/-- o.m(..), o an instance of the class c -/
def meth (c m : Str) (g : List D → AH → Out D) (mo : M D) (mr : M (List D)) : M D := fun σ h => (mo σ h).bind fun o h1 => match insOf o h1 with
  | some (c', fs) => if c' = c ∧ (fs.lookup m).isNone = true then (mr σ h1).bind fun ds h2 => g (o :: ds) h2 else .bad
  | none => .bad
theorem me_meth {pl : Sem Bool} (tk : Takes X W) (hK : X.K = C.K) (he : ME X C none W o mo) (cl : Cls X.K (He.ga X.K c)) (hm : Meth X.K (He.ga X.K c) m f) (F : FnM X C k f fd ps g) (hr : Room k X.A) (hb : Binds X.K fd ps ds) (hd : Vals dvs ds) (fl : Filled C dds dvs) (ha : MA X C none W (e :: es) mr)
    (hst : starEach (e :: es) X.env = (false, eval e X.env) :: starEach es X.env := by rfl) (hpl : (backTo pos (starEach es X.env)).any (·.1) = false := by rfl)
    (ht : eval (.Call (.Attribute o m apos) (e :: es) [] pos) X.env = (do let ov ← eval o X.env; standAt apos.atName; let (f, first) ← holding [ov] (getMethod ov m pl); callWith pos f first (backTo pos (starEach (e :: es) X.env)) (backToKw pos (keywordEach [] X.env))) := by rfl) :
    ME X C none W (.Call (.Attribute o m apos) (e :: es) [] pos) (meth c m (cal ps.length dds g) mo mr) := by
  refine ⟨fun pins s σ H Q I h => ?_⟩
  obtain ⟨sx, dσ, rfl, ex, gd, rs, h⟩ := h
  refine PySem.W.methodCall_KW (pl := pl) (thn (he.run pins s σ _ _ I (Post.bind (T := fun v H1 => ∃ a dx fs, v = .ref a ∧ H1 a = some (.ins (He.ga X.K c) dx fs) ∧ fs.lookup m = none ∧ tG C none W (rDs C) mr σ H1 fun vs H2 => spM C ps.length g (v :: (vs ++ dvs)) H2 Q (fun cls od H => W cls od σ H)) ex gd rs h ?_))
    fun u s1 ⟨x, H1, I1, rx, a, dx, fs, ey, ea, l, q⟩ => ?_) ht
  · intro s1 x v e1 f1 g1 rs1 r1 h1
    split at h1
    · rename_i c' fs e2
      split at h1
      · rename_i hc
        obtain ⟨rfl, hl⟩ := hc
        obtain ⟨a, dx, gs, ev, ea, rf⟩ := insOf_ok g1 r1 e2
        have hl2 : gs.lookup m = none := by
          have z := Rf.lookup (y := m) rf
          cases q : fs.lookup m with
          | none => rw [q] at z; exact z
          | some d => rw [q] at hl; cases hl
        refine ⟨a, dx, gs, ev, (by rw [hK]; exact ea), hl2, Post.bind e1 g1 rs1 h1 fun s2 ds us e3 f2 g2 rs2 r2 h2 => ?_⟩
        unfold cal callN at h2
        split at h2
        · rename_i l
          refine spM.call (ds := x :: ds ++ dds) (.inl e3) g2 ?_ l h2
          show Rs C s2.F s2.ρ (x :: (ds ++ dds)) (v :: (us ++ dvs))
          unfold Rs
          exact ⟨v, us ++ dvs, rfl, r1.fwd f2, Rs.app r2 (fl _ _)⟩
        · exact h2.elim
      · exact h1.elim
    · exact h1.elim
  · subst ey
    obtain rfl : u = Value.ref a := rx
    refine getmeth_ok I1 ea cl hm l ?_
    refine PySem.W.callWith_K (first := [.ref a]) (h₀ := X.base) I.ok.mod.kin hm.kp (thn (ha.run pos pins s1 σ H1 _ I1 q) fun us s2 ⟨vs, H2, I2, r, q2⟩ => ⟨I2.kIn, ?_⟩) hst hpl
    exact run_fnSD (us := .ref a :: us) (vs := .ref a :: vs) (E := fun σ cls od H => W cls od σ H) F hr hb hd (passAt tk σ) I2 (.cons rfl r) q2
theorem me_meth0 {pl : Sem Bool} (tk : Takes X W) (hK : X.K = C.K) (he : ME X C none W o mo) (cl : Cls X.K (He.ga X.K c)) (hm : Meth X.K (He.ga X.K c) m f) (F : FnM X C k f fd ps g) (hr : Room k X.A) (hb : Binds X.K fd ps ds) (hd : Vals dvs ds) (fl : Filled C dds dvs)
    (ht : eval (.Call (.Attribute o m apos) [] [] pos) X.env = (do let ov ← eval o X.env; standAt apos.atName; let (f, first) ← holding [ov] (getMethod ov m pl); callWith pos f first (backTo pos (starEach [] X.env)) (backToKw pos (keywordEach [] X.env))) := by rfl) :
    ME X C none W (.Call (.Attribute o m apos) [] [] pos) (meth c m (cal ps.length dds g) mo nilA) := by
  refine ⟨fun pins s σ H Q I h => ?_⟩
  obtain ⟨sx, dσ, rfl, ex, gd, rs, h⟩ := h
  refine PySem.W.methodCall_KW (pl := pl) (thn (he.run pins s σ _ _ I (Post.bind (T := fun v H1 => ∃ a dx fs, v = .ref a ∧ H1 a = some (.ins (He.ga X.K c) dx fs) ∧ fs.lookup m = none ∧ spM C ps.length g (v :: dvs) H1 Q (fun cls od H => W cls od σ H)) ex gd rs h ?_))
    fun u s1 ⟨x, H1, I1, rx, a, dx, fs, ey, ea, l, q⟩ => ?_) ht
  · intro s1 x v e1 f1 g1 rs1 r1 h1
    split at h1
    · rename_i c' fs e2
      split at h1
      · rename_i hc
        obtain ⟨rfl, hl⟩ := hc
        obtain ⟨a, dx, gs, ev, ea, rf⟩ := insOf_ok g1 r1 e2
        have hl2 : gs.lookup m = none := by
          have z := Rf.lookup (y := m) rf
          cases q : fs.lookup m with
          | none => rw [q] at z; exact z
          | some d => rw [q] at hl; cases hl
        refine ⟨a, dx, gs, ev, (by rw [hK]; exact ea), hl2, ?_⟩
        have h2 : Post C W σ (rD C) s1 Q (callN ps.length g ([x] ++ dds) s1.ah) := h1
        unfold callN at h2
        split at h2
        · rename_i l
          refine spM.call (ds := [x] ++ dds) (.inl e1) g1 ?_ l h2
          show Rs C s1.F s1.ρ (x :: dds) (v :: dvs)
          unfold Rs
          exact ⟨v, dvs, rfl, r1, fl _ _⟩
        · exact h2.elim
      · exact h1.elim
    · exact h1.elim
  · subst ey
    obtain rfl : u = Value.ref a := rx
    refine getmeth_ok I1 ea cl hm l ?_
    exact PySem.W.callWith_K0 (first := [.ref a]) I1.kIn hm.kp (run_fnSD (us := [.ref a]) (vs := [.ref a]) (E := fun σ cls od H => W cls od σ H) F hr hb hd (passAt tk σ) I1 (.cons rfl .nil) q)
/-- one of two -/
def orM (a b : M D) : M D := fun σ h => match a σ h with
  | .bad => b σ h
  | o => o
theorem me_orM {ε : Ep} {a b : M D} (ha : ME X C ε W e a) (hb : ME X C ε W e b) : ME X C ε W e (orM a b) := ⟨fun pins s σ H Q I h => by
  obtain ⟨sx, dσ, rfl, ex, gd, rs, h⟩ := h
  unfold orM at h
  cases q : a dσ sx.ah with
  | bad => rw [q] at h; exact hb.run pins s σ _ Q I ⟨sx, dσ, rfl, ex, gd, rs, h⟩
  | ok => rw [q] at h; exact ha.run pins s σ _ Q I ⟨sx, dσ, rfl, ex, gd, rs, (by rw [q]; exact h)⟩
  | exc => rw [q] at h; exact ha.run pins s σ _ Q I ⟨sx, dσ, rfl, ex, gd, rs, (by rw [q]; exact h)⟩⟩
/-! ### fields -/
def fld (y : Str) (mo : M D) : M D := fun σ h => (mo σ h).bind fun o h1 => match insOf o h1 with
  | some (_, fs) => (match fs.lookup y with
    | some d => .ok d h1
    | none => .bad)
  | none => .bad
/-- the classes whose instances have the field y for their own -/
def HasF (X : Cx) (cs : List Str) (y : Str) : Prop := ∀ c ∈ cs, Cls X.K (He.ga X.K c) ∧ NoAttr X.K (He.ga X.K c) y
def fldC (cs : List Str) (y : Str) (mo : M D) : M D := fun σ h => (mo σ h).bind fun o h1 => match insOf o h1 with
  | some (c, fs) => if c ∈ cs then (match fs.lookup y with
    | some d => .ok d h1
    | none => .bad) else .bad
  | none => .bad
theorem me_fld {ε : Ep} {cs : List Str} (hK : X.K = C.K) (he : ME X C ε W e mo) (hc : HasF X cs x) (hb : attributeBase e x X.env (eval e X.env) = eval e X.env := by rfl) : ME X C ε W (.Attribute e x pos) (fldC cs x mo) := (pe_fld he hb).imp fun σ H Q h => by
  obtain ⟨s, dσ, rfl, ex, gd, rs, h⟩ := h
  refine Post.bind ex gd rs h fun s1 d v e1 f1 g1 rs1 r1 h1 => ?_
  split at h1
  · rename_i c fs e2
    split at h1
    · rename_i hcs
      obtain ⟨a, dx, gs, ev, ea, rf⟩ := insOf_ok g1 r1 e2
      have z := Rf.lookup (y := x) rf
      cases q : fs.lookup x with
      | none => rw [q] at h1; exact h1.elim
      | some d' =>
        rw [q] at h1 z
        obtain ⟨v', l, rv⟩ := z
        exact ⟨a, _, dx, gs, v', ev, (by rw [hK]; exact ea), (hc c hcs).1, (hc c hcs).2, l, Post.here g1 h1 rv⟩
    · exact h1.elim
  · exact h1.elim
end
end Ws

set_option Elab.async false
set_option linter.all false
set_option maxRecDepth 100000
set_option autoImplicit false
namespace Ws
open PySem PySem.Spec PyProof.Rows L2
/-! ### new instances -/
/-- C(..): the new instance stands in a cell while __init__ (g) runs; then it stays as it is -/
def make (c : Str) (g : List D → AH → Out D) (ds : List D) (h : AH) : Out D :=
  if pureDs 0 ds = true then (match g (.cell 0 :: ds) [some (.ins c [])] with
    | .ok .non [some (.ins c' fs)] => if pureF 0 fs = true then .ok (.ins c' fs) h else .bad
    | .exc x _ => if pureX 0 x = true then .exc x h else .bad
    | _ => .bad)
  else .bad
section
variable {C : Cf} {c : Str} {s : Sx}
/-- the state in which __init__ begins -/
def Sx.born (s : Sx) (c : Str) (C : Cf) (x dx : Addr) : Sx :=
  { F := s.F, ρ := { c := fun n => if n = 0 then some x else none, x := none }, H := upd (upd s.H dx (.own x)) x (.ins (He.ga C.K c) dx []), ah := [some (.ins c [])] }
theorem born_H {x dx a : Addr} {o : HO} (hx : s.H x = none) (hd : s.H dx = none) (e : s.H a = some o) : (s.born c C x dx).H a = some o := by
  show upd (upd s.H dx (.own x)) x _ a = some o
  rw [upd_ne (ne_of_none e hx), upd_ne (ne_of_none e hd)]; exact e
theorem born_get {n : Nat} {ob : OB} {x dx : Addr} (h : AH.get (s.born c C x dx).ah n = some ob) : n = 0 ∧ ob = .ins c [] := by
  cases n with
  | zero => simp [Sx.born, AH.get] at h; exact ⟨rfl, h.symm⟩
  | succ n => simp [Sx.born, AH.get] at h
theorem Good.born (g : Good C s) {x dx : Addr} (hx : s.H x = none) (hd : s.H dx = none) : Good C (s.born c C x dx) where
  sub := fun a o e => born_H hx hd (g.sub a o e)
  tups := fun a ys e => by
    have e' : upd (upd s.H dx (.own x)) x (.ins (He.ga C.K c) dx []) a = some (.tup ys) := e
    by_cases h1 : a = x
    · rw [h1, upd_same] at e'; cases e'
    · rw [upd_ne h1] at e'
      by_cases h2 : a = dx
      · rw [h2, upd_same] at e'; cases e'
      · rw [upd_ne h2] at e'; exact g.tups a ys e'
  own := fun n ob e => by
    obtain ⟨rfl, rfl⟩ := born_get e
    exact ⟨x, (rfl : (if (0 : Nat) = 0 then some x else none) = some x), g.notF hx, dx, [], upd_same, by unfold Rf; rfl⟩
  inj := fun n m a k1 k2 _ _ => by
    cases e1 : AH.get (s.born c C x dx).ah n with
    | none => exact absurd e1 k1
    | some o1 =>
      cases e2 : AH.get (s.born c C x dx).ah m with
      | none => exact absurd e2 k2
      | some o2 => rw [(born_get e1).1, (born_get e2).1]
  dom := fun n e => if_neg (by have e' : 1 ≤ n := e; omega)
/-- behind __init__: the instance stays -/
theorem born_back (g : Good C s) {x dx : Addr} (hx : s.H x = none) (hd : s.H dx = none) {t : Sx} (f : Fwd (s.born c C x dx) t) (gt : Good C t) {o : HO} (ht : t.H x = some o) :
    Fwd s { F := upd t.F x o, ρ := s.ρ, H := t.H, ah := s.ah } ∧ Good C { F := upd t.F x o, ρ := s.ρ, H := t.H, ah := s.ah } ∧ Sub t.F (upd t.F x o) := by
  have fr : ∀ a u, s.H a = some u → t.H a = some u := fun a u e => f.frame a u (born_H hx hd e) fun n z => by
    have z' : (if n = 0 then some x else none) = some a := z
    split at z'
    · cases z'
      rw [hx] at e; cases e
    · cases z'
  have sub : Sub t.F (upd t.F x o) := fun a u e => by
    by_cases h : a = x
    · subst h; rw [upd_same]; rw [← ht]; exact gt.sub a u e
    · rw [upd_ne h]; exact e
  have st : ∀ a u, t.F a = some u → s.F a = some u ∨ s.H a = none := fun a u e => by
    rcases f.still a u e with z | z | ⟨n, z, _⟩
    · exact .inl z
    · refine .inr ?_
      cases q : s.H a with
      | none => rfl
      | some v => rw [born_H hx hd q] at z; cases z
    · have z' : (if n = 0 then some x else none) = some a := z
      split at z'
      · cases z'; exact .inr hx
      · cases z'
  refine ⟨⟨(f.sub).trans sub, .refl _, fun a u e _ => fr a u e, fun n a e k => .inl ⟨e, k⟩, fun a u e => ⟨u, fr a u e⟩, fun a u e => ?_⟩, ⟨fun a u e => ?_, fun a ys e => sub a _ (gt.tups a ys e), fun n ob e => ?_, g.inj, g.dom⟩, sub⟩
  · by_cases h : a = x
    · subst h; exact .inr (.inl hx)
    · have e' : upd t.F x o a = some u := e
      rw [upd_ne h] at e'
      rcases st a u e' with z | z
      · exact .inl z
      · exact .inr (.inl z)
  · by_cases h : a = x
    · subst h
      have e' : upd t.F a o a = some u := e
      rw [upd_same] at e'
      cases e'
      exact ht
    · have e' : upd t.F x o a = some u := e
      rw [upd_ne h] at e'
      exact gt.sub a u e'
  · obtain ⟨a, e1, e2, e3⟩ := g.own n ob e
    obtain ⟨u, z⟩ := e3.there
    have ne : a ≠ x := ne_of_none z hx
    refine ⟨a, e1, ?_, e3.mono ((f.sub).trans sub) (.refl _) ((fr a u z).trans z.symm)⟩
    show upd t.F x o a = none
    rw [upd_ne ne]
    cases q : t.F a with
    | none => rfl
    | some v =>
      rcases st a v q with y | y
      · rw [e2] at y; cases y
      · rw [z] at y; cases y
theorem spM.make {W : WX} {σ : L2.St} {Q : VK} {n : Nat} {f : List D → AH → Out D} {ds : List D} {vs : List V} {x dx : Addr} (g : Good C s) (r : Rs C s.F s.ρ ds vs) (l : ds.length + 1 = n) (hx : s.H x = none) (hd : s.H dx = none)
    (h : Post C W σ (rD C) s Q (make c f ds s.ah)) :
    spM C n f (.ref x :: vs) (upd (upd s.H dx (.own x)) x (.ins (He.ga C.K c) dx [])) (fun v H2 => v = .non ∧ Q (.ref x) H2) (fun cls od H => W cls od σ H) := by
  unfold Ws.make at h
  split at h
  · rename_i p
    refine ⟨s.born c C x dx, .cell 0 :: ds, rfl, rfl, g.born hx hd, ?_, by simpa using l, ?_⟩
    · unfold Rs
      exact ⟨_, vs, rfl, (by unfold R; exact ⟨x, rfl, (rfl : (if (0 : Nat) = 0 then some x else none) = some x)⟩), Rs.pure (REq.zero _ _) p r⟩
    · show Post C _ _ _ _ _ (f (.cell 0 :: ds) [some (.ins c [])])
      split at h
      · rename_i c' fs e
        rw [e]
        split at h
        · rename_i pf
          intro t v et ft gt rt
          refine ⟨by unfold R at rt; exact rt, ?_⟩
          obtain ⟨a, e1, e2, dx', gs, e3, e4⟩ := gt.own 0 (.ins c' fs) (by rw [et]; rfl)
          have ea : a = x := by
            have z := ft.rho.c 0 x (rfl : (if (0 : Nat) = 0 then some x else none) = some x)
            rw [z] at e1; exact (Option.some.inj e1).symm
          subst ea
          obtain ⟨f2, g2, sb⟩ := born_back g hx hd ft gt e3
          exact h { F := upd t.F a (.ins (He.ga C.K c') dx' gs), ρ := s.ρ, H := t.H, ah := s.ah } (.ref a) rfl f2 g2 (by
            unfold R
            exact ⟨a, dx', gs, rfl, upd_same, Rf.mono sb (.refl _) (Rf.pure (REq.zero _ _) pf e4)⟩)
        · exact h.elim
      · rename_i e
        rw [e]
        split at h
        · rename_i pf
          intro t od et ft gt rt
          have : ∃ o, t.H x = some o := ft.there x _ upd_same
          obtain ⟨o, ho⟩ := this
          obtain ⟨f2, g2, sb⟩ := born_back g hx hd ft gt ho
          refine h { F := upd t.F x o, ρ := s.ρ, H := t.H, ah := s.ah } od rfl f2 g2 ?_
          rcases rt with rt | ⟨d, gs, y1, y2, rt⟩
          · exact .inl rt
          · exact .inr ⟨d, gs, y1, sb _ _ y2, Rf.mono sb (.refl _) (Rf.pure (REq.zero _ _) pf rt)⟩
        · exact h.elim
      · exact h.elim
  · exact h.elim
end
section
variable {X : Cx} {C : Cf} {W : WX} {k n : Nat} {f : Addr} {fd : FuncData} {ps ks : List Str} {g : List D → AH → Out D} {x c : Str} {p pos : Pos} {e : Expr} {es : List Expr} {mr mk : M (List D)} {kws : List Keyword} {ds : List Value} {dvs : List V} {dds : List D} {gA : List Value → List Value → List Value} {gV : List V → List V → List V} {gD : List D → List D → List D}
/-- C(e, .., k = v, ..): n written values; gD puts all in the parameters' order -/
def makeK (c : Str) (n m : Nat) (gD : List D → List D → List D) (g : List D → AH → Out D) (ps : Nat) (mr mk : M (List D)) : M D := fun σ h => (mr σ h).bind fun ds h1 => (mk σ h1).bind fun zs h2 =>
  if ds.length = n ∧ zs.length = m ∧ (gD ds zs).length + 1 = ps then make c g (gD ds zs) h2 else .bad
abbrev MK (X : Cx) (C : Cf) (ε : Ep) (W : WX) (kws : List Keyword) (m : M (List D)) : Prop := PK X kws (tG C ε W (rDs C) m)
theorem _root_.L2.PK.imp {X : Cx} {kws : List Keyword} {t t' : TA} (h : PK X kws t) (k : ∀ σ H Q, t' σ H Q → t σ H Q) : PK X kws t' := ⟨fun pos pins s σ H Q I q => h.run pos pins s σ H Q I (k σ H Q q)⟩
theorem mk_nil {ε : Ep} : MK X C ε W [] nilA := pk_nil.imp fun σ H Q h => by
  obtain ⟨s, dσ, rfl, ex, g, rs, h⟩ := h
  exact Post.here g h (by unfold Rs; rfl)
theorem mk_cons {ε : Ep} {ma : M D} {nm : Option Str} {kp : Pos} (ha : ME X C ε W e ma) (hr : MK X C ε W kws mr) : MK X C ε W (⟨nm, e, kp⟩ :: kws) (consA ma mr) := (pk_cons ha hr).imp fun σ H Q h => by
  obtain ⟨s, dσ, rfl, ex, gd, rs, h⟩ := h
  refine Post.bind ex gd rs h fun s1 x v e1 f1 g1 rs1 r1 h1 => ?_
  refine Post.bind e1 g1 rs1 h1 fun s2 y u e2 f2 g2 rs2 r2 h2 => ?_
  exact Post.here g2 h2 (by unfold Rs; exact ⟨v, u, rfl, r1.fwd f2, r2⟩)
/-- the run of a new instance, what is raised wished for at the slots -/
theorem run_new {pins : List (Addr × Obj)} {σ : L2.St} {H : Hp} {s : Shared} {Q : VK} {us : List Value} {kw : List (Str × Value)} {al : List Value} {av : List V} {cA : Addr} (Mc : Mk X.K cA f) (F : FnM X C k f fd ps g) (hr : Room (k + 1) X.A) (tk : Takes X W) (I : Inv X pins σ H s)
    (hb : ∀ (s : Shared) (xr : Value), X.K.In s.heap → BindsTo s fd ⟨xr :: us, kw⟩ (ps.zip (xr :: al))) (ra : Vals av al)
    (h : ∀ x dx, H x = none → H dx = none → dx ≠ x → spM C ps.length g (.ref x :: av) (upd (upd H dx (.own x)) x (.ins cA dx [])) (fun v H2 => v = .non ∧ Q (.ref x) H2) (fun cls od H => W cls od σ H)) :
    wpAny (model X.prog X.w) X.A (PySem.call (.ref cA) us kw) (EP X pins σ Q) X.xe s := by
  have hq := h (s.heap.objs.size + 1) s.heap.objs.size (I.hok.fresh (Nat.le_succ _)) (I.hok.fresh (Nat.le_refl _)) (Nat.ne_of_lt (Nat.lt_succ_self _))
  have I2 := Inv.made (C := cA) I
  have r2 : Vals (V.ref (s.heap.objs.size + 1) :: av) (Value.ref (s.heap.objs.size + 1) :: al) := .cons rfl ra
  refine wpAny_call (make_map (f := f) I.kIn Mc.makes Mc.init (beq_iff_eq.mp Mc.fn) (codeAny_mono (F.run _ X.stack _ _ ⟨Value.ref (s.heap.objs.size + 1) :: us, kw⟩ (Value.ref (s.heap.objs.size + 1) :: al) _ _ (fun cls od H => W cls od σ H) (hr.make cA us kw)
    (I2.env0.make cA us kw) (hb _ _ I2.kIn) r2 hq) fun r s' hq' => ?_))
  cases r with
  | error e => exact passAt tk σ pins _ _ e s' I2 hq'
  | ok fl =>
    cases fl with
    | ret u =>
      obtain ⟨v, H', I3, rv, ev, q3⟩ := I2.after hq'
      subst ev
      exact ⟨rv, ⟨V.ref (s.heap.objs.size + 1), H', I3, rfl, q3⟩⟩
    | next => exact False.elim hq'
    | brk => exact False.elim hq'
    | cont => exact False.elim hq'
/-- how the values of data go where the values go -/
def Puts (C : Cf) (gV : List V → List V → List V) (gD : List D → List D → List D) : Prop := ∀ F ρ {a b : List D} {u v : List V}, Rs C F ρ a u → Rs C F ρ b v → Rs C F ρ (gD a b) (gV u v)
theorem me_makeK (hK : X.K = C.K) (tk : Takes X W) (Mc : Mk X.K (He.ga X.K c) f) (F : FnM X C k f fd ps g) (hr : Room (k + 1) X.A) (hg : Gl X x) (hm : X.mg x = some (.ref (He.ga X.K c))) (hb : KBn X.K fd ps (n + 1) ks gA gV)
    (hcons : ∀ (xr : Value) (us ws : List Value), gA (xr :: us) ws = xr :: gA us ws) (hconsV : ∀ (xr : V) (us ws : List V), gV (xr :: us) ws = xr :: gV us ws) (hrelA : ∀ {vs : List V} {us : List Value} {zs : List V} {ws : List Value}, Vals vs us → Vals zs ws → Vals (gV vs zs) (gA us ws)) (hp : Puts C gV gD)
    (ha : MA X C none W (e :: es) mr) (hkw : MK X C none W kws mk)
    (hall : (backToKw pos (keywordEach kws X.env)).all (·.1.isSome) = true := by rfl) (hks : (backToKw pos (keywordEach kws X.env)).filterMap (·.1) = ks := by rfl) (hdb : (x == ("__debug__" : Str)) = false := by decide)
    (he : starEach (e :: es) X.env = (false, eval e X.env) :: starEach es X.env := by rfl) (hpl : ((backTo pos (starEach (e :: es) X.env)).any (·.1) || (backToKw pos (keywordEach kws X.env)).any (·.1.isNone)) = false := by rfl) :
    ME X C none W (.Call (.Name x p) (e :: es) kws pos) (makeK c n ks.length gD g ps.length mr mk) := by
  refine ⟨fun pins s σ H Q I h => ?_⟩
  obtain ⟨sx, dσ, rfl, ex, gd, rs, h⟩ := h
  refine wpAny_Call_Name_kw (ld_glob I hg hm ?_ hdb)
  refine PySem.W.callWith_KW (h₀ := X.base) I.ok.mod.kin Mc.kp hall (thn (ha.run pos pins s σ _ (fun vs H1 => tG C none W (rDs C) mk σ H1 fun zs H2 => vs.length = n ∧ zs.length = ks.length ∧ ∀ x dx, H2 x = none → H2 dx = none → dx ≠ x →
      spM C ps.length g (.ref x :: gV vs zs) (upd (upd H2 dx (.own x)) x (.ins (He.ga X.K c) dx [])) (fun v H3 => v = .non ∧ Q (.ref x) H3) (fun cls od H => W cls od σ H)) I ?_) fun us s1 ⟨vs, H1, I1, r, q⟩ => ?_) hpl he
  · refine Post.bind ex gd rs h fun s1 ds vs e1 f1 g1 rs1 r1 h1 => ?_
    refine Post.bind e1 g1 rs1 h1 fun s2 zs us e2 f2 g2 rs2 r2 h2 => ?_
    split at h2
    · rename_i hc
      obtain ⟨l1, l2, l3⟩ := hc
      have rd := hp _ _ (r1.fwd f2) r2
      refine ⟨by rw [← r1.length]; exact l1, by rw [← r2.length]; exact l2, fun x dx hx hd _ => ?_⟩
      rw [hK]
      exact spM.make g2 rd l3 hx hd h2
    · exact h2.elim
  · refine thn (hkw.run pos pins s1 σ H1 _ I1 q) fun ws s2 ⟨zs, H2, I2, rz, l1, l2, q2⟩ => ⟨I2.kIn, ?_⟩
    rw [hks]
    refine run_new (al := gA us ws) (av := gV vs zs) Mc F hr tk I2 (fun s3 xr kin => ?_) (hrelA r rz) q2
    have z := hb.to s3 (xr :: us) ws kin (by rw [List.length_cons, ← r.length, l1]) (rz.length.symm.trans l2)
    rw [hcons] at z
    exact z
def makeN (c : Str) (n : Nat) (dds : List D) (g : List D → AH → Out D) (ds : List D) (h : AH) : Out D := if (ds ++ dds).length + 1 = n then make c g (ds ++ dds) h else .bad
/-- C(e, ..), by its places, what lacks filled up -/
theorem me_make (hK : X.K = C.K) (tk : Takes X W) (Mc : Mk X.K (He.ga X.K c) f) (F : FnM X C k f fd ps g) (hr : Room (k + 1) X.A) (hg : Gl X x) (hm : X.mg x = some (.ref (He.ga X.K c))) (hb : L2.Binds X.K fd ps ds) (hd : Vals dvs ds) (fl : Filled C dds dvs)
    (ha : MA X C none W (e :: es) mr) (hdb : (x == ("__debug__" : Str)) = false := by decide) (he : starEach (e :: es) X.env = (false, eval e X.env) :: starEach es X.env := by rfl) (hpl : (backTo pos (starEach es X.env)).any (·.1) = false := by rfl) :
    ME X C none W (.Call (.Name x p) (e :: es) [] pos) (app (makeN c ps.length dds g) mr) := by
  refine ⟨fun pins s σ H Q I h => ?_⟩
  obtain ⟨sx, dσ, rfl, ex, gd, rs, h⟩ := h
  refine wpAny_Call_Name_kw (ld_glob I hg hm ?_ hdb)
  refine PySem.W.callWith_K (h₀ := X.base) I.ok.mod.kin Mc.kp (thn (ha.run pos pins s σ _ (fun vs H2 => vs.length + dvs.length + 1 = ps.length ∧ ∀ x dx, H2 x = none → H2 dx = none → dx ≠ x →
      spM C ps.length g (.ref x :: (vs ++ dvs)) (upd (upd H2 dx (.own x)) x (.ins (He.ga X.K c) dx [])) (fun v H3 => v = .non ∧ Q (.ref x) H3) (fun cls od H => W cls od σ H)) I ?_) fun us s1 ⟨vs, H1, I1, r, l1, q⟩ => ⟨I1.kIn, ?_⟩) he hpl
  · refine Post.bind ex gd rs h fun s1 ds vs e1 f1 g1 rs1 r1 h1 => ?_
    unfold makeN at h1
    split at h1
    · rename_i l
      have rd := Rs.app r1 (fl s1.F s1.ρ)
      refine ⟨by have := rd.length; rw [List.length_append] at this; rw [← List.length_append, ← rd.length]; exact l, fun x dx hx hd _ => ?_⟩
      rw [hK]
      exact spM.make g1 rd l hx hd h1
    · exact h1.elim
  · refine run_new (al := us ++ ds) (av := vs ++ dvs) Mc F hr tk I1 (fun s3 xr kin => ?_) (r.append hd) q
    exact hb s3 (xr :: us) kin (by rw [← l1, List.length_append, List.length_cons, ← r.length, ← hd.length]; omega)
/-! ### fields stored -/
def putD (y : Str) (d : D) : List (Str × D) → List (Str × D)
  | [] => [(y, d)]
  | (z, x) :: r => if z = y then (z, d) :: r else (z, x) :: putD y d r
theorem Rf.put {F : Hp} {ρ : Rho} {y : Str} {d : D} {v : V} (q : R C F ρ d v) : ∀ {fs : List (Str × D)} {gs : List (Str × V)}, Rf C F ρ fs gs → Rf C F ρ (putD y d fs) (putF y v gs)
  | [], gs, h => by unfold Rf at h; subst h; unfold putD putF Rf; exact ⟨v, [], rfl, q, by unfold Rf; rfl⟩
  | (z, x) :: fs, gs, h => by
    unfold Rf at h
    obtain ⟨u, r, rfl, a, h⟩ := h
    unfold putD putF
    by_cases e : z = y
    · rw [if_pos e, if_pos e]; unfold Rf; exact ⟨v, r, rfl, q, h⟩
    · rw [if_neg e, if_neg e]; unfold Rf; exact ⟨u, _, rfl, a, Rf.put q h⟩
theorem Rf.length {F : Hp} {ρ : Rho} : ∀ {fs : List (Str × D)} {gs : List (Str × V)}, Rf C F ρ fs gs → fs.length = gs.length
  | [], gs, h => by unfold Rf at h; subst h; rfl
  | (z, x) :: fs, gs, h => by
    unfold Rf at h
    obtain ⟨u, r, rfl, a, h⟩ := h
    simp [Rf.length h]
/-- o.f = v, o in a cell -/
def stf (cs : List Str) (y : Str) (mv mo : M D) : SM := fun σ h => bindS (mv σ h) σ fun d h1 => bindS (mo σ h1) σ fun o h2 => match o with
  | .cell n => (match h2.get n with
    | some (.ins c fs) => if c ∈ cs ∧ fs.length < 900 then .nx σ (h2.put n (.ins c (putD y d fs))) else .bad
    | _ => .bad)
  | _ => .bad
theorem ms_fld {ε : Ep} {cs : List Str} {y : Str} {o v : Expr} {mo mv : M D} {pos' : Pos} (hK : X.K = C.K) (ho : ME X C ε W o mo) (hv : ME X C ε W v mv) (hc : HasF X cs y) (hs : swapsWith v (some (.Attribute o y pos')) pos.line X.env = pure false := by rfl) : MS X C ε W (.Assign [.Attribute o y pos'] v pos) (stf cs y mv mo) :=
  (ps_fld ho hv hs).imp fun D σ H h => by
    obtain ⟨s, dσ, rfl, ex, gd, rs, h⟩ := h
    refine PostS.bind ex gd rs h fun s1 d u e1 f1 g1 rs1 r1 h1 => ?_
    refine PostS.bind e1 g1 rs1 h1 fun s2 od ou e2 f2 g2 rs2 r2 h2 => ?_
    cases od with
    | cell n =>
      dsimp only at h2
      split at h2
      · rename_i c fs en
        split at h2
        · rename_i hcs
          unfold R at r2
          obtain ⟨a, rfl, ea⟩ := r2
          obtain ⟨a', q1, q2, dx, gs, z1, z2⟩ := g2.own n _ en
          rw [ea] at q1; cases q1
          refine ⟨a, He.ga X.K c, dx, gs, rfl, (by rw [hK]; exact z1), (hc c hcs.1).1, (hc c hcs.1).2, by rw [← z2.length]; omega, ?_⟩
          rw [hK]
          exact h2 (s2.wr n a (.ins (He.ga C.K c) dx (putF y u gs)) (.ins c (putD y d fs))) σ rfl (Fwd.wr g2 en ea) (g2.wr en ea ⟨dx, _, upd_same, Rf.put (r1.fwd f2) z2⟩) (rs2.fwd (Fwd.wr g2 en ea))
        · exact h2.elim
      · exact h2.elim
    | _ => exact h2.elim
end
end Ws

set_option Elab.async false
set_option linter.all false
set_option maxRecDepth 100000
set_option autoImplicit false
namespace Ws
open PySem PySem.Spec L2
/-! ### what is walked -/
/-- J hands out the data ds, one by one, whatever comes of the heap meanwhile -/
def Iter (C : Cf) (s : Sx) (ds : List D) (J : It) : Prop := ∀ t (i : Nat), Fwd s t → Good C t →
  (i < ds.length → J.go i t.H ∧ ∀ x H', J.yld i t.H x H' → ∃ t' d, t'.H = H' ∧ Fwd t t' ∧ Good C t' ∧ t'.ah = t.ah ∧ ds[i]? = some d ∧ R C t'.F t'.ρ d x) ∧ (ds.length ≤ i → J.stop i t.H)
abbrev rIt (C : Cf) : Rl (List D) It := fun s ds J => Iter C s ds J
abbrev MI (X : Cx) (C : Cf) (ε : Ep) (W : WX) (tg e : Expr) (m : M (List D)) : Prop := PI X tg e (tG C ε W (rIt C) m)
theorem _root_.L2.PI.imp {X : Cx} {tg e : Expr} {t t' : TI} (h : PI X tg e t) (k : ∀ σ H Q, t' σ H Q → t σ H Q) : PI X tg e t' := ⟨fun pins s σ H Q I q => h.run pins s σ H Q I (k σ H Q q)⟩
/-! ### for -/
def wipeD (σ : Sl) : List Nat → Sl
  | [] => σ
  | v :: vs => (wipeD σ vs).set v none
def pureSl (L : Nat) : Sl → Bool
  | [] => true
  | none :: r => pureSl L r
  | some d :: r => pureD L d && pureSl L r
theorem pureSl_get {L : Nat} : ∀ {σ : Sl} {i : Nat} {d : D}, pureSl L σ = true → σ[i]? = some (some d) → pureD L d = true
  | [], i, d, _, e => by simp at e
  | none :: r, 0, d, _, e => by simp at e
  | none :: r, i + 1, d, p, e => pureSl_get (σ := r) (i := i) p (by simpa using e)
  | some x :: r, 0, d, p, e => by
    unfold pureSl at p
    simp at e; subst e
    exact (Bool.and_eq_true_iff.mp p).1
  | some x :: r, i + 1, d, p, e => by
    unfold pureSl at p
    exact pureSl_get (σ := r) (i := i) (Bool.and_eq_true_iff.mp p).2 (by simpa using e)
/-- between two turns: the slots js and the cells from L on are forgotten -/
def trim (L : Nat) (js : List Nat) (σ : Sl) (h : AH) : Out Sl := if pureSl L (wipeD σ js) = true ∧ pureH L (h.take L) = true then .ok (wipeD σ js) (h.take L) else .bad
def keepAll (σ : Sl) (h : AH) : Out Sl := .ok σ h
def TrOK (C : Cf) (s1 : Sx) (tr : Sl → AH → Out Sl) : Prop := ∀ s (σ : L2.St) dσ, Fwd s1 s → Good C s → RS C s σ dσ → ∀ dσ' h', tr dσ s.ah = .ok dσ' h' → ∃ s', s'.ah = h' ∧ s'.H = s.H ∧ Fwd s1 s' ∧ Good C s' ∧ RS C s' σ dσ'
theorem wipeD_some {σ : Sl} {i : Nat} {x : D} : ∀ {vs : List Nat}, (wipeD σ vs)[i]? = some (some x) → σ[i]? = some (some x) ∧ i ∉ vs
  | [], h => ⟨h, by simp⟩
  | v :: vs, h => by
    unfold wipeD at h
    by_cases hi : v = i
    · subst hi
      rw [List.getElem?_set] at h
      simp only [if_true] at h
      split at h <;> cases h
    · rw [List.getElem?_set_ne hi] at h
      obtain ⟨h1, h2⟩ := wipeD_some h
      exact ⟨h1, by simp only [List.mem_cons, not_or]; exact ⟨fun e => hi e.symm, h2⟩⟩
theorem wipeD_length (σ : Sl) : ∀ vs : List Nat, (wipeD σ vs).length = σ.length
  | [] => rfl
  | v :: vs => by unfold wipeD; rw [List.length_set, wipeD_length σ vs]
theorem trim_ok {C : Cf} {s1 : Sx} {js : List Nat} (g1 : Good C s1) : TrOK C s1 (trim s1.ah.length js) := fun s σ dσ f g rs dσ' h' e => by
  unfold trim at e
  split at e
  · rename_i p
    cases e
    refine ⟨s.cut s1.ah.length, rfl, rfl, f.cut g1.dom, g.cut p.2, by rw [wipeD_length]; exact rs.1, fun i d e => ?_⟩
    obtain ⟨v, e1, r⟩ := rs.2 i d (wipeD_some e).1
    exact ⟨v, e1, R.pure (REq.cut s.ρ _) (pureSl_get p.1 e) r⟩
  · cases e
theorem keep_ok {C : Cf} {s1 : Sx} : TrOK C s1 keepAll := fun s σ dσ f g rs dσ' h' e => by
  cases e
  exact ⟨s, rfl, rfl, f, g, rs⟩
def forGo (tr : Sl → AH → Out Sl) (t : Tg) (m : SM) : List D → SM
  | [] => fun σ h => .nx σ h
  | d :: ds => fun σ h => match t d σ h with
    | .ok σ1 h1 => (match m σ1 h1 with
      | .nx σ2 h2 => (match tr σ2 h2 with
        | .ok σ3 h3 => forGo tr t m ds σ3 h3
        | _ => .bad)
      | .ct σ2 h2 => (match tr σ2 h2 with
        | .ok σ3 h3 => forGo tr t m ds σ3 h3
        | _ => .bad)
      | .bk σ2 h2 => .nx σ2 h2
      | o => o)
    | _ => .bad
def forS (mi : M (List D)) (t : Tg) (m : SM) : SM := fun σ h => bindS (mi σ h) σ fun ds h1 => forGo keepAll t m ds σ h1
def forT (js : List Nat) (mi : M (List D)) (t : Tg) (m : SM) : SM := fun σ h => bindS (mi σ h) σ fun ds h1 => forGo (trim h1.length js) t m ds σ h1
section
variable {X : Cx} {C : Cf} {ε : Ep} {W : WX} {tg iter : Expr} {body : List Stmt} {mi : M (List D)} {t : Tg} {m : SM} {pos : Pos}
theorem for_core {D : Ends} {σ : L2.St} {s1 : Sx} {dσ : Sl} {ds : List Ws.D} {J : It} {tr : Sl → AH → Out Sl} (ex : s1.ρ.x = ε) (g1 : Good C s1) (rs : RS C s1 σ dσ) (it : Iter C s1 ds J) (to : TrOK C s1 tr) (h : PostS C W s1 D (forGo tr t m ds dσ s1.ah)) :
    ∃ V : Nat → Nat → L2.St → Hp → Prop, (∃ m, V 0 m σ s1.H) ∧ ∀ i k σ H, V i k σ H → (J.stop i H ∧ D.nx σ H) ∨ (J.go i H ∧ ∃ N : L2.St → Hp → Prop, (∀ σ' H', N σ' H' → ∃ k', k' < k ∧ V (i + 1) k' σ' H') ∧
      ∀ x H', J.yld i H x H' → tT C ε t x σ H' fun σ2 H2 => tS C ε W m { D with nx := N, ct := N, bk := D.nx } σ2 H2) := by
  refine ⟨fun i k σ H => k = ds.length - i ∧ i ≤ ds.length ∧ ∃ s dσ, s.H = H ∧ Fwd s1 s ∧ Good C s ∧ RS C s σ dσ ∧ PostS C W s1 D (forGo tr t m (ds.drop i) dσ s.ah), ⟨_, rfl, Nat.zero_le _, s1, dσ, rfl, .refl _, g1, rs, h⟩, ?_⟩
  rintro i k σ H ⟨rfl, hi, s, dσ, rfl, f, g, rs, h⟩
  by_cases hlt : i < ds.length
  · obtain ⟨go, yl⟩ := (it s i f g).1 hlt
    refine .inr ⟨go, fun σ' H' => ∃ s dσ, s.H = H' ∧ Fwd s1 s ∧ Good C s ∧ RS C s σ' dσ ∧ PostS C W s1 D (forGo tr t m (ds.drop (i + 1)) dσ s.ah), fun σ' H' z => ⟨ds.length - (i + 1), by omega, rfl, hlt, z⟩, fun x H' y => ?_⟩
    obtain ⟨t', d, rfl, f', g', eh, ed, r⟩ := yl x H' y
    have hd : ds.drop i = d :: ds.drop (i + 1) := by
      rw [List.drop_eq_getElem_cons hlt]
      rw [List.getElem?_eq_getElem hlt] at ed
      cases ed; rfl
    rw [hd] at h
    refine ⟨t', dσ, d, rfl, ((f.trans f').rho.x).trans ex, g', rs.fwd f', r, ?_⟩
    unfold forGo at h
    rw [← eh] at h
    cases q : t d dσ t'.ah with
    | ok σ1 h1 =>
      rw [q] at h
      intro s2 σ2 e2 f2 g2 rs2
      subst e2
      have f12 := (f.trans f').trans f2
      refine ⟨s2, σ1, rfl, f12.rho.x.trans ex, g2, rs2, ?_⟩
      dsimp only at h
      have nxt : ∀ σ3 h3, PostS C W s1 D (match tr σ3 h3 with
          | .ok σ4 h4 => forGo tr t m (ds.drop (i + 1)) σ4 h4
          | _ => .bad) → ∀ s3 σ3', s3.ah = h3 → Fwd s2 s3 → Good C s3 → RS C s3 σ3' σ3 → ∃ s dσ, s.H = s3.H ∧ Fwd s1 s ∧ Good C s ∧ RS C s σ3' dσ ∧ PostS C W s1 D (forGo tr t m (ds.drop (i + 1)) dσ s.ah) := fun σ3 h3 hq s3 σ3' e3 f3 g3 rs3 => by
        subst e3
        cases qt : tr σ3 s3.ah with
        | ok σ4 h4 =>
          rw [qt] at hq
          obtain ⟨s4, e4, eH, f4, g4, rs4⟩ := to s3 σ3' σ3 (f12.trans f3) g3 rs3 σ4 h4 qt
          subst e4
          exact ⟨s4, σ4, eH, f4, g4, rs4, hq⟩
        | exc => rw [qt] at hq; exact hq.elim
        | bad => rw [qt] at hq; exact hq.elim
      cases qm : m σ1 s2.ah with
      | nx σ3 h3 => rw [qm] at h; exact fun s3 σ3' e3 f3 g3 rs3 => nxt σ3 h3 h s3 σ3' e3 f3 g3 rs3
      | ct σ3 h3 => rw [qm] at h; exact fun s3 σ3' e3 f3 g3 rs3 => nxt σ3 h3 h s3 σ3' e3 f3 g3 rs3
      | bk σ3 h3 => rw [qm] at h; exact PostS.fwd (o := .nx σ3 h3) f12 h
      | rt d h3 => rw [qm] at h; exact PostS.fwd (o := .rt d h3) f12 h
      | exc x σ3 h3 => rw [qm] at h; exact PostS.fwd (o := .exc x σ3 h3) f12 h
      | bad => rw [qm] at h; exact h
    | exc => rw [q] at h; exact h.elim
    | bad => rw [q] at h; exact h.elim
  · have e : i = ds.length := by omega
    subst e
    rw [List.drop_length] at h
    exact .inl ⟨(it s _ f g).2 (Nat.le_refl _), h s σ rfl f g rs⟩
theorem ms_for (hp : PassesOwn (model X.prog X.w) X.A X.env X.xe) (hc : X.calm = true) (hi : MI X C ε W tg iter mi) (hg : MG X C ε tg t) (hb : MSs X C ε W body m) (hs : ∀ x, foldedSetIterable iter X.env x = pure x := by intro _; rfl) :
    MS X C ε W (.For tg iter body [] pos) (forS mi t m) := (ps_for hp hc hi hg hb hs).imp fun D σ H h => by
  obtain ⟨s, dσ, rfl, ex, g, rs, h⟩ := h
  exact PostS.bind ex g rs h fun s1 ds J e1 f1 g1 rs1 r1 h1 => for_core e1 g1 rs1 r1 keep_ok h1
theorem ms_forT (js : List Nat) (hp : PassesOwn (model X.prog X.w) X.A X.env X.xe) (hc : X.calm = true) (hi : MI X C ε W tg iter mi) (hg : MG X C ε tg t) (hb : MSs X C ε W body m) (hs : ∀ x, foldedSetIterable iter X.env x = pure x := by intro _; rfl) :
    MS X C ε W (.For tg iter body [] pos) (forT js mi t m) := (ps_for hp hc hi hg hb hs).imp fun D σ H h => by
  obtain ⟨s, dσ, rfl, ex, g, rs, h⟩ := h
  exact PostS.bind ex g rs h fun s1 ds J e1 f1 g1 rs1 r1 h1 => for_core e1 g1 rs1 r1 (trim_ok g1) h1
/-! ### while -/
def whileGo (c : M Bool) (m : SM) : Nat → SM
  | 0 => fun _ _ => .bad
  | n + 1 => fun σ h => bindS (c σ h) σ fun b h1 => if b = true then (match m σ h1 with
    | .nx σ2 h2 => whileGo c m n σ2 h2
    | .ct σ2 h2 => whileGo c m n σ2 h2
    | .bk σ2 h2 => .nx σ2 h2
    | o => o) else .nx σ h1
/-- some number of turns is enough: the end is o -/
def whileEnds (c : M Bool) (m : SM) (σ : Sl) (h : AH) (o : SOut) : Prop := ∃ n, whileGo c m n σ h = o
open Classical in
noncomputable def whileS (c : M Bool) (m : SM) : SM := fun σ h => if hn : ∃ n, whileGo c m n σ h ≠ .bad then whileGo c m hn.choose σ h else .bad
theorem ms_while {c : Expr} {mc : M Bool} (hp : PassesOwn (model X.prog X.w) X.A X.env X.xe) (hc : MT X C ε W c mc) (hb : MSs X C ε W body m) : MS X C ε W (.While c body [] pos) (whileS mc m) := (ps_while hp hc hb).imp fun D σ H h => by
  obtain ⟨s, dσ, rfl, ex, g, rs, h⟩ := h
  unfold whileS at h
  split at h
  · rename_i hn
    refine ⟨fun k σ H => ∃ s dσ, s.H = H ∧ s.ρ.x = ε ∧ Good C s ∧ RS C s σ dσ ∧ PostS C W s D (whileGo mc m k dσ s.ah), ⟨hn.choose, s, dσ, rfl, ex, g, rs, h⟩, ?_⟩
    rintro k σ H ⟨s, dσ, rfl, ex, g, rs, h⟩
    cases k with
    | zero => exact h.elim
    | succ k =>
      refine PostS.bind ex g rs h fun s1 b b' e1 f1 g1 rs1 r1 h1 => ?_
      subst r1
      by_cases hb : b = true
      · rw [if_pos hb] at h1 ⊢
        refine ⟨fun σ' H' => ∃ s dσ, s.H = H' ∧ s.ρ.x = ε ∧ Good C s ∧ RS C s σ' dσ ∧ PostS C W s D (whileGo mc m k dσ s.ah), fun σ' H' z => ⟨k, Nat.lt_succ_self _, z⟩, s1, dσ, rfl, e1, g1, rs1, ?_⟩
        cases q : m dσ s1.ah with
        | nx σ2 h2 => rw [q] at h1; exact fun s2 σ' e f g' rs' => by subst e; exact ⟨s2, σ2, rfl, f.rho.x.trans e1, g', rs', PostS.fwd f h1⟩
        | ct σ2 h2 => rw [q] at h1; exact fun s2 σ' e f g' rs' => by subst e; exact ⟨s2, σ2, rfl, f.rho.x.trans e1, g', rs', PostS.fwd f h1⟩
        | bk σ2 h2 => rw [q] at h1; exact h1
        | rt => rw [q] at h1; exact h1
        | exc => rw [q] at h1; exact h1
        | bad => rw [q] at h1; exact h1
      · rw [if_neg hb] at h1 ⊢
        exact PostS.here g1 rs1 rfl h1
  · exact h.elim
theorem whileGo_more (c : M Bool) (m : SM) : ∀ (n : Nat) (σ : Sl) (h : AH), whileGo c m n σ h ≠ .bad → ∀ k, whileGo c m (n + k) σ h = whileGo c m n σ h
  | 0, σ, h, hb, k => absurd rfl hb
  | n + 1, σ, h, hb, k => by
    rw [show n + 1 + k = (n + k) + 1 by omega]
    unfold whileGo at hb ⊢
    cases q : c σ h with
    | ok b h1 =>
      rw [q] at hb
      simp only [bindS_ok] at hb ⊢
      by_cases hx : b = true
      · rw [if_pos hx] at hb ⊢
        rw [if_pos hx]
        cases qm : m σ h1 with
        | nx σ2 h2 => rw [qm] at hb; exact whileGo_more c m n σ2 h2 hb k
        | ct σ2 h2 => rw [qm] at hb; exact whileGo_more c m n σ2 h2 hb k
        | _ => rfl
      · rw [if_neg hx, if_neg hx]
    | exc => rfl
    | bad => rfl
theorem whileS_of {c : M Bool} {m : SM} {σ : Sl} {h : AH} {o : SOut} (n : Nat) (e : whileGo c m n σ h = o) (ho : o ≠ .bad) : whileS c m σ h = o := by
  have hn : ∃ n, whileGo c m n σ h ≠ .bad := ⟨n, by rw [e]; exact ho⟩
  unfold whileS
  rw [dif_pos hn]
  have h1 := hn.choose_spec
  have a := whileGo_more c m n σ h (by rw [e]; exact ho) hn.choose
  have b := whileGo_more c m hn.choose σ h h1 n
  rw [Nat.add_comm] at b
  rw [← b, a, e]
end
end Ws

set_option Elab.async false
set_option linter.all false
set_option maxRecDepth 100000
set_option autoImplicit false
namespace Ws
open PySem PySem.Spec L2
section
variable {C : Cf} {s : Sx}
/-- a list that stays -/
theorem Iter.lst {a : Addr} {ys : List V} {xs : List D} {K : PySem.W.Frag} (f : s.F a = some (.lst ys)) (r : Rs C s.F s.ρ xs ys) : Iter C s xs (Itl K a) := fun t i ft gt => by
  have sq : SqL K t.H a ys := SqL.of (gt.sub _ _ (ft.sub _ _ f))
  refine ⟨fun hi => ?_, fun hi => ⟨ys, sq, by rw [← r.length]; exact hi⟩⟩
  obtain ⟨v, e1, rv⟩ := (r.fwd ft).get (List.getElem?_eq_getElem hi)
  exact ⟨⟨ys, v, sq, e1⟩, fun x H' y => by
    obtain ⟨rfl, y⟩ := y
    have := y ys sq
    rw [e1] at this; cases this
    exact ⟨t, _, rfl, .refl _, gt, rfl, List.getElem?_eq_getElem hi, rv⟩⟩
theorem Iter.tup {a : Addr} {ys : List V} {xs : List D} {K : PySem.W.Frag} (f : s.F a = some (.tup ys)) (r : Rs C s.F s.ρ xs ys) : Iter C s xs (Itt K a) := fun t i ft gt => by
  have sq : SqT K t.H a ys := SqT.of (gt.sub _ _ (ft.sub _ _ f))
  refine ⟨fun hi => ?_, fun hi => ⟨ys, sq, by rw [← r.length]; exact hi⟩⟩
  obtain ⟨v, e1, rv⟩ := (r.fwd ft).get (List.getElem?_eq_getElem hi)
  exact ⟨⟨ys, v, sq, e1⟩, fun x H' y => by
    obtain ⟨rfl, y⟩ := y
    have := y ys sq
    rw [e1] at this; cases this
    exact ⟨t, _, rfl, .refl _, gt, rfl, List.getElem?_eq_getElem hi, rv⟩⟩
def sgn (c : Nat) : D := .str ⟨#[c]⟩
theorem Iter.str (x : Str) : Iter C s (x.cps.toList.map sgn) (Its x) := fun t i ft gt => by
  refine ⟨fun hi => ⟨(show i < x.cps.size by simpa using hi), fun v H' y => ?_⟩, fun hi => (show x.cps.size ≤ i by simpa using hi)⟩
  obtain ⟨rfl, c, e, rfl⟩ := y
  refine ⟨t, sgn c, rfl, .refl _, gt, rfl, ?_, by unfold sgn R; rfl⟩
  rw [List.getElem?_map, Array.getElem?_toList, e]; rfl
theorem Iter.rng (lo : Int) (n : Nat) : Iter C s ((List.range n).map fun (i : Nat) => D.int (lo + (i : Int))) (Itr lo n) := fun t i ft gt => by
  refine ⟨fun hi => ⟨(show i < n by simpa using hi), fun v H' y => ?_⟩, fun hi => (show n ≤ i by simpa using hi)⟩
  obtain ⟨rfl, rfl⟩ := y
  refine ⟨t, .int (lo + (i : Int)), rfl, .refl _, gt, rfl, ?_, by unfold R; rfl⟩
  rw [List.getElem?_map, List.getElem?_range (by simpa using hi)]; rfl
theorem Iter.rngC (lo c : Int) (n : Nat) : Iter C s ((List.range n).map fun (i : Nat) => D.int (lo + (i : Int) * c)) (Itc lo c n) := fun t i ft gt => by
  refine ⟨fun hi => ⟨(show i < n by simpa using hi), fun v H' y => ?_⟩, fun hi => (show n ≤ i by simpa using hi)⟩
  obtain ⟨rfl, rfl⟩ := y
  refine ⟨t, .int (lo + (i : Int) * c), rfl, .refl _, gt, rfl, ?_, by unfold R; rfl⟩
  rw [List.getElem?_map, List.getElem?_range (by simpa using hi)]; rfl
/-- a pair just laid -/
theorem pair_ok {T : Addr} {t : Sx} (gt : Good C t) (hT : t.H T = none) {a b : D} {u v : V} (ra : R C t.F t.ρ a u) (rb : R C t.F t.ρ b v) : Fwd t (t.frz T (.tup [u, v])) ∧ Good C (t.frz T (.tup [u, v])) ∧ R C (t.frz T (.tup [u, v])).F (t.frz T (.tup [u, v])).ρ (.tup [a, b]) (.ref T) := by
  have f := Fwd.frz gt (o := .tup [u, v]) hT
  refine ⟨f, gt.frz hT, ?_⟩
  unfold R
  refine ⟨T, [u, v], rfl, upd_same, ?_⟩
  unfold Rs
  refine ⟨u, [v], rfl, ra.fwd f, ?_⟩
  unfold Rs
  exact ⟨v, [], rfl, rb.fwd f, by unfold Rs; rfl⟩
/-- 0, 1, .. beside the data -/
def enumD : Nat → List D → List D
  | _, [] => []
  | n, d :: ds => .tup [.int n, d] :: enumD (n + 1) ds
theorem enumD_length : ∀ (n : Nat) (ds : List D), (enumD n ds).length = ds.length
  | _, [] => rfl
  | n, d :: ds => by simp [enumD, enumD_length (n + 1) ds]
theorem enumD_get : ∀ (n : Nat) (ds : List D) (i : Nat) (d : D), ds[i]? = some d → (enumD n ds)[i]? = some (.tup [.int ((n + i : Nat) : Int), d])
  | _, [], i, d, h => by simp at h
  | n, x :: ds, 0, d, h => by simp at h; subst h; rfl
  | n, x :: ds, i + 1, d, h => by
    have := enumD_get (n + 1) ds i d (by simpa using h)
    rw [show n + (i + 1) = n + 1 + i by omega]
    simpa [enumD] using this
theorem Iter.enum {a : Addr} {ys : List V} {xs : List D} {K : PySem.W.Frag} (f : s.F a = some (.lst ys)) (r : Rs C s.F s.ρ xs ys) : Iter C s (enumD 0 xs) (Ite K a) := fun t i ft gt => by
  have sq : SqL K t.H a ys := SqL.of (gt.sub _ _ (ft.sub _ _ f))
  refine ⟨fun hi => ?_, fun hi => ⟨ys, sq, by rw [← r.length, ← enumD_length 0]; exact hi⟩⟩
  rw [enumD_length] at hi
  obtain ⟨v, e1, rv⟩ := (r.fwd ft).get (List.getElem?_eq_getElem hi)
  exact ⟨⟨ys, v, sq, e1⟩, fun x H' y => by
    obtain ⟨T, z, rfl, hT, rfl, y⟩ := y
    have := y ys sq
    rw [e1] at this; cases this
    obtain ⟨f2, g2, r2⟩ := pair_ok gt hT (show R C t.F t.ρ (.int (i : Nat)) (.int (i : Nat)) by unfold R; rfl) rv
    exact ⟨_, _, rfl, f2, g2, rfl, by rw [enumD_get 0 xs i _ (List.getElem?_eq_getElem hi), Nat.zero_add], r2⟩⟩
def zipD : List D → List D → List D
  | a :: as, b :: bs => .tup [a, b] :: zipD as bs
  | _, _ => []
theorem zipD_length : ∀ (a b : List D), (zipD a b).length = min a.length b.length
  | [], b => by simp [zipD]
  | a :: as, [] => by simp [zipD]
  | a :: as, b :: bs => by simp [zipD, zipD_length as bs]
theorem zipD_get : ∀ (a b : List D) (i : Nat) (x y : D), a[i]? = some x → b[i]? = some y → (zipD a b)[i]? = some (.tup [x, y])
  | [], b, i, x, y, h, _ => by simp at h
  | a :: as, [], i, x, y, _, h => by simp at h
  | a :: as, b :: bs, 0, x, y, h, k => by simp at h k; subst h k; rfl
  | a :: as, b :: bs, i + 1, x, y, h, k => by simpa [zipD] using zipD_get as bs i x y (by simpa using h) (by simpa using k)
theorem Iter.zip {a b : Addr} {ys zs : List V} {xs us : List D} {K : PySem.W.Frag} (f : s.F a = some (.lst ys)) (r : Rs C s.F s.ρ xs ys) (f' : s.F b = some (.lst zs)) (r' : Rs C s.F s.ρ us zs) : Iter C s (zipD xs us) (Itz K a b) := fun t i ft gt => by
  have sq : SqL K t.H a ys := SqL.of (gt.sub _ _ (ft.sub _ _ f))
  have sq' : SqL K t.H b zs := SqL.of (gt.sub _ _ (ft.sub _ _ f'))
  refine ⟨fun hi => ?_, fun hi => ⟨ys, zs, sq, sq', by rw [zipD_length, r.length, r'.length] at hi; omega⟩⟩
  rw [zipD_length] at hi
  have h1 : i < xs.length := by omega
  have h2 : i < us.length := by omega
  obtain ⟨v, e1, rv⟩ := (r.fwd ft).get (List.getElem?_eq_getElem h1)
  obtain ⟨w, e2, rw'⟩ := (r'.fwd ft).get (List.getElem?_eq_getElem h2)
  exact ⟨⟨ys, zs, v, w, sq, sq', e1, e2⟩, fun x H' y => by
    obtain ⟨T, z, z2, rfl, hT, rfl, y, y2⟩ := y
    have := y ys sq
    rw [e1] at this; cases this
    have := y2 zs sq'
    rw [e2] at this; cases this
    obtain ⟨f2, g2, r2⟩ := pair_ok gt hT rv rw'
    exact ⟨_, _, rfl, f2, g2, rfl, zipD_get xs us i _ _ (List.getElem?_eq_getElem h1) (List.getElem?_eq_getElem h2), r2⟩⟩
theorem Iter.zipT {a b : Addr} {ys zs : List V} {xs us : List D} {K : PySem.W.Frag} (f : s.F a = some (.tup ys)) (r : Rs C s.F s.ρ xs ys) (f' : s.F b = some (.tup zs)) (r' : Rs C s.F s.ρ us zs) : Iter C s (zipD xs us) (RZ.ItzT K a b) := fun t i ft gt => by
  have sq : SqT K t.H a ys := SqT.of (gt.sub _ _ (ft.sub _ _ f))
  have sq' : SqT K t.H b zs := SqT.of (gt.sub _ _ (ft.sub _ _ f'))
  refine ⟨fun hi => ?_, fun hi => ⟨ys, zs, sq, sq', by rw [zipD_length, r.length, r'.length] at hi; omega⟩⟩
  rw [zipD_length] at hi
  have h1 : i < xs.length := by omega
  have h2 : i < us.length := by omega
  obtain ⟨v, e1, rv⟩ := (r.fwd ft).get (List.getElem?_eq_getElem h1)
  obtain ⟨w, e2, rw'⟩ := (r'.fwd ft).get (List.getElem?_eq_getElem h2)
  exact ⟨⟨ys, zs, v, w, sq, sq', e1, e2⟩, fun x H' y => by
    obtain ⟨T, z, z2, rfl, hT, rfl, y, y2⟩ := y
    have := y ys sq
    rw [e1] at this; cases this
    have := y2 zs sq'
    rw [e2] at this; cases this
    obtain ⟨f2, g2, r2⟩ := pair_ok gt hT rv rw'
    exact ⟨_, _, rfl, f2, g2, rfl, zipD_get xs us i _ _ (List.getElem?_eq_getElem h1) (List.getElem?_eq_getElem h2), r2⟩⟩
/-! ### dicts -/
theorem Rk.len {F : Hp} {ρ : Rho} : ∀ {kvs : List (D × D)} {ks : List (Key × V)}, Rk C F ρ kvs ks → kvs.length = ks.length
  | [], ks, h => by unfold Rk at h; subst h; rfl
  | (k, d) :: kvs, ks, h => by
    unfold Rk at h
    obtain ⟨key, v, r, rfl, _, _, h⟩ := h
    simp [Rk.len h]
theorem Rt.len {F : Hp} {ρ : Rho} : ∀ {kvs : List (D × D)} {ks : List (List Key × V)}, Rt C F ρ kvs ks → kvs.length = ks.length
  | [], ks, h => by unfold Rt at h; subst h; rfl
  | (k, d) :: kvs, ks, h => by
    unfold Rt at h
    obtain ⟨key, v, r, rfl, _, _, h⟩ := h
    simp [Rt.len h]
theorem Rk.get {F : Hp} {ρ : Rho} : ∀ {kvs : List (D × D)} {ks : List (Key × V)} {i : Nat} {k d : D}, Rk C F ρ kvs ks → kvs[i]? = some (k, d) → ∃ key v, ks[i]? = some (key, v) ∧ k = keyD key ∧ R C F ρ d v
  | [], ks, i, k, d, h, e => by simp at e
  | (k', d') :: kvs, ks, 0, k, d, h, e => by
    unfold Rk at h
    obtain ⟨key, v, r, rfl, a, b, h⟩ := h
    simp at e
    obtain ⟨rfl, rfl⟩ := e
    exact ⟨key, v, rfl, a, b⟩
  | (k', d') :: kvs, ks, i + 1, k, d, h, e => by
    unfold Rk at h
    obtain ⟨key, v, r, rfl, a, b, h⟩ := h
    obtain ⟨key2, v2, e1, e2, e3⟩ := Rk.get (i := i) h (by simpa using e)
    exact ⟨key2, v2, by simpa using e1, e2, e3⟩
theorem Rt.get {F : Hp} {ρ : Rho} : ∀ {kvs : List (D × D)} {ks : List (List Key × V)} {i : Nat} {k d : D}, Rt C F ρ kvs ks → kvs[i]? = some (k, d) → ∃ key v, ks[i]? = some (key, v) ∧ k = .tup (key.map keyD) ∧ R C F ρ d v
  | [], ks, i, k, d, h, e => by simp at e
  | (k', d') :: kvs, ks, 0, k, d, h, e => by
    unfold Rt at h
    obtain ⟨key, v, r, rfl, a, b, h⟩ := h
    simp at e
    obtain ⟨rfl, rfl⟩ := e
    exact ⟨key, v, rfl, a, b⟩
  | (k', d') :: kvs, ks, i + 1, k, d, h, e => by
    unfold Rt at h
    obtain ⟨key, v, r, rfl, a, b, h⟩ := h
    obtain ⟨key2, v2, e1, e2, e3⟩ := Rt.get (i := i) h (by simpa using e)
    exact ⟨key2, v2, by simpa using e1, e2, e3⟩
theorem R.key {F : Hp} {ρ : Rho} (k : Key) : R C F ρ (keyD k) (kV k) := by cases k <;> (unfold keyD kV R; rfl)
theorem Rs.keys {F : Hp} {ρ : Rho} : ∀ ks : List Key, Rs C F ρ (ks.map keyD) (ks.map kV)
  | [] => by simp [Rs]
  | k :: ks => by
    show Rs C F ρ (keyD k :: ks.map keyD) (kV k :: ks.map kV)
    unfold Rs
    exact ⟨_, _, rfl, R.key k, Rs.keys ks⟩
theorem get_fst {kvs : List (D × D)} {i : Nat} (hi : i < kvs.length) : ∃ k d, kvs[i]? = some (k, d) := ⟨_, _, List.getElem?_eq_getElem hi⟩
theorem Iter.keysK {a : Addr} {o : Obj} {ks : List (Key × V)} {kvs : List (D × D)} (f : s.F a = some (.frz o (.dK ks))) (r : Rk C s.F s.ρ kvs ks) : Iter C s (kvs.map (·.1)) (Itk a o ks) := fun t i ft gt => by
  have hd := gt.sub _ _ (ft.sub _ _ f)
  refine ⟨fun hi => ⟨⟨hd, by rw [← r.len]; simpa using hi⟩, fun x H' y => ?_⟩, fun hi => ⟨hd, by rw [← r.len]; simpa using hi⟩⟩
  obtain ⟨rfl, k, v, e, rfl⟩ := y
  obtain ⟨kd, d, e1⟩ := get_fst (kvs := kvs) (i := i) (by simpa using hi)
  obtain ⟨key, v', e2, e3, _⟩ := r.get e1
  rw [e] at e2; cases e2
  exact ⟨t, kd, rfl, .refl _, gt, rfl, by rw [List.getElem?_map, e1]; rfl, by rw [e3]; exact R.key k⟩
theorem Iter.keysT {a : Addr} {o : Obj} {ks : List (List Key × V)} {kvs : List (D × D)} (f : s.F a = some (.frz o (.dT ks))) (r : Rt C s.F s.ρ kvs ks) : Iter C s (kvs.map (·.1)) (Itkt a o ks) := fun t i ft gt => by
  have hd := gt.sub _ _ (ft.sub _ _ f)
  refine ⟨fun hi => ⟨⟨hd, by rw [← r.len]; simpa using hi⟩, fun x H' y => ?_⟩, fun hi => ⟨hd, by rw [← r.len]; simpa using hi⟩⟩
  obtain ⟨rfl, k, v, q, e, rfl, hq⟩ := y
  obtain ⟨kd, d, e1⟩ := get_fst (kvs := kvs) (i := i) (by simpa using hi)
  obtain ⟨key, v', e2, e3, _⟩ := r.get e1
  rw [e] at e2; cases e2
  refine ⟨t, kd, rfl, .refl _, gt, rfl, by rw [List.getElem?_map, e1]; rfl, ?_⟩
  rw [e3]
  unfold R
  exact ⟨q, _, rfl, gt.tups _ _ hq, Rs.keys k⟩
theorem Iter.vals {a : Addr} {o : Obj} {ks : List (Key × V)} {kvs : List (D × D)} (f : s.F a = some (.frz o (.dK ks))) (r : Rk C s.F s.ρ kvs ks) : Iter C s (kvs.map (·.2)) (Itd a o ks) := fun t i ft gt => by
  have hd := gt.sub _ _ (ft.sub _ _ f)
  refine ⟨fun hi => ⟨⟨hd, by rw [← r.len]; simpa using hi⟩, fun x H' y => ?_⟩, fun hi => ⟨hd, by rw [← r.len]; simpa using hi⟩⟩
  obtain ⟨rfl, k, e⟩ := y
  obtain ⟨kd, d, e1⟩ := get_fst (kvs := kvs) (i := i) (by simpa using hi)
  obtain ⟨key, v', e2, e3, r2⟩ := (Rk.mono ft.sub ft.rho r).get e1
  rw [e] at e2; cases e2
  exact ⟨t, d, rfl, .refl _, gt, rfl, by rw [List.getElem?_map, e1]; rfl, r2⟩
theorem Iter.items {a : Addr} {o : Obj} {ks : List (Key × V)} {kvs : List (D × D)} (f : s.F a = some (.frz o (.dK ks))) (r : Rk C s.F s.ρ kvs ks) : Iter C s (kvs.map fun p => .tup [p.1, p.2]) (Iti a o ks) := fun t i ft gt => by
  have hd := gt.sub _ _ (ft.sub _ _ f)
  refine ⟨fun hi => ⟨⟨hd, by rw [← r.len]; simpa using hi⟩, fun x H' y => ?_⟩, fun hi => ⟨hd, by rw [← r.len]; simpa using hi⟩⟩
  obtain ⟨T, k, v, e, rfl, hT, rfl⟩ := y
  obtain ⟨kd, d, e1⟩ := get_fst (kvs := kvs) (i := i) (by simpa using hi)
  obtain ⟨key, v', e2, e3, r2⟩ := (Rk.mono ft.sub ft.rho r).get e1
  rw [e] at e2; cases e2
  obtain ⟨f2, g2, r3⟩ := pair_ok gt hT (show R C t.F t.ρ kd (kV k) by rw [e3]; exact R.key k) r2
  exact ⟨_, _, rfl, f2, g2, rfl, by rw [List.getElem?_map, e1]; rfl, r3⟩
end
/-! ### the rules -/
/-- a list, a tuple, a text, a dict's keys: what a plain walk hands out -/
def itemsL : D → AH → Out (List D) := fun d h => match d with
  | .lst xs => .ok xs h
  | _ => .bad
def itemsT : D → AH → Out (List D) := fun d h => match d with
  | .tup xs => .ok xs h
  | _ => .bad
def itemsS : D → AH → Out (List D) := fun d h => match d with
  | .str x => .ok (x.cps.toList.map sgn) h
  | _ => .bad
def itemsK : D → AH → Out (List D) := fun d h => match d with
  | .dct kvs => .ok (kvs.map (·.1)) h
  | .dcT kvs => .ok (kvs.map (·.1)) h
  | _ => .bad
def itemsV : D → AH → Out (List D) := fun d h => match d with
  | .dct kvs => .ok (kvs.map (·.2)) h
  | _ => .bad
def itemsI : D → AH → Out (List D) := fun d h => match d with
  | .dct kvs => .ok (kvs.map fun p => .tup [p.1, p.2]) h
  | _ => .bad
def isKeysK : List (D × D) → Bool
  | [] => true
  | (.int _, _) :: _ => true
  | (.str _, _) :: _ => true
  | _ => false
def walk (g : D → AH → Out (List D)) (m : M D) : M (List D) := fun σ h => (m σ h).bind g
def walkA (g : List D → AH → Out (List D)) (m : M (List D)) : M (List D) := fun σ h => (m σ h).bind g
section
variable {X : Cx} {C : Cf} {ε : Ep} {W : WX} {tg e e2 : Expr} {me : M D} {mr : M (List D)} {p pos apos : Pos}
theorem mi_lst (hK : X.K = C.K) (he : ME X C ε W e me) : MI X C ε W tg e (walk itemsL me) := (pi_list he).imp fun σ H Q h => by
  obtain ⟨s, dσ, rfl, ex, g, rs, h⟩ := h
  refine Post.bind ex g rs h fun s1 d v e1 f1 g1 rs1 r1 h1 => ?_
  cases d with
  | lst xs =>
    unfold R at r1
    obtain ⟨a, ys, rfl, fa, rr⟩ := r1
    exact ⟨a, rfl, ⟨ys, SqL.of (g1.sub _ _ fa)⟩, Post.here g1 h1 (Iter.lst fa rr)⟩
  | _ => exact h1.elim
theorem mi_tup (he : ME X C ε W e me) : MI X C ε W tg e (walk itemsT me) := (pi_tup he).imp fun σ H Q h => by
  obtain ⟨s, dσ, rfl, ex, g, rs, h⟩ := h
  refine Post.bind ex g rs h fun s1 d v e1 f1 g1 rs1 r1 h1 => ?_
  cases d with
  | tup xs =>
    unfold R at r1
    obtain ⟨a, ys, rfl, fa, rr⟩ := r1
    exact ⟨a, rfl, ⟨ys, SqT.of (g1.sub _ _ fa)⟩, Post.here g1 h1 (Iter.tup fa rr)⟩
  | _ => exact h1.elim
theorem mi_str (he : ME X C ε W e me) : MI X C ε W tg e (walk itemsS me) := (pi_str he).imp fun σ H Q h => by
  obtain ⟨s, dσ, rfl, ex, g, rs, h⟩ := h
  refine Post.bind ex g rs h fun s1 d v e1 f1 g1 rs1 r1 h1 => ?_
  cases d with
  | str x =>
    unfold R at r1
    exact ⟨x, r1, Post.here g1 h1 (Iter.str x)⟩
  | _ => exact h1.elim
theorem mi_keys (he : ME X C ε W e me) : MI X C ε W tg e (walk itemsK me) := (pi_keys he).imp fun σ H Q h => by
  obtain ⟨s, dσ, rfl, ex, g, rs, h⟩ := h
  refine Post.bind ex g rs h fun s1 d v e1 f1 g1 rs1 r1 h1 => ?_
  cases d with
  | dct kvs =>
    unfold R at r1
    obtain ⟨a, o, ks, rfl, fa, rr⟩ := r1
    exact ⟨a, o, rfl, .inl ⟨ks, g1.sub _ _ fa, Post.here g1 h1 (Iter.keysK fa rr)⟩⟩
  | dcT kvs =>
    unfold R at r1
    obtain ⟨a, o, ks, rfl, fa, rr⟩ := r1
    exact ⟨a, o, rfl, .inr ⟨ks, g1.sub _ _ fa, Post.here g1 h1 (Iter.keysT fa rr)⟩⟩
  | _ => exact h1.elim
theorem mi_values (he : ME X C ε W e me) (hbase : attributeBase e "values" X.env (eval e X.env) = eval e X.env := by rfl) (hline : (apos.endLine == pos.line) = true := by rfl) : MI X C ε W tg (.Call (.Attribute e "values" apos) [] [] pos) (walk itemsV me) := (pi_values he hbase hline).imp fun σ H Q h => by
  obtain ⟨s, dσ, rfl, ex, g, rs, h⟩ := h
  refine Post.bind ex g rs h fun s1 d v e1 f1 g1 rs1 r1 h1 => ?_
  cases d with
  | dct kvs =>
    unfold R at r1
    obtain ⟨a, o, ks, rfl, fa, rr⟩ := r1
    exact ⟨a, o, ks, rfl, g1.sub _ _ fa, Post.here g1 h1 (Iter.vals fa rr)⟩
  | _ => exact h1.elim
theorem mi_items {elts : List Expr} {kk : Nat} {tpos : Pos} (he : ME X C ε W e me) (hbase : attributeBase e "items" X.env (eval e X.env) = eval e X.env := by rfl) (hline : (apos.endLine == pos.line) = true := by rfl) : MI X C ε W (.Tuple elts kk tpos) (.Call (.Attribute e "items" apos) [] [] pos) (walk itemsI me) := (pi_items he hbase hline).imp fun σ H Q h => by
  obtain ⟨s, dσ, rfl, ex, g, rs, h⟩ := h
  refine Post.bind ex g rs h fun s1 d v e1 f1 g1 rs1 r1 h1 => ?_
  cases d with
  | dct kvs =>
    unfold R at r1
    obtain ⟨a, o, ks, rfl, fa, rr⟩ := r1
    exact ⟨a, o, ks, rfl, g1.sub _ _ fa, Post.here g1 h1 (Iter.items fa rr)⟩
  | _ => exact h1.elim
def rng1 : List D → AH → Out (List D) := fun ds h => match ds with
  | [.int j] => if -(2 ^ 62) ≤ j ∧ j < 2 ^ 62 then .ok ((List.range j.toNat).map fun (i : Nat) => D.int (i : Int)) h else .bad
  | _ => .bad
theorem mi_range1 (hg : Gl X "range") (hm : X.mg "range" = none) (ha : MA X C ε W [e] mr) (hs : starEach [e] X.env = [(false, eval e X.env)] := by rfl) : MI X C ε W tg (.Call (.Name "range" p) [e] [] pos) (walkA rng1 mr) := (pi_range1 hg hm ha hs).imp fun σ H Q h => by
  obtain ⟨s, dσ, rfl, ex, g, rs, h⟩ := h
  refine Post.bind ex g rs h fun s1 d v e1 f1 g1 rs1 r1 h1 => ?_
  unfold rng1 at h1
  split at h1
  · split at h1
    · rename_i j hj
      unfold Rs at r1
      obtain ⟨v1, r, rfl, r2, r3⟩ := r1
      unfold Rs at r3
      unfold R at r2
      subst r3 r2
      have it := Iter.rng (C := C) (s := s1) 0 j.toNat
      simp only [Int.zero_add] at it
      exact ⟨j, rfl, hj.1, hj.2, Post.here g1 h1 it⟩
    · exact h1.elim
  · exact h1.elim
def rng2 : List D → AH → Out (List D) := fun ds h => match ds with
  | [.int i, .int j] => if -(2 ^ 62) ≤ i ∧ i < 2 ^ 62 ∧ -(2 ^ 62) ≤ j ∧ j < 2 ^ 62 then .ok ((List.range (j - i).toNat).map fun (k : Nat) => D.int (i + (k : Int))) h else .bad
  | _ => .bad
theorem mi_range2 (hg : Gl X "range") (hm : X.mg "range" = none) (ha : MA X C ε W [e, e2] mr) (hs : starEach [e, e2] X.env = [(false, eval e X.env), (false, eval e2 X.env)] := by rfl) (hs2 : starEach [e2] X.env = [(false, eval e2 X.env)] := by rfl) : MI X C ε W tg (.Call (.Name "range" p) [e, e2] [] pos) (walkA rng2 mr) := (pi_range2 hg hm ha hs hs2).imp fun σ H Q h => by
  obtain ⟨s, dσ, rfl, ex, g, rs, h⟩ := h
  refine Post.bind ex g rs h fun s1 d v e1 f1 g1 rs1 r1 h1 => ?_
  unfold rng2 at h1
  split at h1
  · split at h1
    · rename_i i j hj
      unfold Rs at r1
      obtain ⟨v1, r, rfl, r2, r3⟩ := r1
      unfold Rs at r3
      obtain ⟨v2, r4, rfl, r5, r6⟩ := r3
      unfold Rs at r6
      unfold R at r2 r5
      subst r6 r5 r2
      exact ⟨i, j, rfl, hj, Post.here g1 h1 (Iter.rng (C := C) (s := s1) i (j - i).toNat)⟩
    · exact h1.elim
  · exact h1.elim
/-- down by ones -/
def rng3 : List D → AH → Out (List D) := fun ds h => match ds with
  | [.int i, .int j, .int c] => if c = -1 ∧ -(2 ^ 62) ≤ i ∧ i < 2 ^ 62 ∧ -(2 ^ 62) ≤ j ∧ j < 2 ^ 62 then .ok ((List.range (i - j).toNat).map fun (k : Nat) => D.int (i + (k : Int) * (-1))) h else .bad
  | _ => .bad
theorem mi_range3 {e3 : Expr} (hg : Gl X "range") (hm : X.mg "range" = none) (ha : MA X C ε W [e, e2, e3] mr) (hs : starEach [e, e2, e3] X.env = (false, eval e X.env) :: starEach [e2, e3] X.env := by rfl) (hpl : (backTo pos (starEach [e2, e3] X.env)).any (·.1) = false := by rfl) : MI X C ε W tg (.Call (.Name "range" p) [e, e2, e3] [] pos) (walkA rng3 mr) := (pi_range3 hg hm ha hs hpl).imp fun σ H Q h => by
  obtain ⟨s, dσ, rfl, ex, g, rs, h⟩ := h
  refine Post.bind ex g rs h fun s1 d v e1 f1 g1 rs1 r1 h1 => ?_
  unfold rng3 at h1
  split at h1
  · split at h1
    · rename_i i j c hj
      unfold Rs at r1
      obtain ⟨v1, r, rfl, r2, r3⟩ := r1
      unfold Rs at r3
      obtain ⟨v2, r4, rfl, r5, r6⟩ := r3
      unfold Rs at r6
      obtain ⟨v3, r7, rfl, r8, r9⟩ := r6
      unfold Rs at r9
      unfold R at r2 r5 r8
      subst r9 r8 r5 r2
      obtain ⟨rfl, h1', h2', h3', h4'⟩ := hj
      exact ⟨i, j, -1, _, rfl, RgC.neg h1' h2' h3' h4', Post.here g1 h1 (Iter.rngC (C := C) (s := s1) i (-1) (i - j).toNat)⟩
    · exact h1.elim
  · exact h1.elim
def enumL : List D → AH → Out (List D) := fun ds h => match ds with
  | [.lst xs] => .ok (enumD 0 xs) h
  | _ => .bad
theorem mi_enum {elts : List Expr} {kk : Nat} {tpos : Pos} (hK : X.K = C.K) (hg : Gl X "enumerate") (hm : X.mg "enumerate" = none) (ha : MA X C ε W [e] mr) (hs : starEach [e] X.env = [(false, eval e X.env)] := by rfl) : MI X C ε W (.Tuple elts kk tpos) (.Call (.Name "enumerate" p) [e] [] pos) (walkA enumL mr) := (pi_enum hg hm ha hs).imp fun σ H Q h => by
  obtain ⟨s, dσ, rfl, ex, g, rs, h⟩ := h
  refine Post.bind ex g rs h fun s1 d v e1 f1 g1 rs1 r1 h1 => ?_
  unfold enumL at h1
  split at h1
  · rename_i xs
    unfold Rs at r1
    obtain ⟨v1, r, rfl, r2, r3⟩ := r1
    unfold Rs at r3
    unfold R at r2
    obtain ⟨a, ys, rfl, fa, rr⟩ := r2
    subst r3
    exact ⟨a, ys, rfl, SqL.of (g1.sub _ _ fa), Post.here g1 h1 (Iter.enum fa rr)⟩
  · exact h1.elim
def zipL : List D → AH → Out (List D) := fun ds h => match ds with
  | [.lst xs, .lst ys] => .ok (zipD xs ys) h
  | [.tup xs, .tup ys] => .ok (zipD xs ys) h
  | _ => .bad
theorem mi_zip {elts : List Expr} {kk : Nat} {tpos : Pos} (hg : Gl X "zip") (hm : X.mg "zip" = none) (ha : MA X C ε W [e, e2] mr) (hs : starEach [e, e2] X.env = (false, eval e X.env) :: starEach [e2] X.env := by rfl) (hpl : (backTo pos (starEach [e2] X.env)).any (·.1) = false := by rfl) :
    MI X C ε W (.Tuple elts kk tpos) (.Call (.Name "zip" p) [e, e2] [] pos) (walkA zipL mr) := (RZ.pi_zipA hg hm ha hs hpl).imp fun σ H Q h => by
  obtain ⟨s, dσ, rfl, ex, g, rs, h⟩ := h
  refine Post.bind ex g rs h fun s1 d v e1 f1 g1 rs1 r1 h1 => ?_
  unfold zipL at h1
  split at h1
  · unfold Rs at r1
    obtain ⟨v1, r, rfl, r2, r3⟩ := r1
    unfold Rs at r3
    obtain ⟨v2, r4, rfl, r5, r6⟩ := r3
    unfold Rs at r6
    unfold R at r2 r5
    obtain ⟨a, ys, rfl, fa, rr⟩ := r2
    obtain ⟨b, zs, rfl, fb, rr2⟩ := r5
    subst r6
    exact ⟨a, b, ys, zs, rfl, .inl ⟨SqL.of (g1.sub _ _ fa), SqL.of (g1.sub _ _ fb), Post.here g1 h1 (Iter.zip fa rr fb rr2)⟩⟩
  · unfold Rs at r1
    obtain ⟨v1, r, rfl, r2, r3⟩ := r1
    unfold Rs at r3
    obtain ⟨v2, r4, rfl, r5, r6⟩ := r3
    unfold Rs at r6
    unfold R at r2 r5
    obtain ⟨a, ys, rfl, fa, rr⟩ := r2
    obtain ⟨b, zs, rfl, fb, rr2⟩ := r5
    subst r6
    exact ⟨a, b, ys, zs, rfl, .inr ⟨SqT.of (g1.sub _ _ fa), SqT.of (g1.sub _ _ fb), Post.here g1 h1 (Iter.zipT fa rr fb rr2)⟩⟩
  · exact h1.elim
end
end Ws

set_option Elab.async false
set_option linter.all false
set_option maxRecDepth 100000
set_option autoImplicit false
namespace Ws
open PySem PySem.Spec L2
/-! ### comprehensions -/
/-- a target within a block: the names' own slots vs -/
def TgW (C : Cf) (ε : Ep) (vs : List Nat) (g : TG) (t : Tg) : Prop := ∀ (s : Sx) (σ : L2.St) (dσ : Sl) (d : D) (v : V) (Q : L2.St → Hp → Prop), s.ρ.x = ε → Good C s → RS C s σ dσ → R C s.F s.ρ d v →
  (match t d dσ s.ah with
    | .ok dσ' h' => ∀ σ', h' = s.ah → wipe σ' vs = wipe σ vs → RS C s σ' dσ' → Q σ' s.H
    | _ => False) → g v σ s.H Q
theorem wipe_set {σ : L2.St} {i : Nat} {x : Option V} : ∀ {vs : List Nat}, i ∈ vs → wipe (σ.set i x) vs = wipe σ vs
  | [], h => by cases h
  | v :: vs, h => by
    unfold wipe
    by_cases hv : i ∈ vs
    · rw [wipe_set hv]
    · have e : i = v := by
        rcases List.mem_cons.mp h with h | h
        · exact h
        · exact absurd h hv
      subst e
      have out : ∀ (vs : List Nat) (σ : L2.St), i ∉ vs → wipe (σ.set i x) vs = (wipe σ vs).set i x := by
        intro vs
        induction vs with
        | nil => intro σ _; rfl
        | cons a r ih =>
          intro σ hn
          simp only [List.mem_cons, not_or] at hn
          unfold wipe
          rw [ih σ hn.2, List.set_comm _ _ (Ne.symm hn.1)]
      rw [out vs σ hv, List.set_set]
theorem tgw_name {C : Cf} {ε : Ep} {vs : List Nat} (i : Nat) (hi : i ∈ vs) : TgW C ε vs (gName i) (tgN i) := fun s σ dσ d v Q ex g rs r h => h _ rfl (wipe_set hi) (rs.set r)
def TgsW (C : Cf) (ε : Ep) (vs : List Nat) (g : TGs) (t : Tgs) : Prop := ∀ (s : Sx) (σ : L2.St) (dσ : Sl) (d : List D) (v : List V) (Q : L2.St → Hp → Prop), s.ρ.x = ε → Good C s → RS C s σ dσ → Rs C s.F s.ρ d v →
  (match t d dσ s.ah with
    | .ok dσ' h' => ∀ σ', h' = s.ah → wipe σ' vs = wipe σ vs → RS C s σ' dσ' → Q σ' s.H
    | _ => False) → g v σ s.H Q
theorem tgw_nil {C : Cf} {ε : Ep} {vs : List Nat} : TgsW C ε vs gNil tgNil := fun s σ dσ d v Q ex g rs r h => by
  cases d with
  | nil => exact ⟨by unfold Rs at r; exact r, h σ rfl rfl rs⟩
  | cons => exact h.elim
theorem tgw_cons {C : Cf} {ε : Ep} {vs : List Nat} {i : Nat} {g : TGs} {t : Tgs} (hi : i ∈ vs) (h2 : TgsW C ε vs g t) : TgsW C ε vs (gCons (gName i) g) (tgCons (tgN i) t) := fun s σ dσ d v Q ex gd rs r h => by
  cases d with
  | nil => exact h.elim
  | cons d ds =>
    unfold Rs at r
    obtain ⟨v1, vr, rfl, rd, rr⟩ := r
    refine ⟨v1, vr, rfl, ?_⟩
    refine h2 s (σ.set i (some v1)) (dσ.set i (some d)) ds vr Q ex gd (rs.set rd) rr ?_
    have h' : (match t ds (dσ.set i (some d)) s.ah with
      | .ok dσ' h' => ∀ σ', h' = s.ah → wipe σ' vs = wipe σ vs → RS C s σ' dσ' → Q σ' s.H
      | _ => False) := h
    cases q : t ds (dσ.set i (some d)) s.ah with
    | ok dσ' h1 => rw [q] at h'; exact fun σ' e1 e2 e3 => h' σ' e1 (e2.trans (wipe_set hi)) e3
    | exc => rw [q] at h'; exact h'
    | bad => rw [q] at h'; exact h'
theorem tgw_tup {C : Cf} {ε : Ep} {vs : List Nat} {K : PySem.W.Frag} {n : Nat} {g : TGs} {t : Tgs} (h2 : TgsW C ε vs g t) (hl : ∀ ds dσ h, t ds dσ h ≠ .bad → ds.length = n) : TgW C ε vs (gTup K n g) (tgTup t) := fun s σ dσ d v Q ex gd rs r h => by
  cases d with
  | tup xs =>
    unfold R at r
    obtain ⟨a, ys, rfl, fa, rr⟩ := r
    have h' : (match t xs dσ s.ah with
      | .ok dσ' h' => ∀ σ', h' = s.ah → wipe σ' vs = wipe σ vs → RS C s σ' dσ' → Q σ' s.H
      | _ => False) := h
    refine ⟨a, ys, rfl, SqT.of (gd.sub _ _ fa), ?_, h2 s σ dσ xs ys Q ex gd rs rr h'⟩
    rw [← rr.length]
    exact hl xs dσ s.ah fun z => by rw [z] at h'; exact h'
  | _ => exact h.elim
theorem RS.wipe {C : Cf} {s : Sx} {σ : L2.St} {dσ : Sl} (vs : List Nat) (h : RS C s σ dσ) : RS C s (L2.wipe σ vs) (wipeD dσ vs) := by
  refine ⟨by rw [wipe_length, wipeD_length]; exact h.1, fun i d e => ?_⟩
  obtain ⟨e1, hn⟩ := wipeD_some e
  obtain ⟨v, e2, r⟩ := h.2 i d e1
  exact ⟨v, by rw [wipe_out hn]; exact e2, r⟩
/-- the wish of a block: nothing is let out -/
abbrev WF : WX := fun _ _ _ _ => False
/-- behind the tests of a clause -/
def oneB (c : M Bool) : M Bool := c
def yesB : M Bool := fun _ h => .ok true h
abbrev MTs (X : Cx) (C : Cf) (ε : Ep) (ifs : List Expr) (m : M Bool) : Prop := PTs X ifs (tG C ε WF rB m)
theorem _root_.L2.PTs.imp {X : Cx} {e : List Expr} {t t' : TT} (h : PTs X e t) (k : ∀ σ H Q, t' σ H Q → t σ H Q) : PTs X e t' := ⟨fun pins s σ H Q I q => h.run pins s σ H Q I (k σ H Q q)⟩
theorem mts_nil {X : Cx} {C : Cf} {ε : Ep} : MTs X C ε [] yesB := pts_nil.imp fun σ H Q h => by
  obtain ⟨s, dσ, rfl, ex, g, rs, h⟩ := h
  exact Post.here g h rfl
theorem mts_one {X : Cx} {C : Cf} {ε : Ep} {c : Expr} {m : M Bool} (h : MT X C ε WF c m) : MTs X C ε [c] m := pts_one h
/-- what a turn adds: nothing, or one thing (exceptions do not leave) -/
def turnM (t : Tg) (c : M Bool) (e : M D) (σ : Sl) (d : D) (h : AH) : Out (Option D) := match t d σ h with
  | .ok σ1 h1 => (match c σ1 h1 with
    | .ok true h2 => (match e σ1 h2 with
      | .ok y h3 => .ok (some y) h3
      | _ => .bad)
    | .ok false h2 => .ok none h2
    | _ => .bad)
  | _ => .bad
theorem turnM_exc {t : Tg} {c : M Bool} {e : M D} {σ : Sl} {d : D} {h h' : AH} {x : Exc} (z : turnM t c e σ d h = .exc x h') : False := by
  unfold turnM at z
  cases q : t d σ h with
  | ok σ1 h1 =>
    rw [q] at z
    dsimp only at z
    cases qc : c σ1 h1 with
    | ok b h2 =>
      rw [qc] at z
      cases b with
      | true =>
        dsimp only at z
        cases qe : e σ1 h2 <;> (rw [qe] at z; cases z)
      | false => cases z
    | exc => rw [qc] at z; cases z
    | bad => rw [qc] at z; cases z
  | exc => rw [q] at z; cases z
  | bad => rw [q] at z; cases z
def lcGo (t : Tg) (c : M Bool) (e : M D) (σ : Sl) : List D → List D → AH → Out (List D)
  | [], acc, h => .ok acc h
  | d :: ds, acc, h => (turnM t c e σ d h).bind fun o h1 => match o with
    | some y => if acc.length < 1000000 then lcGo t c e σ ds (acc ++ [y]) h1 else .bad
    | none => lcGo t c e σ ds acc h1
/-- [e for t in mi if c]; vs: the block's own slots -/
def lc (vs : List Nat) (mi : M (List D)) (t : Tg) (c : M Bool) (e : M D) : M D := fun σ h => (mi σ h).bind fun ds h1 => (lcGo t c e (wipeD σ vs) ds [] h1).bind fun xs h2 => .ok (.lst xs) h2
/-- a thing at p that is being filled: no cell, not yet kept -/
structure Fill (s : Sx) (p : Addr) (o : HO) : Prop where
  at_ : s.H p = some o
  nF : s.F p = none
  nC : ∀ n, s.ρ.c n = some p → s.ah.get n = none
theorem Fill.fwd {s t : Sx} {p : Addr} {o : HO} (i : Fill s p o) (f : Fwd s t) : Fill t p o where
  at_ := f.frame p o i.at_ i.nC
  nF := by
    cases q : t.F p with
    | none => rfl
    | some u =>
      rcases f.still p u q with z | z | ⟨n, z1, z2⟩
      · rw [i.nF] at z; cases z
      · rw [i.at_] at z; cases z
      · exact absurd (i.nC n z1) z2
  nC := fun n e => by
    cases q : t.ah.get n with
    | none => rfl
    | some ob =>
      rcases f.fresh n p e (by rw [q]; exact fun z => nomatch z) with ⟨z1, z2⟩ | z
      · exact absurd (i.nC n z1) z2
      · rw [i.at_] at z; cases z
/-- what is being filled, changed -/
def Sx.setp (s : Sx) (p : Addr) (o : HO) : Sx := { s with H := upd s.H p o }
def noTup : HO → Prop
  | .tup _ => False
  | _ => True
theorem Good.setp {C : Cf} {s : Sx} (g : Good C s) {p : Addr} {o o' : HO} (i : Fill s p o') (nt : ∀ ys, o ≠ .tup ys) : Good C (s.setp p o) where
  sub := fun a u e => by
    show upd s.H p o a = _
    have e' : s.F a = some u := e
    rw [upd_ne (fun z => by rw [z, i.nF] at e'; cases e')]; exact g.sub a u e
  tups := fun a ys e => by
    have e' : upd s.H p o a = some (.tup ys) := e
    by_cases h : a = p
    · rw [h, upd_same] at e'; exact absurd (Option.some.inj e') (nt ys)
    · rw [upd_ne h] at e'; exact g.tups a ys e'
  own := fun n ob e => by
    obtain ⟨a, e1, e2, e3⟩ := g.own n ob e
    have ne : a ≠ p := fun z => by
      subst z
      have e' : s.ah.get n = some ob := e
      rw [i.nC n e1] at e'; cases e'
    exact ⟨a, e1, e2, e3.mono (.refl _) (.refl _) (show upd s.H p o a = s.H a from upd_ne ne)⟩
  inj := g.inj
  dom := g.dom
theorem Fwd.setp {s t : Sx} (f : Fwd s t) {p : Addr} {o : HO} (h : s.H p = none) : Fwd s (t.setp p o) where
  sub := f.sub
  rho := f.rho
  frame := fun a u e k => by show upd t.H p o a = _; rw [upd_ne (ne_of_none e h)]; exact f.frame a u e k
  fresh := f.fresh
  there := fun a u e => by
    obtain ⟨u', z⟩ := f.there a u e
    exact ⟨u', by show upd t.H p o a = _; rw [upd_ne (ne_of_none e h)]; exact z⟩
  still := f.still
theorem Fill.setp {s : Sx} {p : Addr} {o o' : HO} (i : Fill s p o') : Fill (s.setp p o) p o := ⟨upd_same, i.nF, i.nC⟩
/-- it is full: it stays -/
def Sx.done (s : Sx) (p : Addr) (o : HO) : Sx := { s with F := upd s.F p o }
theorem Good.done {C : Cf} {s : Sx} (g : Good C s) {p : Addr} {o : HO} (i : Fill s p o) : Good C (s.done p o) ∧ Sub s.F (s.done p o).F := by
  have sb : Sub s.F (s.done p o).F := Sub.upd' i.nF
  refine ⟨⟨fun a u e => ?_, fun a ys e => sb _ _ (g.tups a ys e), fun n ob e => ?_, g.inj, g.dom⟩, sb⟩
  · have e' : upd s.F p o a = some u := e
    by_cases h : a = p
    · rw [h, upd_same] at e'; cases e'; rw [h]; exact i.at_
    · rw [upd_ne h] at e'; exact g.sub a u e'
  · obtain ⟨a, e1, e2, e3⟩ := g.own n ob e
    have ne : a ≠ p := fun z => by
      subst z
      have e' : s.ah.get n = some ob := e
      rw [i.nC n e1] at e'; cases e'
    exact ⟨a, e1, (show upd s.F p o a = none by rw [upd_ne ne]; exact e2), e3.mono sb (.refl _) rfl⟩
theorem Fwd.done {s t : Sx} (f : Fwd s t) {p : Addr} {o : HO} (h : s.H p = none) (i : Fill t p o) : Fwd s (t.done p o) where
  sub := f.sub.trans (Sub.upd' i.nF)
  rho := f.rho
  frame := f.frame
  fresh := f.fresh
  there := f.there
  still := fun a u e => by
    have e' : upd t.F p o a = some u := e
    by_cases h' : a = p
    · rw [h']; exact .inr (.inl h)
    · rw [upd_ne h'] at e'; exact f.still a u e'
theorem Fill.new {C : Cf} {s : Sx} (g : Good C s) {p : Addr} {o : HO} (h : s.H p = none) : Fill (s.setp p o) p o := ⟨upd_same, g.notF h, fun n e => g.notC h e⟩
theorem Good.fill {C : Cf} {s : Sx} (g : Good C s) {p : Addr} {o : HO} (h : s.H p = none) (nt : ∀ ys, o ≠ .tup ys) : Good C (s.setp p o) where
  sub := fun a u e => by
    show upd s.H p o a = _
    rw [upd_ne (ne_of_none (g.sub a u e) h)]; exact g.sub a u e
  tups := fun a ys e => by
    have e' : upd s.H p o a = some (.tup ys) := e
    by_cases h : a = p
    · rw [h, upd_same] at e'; exact absurd (Option.some.inj e') (nt ys)
    · rw [upd_ne h] at e'; exact g.tups a ys e'
  own := fun n ob e => by
    obtain ⟨a, e1, e2, e3⟩ := g.own n ob e
    obtain ⟨u, z⟩ := e3.there
    exact ⟨a, e1, e2, e3.mono (.refl _) (.refl _) (show upd s.H p o a = s.H a from upd_ne (ne_of_none z h))⟩
  inj := g.inj
  dom := g.dom
theorem Rs.snoc {C : Cf} {F : Hp} {ρ : Rho} {d : D} {v : V} {ds : List D} {vs : List V} (r : Rs C F ρ ds vs) (q : R C F ρ d v) : Rs C F ρ (ds ++ [d]) (vs ++ [v]) := Rs.app r (by unfold Rs; exact ⟨v, [], rfl, q, by unfold Rs; rfl⟩)
section
variable {X : Cx} {C : Cf} {ε : Ep} {W : WX} {elt tg iter : Expr} {ifs : List Expr} {scope : Scope} {own : List (Str × Nat)} {pos : Pos} {mi : M (List D)} {g : TG} {t : Tg} {c : M Bool} {e : M D}
theorem lim_lt {n : Nat} (h : n < 1000000) : n < sizeLine := Nat.lt_of_lt_of_le h (by rw [sizeLine_eq]; decide)
/-- one turn, as the machine reads it -/
theorem turn_core {vs : List Nat} {σ : L2.St} {dσ : Sl} {s : Sx} {d : D} {x : V} {T : Option V → Hp → Prop} (tw : TgW C ε vs g t) (ex : s.ρ.x = ε) (gd : Good C s) (rs : RS C s (wipe σ vs) (wipeD dσ vs)) (r : R C s.F s.ρ d x)
    (h : match turnM t c e (wipeD dσ vs) d s.ah with
      | .ok none h' => ∀ s', s'.ah = h' → Fwd s s' → Good C s' → T none s'.H
      | .ok (some y) h' => ∀ s' v, s'.ah = h' → Fwd s s' → Good C s' → R C s'.F s'.ρ y v → T (some v) s'.H
      | _ => False) :
    g x (wipe σ vs) s.H fun σ2 H2 => wipe σ2 vs = wipe σ vs ∧ tG C ε WF rB c σ2 H2 fun b H3 => if b = true then tG C ε WF (rD C) e σ2 H3 fun y H4 => T (some y) H4 else T none H3 := by
  refine tw s _ _ d x _ ex gd rs r ?_
  unfold turnM at h
  cases q : t d (wipeD dσ vs) s.ah with
  | ok σ1 h1 =>
    rw [q] at h
    dsimp only at h
    intro σ' e1 e2 rs'
    subst e1
    refine ⟨e2.trans (by
      have idem : ∀ (l : List Nat) (τ : L2.St), wipe (wipe τ l) l = wipe τ l := by
        intro l
        induction l with
        | nil => intro τ; rfl
        | cons a r ih =>
          intro τ
          show ((wipe ((wipe τ r).set a none) r).set a none) = (wipe τ r).set a none
          by_cases ha : a ∈ r
          · rw [wipe_set ha, ih]
          · have out : ∀ (vs : List Nat) (σ : L2.St), a ∉ vs → wipe (σ.set a none) vs = (wipe σ vs).set a none := by
              intro vs
              induction vs with
              | nil => intro σ _; rfl
              | cons b r ih =>
                intro σ hn
                simp only [List.mem_cons, not_or] at hn
                unfold wipe
                rw [ih σ hn.2, List.set_comm _ _ (Ne.symm hn.1)]
            rw [out r _ ha, ih, List.set_set]
      exact idem vs σ), ⟨s, σ1, rfl, ex, gd, rs', ?_⟩⟩
    cases qc : c σ1 s.ah with
    | ok b h2 =>
      rw [qc] at h
      cases b with
      | true =>
        dsimp only at h
        intro s' b' e3 f3 g3 rb
        subst rb e3
        rw [if_pos rfl]
        refine ⟨s', σ1, rfl, f3.rho.x.trans ex, g3, rs'.fwd f3, ?_⟩
        cases qe : e σ1 s'.ah with
        | ok y h3 =>
          rw [qe] at h
          exact fun s4 v e4 f4 g4 r4 => h s4 v e4 (f3.trans f4) g4 r4
        | exc => rw [qe] at h; exact h.elim
        | bad => rw [qe] at h; exact h.elim
      | false =>
        dsimp only at h
        intro s' b' e3 f3 g3 rb
        subst rb
        rw [if_neg Bool.false_ne_true]
        exact h s' e3 f3 g3
    | exc => rw [qc] at h; exact h.elim
    | bad => rw [qc] at h; exact h.elim
  | exc => rw [q] at h; exact h.elim
  | bad => rw [q] at h; exact h.elim
theorem lc_read {σ : L2.St} {H : Hp} {Q : VK} {vs : List Nat} (tw : TgW C ε vs g t) (h : tG C ε W (rD C) (lc vs mi t c e) σ H Q) : tLc (tG C ε W (rIt C) mi) g (tG C ε WF rB c) (tG C ε WF (rD C) e) vs σ H Q := by
  obtain ⟨s, dσ, rfl, ex, gd, rs, h⟩ := h
  refine Post.bind ex gd rs h fun s1 ds J e1 f1 g1 rs1 it h1 => ?_
  intro p hp
  refine ⟨fun i k H => k = ds.length - i ∧ i ≤ ds.length ∧ ∃ s accV acc, s.H = H ∧ Fwd s1 s ∧ Good C s ∧ Fill s p (.lst accV) ∧ Rs C s.F s.ρ acc accV ∧ Post C W σ (rD C) s1 Q ((lcGo t c e (wipeD dσ vs) (ds.drop i) acc s.ah).bind fun xs h2 => .ok (.lst xs) h2),
    ⟨_, rfl, Nat.zero_le _, s1.setp p (.lst []), [], [], rfl, (Fwd.refl s1).setp hp, g1.fill hp (fun _ z => nomatch z), Fill.new g1 hp, by unfold Rs; rfl, h1⟩, ?_⟩
  rintro i k H ⟨rfl, hi, s, accV, acc, rfl, f, g', fi, ra, h⟩
  by_cases hlt : i < ds.length
  · obtain ⟨go, yl⟩ := (it s i f g').1 hlt
    refine .inr ⟨go, fun H => ∃ s accV acc, s.H = H ∧ Fwd s1 s ∧ Good C s ∧ Fill s p (.lst accV) ∧ Rs C s.F s.ρ acc accV ∧ Post C W σ (rD C) s1 Q ((lcGo t c e (wipeD dσ vs) (ds.drop (i + 1)) acc s.ah).bind fun xs h2 => .ok (.lst xs) h2), fun H' z => ⟨_, by omega, rfl, hlt, z⟩, fun x H' y => ?_⟩
    obtain ⟨t', d, rfl, f', gt', eh, ed, r⟩ := yl x H' y
    have hd : ds.drop i = d :: ds.drop (i + 1) := by
      rw [List.drop_eq_getElem_cons hlt]
      rw [List.getElem?_eq_getElem hlt] at ed
      cases ed; rfl
    rw [hd] at h
    unfold lcGo at h
    rw [← eh] at h
    have fx := f.trans f'
    refine turn_core (T := fun o H4 => match o with
      | some y => ∃ acc, H4 p = some (.lst acc) ∧ acc.length < sizeLine ∧ ∃ s accV acc', s.H = upd H4 p (.lst (acc ++ [y])) ∧ Fwd s1 s ∧ Good C s ∧ Fill s p (.lst accV) ∧ Rs C s.F s.ρ acc' accV ∧ Post C W σ (rD C) s1 Q ((lcGo t c e (wipeD dσ vs) (ds.drop (i + 1)) acc' s.ah).bind fun xs h2 => .ok (.lst xs) h2)
      | none => ∃ s accV acc, s.H = H4 ∧ Fwd s1 s ∧ Good C s ∧ Fill s p (.lst accV) ∧ Rs C s.F s.ρ acc accV ∧ Post C W σ (rD C) s1 Q ((lcGo t c e (wipeD dσ vs) (ds.drop (i + 1)) acc s.ah).bind fun xs h2 => .ok (.lst xs) h2))
      tw (fx.rho.x.trans e1) gt' ((rs1.fwd fx).wipe vs) r ?_
    cases q : turnM t c e (wipeD dσ vs) d t'.ah with
    | ok o h2 =>
      rw [q] at h
      cases o with
      | none =>
        intro s' e2 f2 g2
        subst e2
        exact ⟨s', accV, acc, rfl, fx.trans f2, g2, (fi.fwd f').fwd f2, (ra.fwd f').fwd f2, h⟩
      | some y =>
        have h : Post C W σ (rD C) s1 Q ((if acc.length < 1000000 then lcGo t c e (wipeD dσ vs) (ds.drop (i + 1)) (acc ++ [y]) h2 else .bad).bind fun xs h2 => .ok (.lst xs) h2) := h
        intro s' v e2 f2 g2 r2
        subst e2
        have fi2 := (fi.fwd f').fwd f2
        split at h
        · rename_i hl
          refine ⟨accV, fi2.at_, lim_lt (by rw [← ra.length]; exact hl), s'.setp p (.lst (accV ++ [v])), accV ++ [v], acc ++ [y], rfl, (fx.trans f2).setp hp, g2.setp fi2 (fun _ z => nomatch z), fi2.setp, (show Rs C s'.F s'.ρ _ _ from Rs.snoc ((ra.fwd f').fwd f2) r2), h⟩
        · exact h.elim
    | exc => exact (turnM_exc q).elim
    | bad => rw [q] at h; exact h.elim
  · have e : i = ds.length := by omega
    subst e
    rw [List.drop_length] at h
    have h : Post C W σ (rD C) s1 Q (.ok (.lst acc) s.ah) := h
    obtain ⟨g2, sb⟩ := g'.done fi
    refine .inl ⟨(it s _ f g').2 (Nat.le_refl _), h (s.done p (.lst accV)) (.ref p) rfl (f.done hp fi) g2 ?_⟩
    unfold R
    exact ⟨p, accV, rfl, upd_same, Rs.mono sb (.refl _) ra⟩
end
end Ws

set_option Elab.async false
set_option linter.all false
set_option maxRecDepth 100000
set_option autoImplicit false
namespace Ws
open PySem PySem.Spec L2
/-! ### operators -/
def lim : Nat := 1000000
theorem lim_le {n : Nat} (h : n ≤ lim) : n ≤ sizeLine := Nat.le_trans h (by rw [sizeLine_eq]; decide)
/-- a list: kept, or in a cell -/
def lstOf (d : D) (h : AH) : Option (List D) := match d with
  | .lst xs => some xs
  | .cell n => (match h.get n with
    | some (.lst xs) => some xs
    | _ => none)
  | _ => none
theorem lstOf_ok {C : Cf} {s : Sx} {d : D} {v : V} {xs : List D} (g : Good C s) (r : R C s.F s.ρ d v) (h : lstOf d s.ah = some xs) : ∃ a ys, v = .ref a ∧ s.H a = some (.lst ys) ∧ Rs C s.F s.ρ xs ys := by
  cases d with
  | lst xs' =>
    unfold lstOf at h
    cases h
    unfold R at r
    obtain ⟨a, ys, e, q, z⟩ := r
    exact ⟨a, ys, e, g.sub _ _ q, z⟩
  | cell n =>
    unfold lstOf at h
    unfold R at r
    obtain ⟨a, e, q⟩ := r
    dsimp only at h
    split at h
    · rename_i xs' e'
      cases h
      obtain ⟨a', q1, q2, ys, z1, z2⟩ := g.own n _ e'
      rw [q] at q1; cases q1
      exact ⟨a, ys, e, z1, z2⟩
    · cases h
  | _ => unfold lstOf at h; cases h
theorem frz_lst {C : Cf} {s : Sx} (g : Good C s) {p : Addr} (hp : s.H p = none) {xs : List D} {ys : List V} (r : Rs C s.F s.ρ xs ys) : R C (s.frz p (.lst ys)).F (s.frz p (.lst ys)).ρ (.lst xs) (.ref p) := by
  unfold R
  exact ⟨p, ys, rfl, upd_same, r.fwd (Fwd.frz g hp)⟩
theorem frz_tup {C : Cf} {s : Sx} (g : Good C s) {p : Addr} (hp : s.H p = none) {xs : List D} {ys : List V} (r : Rs C s.F s.ρ xs ys) : R C (s.frz p (.tup ys)).F (s.frz p (.tup ys)).ρ (.tup xs) (.ref p) := by
  unfold R
  exact ⟨p, ys, rfl, upd_same, r.fwd (Fwd.frz g hp)⟩
/-- the value is a new list | tuple -/
theorem Post.lst {C : Cf} {W : WX} {σ : L2.St} {s : Sx} {Q : VK} (g : Good C s) {xs : List D} {ys : List V} (h : Post C W σ (rD C) s Q (.ok (.lst xs) s.ah)) (r : Rs C s.F s.ρ xs ys) : ∀ p, s.H p = none → Q (.ref p) (upd s.H p (.lst ys)) := fun p hp =>
  h (s.frz p (.lst ys)) (.ref p) rfl (Fwd.frz g hp) (g.frz hp) (frz_lst g hp r)
theorem Post.tup {C : Cf} {W : WX} {σ : L2.St} {s : Sx} {Q : VK} (g : Good C s) {xs : List D} {ys : List V} (h : Post C W σ (rD C) s Q (.ok (.tup xs) s.ah)) (r : Rs C s.F s.ρ xs ys) : ∀ p, s.H p = none → Q (.ref p) (upd s.H p (.tup ys)) := fun p hp =>
  h (s.frz p (.tup ys)) (.ref p) rfl (Fwd.frz g hp) (g.frz hp) (frz_tup g hp r)
theorem Post.int {C : Cf} {W : WX} {σ : L2.St} {s : Sx} {Q : VK} (g : Good C s) {i : Int} (h : Post C W σ (rD C) s Q (.ok (.int i) s.ah)) : Q (.int i) s.H := Post.here g h (by unfold R; rfl)
theorem Post.bl {C : Cf} {W : WX} {σ : L2.St} {s : Sx} {Q : VK} (g : Good C s) {i : Bool} (h : Post C W σ (rD C) s Q (.ok (.bl i) s.ah)) : Q (.bl i) s.H := Post.here g h (by unfold R; rfl)
theorem Post.str {C : Cf} {W : WX} {σ : L2.St} {s : Sx} {Q : VK} (g : Good C s) {i : Str} (h : Post C W σ (rD C) s Q (.ok (.str i) s.ah)) : Q (.str i) s.H := Post.here g h (by unfold R; rfl)
theorem Post.non {C : Cf} {W : WX} {σ : L2.St} {s : Sx} {Q : VK} (g : Good C s) (h : Post C W σ (rD C) s Q (.ok .non s.ah)) : Q .non s.H := Post.here g h (by unfold R; rfl)
theorem R.int_eq {C : Cf} {F : Hp} {ρ : Rho} {i : Int} {v : V} (r : R C F ρ (.int i) v) : v = .int i := by unfold R at r; exact r
theorem R.str_eq {C : Cf} {F : Hp} {ρ : Rho} {i : Str} {v : V} (r : R C F ρ (.str i) v) : v = .str i := by unfold R at r; exact r
theorem R.bl_eq {C : Cf} {F : Hp} {ρ : Rho} {i : Bool} {v : V} (r : R C F ρ (.bl i) v) : v = .bl i := by unfold R at r; exact r
theorem R.non_eq {C : Cf} {F : Hp} {ρ : Rho} {v : V} (r : R C F ρ .non v) : v = .non := by unfold R at r; exact r
theorem Rs.nil_iff {C : Cf} {F : Hp} {ρ : Rho} {xs : List D} {ys : List V} (r : Rs C F ρ xs ys) : ys = [] ↔ xs = [] := by
  have := r.length
  constructor
  · intro h; subst h; exact List.eq_nil_of_length_eq_zero (by simpa using this)
  · intro h; subst h; exact List.eq_nil_of_length_eq_zero (by simpa using this.symm)
def gAdd (x y : D) (h : AH) : Out D := match x, y with
  | .int i, .int j => .ok (.int (i + j)) h
  | .str i, .str j => if i.length + j.length ≤ lim then .ok (.str (i ++ j)) h else .bad
  | .tup a, .tup b => if a.length + b.length ≤ lim then .ok (.tup (a ++ b)) h else .bad
  | x, y => (match lstOf x h, lstOf y h with
    | some a, some b => if a.length + b.length ≤ lim then .ok (.lst (a ++ b)) h else .bad
    | _, _ => .bad)
def rAddA (K : PySem.W.Frag) : R2 := fun x y H Q => (rI0 (fun i j => .int (i + j)) x y H Q) ∨ ((∃ i j, x = .str i ∧ y = .str j ∧ i.length + j.length ≤ sizeLine ∧ Q (.str (i ++ j)) H) ∨ (rCatA K x y H Q ∨ rCat x y H Q))
theorem or_add {X : Cx} : OpR X (binaryOp .Add) (rAddA X.K) := op_add.or (op_add_str.or (op_catA.or op_cat))
theorem lst_add {C : Cf} {W : WX} {σ : L2.St} {s : Sx} {x y : D} {v u : V} {Q : VK} (g : Good C s) (rx : R C s.F s.ρ x v) (ry : R C s.F s.ρ y u)
    (h : Post C W σ (rD C) s Q (match lstOf x s.ah, lstOf y s.ah with
    | some a, some b => if a.length + b.length ≤ lim then .ok (.lst (a ++ b)) s.ah else .bad
    | _, _ => .bad)) : rCat v u s.H Q := by
  cases ex : lstOf x s.ah with
  | none => rw [ex] at h; exact h.elim
  | some a =>
    cases ey : lstOf y s.ah with
    | none => rw [ex, ey] at h; exact h.elim
    | some b =>
      rw [ex, ey] at h
      dsimp only at h
      split at h
      · rename_i hl
        obtain ⟨p, ys, rfl, hp, r1⟩ := lstOf_ok g rx ex
        obtain ⟨q, zs, rfl, hq, r2⟩ := lstOf_ok g ry ey
        exact ⟨p, q, ys, zs, rfl, rfl, hp, hq, lim_le (by rw [← r1.length, ← r2.length]; exact hl), Post.lst g h (Rs.app r1 r2)⟩
      · exact h.elim
theorem os_add {C : Cf} {K : PySem.W.Frag} : OpS C (rAddA K) gAdd := by
  intro W σ s x y v u Q g rx ry h
  unfold gAdd at h
  split at h
  · rw [rx.int_eq, ry.int_eq]
    exact .inl ⟨_, _, rfl, rfl, Post.int g h⟩
  · rw [rx.str_eq, ry.str_eq]
    split at h
    · rename_i hl
      exact .inr (.inl ⟨_, _, rfl, rfl, lim_le hl, Post.str g h⟩)
    · exact h.elim
  · split at h
    · rename_i a b hl
      have rx' := rx
      have ry' := ry
      unfold R at rx' ry'
      obtain ⟨p, ys, rfl, hp, r1⟩ := rx'
      obtain ⟨q, zs, rfl, hq, r2⟩ := ry'
      refine .inr (.inr (.inl ⟨p, q, ys, zs, rfl, rfl, SqT.of (g.sub _ _ hp), SqT.of (g.sub _ _ hq), lim_le (by rw [← r1.length, ← r2.length]; exact hl), fun e => ?_, fun _ e => ?_, fun _ _ => Post.tup g h (Rs.app r1 r2)⟩))
      · have := r1.nil_iff.mp e
        subst this
        exact Post.here g h ry
      · have := r2.nil_iff.mp e
        subst this
        rw [List.append_nil] at h
        exact Post.here g h rx
    · exact h.elim
  · exact .inr (.inr (.inr (lst_add g rx ry h)))
/-- two ints -/
def gInt (ok : Int → Int → Bool) (f : Int → Int → Int) (x y : D) (h : AH) : Out D := match x, y with
  | .int i, .int j => if ok i j = true then .ok (.int (f i j)) h else .bad
  | _, _ => .bad
theorem os_int {C : Cf} {P : Int → Int → Prop} {ok : Int → Int → Bool} {f : Int → Int → Int} (hp : ∀ i j, ok i j = true → P i j) : OpS C (rI P fun i j => .int (f i j)) (gInt ok f) := by
  intro W σ s x y v u Q g rx ry h
  unfold gInt at h
  split at h
  · split at h
    · rename_i hk
      rw [rx.int_eq, ry.int_eq]
      exact ⟨_, _, rfl, rfl, hp _ _ hk, Post.int g h⟩
    · exact h.elim
  · exact h.elim
def gInt0 (f : Int → Int → Int) (x y : D) (h : AH) : Out D := match x, y with
  | .int i, .int j => .ok (.int (f i j)) h
  | _, _ => .bad
theorem os_int0 {C : Cf} {f : Int → Int → Int} : OpS C (rI0 fun i j => .int (f i j)) (gInt0 f) := by
  intro W σ s x y v u Q g rx ry h
  unfold gInt0 at h
  split at h
  · rw [rx.int_eq, ry.int_eq]
    exact ⟨_, _, rfl, rfl, Post.int g h⟩
  · exact h.elim
def gSub := gInt0 fun i j => i - j
def small64 (i : Int) : Bool := decide (-(2 ^ 64) < i) && decide (i < 2 ^ 64)
def gMul := gInt (fun i j => small64 i || small64 j) fun i j => i * j
def gDiv := gInt (fun _ j => decide (0 < j) && decide (j < 1073741824)) fun i j => i / j
def gMod := gInt (fun _ j => decide (0 < j)) fun i j => i % j
def gPow := gInt (fun i j => decide (0 ≤ j) && decide (j ≤ 1000000) && decide (i.natAbs < 2 ^ 64)) fun i j => i ^ j.toNat
theorem os_sub {C : Cf} : OpS C (rI0 fun i j => .int (i - j)) gSub := os_int0
theorem os_mul {C : Cf} : OpS C (rI CMul fun i j => .int (i * j)) gMul := os_int fun i j h => by
  simp only [small64, Bool.or_eq_true, Bool.and_eq_true, decide_eq_true_eq] at h
  exact h
theorem os_div {C : Cf} : OpS C (rI CDiv fun i j => .int (i / j)) gDiv := os_int fun i j h => by
  simp only [Bool.and_eq_true, decide_eq_true_eq] at h
  exact h
theorem os_mod {C : Cf} : OpS C (rI (fun _ j => 0 < j) fun i j => .int (i % j)) gMod := os_int fun i j h => by
  simp only [decide_eq_true_eq] at h
  exact h
theorem os_pow {C : Cf} : OpS C (rI CPow fun i j => .int (i ^ j.toNat)) gPow := os_int fun i j h => by
  simp only [Bool.and_eq_true, decide_eq_true_eq] at h
  exact ⟨h.1.1, h.1.2, h.2⟩
def gNeg (x : D) (h : AH) : Out D := match x with
  | .int i => .ok (.int (-i)) h
  | _ => .bad
theorem us_neg {C : Cf} : UnS C (rU fun i => .int (-i)) gNeg := by
  intro W σ s x v Q g rx h
  unfold gNeg at h
  split at h
  · rw [rx.int_eq]
    exact ⟨_, rfl, Post.int g h⟩
  · exact h.elim
/-! ### comparisons -/
def ltS (i j : Str) : Bool := decide (i.cps.toList < j.cps.toList)
def gCmp (p : Int → Int → Bool) (q : Str → Str → Bool) (x y : D) (h : AH) : Out D := match x, y with
  | .int i, .int j => .ok (.bl (p i j)) h
  | .str i, .str j => .ok (.bl (q i j)) h
  | _, _ => .bad
def rCmp (p : Int → Int → Bool) (q : Str → Str → Bool) : R2 := fun x y H Q => rI0 (fun i j => .bl (p i j)) x y H Q ∨ ∃ i j, x = .str i ∧ y = .str j ∧ Q (.bl (q i j)) H
theorem os_cmp {C : Cf} {p : Int → Int → Bool} {q : Str → Str → Bool} : OpS C (rCmp p q) (gCmp p q) := by
  intro W σ s x y v u Q g rx ry h
  unfold gCmp at h
  split at h
  · rw [rx.int_eq, ry.int_eq]
    exact .inl ⟨_, _, rfl, rfl, Post.bl g h⟩
  · rw [rx.str_eq, ry.str_eq]
    exact .inr ⟨_, _, rfl, rfl, Post.bl g h⟩
  · exact h.elim
def gLt := gCmp (fun i j => decide (i < j)) ltS
def gLe := gCmp (fun i j => decide (i ≤ j)) fun i j => !ltS j i
def gGt := gCmp (fun i j => decide (j < i)) fun i j => ltS j i
def gGe := gCmp (fun i j => decide (j ≤ i)) fun i j => !ltS i j
theorem or_lt {X : Cx} : OpR X (compareOp .Lt) (rCmp (fun i j => decide (i < j)) ltS) := op_lt.or op_lt_str
theorem or_le {X : Cx} : OpR X (compareOp .LtE) (rCmp (fun i j => decide (i ≤ j)) fun i j => !ltS j i) := op_le.or op_le_str
theorem or_gt {X : Cx} : OpR X (compareOp .Gt) (rCmp (fun i j => decide (j < i)) fun i j => ltS j i) := op_gt.or op_gt_str
theorem or_ge {X : Cx} : OpR X (compareOp .GtE) (rCmp (fun i j => decide (j ≤ i)) fun i j => !ltS i j) := op_ge.or op_ge_str
theorem os_lt {C : Cf} : OpS C (rCmp (fun i j => decide (i < j)) ltS) gLt := os_cmp
theorem os_le {C : Cf} : OpS C (rCmp (fun i j => decide (i ≤ j)) fun i j => !ltS j i) gLe := os_cmp
theorem os_gt {C : Cf} : OpS C (rCmp (fun i j => decide (j < i)) fun i j => ltS j i) gGt := os_cmp
theorem os_ge {C : Cf} : OpS C (rCmp (fun i j => decide (j ≤ i)) fun i j => !ltS i j) gGe := os_cmp
/-- is None; is True, is False -/
def gIs (x y : D) (h : AH) : Out D := match y with
  | .non => (match x with
    | .non => .ok (.bl true) h
    | .exn _ _ => .bad
    | _ => .ok (.bl false) h)
  | .bl b => (match x with
    | .bl a => .ok (.bl (decide (a = b))) h
    | _ => .bad)
  | _ => .bad
def gNot (g : D → D → AH → Out D) (x y : D) (h : AH) : Out D := match g x y h with
  | .ok (.bl b) h' => .ok (.bl (!b)) h'
  | _ => .bad
def rIs (n : Bool → Bool) : R2 := fun x y H Q => (y = .non ∧ Q (.bl (n (decide (x = .non)))) H) ∨ ∃ a b : Bool, x = .bl a ∧ y = .bl b ∧ Q (.bl (n (decide (a = b)))) H
theorem or_is {X : Cx} : OpR X (compareOp .Is) (rIs id) := op_isN.or op_isBl
theorem or_isnot {X : Cx} : OpR X (compareOp .IsNot) (rIs not) := op_notN.or op_notBl
def isNonD : D → Bool
  | .non => true
  | _ => false
theorem R.nonB {C : Cf} {F : Hp} {ρ : Rho} {d : D} {v : V} (r : R C F ρ d v) : decide (v = .non) = isNonD d := by
  cases d with
  | non => rw [r.non_eq]; rfl
  | bl b => rw [r.bl_eq]; rfl
  | int b => rw [r.int_eq]; rfl
  | str b => rw [r.str_eq]; rfl
  | ty n => unfold R at r; rw [r]; rfl
  | glo n => unfold R at r; rw [r]; rfl
  | tup xs => unfold R at r; obtain ⟨a, ys, rfl, _⟩ := r; rfl
  | lst xs => unfold R at r; obtain ⟨a, ys, rfl, _⟩ := r; rfl
  | dct xs => unfold R at r; obtain ⟨a, o, ys, rfl, _⟩ := r; rfl
  | dcT xs => unfold R at r; obtain ⟨a, o, ys, rfl, _⟩ := r; rfl
  | ins c xs => unfold R at r; obtain ⟨a, o, ys, rfl, _⟩ := r; rfl
  | set xs => unfold R at r; obtain ⟨a, ys, rfl, _⟩ := r; rfl
  | scr xs => unfold R at r; obtain ⟨a, rfl, _⟩ := r; rfl
  | cell n => unfold R at r; obtain ⟨a, rfl, _⟩ := r; rfl
  | exn c xs => unfold R at r; obtain ⟨a, ys, rfl, _⟩ := r; rfl
theorem gIs_ok {C : Cf} {W : WX} {σ : L2.St} {s : Sx} {x y : D} {v u : V} {Q : VK} {n : Bool → Bool} (g : Good C s) (rx : R C s.F s.ρ x v) (ry : R C s.F s.ρ y u) (h : ∀ b, gIs x y s.ah = .ok (.bl b) s.ah → Q (.bl (n b)) s.H) (hb : ∃ b, gIs x y s.ah = .ok (.bl b) s.ah) : rIs n v u s.H Q := by
  obtain ⟨b, e⟩ := hb
  have q := h b e
  unfold gIs at e
  split at e
  · refine .inl ⟨ry.non_eq, ?_⟩
    rw [rx.nonB]
    split at e
    · cases e; exact q
    · cases e
    · cases e
      cases x <;> first | exact q | (rename_i h1 h2; exact absurd rfl h1)
  · split at e
    · cases e
      rw [rx.bl_eq, ry.bl_eq]
      exact .inr ⟨_, _, rfl, rfl, q⟩
    · cases e
  · cases e
theorem gIs_shape (x y : D) (h : AH) : gIs x y h = .bad ∨ ∃ b, gIs x y h = .ok (.bl b) h := by
  unfold gIs
  split
  · split
    · exact .inr ⟨_, rfl⟩
    · exact .inl rfl
    · exact .inr ⟨_, rfl⟩
  · split
    · exact .inr ⟨_, rfl⟩
    · exact .inl rfl
  · exact .inl rfl
theorem os_is {C : Cf} : OpS C (rIs id) gIs := by
  intro W σ s x y v u Q g rx ry h
  rcases gIs_shape x y s.ah with e | ⟨b, e⟩
  · rw [e] at h; exact h.elim
  · rw [e] at h
    exact gIs_ok (W := W) (σ := σ) g rx ry (fun b' e' => by rw [e] at e'; cases e'; exact Post.bl g h) ⟨b, e⟩
theorem os_isnot {C : Cf} : OpS C (rIs not) (gNot gIs) := by
  intro W σ s x y v u Q g rx ry h
  unfold gNot at h
  rcases gIs_shape x y s.ah with e | ⟨b, e⟩
  · rw [e] at h; exact h.elim
  · rw [e] at h
    exact gIs_ok (W := W) (σ := σ) g rx ry (fun b' e' => by rw [e] at e'; cases e'; exact Post.bl g h) ⟨b, e⟩
/-! ### == of plain data -/
mutual
def toPy : D → Option PyData
  | .non => some .none
  | .bl b => some (.bool b)
  | .int i => some (.int i)
  | .str x => some (.str x)
  | .tup xs => (toPys xs).map .tuple
  | .lst xs => (toPys xs).map .list
  | _ => none
def toPys : List D → Option (List PyData)
  | [] => some []
  | d :: ds => (match toPy d, toPys ds with
    | some a, some b => some (a :: b)
    | _, _ => none)
end
mutual
theorem toPy_ok {C : Cf} {K : PySem.W.Frag} {F H : Hp} {ρ : Rho} (sb : Sub F H) : ∀ {d : D} {v : V} {p : PyData}, R C F ρ d v → toPy d = some p → Dp K H v p
  | .non, v, p, r, e => by rw [r.non_eq]; unfold toPy at e; cases e; exact .non
  | .bl b, v, p, r, e => by rw [r.bl_eq]; unfold toPy at e; cases e; exact .bl b
  | .int b, v, p, r, e => by rw [r.int_eq]; unfold toPy at e; cases e; exact .int b
  | .str b, v, p, r, e => by rw [r.str_eq]; unfold toPy at e; cases e; exact .str b
  | .tup xs, v, p, r, e => by
    unfold toPy at e
    cases q : toPys xs with
    | none => rw [q] at e; cases e
    | some ps =>
      rw [q] at e; cases e
      unfold R at r
      obtain ⟨a, ys, rfl, fa, rr⟩ := r
      exact .tup (SqT.of (sb _ _ fa)) (toPys_ok sb rr q)
  | .lst xs, v, p, r, e => by
    unfold toPy at e
    cases q : toPys xs with
    | none => rw [q] at e; cases e
    | some ps =>
      rw [q] at e; cases e
      unfold R at r
      obtain ⟨a, ys, rfl, fa, rr⟩ := r
      exact .lst (SqL.of (sb _ _ fa)) (toPys_ok sb rr q)
  | .ty _, _, _, _, e | .glo _, _, _, _, e | .dct _, _, _, _, e | .dcT _, _, _, _, e | .ins _ _, _, _, _, e | .set _, _, _, _, e | .scr _, _, _, _, e | .cell _, _, _, _, e | .exn _ _, _, _, _, e => by unfold toPy at e; cases e
theorem toPys_ok {C : Cf} {K : PySem.W.Frag} {F H : Hp} {ρ : Rho} (sb : Sub F H) : ∀ {d : List D} {v : List V} {p : List PyData}, Rs C F ρ d v → toPys d = some p → DpAll K H v p
  | [], v, p, r, e => by unfold Rs at r; subst r; unfold toPys at e; cases e; exact .nil
  | d :: ds, v, p, r, e => by
    unfold Rs at r
    obtain ⟨v1, vr, rfl, r1, r2⟩ := r
    unfold toPys at e
    cases q1 : toPy d with
    | none => rw [q1] at e; cases e
    | some a =>
      cases q2 : toPys ds with
      | none => rw [q1, q2] at e; cases e
      | some b =>
        rw [q1, q2] at e; cases e
        exact .cons (toPy_ok sb r1 q1) (toPys_ok sb r2 q2)
end
/-- a list in a cell is read as it stands -/
def seen (d : D) (h : AH) : D := match d with
  | .cell n => (match h.get n with
    | some (.lst xs) => .lst xs
    | _ => d)
  | _ => d
theorem seen_ok {C : Cf} {K : PySem.W.Frag} {s : Sx} {d : D} {v : V} {p : PyData} (g : Good C s) (r : R C s.F s.ρ d v) (e : toPy (seen d s.ah) = some p) : Dp K s.H v p := by
  cases d with
  | cell n =>
    unfold seen at e
    dsimp only at e
    split at e
    · rename_i xs en
      unfold R at r
      obtain ⟨a, rfl, ea⟩ := r
      obtain ⟨a', q1, q2, ys, z1, z2⟩ := g.own n _ en
      rw [ea] at q1; cases q1
      unfold toPy at e
      cases q : toPys xs with
      | none => rw [q] at e; cases e
      | some ps =>
        rw [q] at e; cases e
        exact .lst (SqL.of z1) (toPys_ok g.sub z2 q)
    · unfold toPy at e; cases e
  | _ => exact toPy_ok g.sub r e
def gEqD (x y : D) (h : AH) : Out D := match toPy (seen x h), toPy (seen y h) with
  | some a, some b => if (SeqAt.shaped a && SeqAt.shaped b) = true then .ok (.bl (PyData.eqv a b)) h else .bad
  | _, _ => .bad
theorem os_eq {C : Cf} {K : PySem.W.Frag} : OpS C (rEqD K) gEqD := by
  intro W σ s x y v u Q g rx ry h
  unfold gEqD at h
  split at h
  · rename_i a b ea eb
    split at h
    · rename_i hs
      have hs := Bool.and_eq_true_iff.mp hs
      exact ⟨a, b, seen_ok g rx ea, seen_ok g ry eb, hs.1, hs.2, Post.bl g h⟩
    · exact h.elim
  · exact h.elim
theorem os_ne {C : Cf} {K : PySem.W.Frag} : OpS C (rNeD K) (gNot gEqD) := by
  intro W σ s x y v u Q g rx ry h
  unfold gNot gEqD at h
  split at h
  · rename_i z h' e
    split at e
    · rename_i a b ea eb
      split at e
      · rename_i hs
        have hs := Bool.and_eq_true_iff.mp hs
        cases e
        exact ⟨a, b, seen_ok g rx ea, seen_ok g ry eb, hs.1, hs.2, Post.bl g h⟩
      · cases e
    · cases e
  · exact h.elim
/-- x in a text, of one sign -/
def gIn (x y : D) (h : AH) : Out D := match x, y with
  | .str i, .str z => (match i.cps.toList with
    | [c] => .ok (.bl (decide (c ∈ z.cps.toList))) h
    | _ => .bad)
  | _, _ => .bad
def rInS (n : Bool → Bool) : R2 := fun x y H Q => ∃ (c : Nat) (z : Str), x = .str ⟨#[c]⟩ ∧ y = .str z ∧ Q (.bl (n (decide (c ∈ z.cps.toList)))) H
theorem or_in {X : Cx} : OpR X (compareOp .In) (rInS id) := op_in_sign
theorem or_notin {X : Cx} : OpR X (compareOp .NotIn) (rInS not) := op_notIn_sign
theorem os_in {C : Cf} : OpS C (rInS id) gIn := by
  intro W σ s x y v u Q g rx ry h
  unfold gIn at h
  split at h
  · rename_i i z
    split at h
    · rename_i c e
      rw [rx.str_eq, ry.str_eq]
      obtain ⟨⟨l⟩⟩ := i
      simp only at e
      subst e
      exact ⟨c, z, rfl, rfl, Post.bl g h⟩
    · exact h.elim
  · exact h.elim
theorem os_notin {C : Cf} : OpS C (rInS not) (gNot gIn) := by
  intro W σ s x y v u Q g rx ry h
  unfold gNot gIn at h
  split at h
  · rename_i b h' e
    split at e
    · rename_i i z
      split at e
      · rename_i c ec
        cases e
        rw [rx.str_eq, ry.str_eq]
        obtain ⟨⟨l⟩⟩ := i
        simp only at ec
        subst ec
        exact ⟨c, z, rfl, rfl, Post.bl g h⟩
      · cases e
    · cases e
  · exact h.elim
end Ws

set_option Elab.async false
set_option linter.all false
set_option maxRecDepth 100000
set_option autoImplicit false
namespace Ws
open PySem PySem.Spec L2
/-! ### kinds -/
inductive Ty where
  | b (n : String) | c (x : Str)
  deriving DecidableEq
def Ty.v (K : PySem.W.Frag) : Ty → Value
  | .b n => .type n
  | .c x => .ref (He.ga K x)
def tyOf (d : D) (h : AH) : Option Ty := match d with
  | .non => some (.b "NoneType")
  | .bl _ => some (.b "bool")
  | .int _ => some (.b "int")
  | .str _ => some (.b "str")
  | .tup _ => some (.b "tuple")
  | .lst _ => some (.b "list")
  | .dct _ => some (.b "dict")
  | .ins c _ => some (.c c)
  | .cell n => (match h.get n with
    | some (.lst _) => some (.b "list")
    | some (.dct _) => some (.b "dict")
    | some (.dcT _) => some (.b "dict")
    | some (.ins c _) => some (.c c)
    | _ => none)
  | _ => none
/-- what is asked of an own class so that its instances have their kind -/
structure InsT (K : PySem.W.Frag) (c : Str) : Prop where
  cl : Cls K (He.ga K c)
  ha : PySem.W.findIn K (.ref (He.ga K c)) "__class__" = some (some (.builtin "object.__class__"))
  hn : PySem.W.specialIn K (.builtin "object.__class__") "__get__" = some (some (.builtin "getset_descriptor.__get__"))
  ht : PySem.W.takesIn K (.builtin "object.__class__") = some true
  hm : PySem.W.mroIn K (He.ga K c) (.type "object") = some true
def TysOk (K : PySem.W.Frag) (tys : List Ty) : Prop := ∀ c, Ty.c c ∈ tys → InsT K c
theorem tyOf_ok {C : Cf} {s : Sx} {d : D} {v : V} {t : Ty} {tys : List Ty} (g : Good C s) (r : R C s.F s.ρ d v) (e : tyOf d s.ah = some t) (hk : TysOk C.K tys) (hm : t ∈ tys) : TyX C.K s.H v (t.v C.K) := by
  cases d with
  | non => rw [r.non_eq]; cases e; exact .base .non
  | bl b => rw [r.bl_eq]; cases e; exact .base (.bl b)
  | int b => rw [r.int_eq]; cases e; exact .base (.int b)
  | str b => rw [r.str_eq]; cases e; exact .base (.str b)
  | tup xs => unfold R at r; obtain ⟨a, ys, rfl, f, _⟩ := r; cases e; exact .base (.tup (g.sub _ _ f))
  | lst xs => unfold R at r; obtain ⟨a, ys, rfl, f, _⟩ := r; cases e; exact .base (.lst (g.sub _ _ f))
  | dct xs => unfold R at r; obtain ⟨a, o, ys, rfl, f, _⟩ := r; cases e; exact .fDict (g.sub _ _ f)
  | ins c xs =>
    unfold R at r; obtain ⟨a, o, ys, rfl, f, _⟩ := r; cases e
    have k := hk c hm
    exact .base (.ins (g.sub _ _ f) k.cl k.ha k.hn k.ht k.hm)
  | cell n =>
    unfold R at r; obtain ⟨a, rfl, f⟩ := r
    unfold tyOf at e
    dsimp only at e
    split at e
    · rename_i en
      obtain ⟨a', q1, q2, ys, z1, z2⟩ := g.own n _ en
      rw [f] at q1; cases q1; cases e
      exact .base (.lst z1)
    · rename_i en
      obtain ⟨a', q1, q2, ys, z1, z2⟩ := g.own n _ en
      rw [f] at q1; cases q1; cases e
      exact .base (.dK z1)
    · rename_i en
      obtain ⟨a', q1, q2, ys, z1, z2⟩ := g.own n _ en
      rw [f] at q1; cases q1; cases e
      exact .base (.dT z1)
    · rename_i c fs en
      obtain ⟨a', q1, q2, dx, ys, z1, z2⟩ := g.own n _ en
      rw [f] at q1; cases q1; cases e
      have k := hk c hm
      exact .base (.ins z1 k.cl k.ha k.hn k.ht k.hm)
    · cases e
  | _ => cases e
/-- a class named in isinstance -/
def clsTy : D → Option Ty
  | .ty n => some (.b n)
  | .glo x => some (.c x)
  | _ => none
def clsTys : List D → Option (List Ty)
  | [] => some []
  | d :: ds => (match clsTy d, clsTys ds with
    | some a, some b => some (a :: b)
    | _, _ => none)
/-- the kinds and how they stand to one another: kit t c: is t under c -/
structure Kit where
  tys : List Ty
  cls : List Ty
  sub : Ty → Ty → Bool
structure KitOk (K : PySem.W.Frag) (kt : Kit) : Prop where
  tys : TysOk K kt.tys
  one : ∀ t ∈ kt.tys, ∀ c ∈ kt.cls, PySem.W.kitOne K (t.v K) (c.v K) = some (kt.sub t c)
def gIsi (kt : Kit) (ds : List D) (h : AH) : Out D := match ds with
  | [x, .tup cs] => (match tyOf x h, clsTys cs with
    | some t, some us => if t ∈ kt.tys ∧ (∀ c ∈ us, c ∈ kt.cls) then .ok (.bl (us.any fun c => kt.sub t c)) h else .bad
    | _, _ => .bad)
  | [x, c] => (match tyOf x h, clsTy c with
    | some t, some u => if t ∈ kt.tys ∧ u ∈ kt.cls then .ok (.bl (kt.sub t u)) h else .bad
    | _, _ => .bad)
  | _ => .bad
theorem clsTy_ok {C : Cf} {F : Hp} {ρ : Rho} {d : D} {v : V} {u : Ty} (r : R C F ρ d v) (e : clsTy d = some u) : ClsV v (u.v C.K) := by
  cases d with
  | ty n => unfold R at r; subst r; cases e; exact .ty n
  | glo x => unfold R at r; subst r; cases e; exact .own _
  | _ => cases e
theorem clsTys_ok {C : Cf} {F : Hp} {ρ : Rho} : ∀ {d : List D} {v : List V} {u : List Ty}, Rs C F ρ d v → clsTys d = some u → Paired ClsV v (u.map (Ty.v C.K))
  | [], v, u, r, e => by unfold Rs at r; subst r; unfold clsTys at e; cases e; exact .nil
  | d :: ds, v, u, r, e => by
    unfold Rs at r
    obtain ⟨v1, vr, rfl, r1, r2⟩ := r
    unfold clsTys at e
    cases q1 : clsTy d with
    | none => rw [q1] at e; cases e
    | some a =>
      cases q2 : clsTys ds with
      | none => rw [q1, q2] at e; cases e
      | some b =>
        rw [q1, q2] at e; cases e
        exact .cons (clsTy_ok r1 q1) (clsTys_ok r2 q2)
theorem kitAny_ok {K : PySem.W.Frag} {kt : Kit} (hk : KitOk K kt) {t : Ty} (ht : t ∈ kt.tys) : ∀ {us : List Ty}, (∀ c ∈ us, c ∈ kt.cls) → PySem.W.kitAny K (t.v K) (us.map (Ty.v K)) = some (us.any fun c => kt.sub t c)
  | [], _ => kitAny_nil
  | c :: us, h => by
    have q := hk.one t ht c (h c (List.mem_cons_self ..))
    refine kitAny_cons q (fun e => ?_) fun e => ?_
    · rw [List.any_cons, e, Bool.false_or]
      exact kitAny_ok hk ht fun x hx => h x (List.mem_cons_of_mem _ hx)
    · rw [List.any_cons, e, Bool.true_or]
def rIsiA (K : PySem.W.Frag) : List V → Hp → VK → Prop := fun xs H Q => rIsi K xs H Q ∨ rIsiT K xs H Q
theorem cr_isi {X : Cx} : CallR X (.builtin "isinstance") (rIsiA X.K) := call_isi.or call_isiT
theorem cs_isi {C : Cf} {kt : Kit} (hk : KitOk C.K kt) : CallS C (rIsiA C.K) (gIsi kt) := by
  intro W σ s x v Q g rx h
  unfold gIsi at h
  split at h
  · rename_i x cs
    unfold Rs at rx
    obtain ⟨v1, r1, rfl, rx1, rx2⟩ := rx
    unfold Rs at rx2
    obtain ⟨v2, r2, rfl, rx3, rx4⟩ := rx2
    unfold Rs at rx4
    subst rx4
    split at h
    · rename_i t us et eu
      split at h
      · rename_i hc
        unfold R at rx3
        obtain ⟨a, ys, rfl, fa, rr⟩ := rx3
        exact .inr ⟨v1, a, ys, t.v C.K, us.map (Ty.v C.K), _, rfl, g.sub _ _ fa, clsTys_ok rr eu, tyOf_ok g rx1 et hk.tys hc.1, kitAny_ok hk hc.1 hc.2, Post.bl g h⟩
      · exact h.elim
    · exact h.elim
  · rename_i x c _
    unfold Rs at rx
    obtain ⟨v1, r1, rfl, rx1, rx2⟩ := rx
    unfold Rs at rx2
    obtain ⟨v2, r2, rfl, rx3, rx4⟩ := rx2
    unfold Rs at rx4
    subst rx4
    split at h
    · rename_i t u et eu
      split at h
      · rename_i hc
        exact .inl ⟨v1, v2, t.v C.K, u.v C.K, _, rfl, clsTy_ok rx3 eu, tyOf_ok g rx1 et hk.tys hc.1, hk.one t hc.1 u hc.2, Post.bl g h⟩
      · exact h.elim
    · exact h.elim
  · exact h.elim
/-! ### == by the text's own __eq__ -/
/-- nothing is raised -/
def noX (o : Out D) : Out D := match o with
  | .ok d h => .ok d h
  | _ => .bad
theorem Post.noX {C : Cf} {W W' : WX} {σ : L2.St} {s : Sx} {Q : VK} {o : Out D} (h : Post C W σ (rD C) s Q (Ws.noX o)) : Post C W' σ (rD C) s Q o := by
  cases o with
  | ok => exact h
  | exc => exact h.elim
  | bad => exact h
/-- x == y, x an instance of the class c; its __eq__ reckons g -/
def gOwn (c : Str) (kt : Kit) (g : List D → AH → Out D) (x y : D) (h : AH) : Out D := match insOf x h, tyOf y h with
  | some (c', _), some t => if c' = c ∧ t ∈ kt.tys then (match noX (callP g [x, y] h) with
    | .ok (.bl b) h' => .ok (.bl b) h'
    | _ => .bad) else .bad
  | _, _ => .bad
def rOwn (K : PySem.W.Frag) (cA : Addr) (sp : Sp) : R2 := fun x y H Q => ∃ a dx fs t, x = .ref a ∧ H a = some (.ins cA dx fs) ∧ TyX K H y t ∧ PySem.W.notFirst K cA t = true ∧ sp [x, y] H (fun v H' => ∃ b, v = .bl b ∧ Q v H') (fun _ _ _ => False)
theorem or_own {X : Cx} {k : Nat} {f cA : Addr} {fd : FuncData} {ps : List Str} {sp : Sp} (F : FnOk X.prog X.w X.K X.mg X.base (L2.CX X.prog X.w) k f fd ps sp) (hr : Room k X.A) (hb : L2.Binds X.K fd ps []) (hs : PySem.W.findIn X.K (.ref cA) "__eq__" = some (some (.ref f))) (hf : PySem.W.isFn X.K (.ref f) = true) :
    OpR X (compareOp .Eq) (rOwn X.K cA sp) := by
  intro pins s σ H x y v u Q I rx ry h
  obtain ⟨a, dx, fs, t, rfl, ha, ty, nf, hsp⟩ := h
  obtain rfl : v = Value.ref a := rx
  obtain ⟨mA, J, _⟩ := ins_get I.hok ha
  obtain ⟨od, J, _⟩ := J.look
  obtain ⟨P, Z, p, hx⟩ := kit_of I ry ty
  obtain ⟨m, hF⟩ := I.fr
  show wpAny (model X.prog X.w) X.A (richCompare .Eq (.ref a) u) (EP X pins σ Q) X.xe s
  refine PySem.W.cmp_K (op := .Eq) (tb := t) hr.units0 hF I.ok.mod.kin J (Z.ty _ _ I.kIn p) nf hs hf ?_
  refine wpAny_mono (run_fn (us := [.ref a, u]) (vs := [.ref a, y]) (dvs := []) (ds := []) F hr hb .nil passL I (.cons rfl (.cons ry .nil)) hsp) (fun w s' hq => ?_) fun _ _ z => z
  obtain ⟨z, H', I', rz, b, rfl, q⟩ := hq
  obtain rfl : w = Value.bool b := rz
  exact ⟨.bl b, H', I', rfl, q⟩
theorem os_own {C : Cf} {c : Str} {kt : Kit} {g : List D → AH → Out D} (hk : KitOk C.K kt) (hn : ∀ t ∈ kt.tys, PySem.W.notFirst C.K (He.ga C.K c) (t.v C.K) = true) : OpS C (rOwn C.K (He.ga C.K c) (spM C 2 g)) (gOwn c kt g) := by
  intro W σ s x y v u Q gd rx ry h
  unfold gOwn at h
  split at h
  · rename_i c' fs t e1 e2
    split at h
    · rename_i hc
      obtain ⟨rfl, ht⟩ := hc
      obtain ⟨a, dx, gs, rfl, ea, rf⟩ := insOf_ok gd rx e1
      refine ⟨a, dx, gs, t.v C.K, rfl, ea, tyOf_ok gd ry e2 hk.tys ht, hn t ht, ?_⟩
      unfold callP at h
      by_cases p : pureDs 0 [x, y] = true
      · rw [if_pos p] at h
        refine spM.call (W := WF) (σ := σ) (ds := [x, y]) (.inr p) gd ?_ rfl ?_
        · unfold Rs
          refine ⟨_, _, rfl, rx, ?_⟩
          unfold Rs
          exact ⟨_, _, rfl, ry, by unfold Rs; rfl⟩
        · cases q : call g [x, y] s.ah with
          | ok d h' =>
            rw [q] at h
            intro s' w e f g' r
            cases d with
            | bl b => exact ⟨b, r.bl_eq, h s' w e f g' r⟩
            | _ => exact h.elim
          | exc => rw [q] at h; exact h.elim
          | bad => rw [q] at h; exact h.elim
      · rw [if_neg p] at h
        exact h.elim
    · exact h.elim
  · exact h.elim
end Ws

set_option Elab.async false
set_option linter.all false
set_option maxRecDepth 100000
set_option autoImplicit false
namespace Ws
open PySem PySem.Spec L2
/-! ### comprehensions: the rules -/
section
variable {X : Cx} {C : Cf} {ε : Ep} {W : WX} {elt tg iter : Expr} {ifs : List Expr} {scope : Scope} {own : List (Str × Nat)} {pos spos : Pos} {mi : M (List D)} {g : TG} {t : Tg} {c : M Bool} {e : M D}
theorem me_lc (hc : X.calm = true) (hN : X.N.Nodup) (hi : MI X C ε W tg iter mi) (ok : BlkOk X.N X.env.scope scope own) (hg : ∀ s H cA cl fp, PG (X.blk s H scope (compEnvC scope cl cA X.env) fp) tg g) (tw : TgW C ε (own.map (·.2)) g t)
    (ht : ∀ s H cA cl fp, MTs (X.blk s H scope (compEnvC scope cl cA X.env) fp) C ε ifs c) (he : ∀ s H cA cl fp, ME (X.blk s H scope (compEnvC scope cl cA X.env) fp) C ε WF elt e) (hs : ∀ x, foldedSetIterable iter X.env x = pure x := by intro _; rfl) :
    ME X C ε W (.ListComp elt [⟨tg, iter, ifs, 0⟩] scope pos) (lc (own.map (·.2)) mi t c e) := (pe_lc hc hN hi ok hg ht he hs).imp fun _ _ _ h => lc_read tw h
/-- y = [..] -/
theorem ms_setLc {i : Nat} {y : Str} {py : Pos} (hc : X.calm = true) (hN : X.N.Nodup) (hy : X.N[i]? = some y) (hyl : X.env.scope.names.lookup y = some .local)
    (hsw : swapsWith (.ListComp elt [⟨tg, iter, ifs, 0⟩] scope pos) (some (.Name y py)) spos.line X.env = pure true) (hi : MI X C ε W tg iter mi) (ok : BlkOk X.N X.env.scope scope own) (hg : ∀ s H cA cl fp, PG (X.blk s H scope (compEnvC scope cl cA X.env) fp) tg g) (tw : TgW C ε (own.map (·.2)) g t)
    (ht : ∀ s H cA cl fp, MTs (X.blk s H scope (compEnvC scope cl cA X.env) fp) C ε ifs c) (he : ∀ s H cA cl fp, ME (X.blk s H scope (compEnvC scope cl cA X.env) fp) C ε WF elt e) (hs : ∀ x, foldedSetIterable iter X.env x = pure x := by intro _; rfl) :
    MS X C ε W (.Assign [.Name y py] (.ListComp elt [⟨tg, iter, ifs, 0⟩] scope pos) spos) (asg (lc (own.map (·.2)) mi t c e) (tgN i)) := (ps_setLc hc hN hy hyl hsw hi ok hg ht he hs).imp fun D σ H h => by
  obtain ⟨s, dσ, rfl, ex, gd, rs, h⟩ := h
  refine lc_read tw (PostS.bind ex gd rs h fun s1 x v e1 f1 g1 rs1 r1 h1 => ?_)
  exact PostS.here g1 (rs1.set r1) rfl h1
end
/-! ### displays -/
def gTup (ds : List D) (h : AH) : Out D := if ds.length ≤ lim then .ok (.tup ds) h else .bad
def gLst (ds : List D) (h : AH) : Out D := if ds.length ≤ lim then .ok (.lst ds) h else .bad
/-- a list that will be changed: in a cell of its own -/
def gLstC (ds : List D) (h : AH) : Out D := if ds.length ≤ lim then .ok (.cell h.length) (h ++ [some (.lst ds)]) else .bad
section
variable {X : Cx} {C : Cf} {ε : Ep} {W : WX} {es : List Expr} {mr : M (List D)} {pos : Pos}
theorem me_tup {x1 : Nat} (h : MA X C ε W es mr) : ME X C ε W (.Tuple es x1 pos) (app gTup mr) := (pe_tup h).imp fun σ H Q h => by
  obtain ⟨s, dσ, rfl, ex, g, rs, h⟩ := h
  refine Post.bind ex g rs h fun s1 d v e1 f1 g1 rs1 r1 h1 => ?_
  unfold gTup at h1
  split at h1
  · rename_i hl
    exact ⟨lim_le (by rw [← r1.length]; exact hl), Post.tup g1 h1 r1⟩
  · exact h1.elim
theorem me_lst (h : MA X C ε W es mr) : ME X C ε W (.List es pos) (app gLst mr) := (pe_lst h).imp fun σ H Q h => by
  obtain ⟨s, dσ, rfl, ex, g, rs, h⟩ := h
  refine Post.bind ex g rs h fun s1 d v e1 f1 g1 rs1 r1 h1 => ?_
  unfold gLst at h1
  split at h1
  · rename_i hl
    exact ⟨lim_le (by rw [← r1.length]; exact hl), Post.lst g1 h1 r1⟩
  · exact h1.elim
theorem Post.cellL {σ : L2.St} {s : Sx} {Q : VK} (g : Good C s) {xs : List D} {ys : List V} (h : Post C W σ (rD C) s Q (.ok (.cell s.ah.length) (s.ah ++ [some (.lst xs)]))) (r : Rs C s.F s.ρ xs ys) : ∀ p, s.H p = none → Q (.ref p) (upd s.H p (.lst ys)) := fun p hp =>
  h (s.own p (.lst ys) (.lst xs)) (.ref p) rfl (Fwd.ownD g hp) (g.ownD hp ⟨ys, upd_same, Rs.mono (.refl _) (RSub.put (g.dom _ (Nat.le_refl _))) r⟩) (by
    unfold R
    exact ⟨p, rfl, show (if s.ah.length = s.ah.length then some p else s.ρ.c s.ah.length) = some p from if_pos rfl⟩)
theorem me_lstC (h : MA X C ε W es mr) : ME X C ε W (.List es pos) (app gLstC mr) := (pe_lst h).imp fun σ H Q h => by
  obtain ⟨s, dσ, rfl, ex, g, rs, h⟩ := h
  refine Post.bind ex g rs h fun s1 d v e1 f1 g1 rs1 r1 h1 => ?_
  unfold gLstC at h1
  split at h1
  · rename_i hl
    exact ⟨lim_le (by rw [← r1.length]; exact hl), Post.cellL g1 h1 r1⟩
  · exact h1.elim
end
/-! ### subscripts -/
def gIx (x y : D) (h : AH) : Out D := match x, y with
  | .tup xs, .int i => (match atI xs i with
    | some d => .ok d h
    | none => .bad)
  | .str z, .int i => (match atI z.cps.toList i with
    | some c => if z.length ≤ lim then .ok (sgn c) h else .bad
    | none => .bad)
  | .scr ns, .int i => (match atI ns i with
    | some n => .ok (.int n) h
    | none => .bad)
  | x, .int i => (match lstOf x h with
    | some xs => (match atI xs i with
      | some d => .ok d h
      | none => .bad)
    | none => .bad)
  | _, _ => .bad
theorem atI_rel {C : Cf} {F : Hp} {ρ : Rho} {xs : List D} {ys : List V} {i : Int} {d : D} (r : Rs C F ρ xs ys) (e : atI xs i = some d) : ∃ v, atI ys i = some v ∧ R C F ρ d v := by
  unfold atI at e ⊢
  rw [← r.length]
  cases q : ixN xs.length i with
  | none => rw [q] at e; cases e
  | some j =>
    rw [q] at e
    exact r.get (show xs[j]? = some d from e)
theorem os_ix {C : Cf} : OpS C (rIx C.K) gIx := by
  intro W σ s x y v u Q g rx ry h
  unfold gIx at h
  split at h
  · rename_i xs i
    split at h
    · rename_i d e
      rw [ry.int_eq]
      unfold R at rx
      obtain ⟨a, ys, rfl, fa, rr⟩ := rx
      obtain ⟨w, e1, r1⟩ := atI_rel rr e
      exact .inr (.inl ⟨a, ys, i, w, rfl, rfl, SqT.of (g.sub _ _ fa), e1, Post.here g h r1⟩)
    · exact h.elim
  · rename_i z i
    split at h
    · rename_i c e
      split at h
      · rename_i hl
        rw [rx.str_eq, ry.int_eq]
        exact .inr (.inr ⟨z, i, c, rfl, rfl, lim_le hl, e, Post.here g h (by unfold sgn R; rfl)⟩)
      · exact h.elim
    · exact h.elim
  · rename_i ns i
    split at h
    · rename_i n e
      rw [ry.int_eq]
      unfold R at rx
      obtain ⟨a, rfl, sq⟩ := rx
      refine .inl ⟨a, ns.map V.int, i, .int n, rfl, rfl, g.sub.sqL sq, ?_, Post.int g h⟩
      unfold atI at e ⊢
      rw [List.length_map]
      cases q : ixN ns.length i with
      | none => rw [q] at e; cases e
      | some j =>
        rw [q] at e
        have e' : ns[j]? = some n := e
        show (ns.map V.int)[j]? = some (V.int n)
        rw [List.getElem?_map, e']; rfl
    · exact h.elim
  · rename_i x i _ _ _
    split at h
    · rename_i xs e0
      split at h
      · rename_i d e
        rw [ry.int_eq]
        obtain ⟨a, ys, rfl, ha, rr⟩ := lstOf_ok g rx e0
        obtain ⟨w, e1, r1⟩ := atI_rel rr e
        exact .inl ⟨a, ys, i, w, rfl, rfl, SqL.of ha, e1, Post.here g h r1⟩
      · exact h.elim
    · exact h.elim
  · exact h.elim
section
variable {X : Cx} {C : Cf} {ε : Ep} {W : WX} {a b : Expr} {ma mb : M D} {pos p2 : Pos}
theorem me_ix (hK : X.K = C.K) (ha : ME X C ε W a ma) (hb : ME X C ε W b mb) (hs : PlainIx b := by intro _ _; rfl) : ME X C ε W (.Subscript a b pos) (bin gIx ma mb) := (pe_ix (ix_seq (X := X)) ha hb hs).imp fun σ H Q h => by
  obtain ⟨s, dσ, rfl, ex, gd, rs, h⟩ := h
  refine Post.bind ex gd rs h fun s1 x v e1 f1 g1 rs1 r1 h1 => ?_
  refine Post.bind e1 g1 rs1 h1 fun s2 y u e2 f2 g2 rs2 r2 h2 => ?_
  rw [hK]
  exact os_ix W σ s2 x y v u Q g2 (r1.fwd f2) r2 h2
/-! ### slices -/
abbrev MO (X : Cx) (C : Cf) (ε : Ep) (W : WX) (e : Option Expr) (m : M (Option Int)) : Prop := PO X e (tG C ε W (fun _ a b => a = b) m)
theorem _root_.L2.PO.imp {X : Cx} {e : Option Expr} {t t' : TO} (h : PO X e t) (k : ∀ σ H Q, t' σ H Q → t σ H Q) : PO X e t' := ⟨fun pins s σ H Q I q => h.run pins s σ H Q I (k σ H Q q)⟩
def noPart : M (Option Int) := fun _ h => .ok none h
def part (m : M D) : M (Option Int) := fun σ h => (m σ h).bind fun d h1 => match d with
  | .int i => .ok (some i) h1
  | _ => .bad
theorem mo_none : MO X C ε W none noPart := po_none.imp fun σ H Q h => by
  obtain ⟨s, dσ, rfl, ex, g, rs, h⟩ := h
  exact Post.here (rl := fun _ a b => a = b) g h rfl
theorem mo_some (ha : ME X C ε W a ma) : MO X C ε W (some a) (part ma) := (po_some ha).imp fun σ H Q h => by
  obtain ⟨s, dσ, rfl, ex, g, rs, h⟩ := h
  refine Post.bind ex g rs h fun s1 x v e1 f1 g1 rs1 r1 h1 => ?_
  cases x with
  | int i => exact ⟨i, r1.int_eq, Post.here (rl := fun _ a b => a = b) g1 h1 rfl⟩
  | _ => exact h1.elim
def cutD {α : Type} (xs : List α) (lo hi : Option Int) : List α := (xs.drop (HT.sIx xs.length 0 lo)).take (HT.sIx xs.length xs.length hi - HT.sIx xs.length 0 lo)
def gSl (x : D) (lo hi : Option Int) (h : AH) : Out D := match x with
  | .tup xs => .ok (.tup (cutD xs lo hi)) h
  | .str z => if z.length ≤ lim then .ok (.str (cutS z lo hi)) h else .bad
  | .scr ns => .ok (.lst ((cutD ns lo hi).map .int)) h
  | x => (match lstOf x h with
    | some xs => .ok (.lst (cutD xs lo hi)) h
    | none => .bad)
def sl (a : M D) (lo hi : M (Option Int)) : M D := fun σ h => (a σ h).bind fun x h1 => (lo σ h1).bind fun l h2 => (hi σ h2).bind fun u h3 => gSl x l u h3
theorem Rs.drop {F : Hp} {ρ : Rho} : ∀ (n : Nat) {xs : List D} {ys : List V}, Rs C F ρ xs ys → Rs C F ρ (xs.drop n) (ys.drop n)
  | 0, xs, ys, r => by simpa using r
  | n + 1, [], ys, r => by unfold Rs at r; subst r; simp [Rs]
  | n + 1, x :: xs, ys, r => by
    unfold Rs at r
    obtain ⟨v, t, rfl, _, r⟩ := r
    simpa using Rs.drop n r
theorem Rs.take {F : Hp} {ρ : Rho} : ∀ (n : Nat) {xs : List D} {ys : List V}, Rs C F ρ xs ys → Rs C F ρ (xs.take n) (ys.take n)
  | 0, xs, ys, r => by simp [Rs]
  | n + 1, [], ys, r => by unfold Rs at r; subst r; simp [Rs]
  | n + 1, x :: xs, ys, r => by
    unfold Rs at r
    obtain ⟨v, t, rfl, a, r⟩ := r
    simp only [List.take_succ_cons]
    unfold Rs
    exact ⟨v, _, rfl, a, Rs.take n r⟩
theorem Rs.cut {F : Hp} {ρ : Rho} {xs : List D} {ys : List V} {lo hi : Option Int} (r : Rs C F ρ xs ys) : Rs C F ρ (cutD xs lo hi) (cutV ys lo hi) := by
  unfold cutD cutV
  rw [← r.length]
  exact Rs.take _ (Rs.drop _ r)
def rSlAll (K : PySem.W.Frag) : V → Option Int → Option Int → Hp → VK → Prop := fun x lo hi H Q => rSlL K x lo hi H Q ∨ (rSlA K x lo hi H Q ∨ rSlS x lo hi H Q)
theorem sr_all : SlR X (rSlAll X.K) := sl_list.or (sl_tupA.or sl_str)
theorem Rs.ints {F : Hp} {ρ : Rho} : ∀ ns : List Int, Rs C F ρ (ns.map .int) (ns.map V.int)
  | [] => by simp [Rs]
  | n :: ns => by
    show Rs C F ρ (.int n :: ns.map .int) (V.int n :: ns.map V.int)
    unfold Rs
    exact ⟨_, _, rfl, by unfold R; rfl, Rs.ints ns⟩
theorem cut_map (ns : List Int) (lo hi : Option Int) : cutV (ns.map V.int) lo hi = (cutD ns lo hi).map V.int := by
  unfold cutV cutD
  rw [List.length_map, ← List.map_drop, ← List.map_take]
theorem me_sl {lo hi : Option Expr} {ml mh : M (Option Int)} (hK : X.K = C.K) (ha : ME X C ε W a ma) (hl : MO X C ε W lo ml) (hh : MO X C ε W hi mh) : ME X C ε W (.Subscript a (.Slice lo hi none p2) pos) (sl ma ml mh) := (pe_slice sr_all ha hl hh).imp fun σ H Q h => by
  obtain ⟨s, dσ, rfl, ex, gd, rs, h⟩ := h
  refine Post.bind ex gd rs h fun s1 x v e1 f1 g1 rs1 r1 h1 => ?_
  refine Post.bind e1 g1 rs1 h1 fun s2 l l' e2 f2 g2 rs2 r2 h2 => ?_
  subst r2
  refine Post.bind e2 g2 rs2 h2 fun s3 u u' e3 f3 g3 rs3 r3 h3 => ?_
  subst r3
  replace r1 : R C s3.F s3.ρ x v := (R.fwd f2 r1).fwd f3
  rw [hK]
  unfold gSl at h3
  split at h3
  · rename_i xs
    unfold R at r1
    obtain ⟨p, ys, rfl, fa, rr⟩ := id r1
    refine .inr (.inl ⟨p, ys, rfl, SqT.of (g3.sub _ _ fa), fun hw => ?_, fun _ => Post.tup g3 h3 rr.cut⟩)
    refine Post.here g3 h3 ?_
    have e : cutD xs l u = xs := by
      unfold cutD
      rw [rr.length, hw.1, hw.2, List.drop_zero, Nat.sub_zero, ← rr.length, List.take_length]
    rw [e]
    unfold R
    exact r1
  · split at h3
    · rename_i z hz
      exact .inr (.inr ⟨z, r1.str_eq, lim_le hz, Post.str g3 h3⟩)
    · exact h3.elim
  · rename_i ns
    unfold R at r1
    obtain ⟨p, rfl, sq⟩ := r1
    refine .inl ⟨p, ns.map V.int, rfl, g3.sub.sqL sq, ?_⟩
    rw [cut_map]
    exact Post.lst g3 h3 (Rs.ints _)
  · split at h3
    · rename_i xs e0
      obtain ⟨p, ys, rfl, hp, rr⟩ := lstOf_ok g3 r1 e0
      exact .inl ⟨p, ys, rfl, SqL.of hp, Post.lst g3 h3 rr.cut⟩
    · exact h3.elim
end
/-! ### built-in functions -/
def lenD (d : D) (h : AH) : Option Nat := match d with
  | .tup xs => some xs.length
  | .scr ns => some ns.length
  | .str z => if z.length ≤ lim then some z.length else none
  | d => (lstOf d h).map List.length
def gLen (ds : List D) (h : AH) : Out D := match ds with
  | [d] => (match lenD d h with
    | some n => .ok (.int n) h
    | none => .bad)
  | _ => .bad
theorem Rs.one {C : Cf} {F : Hp} {ρ : Rho} {d : D} {vs : List V} (r : Rs C F ρ [d] vs) : ∃ v, vs = [v] ∧ R C F ρ d v := by
  unfold Rs at r
  obtain ⟨v, t, rfl, a, r⟩ := r
  unfold Rs at r
  subst r
  exact ⟨v, rfl, a⟩
theorem Rs.two {C : Cf} {F : Hp} {ρ : Rho} {d e : D} {vs : List V} (r : Rs C F ρ [d, e] vs) : ∃ v w, vs = [v, w] ∧ R C F ρ d v ∧ R C F ρ e w := by
  unfold Rs at r
  obtain ⟨v, t, rfl, a, r⟩ := r
  obtain ⟨w, rfl, b⟩ := r.one
  exact ⟨v, w, rfl, a, b⟩
def rLenA (K : PySem.W.Frag) : List V → Hp → VK → Prop := fun xs H Q => ∃ x n, xs = [x] ∧ LenV K x H n ∧ Q (.int n) H
theorem cs_len {C : Cf} : CallS C (rLenA C.K) gLen := by
  intro W σ s x v Q g rx h
  unfold gLen at h
  split at h
  · rename_i d
    obtain ⟨v, rfl, r⟩ := rx.one
    split at h
    · rename_i n e
      refine ⟨v, n, rfl, ?_, Post.int g h⟩
      unfold lenD at e
      split at e
      · unfold R at r
        obtain ⟨a, ys, rfl, fa, rr⟩ := r
        cases e
        exact .inr ⟨ys, SqT.of (g.sub _ _ fa), rr.length⟩
      · unfold R at r
        obtain ⟨a, rfl, sq⟩ := r
        cases e
        exact .inl ⟨_, g.sub.sqL sq, by simp⟩
      · rw [r.str_eq]
        split at e
        · rename_i hz
          cases e
          exact ⟨lim_le hz, rfl⟩
        · cases e
      · cases q : lstOf d s.ah with
        | none => rw [q] at e; cases e
        | some xs =>
          rw [q] at e; cases e
          obtain ⟨a, ys, rfl, ha, rr⟩ := lstOf_ok g r q
          exact .inl ⟨ys, SqL.of ha, rr.length⟩
    · exact h.elim
  · exact h.elim
def gMax2 (ds : List D) (h : AH) : Out D := match ds with
  | [.int i, .int j] => .ok (.int (if j > i then j else i)) h
  | _ => .bad
def gMin2 (ds : List D) (h : AH) : Out D := match ds with
  | [.int i, .int j] => .ok (.int (if j < i then j else i)) h
  | _ => .bad
theorem cs_max2 {C : Cf} : CallS C (fun xs H Q => ∃ i j, xs = [.int i, .int j] ∧ Q (.int (if j > i then j else i)) H) gMax2 := by
  intro W σ s x v Q g rx h
  unfold gMax2 at h
  split at h
  · obtain ⟨v, w, rfl, r1, r2⟩ := rx.two
    rw [r1.int_eq, r2.int_eq]
    exact ⟨_, _, rfl, Post.int g h⟩
  · exact h.elim
theorem cs_min2 {C : Cf} : CallS C (fun xs H Q => ∃ i j, xs = [.int i, .int j] ∧ Q (.int (if j < i then j else i)) H) gMin2 := by
  intro W σ s x v Q g rx h
  unfold gMin2 at h
  split at h
  · obtain ⟨v, w, rfl, r1, r2⟩ := rx.two
    rw [r1.int_eq, r2.int_eq]
    exact ⟨_, _, rfl, Post.int g h⟩
  · exact h.elim
/-- a list of truths -/
def blsOf : List D → Option (List Bool)
  | [] => some []
  | .bl b :: ds => (blsOf ds).map (b :: ·)
  | _ :: _ => none
theorem Rs.bls {C : Cf} {F : Hp} {ρ : Rho} : ∀ {xs : List D} {ys : List V} {bs : List Bool}, Rs C F ρ xs ys → blsOf xs = some bs → ys = bs.map V.bl
  | [], ys, bs, r, e => by unfold Rs at r; subst r; unfold blsOf at e; cases e; rfl
  | x :: xs, ys, bs, r, e => by
    unfold Rs at r
    obtain ⟨v, t, rfl, a, r⟩ := r
    cases x with
    | bl b =>
      unfold blsOf at e
      cases q : blsOf xs with
      | none => rw [q] at e; cases e
      | some cs =>
        rw [q] at e; cases e
        rw [a.bl_eq, Rs.bls r q]; rfl
    | _ => unfold blsOf at e; cases e
def gAny (ds : List D) (h : AH) : Out D := match ds with
  | [d] => (match (lstOf d h).bind blsOf with
    | some bs => .ok (.bl (bs.any id)) h
    | none => .bad)
  | _ => .bad
def gAll (ds : List D) (h : AH) : Out D := match ds with
  | [d] => (match (lstOf d h).bind blsOf with
    | some bs => .ok (.bl (bs.all id)) h
    | none => .bad)
  | _ => .bad
theorem bls_ok {C : Cf} {s : Sx} {d : D} {v : V} {bs : List Bool} {K : PySem.W.Frag} (g : Good C s) (r : R C s.F s.ρ d v) (e : (lstOf d s.ah).bind blsOf = some bs) : ∃ a, v = .ref a ∧ SqL K s.H a (bs.map V.bl) := by
  cases q : lstOf d s.ah with
  | none => rw [q] at e; cases e
  | some xs =>
    rw [q] at e
    obtain ⟨a, ys, rfl, ha, rr⟩ := lstOf_ok g r q
    have := rr.bls (show blsOf xs = some bs from e)
    subst this
    exact ⟨a, rfl, SqL.of ha⟩
theorem cs_any {C : Cf} {K : PySem.W.Frag} : CallS C (rAny K) gAny := by
  intro W σ s x v Q g rx h
  unfold gAny at h
  split at h
  · obtain ⟨v, rfl, r⟩ := rx.one
    split at h
    · rename_i bs e
      obtain ⟨a, rfl, sq⟩ := bls_ok g r e
      exact ⟨a, bs, rfl, sq, Post.bl g h⟩
    · exact h.elim
  · exact h.elim
theorem cs_all {C : Cf} {K : PySem.W.Frag} : CallS C (L2.rAll K) gAll := by
  intro W σ s x v Q g rx h
  unfold gAll at h
  split at h
  · obtain ⟨v, rfl, r⟩ := rx.one
    split at h
    · rename_i bs e
      obtain ⟨a, rfl, sq⟩ := bls_ok g r e
      exact ⟨a, bs, rfl, sq, Post.bl g h⟩
    · exact h.elim
  · exact h.elim
/-- list(xs): a new list of the same things (kept | in a cell) -/
def seqOf (d : D) (h : AH) : Option (List D) := match d with
  | .tup xs => some xs
  | d => lstOf d h
def gList (ds : List D) (h : AH) : Out D := match ds with
  | [d] => (match seqOf d h with
    | some xs => .ok (.lst xs) h
    | none => .bad)
  | _ => .bad
def gListC (ds : List D) (h : AH) : Out D := match ds with
  | [d] => (match seqOf d h with
    | some xs => .ok (.cell h.length) (h ++ [some (.lst xs)])
    | none => .bad)
  | _ => .bad
theorem seqOf_ok {C : Cf} {s : Sx} {d : D} {v : V} {xs : List D} {K : PySem.W.Frag} (g : Good C s) (r : R C s.F s.ρ d v) (h : seqOf d s.ah = some xs) : ∃ a ys, v = .ref a ∧ (SqL K s.H a ys ∨ SqT K s.H a ys) ∧ Rs C s.F s.ρ xs ys := by
  unfold seqOf at h
  split at h
  · unfold R at r
    obtain ⟨a, ys, rfl, fa, rr⟩ := r
    cases h
    exact ⟨a, ys, rfl, .inr (SqT.of (g.sub _ _ fa)), rr⟩
  · obtain ⟨a, ys, rfl, ha, rr⟩ := lstOf_ok g r h
    exact ⟨a, ys, rfl, .inl (SqL.of ha), rr⟩
def rListOf (K : PySem.W.Frag) : List V → Hp → VK → Prop := fun xs H Q => ∃ p ys, xs = [.ref p] ∧ (SqL K H p ys ∨ SqT K H p ys) ∧ ∀ l, H l = none → Q (.ref l) (upd H l (.lst ys))
theorem cs_list {C : Cf} {K : PySem.W.Frag} : CallS C (rListOf K) gList := by
  intro W σ s x v Q g rx h
  unfold gList at h
  split at h
  · obtain ⟨v, rfl, r⟩ := rx.one
    split at h
    · rename_i xs e
      obtain ⟨a, ys, rfl, sq, rr⟩ := seqOf_ok g r e
      exact ⟨a, ys, rfl, sq, Post.lst g h rr⟩
    · exact h.elim
  · exact h.elim
theorem cs_listC {C : Cf} {K : PySem.W.Frag} : CallS C (rListOf K) gListC := by
  intro W σ s x v Q g rx h
  unfold gListC at h
  split at h
  · obtain ⟨v, rfl, r⟩ := rx.one
    split at h
    · rename_i xs e
      obtain ⟨a, ys, rfl, sq, rr⟩ := seqOf_ok g r e
      exact ⟨a, ys, rfl, sq, Post.cellL g h rr⟩
    · exact h.elim
  · exact h.elim
end Ws

set_option Elab.async false
set_option linter.all false
set_option maxRecDepth 100000
set_option autoImplicit false
namespace Ws
open PySem PySem.Spec L2
/-! ### methods of built-in types -/
def MtS (C : Cf) (r : V → List V → Hp → VK → Prop) (g : D → List D → AH → Out D) : Prop := ∀ (W : WX) (σ : L2.St) (s : Sx) (o : D) (ds : List D) (v : V) (us : List V) (Q : VK), Good C s → R C s.F s.ρ o v → Rs C s.F s.ρ ds us → Post C W σ (rD C) s Q (g o ds s.ah) → r v us s.H Q
/-- the receiver's kind is looked at ahead of the arguments -/
def bm (ty : D → AH → Bool) (g : D → List D → AH → Out D) (mo : M D) (mr : M (List D)) : M D := fun σ h => (mo σ h).bind fun o h1 => if ty o h1 = true then (mr σ h1).bind fun ds h2 => g o ds h2 else .bad
def isStr (d : D) (_ : AH) : Bool := match d with
  | .str _ => true
  | _ => false
def isLst (d : D) (h : AH) : Bool := (lstOf d h).isSome
def TyS (C : Cf) (T : String) (ty : D → AH → Bool) : Prop := ∀ (s : Sx) (d : D) (v : V), Good C s → R C s.F s.ρ d v → ty d s.ah = true → tyV C.K T v s.H
theorem ts_str {C : Cf} : TyS C "str" isStr := fun s d v g r e => by
  cases d with
  | str z => rw [r.str_eq]; rfl
  | _ => cases e
theorem ts_lst {C : Cf} : TyS C "list" isLst := fun s d v g r e => by
  obtain ⟨xs, e'⟩ := Option.isSome_iff_exists.mp e
  obtain ⟨a, ys, rfl, ha, rr⟩ := lstOf_ok g r e'
  exact .inl ⟨rfl, ys, SqL.of ha⟩
section
variable {X : Cx} {C : Cf} {ε : Ep} {W : WX} {o e : Expr} {es : List Expr} {mo : M D} {mr : M (List D)} {name : Str} {apos pos : Pos} {T id : String} {r : V → List V → Hp → VK → Prop} {ty : D → AH → Bool} {g : D → List D → AH → Out D}
theorem me_bm (hK : X.K = C.K) (pa : PlainAttrs T) (slot : Slot T name id) (hty : typeOf (.builtin id) = pure (.type "method_descriptor")) (hm : MtR X id r) (ts : TyS C T ty) (hg : MtS C r g) (ho : ME X C ε W o mo) (ha : MA X C ε W (e :: es) mr) (hbase : attributeBase o name X.env (eval o X.env) = eval o X.env := by rfl)
    (hfew : ((backTo pos (starEach (e :: es) X.env)).all (fun x => !x.1) && (backToKw pos (keywordEach [] X.env)).all (fun x => x.1.isSome) && decide ((e :: es).length + ([] : List Keyword).length + (if ([] : List Keyword).isEmpty then 0 else 1) < 30)) = true := by rfl)
    (hline : (apos.endLine == pos.line) = true := by rfl) (hs : starEach (e :: es) X.env = (false, eval e X.env) :: starEach es X.env := by rfl) (hplain : (backTo pos (starEach es X.env)).any (·.1) = false := by rfl) :
    ME X C ε W (.Call (.Attribute o name apos) (e :: es) [] pos) (bm ty g mo mr) := (pe_bm pa slot hty hm ho ha hbase hfew hline hs hplain).imp fun σ H Q h => by
  obtain ⟨s, dσ, rfl, ex, gd, rs, h⟩ := h
  refine Post.bind ex gd rs h fun s1 x v e1 f1 g1 rs1 r1 h1 => ?_
  split at h1
  · rename_i ht
    refine ⟨by rw [hK]; exact ts s1 x v g1 r1 ht, Post.bind e1 g1 rs1 h1 fun s2 ds us e2 f2 g2 rs2 r2 h2 => ?_⟩
    exact hg W σ s2 x ds v us Q g2 (r1.fwd f2) r2 h2
  · exact h1.elim
theorem me_bm0 (hK : X.K = C.K) (pa : PlainAttrs T) (slot : Slot T name id) (hty : typeOf (.builtin id) = pure (.type "method_descriptor")) (hm : MtR X id r) (ts : TyS C T ty) (hg : MtS C r g) (ho : ME X C ε W o mo) (hbase : attributeBase o name X.env (eval o X.env) = eval o X.env := by rfl)
    (hline : (apos.endLine == pos.line) = true := by rfl) : ME X C ε W (.Call (.Attribute o name apos) [] [] pos) (bm ty g mo nilA) := (pe_bm0 pa slot hty hm ho hbase hline).imp fun σ H Q h => by
  obtain ⟨s, dσ, rfl, ex, gd, rs, h⟩ := h
  refine Post.bind ex gd rs h fun s1 x v e1 f1 g1 rs1 r1 h1 => ?_
  split at h1
  · rename_i ht
    exact ⟨by rw [hK]; exact ts s1 x v g1 r1 ht, hg W σ s1 x [] v [] Q g1 r1 (by unfold Rs; rfl) h1⟩
  · exact h1.elim
end
/-- a list of texts -/
def strsOf : List D → Option (List Str)
  | [] => some []
  | .str b :: ds => (strsOf ds).map (b :: ·)
  | _ :: _ => none
theorem Rs.strs {C : Cf} {F : Hp} {ρ : Rho} : ∀ {xs : List D} {ys : List V} {bs : List Str}, Rs C F ρ xs ys → strsOf xs = some bs → ys = bs.map V.str
  | [], ys, bs, r, e => by unfold Rs at r; subst r; unfold strsOf at e; cases e; rfl
  | x :: xs, ys, bs, r, e => by
    unfold Rs at r
    obtain ⟨v, t, rfl, a, r⟩ := r
    cases x with
    | str b =>
      unfold strsOf at e
      cases q : strsOf xs with
      | none => rw [q] at e; cases e
      | some cs =>
        rw [q] at e; cases e
        rw [a.str_eq, Rs.strs r q]; rfl
    | _ => unfold strsOf at e; cases e
def gJoin (o : D) (ds : List D) (h : AH) : Out D := match o, ds with
  | .str a, [d] => (match (seqOf d h).bind strsOf with
    | some ys => if (ys.map (·.length)).sum + ys.length * a.length ≤ lim then .ok (.str (Txt.join a ys)) h else .bad
    | none => .bad)
  | _, _ => .bad
def rJoin (K : PySem.W.Frag) : V → List V → Hp → VK → Prop := fun x xs H Q => ∃ a p, ∃ ys : List Str, x = .str a ∧ xs = [.ref p] ∧ (SqL K H p (ys.map V.str) ∨ SqT K H p (ys.map V.str)) ∧ (ys.map (·.length)).sum + ys.length * a.length ≤ 16777216 ∧ Q (.str (Txt.join a ys)) H
theorem ms_join {C : Cf} {K : PySem.W.Frag} : MtS C (rJoin K) gJoin := by
  intro W σ s o ds v us Q g ro rds h
  unfold gJoin at h
  split at h
  · rename_i a d
    obtain ⟨w, rfl, r⟩ := rds.one
    rw [ro.str_eq]
    split at h
    · rename_i ys e
      split at h
      · rename_i hl
        cases q : seqOf d s.ah with
        | none => rw [q] at e; cases e
        | some xs =>
          rw [q] at e
          obtain ⟨p, zs, rfl, sq, rr⟩ := seqOf_ok (K := K) g r q
          have := rr.strs (show strsOf xs = some ys from e)
          subst this
          exact ⟨a, p, ys, rfl, rfl, sq, Nat.le_trans hl (by decide), Post.str g h⟩
      · exact h.elim
    · exact h.elim
  · exact h.elim
/-! ### lists in cells, changed -/
def cellL (d : D) (h : AH) : Option (Nat × List D) := match d with
  | .cell n => (match h.get n with
    | some (.lst xs) => some (n, xs)
    | _ => none)
  | _ => none
theorem cellL_ok {C : Cf} {s : Sx} {d : D} {v : V} {n : Nat} {xs : List D} (g : Good C s) (r : R C s.F s.ρ d v) (h : cellL d s.ah = some (n, xs)) : ∃ a ys, v = .ref a ∧ s.ρ.c n = some a ∧ s.ah.get n = some (.lst xs) ∧ s.H a = some (.lst ys) ∧ Rs C s.F s.ρ xs ys := by
  cases d with
  | cell m =>
    unfold cellL at h
    dsimp only at h
    split at h
    · rename_i zs e
      cases h
      unfold R at r
      obtain ⟨a, rfl, ea⟩ := r
      obtain ⟨a', q1, q2, ys, z1, z2⟩ := g.own n _ e
      rw [ea] at q1; cases q1
      exact ⟨a, ys, rfl, ea, e, z1, z2⟩
    · cases h
  | _ => cases h
/-- a list's new content -/
theorem Post.wrL {C : Cf} {W : WX} {σ : L2.St} {s : Sx} {Q : VK} {n : Nat} {a : Addr} {ob : OB} {d : D} {w : V} {xs : List D} {ys : List V} (g : Good C s) (e : s.ah.get n = some ob) (ea : s.ρ.c n = some a) (r : Rs C s.F s.ρ xs ys) (rd : R C s.F s.ρ d w) (h : Post C W σ (rD C) s Q (.ok d (s.ah.put n (.lst xs)))) : Q w (upd s.H a (.lst ys)) :=
  h (s.wr n a (.lst ys) (.lst xs)) w rfl (Fwd.wr g e ea) (g.wr e ea ⟨ys, upd_same, r⟩) (rd.fwd (Fwd.wr g e ea))
def gAppend (o : D) (ds : List D) (h : AH) : Out D := match ds with
  | [d] => (match cellL o h with
    | some (n, xs) => if xs.length < lim then .ok .non (h.put n (.lst (xs ++ [d]))) else .bad
    | none => .bad)
  | _ => .bad
theorem lim_lt' {n : Nat} (h : n < lim) : n < sizeLine := lim_lt h
theorem ms_append {C : Cf} : MtS C rAppend gAppend := by
  intro W σ s o ds v us Q g ro rds h
  unfold gAppend at h
  split at h
  · obtain ⟨w, rfl, r⟩ := rds.one
    split at h
    · rename_i n xs e
      split at h
      · rename_i hl
        obtain ⟨a, ys, rfl, ea, en, ha, rr⟩ := cellL_ok g ro e
        exact ⟨a, ys, w, rfl, rfl, ha, lim_lt' (by rw [← rr.length]; exact hl), Post.wrL g en ea (Rs.snoc rr r) (by unfold R; rfl) h⟩
      · exact h.elim
    · exact h.elim
  · exact h.elim
def gExtend (o : D) (ds : List D) (h : AH) : Out D := match ds with
  | [d] => (match cellL o h, lstOf d h with
    | some (n, xs), some zs => if xs.length + zs.length ≤ lim then .ok .non (h.put n (.lst (xs ++ zs))) else .bad
    | _, _ => .bad)
  | _ => .bad
theorem ms_extend {C : Cf} : MtS C rExtend gExtend := by
  intro W σ s o ds v us Q g ro rds h
  unfold gExtend at h
  split at h
  · obtain ⟨w, rfl, r⟩ := rds.one
    split at h
    · rename_i n xs zs e e2
      split at h
      · rename_i hl
        obtain ⟨a, ys, rfl, ea, en, ha, rr⟩ := cellL_ok g ro e
        obtain ⟨b, us, rfl, hb, rr2⟩ := lstOf_ok g r e2
        exact ⟨a, b, ys, us, rfl, rfl, ha, hb, lim_le (by rw [← rr.length, ← rr2.length]; exact hl), Post.wrL g en ea (Rs.app rr rr2) (by unfold R; rfl) h⟩
      · exact h.elim
    · exact h.elim
  · exact h.elim
/-- o[i] = v, a list in a cell -/
def tgSub (mo mi : M D) : Tg := fun d σ h => match mo σ h with
  | .ok o h1 => (match mi σ h1 with
    | .ok (.int i) h2 => (match cellL o h2 with
      | some (n, xs) => (match ixN xs.length i with
        | some j => .ok σ (h2.put n (.lst (xs.set j d)))
        | none => .bad)
      | none => .bad)
    | _ => .bad)
  | _ => .bad
theorem Rs.set {C : Cf} {F : Hp} {ρ : Rho} {d : D} {v : V} (q : R C F ρ d v) : ∀ (j : Nat) {xs : List D} {ys : List V}, Rs C F ρ xs ys → Rs C F ρ (xs.set j d) (ys.set j v)
  | _, [], ys, r => by unfold Rs at r; subst r; simp [Rs]
  | 0, x :: xs, ys, r => by
    unfold Rs at r
    obtain ⟨w, t, rfl, a, r⟩ := r
    simp only [List.set_cons_zero]
    unfold Rs
    exact ⟨v, t, rfl, q, r⟩
  | j + 1, x :: xs, ys, r => by
    unfold Rs at r
    obtain ⟨w, t, rfl, a, r⟩ := r
    simp only [List.set_cons_succ]
    unfold Rs
    exact ⟨w, _, rfl, a, Rs.set q j r⟩
section
variable {X : Cx} {C : Cf} {ε : Ep} {W : WX} {o i : Expr} {mo mi : M D} {pos : Pos}
theorem mg_sub (tk : Takes X W) (ho : ME X C ε WF o mo) (hi : ME X C ε WF i mi)
    (ha : ∀ v, assign (.Subscript o i pos) X.env v = (do let ov ← holding [v] (eval o X.env); let iv ← holding [v, ov] (eval i X.env); standAt pos; holding [v, ov, iv] (setItem ov iv v); release [v, ov, iv] []) := by intro _; rfl) : MG X C ε (.Subscript o i pos) (tgSub mo mi) :=
  (pg_sub ho hi set_list ha).imp fun v σ H Q h => by
    obtain ⟨s, dσ, d, rfl, ex, g, rs, r, h⟩ := h
    unfold tgSub at h
    refine ⟨s, dσ, rfl, ex, g, rs, ?_⟩
    cases q1 : mo dσ s.ah with
    | ok od h1 =>
      rw [q1] at h
      intro s1 ov e1 f1 g1 r1
      subst e1
      refine ⟨s1, dσ, rfl, f1.rho.x.trans ex, g1, rs.fwd f1, ?_⟩
      dsimp only at h
      cases q2 : mi dσ s1.ah with
      | ok id h2 =>
        rw [q2] at h
        intro s2 iv e2 f2 g2 r2
        subst e2
        cases id with
        | int k =>
          dsimp only at h
          split at h
          · rename_i n xs ec
            split at h
            · rename_i j ej
              obtain ⟨a, ys, rfl, ea, en, hH, rr⟩ := cellL_ok g2 (r1.fwd f2) ec
              have f := f1.trans f2
              refine ⟨a, ys, k, j, rfl, r2.int_eq, hH, by rw [← rr.length]; exact ej, ?_⟩
              have fw := Fwd.wr g2 (o := .lst (ys.set j v)) (ob := .lst (xs.set j d)) en ea
              exact h (s2.wr n a (.lst (ys.set j v)) (.lst (xs.set j d))) σ rfl (f.trans fw) (g2.wr en ea ⟨_, upd_same, Rs.set (r.fwd f) j rr⟩) (rs.fwd (f.trans fw))
            · exact h.elim
          · exact h.elim
        | _ => exact h.elim
      | exc => rw [q2] at h; exact h.elim
      | bad => rw [q2] at h; exact h.elim
    | exc => rw [q1] at h; exact h.elim
    | bad => rw [q1] at h; exact h.elim
end
/-! ### keeping what a name holds: the list in a cell is changed no more -/
def frzS (i : Nat) (m : SM) : SM := fun σ h => match σ[i]? with
  | some (some (.cell n)) => (match h.get n with
    | some (.lst xs) => m (σ.set i (some (.lst xs))) (h.set n none)
    | _ => m σ h)
  | _ => m σ h
theorem AH.get_none {h : AH} {n m : Nat} : AH.get (h.set n none) m = if m = n then none else h.get m := by
  unfold AH.get
  rw [List.getElem?_set]
  by_cases e : n = m
  · subst e
    simp only [if_true]
    split <;> rfl
  · rw [if_neg e, if_neg (Ne.symm e)]
theorem ms_frz {X : Cx} {C : Cf} {ε : Ep} {W : WX} {sts : List Stmt} {m : SM} (i : Nat) (h : MSs X C ε W sts m) : MSs X C ε W sts (frzS i m) := h.imp fun D σ H h => by
  obtain ⟨s, dσ, rfl, ex, g, rs, h⟩ := h
  unfold frzS at h
  split at h
  · rename_i n e
    split at h
    · rename_i xs en
      obtain ⟨a, q1, q2, ys, z1, z2⟩ := g.own n _ en
      have sb : Sub s.F (upd s.F a (.lst ys)) := Sub.upd' q2
      have g' : Good C { F := upd s.F a (.lst ys), ρ := s.ρ, H := s.H, ah := s.ah.set n none } := {
        sub := fun b u e' => by
          have e' : upd s.F a (.lst ys) b = some u := e'
          by_cases hb : b = a
          · rw [hb, upd_same] at e'; cases e'; rw [hb]; exact z1
          · rw [upd_ne hb] at e'; exact g.sub b u e'
        tups := fun b zs e' => sb _ _ (g.tups b zs e')
        own := fun k ob e' => by
          have e2 : AH.get (s.ah.set n none) k = some ob := e'
          rw [AH.get_none] at e2
          by_cases hk : k = n
          · rw [if_pos hk] at e2; cases e2
          · rw [if_neg hk] at e2
            obtain ⟨b, y1, y2, y3⟩ := g.own k ob e2
            have ne : b ≠ a := fun z => by
              subst z
              exact hk (g.inj k n b (by rw [e2]; exact fun z => nomatch z) (by rw [en]; exact fun z => nomatch z) y1 q1)
            exact ⟨b, y1, (show upd s.F a (.lst ys) b = none by rw [upd_ne ne]; exact y2), y3.mono sb (.refl _) rfl⟩
        inj := fun k l b k1 k2 e1 e2 => by
          have k1' : AH.get (s.ah.set n none) k ≠ none := k1
          have k2' : AH.get (s.ah.set n none) l ≠ none := k2
          rw [AH.get_none] at k1' k2'
          by_cases hk : k = n
          · rw [if_pos hk] at k1'; exact absurd rfl k1'
          · by_cases hl : l = n
            · rw [if_pos hl] at k2'; exact absurd rfl k2'
            · rw [if_neg hk] at k1'; rw [if_neg hl] at k2'
              exact g.inj k l b k1' k2' e1 e2
        dom := fun k e' => g.dom k (by simpa using e') }
      have f' : Fwd s { F := upd s.F a (.lst ys), ρ := s.ρ, H := s.H, ah := s.ah.set n none } := {
        sub := sb
        rho := .refl _
        frame := fun _ _ h _ => h
        fresh := fun k b e1 k1 => by
          have k1' : AH.get (s.ah.set n none) k ≠ none := k1
          rw [AH.get_none] at k1'
          by_cases hk : k = n
          · rw [if_pos hk] at k1'; exact absurd rfl k1'
          · rw [if_neg hk] at k1'; exact .inl ⟨e1, k1'⟩
        there := fun b u e => ⟨u, e⟩
        still := fun b u e' => by
          have e' : upd s.F a (.lst ys) b = some u := e'
          by_cases hb : b = a
          · subst hb; exact .inr (.inr ⟨n, q1, by rw [en]; exact fun z => nomatch z⟩)
          · rw [upd_ne hb] at e'; exact .inl e' }
      refine ⟨{ F := upd s.F a (.lst ys), ρ := s.ρ, H := s.H, ah := s.ah.set n none }, dσ.set i (some (.lst xs)), rfl, ex, g', ?_, PostS.fwd f' h⟩
      obtain ⟨v, ev, rv⟩ := rs.2 i _ e
      have rs' := (rs.fwd f').set (i := i) (d := .lst xs) (v := v) (by
        unfold R at rv ⊢
        obtain ⟨b, rfl, eb⟩ := rv
        rw [q1] at eb; cases eb
        exact ⟨a, ys, rfl, upd_same, z2.fwd f'⟩)
      have es : σ.set i (some v) = σ := by
        apply List.ext_getElem?
        intro k
        rw [List.getElem?_set]
        by_cases hk : i = k
        · subst hk
          rw [if_pos rfl, ev]
          split
          · rfl
          · rename_i hl
            rw [List.getElem?_eq_none (by omega)] at ev; cases ev
        · rw [if_neg hk]
      rw [es] at rs'
      exact rs'
    · exact ⟨s, dσ, rfl, ex, g, rs, h⟩
  · exact ⟨s, dσ, rfl, ex, g, rs, h⟩
end Ws

set_option Elab.async false
set_option linter.all false
set_option maxRecDepth 100000
set_option maxHeartbeats 2000000
set_option autoImplicit false
/-! isinstance of a caught error that has a dict of its own -/
namespace Ws
open PySem PySem.Spec PySem.W
section
variable {prog : Program} {w : World} {A : Around} {E : Value → Shared → Prop} {s : Shared} {K : Frag} {x cA : Addr} {ox : Obj} {od : Option Obj}
theorem find_data {name : Str} {a g : Value} (hc : (clsIn K cA).isSome = true) (ha : findIn K (.ref cA) name = some (some a)) (hg : specialIn K a "__get__" = some (some g)) (ht : takesIn K a = some true) : findObj K cA od name = some (.bind g a) := by
  obtain ⟨cd, hc⟩ := Option.isSome_iff_exists.mp hc
  unfold findObj
  simp [hc, ha, hg, ht]
theorem err_class {Q : Option Value → Shared → Prop} (T : L2.ExcC K cA) (X : K.In s.heap) (I : InstAt s.heap x ox cA od) (h : Q (some (.ref cA)) { s with toks := s.toks + 1 }) : wpAny (model prog w) A (getAttr? (.ref x) "__class__") Q E s := by
  have hsome : (clsIn K cA).isSome = true := by
    have hd := T.hd
    unfold hasDictIn at hd
    cases q : clsIn K cA with
    | none => rw [q] at hd; cases hd
    | some _ => rfl
  have hf : findObj K cA od "__class__" = some (.bind (.builtin "getset_descriptor.__get__") (.builtin "object.__class__")) := find_data hsome T.ha T.hn T.ht
  obtain ⟨hp, gs, dr, tk, os⟩ := s
  have l0 := I.type (M := model prog w)
  have l1 := looks_findIn (M := model prog w) X T.hg
  have l2 := looks_findIn (M := model prog w) X T.hk
  have l3 := looks_find (M := model prog w) X I hf
  have sub : Looks (model prog w) hp (isInstance (.ref x) (.type "BaseException")) true := l0.andThen (looks_subIn X T.hs)
  have n0 : (false && onTheHeap (Value.builtin "BaseException.__getattribute__")) = false := rfl
  have n2 : (Value.builtin "BaseException.__getattribute__" == Value.builtin "object.__getattribute__") = false := by decide +kernel
  have n1 : (onTheHeap (Value.ref cA) && Value.builtin "BaseException.__getattribute__" == Value.builtin "object.__getattribute__") = false := by rw [n2]; rfl
  unfold getAttr? getAttrBy? getAttrBy
  refine wpAny_bind (wpAny_mkText (wpAny_bind (wpAny_attempt (wpAny_holding (wpAny_bind (l0.at (wpAny_bind (l1.at ?_))))))))
  show wpAny _ _ (if (onTheHeap (Value.ref cA) && Value.builtin "BaseException.__getattribute__" == Value.builtin "object.__getattribute__") = true then _ else _) _ _ _
  rw [n1, if_neg Bool.false_ne_true]
  unfold getAttrByItsOwn hookBefore
  refine wpAny_bind ?_
  rw [if_pos (show onTheHeap (Value.ref cA) = true from rfl)]
  refine l2.at ?_
  refine wpAny_bind (wpAny_attempt (wpAny_holding ?_))
  unfold callGetattribute
  rw [n0, if_neg Bool.false_ne_true]
  unfold boundAndCalled
  rw [PySem.F.excAttr_ValueError.ga.bind (.ref x)]
  refine wpAny_bind (wpAny_pure ?_)
  show wpAny _ _ (PySem.call (.builtin "BaseException.__getattribute__") [.ref x, .str "__class__" tk]) _ _ _
  refine wpAny_call (codeAny_call_builtin PySem.F.excAttr_ValueError.ga.plain PySem.F.entry_bexc_ga ?_)
  refine @check_slot (model prog w) _ _ ⟨hp, gs, dr, tk + 1, os⟩ "BaseException.__getattribute__" "BaseException" "__getattribute__" (.ref x) [.str "__class__" tk] [] _ (by decide +kernel) (by decide +kernel) sub (PySem.F.args_bexc_ga (.ref x) (.str "__class__" tk)) ?_
  unfold Builtin.«object.__getattribute__»
  refine wpAny_bind (wpAny_of_eq (a := ((Value.ref x : Value), [Value.str "__class__" tk])) (by first | rfl | (simp only [slotArgs]; rfl)) ?_)
  refine wpAny_bind (wpAny_pure (wpAny_bind (l0.at (wpAny_bind (l3.at ?_)))))
  show wpAny _ _ (holding [Value.builtin "object.__class__"] (PySem.call (.builtin "getset_descriptor.__get__") [.builtin "object.__class__", .ref x, .ref cA]) >>= PySem.ret) _ _ _
  refine wpAny_bind (wpAny_holding (wpAny_call (class_get (s := ⟨hp, gs, dr, tk + 1, os⟩) (ox := ox) (od := od) X I T.hm ?_)))
  refine wpAny_pure ?_
  show wpAny _ _ (handedOut (.ref cA)) _ _ _
  rw [handedOut_of (v := .ref cA) rfl]
  first
    | exact wpAny_pure (wpAny_pure h)
    | exact wpAny_pure h
    | exact wpAny_pure (wpAny_bind (wpAny_pure (wpAny_pure h)))
theorem err_kit (T : L2.ExcC K cA) : KitX K (.ref x) (.ref cA) (fun h => InstAt h x ox cA od) where
  ty := fun _ _ _ I => I.type
  it := fun _ _ X _ => by
    have hd := T.hd
    unfold hasDictIn at hd
    cases q : clsIn K cA with
    | none => rw [q] at hd; cases hd
    | some cd =>
      unfold clsIn at q
      split at q
      · rename_i c' d' cd' sl' ho
        intro A' Q' E' s' k z
        unfold isType loadHead
        exact wpAny_bind (wpAny_loadPart (k _ _ (X _ _ ho)) (wpAny_pure z))
      · cases q
  ne := fun h tp dd its n sl X htp => by
    have hd := T.hd
    unfold hasDictIn at hd
    refine Bool.eq_false_iff.mpr fun z => ?_
    have e : cA = tp := Value.ref.inj (beq_iff_eq.mp z)
    subst e
    cases q : clsIn K cA with
    | none => rw [q] at hd; cases hd
    | some cd =>
      unfold clsIn at q
      split at q
      · rename_i c' d' cd' sl' ho
        have z := (X _ _ ho).symm.trans htp
        cases z
      · cases q
  ca := fun X I k => err_class T X I k
end
end Ws
namespace Ws
open PySem PySem.Spec L2
/-! ### errors -/
/-- the error that a suite holds -/
structure Held (C : Cf) (X : Cx) (a : Addr) (oe : Obj) (c : Str) (od : Option Addr) : Prop where
  z : Zc (.ref (He.ga C.K c)) od oe
  f : ∃ vs, oe.data = .fields vs
def gIsE (kt : Kit) (ds : List D) (h : AH) : Out D := match ds with
  | [.exn c _, .tup cs] => (match clsTys cs with
    | some us => if Ty.c c ∈ kt.tys ∧ (∀ u ∈ us, u ∈ kt.cls) then .ok (.bl (us.any fun u => kt.sub (.c c) u)) h else .bad
    | none => .bad)
  | [.exn c _, k] => (match clsTy k with
    | some u => if Ty.c c ∈ kt.tys ∧ u ∈ kt.cls then .ok (.bl (kt.sub (.c c) u)) h else .bad
    | none => .bad)
  | _ => .bad
/-- the classes of errors: kinds of their own -/
structure EKit (K : PySem.W.Frag) (kt : Kit) : Prop where
  cls : ∀ c, Ty.c c ∈ kt.tys → ExcC K (He.ga K c)
  one : ∀ t ∈ kt.tys, ∀ c ∈ kt.cls, PySem.W.kitOne K (t.v K) (c.v K) = some (kt.sub t c)
def rIsX (K : PySem.W.Frag) (a : Addr) (cA : Addr) : List V → Hp → VK → Prop := fun xs H Q => (∃ (k : V) (cv : Value) (b : Bool), xs = [.ref a, k] ∧ ClsV k cv ∧ PySem.W.kitOne K (.ref cA) cv = some b ∧ Q (.bl b) H) ∨
  ∃ (tp : Addr) (cs : List V) (us : List Value) (b : Bool), xs = [.ref a, .ref tp] ∧ H tp = some (.tup cs) ∧ Paired ClsV cs us ∧ PySem.W.kitAny K (.ref cA) us = some b ∧ Q (.bl b) H
theorem inst_at {X : Cx} {a cA : Addr} {oe : Obj} {od : Option Addr} {pn pins : List (Addr × Obj)} {σ : L2.St} {H : Hp} {s : Shared} (I : Inv (X.suite a ((a, oe) :: pn)) pins σ H s) (hz : Zc (.ref cA) od oe) (hf : ∃ vs, oe.data = .fields vs) (hd : ∀ d, od = some d → ∃ o, s.heap.get? d = some o) :
    ∃ oo, PySem.W.InstAt s.heap a oe cA oo := by
  obtain ⟨hget, _⟩ := I.pin (a, oe) (List.mem_append.mpr (.inl List.mem_cons_self))
  obtain ⟨vs, hv⟩ := hf
  cases e : od with
  | none => exact ⟨none, hget, hz.1, by unfold PySem.W.notCls; rw [hv] <;> rfl, by rw [hz.2, e]; trivial⟩
  | some d =>
    obtain ⟨o, ho⟩ := hd d e
    exact ⟨some o, hget, hz.1, by unfold PySem.W.notCls; rw [hv] <;> rfl, by rw [hz.2, e]; exact ho⟩
theorem cr_isX {X : Cx} {a cA : Addr} {oe : Obj} {od : Option Addr} {pn : List (Addr × Obj)} (T : ExcC X.K cA) (hz : Zc (.ref cA) od oe) (hf : ∃ vs, oe.data = .fields vs) :
    CallR (X.suite a ((a, oe) :: pn)) (.builtin "isinstance") (fun xs H Q => (∀ d, od = some d → ∃ o, H d = some o) ∧ rIsX X.K a cA xs H Q) := by
  intro pins s σ H xs us Q I r h
  obtain ⟨hd, h⟩ := h
  obtain ⟨oo, J⟩ := inst_at I hz hf fun d e => by
    obtain ⟨o, ho⟩ := hd d e
    exact objOk_get (I.hok d o ho)
  rcases h with ⟨k, cv, b, rfl, hk, e, q⟩ | ⟨tp, cs, ws, b, rfl, hT, hk, e, q⟩
  · obtain ⟨u1, u2, rfl, r1, r2⟩ := vals2 r
    cases (show u1 = Value.ref a from r1)
    have e2 := hk.eq r2
    subst e2
    exact PySem.W.kia_one (err_kit T) I.kIn J e (fun z => nomatch z) fun tk => ⟨.bl b, H, I.kept (t' := tk) fun _ _ z => z, rfl, q⟩
  · obtain ⟨u1, u2, rfl, r1, r2⟩ := vals2 r
    cases (show u1 = Value.ref a from r1)
    cases (show u2 = Value.ref tp from r2)
    obtain ⟨_, its, rv, o, h1, h2, n, h3⟩ := (show ObjOk X.prog X.w H s.heap tp (.tup cs) from I.hok tp _ hT)
    have e3 := ClsV.all hk rv
    subst e3
    obtain ⟨oc, odd, dt, sl⟩ := o
    simp only at h2 h3
    subst h2 h3
    exact PySem.W.kia_tup (err_kit T) I.kIn J h1 e (fun z => nomatch z) fun tk => ⟨.bl b, H, I.kept (t' := tk) fun _ _ z => z, rfl, q⟩
theorem ekitAny_ok {K : PySem.W.Frag} {kt : Kit} (hk : EKit K kt) {t : Ty} (ht : t ∈ kt.tys) : ∀ {us : List Ty}, (∀ c ∈ us, c ∈ kt.cls) → PySem.W.kitAny K (t.v K) (us.map (Ty.v K)) = some (us.any fun c => kt.sub t c)
  | [], _ => kitAny_nil
  | c :: us, h => by
    have q := hk.one t ht c (h c (List.mem_cons_self ..))
    refine kitAny_cons q (fun e => ?_) fun e => ?_
    · rw [List.any_cons, e, Bool.false_or]
      exact ekitAny_ok hk ht fun x hx => h x (List.mem_cons_of_mem _ hx)
    · rw [List.any_cons, e, Bool.true_or]
section
variable {X : Cx} {C : Cf} {W : WX} {a : Addr} {oe : Obj} {c : Str} {od : Option Addr} {pn : List (Addr × Obj)} {kt : Kit} {e : Expr} {es : List Expr} {mr : M (List D)} {me : M D} {p pos : Pos}
/-- the dict of the error that is held -/
theorem exn_dict {s : Sx} {k : Str} {fs : List (Str × D)} {v : V} (g : Good C s) (ex : s.ρ.x = some (a, c, od)) (r : R C s.F s.ρ (.exn k fs) v) : v = .ref a ∧ k = c ∧ (∀ d, od = some d → ∃ gs, s.H d = some (.xd gs) ∧ Rf C s.F s.ρ fs gs) ∧ (od = none → fs = []) := by
  unfold R at r
  obtain ⟨a', od', rfl, e, z⟩ := r
  rw [ex] at e
  cases e
  refine ⟨rfl, rfl, fun d e => ?_, fun e => ?_⟩
  · rcases z with ⟨z, _⟩ | ⟨d', gs, z1, z2, z3⟩
    · rw [e] at z; cases z
    · rw [e] at z1; cases z1; exact ⟨gs, g.sub _ _ z2, z3⟩
  · rcases z with ⟨_, z⟩ | ⟨d', gs, z1, _⟩
    · exact z
    · rw [e] at z1; cases z1
theorem me_isE1 (hK : X.K = C.K) (hk : EKit C.K kt) (hc : Ty.c c ∈ kt.tys) (hz : Zc (.ref (He.ga C.K c)) od oe) (hf : ∃ vs, oe.data = .fields vs) (hg : Gl X "isinstance") (hm : X.mg "isinstance" = none) (hv : bootBuiltins "isinstance" = some (.builtin "isinstance"))
    (ha : MA (X.suite a ((a, oe) :: pn)) C (some (a, c, od)) W (e :: es) mr) (he : starEach (e :: es) X.env = (false, eval e X.env) :: starEach es X.env := by rfl) (hpl : (backTo pos (starEach es X.env)).any (·.1) = false := by rfl) :
    ME (X.suite a ((a, oe) :: pn)) C (some (a, c, od)) W (.Call (.Name "isinstance" p) (e :: es) [] pos) (app (gIsE kt) mr) := by
  have T : ExcC X.K (He.ga C.K c) := by rw [hK]; exact hk.cls c hc
  refine (pe_callB (X := X.suite a ((a, oe) :: pn)) (cr_isX (pn := pn) T hz hf) hg hm hv ha (by decide) (by decide) he hpl).imp fun σ H Q h => ?_
  obtain ⟨s, dσ, rfl, ex, gd, rs, h⟩ := h
  refine Post.bind ex gd rs h fun s1 x v e1 f1 g1 rs1 r1 h1 => ?_
  unfold gIsE at h1
  rw [hK]
  split at h1
  · rename_i k fs cs
    obtain ⟨v1, v2, rfl, q1, q2⟩ := r1.two
    obtain ⟨rfl, rfl, hdict, _⟩ := exn_dict g1 e1 q1
    refine ⟨fun d ed => let ⟨gs, z, _⟩ := hdict d ed; ⟨_, z⟩, ?_⟩
    split at h1
    · rename_i us eu
      split at h1
      · rename_i hq
        unfold R at q2
        obtain ⟨tp, ys, rfl, fa, rr⟩ := q2
        exact .inr ⟨tp, ys, us.map (Ty.v C.K), _, rfl, g1.sub _ _ fa, clsTys_ok rr eu, ekitAny_ok hk hq.1 hq.2, Post.bl g1 h1⟩
      · exact h1.elim
    · exact h1.elim
  · rename_i k fs kk _
    obtain ⟨v1, v2, rfl, q1, q2⟩ := r1.two
    obtain ⟨rfl, rfl, hdict, _⟩ := exn_dict g1 e1 q1
    refine ⟨fun d ed => let ⟨gs, z, _⟩ := hdict d ed; ⟨_, z⟩, ?_⟩
    split at h1
    · rename_i u eu
      split at h1
      · rename_i hq
        exact .inl ⟨v2, u.v C.K, _, rfl, clsTy_ok q2 eu, hk.one _ hq.1 u hq.2, Post.bl g1 h1⟩
      · exact h1.elim
    · exact h1.elim
  · exact h1.elim
theorem gIsE_bad (hc : Ty.c c ∉ kt.tys) {fs : List (Str × D)} {ds : List D} {h : AH} : gIsE kt (.exn c fs :: ds) h = .bad := by
  unfold gIsE
  split
  · rename_i c' fs' cs e
    injection e with e1 e2
    injection e1 with e1 e3
    subst e1
    split
    · rw [if_neg (fun z => hc z.1)]
    · rfl
  · rename_i c' fs' k e
    injection e with e1 e2
    injection e1 with e1 e3
    subst e1
    split
    · rw [if_neg (fun z => hc z.1)]
    · rfl
  · rfl
theorem me_isE (hK : X.K = C.K) (hk : EKit C.K kt) (hz : Zc (.ref (He.ga C.K c)) od oe) (hf : ∃ vs, oe.data = .fields vs) (hg : Gl X "isinstance") (hm : X.mg "isinstance" = none) (hv : bootBuiltins "isinstance" = some (.builtin "isinstance"))
    (ha : MA (X.suite a ((a, oe) :: pn)) C (some (a, c, od)) W (e :: es) mr) (he : starEach (e :: es) X.env = (false, eval e X.env) :: starEach es X.env := by rfl) (hpl : (backTo pos (starEach es X.env)).any (·.1) = false := by rfl) :
    ME (X.suite a ((a, oe) :: pn)) C (some (a, c, od)) W (.Call (.Name "isinstance" p) (e :: es) [] pos) (app (gIsE kt) mr) := by
  by_cases hc : Ty.c c ∈ kt.tys
  · exact me_isE1 hK hk hc hz hf hg hm hv ha he hpl
  · refine (pe_callB (X := X.suite a ((a, oe) :: pn)) (r := fun _ _ _ => False) (fun pins s σ H xs us Q I r h => h.elim) hg hm hv ha (by decide) (by decide) he hpl).imp fun σ H Q h => ?_
    obtain ⟨s, dσ, rfl, ex, gd, rs, h⟩ := h
    refine Post.bind ex gd rs h fun s1 x v e1 f1 g1 rs1 r1 h1 => ?_
    have key : gIsE kt x s1.ah = .bad := by
      cases x with
      | nil => rfl
      | cons d ds =>
        cases d with
        | exn k fs =>
          unfold Rs at r1
          obtain ⟨v1, r, rfl, r2, r3⟩ := r1
          obtain ⟨rfl, rfl, _⟩ := exn_dict g1 e1 r2
          exact gIsE_bad hc
        | _ => rfl
    rw [key] at h1
    exact h1.elim
/-- e.f -/
def fldE (cs : List Str) (y : Str) (m : M D) : M D := fun σ h => (m σ h).bind fun d h1 => match d with
  | .exn k fs => if k ∈ cs then (match fs.lookup y with
    | some d => .ok d h1
    | none => .bad) else .bad
  | _ => .bad
theorem me_fldE {y : Str} {cs : List Str} (hK : X.K = C.K) (hcs : c ∈ cs → XfC C.K (He.ga C.K c) ∧ PySem.W.findIn C.K (.ref (He.ga C.K c)) y = some none) (hz : Zc (.ref (He.ga C.K c)) od oe) (hf : ∃ vs, oe.data = .fields vs)
    (he : ME (X.suite a ((a, oe) :: pn)) C (some (a, c, od)) W e me) (hb : attributeBase e y X.env (eval e X.env) = eval e X.env := by rfl) : ME (X.suite a ((a, oe) :: pn)) C (some (a, c, od)) W (.Attribute e y pos) (fldE cs y me) := by
  by_cases hc : c ∈ cs
  · obtain ⟨T, hno⟩ := hcs hc
    rw [← hK] at T hno
    refine (pe_xf (C := He.ga X.K c) (cls := .ref (He.ga X.K c)) (d := od) T hno (by rw [hK]; exact hz) hf he hb).imp fun σ H Q h => ?_
    obtain ⟨s, dσ, rfl, ex, gd, rs, h⟩ := h
    refine Post.bind ex gd rs h fun s1 x v e1 f1 g1 rs1 r1 h1 => ?_
    split at h1
    · rename_i k fs
      split at h1
      · obtain ⟨rfl, rfl, hdict, hnone⟩ := exn_dict g1 e1 r1
        cases q : fs.lookup y with
        | none => rw [q] at h1; exact h1.elim
        | some d =>
          rw [q] at h1
          cases eo : od with
          | none => rw [hnone eo] at q; cases q
          | some dd =>
            obtain ⟨gs, z1, z2⟩ := hdict dd eo
            have z := Rf.lookup (y := y) z2
            rw [q] at z
            obtain ⟨w, l, rv⟩ := z
            exact ⟨rfl, rfl, dd, gs, w, rfl, z1, l, Post.here g1 h1 rv⟩
      · exact h1.elim
    · exact h1.elim
  · refine ⟨fun pins s σ H Q I h => ?_⟩
    obtain ⟨sx, dσ, rfl, ex, gd, rs, h⟩ := h
    refine attr_of hb (thn (he.run pins s σ _ (fun _ _ => False) I (Post.bind ex gd rs h fun s1 x v e1 f1 g1 rs1 r1 h1 => by
      split at h1
      · rename_i k fs
        split at h1
        · rename_i hk
          obtain ⟨rfl, rfl, _⟩ := exn_dict g1 e1 r1
          exact absurd hk hc
        · exact h1.elim
      · exact h1.elim)) fun u s1 hh => ?_)
    obtain ⟨_, _, _, _, z⟩ := hh
    exact z.elim
end
end Ws

set_option Elab.async false
set_option linter.all false
set_option maxRecDepth 100000
set_option maxHeartbeats 2000000
set_option autoImplicit false
namespace Ws
open PySem PySem.Spec PyProof.Rows L2
/-! ### raise -/
section
variable {X : Cx} {C : Cf} {ε : Ep} {W : WX} {pos : Pos}
/-- raise C('m') -/
def rz (c : Str) : SM := fun σ h => .exc ⟨c, []⟩ σ h
theorem ms_rz {c x m : Str} {j : Nat} {bmB : List Value} {B newId initId : String} {p p2 pos1 : Pos} (hK : X.K = C.K) (hc : X.calm = true) (tk : Takes X W) (F : ExcBaseFacts B newId initId bmB) (q : PySem.W.excIn X.K (He.ga X.K c) bmB newId = true) (gC : X.mg x = some (.ref (He.ga X.K c))) (kC : PySem.W.keepIn X.K (.ref (He.ga X.K c)) = true)
    (r : Raises X (.ref (He.ga X.K c))) (hg : Gl X x) (hdb : (x == ("__debug__" : Str)) = false := by decide) : MS X C ε W (.Raise (some (.Call (.Name x p) [.Constant (.str m) j p2] [] pos1)) none pos) (rz c) :=
  (ps_raise hc tk (pmk_own F q gC kC r hg hdb)).imp fun D σ H h => by
    obtain ⟨s, dσ, rfl, ex, g, rs, h⟩ := h
    rw [hK]
    exact h s σ none rfl (.refl s) g rs (.inl ⟨rfl, rfl⟩)
/-- what an own __init__ of an error keeps: it bears y -/
def spX (K : PySem.W.Frag) (y : Str) : Sp := fun vs H Q _ => ∃ (a cA : Addr) (v : V), vs = [.ref a, v] ∧ OexC K cA ∧ PySem.W.findIn K (.ref cA) y = some none ∧ H a = some (exo a cA none) ∧ ∀ dx, H dx = none → dx ≠ a → Q .non (upd (upd H dx (exd dx [(y, v)])) a (exo a cA (some dx)))
/-- B.__init__(self, ..), B without an own one -/
theorem pe_binit {pl : Sem Bool} {b : Str} {e : Expr} {es : List Expr} {ta : TA} {p1 p2 : Pos} (hg : Gl X b) (hm : X.mg b = some (.ref (He.ga X.K b))) (hdb : (b == ("__debug__" : Str)) = false) (h1 : PySem.W.specialIn X.K (.ref (He.ga X.K b)) "__getattribute__" = some (some (.builtin "type.__getattribute__")))
    (hr : PySem.W.readsIn X.K (He.ga X.K b) (.type "type") = true) (vV : PySem.W.findCls X.K (.ref (He.ga X.K b)) (.type "type") "__init__" = some (.val (.builtin "ValueError.__init__"))) (ha : PA X (e :: es) ta)
    (hc : eval (.Call (.Attribute (.Name b p1) "__init__" p2) (e :: es) [] pos) X.env = (do
      let ov ← eval (.Name b p1) X.env
      standAt p2.atName
      let (f, first) ← holding [ov] (getMethod ov "__init__" pl)
      callWith pos f first (backTo pos (starEach (e :: es) X.env)) (backToKw pos (keywordEach [] X.env))) := by rfl)
    (he : starEach (e :: es) X.env = (false, eval e X.env) :: starEach es X.env := by rfl) (hpl : (backTo pos (starEach es X.env)).any (·.1) = false := by rfl) :
    PE X (.Call (.Attribute (.Name b p1) "__init__" p2) (e :: es) [] pos) (tVeI X.K ta) := by
  refine ⟨fun pins s σ H Q I h => ?_⟩
  refine PySem.W.methodCall_KW (ld_glob I hg hm ?_ hdb) hc
  refine PySem.W.method_cls I.kIn h1 (PySem.W.cls_value I.kIn hr vV (by decide +kernel) ?_)
  show wpAny _ _ (callWith pos (Value.builtin "ValueError.__init__") [] (backTo pos (starEach (e :: es) X.env)) []) _ _ _
  refine PyProof.Rows.callWith_method1 (thn (ha.run pos pins _ σ H _ (I.tok _) h) fun us s1 ⟨vs, H1, I1, r1, a, cA, ws, ev, hl, T, ea, q⟩ => ?_) he hpl
  subst ev
  cases r1 with
  | @cons _ u0 _ ur ra rw' =>
    obtain rfl : u0 = Value.ref a := ra
    have hlen : ur.length ≤ sizeLine := by
      rw [← Paired.length rw', sizeLine_eq]
      omega
    exact oinit_ok T I1 ea hlen fun s' J => ⟨.non, H1, J, rfl, q⟩
end
section
variable {C : Cf} {mg : Str → Option Value} {base : Heap} {x qual : Str} {params : Arguments} {body : List Stmt} {scope : Scope} {dvs : List V} {kws : List (Str × V)} {f : Addr} {fd : FuncData} {N ps : List Str} {k : Nat}
theorem oxi_ok {m y : Str} (F : FunD C.K x qual params body scope dvs kws f fd) (S : FnScope N ps scope) (hps : ps.length = 2)
    (hbody : ∀ (cdv : Value) (A : Around) (outer : List Env) (s : Shared) (H : Hp) (E : XK), PSs (cxOf (L2.CX C.P C.w) C.P C.w C.K mg base N qual scope f cdv A outer s H E) body
      (tSeq (tDrop (tVeI C.K (tCons (tVar 0) (tCons (tC (.str m)) tNil)))) (tOst C.K y (tVar 0) (tVar 1)))) :
    FnOk C.P C.w C.K mg base (L2.CX C.P C.w) (k + 1) f fd ps (spX C.K y) := by
  refine F.ok S (fun vs H Q E h => ?_) fun cdv A outer s H vs Q E hr hsp => ⟨_, hbody cdv A outer s H E, ?_⟩
  · obtain ⟨_, _, _, rfl, _⟩ := h
    exact hps.symm
  · obtain ⟨a, cA, v, rfl, T, hno, ea, q⟩ := hsp
    refine ⟨.ref a, rfl, a, cA, [.str m], rfl, (by show (1:Nat) ≤ 1000; omega), T, ea, ?_⟩
    exact ⟨v, rfl, .ref a, rfl, a, cA, rfl, T, hno, .inl ⟨ea, fun dx h1 h2 => q dx h1 h2⟩⟩
end
section
variable {X : Cx} {C : Cf} {ε : Ep} {W : WX} {pos : Pos}
/-- raise C(e), C's own __init__ keeping e as y -/
def rz1 (c y : Str) (m : M D) : SM := fun σ h => bindS (m σ h) σ fun d h1 => .exc ⟨c, [(y, d)]⟩ σ h1
theorem XR.one {s : Sx} {c y : Str} {d : D} {v : V} {dx : Addr} (r : R C s.F s.ρ d v) (g : Good C s) (h : s.H dx = none) : XR C (s.frz dx (.xd [(y, v)])) ⟨c, [(y, d)]⟩ (some dx) :=
  .inr ⟨dx, [(y, v)], rfl, upd_same, by unfold Rf; exact ⟨v, [], rfl, r.fwd (Fwd.frz g h), by unfold Rf; rfl⟩⟩
theorem ms_rz1 {c x y : Str} {fI : Addr} {k : Nat} {fd : FuncData} {ps : List Str} {e : Expr} {me : M D} {p pos1 : Pos} (hK : X.K = C.K) (hc : X.calm = true) (tk : Takes X W) (T : OexC X.K (He.ga X.K c)) (hno : PySem.W.findIn X.K (.ref (He.ga X.K c)) y = some none)
    (iC : PySem.W.findIn X.K (.ref (He.ga X.K c)) "__init__" = some (some (.ref fI))) (tI : PySem.W.typeIn X.K (.ref fI) = some (.type "function"))
    (F1 : FnOk X.prog X.w X.K X.mg X.base (L2.CX X.prog X.w) k fI fd ps (spX X.K y)) (hr : Room (k + 1) X.A) (hb : Binds X.K fd ps []) (hg : Gl X x) (hm : X.mg x = some (.ref (He.ga X.K c))) (he : ME X C ε W e me)
    (hdb : (x == ("__debug__" : Str)) = false := by decide) (hst : starEach [e] X.env = (false, eval e X.env) :: starEach [] X.env := by rfl) (hpl : (backTo pos1 (starEach [] X.env)).any (·.1) = false := by rfl) :
    MS X C ε W (.Raise (some (.Call (.Name x p) [e] [] pos1)) none pos) (rz1 c y me) := by
  refine (ps_raise hc tk (pmk_oex T iC tI F1 hr hb .nil (fun pins σ H s u s' I cx => tk u s' (XE.of_call I (fun _ _ _ z => z.elim) cx)) hg hm (pa_cons he pa_nil hst) hdb hst hpl)).imp fun D σ H h => ?_
  obtain ⟨s, dσ, rfl, ex, g, rs, h⟩ := h
  refine PostS.bind ex g rs h fun s1 d v e1 f1 g1 rs1 r1 h1 => ?_
  refine ⟨(by show (1:Nat) ≤ 1000; omega), fun a ha => ⟨a, _, v, rfl, T, hno, upd_same, fun dx h2 hne => ⟨rfl, dx, [(y, v)], upd_same, ?_, ?_, ?_⟩⟩⟩
  · rw [upd_ne hne, upd_same]
  · rw [upd_ne hne] at h2; exact h2
  · rw [upd_ne hne] at h2
    have e : upd (del (upd (upd (upd s1.H a (exo a (He.ga X.K c) none)) dx (exd dx [(y, v)])) a (exo a (He.ga X.K c) (some dx))) a) dx (.xd [(y, v)]) = (s1.frz dx (.xd [(y, v)])).H := by
      funext b
      show _ = upd s1.H dx _ b
      by_cases hb : b = dx
      · rw [hb, upd_same, upd_same]
      · rw [upd_ne hb, upd_ne hb]
        by_cases hba : b = a
        · rw [hba, del_same, ha]
        · rw [del_ne hba, upd_ne hba, upd_ne hb, upd_ne hba]
    rw [e, hK]
    exact h1 (s1.frz dx (.xd [(y, v)])) σ (some dx) rfl (Fwd.frz g1 h2) (g1.frz h2) (rs1.fwd (Fwd.frz g1 h2)) (XR.one r1 g1 h2)
end
end Ws

set_option Elab.async false
set_option linter.all false
set_option maxRecDepth 100000
set_option maxHeartbeats 2000000
set_option autoImplicit false
namespace Ws
open PySem PySem.Spec PyProof.Rows L2
/-! ### try .. except B as e -/
def Rho.hold (ρ : Rho) (x : Option (Addr × Str × Option Addr)) : Rho := { ρ with x := x }
mutual
theorem R.hold {C : Cf} {F : Hp} {ρ : Rho} {e : Ep} (n : ρ.x = none) : ∀ {d : D} {v : V}, R C F ρ d v → R C F (ρ.hold e) d v
  | .non, _, h | .bl _, _, h | .int _, _, h | .str _, _, h | .ty _, _, h | .glo _, _, h | .set _, _, h | .scr _, _, h | .cell _, _, h => by unfold R at h ⊢; exact h
  | .tup _, _, h => by unfold R at h ⊢; obtain ⟨a, ys, e, f, z⟩ := h; exact ⟨a, ys, e, f, Rs.hold n z⟩
  | .lst _, _, h => by unfold R at h ⊢; obtain ⟨a, ys, e, f, z⟩ := h; exact ⟨a, ys, e, f, Rs.hold n z⟩
  | .dct _, _, h => by unfold R at h ⊢; obtain ⟨a, o, ks, e, f, z⟩ := h; exact ⟨a, o, ks, e, f, Rk.hold n z⟩
  | .dcT _, _, h => by unfold R at h ⊢; obtain ⟨a, o, ks, e, f, z⟩ := h; exact ⟨a, o, ks, e, f, Rt.hold n z⟩
  | .ins _ _, _, h => by unfold R at h ⊢; obtain ⟨a, dx, gs, e, f, z⟩ := h; exact ⟨a, dx, gs, e, f, Rf.hold n z⟩
  | .exn _ _, _, h => by unfold R at h; obtain ⟨a, od, e, f, z⟩ := h; rw [n] at f; cases f
theorem Rs.hold {C : Cf} {F : Hp} {ρ : Rho} {e : Ep} (n : ρ.x = none) : ∀ {d : List D} {v : List V}, Rs C F ρ d v → Rs C F (ρ.hold e) d v
  | [], _, h => by unfold Rs at h ⊢; exact h
  | _ :: _, _, h => by unfold Rs at h ⊢; obtain ⟨v, t, e, a, b⟩ := h; exact ⟨v, t, e, R.hold n a, Rs.hold n b⟩
theorem Rf.hold {C : Cf} {F : Hp} {ρ : Rho} {e : Ep} (n : ρ.x = none) : ∀ {d : List (Str × D)} {v : List (Str × V)}, Rf C F ρ d v → Rf C F (ρ.hold e) d v
  | [], _, h => by unfold Rf at h ⊢; exact h
  | (_, _) :: _, _, h => by unfold Rf at h ⊢; obtain ⟨v, t, e, a, b⟩ := h; exact ⟨v, t, e, R.hold n a, Rf.hold n b⟩
theorem Rk.hold {C : Cf} {F : Hp} {ρ : Rho} {e : Ep} (n : ρ.x = none) : ∀ {d : List (D × D)} {v : List (Key × V)}, Rk C F ρ d v → Rk C F (ρ.hold e) d v
  | [], _, h => by unfold Rk at h ⊢; exact h
  | (_, _) :: _, _, h => by unfold Rk at h ⊢; obtain ⟨k, v, t, e, ek, a, b⟩ := h; exact ⟨k, v, t, e, ek, R.hold n a, Rk.hold n b⟩
theorem Rt.hold {C : Cf} {F : Hp} {ρ : Rho} {e : Ep} (n : ρ.x = none) : ∀ {d : List (D × D)} {v : List (List Key × V)}, Rt C F ρ d v → Rt C F (ρ.hold e) d v
  | [], _, h => by unfold Rt at h ⊢; exact h
  | (_, _) :: _, _, h => by unfold Rt at h ⊢; obtain ⟨k, v, t, e, ek, a, b⟩ := h; exact ⟨k, v, t, e, ek, R.hold n a, Rt.hold n b⟩
end
def Sx.hold (s : Sx) (x : Ep) : Sx := { s with ρ := s.ρ.hold x }
section
variable {C : Cf} {s t : Sx} {x : Ep}
theorem OR.hold {a : Addr} {ob : OB} (n : s.ρ.x = none) (h : OR C s.F s.ρ s.H a ob) : OR C s.F (s.ρ.hold x) s.H a ob := by
  cases ob with
  | lst xs => obtain ⟨ys, q, z⟩ := h; exact ⟨ys, q, Rs.hold n z⟩
  | dct kvs => obtain ⟨ks, q, z⟩ := h; exact ⟨ks, q, Rk.hold n z⟩
  | dcT kvs => obtain ⟨ks, q, z⟩ := h; exact ⟨ks, q, Rt.hold n z⟩
  | ins c fs => obtain ⟨dx, gs, q, z⟩ := h; exact ⟨dx, gs, q, Rf.hold n z⟩
  | set xs => exact h
theorem Good.hold (g : Good C s) (n : s.ρ.x = none) : Good C (s.hold x) :=
  ⟨g.sub, g.tups, fun k ob e => let ⟨a, e1, e2, e3⟩ := g.own k ob e; ⟨a, e1, e2, OR.hold (s := s) n e3⟩, g.inj, g.dom⟩
theorem RS.hold {σ : L2.St} {dσ : Sl} (n : s.ρ.x = none) (h : RS C s σ dσ) : RS C (s.hold x) σ dσ := ⟨h.1, fun i d e => let ⟨v, a, b⟩ := h.2 i d e; ⟨v, a, b.hold n⟩⟩
theorem REq.hold {L : Nat} {ρ : Rho} : REq L ρ (ρ.hold x) := fun _ _ => rfl
theorem Good.let (g : Good C s) (p : pureH s.ah.length s.ah = true) : Good C (s.hold x) :=
  ⟨g.sub, g.tups, fun k ob e => let ⟨a, e1, e2, e3⟩ := g.own k ob e; ⟨a, e1, e2, e3.pure REq.hold (pureH_get p e)⟩, g.inj, g.dom⟩
theorem RS.let {σ : L2.St} {dσ : Sl} {L : Nat} (h : RS C s σ dσ) (p : pureSl L dσ = true) : RS C (s.hold x) σ dσ := ⟨h.1, fun i d e => let ⟨v, a, b⟩ := h.2 i d e; ⟨v, a, b.pure REq.hold (pureSl_get p e)⟩⟩
theorem Fwd.hold {y : Ep} (n : s.ρ.x = x) (f : Fwd (s.hold y) t) : Fwd s (t.hold x) := ⟨f.sub, ⟨f.rho.c, n.symm⟩, f.frame, f.fresh, f.there, f.still⟩
end
/-- behind the suite: nothing speaks of the error any more -/
def freed (i : Nat) : SOut → SOut
  | .nx σ h => if pureSl h.length (σ.set i none) = true ∧ pureH h.length h = true then .nx (σ.set i none) h else .bad
  | .bk σ h => if pureSl h.length (σ.set i none) = true ∧ pureH h.length h = true then .bk (σ.set i none) h else .bad
  | .ct σ h => if pureSl h.length (σ.set i none) = true ∧ pureH h.length h = true then .ct (σ.set i none) h else .bad
  | .rt d h => if pureD h.length d = true ∧ pureH h.length h = true then .rt d h else .bad
  | _ => .bad
def tryAs (cat : Str → Option Bool) (i : Nat) (mb ms : SM) : SM := fun σ h => match mb σ h with
  | .exc x σ1 h1 => (match cat x.c with
    | some true => freed i (ms (σ1.set i (some (.exn x.c x.fs))) h1)
    | some false => .exc x σ1 h1
    | none => .bad)
  | o => o
section
variable {X : Cx} {C : Cf} {W : WX} {b n : Str} {i : Nat} {cat : Str → Option Bool} {body suite : List Stmt} {b₀ : Stmt} {np pos pos' : Pos} {mb ms : SM}
theorem ms_try (hK : X.K = C.K) (hs : X.stack = X.env :: X.outer) (hf : X.env.frame = some X.env.locals) (hN : X.N.Nodup) (hi : X.N[i]? = some n) (hln : X.env.kindOf n = some .local) (hc : Names X b (.ref (He.ga C.K b))) (tk : Takes X W)
    (hcat : ∀ c r, cat c = some r → PySem.W.exmOne C.K (.ref (He.ga C.K c)) (.ref (He.ga C.K b)) = some r)
    (hb : ∀ (W' : WX) (pn : List (Addr × Obj)) (xe : Value → Shared → Prop), Takes (X.tr pn xe) W' → PassesOwn (model X.prog X.w) X.A X.env xe → MSs (X.tr pn xe) C none W' body mb)
    (hsu : ∀ (a : Addr) (oe : Obj) (c : Str) (d : Option Addr) (pn : List (Addr × Obj)), Zc (.ref (He.ga C.K c)) d oe → (∃ vs, oe.data = .fields vs) → MSs (X.suite a ((a, oe) :: pn)) C (some (a, c, d)) (fun _ _ _ _ => False) (b₀ :: suite) ms) :
    MS X C none W (.Try body [.ExceptHandler (some (.Name b np)) (some n) (b₀ :: suite) pos'] [] [] pos) (tryAs cat i mb ms) := by
  refine (ps_try_as (i := i) (c := .ref (He.ga C.K b)) (tb := fun W' => tS C none W' mb) (ts := fun a cls d => fun D σ H => ∃ c, cls = .ref (He.ga C.K c) ∧ tS C (some (a, c, d)) (fun _ _ _ _ => False) ms D σ H) (Wout := W) hs hf hN hi hln hc tk (fun W' pn xe t pw => hb W' pn xe t pw)
    (fun a oe cls d pn hz hd => ⟨fun pins s σ H D I h => by
      obtain ⟨c, rfl, h⟩ := h
      exact (hsu a oe c d pn hz hd).run pins s σ H D I h⟩)).imp fun D σ H h => ?_
  obtain ⟨s, dσ, rfl, ex, g, rs, h⟩ := h
  refine ⟨s, dσ, rfl, ex, g, rs, ?_⟩
  unfold tryAs at h
  cases q : mb dσ s.ah with
  | nx => rw [q] at h; exact h
  | rt => rw [q] at h; exact h
  | bk => rw [q] at h; exact h
  | ct => rw [q] at h; exact h
  | bad => rw [q] at h; exact h
  | exc x σ1 h1 =>
    rw [q] at h
    dsimp only at h
    intro s' σ' od e1 f1 g1 rs1 xr
    subst e1
    cases hcx : cat x.c with
    | none => rw [hcx] at h; exact h.elim
    | some r =>
      refine ⟨r, by rw [hK]; exact hcat _ _ hcx, fun hr a ha => ?_, fun hr => ?_⟩
      · subst hr
        rw [hcx] at h
        dsimp only at h
        have n1 : s'.ρ.x = none := f1.rho.x.trans ex
        refine ⟨x.c, rfl, s'.hold (some (a, x.c, od)), σ1.set i (some (.exn x.c x.fs)), rfl, rfl, g1.hold n1, (rs1.hold n1).set ?_, ?_⟩
        · unfold R
          refine ⟨a, od, rfl, rfl, ?_⟩
          rcases xr with z | ⟨d, gs, e1, e2, e3⟩
          · exact .inl z
          · exact .inr ⟨d, gs, e1, e2, e3.hold n1⟩
        · show PostS C _ _ _ (ms _ s'.ah)
          cases q2 : ms (σ1.set i (some (.exn x.c x.fs))) s'.ah with
          | nx σ2 h2 =>
            rw [q2] at h
            unfold freed at h
            dsimp only at h
            split at h
            · rename_i p
              intro s3 σ3 e3 f3 g3 rs3
              subst e3
              exact h (s3.hold none) _ rfl (f1.trans (f3.hold n1)) (g3.let p.2) (RS.let rs3.unset p.1)
            · exact h.elim
          | bk σ2 h2 =>
            rw [q2] at h
            unfold freed at h
            dsimp only at h
            split at h
            · rename_i p
              intro s3 σ3 e3 f3 g3 rs3
              subst e3
              exact h (s3.hold none) _ rfl (f1.trans (f3.hold n1)) (g3.let p.2) (RS.let rs3.unset p.1)
            · exact h.elim
          | ct σ2 h2 =>
            rw [q2] at h
            unfold freed at h
            dsimp only at h
            split at h
            · rename_i p
              intro s3 σ3 e3 f3 g3 rs3
              subst e3
              exact h (s3.hold none) _ rfl (f1.trans (f3.hold n1)) (g3.let p.2) (RS.let rs3.unset p.1)
            · exact h.elim
          | rt d h2 =>
            rw [q2] at h
            unfold freed at h
            dsimp only at h
            split at h
            · rename_i p
              intro s3 v e3 f3 g3 r3
              subst e3
              exact h (s3.hold none) v rfl (f1.trans (f3.hold n1)) (g3.let p.2) (R.pure REq.hold p.1 r3)
            · exact h.elim
          | exc => rw [q2] at h; exact h.elim
          | bad => rw [q2] at h; exact h.elim
      · subst hr
        rw [hcx] at h
        exact h s' σ' od rfl f1 g1 rs1 xr
end
end Ws

set_option Elab.async false
set_option linter.all false
set_option maxRecDepth 100000
set_option maxHeartbeats 2000000
set_option autoImplicit false
/-! enumerate of texts and tuples -/
namespace PySem
theorem meets_enum1 {v : Value} {o : Obj} {H : Heap → Prop} (B : Begins v o H) :
    Meets (Builtin.«enumerate.__new__» ⟨[.type "enumerate", v], []⟩) (fun _ R s => H s.heap ∧
      R (.ok (.ret (.ref (s.heap.push o).objs.size))) { s with heap := (s.heap.push o).push { cls := .type "enumerate", data := .fields #[.none, .bool false, .ref s.heap.objs.size, rawInt 0, .none, .none] } }) :=
  .of_wp fun prog w A R s h => by
    obtain ⟨hp, g, d, tk, os⟩ := s; obtain ⟨h1, h⟩ := h
    have hsub := sub_enumerate
    have q1 : ∀ {A' : Around} {E : Value → Shared → Prop} {Q : Value → Shared → Prop}, Q (.ref hp.objs.size) ⟨(hp.push o), g, d, tk, os⟩ → wpAny (model prog w) A' (pyIter v) Q E ⟨hp, g, d, tk, os⟩ :=
      fun q => B.iter prog w _ _ ⟨hp, g, d, tk, os⟩ _ (B.keeps _ _ h1 fun b o' e => e) q
    wp_walk
    refine wpAny_stack_any fun st => wpAny_pure ?_
    split
    · rename_i c _ _ _ _ _
      cases (c == Value.type "enumerate")
      · wp_walk using q1
        exact ⟨_, rfl, h⟩
      · wp_walk using q1
        exact ⟨_, rfl, h⟩
    · wp_walk using q1
      exact ⟨_, rfl, h⟩
theorem enum_begins1 {prog : Program} {w : World} {A : Around} {E : Value → Shared → Prop} {s : Shared} {v : Value} {o : Obj} {H : Heap → Prop} {Q : Value → Shared → Prop} (B : Begins v o H) (h1 : H s.heap)
    (h : ∀ h', IsEnum h' (s.heap.objs.size + 1) s.heap.objs.size 0 .none → h'.get? s.heap.objs.size = some o → h'.objs.size = s.heap.objs.size + 2 →
      (∀ b o, s.heap.get? b = some o → h'.get? b = some o) → Q (.ref (s.heap.objs.size + 1)) { s with heap := h' }) :
    wpAny (model prog w) A (call (.type "enumerate") [v]) Q E s := by
  refine callType_new F.called_enumerate (by decide) (F.typeCall_enumerate_1 _) (F.newCall_enumerate_1 _) (fun obj => F.args_object_init_2 obj _) F.entry_enumerate_new (meets_enum1 B) ⟨h1, ?_⟩
  have hz : (s.heap.push o).objs.size = s.heap.objs.size + 1 := Heap.size_push ..
  show _ ∧ _
  rw [hz]
  have he : IsEnum ((s.heap.push o).push { cls := .type "enumerate", data := .fields #[.none, .bool false, .ref s.heap.objs.size, rawInt 0, .none, .none] }) (s.heap.objs.size + 1) s.heap.objs.size 0 .none := by
    have := Heap.get?_push_size (s.heap.push o) (o := { cls := .type "enumerate", data := .fields #[.none, .bool false, .ref s.heap.objs.size, rawInt 0, .none, .none] }) rfl
    rw [hz] at this; exact this
  exact ⟨⟨_, he, rfl⟩, h _ he (Heap.get?_push_of_some _ (Heap.get?_push_size _ B.free)) (by rw [Heap.size_push, hz]) fun b o x => Heap.get?_push_of_some _ (Heap.get?_push_of_some _ x)⟩
end PySem
namespace Ws
open PySem PySem.Spec L2
/-- a text's signs, each in a new pair -/
def IteS (x : Str) : It := ⟨fun i _ => i < x.cps.size, fun i H v H' => ∃ T c, v = .ref T ∧ H T = none ∧ H' = upd H T (.tup [.int (i : Nat), .str ⟨#[c]⟩]) ∧ x.cps[i]? = some c, fun i _ => x.cps.size ≤ i⟩
def IteT (K : PySem.W.Frag) (a : Addr) : It :=
  ⟨fun i H => ∃ (xs : List V) (x : V), SqT K H a xs ∧ xs[i]? = some x, fun i H v H' => ∃ T x, v = .ref T ∧ H T = none ∧ H' = upd H T (.tup [.int (i : Nat), x]) ∧ ∀ xs, SqT K H a xs → xs[i]? = some x, fun i H => ∃ xs : List V, SqT K H a xs ∧ xs.length ≤ i⟩
section
variable {P : Program} {w : World} {K : PySem.W.Frag} {elts : List Expr} {kk : Nat} {tpos : Pos}
/-- the pair behind the turn of an enumerate -/
theorem enum_pair {X : Cx} {pins : List (Addr × Obj)} {σ : L2.St} {H : Hp} {s : Shared} {e it : Addr} {i tk tk2 : Nat} {h' : Heap} {u : Value} {x : V} {tn : Heap → Prop} {Q : Unit → Shared → Prop} {E : Value → Shared → Prop}
    (I : Inv X pins σ H s) (hf : ∀ b ∈ [e, it], FpOk X pins H b) (hel : e < s.heap.objs.size) (hil : it < s.heap.objs.size) (hne : e ≠ it) (ho : IsEnumOut h' e it ((i : Int) + 1) u s.heap.objs.size)
    (hT : h'.get? s.heap.objs.size = some { cls := .type "tuple", data := .seq #[.int i tk, u] }) (hk : ∀ b o, b ≠ e → b ≠ it → s.heap.get? b = some o → h'.get? b = some o) (ru : RelV x u)
    (hq : ∀ h'', (∃ old, IsEnum h'' e it ((i + 1 : Nat) : Int) old) → Heap.SameBut e h' h'' → Inv X pins σ (upd H s.heap.objs.size (.tup [.int (i : Nat), x])) { s with heap := h'', toks := tk2 } → (∀ b ∈ [e, it], upd H s.heap.objs.size (.tup [.int (i : Nat), x]) b = none) → Q () { s with heap := h'', toks := tk2 }) :
    wpAny (model X.prog X.w) X.A (letOwnedTupleGo (.Tuple elts kk tpos) (.ref e) (.ref s.heap.objs.size)) Q E { s with heap := h', toks := tk2 } := by
  refine wpAny_letOwnedTupleGo_enum (s := { s with heap := h', toks := tk2 }) ho fun h'' he' sb => ?_
  have hT2 : h''.get? s.heap.objs.size = some { cls := .type "tuple", data := .seq #[.int i tk, u] } := (sb.2 _ (Nat.ne_of_gt hel)).trans hT
  have new : ObjOk X.prog X.w (upd H s.heap.objs.size (.tup [.int (i : Nat), x])) h'' s.heap.objs.size (.tup [.int (i : Nat), x]) :=
    ⟨by show 2 ≤ sizeLine; decide, [.int i tk, u], .cons ⟨_, rfl⟩ (.cons ru .nil), ⟨_, hT2, rfl, _, rfl⟩⟩
  have I1 : Inv X pins σ (upd H s.heap.objs.size (.tup [.int (i : Nat), x])) { s with heap := h'', toks := tk2 } :=
    I.turnedNew (ch := [e, it]) (fun b ob hb q => (sb.2 b (fun z => hb (by simp [z]))).trans (hk b ob (fun z => hb (by simp [z])) (fun z => hb (by simp [z])) q)) hf (Nat.le_refl _) new
  refine hq h'' ⟨u, ?_⟩ sb I1 fun b hb => ?_
  · have e1 : ((i + 1 : Nat) : Int) = (i : Int) + 1 := by omega
    rw [e1]; exact he'
  · have hb' : b < s.heap.objs.size := by
      have e' : b = e ∨ b = it := by simpa using hb
      rcases e' with z | z
      · rw [z]; exact hel
      · rw [z]; exact hil
    rw [upd_ne (Nat.ne_of_lt hb')]
    exact (hf b hb).1
theorem turn_enumS (x : Str) (t : Tok) (e it : Addr) :
    Turn P w K (.Tuple elts kk tpos) (IteS x) [e, it] e (fun i h => (∃ old, IsEnum h e it ((i : Nat) : Int) old) ∧ h.IsStrIter it (strIterType x) x t i ∧ e ≠ it) where
  mem := by simp
  obj := fun i h st b hb => by
    obtain ⟨⟨old, he⟩, ⟨o, ho, hc, hd⟩, _⟩ := st
    have e' : b = e ∨ b = it := by simpa using hb
    rcases e' with z | z
    · rw [z]; exact ⟨_, he, fun v q => nomatch q⟩
    · rw [z]; exact ⟨o, ho, fun v q => by rw [hd] at q; cases q⟩
  keep := fun i h h' st k => let ⟨⟨old, he⟩, ⟨o, ho, r⟩, hne⟩ := st; ⟨⟨old, k e (by simp) _ he⟩, ⟨o, k it (by simp) o ho, r⟩, hne⟩
  item := by
    intro X hP hw hK hc i pins s σ H E I hf st hg
    subst hP hw hK
    obtain ⟨⟨old, he⟩, hit, hne⟩ := st
    have hel : e < s.heap.objs.size := Heap.lt_size he
    have hil : it < s.heap.objs.size := by obtain ⟨_, q, _⟩ := hit; exact Heap.lt_size q
    have D : Draws X.prog X.w X.A.in1 it [it] x.cps.size _ _ := Draws.text (show X.A.in1.handled = none from I.ok.hd hc) it x t
    refine wpAny_pyNext_enum_itemD D he hit hg hne (by simpa using hne) fun u h' tk hP ho hit' hT hsz hk => ?_
    obtain ⟨c, t2, hcx, rfl⟩ := hP
    refine ⟨_, rfl, ?_⟩
    exact enum_pair (x := .str ⟨#[c]⟩) (tn := fun _ => True) I hf hel hil hne ho hT hk ⟨_, rfl⟩ fun h'' he' sb I1 hn => ⟨.ref s.heap.objs.size, _, I1, rfl, ⟨_, c, rfl, I.hok.fresh (Nat.le_refl _), rfl, hcx⟩, ⟨he', by
      obtain ⟨o, ho, r⟩ := hit'
      exact ⟨o, (sb.2 it (Ne.symm hne)).trans ho, r⟩, hne⟩, hn⟩
  done := by
    intro X hP hw hK hc i pins s σ H E I hf st hg
    subst hP hw hK
    obtain ⟨⟨old, he⟩, hit, hne⟩ := st
    obtain ⟨f0, f1, f2, f3, f4, f5⟩ := hf it (by simp)
    have hx : x.cps[i]? = none := Array.getElem?_eq_none hg
    have hT : s.TypeIs (.ref e) "enumerate" := ⟨_, he, rfl⟩
    unfold pyNext
    refine wpAny_bind (wpAny_attempt (wpAny_callSpecial?_slot (name := Str.ofString "__next__") hT F.slot_enumerate_next
      (wpAny_call_entry F.slot_enumerate_next hT F.entry_enumerate_next ?_ (F.args_enumerate_next_1 _))))
    show wpAny _ _ (field (.ref e) 2 >>= _) _ _ _
    refine wpAny_bind (wpAny_field he rfl (x := .ref it) rfl ?_)
    have fin : ∀ {A : Around} (hh : A.handled = none) {Q : Value → Shared → Prop} {E : Value → Shared → Prop}, (∀ h' y, Heap.ExtBut it s.heap h' → (∃ o, h'.get? y = some o ∧ o.cls = .type "StopIteration") → E (.ref y) { s with heap := h' }) → wpAny (model X.prog X.w) A (Builtin.SmallTypes.nextOf (.ref it)) Q E s := fun {A} hh {Q E} hE => by
      cases ha : x.cps.all (· < 128)
      · simp only [strIterType, ha, Bool.false_eq_true, if_false] at hit
        exact wpAny_nextOf_wide_end hh hit hx hE
      · simp only [strIterType, ha, if_true] at hit
        exact wpAny_nextOf_ascii_end hh hit hx hE
    refine wpAny_bind (fin (A := X.A.in1) (show X.A.in1.handled = none from I.ok.hd hc) fun h' y he' hx' => ?_)
    obtain ⟨o, ho, hc⟩ := hx'
    refine wpAny_bind (wpAny_isInstance (T := "StopIteration") (b := true) ⟨o, ho, hc⟩ isSubtype_stop ?_)
    exact wpAny_pure ⟨rfl, I.turned (t' := s.toks) (fun b o hb q => he' b o hb q) f0 f1 f3 f4 f5⟩
  self := fun A i s Q E st h => let ⟨⟨_, he⟩, _⟩ := st; wpAny_pyIter_enum he h
/-- enumerate(a text) -/
def iEnumS (ta : TA) : TI := fun σ H R => ta σ H fun vs H1 => ∃ x, vs = [.str x] ∧ R (IteS x) H1
theorem pi_enumS {X : Cx} {e : Expr} {ta : TA} {p pos : Pos} (hg : Gl X "enumerate") (hm : X.mg "enumerate" = none) (ha : PA X [e] ta) (hs : starEach [e] X.env = [(false, eval e X.env)] := by rfl) :
    PI X (.Tuple elts kk tpos) (.Call (.Name "enumerate" p) [e] [] pos) (iEnumS ta) := by
  refine ⟨fun pins s σ H R I h => ?_⟩
  refine PyProof.Rows.Call_ (ld_blt I hg hm PyProof.Rows.boot_enumerate (PyProof.Rows.callWith_type1 (thn (ha.run pos pins s σ H _ I h) fun us s1 ⟨vs, H1, I1, r1, q1⟩ => ?_) hs rfl))
  obtain ⟨x, ex, q⟩ := q1
  subst ex
  cases r1 with
  | cons r rr =>
    cases rr
    obtain ⟨t, rfl⟩ := r
    refine enum_begins1 (begins_text x t) trivial fun h' he hit hsz hk => wpAny_pyIter_enum he ?_
    have I2 : Inv X pins σ H1 { s1 with heap := h' } := I1.kept (t' := s1.toks) hk
    refine ⟨s1.heap.objs.size + 1, [s1.heap.objs.size + 1, s1.heap.objs.size], _, _, H1, rfl, I2, turn_enumS x t (s1.heap.objs.size + 1) s1.heap.objs.size, ⟨⟨.none, he⟩, ⟨_, hit, rfl, rfl⟩, Nat.succ_ne_self _⟩, fun b hb => ?_, q⟩
    have e' : b = s1.heap.objs.size + 1 ∨ b = s1.heap.objs.size := by simpa using hb
    have hle : s1.heap.objs.size ≤ b := by
      rcases e' with z | z
      · rw [z]; exact Nat.le_add_right _ _
      · rw [z]; exact Nat.le_refl _
    exact I1.fpOk hle (I1.hok.fresh hle)
end
section
variable {X : Cx} {C : Cf} {s : Sx} {ε : Ep} {W : WX} {e : Expr} {mr : M (List D)} {p pos tpos : Pos} {elts : List Expr} {kk : Nat}
theorem Iter.enumS (x : Str) : Iter C s (enumD 0 (x.cps.toList.map sgn)) (IteS x) := fun t i ft gt => by
  refine ⟨fun hi => ?_, fun hi => ?_⟩
  · rw [enumD_length, List.length_map, Array.length_toList] at hi
    refine ⟨hi, fun v H' y => ?_⟩
    obtain ⟨T, c, rfl, hT, rfl, y⟩ := y
    have e1 : (x.cps.toList.map sgn)[i]? = some (sgn c) := by rw [List.getElem?_map, Array.getElem?_toList, y]; rfl
    obtain ⟨f2, g2, r2⟩ := pair_ok gt hT (show R C t.F t.ρ (.int (i : Nat)) (.int (i : Nat)) by unfold R; rfl) (show R C t.F t.ρ (sgn c) (.str ⟨#[c]⟩) by unfold sgn R; rfl)
    exact ⟨_, _, rfl, f2, g2, rfl, by rw [enumD_get 0 _ i _ e1, Nat.zero_add], r2⟩
  · rw [enumD_length, List.length_map, Array.length_toList] at hi
    exact hi
def enumT : List D → AH → Out (List D) := fun ds h => match ds with
  | [.str x] => .ok (enumD 0 (x.cps.toList.map sgn)) h
  | _ => .bad
theorem mi_enumS (hg : Gl X "enumerate") (hm : X.mg "enumerate" = none) (ha : MA X C ε W [e] mr) (hs : starEach [e] X.env = [(false, eval e X.env)] := by rfl) : MI X C ε W (.Tuple elts kk tpos) (.Call (.Name "enumerate" p) [e] [] pos) (walkA enumT mr) := (pi_enumS hg hm ha hs).imp fun σ H Q h => by
  obtain ⟨s, dσ, rfl, ex, g, rs, h⟩ := h
  refine Post.bind ex g rs h fun s1 d v e1 f1 g1 rs1 r1 h1 => ?_
  unfold enumT at h1
  split at h1
  · rename_i x
    obtain ⟨v1, rfl, r2⟩ := r1.one
    unfold R at r2
    subst r2
    exact ⟨x, rfl, Post.here g1 h1 (Iter.enumS x)⟩
  · exact h1.elim
/-- one of two ways to walk -/
def orI (a b : M (List D)) : M (List D) := fun σ h => match a σ h with
  | .bad => b σ h
  | o => o
theorem mi_or {tg : Expr} {a b : M (List D)} (ha : MI X C ε W tg e a) (hb : MI X C ε W tg e b) : MI X C ε W tg e (orI a b) := ⟨fun pins s σ H Q I h => by
  obtain ⟨sx, dσ, rfl, ex, gd, rs, h⟩ := h
  unfold orI at h
  cases q : a dσ sx.ah with
  | bad => rw [q] at h; exact hb.run pins s σ _ Q I ⟨sx, dσ, rfl, ex, gd, rs, h⟩
  | ok => rw [q] at h; exact ha.run pins s σ _ Q I ⟨sx, dσ, rfl, ex, gd, rs, (by rw [q]; exact h)⟩
  | exc => rw [q] at h; exact ha.run pins s σ _ Q I ⟨sx, dσ, rfl, ex, gd, rs, (by rw [q]; exact h)⟩⟩
end
end Ws

set_option Elab.async false
set_option linter.all false
set_option maxRecDepth 100000
set_option maxHeartbeats 2000000
set_option autoImplicit false
namespace Ws
open PySem PySem.Spec PyProof.Rows L2
/-! ### C() without an own __init__ -/
structure MkO (K : PySem.W.Frag) (cA : Addr) : Prop where
  makes : PySem.W.makesIn K cA = true
  init : PySem.W.findIn K (.ref cA) "__init__" = some (some (.builtin "object.__init__"))
  obj : PySem.W.subIn K (.ref cA) (.type "object") = some true
  kp : PySem.W.keepIn K (.ref cA) = true
section
variable {X : Cx} {C : Cf} {ε : Ep} {W : WX} {c x : Str} {p pos : Pos}
theorem me_makeO (hK : X.K = C.K) (Mc : MkO X.K (He.ga X.K c)) (hg : Gl X x) (hm : X.mg x = some (.ref (He.ga X.K c))) (hdb : (x == ("__debug__" : Str)) = false := by decide) :
    ME X C ε W (.Call (.Name x p) [] [] pos) (cst (.ins c [])) := by
  refine ⟨fun pins s σ H Q I h => ?_⟩
  obtain ⟨sx, dσ, rfl, ex, gd, rs, h⟩ := h
  refine wpAny_Call_Name_kw (ld_glob I hg hm ?_ hdb)
  refine PySem.W.callWith_K0 I.kIn Mc.kp ?_
  have I2 := Inv.made (C := He.ga X.K c) I
  have e2 : ((s.heap.push PySem.W.emptyDict).push (PySem.W.instObj (He.ga X.K c) s.heap.objs.size)).get? (s.heap.objs.size + 1) = some (PySem.W.instObj (He.ga X.K c) s.heap.objs.size) := by
    have := Heap.get?_push_size (s.heap.push PySem.W.emptyDict) (o := PySem.W.instObj (He.ga X.K c) s.heap.objs.size) rfl
    rwa [Heap.size_push] at this
  have hd : sx.H s.heap.objs.size = none := I.hok.fresh (Nat.le_refl _)
  have hx : sx.H (s.heap.objs.size + 1) = none := I.hok.fresh (Nat.le_succ _)
  have ne : s.heap.objs.size ≠ s.heap.objs.size + 1 := Nat.ne_of_lt (Nat.lt_succ_self _)
  have hQ : Q (.ref (s.heap.objs.size + 1)) (upd (upd sx.H s.heap.objs.size (.own (s.heap.objs.size + 1))) (s.heap.objs.size + 1) (.ins (He.ga X.K c) s.heap.objs.size [])) := by
    have g1 := gd.fill (o := .own (s.heap.objs.size + 1)) hd (fun _ z => nomatch z)
    have hx1 : (sx.setp s.heap.objs.size (.own (s.heap.objs.size + 1))).H (s.heap.objs.size + 1) = none := by
      show upd sx.H _ _ _ = none
      rw [upd_ne (Ne.symm ne)]; exact hx
    have g2 := g1.frz (o := .ins (He.ga X.K c) s.heap.objs.size []) hx1
    have f1 : Fwd sx (sx.setp s.heap.objs.size (.own (s.heap.objs.size + 1))) := (Fwd.refl sx).setp hd
    have f2 := f1.trans (Fwd.frz (o := .ins (He.ga X.K c) s.heap.objs.size []) g1 hx1)
    exact h ((sx.setp s.heap.objs.size (.own (s.heap.objs.size + 1))).frz (s.heap.objs.size + 1) (.ins (He.ga X.K c) s.heap.objs.size [])) (.ref (s.heap.objs.size + 1)) rfl f2 g2 (by
      show R C _ _ (.ins c []) _
      unfold R
      exact ⟨_, s.heap.objs.size, [], rfl, (by rw [← hK]; exact upd_same), by unfold Rf; rfl⟩)
  refine wpAny_call (make_map0 I.kIn Mc.makes Mc.init (fun self => PySem.W.Looks.of_pure (PySem.W.oi_bind self)) ?_)
  have t1 : PySem.W.Looks (model X.prog X.w) ((s.heap.push PySem.W.emptyDict).push (PySem.W.instObj (He.ga X.K c) s.heap.objs.size)) (isInstance (.ref (s.heap.objs.size + 1)) (.type "object")) true :=
    PySem.W.Looks.andThen (a := Value.ref (He.ga X.K c)) (fun A Q E s k q => wpAny_typeOf_ref (k _ _ e2) q) (PySem.W.looks_subIn I2.kIn Mc.obj)
  obtain ⟨hp, g, d, t, os⟩ := s
  refine codeAny_call_builtin PySem.W.oi_plain PySem.W.entry_oi (@PySem.W.check_slot (model X.prog X.w) _ _ ⟨(hp.push PySem.W.emptyDict).push (PySem.W.instObj (He.ga X.K c) hp.objs.size), g, d, t, os⟩ "object.__init__" "object" "__init__" (.ref (hp.objs.size + 1)) [] [] _ PySem.W.oi_kind PySem.W.oi_split t1 (PySem.W.oi_args (.ref (hp.objs.size + 1))) ?_)
  rw [PySem.W.oi_run]
  refine wpAny_pure ?_
  exact ⟨rfl, ⟨V.ref (hp.objs.size + 1), _, I2, rfl, hQ⟩⟩
end
end Ws

set_option Elab.async false
set_option linter.all false
set_option maxRecDepth 100000
set_option maxHeartbeats 2000000
set_option autoImplicit false
/-! facts of the head, as Bool checks -/
namespace Ws
open PySem PySem.Spec PyProof.Rows L2
abbrev Chk := PySem.W.Frag → Bool
def obsB (fa : List Chk) (fn : List He.DefD) (K : PySem.W.Frag) : He.AlD := ((fa.all fun f => f K) && fn.all fun d => d.ok K, fn.map fun d => He.fnW K d.at_)
def SaysB (fa : List Chk) (fn : List He.DefD) (K : PySem.W.Frag) : Prop := obsB fa fn K = He.valD fn
def obsBG (n : Nat) (fa : List Chk) (fn : List He.DefD) (g : Addr → Option Obj) : He.AlD := obsB fa fn (He.frG g (He.asD g n))
def hookB (n : Nat) (fa : List Chk) (fn : List He.DefD) : PySem.W.Hook where
  α := He.AlD
  obs := fun s => obsBG n fa fn s.heap.get?
  val := fun _ => He.valD fn
  says := fun _ h => ∃ K : PySem.W.Frag, K.In h ∧ SaysB fa fn K
  of := fun _ _ e => ⟨_, He.frG_in, e⟩
  keeps := fun _ _ _ ⟨K, hK, c⟩ k => ⟨K, PySem.W.Frag.In.keeps hK k, c⟩
theorem obsBG_eq {n : Nat} {fa : List Chk} {fn : List He.DefD} {g : Addr → Option Obj} {s : Shared} (h : ∀ a, g a = s.heap.get? a) : obsBG n fa fn g = (hookB n fa fn).obs s := by
  have e : g = s.heap.get? := funext h
  rw [e] <;> rfl
section
variable {fa : List Chk} {fn : List He.DefD} {K : PySem.W.Frag}
theorem SaysB.fact (c : SaysB fa fn K) (i : Nat) {f : Chk} (h : fa[i]? = some f := by rfl) : f K = true := by
  have c1 := (He.ba (show ((fa.all fun f => f K) && fn.all fun d => d.ok K) = true from congrArg (fun z : He.AlD => z.1) c)).1
  exact List.all_eq_true.mp c1 f (List.mem_of_getElem? h)
theorem SaysB.def_ (c : SaysB fa fn K) (i : Nat) {d : He.DefD} (h : fn[i]? = some d := by rfl) : ∃ fd, FunD K d.name d.qual d.params d.body d.scope (d.dvs K) (d.kws K) (He.fAd K d.at_) fd := by
  have c2 := (He.ba (show ((fa.all fun f => f K) && fn.all fun d => d.ok K) = true from congrArg (fun z : He.AlD => z.1) c)).2
  have e : fn.map (fun d => He.fnW K d.at_) = fn.map He.DefD.val := congrArg (fun z : He.AlD => z.2) c
  have e2 : (fn.map fun d => He.fnW K d.at_)[i]? = (fn.map He.DefD.val)[i]? := by rw [e]
  rw [List.getElem?_map, List.getElem?_map, h] at e2
  exact He.DefD.funD (Option.some.inj e2) (List.all_eq_true.mp c2 d (List.mem_of_getElem? h))
end
/-! ### the checks -/
def cFa (f : He.Fa) : Chk := fun K => f.ok K
def cFn (c m : Str) : Chk := fun K => decide (PySem.W.typeIn K (.ref (He.ma K (He.ga K c) m)) = some (.type "function"))
def cIns (x : Str) : Chk := fun K => (He.Fa.cls x).ok K && (He.eqO (PySem.W.findIn K (.ref (He.ga K x)) "__class__") (some (some (.builtin "object.__class__"))) && (decide (PySem.W.specialIn K (.builtin "object.__class__") "__get__" = some (some (.builtin "getset_descriptor.__get__"))) &&
  (decide (PySem.W.takesIn K (.builtin "object.__class__") = some true) && decide (PySem.W.mroIn K (He.ga K x) (.type "object") = some true))))
def cExc (x : Str) : Chk := fun K => He.eqO (PySem.W.findIn K (.ref (He.ga K x)) "__getattribute__") (some (some (.builtin "BaseException.__getattribute__"))) && (He.eqO (PySem.W.findIn K (.ref (He.ga K x)) "__getattr__") (some none) && (decide (PySem.W.subIn K (.ref (He.ga K x)) (.type "BaseException") = some true) && (PySem.W.hasDictIn K (He.ga K x) &&
  (He.eqO (PySem.W.findIn K (.ref (He.ga K x)) "__class__") (some (some (.builtin "object.__class__"))) && (decide (PySem.W.specialIn K (.builtin "object.__class__") "__get__" = some (some (.builtin "getset_descriptor.__get__"))) &&
  (decide (PySem.W.takesIn K (.builtin "object.__class__") = some true) && decide (PySem.W.mroIn K (He.ga K x) (.type "object") = some true)))))))
def cMko (x : Str) : Chk := fun K => PySem.W.makesIn K (He.ga K x) && (He.eqO (PySem.W.findIn K (.ref (He.ga K x)) "__init__") (some (some (.builtin "object.__init__"))) && (decide (PySem.W.subIn K (.ref (He.ga K x)) (.type "object") = some true) && PySem.W.keepIn K (.ref (He.ga K x))))
def cRefs (bm : List Value) : Bool := PySem.HandSPX.refsVE bm
def cOexO (K : PySem.W.Frag) (C : Addr) : Bool := match K.lookup C with
  | some ⟨.type "type", _, .cls cd, sl⟩ => (match cd.mro, sl.toList with
    | .ref C' :: bm, [_, _, _, _, some (.builtin n), _] => C' == C && (n == "ValueError.__new__" && (!cd.hasDel && (cd.hasDict && PySem.HandSPX.refsVE bm)))
    | _, _ => false)
  | _ => false
def cOex (x : Str) : Chk := fun K => cOexO K (He.ga K x) && (He.eqO (PySem.W.findIn K (.ref (He.ga K x)) "__setattr__") (some (some (.builtin "object.__setattr__"))) && (decide (PySem.W.subIn K (.ref (He.ga K x)) (.type "BaseException") = some true) && (decide (PySem.W.typeIn K (.ref (He.ga K x)) = some (.type "type")) && PySem.W.keepIn K (.ref (He.ga K x)))))
def cNo (x y : Str) : Chk := fun K => He.eqO (PySem.W.findIn K (.ref (He.ga K x)) y) (some none)
def cXf (cs : List Str) (y : Str) : Chk := fun K => cs.all fun c => xfB K (He.ga K c) && cNo c y K
/-- B.__init__ is ValueError's -/
def cBase (b : Str) : Chk := fun K => decide (PySem.W.specialIn K (.ref (He.ga K b)) "__getattribute__" = some (some (.builtin "type.__getattribute__"))) && (PySem.W.readsIn K (He.ga K b) (.type "type") && (match PySem.W.findCls K (.ref (He.ga K b)) (.type "type") "__init__" with
  | some (.val (.builtin n)) => n == "ValueError.__init__"
  | _ => false))
def cKit (kt : Kit) : Chk := fun K => (kt.tys.all fun t => match t with
  | .c c => cIns c K
  | _ => true) && kt.tys.all fun t => kt.cls.all fun c => decide (PySem.W.kitOne K (t.v K) (c.v K) = some (kt.sub t c))
def cEkit (kt : Kit) : Chk := fun K => (kt.tys.all fun t => match t with
  | .c c => cExc c K
  | _ => true) && kt.tys.all fun t => kt.cls.all fun c => decide (PySem.W.kitOne K (t.v K) (c.v K) = some (kt.sub t c))
def cCat (b : Str) (ps : List (Str × Bool)) : Chk := fun K => ps.all fun p => decide (PySem.W.exmOne K (.ref (He.ga K p.1)) (.ref (He.ga K b)) = some p.2)
def cHas (cs : List Str) (y : Str) : Chk := fun K => cs.all fun c => (He.Fa.cls c).ok K && (He.Fa.noat c y).ok K
def cNotF (c : Str) (kt : Kit) : Chk := fun K => kt.tys.all fun t => PySem.W.notFirst K (He.ga K c) (t.v K)
section
variable {K : PySem.W.Frag}
theorem ins_ok {x : Str} (c : cIns x K = true) : InsT K x := by
  obtain ⟨c1, c⟩ := He.ba c
  obtain ⟨c2, c⟩ := He.ba c
  obtain ⟨c3, c⟩ := He.ba c
  obtain ⟨c4, c5⟩ := He.ba c
  exact ⟨He.cls_ok c1, He.eqO_ok c2, of_decide_eq_true c3, of_decide_eq_true c4, of_decide_eq_true c5⟩
theorem exc_ok {x : Str} (c : cExc x K = true) : ExcC K (He.ga K x) := by
  obtain ⟨c1, c⟩ := He.ba c
  obtain ⟨c2, c⟩ := He.ba c
  obtain ⟨c3, c⟩ := He.ba c
  obtain ⟨c4, c⟩ := He.ba c
  obtain ⟨c5, c⟩ := He.ba c
  obtain ⟨c6, c⟩ := He.ba c
  obtain ⟨c7, c8⟩ := He.ba c
  exact ⟨He.eqO_ok c1, He.eqO_ok c2, of_decide_eq_true c3, c4, He.eqO_ok c5, of_decide_eq_true c6, of_decide_eq_true c7, of_decide_eq_true c8⟩
theorem mko_ok {x : Str} (c : cMko x K = true) : MkO K (He.ga K x) := by
  obtain ⟨c1, c⟩ := He.ba c
  obtain ⟨c2, c⟩ := He.ba c
  obtain ⟨c3, c4⟩ := He.ba c
  exact ⟨c1, He.eqO_ok c2, of_decide_eq_true c3, c4⟩
theorem oexO_ok {C : Addr} (q : cOexO K C = true) : ∃ nm q N bs bm sn sub ab col dd k0 k1 k2 k3 k5, K.lookup C = some (excClassObj nm q C N bs bm true sn sub ab col dd k0 k1 k2 k3 k5 "ValueError.__new__") ∧ PySem.HandSPX.refsVE bm = true := by
  unfold cOexO at q
  split at q
  · rename_i dd cd sl ho
    split at q
    · rename_i C' bm k0 k1 k2 k3 n k5 hm hs
      simp only [Bool.and_eq_true, beq_iff_eq, Bool.not_eq_true'] at q
      obtain ⟨rfl, rfl, hdel, hdc, hr⟩ := q
      obtain ⟨nm, bs, mro, ns, qn, hd, sn, sub, ab, col, del⟩ := cd
      dsimp only at hm hdel hdc
      subst hm hdel hdc
      have hsl : sl = #[k0, k1, k2, k3, some (.builtin "ValueError.__new__"), k5] := by
        obtain ⟨l⟩ := sl
        simp only at hs
        rw [hs]
      subst hsl
      exact ⟨nm, qn, ns, bs, bm, sn, sub, ab, col, dd, k0, k1, k2, k3, k5, ho, hr⟩
    · cases q
  · cases q
theorem oex_ok {x : Str} (c : cOex x K = true) : OexC K (He.ga K x) := by
  obtain ⟨c1, c⟩ := He.ba c
  obtain ⟨c2, c⟩ := He.ba c
  obtain ⟨c3, c⟩ := He.ba c
  obtain ⟨c4, c5⟩ := He.ba c
  exact ⟨oexO_ok c1, He.eqO_ok c2, of_decide_eq_true c3, of_decide_eq_true c4, c5⟩
theorem no_ok {x y : Str} (c : cNo x y K = true) : PySem.W.findIn K (.ref (He.ga K x)) y = some none := He.eqO_ok c
theorem xf_ok {cs : List Str} {y c : Str} (h : cXf cs y K = true) : c ∈ cs → XfC K (He.ga K c) ∧ PySem.W.findIn K (.ref (He.ga K c)) y = some none := fun hc => by
  obtain ⟨h1, h2⟩ := He.ba (List.all_eq_true.mp h c hc)
  exact ⟨xfB_ok h1, no_ok h2⟩
theorem kit_ok {kt : Kit} (h : cKit kt K = true) : KitOk K kt := by
  obtain ⟨h1, h2⟩ := He.ba h
  exact ⟨fun c hc => ins_ok (List.all_eq_true.mp h1 _ hc), fun t ht c hc => of_decide_eq_true (List.all_eq_true.mp (List.all_eq_true.mp h2 t ht) c hc)⟩
theorem ekit_ok {kt : Kit} (h : cEkit kt K = true) : EKit K kt := by
  obtain ⟨h1, h2⟩ := He.ba h
  exact ⟨fun c hc => exc_ok (List.all_eq_true.mp h1 _ hc), fun t ht c hc => of_decide_eq_true (List.all_eq_true.mp (List.all_eq_true.mp h2 t ht) c hc)⟩
theorem mem_lookup {α : Type} {c : Str} {r : α} : ∀ {ps : List (Str × α)}, ps.lookup c = some r → (c, r) ∈ ps
  | [], e => by cases e
  | (x, y) :: ps, e => by
    rw [List.lookup_cons] at e
    split at e
    · rename_i h
      cases e
      rw [beq_iff_eq.mp h]
      exact List.mem_cons_self ..
    · exact List.mem_cons_of_mem _ (mem_lookup e)
theorem cat_ok {b : Str} {ps : List (Str × Bool)} (h : cCat b ps K = true) : ∀ c r, ps.lookup c = some r → PySem.W.exmOne K (.ref (He.ga K c)) (.ref (He.ga K b)) = some r := fun c r e =>
  of_decide_eq_true (List.all_eq_true.mp h (c, r) (mem_lookup e))
theorem has_ok {X : Cx} {cs : List Str} {y : Str} (h : cHas cs y X.K = true) : HasF X cs y := fun c hc => by
  obtain ⟨h1, h2⟩ := He.ba (List.all_eq_true.mp h c hc)
  exact ⟨He.cls_ok h1, He.noat_ok h2⟩
theorem notF_ok {c : Str} {kt : Kit} (h : cNotF c kt K = true) : ∀ t ∈ kt.tys, PySem.W.notFirst K (He.ga K c) (t.v K) = true := fun t ht => List.all_eq_true.mp h t ht
theorem base_ok {b : Str} (h : cBase b K = true) : PySem.W.specialIn K (.ref (He.ga K b)) "__getattribute__" = some (some (.builtin "type.__getattribute__")) ∧ PySem.W.readsIn K (He.ga K b) (.type "type") = true ∧ PySem.W.findCls K (.ref (He.ga K b)) (.type "type") "__init__" = some (.val (.builtin "ValueError.__init__")) := by
  obtain ⟨h1, h⟩ := He.ba h
  obtain ⟨h2, h3⟩ := He.ba h
  refine ⟨of_decide_eq_true h1, h2, ?_⟩
  split at h3
  · rename_i n e
    rw [e, beq_iff_eq.mp h3]
  · cases h3
end
/-! ### methods of a class in the text -/
def clsDefs : Stmt → List Stmt
  | .ClassDef _ _ _ body _ _ _ _ _ _ _ => body
  | _ => []
end Ws

set_option Elab.async false
set_option linter.all false
set_option maxRecDepth 100000
set_option maxHeartbeats 2000000
set_option autoImplicit false
namespace Ws
open PySem PySem.Spec PyProof.Rows L2
/-! ### what is walked, whatever it is -/
def itemsA : D → AH → Out (List D) := fun d h => match d with
  | .lst xs => itemsL (.lst xs) h
  | .tup xs => itemsT (.tup xs) h
  | .str x => itemsS (.str x) h
  | d => itemsK d h
def enumA : List D → AH → Out (List D) := fun ds h => match ds with
  | [.str x] => enumT [.str x] h
  | ds => enumL ds h
section
variable {X : Cx} {C : Cf} {ε : Ep} {W : WX} {tg e : Expr} {me : M D} {mr : M (List D)} {p pos tpos : Pos} {elts : List Expr} {kk : Nat}
theorem mi_as {a b : M (List D)} (h : ∀ σ ah, b σ ah ≠ .bad → ∃ c : M (List D), c σ ah = b σ ah ∧ MI X C ε W tg e c) : MI X C ε W tg e b := ⟨fun pins s σ H Q I hh => by
  obtain ⟨sx, dσ, rfl, ex, gd, rs, hh⟩ := hh
  obtain ⟨c, ec, hc⟩ := h dσ sx.ah (fun z => by rw [z] at hh; exact hh)
  exact hc.run pins s σ _ Q I ⟨sx, dσ, rfl, ex, gd, rs, (by rw [ec]; exact hh)⟩⟩
theorem mi_any (hK : X.K = C.K) (he : ME X C ε W e me) : MI X C ε W tg e (walk itemsA me) := mi_as (a := walk itemsA me) fun σ ah hb => by
  unfold walk at hb ⊢
  cases q : me σ ah with
  | ok d h1 =>
    cases d with
    | lst xs => exact ⟨walk itemsL me, by unfold walk; rw [q]; rfl, mi_lst hK he⟩
    | tup xs => exact ⟨walk itemsT me, by unfold walk; rw [q]; rfl, mi_tup he⟩
    | str x => exact ⟨walk itemsS me, by unfold walk; rw [q]; rfl, mi_str he⟩
    | _ => exact ⟨walk itemsK me, by unfold walk; rw [q]; rfl, mi_keys he⟩
  | exc x h1 => exact ⟨walk itemsL me, by unfold walk; rw [q]; rfl, mi_lst hK he⟩
  | bad => rw [q] at hb; exact absurd rfl hb
theorem mi_enumA (hK : X.K = C.K) (hg : Gl X "enumerate") (hm : X.mg "enumerate" = none) (ha : MA X C ε W [e] mr) (hs : starEach [e] X.env = [(false, eval e X.env)] := by rfl) : MI X C ε W (.Tuple elts kk tpos) (.Call (.Name "enumerate" p) [e] [] pos) (walkA enumA mr) := mi_as (a := walkA enumA mr) fun σ ah hb => by
  unfold walkA at hb ⊢
  cases q : mr σ ah with
  | ok ds h1 =>
    match ds with
    | [.str x] => exact ⟨walkA enumT mr, by unfold walkA; rw [q]; rfl, mi_enumS hg hm ha hs⟩
    | [] => exact ⟨walkA enumL mr, by unfold walkA; rw [q]; rfl, mi_enum hK hg hm ha hs⟩
    | d :: e :: r => exact ⟨walkA enumL mr, by unfold walkA; rw [q]; cases d <;> rfl, mi_enum hK hg hm ha hs⟩
    | [.non] | [.bl _] | [.int _] | [.ty _] | [.glo _] | [.tup _] | [.lst _] | [.dct _] | [.dcT _] | [.ins _ _] | [.set _] | [.scr _] | [.cell _] | [.exn _ _] => exact ⟨walkA enumL mr, by unfold walkA; rw [q]; rfl, mi_enum hK hg hm ha hs⟩
  | exc x h1 => exact ⟨walkA enumL mr, by unfold walkA; rw [q]; rfl, mi_enum hK hg hm ha hs⟩
  | bad => rw [q] at hb; exact absurd rfl hb
end
/-- one of two, as a truth -/
def orT (a b : M Bool) : M Bool := fun σ h => match a σ h with
  | .bad => b σ h
  | o => o
theorem mt_orT {X : Cx} {C : Cf} {ε : Ep} {W : WX} {e : Expr} {a b : M Bool} (ha : MT X C ε W e a) (hb : MT X C ε W e b) : MT X C ε W e (orT a b) := ⟨fun pins s σ H Q I h => by
  obtain ⟨sx, dσ, rfl, ex, gd, rs, h⟩ := h
  unfold orT at h
  cases q : a dσ sx.ah with
  | bad => rw [q] at h; exact hb.run pins s σ _ Q I ⟨sx, dσ, rfl, ex, gd, rs, h⟩
  | ok => rw [q] at h; exact ha.run pins s σ _ Q I ⟨sx, dσ, rfl, ex, gd, rs, (by rw [q]; exact h)⟩
  | exc => rw [q] at h; exact ha.run pins s σ _ Q I ⟨sx, dσ, rfl, ex, gd, rs, (by rw [q]; exact h)⟩⟩
def catOf (ps : List (Str × Bool)) (c : Str) : Option Bool := ps.lookup c
/-! ### a comprehension's block -/
def blkB (N : List Str) (sc scope : Scope) (own : List (Str × Nat)) : Bool := (scope.names.all fun y => decide (scope.names.lookup y.1 = some y.2)) && ((own.all fun p => decide (N[p.2]? = some p.1)) && ((scope.names.all fun y => decide (y.2 ≠ .free) || (decide (sc.names.lookup y.1 = some .cell) || decide (sc.names.lookup y.1 = some .free))) &&
  scope.names.all fun y => decide (y.2 ≠ .local ∧ y.2 ≠ .cell) || (decide (y.1 ∈ own.map (·.1)) || decide (y.1 ∉ N))))
theorem blk_of {N : List Str} {sc scope : Scope} {own : List (Str × Nat)} (hk : scope.kind = .function) (h : blkB N sc scope own = true) : BlkOk N sc scope own := by
  obtain ⟨h1, h⟩ := He.ba h
  obtain ⟨h2, h⟩ := He.ba h
  obtain ⟨h3, h4⟩ := He.ba h
  refine ⟨hk, fun y hy => of_decide_eq_true (List.all_eq_true.mp h1 y hy), fun p hp => of_decide_eq_true (List.all_eq_true.mp h2 p hp), fun y hy e => ?_, fun y hy e => ?_⟩
  · have z := List.all_eq_true.mp h3 y hy
    simp only [Bool.or_eq_true, decide_eq_true_eq] at z
    rcases z with z | z
    · exact absurd e z
    · exact z
  · have z := List.all_eq_true.mp h4 y hy
    simp only [Bool.or_eq_true, decide_eq_true_eq] at z
    rcases z with z | z
    · rcases e with e | e
      · exact absurd e z.1
      · exact absurd e z.2
    · exact z
/-! ### how many a target takes -/
def TgLen (t : Tgs) (n : Nat) : Prop := ∀ ds dσ h, t ds dσ h ≠ .bad → ds.length = n
theorem tgl_nil : TgLen tgNil 0 := fun ds dσ h e => by
  cases ds with
  | nil => rfl
  | cons => exact absurd rfl e
theorem tgl_cons {i : Nat} {t : Tgs} {n : Nat} (k : TgLen t n) : TgLen (tgCons (tgN i) t) (n + 1) := fun ds dσ h e => by
  cases ds with
  | nil => exact absurd rfl e
  | cons d ds => exact congrArg Nat.succ (k ds _ _ e)
/-! ### methods and makers, the function found elsewhere -/
def cMeth (c m : Str) (p : Str × Option Str) : Chk := fun K => He.eqO (PySem.W.findIn K (.ref (He.ga K c)) m) (some (some (.ref (He.fAd K p)))) && (PySem.W.isFn K (.ref (He.fAd K p)) && PySem.W.keepIn K (.ref (He.fAd K p)))
def cMk (c : Str) (p : Str × Option Str) : Chk := fun K => PySem.W.makesIn K (He.ga K c) && (He.eqO (PySem.W.findIn K (.ref (He.ga K c)) "__init__") (some (some (.ref (He.fAd K p)))) && (PySem.W.isFn K (.ref (He.fAd K p)) && PySem.W.keepIn K (.ref (He.ga K c))))
def cOexI (c : Str) (p : Str × Option Str) : Chk := fun K => He.eqO (PySem.W.findIn K (.ref (He.ga K c)) "__init__") (some (some (.ref (He.fAd K p)))) && decide (PySem.W.typeIn K (.ref (He.fAd K p)) = some (.type "function"))
section
variable {K : PySem.W.Frag}
theorem meth_ok {c m : Str} {p : Str × Option Str} (h : cMeth c m p K = true) : Meth K (He.ga K c) m (He.fAd K p) := by
  obtain ⟨c1, h⟩ := He.ba h
  obtain ⟨c2, c3⟩ := He.ba h
  exact ⟨He.eqO_ok c1, c2, c3⟩
theorem mk_ok {c : Str} {p : Str × Option Str} (h : cMk c p K = true) : Mk K (He.ga K c) (He.fAd K p) := by
  obtain ⟨c1, h⟩ := He.ba h
  obtain ⟨c2, h⟩ := He.ba h
  obtain ⟨c3, c4⟩ := He.ba h
  exact ⟨c1, He.eqO_ok c2, c3, c4⟩
theorem oexI_ok {c : Str} {p : Str × Option Str} (h : cOexI c p K = true) : PySem.W.findIn K (.ref (He.ga K c)) "__init__" = some (some (.ref (He.fAd K p))) ∧ PySem.W.typeIn K (.ref (He.fAd K p)) = some (.type "function") := by
  obtain ⟨c1, c2⟩ := He.ba h
  exact ⟨He.eqO_ok c1, of_decide_eq_true c2⟩
theorem spM_law {C : Cf} {f : List D → AH → Out D} {H : Hp} {a : Addr} {ns : List Int} (hS : SqL C.K H a (ns.map V.int)) {h' : AH} (e : f [.scr ns] [] = .ok (.bl true) h') : spM C 1 f [.ref a] H (fun v _ => v = .bl true) fun _ _ _ => False := by
  refine ⟨⟨H, ⟨fun _ => none, none⟩, H, []⟩, [.scr ns], rfl, rfl, ⟨.refl _, fun _ _ e => e, fun n ob e => by simp [AH.get] at e, fun n m a k => by simp [AH.get] at k, fun _ _ => rfl⟩, ?_, rfl, ?_⟩
  · unfold Rs
    refine ⟨_, [], rfl, ?_, by unfold Rs; rfl⟩
    unfold R
    exact ⟨a, rfl, hS⟩
  · show Post C _ _ _ _ _ (f [.scr ns] [])
    rw [e]
    exact fun s' v _ _ _ r => r.bl_eq
end
/-- a def that lets nothing out -/
theorem fn_quiet {C : Cf} {mg : Str → Option Value} {base : Heap} {k n : Nat} {f : Addr} {fd : FuncData} {ps : List Str} {g : List D → AH → Out D} (F : FnOk C.P C.w C.K mg base (L2.CX C.P C.w) k f fd ps (spM C n g)) :
    FnOk C.P C.w C.K mg base (fun _ _ _ _ _ _ => False) k f fd ps (fun vs H Q _ => spM C n g vs H Q fun _ _ _ => False) := by
  refine ⟨fun vs H Q E h => F.len vs H Q _ h, fun A outer s H args us vs Q E hr he hb hv hs => ?_⟩
  refine codeAny_mono (F.run A outer s H args us vs Q _ hr he hb hv hs) fun r s' h => ?_
  cases r with
  | error e =>
    obtain ⟨_, _, _, _, _, _, _, _, _, _, _, _, z⟩ := h
    exact z.elim
  | ok fl => cases fl <;> exact h
theorem fun_same {K : PySem.W.Frag} {x x' qual qual' : Str} {params params' : Arguments} {body body' : List Stmt} {scope scope' : Scope} {dvs dvs' : List V} {kws kws' : List (Str × V)} {f : Addr} {fd fd' : FuncData} (F : FunD K x qual params body scope dvs kws f fd) (F' : FunD K x' qual' params' body' scope' dvs' kws' f fd') : fd = fd' := by
  obtain ⟨oc, od, dV, kV, doc, pm, an, cdv, ct, osl, e1, l1, _⟩ := F.ex
  obtain ⟨oc', od', dV', kV', doc', pm', an', cdv', ct', osl', e2, l2, _⟩ := F'.ex
  rw [l1] at l2
  injection l2 with l2
  injection l2 with a b c d
  injection c
end Ws

set_option Elab.async false
set_option linter.all false
set_option maxRecDepth 100000
set_option maxHeartbeats 2000000
set_option autoImplicit false
/-! plain facts about what is reckoned -/
namespace Ws
open PySem
/-! ### == -/
mutual
def fit : Nat → D → Bool
  | _, .non => true
  | _, .bl _ => true
  | _, .int _ => true
  | _, .str x => PyData.canLay0 (.str x)
  | n + 1, .tup xs => fits n xs
  | n + 1, .lst xs => fits n xs
  | _, _ => false
def fits : Nat → List D → Bool
  | _, [] => true
  | n, d :: ds => fit n d && fits n ds
end
mutual
theorem fit_py : ∀ {n : Nat} {d : D}, fit n d = true → ∃ p, toPy d = some p ∧ p.canLay0 = true ∧ p.depth ≤ n
  | n, .non, h => ⟨.none, by unfold toPy; rfl, by unfold PyData.canLay0; rfl, by unfold PyData.depth; omega⟩
  | n, .bl b, h => ⟨.bool b, by unfold toPy; rfl, by unfold PyData.canLay0; rfl, by unfold PyData.depth; omega⟩
  | n, .int b, h => ⟨.int b, by unfold toPy; rfl, by unfold PyData.canLay0; rfl, by unfold PyData.depth; omega⟩
  | n, .str b, h => ⟨.str b, by unfold toPy; rfl, by unfold fit at h; exact h, by unfold PyData.depth; omega⟩
  | n + 1, .tup xs, h => by
    unfold fit at h
    obtain ⟨ps, e, a, b⟩ := fits_py h
    exact ⟨.tuple ps, by unfold toPy; rw [e]; rfl, by unfold PyData.canLay0; exact a, by unfold PyData.depth; omega⟩
  | n + 1, .lst xs, h => by
    unfold fit at h
    obtain ⟨ps, e, a, b⟩ := fits_py h
    exact ⟨.list ps, by unfold toPy; rw [e]; rfl, by unfold PyData.canLay0; exact a, by unfold PyData.depth; omega⟩
  | 0, .tup xs, h => by unfold fit at h; cases h
  | 0, .lst xs, h => by unfold fit at h; cases h
  | n, .ty _, h | n, .glo _, h | n, .dct _, h | n, .dcT _, h | n, .ins _ _, h | n, .set _, h | n, .scr _, h | n, .cell _, h | n, .exn _ _, h => by unfold fit at h; cases h
theorem fits_py : ∀ {n : Nat} {d : List D}, fits n d = true → ∃ p, toPys d = some p ∧ PyData.canLayAll0 p = true ∧ PyData.depthAll p ≤ n
  | n, [], h => ⟨[], by unfold toPys; rfl, by unfold PyData.canLayAll0; rfl, by unfold PyData.depthAll; omega⟩
  | n, d :: ds, h => by
    unfold fits at h
    obtain ⟨h1, h2⟩ := Bool.and_eq_true_iff.mp h
    obtain ⟨p, e1, a1, b1⟩ := fit_py h1
    obtain ⟨ps, e2, a2, b2⟩ := fits_py h2
    exact ⟨p :: ps, by unfold toPys; rw [e1, e2], by unfold PyData.canLayAll0; rw [a1, a2]; rfl, by unfold PyData.depthAll; omega⟩
end
def eqB (x y : D) : Bool := match toPy x, toPy y with
  | some p, some q => PyData.eqv p q
  | _, _ => false
theorem gEq_of {x y : D} {h : AH} (hx : fit 64 (seen x h) = true) (hy : fit 64 (seen y h) = true) : gEqD x y h = .ok (.bl (eqB (seen x h) (seen y h))) h := by
  obtain ⟨p, e1, a1, b1⟩ := fit_py hx
  obtain ⟨q, e2, a2, b2⟩ := fit_py hy
  unfold gEqD eqB
  rw [e1, e2]
  have s1 : SeqAt.shaped p = true := by unfold SeqAt.shaped; rw [a1, decide_eq_true b1]; rfl
  have s2 : SeqAt.shaped q = true := by unfold SeqAt.shaped; rw [a2, decide_eq_true b2]; rfl
  simp only [s1, s2, Bool.and_self, if_true]
theorem eqB_self {n : Nat} {x : D} (hx : fit n x = true) : eqB x x = true := by
  obtain ⟨p, e1, a1, b1⟩ := fit_py hx
  unfold eqB
  rw [e1]
  first | exact PySem.eqv_refl p a1 | exact PySem.PyData.eqv_refl p a1 | exact PySem.SeqAt.eqv_refl p a1
theorem gEq_self {x y : D} {h : AH} (e : seen x h = seen y h) (hx : fit 64 (seen x h) = true) : gEqD x y h = .ok (.bl true) h := by
  rw [gEq_of hx (by rw [← e]; exact hx), ← e, eqB_self hx]
@[simp] theorem gEq_int (i j : Int) (h : AH) : gEqD (.int i) (.int j) h = .ok (.bl (decide (i = j))) h := by
  rw [gEq_of (by rfl) (by rfl)]
  simp [eqB, seen, toPy, PyData.eqv]
  by_cases e : i = j <;> simp [e]
theorem eqB_nil {n : Nat} {xs : List D} (hx : fits n xs = true) : eqB (.lst xs) (.lst []) = xs.isEmpty := by
  obtain ⟨ps, e, a, b⟩ := fits_py hx
  unfold eqB toPy
  rw [e]
  cases xs with
  | nil => unfold toPys at e; cases e; simp [toPys, PyData.eqv, PyData.eqvAll]
  | cons d ds =>
    unfold toPys at e
    split at e
    · cases e; simp [toPys, PyData.eqv, PyData.eqvAll]
    · cases e
theorem gEq_nil {xs : List D} {h : AH} (hx : fits 63 xs = true) : gEqD (.lst xs) (.lst []) h = .ok (.bl xs.isEmpty) h := by
  rw [gEq_of (by show fit 64 (.lst xs) = true; unfold fit; exact hx) (by rfl)]
  show Out.ok (D.bl (eqB (.lst xs) (.lst []))) h = _
  rw [eqB_nil hx]
theorem fits_all : ∀ {n : Nat} {xs : List D}, (∀ d ∈ xs, fit n d = true) → fits n xs = true
  | n, [], _ => by unfold fits; rfl
  | n, d :: ds, h => by
    unfold fits
    rw [h d (List.mem_cons_self ..), fits_all fun x hx => h x (List.mem_cons_of_mem _ hx)]; rfl
/-! ### for -/
theorem forGo_nil {tr : Sl → AH → Out Sl} {t : Tg} {m : SM} {σ : Sl} {h : AH} : forGo tr t m [] σ h = .nx σ h := rfl
/-- an invariant; the turns end by nx -/
theorem forGo_inv {t : Tg} {m : SM} (Inv : Nat → Sl → AH → Prop) : ∀ (ds : List D) (k : Nat) {σ : Sl} {h : AH}, Inv k σ h →
    (∀ j d σ h, ds[j]? = some d → Inv (k + j) σ h → ∃ σ1 h1 σ2 h2, t d σ h = .ok σ1 h1 ∧ m σ1 h1 = .nx σ2 h2 ∧ Inv (k + j + 1) σ2 h2) →
    ∃ σ' h', forGo keepAll t m ds σ h = .nx σ' h' ∧ Inv (k + ds.length) σ' h'
  | [], k, σ, h, i, _ => ⟨σ, h, rfl, i⟩
  | d :: ds, k, σ, h, i, st => by
    obtain ⟨σ1, h1, σ2, h2, e1, e2, i2⟩ := st 0 d σ h rfl i
    obtain ⟨σ', h', e3, i3⟩ := forGo_inv Inv ds (k + 1) (σ := σ2) (h := h2) i2 (fun j d' σ h e i => by
      have := st (j + 1) d' σ h (by simpa using e) (by rw [show k + (j + 1) = k + 1 + j by omega]; exact i)
      rw [show k + (j + 1) + 1 = k + 1 + j + 1 by omega] at this
      exact this)
    refine ⟨σ', h', ?_, by rw [show k + (d :: ds).length = k + 1 + ds.length by simp; omega]; exact i3⟩
    unfold forGo
    rw [e1]
    dsimp only
    rw [e2]
    exact e3
/-- each turn leaves all as it stood, but the slots js -/
theorem forGo_trim {t : Tg} {m : SM} {L : Nat} {js : List Nat} {σ : Sl} {h : AH} : ∀ {ds : List D}, (∀ d ∈ ds, ∃ σ1 h1 σ2 h2, t d σ h = .ok σ1 h1 ∧ m σ1 h1 = .nx σ2 h2 ∧ trim L js σ2 h2 = .ok σ h) → forGo (trim L js) t m ds σ h = .nx σ h
  | [], _ => rfl
  | d :: ds, st => by
    obtain ⟨σ1, h1, σ2, h2, e1, e2, e3⟩ := st d (List.mem_cons_self ..)
    unfold forGo
    rw [e1]
    dsimp only
    rw [e2]
    dsimp only
    rw [e3]
    exact forGo_trim fun x hx => st x (List.mem_cons_of_mem _ hx)
/-- a search: the first one that P holds of is handed back -/
theorem forGo_find {i : Nat} {m : SM} {P : D → Bool} {f : D → D} {h : AH} : ∀ {ds : List D} {σ : Sl}, (∀ d ∈ ds, m (σ.set i (some d)) h = if P d = true then .rt (f d) h else .nx (σ.set i (some d)) h) →
    forGo keepAll (tgN i) m ds σ h = match ds.find? P with
      | some d => .rt (f d) h
      | none => .nx (ds.foldl (fun s d => s.set i (some d)) σ) h
  | [], σ, _ => rfl
  | d :: ds, σ, st => by
    have e := st d (List.mem_cons_self ..)
    unfold forGo
    show (match m (σ.set i (some d)) h with | _ => _) = _
    rw [e]
    by_cases hp : P d = true
    · rw [if_pos hp, List.find?_cons_of_pos hp]
    · rw [if_neg hp, List.find?_cons_of_neg hp]
      dsimp only [keepAll, List.foldl]
      exact forGo_find fun x hx => by
        have := st x (List.mem_cons_of_mem _ hx)
        rw [List.set_set]
        exact this
theorem foldl_set_get {i j : Nat} (hij : i ≠ j) : ∀ (ds : List D) (σ : Sl), (ds.foldl (fun s d => s.set i (some d)) σ)[j]? = σ[j]?
  | [], σ => rfl
  | d :: ds, σ => by rw [List.foldl_cons, foldl_set_get hij ds, List.getElem?_set_ne hij]
/-! ### comprehensions -/
/-- nothing but the list comes of it -/
theorem lcGo_map {t : Tg} {c : M Bool} {e : M D} {σ : Sl} {h : AH} {f : D → Option D} : ∀ {ds acc : List D}, (∀ d ∈ ds, turnM t c e σ d h = .ok (f d) h) → acc.length + ds.length ≤ 1000000 → lcGo t c e σ ds acc h = .ok (acc ++ ds.filterMap f) h
  | [], acc, _, _ => by unfold lcGo; simp
  | d :: ds, acc, st, hl => by
    unfold lcGo
    rw [st d (List.mem_cons_self ..)]
    simp only [Out.bind_ok]
    simp only [List.length_cons] at hl
    cases q : f d with
    | none =>
      dsimp only
      rw [lcGo_map (f := f) (fun x hx => st x (List.mem_cons_of_mem _ hx)) (by omega), List.filterMap_cons_none q]
    | some y =>
      dsimp only
      rw [if_pos (by omega), lcGo_map (f := f) (fun x hx => st x (List.mem_cons_of_mem _ hx)) (by simp; omega), List.filterMap_cons_some q]
      simp
theorem lcGo_mapF {α : Type} {t : Tg} {c : M Bool} {e : M D} {σ : Sl} {h : AH} {g : α → D} {f : α → Option D} : ∀ {cs : List α} {acc : List D}, (∀ c' ∈ cs, turnM t c e σ (g c') h = .ok (f c') h) → acc.length + cs.length ≤ 1000000 → lcGo t c e σ (cs.map g) acc h = .ok (acc ++ cs.filterMap f) h
  | [], acc, _, _ => by simp [lcGo]
  | d :: ds, acc, st, hl => by
    rw [List.map_cons]
    unfold lcGo
    rw [st d (List.mem_cons_self ..)]
    simp only [Out.bind_ok]
    simp only [List.length_cons] at hl
    cases q : f d with
    | none =>
      dsimp only
      rw [lcGo_mapF (f := f) (fun x hx => st x (List.mem_cons_of_mem _ hx)) (by omega), List.filterMap_cons_none q]
    | some y =>
      dsimp only
      rw [if_pos (by omega), lcGo_mapF (f := f) (fun x hx => st x (List.mem_cons_of_mem _ hx)) (by simp; omega), List.filterMap_cons_some q]
      simp
theorem blsOf_map : ∀ bs : List Bool, blsOf (bs.map .bl) = some bs
  | [] => rfl
  | b :: bs => by simp [blsOf, blsOf_map bs]
/-- the heap goes on, by an invariant; every turn adds one thing of which P holds -/
theorem lcGo_inv {t : Tg} {c : M Bool} {e : M D} {σ : Sl} (Inv : AH → Prop) (P : D → Prop) : ∀ {ds acc : List D} {h : AH}, Inv h → (∀ d ∈ ds, ∀ h, Inv h → ∃ y h', turnM t c e σ d h = .ok (some y) h' ∧ Inv h' ∧ P y) → acc.length + ds.length ≤ 1000000 →
    (∀ y ∈ acc, P y) → ∃ ys h', lcGo t c e σ ds acc h = .ok ys h' ∧ Inv h' ∧ ys.length = acc.length + ds.length ∧ ∀ y ∈ ys, P y
  | [], acc, h, i, _, _, ha => ⟨acc, h, by unfold lcGo; rfl, i, by simp, ha⟩
  | d :: ds, acc, h, i, st, hl, ha => by
    obtain ⟨y, h1, e1, i1, p1⟩ := st d (List.mem_cons_self ..) h i
    simp only [List.length_cons] at hl
    obtain ⟨ys, h', e2, i2, l2, p2⟩ := lcGo_inv Inv P (ds := ds) (acc := acc ++ [y]) i1 (fun x hx => st x (List.mem_cons_of_mem _ hx)) (by simp; omega) (fun z hz => by
      rcases List.mem_append.mp hz with hz | hz
      · exact ha z hz
      · rw [List.mem_singleton.mp hz]; exact p1)
    refine ⟨ys, h', ?_, i2, by simp at l2 ⊢; omega, p2⟩
    unfold lcGo
    rw [e1]
    simp only [Out.bind_ok]
    rw [if_pos (by omega)]
    exact e2
/-! ### cells -/
theorem pureH_put {L : Nat} {ob : OB} : ∀ {h : AH} {n : Nat}, pureH L h = true → pureO L ob = true → pureH L (h.put n ob) = true
  | [], n, _, _ => by unfold AH.put; simp [pureH]
  | none :: r, 0, p, q => by
    unfold pureH at p
    unfold AH.put
    simp only [List.set_cons_zero]
    unfold pureH
    rw [q, p]; rfl
  | some x :: r, 0, p, q => by
    unfold pureH at p
    unfold AH.put
    simp only [List.set_cons_zero]
    unfold pureH
    rw [q, (Bool.and_eq_true_iff.mp p).2]; rfl
  | none :: r, n + 1, p, q => by
    unfold pureH at p
    unfold AH.put
    simp only [List.set_cons_succ]
    unfold pureH
    exact pureH_put (h := r) p q
  | some x :: r, n + 1, p, q => by
    unfold pureH at p
    unfold AH.put
    simp only [List.set_cons_succ]
    unfold pureH
    rw [(Bool.and_eq_true_iff.mp p).1]
    exact pureH_put (h := r) (Bool.and_eq_true_iff.mp p).2 q
theorem put_put {h : AH} {n : Nat} {a b : OB} : (h.put n a).put n b = h.put n b := by unfold AH.put; rw [List.set_set]
theorem put_len {h : AH} {n : Nat} {a : OB} : (h.put n a).length = h.length := by unfold AH.put; rw [List.length_set]
theorem get_put_same {h : AH} {n : Nat} {a b : OB} (e : h.get n = some a) : (h.put n b).get n = some b := by rw [AH.get_put (AH.get_lt e), if_pos rfl]
/-! ### one step -/
section
variable {a b k : SM} {σ σ' : Sl} {h h' : AH} {m : M D} {c : M Bool} {d : D} {i : Nat}
theorem seq_nx (e : a σ h = .nx σ' h') : seqS a b σ h = b σ' h' := by unfold seqS; rw [e]
theorem seq_asg (e : m σ h = .ok d h') : seqS (asg m (tgN i)) b σ h = b (σ.set i (some d)) h' := by unfold seqS asg; rw [e]; rfl
theorem asg_nx (e : m σ h = .ok d h') : asg m (tgN i) σ h = .nx (σ.set i (some d)) h' := by unfold asg; rw [e]; rfl
theorem seq_drop (e : m σ h = .ok d h') : seqS (Ws.drop m) b σ h = b σ h' := by unfold seqS Ws.drop; rw [e]; rfl
theorem seq_if_no (e : c σ h = .ok false h') : seqS (ifS c a skip) b σ h = b σ h' := by unfold seqS ifS; rw [e]; rfl
theorem if_no (e : c σ h = .ok false h') : ifS c a b σ h = b σ h' := by unfold ifS; rw [e]; rfl
theorem if_yes (e : c σ h = .ok true h') : ifS c a b σ h = a σ h' := by unfold ifS; rw [e]; rfl
theorem ret_ok (e : m σ h = .ok d h') : Ws.ret m σ h = .rt d h' := by unfold Ws.ret; rw [e]; rfl
theorem app_ok {g : List D → AH → Out D} {mr : M (List D)} {ds : List D} (e : mr σ h = .ok ds h') : app g mr σ h = g ds h' := by unfold app; rw [e]; rfl
theorem bin_ok {g : D → D → AH → Out D} {x y : M D} {u v : D} {h1 h2 : AH} (e1 : x σ h = .ok u h1) (e2 : y σ h1 = .ok v h2) : Ws.bin g x y σ h = g u v h2 := by unfold Ws.bin; rw [e1]; simp only [Out.bind_ok]; rw [e2]; rfl
theorem cons_ok {x : M D} {y : M (List D)} {u : D} {v : List D} {h1 h2 : AH} (e1 : x σ h = .ok u h1) (e2 : y σ h1 = .ok v h2) : consA x y σ h = .ok (u :: v) h2 := by unfold consA; rw [e1]; simp only [Out.bind_ok]; rw [e2]; rfl
theorem asB_ok {bb : Bool} (e : m σ h = .ok (.bl bb) h') : asB m σ h = .ok bb h' := by unfold asB; rw [e]; rfl
theorem notB_ok {bb : Bool} (e : c σ h = .ok bb h') : notB c σ h = .ok (!bb) h' := by unfold notB; rw [e]; rfl
theorem orB_no {c2 : M Bool} (e : c σ h = .ok false h') : orB c c2 σ h = c2 σ h' := by unfold orB; rw [e]; rfl
theorem fn_rt {n : Nat} {m : SM} {ds : List D} (e : m (startD n ds) h = .rt d h') (p : pureD h.length d = true) (q : pureH h.length (h'.take h.length) = true) : fn n m ds h = .ok d (h'.take h.length) := by
  unfold fn
  rw [e]
  show (if pureD h.length d = true ∧ pureH h.length (h'.take h.length) = true then Out.ok d (h'.take h.length) else .bad) = _
  rw [if_pos ⟨p, q⟩]
theorem fn_rt0 {n : Nat} {m : SM} {ds : List D} (e : m (startD n ds) [] = .rt d h') (p : pureD 0 d = true) : fn n m ds [] = .ok d [] := fn_rt (h := []) e p rfl
/-- at a call without cells -/
theorem cal_pure {n : Nat} {g : List D → AH → Out D} {ds : List D} {h0 : AH} (l : ds.length = n) (p : pureDs 0 ds = true) (e : g ds [] = .ok d h0) (q : pureD 0 d = true) : cal n [] g ds h = .ok d h := by
  unfold cal callN call
  rw [List.append_nil, if_pos l, if_pos p, e]
  show (if pureD 0 d = true then Out.ok d h else .bad) = _
  rw [if_pos q]
theorem cal_cell {n : Nat} {g : List D → AH → Out D} {ds : List D} (l : ds.length = n) (p : pureDs 0 ds = false) : cal n [] g ds h = g ds h := by
  unfold cal callN call
  rw [List.append_nil, if_pos l, if_neg (by rw [p]; exact Bool.false_ne_true)]
theorem walkA_ok {g : List D → AH → Out (List D)} {mr : M (List D)} {ds : List D} (e : mr σ h = .ok ds h') : walkA g mr σ h = g ds h' := by unfold walkA; rw [e]; rfl
theorem walk_ok {g : D → AH → Out (List D)} (e : m σ h = .ok d h') : walk g m σ h = g d h' := by unfold walk; rw [e]; rfl
theorem rng_nat {n : Nat} (hn : n < 1000000) (h : AH) : rng1 [.int n] h = .ok ((List.range n).map fun (i : Nat) => D.int (0 + (i : Int))) h := by
  unfold rng1
  dsimp only
  rw [if_pos (by omega), Int.toNat_natCast]
  simp only [Int.zero_add]
theorem for_at {mi : M (List D)} {t : Tg} {m : SM} {o : SOut} {ds : List D} (e : mi σ h = .ok ds h') (g : forGo keepAll t m ds σ h' = o) : forS mi t m σ h = o := by
  unfold forS
  rw [e]
  exact g
theorem lc_at {vs : List Nat} {mi : M (List D)} {t : Tg} {c : M Bool} {e : M D} {ds ys : List D} {h1 h2 : AH} (e1 : mi σ h = .ok ds h1) (e2 : lcGo t c e (wipeD σ vs) ds [] h1 = .ok ys h2) : lc vs mi t c e σ h = .ok (.lst ys) h2 := by
  unfold lc
  rw [e1]
  simp only [Out.bind_ok]
  rw [e2]
  rfl
end
end Ws

set_option Elab.async false
set_option linter.all false
set_option maxRecDepth 100000
set_option maxHeartbeats 4000000
set_option autoImplicit false
namespace Lk01
open PySem PySem.Spec PyProof.Rows L2 Ws
def top (i : Nat) : Stmt := PySem.Challenge.pw_wishshelf_k01_how_far_rules_aim.main.body.getD i (.Pass ⟨0, 0, 0, 0⟩)
def subs : List (Ty × Ty) := [(.b "bool", .b "int"), (.c "Front", .c "Rule"), (.c "By", .c "Rule"), (.c "Half", .c "Rule"), (.c "Like", .c "Rule")]
def kt : Kit := ⟨[.b "NoneType", .b "bool", .b "int", .b "str", .b "tuple", .b "list", .c "Rule", .c "Front", .c "By", .c "Half", .c "Like"], [.b "int", .b "bool", .c "Rule", .c "Half", .c "Front", .c "By", .c "Like"], fun t c => decide (t = c) || subs.contains (t, c)⟩
def esubs : List (Ty × Ty) := [(.c "ShelfError", .b "ValueError"), (.c "NoRule", .c "ShelfError"), (.c "NoRule", .b "ValueError"), (.c "NoThing", .c "ShelfError"), (.c "NoThing", .b "ValueError")]
def ekt : Kit := ⟨[.c "ShelfError", .c "NoRule", .c "NoThing"], [.c "NoRule", .b "ValueError", .c "NoThing"], fun t c => decide (t = c) || esubs.contains (t, c)⟩
def m_is_whole : SM := (seqS
  (ifS (orB (notB (asB (app (gIsi kt) (consA (var 0) (consA (cst (.ty "int")) nilA))))) (asB (app (gIsi kt) (consA (var 0) (consA (cst (.ty "bool")) nilA)))))
  (ret (cst (.bl false)))
  skip)
  (ret (andV (orV (bin gIs (var 1) (cst .non)) (bin gLe (var 1) (var 0))) (orV (bin gIs (var 2) (cst .non)) (bin gLe (var 0) (var 2))))))
def d_is_whole : List D → AH → Out D := fn 3 m_is_whole
def m_By_ZinitZ : SM := (seqS
  (ifS (notB (asB (app (cal 3 [] d_is_whole) (consA (var 1) (consA (cst (.int 0)) (consA (cst .non) nilA))))))
  (rz "NoRule")
  skip)
  (stf ["By"] "steps" (var 1) (var 0)))
def d_By_ZinitZ : List D → AH → Out D := fn 2 m_By_ZinitZ
def m__law_refused : SM := (seqS
  (asg (cst (.bl false)) (tgN 1))
  (seqS
  (tryAs (catOf [("ShelfError", true), ("NoRule", true), ("NoThing", true)]) 2
  (drop (app (makeN "By" 2 [] d_By_ZinitZ) (consA (var 0) nilA)))
  (asg (andV (app (gIsE ekt) (consA (var 2) (consA (cst (.glo "NoRule")) nilA))) (andV (app (gIsE ekt) (consA (var 2) (consA (cst (.ty "ValueError")) nilA))) (notV (app (gIsE ekt) (consA (var 2) (consA (cst (.glo "NoThing")) nilA)))))) (tgN 1)))
  (ret (var 1))))
def d__law_refused : List D → AH → Out D := fn 3 m__law_refused
def m_Front_same_class : SM := (ret (app (gIsi kt) (consA (var 1) (consA (cst (.glo "Front")) nilA))))
def d_Front_same_class : List D → AH → Out D := fn 2 m_Front_same_class
def m_By_same_class : SM := (ret (app (gIsi kt) (consA (var 1) (consA (cst (.glo "By")) nilA))))
def d_By_same_class : List D → AH → Out D := fn 2 m_By_same_class
def m_Half_same_class : SM := (ret (app (gIsi kt) (consA (var 1) (consA (cst (.glo "Half")) nilA))))
def d_Half_same_class : List D → AH → Out D := fn 2 m_Half_same_class
def m_Like_same_class : SM := (ret (app (gIsi kt) (consA (var 1) (consA (cst (.glo "Like")) nilA))))
def d_Like_same_class : List D → AH → Out D := fn 2 m_Like_same_class
def m_Rule_steps_of : SM := (ret (cst .non))
def d_Rule_steps_of : List D → AH → Out D := fn 1 m_Rule_steps_of
def m_By_steps_of : SM := (ret (fldC ["By"] "steps" (var 0)))
def d_By_steps_of : List D → AH → Out D := fn 1 m_By_steps_of
def m_Rule_ZeqZ : SM := (ret (andV (orM (meth "Front" "same_class" (cal 2 [] d_Front_same_class) (var 0) (consA (var 1) nilA)) (orM (meth "By" "same_class" (cal 2 [] d_By_same_class) (var 0) (consA (var 1) nilA)) (orM (meth "Half" "same_class" (cal 2 [] d_Half_same_class) (var 0) (consA (var 1) nilA)) (meth "Like" "same_class" (cal 2 [] d_Like_same_class) (var 0) (consA (var 1) nilA))))) (bin gEqD (orM (meth "Front" "steps_of" (cal 1 [] d_Rule_steps_of) (var 0) nilA) (orM (meth "By" "steps_of" (cal 1 [] d_By_steps_of) (var 0) nilA) (orM (meth "Half" "steps_of" (cal 1 [] d_Rule_steps_of) (var 0) nilA) (meth "Like" "steps_of" (cal 1 [] d_Rule_steps_of) (var 0) nilA)))) (orM (meth "Front" "steps_of" (cal 1 [] d_Rule_steps_of) (var 1) nilA) (orM (meth "By" "steps_of" (cal 1 [] d_By_steps_of) (var 1) nilA) (orM (meth "Half" "steps_of" (cal 1 [] d_Rule_steps_of) (var 1) nilA) (meth "Like" "steps_of" (cal 1 [] d_Rule_steps_of) (var 1) nilA)))))))
def d_Rule_ZeqZ : List D → AH → Out D := fn 2 m_Rule_ZeqZ
def m__law_alike_right : SM := (seqS
  (asg (app gLst (consA (cst (.ins "Front" [])) (consA (app (makeN "By" 2 [] d_By_ZinitZ) (consA (var 0) nilA)) (consA (app (makeN "By" 2 [] d_By_ZinitZ) (consA (bin gAdd (var 0) (cst (.int 1))) nilA)) (consA (cst (.ins "Half" [])) (consA (cst (.ins "Like" [])) nilA)))))) (tgN 1))
  (seqS
  (forS (walkA enumA (consA (var 1) nilA)) (tgTup (tgCons (tgN 2) (tgCons (tgN 3) tgNil)))
  (seqS
  (ifS (orB (asB (bin (gNot gEqD) (lc [4] (walk itemsA (var 1)) (tgN 4) yesB (orM (bin (gOwn "Front" kt d_Rule_ZeqZ) (var 3) (var 4)) (orM (bin (gOwn "By" kt d_Rule_ZeqZ) (var 3) (var 4)) (orM (bin (gOwn "Half" kt d_Rule_ZeqZ) (var 3) (var 4)) (bin (gOwn "Like" kt d_Rule_ZeqZ) (var 3) (var 4)))))) (lc [5] (walkA rng1 (consA (cst (.int 5)) nilA)) (tgN 5) yesB (bin gEqD (var 5) (var 2))))) (orB (orT (asB (bin (gOwn "Front" kt d_Rule_ZeqZ) (var 3) (cst (.str "Front")))) (orT (asB (bin (gOwn "By" kt d_Rule_ZeqZ) (var 3) (cst (.str "Front")))) (orT (asB (bin (gOwn "Half" kt d_Rule_ZeqZ) (var 3) (cst (.str "Front")))) (asB (bin (gOwn "Like" kt d_Rule_ZeqZ) (var 3) (cst (.str "Front"))))))) (orT (asB (bin (gOwn "Front" kt d_Rule_ZeqZ) (var 3) (cst .non))) (orT (asB (bin (gOwn "By" kt d_Rule_ZeqZ) (var 3) (cst .non))) (orT (asB (bin (gOwn "Half" kt d_Rule_ZeqZ) (var 3) (cst .non))) (asB (bin (gOwn "Like" kt d_Rule_ZeqZ) (var 3) (cst .non))))))))
  (ret (cst (.bl false)))
  skip)
  (ifS (orB (notB (asB (app (gIsi kt) (consA (var 3) (consA (cst (.glo "Rule")) nilA))))) (asB (bin (gNot gEqD) (app gLst (consA (app (gIsi kt) (consA (var 3) (consA (cst (.glo "Front")) nilA))) (consA (app (gIsi kt) (consA (var 3) (consA (cst (.glo "Half")) nilA))) nilA))) (app gLst (consA (bin gEqD (var 2) (cst (.int 0))) (consA (bin gEqD (var 2) (cst (.int 3))) nilA))))))
  (ret (cst (.bl false)))
  skip)))
  (ret (andV (orM (bin (gOwn "Front" kt d_Rule_ZeqZ) (app (makeN "By" 2 [] d_By_ZinitZ) (consA (var 0) nilA)) (bin gIx (var 1) (cst (.int 1)))) (orM (bin (gOwn "By" kt d_Rule_ZeqZ) (app (makeN "By" 2 [] d_By_ZinitZ) (consA (var 0) nilA)) (bin gIx (var 1) (cst (.int 1)))) (orM (bin (gOwn "Half" kt d_Rule_ZeqZ) (app (makeN "By" 2 [] d_By_ZinitZ) (consA (var 0) nilA)) (bin gIx (var 1) (cst (.int 1)))) (bin (gOwn "Like" kt d_Rule_ZeqZ) (app (makeN "By" 2 [] d_By_ZinitZ) (consA (var 0) nilA)) (bin gIx (var 1) (cst (.int 1))))))) (andV (bin gEqD (fldC ["By"] "steps" (bin gIx (var 1) (cst (.int 1)))) (var 0)) (andV (orM (bin (gOwn "Front" kt d_Rule_ZeqZ) (cst (.ins "Front" [])) (bin gIx (var 1) (cst (.int 0)))) (orM (bin (gOwn "By" kt d_Rule_ZeqZ) (cst (.ins "Front" [])) (bin gIx (var 1) (cst (.int 0)))) (orM (bin (gOwn "Half" kt d_Rule_ZeqZ) (cst (.ins "Front" [])) (bin gIx (var 1) (cst (.int 0)))) (bin (gOwn "Like" kt d_Rule_ZeqZ) (cst (.ins "Front" [])) (bin gIx (var 1) (cst (.int 0))))))) (orM (bin (gOwn "Front" kt d_Rule_ZeqZ) (cst (.ins "Like" [])) (bin gIx (var 1) (cst (.int 4)))) (orM (bin (gOwn "By" kt d_Rule_ZeqZ) (cst (.ins "Like" [])) (bin gIx (var 1) (cst (.int 4)))) (orM (bin (gOwn "Half" kt d_Rule_ZeqZ) (cst (.ins "Like" [])) (bin gIx (var 1) (cst (.int 4)))) (bin (gOwn "Like" kt d_Rule_ZeqZ) (cst (.ins "Like" [])) (bin gIx (var 1) (cst (.int 4)))))))))))))
def d__law_alike_right : List D → AH → Out D := fn 6 m__law_alike_right
def m__law_like : SM := (seqS
  (asg (var 1) (tgN 2))
  (seqS
  (forS (walkA rng1 (consA (var 1) nilA)) (tgN 3)
  (ifS (asB (bin (gNot gEqD) (lc [4] (walk itemsA (bin gIx (var 0) (var 1))) (tgN 4) (asB (bin gIn (var 4) (bin gIx (var 0) (var 3)))) (var 4)) (app gLst nilA)))
  (asg (bin gAdd (var 3) (cst (.int 1))) (tgN 2))
  skip))
  (ret (var 2))))
def d__law_like : List D → AH → Out D := fn 5 m__law_like
def m_By_aim : SM := (ret (app gMax2 (consA (cst (.int 0)) (consA (bin gSub (var 2) (fldC ["By"] "steps" (var 0))) nilA))))
def d_By_aim : List D → AH → Out D := fn 3 m_By_aim
def m_Like_aim : SM := (seqS
  (forS (walkA rng3 (consA (bin gSub (var 2) (cst (.int 1))) (consA (un gNeg (cst (.int 1))) (consA (un gNeg (cst (.int 1))) nilA)))) (tgN 3)
  (ifS (asB (app gAny (consA (lc [4] (walk itemsA (bin gIx (var 1) (var 2))) (tgN 4) yesB (bin gIn (var 4) (bin gIx (var 1) (var 3)))) nilA)))
  (ret (bin gAdd (var 3) (cst (.int 1))))
  skip))
  (ret (var 2)))
def d_Like_aim : List D → AH → Out D := fn 5 m_Like_aim
def m_Half_aim : SM := (ret (bin gDiv (var 2) (cst (.int 2))))
def d_Half_aim : List D → AH → Out D := fn 3 m_Half_aim
def m_Front_aim : SM := (ret (cst (.int 0)))
def d_Front_aim : List D → AH → Out D := fn 3 m_Front_aim
def m__law_digit : SM := (seqS
  (ifS (asB (bin gEqD (app gLen (consA (var 0) nilA)) (cst (.int 1))))
  (drop (bm isLst gExtend (var 0) (consA (app gLst (consA (bin gMod (bin gIx (var 0) (cst (.int 0))) (cst (.int 2147483647))) (consA (cst (.int 0)) nilA))) nilA)))
  skip)
  (seqS
  (ifS (asB (bin gGe (bin gIx (var 0) (cst (.int 0))) (var 1)))
  (seqS
  (asg (bin gMod (bin gIx (var 0) (cst (.int 0))) (var 1)) (tgN 2))
  (seqS
  (asg (bin gDiv (bin gIx (var 0) (cst (.int 0))) (var 1)) (tgSub (var 0) (cst (.int 0))))
  (ret (var 2))))
  skip)
  (seqS
  (asg (bin gAdd (bin gIx (var 0) (cst (.int 2))) (cst (.int 1))) (tgSub (var 0) (cst (.int 2))))
  (seqS
  (asg (bin gMod (bin gMul (bin gAdd (bin gIx (var 0) (cst (.int 1))) (bin gMul (cst (.int 7919)) (bin gIx (var 0) (cst (.int 2))))) (cst (.int 48271))) (cst (.int 2147483647))) (tgN 3))
  (ret (bin gMod (bin gDiv (bin gMod (bin gMul (bin gAdd (var 3) (bin gDiv (var 3) (cst (.int 1009)))) (bin gAdd (bin gDiv (var 3) (cst (.int 65537))) (cst (.int 69621)))) (cst (.int 2147483629))) (cst (.int 7))) (var 1)))))))
def d__law_digit : List D → AH → Out D := fn 4 m__law_digit
def m__law_marks : SM := (seqS
  (asg (app (cal 2 [] d__law_digit) (consA (var 0) (consA (cst (.int 16)) nilA))) (tgN 1))
  (seqS
  (asg (bin gIx (app gLst (consA (cst (.str "abcd")) (consA (cst (.str "aqxz")) nilA))) (app (cal 2 [] d__law_digit) (consA (var 0) (consA (cst (.int 2)) nilA)))) (tgN 2))
  (ret (bm isStr gJoin (cst (.str "")) (consA (lc [3, 4] (walkA enumA (consA (var 2) nilA)) (tgTup (tgCons (tgN 3) (tgCons (tgN 4) tgNil))) (asB (bin gEqD (bin gMod (bin gDiv (var 1) (bin gIx (app gLst (consA (cst (.int 1)) (consA (cst (.int 2)) (consA (cst (.int 4)) (consA (cst (.int 8)) nilA))))) (var 3))) (cst (.int 2))) (cst (.int 1)))) (var 4)) nilA)))))
def d__law_marks : List D → AH → Out D := fn 5 m__law_marks
def m_law : SM := (seqS
  (forT [1, 2, 3, 4, 5, 6, 7, 8, 9] (walk itemsA (bin gAdd (app gLst (consA (cst (.int 0)) (consA (cst (.int 1)) nilA))) (sl (var 0) noPart (part (cst (.int 12)))))) (tgN 1)
  (seqS
  (asg (app gLstC (consA (var 1) nilA)) (tgN 2))
  (seqS
  (asg (lc [4] (walkA rng1 (consA (bin gAdd (cst (.int 1)) (app (cal 2 [] d__law_digit) (consA (var 2) (consA (cst (.int 9)) nilA)))) nilA)) (tgN 4) yesB (app (cal 1 [] d__law_marks) (consA (var 2) nilA))) (tgN 3))
  (seqS
  (asg (app gList (consA (var 3) nilA)) (tgN 5))
  (seqS
  (asg (bin gIx (app gLst (consA (app (cal 2 [] d__law_digit) (consA (var 2) (consA (cst (.int 4)) nilA))) (consA (app gLen (consA (var 3) nilA)) (consA (bin gAdd (bin gPow (cst (.int 10)) (cst (.int 39))) (app (cal 2 [] d__law_digit) (consA (var 2) (consA (cst (.int 9)) nilA)))) nilA)))) (app (cal 2 [] d__law_digit) (consA (var 2) (consA (cst (.int 3)) nilA)))) (tgN 6))
  (seqS
  (forS (walkA rng1 (consA (app gLen (consA (var 3) nilA)) nilA)) (tgN 7)
  (seqS
  (asg (app gLstC (consA (meth "Front" "aim" (cal 3 [] d_Front_aim) (cst (.ins "Front" [])) (consA (var 5) (consA (var 7) nilA))) (consA (meth "Half" "aim" (cal 3 [] d_Half_aim) (cst (.ins "Half" [])) (consA (var 5) (consA (var 7) nilA))) (consA (meth "Like" "aim" (cal 3 [] d_Like_aim) (cst (.ins "Like" [])) (consA (var 5) (consA (var 7) nilA))) nilA)))) (tgN 8))
  (seqS
  (drop (bm isLst gAppend (var 8) (consA (meth "By" "aim" (cal 3 [] d_By_aim) (app (makeN "By" 2 [] d_By_ZinitZ) (consA (var 6) nilA)) (consA (var 5) (consA (var 7) nilA))) nilA)))
  (ifS (orB (asB (bin (gNot gEqD) (var 8) (app gLst (consA (cst (.int 0)) (consA (bin gDiv (var 7) (cst (.int 2))) (consA (app (cal 2 [] d__law_like) (consA (var 3) (consA (var 7) nilA))) (consA (app gMax2 (consA (cst (.int 0)) (consA (bin gSub (var 7) (var 6)) nilA))) nilA))))))) (asB (bin (gNot gEqD) (var 5) (var 3))))
  (ret (cst (.bl false)))
  skip))))
  (seqS
  (ifS (notB (asB (app (cal 1 [] d__law_alike_right) (consA (var 6) nilA))))
  (ret (cst (.bl false)))
  skip)
  (ifS (asB (bin (gNot gEqD) (lc [9] (walk itemsA (app gLst (consA (un gNeg (cst (.int 1))) (consA (cst (.bl true)) (consA (cst .non) (consA (cst (.str "1")) (consA (app gTup (consA (cst (.int 1)) nilA)) (consA (app gLst nilA) (consA (un gNeg (bin gPow (cst (.int 10)) (cst (.int 30)))) nilA))))))))) (tgN 9) (notB (asB (app (cal 1 [] d__law_refused) (consA (var 9) nilA)))) (var 9)) (app gLst nilA)))
  (ret (cst (.bl false)))
  skip))))))))
  (ret (cst (.bl true))))
def d_law : List D → AH → Out D := fn 10 m_law
def fa : List Chk := [cFa (.glo "_law_refused"), cFa (.glo "_law_alike_right"), cFa (.free "len"), cFa (.free "range"), cFa (.free "max"), cFa (.glo "_law_like"), cMk "By" ("By", some "__init__"), cFa (.glo "By"), cFa (.cls "By"), cMeth "By" "aim" ("By", some "aim"), cMko "Like", cFa (.glo "Like"), cFa (.cls "Like"), cMeth "Like" "aim" ("Like", some "aim"), cMko "Half", cFa (.glo "Half"), cFa (.cls "Half"), cMeth "Half" "aim" ("Half", some "aim"), cMko "Front", cFa (.glo "Front"), cFa (.cls "Front"), cMeth "Front" "aim" ("Front", some "aim"), cFa (.glo "_law_digit"), cFa (.free "list"), cFa (.glo "_law_marks"), cFa (.glo "NoRule"), cEkit ekt, cFa (.free "isinstance"), cFa (.free "ValueError"), cFa (.glo "NoThing"), cFa (.glo "ShelfError"), cCat "ShelfError" [("ShelfError", true), ("NoRule", true), ("NoThing", true)], cHas ["By"] "steps", cFa (.glo "is_whole"), cFa (.exc "NoRule"), cFa (.free "int"), cKit kt, cFa (.free "bool"), cMeth "Front" "__eq__" ("Rule", some "__eq__"), cNotF "Front" kt, cMeth "By" "__eq__" ("Rule", some "__eq__"), cNotF "By" kt, cMeth "Half" "__eq__" ("Rule", some "__eq__"), cNotF "Half" kt, cMeth "Like" "__eq__" ("Rule", some "__eq__"), cNotF "Like" kt, cFa (.free "enumerate"), cFa (.glo "Rule"), cMeth "Front" "same_class" ("Front", some "same_class"), cMeth "By" "same_class" ("By", some "same_class"), cMeth "Half" "same_class" ("Half", some "same_class"), cMeth "Like" "same_class" ("Like", some "same_class"), cMeth "Front" "steps_of" ("Rule", some "steps_of"), cMeth "By" "steps_of" ("By", some "steps_of"), cMeth "Half" "steps_of" ("Rule", some "steps_of"), cMeth "Like" "steps_of" ("Rule", some "steps_of"), cFa (.free "any"), cFa (.glo "law")]
def fnl : List He.DefD := [⟨("is_whole", none), "is_whole", "is_whole", defArgs (top 5), defBody (top 5), defScope (top 5), [], []⟩,
  ⟨("By", some "__init__"), "__init__", "By.__init__", defArgs ((clsDefs (top 9)).getD 0 (.Pass ⟨0, 0, 0, 0⟩)), defBody ((clsDefs (top 9)).getD 0 (.Pass ⟨0, 0, 0, 0⟩)), defScope ((clsDefs (top 9)).getD 0 (.Pass ⟨0, 0, 0, 0⟩)), [], []⟩,
  ⟨("_law_refused", none), "_law_refused", "_law_refused", defArgs (top 17), defBody (top 17), defScope (top 17), [], []⟩,
  ⟨("Front", some "same_class"), "same_class", "Front.same_class", defArgs ((clsDefs (top 8)).getD 0 (.Pass ⟨0, 0, 0, 0⟩)), defBody ((clsDefs (top 8)).getD 0 (.Pass ⟨0, 0, 0, 0⟩)), defScope ((clsDefs (top 8)).getD 0 (.Pass ⟨0, 0, 0, 0⟩)), [], []⟩,
  ⟨("By", some "same_class"), "same_class", "By.same_class", defArgs ((clsDefs (top 9)).getD 1 (.Pass ⟨0, 0, 0, 0⟩)), defBody ((clsDefs (top 9)).getD 1 (.Pass ⟨0, 0, 0, 0⟩)), defScope ((clsDefs (top 9)).getD 1 (.Pass ⟨0, 0, 0, 0⟩)), [], []⟩,
  ⟨("Half", some "same_class"), "same_class", "Half.same_class", defArgs ((clsDefs (top 10)).getD 0 (.Pass ⟨0, 0, 0, 0⟩)), defBody ((clsDefs (top 10)).getD 0 (.Pass ⟨0, 0, 0, 0⟩)), defScope ((clsDefs (top 10)).getD 0 (.Pass ⟨0, 0, 0, 0⟩)), [], []⟩,
  ⟨("Like", some "same_class"), "same_class", "Like.same_class", defArgs ((clsDefs (top 11)).getD 0 (.Pass ⟨0, 0, 0, 0⟩)), defBody ((clsDefs (top 11)).getD 0 (.Pass ⟨0, 0, 0, 0⟩)), defScope ((clsDefs (top 11)).getD 0 (.Pass ⟨0, 0, 0, 0⟩)), [], []⟩,
  ⟨("Rule", some "steps_of"), "steps_of", "Rule.steps_of", defArgs ((clsDefs (top 7)).getD 1 (.Pass ⟨0, 0, 0, 0⟩)), defBody ((clsDefs (top 7)).getD 1 (.Pass ⟨0, 0, 0, 0⟩)), defScope ((clsDefs (top 7)).getD 1 (.Pass ⟨0, 0, 0, 0⟩)), [], []⟩,
  ⟨("By", some "steps_of"), "steps_of", "By.steps_of", defArgs ((clsDefs (top 9)).getD 2 (.Pass ⟨0, 0, 0, 0⟩)), defBody ((clsDefs (top 9)).getD 2 (.Pass ⟨0, 0, 0, 0⟩)), defScope ((clsDefs (top 9)).getD 2 (.Pass ⟨0, 0, 0, 0⟩)), [], []⟩,
  ⟨("Rule", some "__eq__"), "__eq__", "Rule.__eq__", defArgs ((clsDefs (top 7)).getD 0 (.Pass ⟨0, 0, 0, 0⟩)), defBody ((clsDefs (top 7)).getD 0 (.Pass ⟨0, 0, 0, 0⟩)), defScope ((clsDefs (top 7)).getD 0 (.Pass ⟨0, 0, 0, 0⟩)), [], []⟩,
  ⟨("_law_alike_right", none), "_law_alike_right", "_law_alike_right", defArgs (top 18), defBody (top 18), defScope (top 18), [], []⟩,
  ⟨("_law_like", none), "_law_like", "_law_like", defArgs (top 16), defBody (top 16), defScope (top 16), [], []⟩,
  ⟨("By", some "aim"), "aim", "By.aim", defArgs ((clsDefs (top 9)).getD 3 (.Pass ⟨0, 0, 0, 0⟩)), defBody ((clsDefs (top 9)).getD 3 (.Pass ⟨0, 0, 0, 0⟩)), defScope ((clsDefs (top 9)).getD 3 (.Pass ⟨0, 0, 0, 0⟩)), [], []⟩,
  ⟨("Like", some "aim"), "aim", "Like.aim", defArgs ((clsDefs (top 11)).getD 1 (.Pass ⟨0, 0, 0, 0⟩)), defBody ((clsDefs (top 11)).getD 1 (.Pass ⟨0, 0, 0, 0⟩)), defScope ((clsDefs (top 11)).getD 1 (.Pass ⟨0, 0, 0, 0⟩)), [], []⟩,
  ⟨("Half", some "aim"), "aim", "Half.aim", defArgs ((clsDefs (top 10)).getD 1 (.Pass ⟨0, 0, 0, 0⟩)), defBody ((clsDefs (top 10)).getD 1 (.Pass ⟨0, 0, 0, 0⟩)), defScope ((clsDefs (top 10)).getD 1 (.Pass ⟨0, 0, 0, 0⟩)), [], []⟩,
  ⟨("Front", some "aim"), "aim", "Front.aim", defArgs ((clsDefs (top 8)).getD 1 (.Pass ⟨0, 0, 0, 0⟩)), defBody ((clsDefs (top 8)).getD 1 (.Pass ⟨0, 0, 0, 0⟩)), defScope ((clsDefs (top 8)).getD 1 (.Pass ⟨0, 0, 0, 0⟩)), [], []⟩,
  ⟨("_law_digit", none), "_law_digit", "_law_digit", defArgs (top 14), defBody (top 14), defScope (top 14), [], []⟩,
  ⟨("_law_marks", none), "_law_marks", "_law_marks", defArgs (top 15), defBody (top 15), defScope (top 15), [], []⟩,
  ⟨("law", none), "law", "law", defArgs (top 19), defBody (top 19), defScope (top 19), [], []⟩]
section
variable {P : Program} {w : World} {K : PySem.W.Frag} {mg : Str → Option Value} {base h : Heap}
theorem sc_is_whole : FnScope ["thing", "low", "high"] ["thing", "low", "high"] (defScope (top 5)) := ⟨rfl, rfl, rfl, by decide +kernel, rfl, by decide +kernel, by decide +kernel⟩
theorem ok_is_whole (S : SaysB fa fnl K) (KX : K.In h) (G : h.Ns mainGlobals mg) : ∃ fd, FunD K "is_whole" "is_whole" (defArgs (top 5)) (defBody (top 5)) (defScope (top 5)) [] [] (He.fAd K ("is_whole", none)) fd ∧ FnOk P w K mg base (L2.CX P w) 1 (He.fAd K ("is_whole", none)) fd ["thing", "low", "high"] (spM ⟨P, w, K⟩ 3 d_is_whole) := by
  obtain ⟨fd, F⟩ := S.def_ 0 rfl
  refine ⟨fd, F, fn_ok (C := ⟨P, w, K⟩) (N := ["thing", "low", "high"]) F sc_is_whole (fun cdv A outer s H E hr => ?_)⟩
  have tk : Takes (cxOf (L2.CX P w) P w K mg base ["thing", "low", "high"] "is_whole" (defScope (top 5)) (He.fAd K ("is_whole", none)) cdv A outer s H E) (fun cls od _ H => E cls od H) := takes_of rfl rfl rfl rfl
  have pw : PassesOwn (model P w) (cxOf (L2.CX P w) P w K mg base ["thing", "low", "high"] "is_whole" (defScope (top 5)) (He.fAd K ("is_whole", none)) cdv A outer s H E).A (cxOf (L2.CX P w) P w K mg base ["thing", "low", "high"] "is_whole" (defScope (top 5)) (He.fAd K ("is_whole", none)) cdv A outer s H E).env (cxOf (L2.CX P w) P w K mg base ["thing", "low", "high"] "is_whole" (defScope (top 5)) (He.fAd K ("is_whole", none)) cdv A outer s H E).xe := passes_of rfl
  exact (ms_cons
  (ms_if (mt_w (mw_or (mt_not (mt_val (me_callB cr_isi (cs_isi (kit_ok (S.fact 36 rfl))) (by exact rfl) (He.free_ok KX G (S.fact 27 rfl)) (by decide +kernel) (ma_cons (me_var 0) (ma_cons (me_ty (by exact rfl) (He.free_ok KX G (S.fact 35 rfl)) (by decide +kernel)) ma_nil))))) (mw_or1 (mt_val (me_callB cr_isi (cs_isi (kit_ok (S.fact 36 rfl))) (by exact rfl) (He.free_ok KX G (S.fact 27 rfl)) (by decide +kernel) (ma_cons (me_var 0) (ma_cons (me_ty (by exact rfl) (He.free_ok KX G (S.fact 37 rfl)) (by decide +kernel)) ma_nil)))))))
  (ms_one (ms_ret me_bl))
  ms_nil)
  (ms_one (ms_ret (me_and (me_or (me_cmp or_is os_is (me_var 1) me_non) (me_one (me_cmp or_le os_le (me_var 1) (me_var 0)))) (me_one (me_or (me_cmp or_is os_is (me_var 2) me_non) (me_one (me_cmp or_le os_le (me_var 0) (me_var 2)))))))))
theorem sc_By_ZinitZ : FnScope ["self", "steps"] ["self", "steps"] (defScope ((clsDefs (top 9)).getD 0 (.Pass ⟨0, 0, 0, 0⟩))) := ⟨rfl, rfl, rfl, by decide +kernel, rfl, by decide +kernel, by decide +kernel⟩
theorem ok_By_ZinitZ (S : SaysB fa fnl K) (KX : K.In h) (G : h.Ns mainGlobals mg) : ∃ fd, FunD K "__init__" "By.__init__" (defArgs ((clsDefs (top 9)).getD 0 (.Pass ⟨0, 0, 0, 0⟩))) (defBody ((clsDefs (top 9)).getD 0 (.Pass ⟨0, 0, 0, 0⟩))) (defScope ((clsDefs (top 9)).getD 0 (.Pass ⟨0, 0, 0, 0⟩))) [] [] (He.fAd K ("By", some "__init__")) fd ∧ FnOk P w K mg base (L2.CX P w) 2 (He.fAd K ("By", some "__init__")) fd ["self", "steps"] (spM ⟨P, w, K⟩ 2 d_By_ZinitZ) := by
  obtain ⟨fd, F⟩ := S.def_ 1 rfl
  obtain ⟨fd_is_whole, F_is_whole, O_is_whole⟩ := ok_is_whole (P := P) (w := w) (base := base) S KX G
  have B_is_whole : L2.Binds K fd_is_whole ["thing", "low", "high"] [] := F_is_whole.bindsN fun _ _ _ _ _ _ us hl => match us, hl with | [_, _, _], _ => rfl
  refine ⟨fd, F, fn_ok (C := ⟨P, w, K⟩) (N := ["self", "steps"]) F sc_By_ZinitZ (fun cdv A outer s H E hr => ?_)⟩
  have tk : Takes (cxOf (L2.CX P w) P w K mg base ["self", "steps"] "By.__init__" (defScope ((clsDefs (top 9)).getD 0 (.Pass ⟨0, 0, 0, 0⟩))) (He.fAd K ("By", some "__init__")) cdv A outer s H E) (fun cls od _ H => E cls od H) := takes_of rfl rfl rfl rfl
  have pw : PassesOwn (model P w) (cxOf (L2.CX P w) P w K mg base ["self", "steps"] "By.__init__" (defScope ((clsDefs (top 9)).getD 0 (.Pass ⟨0, 0, 0, 0⟩))) (He.fAd K ("By", some "__init__")) cdv A outer s H E).A (cxOf (L2.CX P w) P w K mg base ["self", "steps"] "By.__init__" (defScope ((clsDefs (top 9)).getD 0 (.Pass ⟨0, 0, 0, 0⟩))) (He.fAd K ("By", some "__init__")) cdv A outer s H E).env (cxOf (L2.CX P w) P w K mg base ["self", "steps"] "By.__init__" (defScope ((clsDefs (top 9)).getD 0 (.Pass ⟨0, 0, 0, 0⟩))) (He.fAd K ("By", some "__init__")) cdv A outer s H E).xe := passes_of rfl
  exact (ms_cons
  (ms_if (mt_not (mt_val (me_call (ps := ["thing", "low", "high"]) tk O_is_whole (hr.mono (by decide : 1 ≤ 1)) (by exact rfl) (He.glo_ok KX G (S.fact 33 rfl)) F_is_whole.kp B_is_whole .nil Filled.nil (ma_cons (me_var 1) (ma_cons me_int (ma_cons me_non ma_nil))))))
  (ms_one (ms_rz rfl rfl tk PySem.F.excBase_ValueError (He.exc_ok (S.fact 34 rfl)).1 (He.glo_ok KX G (S.fact 25 rfl)) (He.exc_ok (S.fact 34 rfl)).2.1 (raises_own (He.exc_ok (S.fact 34 rfl)).2.2.1 (He.exc_ok (S.fact 34 rfl)).2.2.2) (by exact rfl)))
  ms_nil)
  (ms_one (ms_fld rfl (me_var 0) (me_var 1) (has_ok (S.fact 32 rfl)))))
theorem sc__law_refused : FnScope ["_law_thing", "_law_refused_here", "e"] ["_law_thing"] (defScope (top 17)) := ⟨rfl, rfl, rfl, by decide +kernel, rfl, by decide +kernel, by decide +kernel⟩
theorem ok__law_refused (S : SaysB fa fnl K) (KX : K.In h) (G : h.Ns mainGlobals mg) : ∃ fd, FunD K "_law_refused" "_law_refused" (defArgs (top 17)) (defBody (top 17)) (defScope (top 17)) [] [] (He.fAd K ("_law_refused", none)) fd ∧ FnOk P w K mg base (L2.CX P w) 4 (He.fAd K ("_law_refused", none)) fd ["_law_thing"] (spM ⟨P, w, K⟩ 1 d__law_refused) := by
  obtain ⟨fd, F⟩ := S.def_ 2 rfl
  obtain ⟨fd_By_ZinitZ, F_By_ZinitZ, O_By_ZinitZ⟩ := ok_By_ZinitZ (P := P) (w := w) (base := base) S KX G
  have B_By_ZinitZ : L2.Binds K fd_By_ZinitZ ["self", "steps"] [] := F_By_ZinitZ.bindsN fun _ _ _ _ _ _ us hl => match us, hl with | [_, _], _ => rfl
  refine ⟨fd, F, fn_ok (C := ⟨P, w, K⟩) (N := ["_law_thing", "_law_refused_here", "e"]) F sc__law_refused (fun cdv A outer s H E hr => ?_)⟩
  have tk : Takes (cxOf (L2.CX P w) P w K mg base ["_law_thing", "_law_refused_here", "e"] "_law_refused" (defScope (top 17)) (He.fAd K ("_law_refused", none)) cdv A outer s H E) (fun cls od _ H => E cls od H) := takes_of rfl rfl rfl rfl
  have pw : PassesOwn (model P w) (cxOf (L2.CX P w) P w K mg base ["_law_thing", "_law_refused_here", "e"] "_law_refused" (defScope (top 17)) (He.fAd K ("_law_refused", none)) cdv A outer s H E).A (cxOf (L2.CX P w) P w K mg base ["_law_thing", "_law_refused_here", "e"] "_law_refused" (defScope (top 17)) (He.fAd K ("_law_refused", none)) cdv A outer s H E).env (cxOf (L2.CX P w) P w K mg base ["_law_thing", "_law_refused_here", "e"] "_law_refused" (defScope (top 17)) (He.fAd K ("_law_refused", none)) cdv A outer s H E).xe := passes_of rfl
  exact (ms_cons
  (ms_set (i := 1) sc__law_refused.nd rfl (by first | exact Or.inl rfl | exact Or.inr rfl) me_bl)
  (ms_cons
  (ms_try (i := 2) rfl rfl rfl sc__law_refused.nd rfl rfl ⟨rfl, by decide, .inl (He.glo_ok KX G (S.fact 30 rfl))⟩ tk (cat_ok (S.fact 31 rfl))
  (fun W1 pn1 xe1 tk1 pw1 => (ms_one (ms_expr (me_make (ps := ["self", "steps"]) rfl tk1 (mk_ok (S.fact 6 rfl)) O_By_ZinitZ (hr.mono (by decide : 3 ≤ 3)) (by exact rfl) (He.glo_ok KX G (S.fact 7 rfl)) B_By_ZinitZ .nil Filled.nil (ma_cons (me_var 0) ma_nil)))))
  (fun a oe c od pn hz hf => (ms_one (ms_set (i := 1) sc__law_refused.nd rfl (by first | exact Or.inl rfl | exact Or.inr rfl) (me_and (me_isE (X := (cxOf (L2.CX P w) P w K mg base ["_law_thing", "_law_refused_here", "e"] "_law_refused" (defScope (top 17)) (He.fAd K ("_law_refused", none)) cdv A outer s H E)) rfl (ekit_ok (S.fact 26 rfl)) hz hf (by exact rfl) (He.free_ok KX G (S.fact 27 rfl)) (by decide +kernel) (ma_cons (me_var 2) (ma_cons (me_glo (by exact rfl) (He.glo_ok KX G (S.fact 25 rfl))) ma_nil))) (me_and (me_isE (X := (cxOf (L2.CX P w) P w K mg base ["_law_thing", "_law_refused_here", "e"] "_law_refused" (defScope (top 17)) (He.fAd K ("_law_refused", none)) cdv A outer s H E)) rfl (ekit_ok (S.fact 26 rfl)) hz hf (by exact rfl) (He.free_ok KX G (S.fact 27 rfl)) (by decide +kernel) (ma_cons (me_var 2) (ma_cons (me_ty (by exact rfl) (He.free_ok KX G (S.fact 28 rfl)) (by decide +kernel)) ma_nil))) (me_one (me_not (me_isE (X := (cxOf (L2.CX P w) P w K mg base ["_law_thing", "_law_refused_here", "e"] "_law_refused" (defScope (top 17)) (He.fAd K ("_law_refused", none)) cdv A outer s H E)) rfl (ekit_ok (S.fact 26 rfl)) hz hf (by exact rfl) (He.free_ok KX G (S.fact 27 rfl)) (by decide +kernel) (ma_cons (me_var 2) (ma_cons (me_glo (by exact rfl) (He.glo_ok KX G (S.fact 29 rfl))) ma_nil)))))))))))
  (ms_one (ms_ret (me_var 1)))))
theorem sc_Front_same_class : FnScope ["self", "thing"] ["self", "thing"] (defScope ((clsDefs (top 8)).getD 0 (.Pass ⟨0, 0, 0, 0⟩))) := ⟨rfl, rfl, rfl, by decide +kernel, rfl, by decide +kernel, by decide +kernel⟩
theorem ok_Front_same_class (S : SaysB fa fnl K) (KX : K.In h) (G : h.Ns mainGlobals mg) : ∃ fd, FunD K "same_class" "Front.same_class" (defArgs ((clsDefs (top 8)).getD 0 (.Pass ⟨0, 0, 0, 0⟩))) (defBody ((clsDefs (top 8)).getD 0 (.Pass ⟨0, 0, 0, 0⟩))) (defScope ((clsDefs (top 8)).getD 0 (.Pass ⟨0, 0, 0, 0⟩))) [] [] (He.fAd K ("Front", some "same_class")) fd ∧ FnOk P w K mg base (L2.CX P w) 1 (He.fAd K ("Front", some "same_class")) fd ["self", "thing"] (spM ⟨P, w, K⟩ 2 d_Front_same_class) := by
  obtain ⟨fd, F⟩ := S.def_ 3 rfl
  refine ⟨fd, F, fn_ok (C := ⟨P, w, K⟩) (N := ["self", "thing"]) F sc_Front_same_class (fun cdv A outer s H E hr => ?_)⟩
  have tk : Takes (cxOf (L2.CX P w) P w K mg base ["self", "thing"] "Front.same_class" (defScope ((clsDefs (top 8)).getD 0 (.Pass ⟨0, 0, 0, 0⟩))) (He.fAd K ("Front", some "same_class")) cdv A outer s H E) (fun cls od _ H => E cls od H) := takes_of rfl rfl rfl rfl
  have pw : PassesOwn (model P w) (cxOf (L2.CX P w) P w K mg base ["self", "thing"] "Front.same_class" (defScope ((clsDefs (top 8)).getD 0 (.Pass ⟨0, 0, 0, 0⟩))) (He.fAd K ("Front", some "same_class")) cdv A outer s H E).A (cxOf (L2.CX P w) P w K mg base ["self", "thing"] "Front.same_class" (defScope ((clsDefs (top 8)).getD 0 (.Pass ⟨0, 0, 0, 0⟩))) (He.fAd K ("Front", some "same_class")) cdv A outer s H E).env (cxOf (L2.CX P w) P w K mg base ["self", "thing"] "Front.same_class" (defScope ((clsDefs (top 8)).getD 0 (.Pass ⟨0, 0, 0, 0⟩))) (He.fAd K ("Front", some "same_class")) cdv A outer s H E).xe := passes_of rfl
  exact (ms_one (ms_ret (me_callB cr_isi (cs_isi (kit_ok (S.fact 36 rfl))) (by exact rfl) (He.free_ok KX G (S.fact 27 rfl)) (by decide +kernel) (ma_cons (me_var 1) (ma_cons (me_glo (by exact rfl) (He.glo_ok KX G (S.fact 19 rfl))) ma_nil)))))
theorem sc_By_same_class : FnScope ["self", "thing"] ["self", "thing"] (defScope ((clsDefs (top 9)).getD 1 (.Pass ⟨0, 0, 0, 0⟩))) := ⟨rfl, rfl, rfl, by decide +kernel, rfl, by decide +kernel, by decide +kernel⟩
theorem ok_By_same_class (S : SaysB fa fnl K) (KX : K.In h) (G : h.Ns mainGlobals mg) : ∃ fd, FunD K "same_class" "By.same_class" (defArgs ((clsDefs (top 9)).getD 1 (.Pass ⟨0, 0, 0, 0⟩))) (defBody ((clsDefs (top 9)).getD 1 (.Pass ⟨0, 0, 0, 0⟩))) (defScope ((clsDefs (top 9)).getD 1 (.Pass ⟨0, 0, 0, 0⟩))) [] [] (He.fAd K ("By", some "same_class")) fd ∧ FnOk P w K mg base (L2.CX P w) 1 (He.fAd K ("By", some "same_class")) fd ["self", "thing"] (spM ⟨P, w, K⟩ 2 d_By_same_class) := by
  obtain ⟨fd, F⟩ := S.def_ 4 rfl
  refine ⟨fd, F, fn_ok (C := ⟨P, w, K⟩) (N := ["self", "thing"]) F sc_By_same_class (fun cdv A outer s H E hr => ?_)⟩
  have tk : Takes (cxOf (L2.CX P w) P w K mg base ["self", "thing"] "By.same_class" (defScope ((clsDefs (top 9)).getD 1 (.Pass ⟨0, 0, 0, 0⟩))) (He.fAd K ("By", some "same_class")) cdv A outer s H E) (fun cls od _ H => E cls od H) := takes_of rfl rfl rfl rfl
  have pw : PassesOwn (model P w) (cxOf (L2.CX P w) P w K mg base ["self", "thing"] "By.same_class" (defScope ((clsDefs (top 9)).getD 1 (.Pass ⟨0, 0, 0, 0⟩))) (He.fAd K ("By", some "same_class")) cdv A outer s H E).A (cxOf (L2.CX P w) P w K mg base ["self", "thing"] "By.same_class" (defScope ((clsDefs (top 9)).getD 1 (.Pass ⟨0, 0, 0, 0⟩))) (He.fAd K ("By", some "same_class")) cdv A outer s H E).env (cxOf (L2.CX P w) P w K mg base ["self", "thing"] "By.same_class" (defScope ((clsDefs (top 9)).getD 1 (.Pass ⟨0, 0, 0, 0⟩))) (He.fAd K ("By", some "same_class")) cdv A outer s H E).xe := passes_of rfl
  exact (ms_one (ms_ret (me_callB cr_isi (cs_isi (kit_ok (S.fact 36 rfl))) (by exact rfl) (He.free_ok KX G (S.fact 27 rfl)) (by decide +kernel) (ma_cons (me_var 1) (ma_cons (me_glo (by exact rfl) (He.glo_ok KX G (S.fact 7 rfl))) ma_nil)))))
theorem sc_Half_same_class : FnScope ["self", "thing"] ["self", "thing"] (defScope ((clsDefs (top 10)).getD 0 (.Pass ⟨0, 0, 0, 0⟩))) := ⟨rfl, rfl, rfl, by decide +kernel, rfl, by decide +kernel, by decide +kernel⟩
theorem ok_Half_same_class (S : SaysB fa fnl K) (KX : K.In h) (G : h.Ns mainGlobals mg) : ∃ fd, FunD K "same_class" "Half.same_class" (defArgs ((clsDefs (top 10)).getD 0 (.Pass ⟨0, 0, 0, 0⟩))) (defBody ((clsDefs (top 10)).getD 0 (.Pass ⟨0, 0, 0, 0⟩))) (defScope ((clsDefs (top 10)).getD 0 (.Pass ⟨0, 0, 0, 0⟩))) [] [] (He.fAd K ("Half", some "same_class")) fd ∧ FnOk P w K mg base (L2.CX P w) 1 (He.fAd K ("Half", some "same_class")) fd ["self", "thing"] (spM ⟨P, w, K⟩ 2 d_Half_same_class) := by
  obtain ⟨fd, F⟩ := S.def_ 5 rfl
  refine ⟨fd, F, fn_ok (C := ⟨P, w, K⟩) (N := ["self", "thing"]) F sc_Half_same_class (fun cdv A outer s H E hr => ?_)⟩
  have tk : Takes (cxOf (L2.CX P w) P w K mg base ["self", "thing"] "Half.same_class" (defScope ((clsDefs (top 10)).getD 0 (.Pass ⟨0, 0, 0, 0⟩))) (He.fAd K ("Half", some "same_class")) cdv A outer s H E) (fun cls od _ H => E cls od H) := takes_of rfl rfl rfl rfl
  have pw : PassesOwn (model P w) (cxOf (L2.CX P w) P w K mg base ["self", "thing"] "Half.same_class" (defScope ((clsDefs (top 10)).getD 0 (.Pass ⟨0, 0, 0, 0⟩))) (He.fAd K ("Half", some "same_class")) cdv A outer s H E).A (cxOf (L2.CX P w) P w K mg base ["self", "thing"] "Half.same_class" (defScope ((clsDefs (top 10)).getD 0 (.Pass ⟨0, 0, 0, 0⟩))) (He.fAd K ("Half", some "same_class")) cdv A outer s H E).env (cxOf (L2.CX P w) P w K mg base ["self", "thing"] "Half.same_class" (defScope ((clsDefs (top 10)).getD 0 (.Pass ⟨0, 0, 0, 0⟩))) (He.fAd K ("Half", some "same_class")) cdv A outer s H E).xe := passes_of rfl
  exact (ms_one (ms_ret (me_callB cr_isi (cs_isi (kit_ok (S.fact 36 rfl))) (by exact rfl) (He.free_ok KX G (S.fact 27 rfl)) (by decide +kernel) (ma_cons (me_var 1) (ma_cons (me_glo (by exact rfl) (He.glo_ok KX G (S.fact 15 rfl))) ma_nil)))))
theorem sc_Like_same_class : FnScope ["self", "thing"] ["self", "thing"] (defScope ((clsDefs (top 11)).getD 0 (.Pass ⟨0, 0, 0, 0⟩))) := ⟨rfl, rfl, rfl, by decide +kernel, rfl, by decide +kernel, by decide +kernel⟩
theorem ok_Like_same_class (S : SaysB fa fnl K) (KX : K.In h) (G : h.Ns mainGlobals mg) : ∃ fd, FunD K "same_class" "Like.same_class" (defArgs ((clsDefs (top 11)).getD 0 (.Pass ⟨0, 0, 0, 0⟩))) (defBody ((clsDefs (top 11)).getD 0 (.Pass ⟨0, 0, 0, 0⟩))) (defScope ((clsDefs (top 11)).getD 0 (.Pass ⟨0, 0, 0, 0⟩))) [] [] (He.fAd K ("Like", some "same_class")) fd ∧ FnOk P w K mg base (L2.CX P w) 1 (He.fAd K ("Like", some "same_class")) fd ["self", "thing"] (spM ⟨P, w, K⟩ 2 d_Like_same_class) := by
  obtain ⟨fd, F⟩ := S.def_ 6 rfl
  refine ⟨fd, F, fn_ok (C := ⟨P, w, K⟩) (N := ["self", "thing"]) F sc_Like_same_class (fun cdv A outer s H E hr => ?_)⟩
  have tk : Takes (cxOf (L2.CX P w) P w K mg base ["self", "thing"] "Like.same_class" (defScope ((clsDefs (top 11)).getD 0 (.Pass ⟨0, 0, 0, 0⟩))) (He.fAd K ("Like", some "same_class")) cdv A outer s H E) (fun cls od _ H => E cls od H) := takes_of rfl rfl rfl rfl
  have pw : PassesOwn (model P w) (cxOf (L2.CX P w) P w K mg base ["self", "thing"] "Like.same_class" (defScope ((clsDefs (top 11)).getD 0 (.Pass ⟨0, 0, 0, 0⟩))) (He.fAd K ("Like", some "same_class")) cdv A outer s H E).A (cxOf (L2.CX P w) P w K mg base ["self", "thing"] "Like.same_class" (defScope ((clsDefs (top 11)).getD 0 (.Pass ⟨0, 0, 0, 0⟩))) (He.fAd K ("Like", some "same_class")) cdv A outer s H E).env (cxOf (L2.CX P w) P w K mg base ["self", "thing"] "Like.same_class" (defScope ((clsDefs (top 11)).getD 0 (.Pass ⟨0, 0, 0, 0⟩))) (He.fAd K ("Like", some "same_class")) cdv A outer s H E).xe := passes_of rfl
  exact (ms_one (ms_ret (me_callB cr_isi (cs_isi (kit_ok (S.fact 36 rfl))) (by exact rfl) (He.free_ok KX G (S.fact 27 rfl)) (by decide +kernel) (ma_cons (me_var 1) (ma_cons (me_glo (by exact rfl) (He.glo_ok KX G (S.fact 11 rfl))) ma_nil)))))
theorem sc_Rule_steps_of : FnScope ["self"] ["self"] (defScope ((clsDefs (top 7)).getD 1 (.Pass ⟨0, 0, 0, 0⟩))) := ⟨rfl, rfl, rfl, by decide +kernel, rfl, by decide +kernel, by decide +kernel⟩
theorem ok_Rule_steps_of (S : SaysB fa fnl K) (KX : K.In h) (G : h.Ns mainGlobals mg) : ∃ fd, FunD K "steps_of" "Rule.steps_of" (defArgs ((clsDefs (top 7)).getD 1 (.Pass ⟨0, 0, 0, 0⟩))) (defBody ((clsDefs (top 7)).getD 1 (.Pass ⟨0, 0, 0, 0⟩))) (defScope ((clsDefs (top 7)).getD 1 (.Pass ⟨0, 0, 0, 0⟩))) [] [] (He.fAd K ("Rule", some "steps_of")) fd ∧ FnOk P w K mg base (L2.CX P w) 1 (He.fAd K ("Rule", some "steps_of")) fd ["self"] (spM ⟨P, w, K⟩ 1 d_Rule_steps_of) := by
  obtain ⟨fd, F⟩ := S.def_ 7 rfl
  refine ⟨fd, F, fn_ok (C := ⟨P, w, K⟩) (N := ["self"]) F sc_Rule_steps_of (fun cdv A outer s H E hr => ?_)⟩
  have tk : Takes (cxOf (L2.CX P w) P w K mg base ["self"] "Rule.steps_of" (defScope ((clsDefs (top 7)).getD 1 (.Pass ⟨0, 0, 0, 0⟩))) (He.fAd K ("Rule", some "steps_of")) cdv A outer s H E) (fun cls od _ H => E cls od H) := takes_of rfl rfl rfl rfl
  have pw : PassesOwn (model P w) (cxOf (L2.CX P w) P w K mg base ["self"] "Rule.steps_of" (defScope ((clsDefs (top 7)).getD 1 (.Pass ⟨0, 0, 0, 0⟩))) (He.fAd K ("Rule", some "steps_of")) cdv A outer s H E).A (cxOf (L2.CX P w) P w K mg base ["self"] "Rule.steps_of" (defScope ((clsDefs (top 7)).getD 1 (.Pass ⟨0, 0, 0, 0⟩))) (He.fAd K ("Rule", some "steps_of")) cdv A outer s H E).env (cxOf (L2.CX P w) P w K mg base ["self"] "Rule.steps_of" (defScope ((clsDefs (top 7)).getD 1 (.Pass ⟨0, 0, 0, 0⟩))) (He.fAd K ("Rule", some "steps_of")) cdv A outer s H E).xe := passes_of rfl
  exact (ms_one (ms_ret me_non))
theorem sc_By_steps_of : FnScope ["self"] ["self"] (defScope ((clsDefs (top 9)).getD 2 (.Pass ⟨0, 0, 0, 0⟩))) := ⟨rfl, rfl, rfl, by decide +kernel, rfl, by decide +kernel, by decide +kernel⟩
theorem ok_By_steps_of (S : SaysB fa fnl K) (KX : K.In h) (G : h.Ns mainGlobals mg) : ∃ fd, FunD K "steps_of" "By.steps_of" (defArgs ((clsDefs (top 9)).getD 2 (.Pass ⟨0, 0, 0, 0⟩))) (defBody ((clsDefs (top 9)).getD 2 (.Pass ⟨0, 0, 0, 0⟩))) (defScope ((clsDefs (top 9)).getD 2 (.Pass ⟨0, 0, 0, 0⟩))) [] [] (He.fAd K ("By", some "steps_of")) fd ∧ FnOk P w K mg base (L2.CX P w) 1 (He.fAd K ("By", some "steps_of")) fd ["self"] (spM ⟨P, w, K⟩ 1 d_By_steps_of) := by
  obtain ⟨fd, F⟩ := S.def_ 8 rfl
  refine ⟨fd, F, fn_ok (C := ⟨P, w, K⟩) (N := ["self"]) F sc_By_steps_of (fun cdv A outer s H E hr => ?_)⟩
  have tk : Takes (cxOf (L2.CX P w) P w K mg base ["self"] "By.steps_of" (defScope ((clsDefs (top 9)).getD 2 (.Pass ⟨0, 0, 0, 0⟩))) (He.fAd K ("By", some "steps_of")) cdv A outer s H E) (fun cls od _ H => E cls od H) := takes_of rfl rfl rfl rfl
  have pw : PassesOwn (model P w) (cxOf (L2.CX P w) P w K mg base ["self"] "By.steps_of" (defScope ((clsDefs (top 9)).getD 2 (.Pass ⟨0, 0, 0, 0⟩))) (He.fAd K ("By", some "steps_of")) cdv A outer s H E).A (cxOf (L2.CX P w) P w K mg base ["self"] "By.steps_of" (defScope ((clsDefs (top 9)).getD 2 (.Pass ⟨0, 0, 0, 0⟩))) (He.fAd K ("By", some "steps_of")) cdv A outer s H E).env (cxOf (L2.CX P w) P w K mg base ["self"] "By.steps_of" (defScope ((clsDefs (top 9)).getD 2 (.Pass ⟨0, 0, 0, 0⟩))) (He.fAd K ("By", some "steps_of")) cdv A outer s H E).xe := passes_of rfl
  exact (ms_one (ms_ret (me_fld rfl (me_var 0) (has_ok (S.fact 32 rfl)))))
theorem sc_Rule_ZeqZ : FnScope ["self", "thing"] ["self", "thing"] (defScope ((clsDefs (top 7)).getD 0 (.Pass ⟨0, 0, 0, 0⟩))) := ⟨rfl, rfl, rfl, by decide +kernel, rfl, by decide +kernel, by decide +kernel⟩
theorem ok_Rule_ZeqZ (S : SaysB fa fnl K) (KX : K.In h) (G : h.Ns mainGlobals mg) : ∃ fd, FunD K "__eq__" "Rule.__eq__" (defArgs ((clsDefs (top 7)).getD 0 (.Pass ⟨0, 0, 0, 0⟩))) (defBody ((clsDefs (top 7)).getD 0 (.Pass ⟨0, 0, 0, 0⟩))) (defScope ((clsDefs (top 7)).getD 0 (.Pass ⟨0, 0, 0, 0⟩))) [] [] (He.fAd K ("Rule", some "__eq__")) fd ∧ FnOk P w K mg base (L2.CX P w) 2 (He.fAd K ("Rule", some "__eq__")) fd ["self", "thing"] (spM ⟨P, w, K⟩ 2 d_Rule_ZeqZ) := by
  obtain ⟨fd, F⟩ := S.def_ 9 rfl
  obtain ⟨fd_Front_same_class, F_Front_same_class, O_Front_same_class⟩ := ok_Front_same_class (P := P) (w := w) (base := base) S KX G
  have B_Front_same_class : L2.Binds K fd_Front_same_class ["self", "thing"] [] := F_Front_same_class.bindsN fun _ _ _ _ _ _ us hl => match us, hl with | [_, _], _ => rfl
  obtain ⟨fd_By_same_class, F_By_same_class, O_By_same_class⟩ := ok_By_same_class (P := P) (w := w) (base := base) S KX G
  have B_By_same_class : L2.Binds K fd_By_same_class ["self", "thing"] [] := F_By_same_class.bindsN fun _ _ _ _ _ _ us hl => match us, hl with | [_, _], _ => rfl
  obtain ⟨fd_Half_same_class, F_Half_same_class, O_Half_same_class⟩ := ok_Half_same_class (P := P) (w := w) (base := base) S KX G
  have B_Half_same_class : L2.Binds K fd_Half_same_class ["self", "thing"] [] := F_Half_same_class.bindsN fun _ _ _ _ _ _ us hl => match us, hl with | [_, _], _ => rfl
  obtain ⟨fd_Like_same_class, F_Like_same_class, O_Like_same_class⟩ := ok_Like_same_class (P := P) (w := w) (base := base) S KX G
  have B_Like_same_class : L2.Binds K fd_Like_same_class ["self", "thing"] [] := F_Like_same_class.bindsN fun _ _ _ _ _ _ us hl => match us, hl with | [_, _], _ => rfl
  obtain ⟨fd_Rule_steps_of, F_Rule_steps_of, O_Rule_steps_of⟩ := ok_Rule_steps_of (P := P) (w := w) (base := base) S KX G
  have B_Rule_steps_of : L2.Binds K fd_Rule_steps_of ["self"] [] := F_Rule_steps_of.bindsN fun _ _ _ _ _ _ us hl => match us, hl with | [_], _ => rfl
  obtain ⟨fd_By_steps_of, F_By_steps_of, O_By_steps_of⟩ := ok_By_steps_of (P := P) (w := w) (base := base) S KX G
  have B_By_steps_of : L2.Binds K fd_By_steps_of ["self"] [] := F_By_steps_of.bindsN fun _ _ _ _ _ _ us hl => match us, hl with | [_], _ => rfl
  refine ⟨fd, F, fn_ok (C := ⟨P, w, K⟩) (N := ["self", "thing"]) F sc_Rule_ZeqZ (fun cdv A outer s H E hr => ?_)⟩
  have tk : Takes (cxOf (L2.CX P w) P w K mg base ["self", "thing"] "Rule.__eq__" (defScope ((clsDefs (top 7)).getD 0 (.Pass ⟨0, 0, 0, 0⟩))) (He.fAd K ("Rule", some "__eq__")) cdv A outer s H E) (fun cls od _ H => E cls od H) := takes_of rfl rfl rfl rfl
  have pw : PassesOwn (model P w) (cxOf (L2.CX P w) P w K mg base ["self", "thing"] "Rule.__eq__" (defScope ((clsDefs (top 7)).getD 0 (.Pass ⟨0, 0, 0, 0⟩))) (He.fAd K ("Rule", some "__eq__")) cdv A outer s H E).A (cxOf (L2.CX P w) P w K mg base ["self", "thing"] "Rule.__eq__" (defScope ((clsDefs (top 7)).getD 0 (.Pass ⟨0, 0, 0, 0⟩))) (He.fAd K ("Rule", some "__eq__")) cdv A outer s H E).env (cxOf (L2.CX P w) P w K mg base ["self", "thing"] "Rule.__eq__" (defScope ((clsDefs (top 7)).getD 0 (.Pass ⟨0, 0, 0, 0⟩))) (He.fAd K ("Rule", some "__eq__")) cdv A outer s H E).xe := passes_of rfl
  exact (ms_one (ms_ret (me_and (me_orM (me_meth (ps := ["self", "thing"]) tk rfl (me_var 0) (He.cls_ok (S.fact 20 rfl)) (meth_ok (S.fact 48 rfl)) O_Front_same_class (hr.mono (by decide : 1 ≤ 1)) B_Front_same_class .nil Filled.nil (ma_cons (me_var 1) ma_nil)) (me_orM (me_meth (ps := ["self", "thing"]) tk rfl (me_var 0) (He.cls_ok (S.fact 8 rfl)) (meth_ok (S.fact 49 rfl)) O_By_same_class (hr.mono (by decide : 1 ≤ 1)) B_By_same_class .nil Filled.nil (ma_cons (me_var 1) ma_nil)) (me_orM (me_meth (ps := ["self", "thing"]) tk rfl (me_var 0) (He.cls_ok (S.fact 16 rfl)) (meth_ok (S.fact 50 rfl)) O_Half_same_class (hr.mono (by decide : 1 ≤ 1)) B_Half_same_class .nil Filled.nil (ma_cons (me_var 1) ma_nil)) (me_meth (ps := ["self", "thing"]) tk rfl (me_var 0) (He.cls_ok (S.fact 12 rfl)) (meth_ok (S.fact 51 rfl)) O_Like_same_class (hr.mono (by decide : 1 ≤ 1)) B_Like_same_class .nil Filled.nil (ma_cons (me_var 1) ma_nil))))) (me_one (me_cmp (op_eqD hr.units) os_eq (me_orM (me_meth0 (ps := ["self"]) tk rfl (me_var 0) (He.cls_ok (S.fact 20 rfl)) (meth_ok (S.fact 52 rfl)) O_Rule_steps_of (hr.mono (by decide : 1 ≤ 1)) B_Rule_steps_of .nil Filled.nil ) (me_orM (me_meth0 (ps := ["self"]) tk rfl (me_var 0) (He.cls_ok (S.fact 8 rfl)) (meth_ok (S.fact 53 rfl)) O_By_steps_of (hr.mono (by decide : 1 ≤ 1)) B_By_steps_of .nil Filled.nil ) (me_orM (me_meth0 (ps := ["self"]) tk rfl (me_var 0) (He.cls_ok (S.fact 16 rfl)) (meth_ok (S.fact 54 rfl)) O_Rule_steps_of (hr.mono (by decide : 1 ≤ 1)) B_Rule_steps_of .nil Filled.nil ) (me_meth0 (ps := ["self"]) tk rfl (me_var 0) (He.cls_ok (S.fact 12 rfl)) (meth_ok (S.fact 55 rfl)) O_Rule_steps_of (hr.mono (by decide : 1 ≤ 1)) B_Rule_steps_of .nil Filled.nil )))) (me_orM (me_meth0 (ps := ["self"]) tk rfl (me_var 1) (He.cls_ok (S.fact 20 rfl)) (meth_ok (S.fact 52 rfl)) O_Rule_steps_of (hr.mono (by decide : 1 ≤ 1)) B_Rule_steps_of .nil Filled.nil ) (me_orM (me_meth0 (ps := ["self"]) tk rfl (me_var 1) (He.cls_ok (S.fact 8 rfl)) (meth_ok (S.fact 53 rfl)) O_By_steps_of (hr.mono (by decide : 1 ≤ 1)) B_By_steps_of .nil Filled.nil ) (me_orM (me_meth0 (ps := ["self"]) tk rfl (me_var 1) (He.cls_ok (S.fact 16 rfl)) (meth_ok (S.fact 54 rfl)) O_Rule_steps_of (hr.mono (by decide : 1 ≤ 1)) B_Rule_steps_of .nil Filled.nil ) (me_meth0 (ps := ["self"]) tk rfl (me_var 1) (He.cls_ok (S.fact 12 rfl)) (meth_ok (S.fact 55 rfl)) O_Rule_steps_of (hr.mono (by decide : 1 ≤ 1)) B_Rule_steps_of .nil Filled.nil )))))))))
theorem sc__law_alike_right : FnScope ["_law_steps", "_law_some", "_law_k", "_law_one", "_law_other", "_law_at"] ["_law_steps"] (defScope (top 18)) := ⟨rfl, rfl, rfl, by decide +kernel, rfl, by decide +kernel, by decide +kernel⟩
theorem ok__law_alike_right (S : SaysB fa fnl K) (KX : K.In h) (G : h.Ns mainGlobals mg) : ∃ fd, FunD K "_law_alike_right" "_law_alike_right" (defArgs (top 18)) (defBody (top 18)) (defScope (top 18)) [] [] (He.fAd K ("_law_alike_right", none)) fd ∧ FnOk P w K mg base (L2.CX P w) 4 (He.fAd K ("_law_alike_right", none)) fd ["_law_steps"] (spM ⟨P, w, K⟩ 1 d__law_alike_right) := by
  obtain ⟨fd, F⟩ := S.def_ 10 rfl
  obtain ⟨fd_By_ZinitZ, F_By_ZinitZ, O_By_ZinitZ⟩ := ok_By_ZinitZ (P := P) (w := w) (base := base) S KX G
  have B_By_ZinitZ : L2.Binds K fd_By_ZinitZ ["self", "steps"] [] := F_By_ZinitZ.bindsN fun _ _ _ _ _ _ us hl => match us, hl with | [_, _], _ => rfl
  obtain ⟨fd_Rule_ZeqZ, F_Rule_ZeqZ, O_Rule_ZeqZ⟩ := ok_Rule_ZeqZ (P := P) (w := w) (base := base) S KX G
  have B_Rule_ZeqZ : L2.Binds K fd_Rule_ZeqZ ["self", "thing"] [] := F_Rule_ZeqZ.bindsN fun _ _ _ _ _ _ us hl => match us, hl with | [_, _], _ => rfl
  refine ⟨fd, F, fn_ok (C := ⟨P, w, K⟩) (N := ["_law_steps", "_law_some", "_law_k", "_law_one", "_law_other", "_law_at"]) F sc__law_alike_right (fun cdv A outer s H E hr => ?_)⟩
  have tk : Takes (cxOf (L2.CX P w) P w K mg base ["_law_steps", "_law_some", "_law_k", "_law_one", "_law_other", "_law_at"] "_law_alike_right" (defScope (top 18)) (He.fAd K ("_law_alike_right", none)) cdv A outer s H E) (fun cls od _ H => E cls od H) := takes_of rfl rfl rfl rfl
  have pw : PassesOwn (model P w) (cxOf (L2.CX P w) P w K mg base ["_law_steps", "_law_some", "_law_k", "_law_one", "_law_other", "_law_at"] "_law_alike_right" (defScope (top 18)) (He.fAd K ("_law_alike_right", none)) cdv A outer s H E).A (cxOf (L2.CX P w) P w K mg base ["_law_steps", "_law_some", "_law_k", "_law_one", "_law_other", "_law_at"] "_law_alike_right" (defScope (top 18)) (He.fAd K ("_law_alike_right", none)) cdv A outer s H E).env (cxOf (L2.CX P w) P w K mg base ["_law_steps", "_law_some", "_law_k", "_law_one", "_law_other", "_law_at"] "_law_alike_right" (defScope (top 18)) (He.fAd K ("_law_alike_right", none)) cdv A outer s H E).xe := passes_of rfl
  exact (ms_cons
  (ms_set (i := 1) sc__law_alike_right.nd rfl (by first | exact Or.inl rfl | exact Or.inr rfl) (me_lst (ma_cons (me_makeO rfl (mko_ok (S.fact 18 rfl)) (by exact rfl) (He.glo_ok KX G (S.fact 19 rfl))) (ma_cons (me_make (ps := ["self", "steps"]) rfl tk (mk_ok (S.fact 6 rfl)) O_By_ZinitZ (hr.mono (by decide : 3 ≤ 3)) (by exact rfl) (He.glo_ok KX G (S.fact 7 rfl)) B_By_ZinitZ .nil Filled.nil (ma_cons (me_var 0) ma_nil)) (ma_cons (me_make (ps := ["self", "steps"]) rfl tk (mk_ok (S.fact 6 rfl)) O_By_ZinitZ (hr.mono (by decide : 3 ≤ 3)) (by exact rfl) (He.glo_ok KX G (S.fact 7 rfl)) B_By_ZinitZ .nil Filled.nil (ma_cons (me_bin or_add os_add (me_var 0) me_int) ma_nil)) (ma_cons (me_makeO rfl (mko_ok (S.fact 14 rfl)) (by exact rfl) (He.glo_ok KX G (S.fact 15 rfl))) (ma_cons (me_makeO rfl (mko_ok (S.fact 10 rfl)) (by exact rfl) (He.glo_ok KX G (S.fact 11 rfl))) ma_nil)))))))
  (ms_cons
  (ms_for pw rfl (mi_enumA rfl (by exact rfl) (He.free_ok KX G (S.fact 46 rfl)) (ma_cons (me_var 1) ma_nil)) (mg_tup rfl rfl (mgs_cons (mg_name (i := 2) sc__law_alike_right.nd rfl (by first | exact Or.inl rfl | exact Or.inr rfl)) (mgs_cons (mg_name (i := 3) sc__law_alike_right.nd rfl (by first | exact Or.inl rfl | exact Or.inr rfl)) mgs_nil)) rfl rfl (tgl_cons (tgl_cons tgl_nil)))
  (ms_cons
  (ms_if (mt_w (mw_or (mt_cmp (op_neD hr.units) os_ne (me_lc (own := [("_law_other", 4)]) rfl sc__law_alike_right.nd (mi_any rfl (me_var 1)) (blk_of rfl (by kernel_rfl)) (fun _ _ _ _ _ => by exact (pg_name (i := 4) sc__law_alike_right.nd rfl (by first | exact Or.inl rfl | exact Or.inr rfl))) (tgw_name 4 (by decide)) (fun _ _ _ _ _ => by exact mts_nil) (fun _ _ _ _ _ => by exact (me_orM (me_cmp (or_own O_Rule_ZeqZ (hr.mono (by decide : 2 ≤ 3)) B_Rule_ZeqZ (meth_ok (S.fact 38 rfl)).at_ (meth_ok (S.fact 38 rfl)).fn) (os_own (kit_ok (S.fact 36 rfl)) (notF_ok (S.fact 39 rfl))) (me_var 3) (me_var 4)) (me_orM (me_cmp (or_own O_Rule_ZeqZ (hr.mono (by decide : 2 ≤ 3)) B_Rule_ZeqZ (meth_ok (S.fact 40 rfl)).at_ (meth_ok (S.fact 40 rfl)).fn) (os_own (kit_ok (S.fact 36 rfl)) (notF_ok (S.fact 41 rfl))) (me_var 3) (me_var 4)) (me_orM (me_cmp (or_own O_Rule_ZeqZ (hr.mono (by decide : 2 ≤ 3)) B_Rule_ZeqZ (meth_ok (S.fact 42 rfl)).at_ (meth_ok (S.fact 42 rfl)).fn) (os_own (kit_ok (S.fact 36 rfl)) (notF_ok (S.fact 43 rfl))) (me_var 3) (me_var 4)) (me_cmp (or_own O_Rule_ZeqZ (hr.mono (by decide : 2 ≤ 3)) B_Rule_ZeqZ (meth_ok (S.fact 44 rfl)).at_ (meth_ok (S.fact 44 rfl)).fn) (os_own (kit_ok (S.fact 36 rfl)) (notF_ok (S.fact 45 rfl))) (me_var 3) (me_var 4))))))) (me_lc (own := [("_law_at", 5)]) rfl sc__law_alike_right.nd (mi_range1 (by exact rfl) (He.free_ok KX G (S.fact 3 rfl)) (ma_cons me_int ma_nil)) (blk_of rfl (by kernel_rfl)) (fun _ _ _ _ _ => by exact (pg_name (i := 5) sc__law_alike_right.nd rfl (by first | exact Or.inl rfl | exact Or.inr rfl))) (tgw_name 5 (by decide)) (fun _ _ _ _ _ => by exact mts_nil) (fun _ _ _ _ _ => by exact (me_cmp (op_eqD hr.units) os_eq (me_var 5) (me_var 2))))) (mw_or (mt_orT (mt_cmp (or_own O_Rule_ZeqZ (hr.mono (by decide : 2 ≤ 3)) B_Rule_ZeqZ (meth_ok (S.fact 38 rfl)).at_ (meth_ok (S.fact 38 rfl)).fn) (os_own (kit_ok (S.fact 36 rfl)) (notF_ok (S.fact 39 rfl))) (me_var 3) me_str) (mt_orT (mt_cmp (or_own O_Rule_ZeqZ (hr.mono (by decide : 2 ≤ 3)) B_Rule_ZeqZ (meth_ok (S.fact 40 rfl)).at_ (meth_ok (S.fact 40 rfl)).fn) (os_own (kit_ok (S.fact 36 rfl)) (notF_ok (S.fact 41 rfl))) (me_var 3) me_str) (mt_orT (mt_cmp (or_own O_Rule_ZeqZ (hr.mono (by decide : 2 ≤ 3)) B_Rule_ZeqZ (meth_ok (S.fact 42 rfl)).at_ (meth_ok (S.fact 42 rfl)).fn) (os_own (kit_ok (S.fact 36 rfl)) (notF_ok (S.fact 43 rfl))) (me_var 3) me_str) (mt_cmp (or_own O_Rule_ZeqZ (hr.mono (by decide : 2 ≤ 3)) B_Rule_ZeqZ (meth_ok (S.fact 44 rfl)).at_ (meth_ok (S.fact 44 rfl)).fn) (os_own (kit_ok (S.fact 36 rfl)) (notF_ok (S.fact 45 rfl))) (me_var 3) me_str)))) (mw_or1 (mt_orT (mt_cmp (or_own O_Rule_ZeqZ (hr.mono (by decide : 2 ≤ 3)) B_Rule_ZeqZ (meth_ok (S.fact 38 rfl)).at_ (meth_ok (S.fact 38 rfl)).fn) (os_own (kit_ok (S.fact 36 rfl)) (notF_ok (S.fact 39 rfl))) (me_var 3) me_non) (mt_orT (mt_cmp (or_own O_Rule_ZeqZ (hr.mono (by decide : 2 ≤ 3)) B_Rule_ZeqZ (meth_ok (S.fact 40 rfl)).at_ (meth_ok (S.fact 40 rfl)).fn) (os_own (kit_ok (S.fact 36 rfl)) (notF_ok (S.fact 41 rfl))) (me_var 3) me_non) (mt_orT (mt_cmp (or_own O_Rule_ZeqZ (hr.mono (by decide : 2 ≤ 3)) B_Rule_ZeqZ (meth_ok (S.fact 42 rfl)).at_ (meth_ok (S.fact 42 rfl)).fn) (os_own (kit_ok (S.fact 36 rfl)) (notF_ok (S.fact 43 rfl))) (me_var 3) me_non) (mt_cmp (or_own O_Rule_ZeqZ (hr.mono (by decide : 2 ≤ 3)) B_Rule_ZeqZ (meth_ok (S.fact 44 rfl)).at_ (meth_ok (S.fact 44 rfl)).fn) (os_own (kit_ok (S.fact 36 rfl)) (notF_ok (S.fact 45 rfl))) (me_var 3) me_non))))))))
  (ms_one (ms_ret me_bl))
  ms_nil)
  (ms_one (ms_if (mt_w (mw_or (mt_not (mt_val (me_callB cr_isi (cs_isi (kit_ok (S.fact 36 rfl))) (by exact rfl) (He.free_ok KX G (S.fact 27 rfl)) (by decide +kernel) (ma_cons (me_var 3) (ma_cons (me_glo (by exact rfl) (He.glo_ok KX G (S.fact 47 rfl))) ma_nil))))) (mw_or1 (mt_cmp (op_neD hr.units) os_ne (me_lst (ma_cons (me_callB cr_isi (cs_isi (kit_ok (S.fact 36 rfl))) (by exact rfl) (He.free_ok KX G (S.fact 27 rfl)) (by decide +kernel) (ma_cons (me_var 3) (ma_cons (me_glo (by exact rfl) (He.glo_ok KX G (S.fact 19 rfl))) ma_nil))) (ma_cons (me_callB cr_isi (cs_isi (kit_ok (S.fact 36 rfl))) (by exact rfl) (He.free_ok KX G (S.fact 27 rfl)) (by decide +kernel) (ma_cons (me_var 3) (ma_cons (me_glo (by exact rfl) (He.glo_ok KX G (S.fact 15 rfl))) ma_nil))) ma_nil))) (me_lst (ma_cons (me_cmp (op_eqD hr.units) os_eq (me_var 2) me_int) (ma_cons (me_cmp (op_eqD hr.units) os_eq (me_var 2) me_int) ma_nil)))))))
  (ms_one (ms_ret me_bl))
  ms_nil))))
  (ms_one (ms_ret (me_and (me_orM (me_cmp (or_own O_Rule_ZeqZ (hr.mono (by decide : 2 ≤ 3)) B_Rule_ZeqZ (meth_ok (S.fact 38 rfl)).at_ (meth_ok (S.fact 38 rfl)).fn) (os_own (kit_ok (S.fact 36 rfl)) (notF_ok (S.fact 39 rfl))) (me_make (ps := ["self", "steps"]) rfl tk (mk_ok (S.fact 6 rfl)) O_By_ZinitZ (hr.mono (by decide : 3 ≤ 3)) (by exact rfl) (He.glo_ok KX G (S.fact 7 rfl)) B_By_ZinitZ .nil Filled.nil (ma_cons (me_var 0) ma_nil)) (me_ix rfl (me_var 1) me_int)) (me_orM (me_cmp (or_own O_Rule_ZeqZ (hr.mono (by decide : 2 ≤ 3)) B_Rule_ZeqZ (meth_ok (S.fact 40 rfl)).at_ (meth_ok (S.fact 40 rfl)).fn) (os_own (kit_ok (S.fact 36 rfl)) (notF_ok (S.fact 41 rfl))) (me_make (ps := ["self", "steps"]) rfl tk (mk_ok (S.fact 6 rfl)) O_By_ZinitZ (hr.mono (by decide : 3 ≤ 3)) (by exact rfl) (He.glo_ok KX G (S.fact 7 rfl)) B_By_ZinitZ .nil Filled.nil (ma_cons (me_var 0) ma_nil)) (me_ix rfl (me_var 1) me_int)) (me_orM (me_cmp (or_own O_Rule_ZeqZ (hr.mono (by decide : 2 ≤ 3)) B_Rule_ZeqZ (meth_ok (S.fact 42 rfl)).at_ (meth_ok (S.fact 42 rfl)).fn) (os_own (kit_ok (S.fact 36 rfl)) (notF_ok (S.fact 43 rfl))) (me_make (ps := ["self", "steps"]) rfl tk (mk_ok (S.fact 6 rfl)) O_By_ZinitZ (hr.mono (by decide : 3 ≤ 3)) (by exact rfl) (He.glo_ok KX G (S.fact 7 rfl)) B_By_ZinitZ .nil Filled.nil (ma_cons (me_var 0) ma_nil)) (me_ix rfl (me_var 1) me_int)) (me_cmp (or_own O_Rule_ZeqZ (hr.mono (by decide : 2 ≤ 3)) B_Rule_ZeqZ (meth_ok (S.fact 44 rfl)).at_ (meth_ok (S.fact 44 rfl)).fn) (os_own (kit_ok (S.fact 36 rfl)) (notF_ok (S.fact 45 rfl))) (me_make (ps := ["self", "steps"]) rfl tk (mk_ok (S.fact 6 rfl)) O_By_ZinitZ (hr.mono (by decide : 3 ≤ 3)) (by exact rfl) (He.glo_ok KX G (S.fact 7 rfl)) B_By_ZinitZ .nil Filled.nil (ma_cons (me_var 0) ma_nil)) (me_ix rfl (me_var 1) me_int))))) (me_and (me_cmp (op_eqD hr.units) os_eq (me_fld rfl (me_ix rfl (me_var 1) me_int) (has_ok (S.fact 32 rfl))) (me_var 0)) (me_and (me_orM (me_cmp (or_own O_Rule_ZeqZ (hr.mono (by decide : 2 ≤ 3)) B_Rule_ZeqZ (meth_ok (S.fact 38 rfl)).at_ (meth_ok (S.fact 38 rfl)).fn) (os_own (kit_ok (S.fact 36 rfl)) (notF_ok (S.fact 39 rfl))) (me_makeO rfl (mko_ok (S.fact 18 rfl)) (by exact rfl) (He.glo_ok KX G (S.fact 19 rfl))) (me_ix rfl (me_var 1) me_int)) (me_orM (me_cmp (or_own O_Rule_ZeqZ (hr.mono (by decide : 2 ≤ 3)) B_Rule_ZeqZ (meth_ok (S.fact 40 rfl)).at_ (meth_ok (S.fact 40 rfl)).fn) (os_own (kit_ok (S.fact 36 rfl)) (notF_ok (S.fact 41 rfl))) (me_makeO rfl (mko_ok (S.fact 18 rfl)) (by exact rfl) (He.glo_ok KX G (S.fact 19 rfl))) (me_ix rfl (me_var 1) me_int)) (me_orM (me_cmp (or_own O_Rule_ZeqZ (hr.mono (by decide : 2 ≤ 3)) B_Rule_ZeqZ (meth_ok (S.fact 42 rfl)).at_ (meth_ok (S.fact 42 rfl)).fn) (os_own (kit_ok (S.fact 36 rfl)) (notF_ok (S.fact 43 rfl))) (me_makeO rfl (mko_ok (S.fact 18 rfl)) (by exact rfl) (He.glo_ok KX G (S.fact 19 rfl))) (me_ix rfl (me_var 1) me_int)) (me_cmp (or_own O_Rule_ZeqZ (hr.mono (by decide : 2 ≤ 3)) B_Rule_ZeqZ (meth_ok (S.fact 44 rfl)).at_ (meth_ok (S.fact 44 rfl)).fn) (os_own (kit_ok (S.fact 36 rfl)) (notF_ok (S.fact 45 rfl))) (me_makeO rfl (mko_ok (S.fact 18 rfl)) (by exact rfl) (He.glo_ok KX G (S.fact 19 rfl))) (me_ix rfl (me_var 1) me_int))))) (me_one (me_orM (me_cmp (or_own O_Rule_ZeqZ (hr.mono (by decide : 2 ≤ 3)) B_Rule_ZeqZ (meth_ok (S.fact 38 rfl)).at_ (meth_ok (S.fact 38 rfl)).fn) (os_own (kit_ok (S.fact 36 rfl)) (notF_ok (S.fact 39 rfl))) (me_makeO rfl (mko_ok (S.fact 10 rfl)) (by exact rfl) (He.glo_ok KX G (S.fact 11 rfl))) (me_ix rfl (me_var 1) me_int)) (me_orM (me_cmp (or_own O_Rule_ZeqZ (hr.mono (by decide : 2 ≤ 3)) B_Rule_ZeqZ (meth_ok (S.fact 40 rfl)).at_ (meth_ok (S.fact 40 rfl)).fn) (os_own (kit_ok (S.fact 36 rfl)) (notF_ok (S.fact 41 rfl))) (me_makeO rfl (mko_ok (S.fact 10 rfl)) (by exact rfl) (He.glo_ok KX G (S.fact 11 rfl))) (me_ix rfl (me_var 1) me_int)) (me_orM (me_cmp (or_own O_Rule_ZeqZ (hr.mono (by decide : 2 ≤ 3)) B_Rule_ZeqZ (meth_ok (S.fact 42 rfl)).at_ (meth_ok (S.fact 42 rfl)).fn) (os_own (kit_ok (S.fact 36 rfl)) (notF_ok (S.fact 43 rfl))) (me_makeO rfl (mko_ok (S.fact 10 rfl)) (by exact rfl) (He.glo_ok KX G (S.fact 11 rfl))) (me_ix rfl (me_var 1) me_int)) (me_cmp (or_own O_Rule_ZeqZ (hr.mono (by decide : 2 ≤ 3)) B_Rule_ZeqZ (meth_ok (S.fact 44 rfl)).at_ (meth_ok (S.fact 44 rfl)).fn) (os_own (kit_ok (S.fact 36 rfl)) (notF_ok (S.fact 45 rfl))) (me_makeO rfl (mko_ok (S.fact 10 rfl)) (by exact rfl) (He.glo_ok KX G (S.fact 11 rfl))) (me_ix rfl (me_var 1) me_int)))))))))))))
theorem sc__law_like : FnScope ["_law_row", "_law_place", "_law_found", "_law_at", "_law_sign"] ["_law_row", "_law_place"] (defScope (top 16)) := ⟨rfl, rfl, rfl, by decide +kernel, rfl, by decide +kernel, by decide +kernel⟩
theorem ok__law_like (S : SaysB fa fnl K) (KX : K.In h) (G : h.Ns mainGlobals mg) : ∃ fd, FunD K "_law_like" "_law_like" (defArgs (top 16)) (defBody (top 16)) (defScope (top 16)) [] [] (He.fAd K ("_law_like", none)) fd ∧ FnOk P w K mg base (L2.CX P w) 1 (He.fAd K ("_law_like", none)) fd ["_law_row", "_law_place"] (spM ⟨P, w, K⟩ 2 d__law_like) := by
  obtain ⟨fd, F⟩ := S.def_ 11 rfl
  refine ⟨fd, F, fn_ok (C := ⟨P, w, K⟩) (N := ["_law_row", "_law_place", "_law_found", "_law_at", "_law_sign"]) F sc__law_like (fun cdv A outer s H E hr => ?_)⟩
  have tk : Takes (cxOf (L2.CX P w) P w K mg base ["_law_row", "_law_place", "_law_found", "_law_at", "_law_sign"] "_law_like" (defScope (top 16)) (He.fAd K ("_law_like", none)) cdv A outer s H E) (fun cls od _ H => E cls od H) := takes_of rfl rfl rfl rfl
  have pw : PassesOwn (model P w) (cxOf (L2.CX P w) P w K mg base ["_law_row", "_law_place", "_law_found", "_law_at", "_law_sign"] "_law_like" (defScope (top 16)) (He.fAd K ("_law_like", none)) cdv A outer s H E).A (cxOf (L2.CX P w) P w K mg base ["_law_row", "_law_place", "_law_found", "_law_at", "_law_sign"] "_law_like" (defScope (top 16)) (He.fAd K ("_law_like", none)) cdv A outer s H E).env (cxOf (L2.CX P w) P w K mg base ["_law_row", "_law_place", "_law_found", "_law_at", "_law_sign"] "_law_like" (defScope (top 16)) (He.fAd K ("_law_like", none)) cdv A outer s H E).xe := passes_of rfl
  exact (ms_cons
  (ms_set (i := 2) sc__law_like.nd rfl (by first | exact Or.inl rfl | exact Or.inr rfl) (me_var 1))
  (ms_cons
  (ms_for pw rfl (mi_range1 (by exact rfl) (He.free_ok KX G (S.fact 3 rfl)) (ma_cons (me_var 1) ma_nil)) (mg_name (i := 3) sc__law_like.nd rfl (by first | exact Or.inl rfl | exact Or.inr rfl))
  (ms_one (ms_if (mt_cmp (op_neD hr.units) os_ne (me_lc (own := [("_law_sign", 4)]) rfl sc__law_like.nd (mi_any rfl (me_ix rfl (me_var 0) (me_var 1))) (blk_of rfl (by kernel_rfl)) (fun _ _ _ _ _ => by exact (pg_name (i := 4) sc__law_like.nd rfl (by first | exact Or.inl rfl | exact Or.inr rfl))) (tgw_name 4 (by decide)) (fun _ _ _ _ _ => by exact (mts_one (mt_cmp or_in os_in (me_var 4) (me_ix rfl (me_var 0) (me_var 3))))) (fun _ _ _ _ _ => by exact (me_var 4))) (me_lst ma_nil))
  (ms_one (ms_set (i := 2) sc__law_like.nd rfl (by first | exact Or.inl rfl | exact Or.inr rfl) (me_bin or_add os_add (me_var 3) me_int)))
  ms_nil)))
  (ms_one (ms_ret (me_var 2)))))
theorem sc_By_aim : FnScope ["self", "row", "place"] ["self", "row", "place"] (defScope ((clsDefs (top 9)).getD 3 (.Pass ⟨0, 0, 0, 0⟩))) := ⟨rfl, rfl, rfl, by decide +kernel, rfl, by decide +kernel, by decide +kernel⟩
theorem ok_By_aim (S : SaysB fa fnl K) (KX : K.In h) (G : h.Ns mainGlobals mg) : ∃ fd, FunD K "aim" "By.aim" (defArgs ((clsDefs (top 9)).getD 3 (.Pass ⟨0, 0, 0, 0⟩))) (defBody ((clsDefs (top 9)).getD 3 (.Pass ⟨0, 0, 0, 0⟩))) (defScope ((clsDefs (top 9)).getD 3 (.Pass ⟨0, 0, 0, 0⟩))) [] [] (He.fAd K ("By", some "aim")) fd ∧ FnOk P w K mg base (L2.CX P w) 1 (He.fAd K ("By", some "aim")) fd ["self", "row", "place"] (spM ⟨P, w, K⟩ 3 d_By_aim) := by
  obtain ⟨fd, F⟩ := S.def_ 12 rfl
  refine ⟨fd, F, fn_ok (C := ⟨P, w, K⟩) (N := ["self", "row", "place"]) F sc_By_aim (fun cdv A outer s H E hr => ?_)⟩
  have tk : Takes (cxOf (L2.CX P w) P w K mg base ["self", "row", "place"] "By.aim" (defScope ((clsDefs (top 9)).getD 3 (.Pass ⟨0, 0, 0, 0⟩))) (He.fAd K ("By", some "aim")) cdv A outer s H E) (fun cls od _ H => E cls od H) := takes_of rfl rfl rfl rfl
  have pw : PassesOwn (model P w) (cxOf (L2.CX P w) P w K mg base ["self", "row", "place"] "By.aim" (defScope ((clsDefs (top 9)).getD 3 (.Pass ⟨0, 0, 0, 0⟩))) (He.fAd K ("By", some "aim")) cdv A outer s H E).A (cxOf (L2.CX P w) P w K mg base ["self", "row", "place"] "By.aim" (defScope ((clsDefs (top 9)).getD 3 (.Pass ⟨0, 0, 0, 0⟩))) (He.fAd K ("By", some "aim")) cdv A outer s H E).env (cxOf (L2.CX P w) P w K mg base ["self", "row", "place"] "By.aim" (defScope ((clsDefs (top 9)).getD 3 (.Pass ⟨0, 0, 0, 0⟩))) (He.fAd K ("By", some "aim")) cdv A outer s H E).xe := passes_of rfl
  exact (ms_one (ms_ret (me_callB (call_max2 rfl) cs_max2 (by exact rfl) (He.free_ok KX G (S.fact 4 rfl)) (by decide +kernel) (ma_cons me_int (ma_cons (me_bin op_sub os_sub (me_var 2) (me_fld rfl (me_var 0) (has_ok (S.fact 32 rfl)))) ma_nil)))))
theorem sc_Like_aim : FnScope ["self", "row", "place", "at", "sign"] ["self", "row", "place"] (defScope ((clsDefs (top 11)).getD 1 (.Pass ⟨0, 0, 0, 0⟩))) := ⟨rfl, rfl, rfl, by decide +kernel, rfl, by decide +kernel, by decide +kernel⟩
theorem ok_Like_aim (S : SaysB fa fnl K) (KX : K.In h) (G : h.Ns mainGlobals mg) : ∃ fd, FunD K "aim" "Like.aim" (defArgs ((clsDefs (top 11)).getD 1 (.Pass ⟨0, 0, 0, 0⟩))) (defBody ((clsDefs (top 11)).getD 1 (.Pass ⟨0, 0, 0, 0⟩))) (defScope ((clsDefs (top 11)).getD 1 (.Pass ⟨0, 0, 0, 0⟩))) [] [] (He.fAd K ("Like", some "aim")) fd ∧ FnOk P w K mg base (L2.CX P w) 1 (He.fAd K ("Like", some "aim")) fd ["self", "row", "place"] (spM ⟨P, w, K⟩ 3 d_Like_aim) := by
  obtain ⟨fd, F⟩ := S.def_ 13 rfl
  refine ⟨fd, F, fn_ok (C := ⟨P, w, K⟩) (N := ["self", "row", "place", "at", "sign"]) F sc_Like_aim (fun cdv A outer s H E hr => ?_)⟩
  have tk : Takes (cxOf (L2.CX P w) P w K mg base ["self", "row", "place", "at", "sign"] "Like.aim" (defScope ((clsDefs (top 11)).getD 1 (.Pass ⟨0, 0, 0, 0⟩))) (He.fAd K ("Like", some "aim")) cdv A outer s H E) (fun cls od _ H => E cls od H) := takes_of rfl rfl rfl rfl
  have pw : PassesOwn (model P w) (cxOf (L2.CX P w) P w K mg base ["self", "row", "place", "at", "sign"] "Like.aim" (defScope ((clsDefs (top 11)).getD 1 (.Pass ⟨0, 0, 0, 0⟩))) (He.fAd K ("Like", some "aim")) cdv A outer s H E).A (cxOf (L2.CX P w) P w K mg base ["self", "row", "place", "at", "sign"] "Like.aim" (defScope ((clsDefs (top 11)).getD 1 (.Pass ⟨0, 0, 0, 0⟩))) (He.fAd K ("Like", some "aim")) cdv A outer s H E).env (cxOf (L2.CX P w) P w K mg base ["self", "row", "place", "at", "sign"] "Like.aim" (defScope ((clsDefs (top 11)).getD 1 (.Pass ⟨0, 0, 0, 0⟩))) (He.fAd K ("Like", some "aim")) cdv A outer s H E).xe := passes_of rfl
  exact (ms_cons
  (ms_for pw rfl (mi_range3 (by exact rfl) (He.free_ok KX G (S.fact 3 rfl)) (ma_cons (me_bin op_sub os_sub (me_var 2) me_int) (ma_cons (me_un un_neg us_neg me_int) (ma_cons (me_un un_neg us_neg me_int) ma_nil)))) (mg_name (i := 3) sc_Like_aim.nd rfl (by first | exact Or.inl rfl | exact Or.inr rfl))
  (ms_one (ms_if (mt_val (me_callB (cr_any rfl) cs_any (by exact rfl) (He.free_ok KX G (S.fact 56 rfl)) (by decide +kernel) (ma_cons (me_lc (own := [("sign", 4)]) rfl sc_Like_aim.nd (mi_any rfl (me_ix rfl (me_var 1) (me_var 2))) (blk_of rfl (by kernel_rfl)) (fun _ _ _ _ _ => by exact (pg_name (i := 4) sc_Like_aim.nd rfl (by first | exact Or.inl rfl | exact Or.inr rfl))) (tgw_name 4 (by decide)) (fun _ _ _ _ _ => by exact mts_nil) (fun _ _ _ _ _ => by exact (me_cmp or_in os_in (me_var 4) (me_ix rfl (me_var 1) (me_var 3))))) ma_nil)))
  (ms_one (ms_ret (me_bin or_add os_add (me_var 3) me_int)))
  ms_nil)))
  (ms_one (ms_ret (me_var 2))))
theorem sc_Half_aim : FnScope ["self", "row", "place"] ["self", "row", "place"] (defScope ((clsDefs (top 10)).getD 1 (.Pass ⟨0, 0, 0, 0⟩))) := ⟨rfl, rfl, rfl, by decide +kernel, rfl, by decide +kernel, by decide +kernel⟩
theorem ok_Half_aim (S : SaysB fa fnl K) (KX : K.In h) (G : h.Ns mainGlobals mg) : ∃ fd, FunD K "aim" "Half.aim" (defArgs ((clsDefs (top 10)).getD 1 (.Pass ⟨0, 0, 0, 0⟩))) (defBody ((clsDefs (top 10)).getD 1 (.Pass ⟨0, 0, 0, 0⟩))) (defScope ((clsDefs (top 10)).getD 1 (.Pass ⟨0, 0, 0, 0⟩))) [] [] (He.fAd K ("Half", some "aim")) fd ∧ FnOk P w K mg base (L2.CX P w) 1 (He.fAd K ("Half", some "aim")) fd ["self", "row", "place"] (spM ⟨P, w, K⟩ 3 d_Half_aim) := by
  obtain ⟨fd, F⟩ := S.def_ 14 rfl
  refine ⟨fd, F, fn_ok (C := ⟨P, w, K⟩) (N := ["self", "row", "place"]) F sc_Half_aim (fun cdv A outer s H E hr => ?_)⟩
  have tk : Takes (cxOf (L2.CX P w) P w K mg base ["self", "row", "place"] "Half.aim" (defScope ((clsDefs (top 10)).getD 1 (.Pass ⟨0, 0, 0, 0⟩))) (He.fAd K ("Half", some "aim")) cdv A outer s H E) (fun cls od _ H => E cls od H) := takes_of rfl rfl rfl rfl
  have pw : PassesOwn (model P w) (cxOf (L2.CX P w) P w K mg base ["self", "row", "place"] "Half.aim" (defScope ((clsDefs (top 10)).getD 1 (.Pass ⟨0, 0, 0, 0⟩))) (He.fAd K ("Half", some "aim")) cdv A outer s H E).A (cxOf (L2.CX P w) P w K mg base ["self", "row", "place"] "Half.aim" (defScope ((clsDefs (top 10)).getD 1 (.Pass ⟨0, 0, 0, 0⟩))) (He.fAd K ("Half", some "aim")) cdv A outer s H E).env (cxOf (L2.CX P w) P w K mg base ["self", "row", "place"] "Half.aim" (defScope ((clsDefs (top 10)).getD 1 (.Pass ⟨0, 0, 0, 0⟩))) (He.fAd K ("Half", some "aim")) cdv A outer s H E).xe := passes_of rfl
  exact (ms_one (ms_ret (me_bin op_fdiv os_div (me_var 2) me_int)))
theorem sc_Front_aim : FnScope ["self", "row", "place"] ["self", "row", "place"] (defScope ((clsDefs (top 8)).getD 1 (.Pass ⟨0, 0, 0, 0⟩))) := ⟨rfl, rfl, rfl, by decide +kernel, rfl, by decide +kernel, by decide +kernel⟩
theorem ok_Front_aim (S : SaysB fa fnl K) (KX : K.In h) (G : h.Ns mainGlobals mg) : ∃ fd, FunD K "aim" "Front.aim" (defArgs ((clsDefs (top 8)).getD 1 (.Pass ⟨0, 0, 0, 0⟩))) (defBody ((clsDefs (top 8)).getD 1 (.Pass ⟨0, 0, 0, 0⟩))) (defScope ((clsDefs (top 8)).getD 1 (.Pass ⟨0, 0, 0, 0⟩))) [] [] (He.fAd K ("Front", some "aim")) fd ∧ FnOk P w K mg base (L2.CX P w) 1 (He.fAd K ("Front", some "aim")) fd ["self", "row", "place"] (spM ⟨P, w, K⟩ 3 d_Front_aim) := by
  obtain ⟨fd, F⟩ := S.def_ 15 rfl
  refine ⟨fd, F, fn_ok (C := ⟨P, w, K⟩) (N := ["self", "row", "place"]) F sc_Front_aim (fun cdv A outer s H E hr => ?_)⟩
  have tk : Takes (cxOf (L2.CX P w) P w K mg base ["self", "row", "place"] "Front.aim" (defScope ((clsDefs (top 8)).getD 1 (.Pass ⟨0, 0, 0, 0⟩))) (He.fAd K ("Front", some "aim")) cdv A outer s H E) (fun cls od _ H => E cls od H) := takes_of rfl rfl rfl rfl
  have pw : PassesOwn (model P w) (cxOf (L2.CX P w) P w K mg base ["self", "row", "place"] "Front.aim" (defScope ((clsDefs (top 8)).getD 1 (.Pass ⟨0, 0, 0, 0⟩))) (He.fAd K ("Front", some "aim")) cdv A outer s H E).A (cxOf (L2.CX P w) P w K mg base ["self", "row", "place"] "Front.aim" (defScope ((clsDefs (top 8)).getD 1 (.Pass ⟨0, 0, 0, 0⟩))) (He.fAd K ("Front", some "aim")) cdv A outer s H E).env (cxOf (L2.CX P w) P w K mg base ["self", "row", "place"] "Front.aim" (defScope ((clsDefs (top 8)).getD 1 (.Pass ⟨0, 0, 0, 0⟩))) (He.fAd K ("Front", some "aim")) cdv A outer s H E).xe := passes_of rfl
  exact (ms_one (ms_ret me_int))
theorem sc__law_digit : FnScope ["_law_state", "_law_base", "_law_found", "_law_mixed"] ["_law_state", "_law_base"] (defScope (top 14)) := ⟨rfl, rfl, rfl, by decide +kernel, rfl, by decide +kernel, by decide +kernel⟩
theorem ok__law_digit (S : SaysB fa fnl K) (KX : K.In h) (G : h.Ns mainGlobals mg) : ∃ fd, FunD K "_law_digit" "_law_digit" (defArgs (top 14)) (defBody (top 14)) (defScope (top 14)) [] [] (He.fAd K ("_law_digit", none)) fd ∧ FnOk P w K mg base (L2.CX P w) 1 (He.fAd K ("_law_digit", none)) fd ["_law_state", "_law_base"] (spM ⟨P, w, K⟩ 2 d__law_digit) := by
  obtain ⟨fd, F⟩ := S.def_ 16 rfl
  refine ⟨fd, F, fn_ok (C := ⟨P, w, K⟩) (N := ["_law_state", "_law_base", "_law_found", "_law_mixed"]) F sc__law_digit (fun cdv A outer s H E hr => ?_)⟩
  have tk : Takes (cxOf (L2.CX P w) P w K mg base ["_law_state", "_law_base", "_law_found", "_law_mixed"] "_law_digit" (defScope (top 14)) (He.fAd K ("_law_digit", none)) cdv A outer s H E) (fun cls od _ H => E cls od H) := takes_of rfl rfl rfl rfl
  have pw : PassesOwn (model P w) (cxOf (L2.CX P w) P w K mg base ["_law_state", "_law_base", "_law_found", "_law_mixed"] "_law_digit" (defScope (top 14)) (He.fAd K ("_law_digit", none)) cdv A outer s H E).A (cxOf (L2.CX P w) P w K mg base ["_law_state", "_law_base", "_law_found", "_law_mixed"] "_law_digit" (defScope (top 14)) (He.fAd K ("_law_digit", none)) cdv A outer s H E).env (cxOf (L2.CX P w) P w K mg base ["_law_state", "_law_base", "_law_found", "_law_mixed"] "_law_digit" (defScope (top 14)) (He.fAd K ("_law_digit", none)) cdv A outer s H E).xe := passes_of rfl
  exact (ms_cons
  (ms_if (mt_cmp (op_eqD hr.units) os_eq (me_callB call_len cs_len (by exact rfl) (He.free_ok KX G (S.fact 2 rfl)) (by decide +kernel) (ma_cons (me_var 0) ma_nil)) me_int)
  (ms_one (ms_expr (me_bm rfl PySem.F.plainAttrs_list PySem.F.slot_list_extend PySem.F.type_list_extend mt_extend ts_lst ms_extend (me_var 0) (ma_cons (me_lst (ma_cons (me_bin op_mod os_mod (me_ix rfl (me_var 0) me_int) me_int) (ma_cons me_int ma_nil))) ma_nil))))
  ms_nil)
  (ms_cons
  (ms_if (mt_cmp or_ge os_ge (me_ix rfl (me_var 0) me_int) (me_var 1))
  (ms_cons
  (ms_set (i := 2) sc__law_digit.nd rfl (by first | exact Or.inl rfl | exact Or.inr rfl) (me_bin op_mod os_mod (me_ix rfl (me_var 0) me_int) (me_var 1)))
  (ms_cons
  (ms_asg (me_bin op_fdiv os_div (me_ix rfl (me_var 0) me_int) (me_var 1)) (mg_sub tk (me_var 0) me_int))
  (ms_one (ms_ret (me_var 2)))))
  ms_nil)
  (ms_cons
  (ms_asg (me_bin or_add os_add (me_ix rfl (me_var 0) me_int) me_int) (mg_sub tk (me_var 0) me_int))
  (ms_cons
  (ms_set (i := 3) sc__law_digit.nd rfl (by first | exact Or.inl rfl | exact Or.inr rfl) (me_bin op_mod os_mod (me_bin op_mul os_mul (me_bin or_add os_add (me_ix rfl (me_var 0) me_int) (me_bin op_mul os_mul me_int (me_ix rfl (me_var 0) me_int))) me_int) me_int))
  (ms_one (ms_ret (me_bin op_mod os_mod (me_bin op_fdiv os_div (me_bin op_mod os_mod (me_bin op_mul os_mul (me_bin or_add os_add (me_var 3) (me_bin op_fdiv os_div (me_var 3) me_int)) (me_bin or_add os_add (me_bin op_fdiv os_div (me_var 3) me_int) me_int)) me_int) me_int) (me_var 1))))))))
theorem sc__law_marks : FnScope ["_law_state", "_law_number", "_law_signs", "_law_k", "_law_sign"] ["_law_state"] (defScope (top 15)) := ⟨rfl, rfl, rfl, by decide +kernel, rfl, by decide +kernel, by decide +kernel⟩
theorem ok__law_marks (S : SaysB fa fnl K) (KX : K.In h) (G : h.Ns mainGlobals mg) : ∃ fd, FunD K "_law_marks" "_law_marks" (defArgs (top 15)) (defBody (top 15)) (defScope (top 15)) [] [] (He.fAd K ("_law_marks", none)) fd ∧ FnOk P w K mg base (L2.CX P w) 2 (He.fAd K ("_law_marks", none)) fd ["_law_state"] (spM ⟨P, w, K⟩ 1 d__law_marks) := by
  obtain ⟨fd, F⟩ := S.def_ 17 rfl
  obtain ⟨fd__law_digit, F__law_digit, O__law_digit⟩ := ok__law_digit (P := P) (w := w) (base := base) S KX G
  have B__law_digit : L2.Binds K fd__law_digit ["_law_state", "_law_base"] [] := F__law_digit.bindsN fun _ _ _ _ _ _ us hl => match us, hl with | [_, _], _ => rfl
  refine ⟨fd, F, fn_ok (C := ⟨P, w, K⟩) (N := ["_law_state", "_law_number", "_law_signs", "_law_k", "_law_sign"]) F sc__law_marks (fun cdv A outer s H E hr => ?_)⟩
  have tk : Takes (cxOf (L2.CX P w) P w K mg base ["_law_state", "_law_number", "_law_signs", "_law_k", "_law_sign"] "_law_marks" (defScope (top 15)) (He.fAd K ("_law_marks", none)) cdv A outer s H E) (fun cls od _ H => E cls od H) := takes_of rfl rfl rfl rfl
  have pw : PassesOwn (model P w) (cxOf (L2.CX P w) P w K mg base ["_law_state", "_law_number", "_law_signs", "_law_k", "_law_sign"] "_law_marks" (defScope (top 15)) (He.fAd K ("_law_marks", none)) cdv A outer s H E).A (cxOf (L2.CX P w) P w K mg base ["_law_state", "_law_number", "_law_signs", "_law_k", "_law_sign"] "_law_marks" (defScope (top 15)) (He.fAd K ("_law_marks", none)) cdv A outer s H E).env (cxOf (L2.CX P w) P w K mg base ["_law_state", "_law_number", "_law_signs", "_law_k", "_law_sign"] "_law_marks" (defScope (top 15)) (He.fAd K ("_law_marks", none)) cdv A outer s H E).xe := passes_of rfl
  exact (ms_cons
  (ms_set (i := 1) sc__law_marks.nd rfl (by first | exact Or.inl rfl | exact Or.inr rfl) (me_call (ps := ["_law_state", "_law_base"]) tk O__law_digit (hr.mono (by decide : 1 ≤ 1)) (by exact rfl) (He.glo_ok KX G (S.fact 22 rfl)) F__law_digit.kp B__law_digit .nil Filled.nil (ma_cons (me_var 0) (ma_cons me_int ma_nil))))
  (ms_cons
  (ms_set (i := 2) sc__law_marks.nd rfl (by first | exact Or.inl rfl | exact Or.inr rfl) (me_ix rfl (me_lst (ma_cons me_str (ma_cons me_str ma_nil))) (me_call (ps := ["_law_state", "_law_base"]) tk O__law_digit (hr.mono (by decide : 1 ≤ 1)) (by exact rfl) (He.glo_ok KX G (S.fact 22 rfl)) F__law_digit.kp B__law_digit .nil Filled.nil (ma_cons (me_var 0) (ma_cons me_int ma_nil)))))
  (ms_one (ms_ret (me_bm rfl PySem.F.plainAttrs_str PySem.F.slot_str_join PySem.F.type_str_join mt_join ts_str ms_join me_str (ma_cons (me_lc (own := [("_law_k", 3), ("_law_sign", 4)]) rfl sc__law_marks.nd (mi_enumA rfl (by exact rfl) (He.free_ok KX G (S.fact 46 rfl)) (ma_cons (me_var 2) ma_nil)) (blk_of rfl (by kernel_rfl)) (fun _ _ _ _ _ => by exact (pg_tup rfl (pgs_cons (pg_name (i := 3) sc__law_marks.nd rfl (by first | exact Or.inl rfl | exact Or.inr rfl)) (pgs_cons (pg_name (i := 4) sc__law_marks.nd rfl (by first | exact Or.inl rfl | exact Or.inr rfl)) pgs_nil)))) (tgw_tup (tgw_cons (i := 3) (by decide) (tgw_cons (i := 4) (by decide) tgw_nil)) (tgl_cons (tgl_cons tgl_nil))) (fun _ _ _ _ _ => by exact (mts_one (mt_cmp (op_eqD hr.units) os_eq (me_bin op_mod os_mod (me_bin op_fdiv os_div (me_var 1) (me_ix rfl (me_lst (ma_cons me_int (ma_cons me_int (ma_cons me_int (ma_cons me_int ma_nil))))) (me_var 3))) me_int) me_int))) (fun _ _ _ _ _ => by exact (me_var 4))) ma_nil))))))
theorem sc_law : FnScope ["_law_script", "_law_cell", "_law_state", "_law_row", "_law_k", "_law_handed", "_law_steps", "_law_place", "_law_found", "_law_thing"] ["_law_script"] (defScope (top 19)) := ⟨rfl, rfl, rfl, by decide +kernel, rfl, by decide +kernel, by decide +kernel⟩
theorem ok_law (S : SaysB fa fnl K) (KX : K.In h) (G : h.Ns mainGlobals mg) : ∃ fd, FunD K "law" "law" (defArgs (top 19)) (defBody (top 19)) (defScope (top 19)) [] [] (He.fAd K ("law", none)) fd ∧ FnOk P w K mg base (L2.CX P w) 5 (He.fAd K ("law", none)) fd ["_law_script"] (spM ⟨P, w, K⟩ 1 d_law) := by
  obtain ⟨fd, F⟩ := S.def_ 18 rfl
  obtain ⟨fd__law_refused, F__law_refused, O__law_refused⟩ := ok__law_refused (P := P) (w := w) (base := base) S KX G
  have B__law_refused : L2.Binds K fd__law_refused ["_law_thing"] [] := F__law_refused.bindsN fun _ _ _ _ _ _ us hl => match us, hl with | [_], _ => rfl
  obtain ⟨fd__law_alike_right, F__law_alike_right, O__law_alike_right⟩ := ok__law_alike_right (P := P) (w := w) (base := base) S KX G
  have B__law_alike_right : L2.Binds K fd__law_alike_right ["_law_steps"] [] := F__law_alike_right.bindsN fun _ _ _ _ _ _ us hl => match us, hl with | [_], _ => rfl
  obtain ⟨fd__law_like, F__law_like, O__law_like⟩ := ok__law_like (P := P) (w := w) (base := base) S KX G
  have B__law_like : L2.Binds K fd__law_like ["_law_row", "_law_place"] [] := F__law_like.bindsN fun _ _ _ _ _ _ us hl => match us, hl with | [_, _], _ => rfl
  obtain ⟨fd_By_ZinitZ, F_By_ZinitZ, O_By_ZinitZ⟩ := ok_By_ZinitZ (P := P) (w := w) (base := base) S KX G
  have B_By_ZinitZ : L2.Binds K fd_By_ZinitZ ["self", "steps"] [] := F_By_ZinitZ.bindsN fun _ _ _ _ _ _ us hl => match us, hl with | [_, _], _ => rfl
  obtain ⟨fd_By_aim, F_By_aim, O_By_aim⟩ := ok_By_aim (P := P) (w := w) (base := base) S KX G
  have B_By_aim : L2.Binds K fd_By_aim ["self", "row", "place"] [] := F_By_aim.bindsN fun _ _ _ _ _ _ us hl => match us, hl with | [_, _, _], _ => rfl
  obtain ⟨fd_Like_aim, F_Like_aim, O_Like_aim⟩ := ok_Like_aim (P := P) (w := w) (base := base) S KX G
  have B_Like_aim : L2.Binds K fd_Like_aim ["self", "row", "place"] [] := F_Like_aim.bindsN fun _ _ _ _ _ _ us hl => match us, hl with | [_, _, _], _ => rfl
  obtain ⟨fd_Half_aim, F_Half_aim, O_Half_aim⟩ := ok_Half_aim (P := P) (w := w) (base := base) S KX G
  have B_Half_aim : L2.Binds K fd_Half_aim ["self", "row", "place"] [] := F_Half_aim.bindsN fun _ _ _ _ _ _ us hl => match us, hl with | [_, _, _], _ => rfl
  obtain ⟨fd_Front_aim, F_Front_aim, O_Front_aim⟩ := ok_Front_aim (P := P) (w := w) (base := base) S KX G
  have B_Front_aim : L2.Binds K fd_Front_aim ["self", "row", "place"] [] := F_Front_aim.bindsN fun _ _ _ _ _ _ us hl => match us, hl with | [_, _, _], _ => rfl
  obtain ⟨fd__law_digit, F__law_digit, O__law_digit⟩ := ok__law_digit (P := P) (w := w) (base := base) S KX G
  have B__law_digit : L2.Binds K fd__law_digit ["_law_state", "_law_base"] [] := F__law_digit.bindsN fun _ _ _ _ _ _ us hl => match us, hl with | [_, _], _ => rfl
  obtain ⟨fd__law_marks, F__law_marks, O__law_marks⟩ := ok__law_marks (P := P) (w := w) (base := base) S KX G
  have B__law_marks : L2.Binds K fd__law_marks ["_law_state"] [] := F__law_marks.bindsN fun _ _ _ _ _ _ us hl => match us, hl with | [_], _ => rfl
  refine ⟨fd, F, fn_ok (C := ⟨P, w, K⟩) (N := ["_law_script", "_law_cell", "_law_state", "_law_row", "_law_k", "_law_handed", "_law_steps", "_law_place", "_law_found", "_law_thing"]) F sc_law (fun cdv A outer s H E hr => ?_)⟩
  have tk : Takes (cxOf (L2.CX P w) P w K mg base ["_law_script", "_law_cell", "_law_state", "_law_row", "_law_k", "_law_handed", "_law_steps", "_law_place", "_law_found", "_law_thing"] "law" (defScope (top 19)) (He.fAd K ("law", none)) cdv A outer s H E) (fun cls od _ H => E cls od H) := takes_of rfl rfl rfl rfl
  have pw : PassesOwn (model P w) (cxOf (L2.CX P w) P w K mg base ["_law_script", "_law_cell", "_law_state", "_law_row", "_law_k", "_law_handed", "_law_steps", "_law_place", "_law_found", "_law_thing"] "law" (defScope (top 19)) (He.fAd K ("law", none)) cdv A outer s H E).A (cxOf (L2.CX P w) P w K mg base ["_law_script", "_law_cell", "_law_state", "_law_row", "_law_k", "_law_handed", "_law_steps", "_law_place", "_law_found", "_law_thing"] "law" (defScope (top 19)) (He.fAd K ("law", none)) cdv A outer s H E).env (cxOf (L2.CX P w) P w K mg base ["_law_script", "_law_cell", "_law_state", "_law_row", "_law_k", "_law_handed", "_law_steps", "_law_place", "_law_found", "_law_thing"] "law" (defScope (top 19)) (He.fAd K ("law", none)) cdv A outer s H E).xe := passes_of rfl
  exact (ms_cons
  (ms_forT [1, 2, 3, 4, 5, 6, 7, 8, 9] pw rfl (mi_any rfl (me_bin or_add os_add (me_lst (ma_cons me_int (ma_cons me_int ma_nil))) (me_sl rfl (me_var 0) mo_none (mo_some me_int)))) (mg_name (i := 1) sc_law.nd rfl (by first | exact Or.inl rfl | exact Or.inr rfl))
  (ms_cons
  (ms_set (i := 2) sc_law.nd rfl (by first | exact Or.inl rfl | exact Or.inr rfl) (me_lstC (ma_cons (me_var 1) ma_nil)))
  (ms_cons
  (ms_setLc (i := 3) (own := [("_law_k", 4)]) rfl sc_law.nd rfl rfl rfl (mi_range1 (by exact rfl) (He.free_ok KX G (S.fact 3 rfl)) (ma_cons (me_bin or_add os_add me_int (me_call (ps := ["_law_state", "_law_base"]) tk O__law_digit (hr.mono (by decide : 1 ≤ 4)) (by exact rfl) (He.glo_ok KX G (S.fact 22 rfl)) F__law_digit.kp B__law_digit .nil Filled.nil (ma_cons (me_var 2) (ma_cons me_int ma_nil)))) ma_nil)) (blk_of rfl (by kernel_rfl)) (fun _ _ _ _ _ => by exact (pg_name (i := 4) sc_law.nd rfl (by first | exact Or.inl rfl | exact Or.inr rfl))) (tgw_name 4 (by decide)) (fun _ _ _ _ _ => by exact mts_nil) (fun _ _ _ _ _ => by exact (me_call (ps := ["_law_state"]) takes0 O__law_marks (hr.mono (by decide : 2 ≤ 4)) (by exact rfl) (He.glo_ok KX G (S.fact 24 rfl)) F__law_marks.kp B__law_marks .nil Filled.nil (ma_cons (me_var 2) ma_nil))))
  (ms_cons
  (ms_set (i := 5) sc_law.nd rfl (by first | exact Or.inl rfl | exact Or.inr rfl) (me_callTy call_list_of cs_list (by exact rfl) (He.free_ok KX G (S.fact 23 rfl)) (by decide +kernel) (ma_cons (me_var 3) ma_nil)))
  (ms_cons
  (ms_set (i := 6) sc_law.nd rfl (by first | exact Or.inl rfl | exact Or.inr rfl) (me_ix rfl (me_lst (ma_cons (me_call (ps := ["_law_state", "_law_base"]) tk O__law_digit (hr.mono (by decide : 1 ≤ 4)) (by exact rfl) (He.glo_ok KX G (S.fact 22 rfl)) F__law_digit.kp B__law_digit .nil Filled.nil (ma_cons (me_var 2) (ma_cons me_int ma_nil))) (ma_cons (me_callB call_len cs_len (by exact rfl) (He.free_ok KX G (S.fact 2 rfl)) (by decide +kernel) (ma_cons (me_var 3) ma_nil)) (ma_cons (me_bin or_add os_add (me_bin op_pow os_pow me_int me_int) (me_call (ps := ["_law_state", "_law_base"]) tk O__law_digit (hr.mono (by decide : 1 ≤ 4)) (by exact rfl) (He.glo_ok KX G (S.fact 22 rfl)) F__law_digit.kp B__law_digit .nil Filled.nil (ma_cons (me_var 2) (ma_cons me_int ma_nil)))) ma_nil)))) (me_call (ps := ["_law_state", "_law_base"]) tk O__law_digit (hr.mono (by decide : 1 ≤ 4)) (by exact rfl) (He.glo_ok KX G (S.fact 22 rfl)) F__law_digit.kp B__law_digit .nil Filled.nil (ma_cons (me_var 2) (ma_cons me_int ma_nil)))))
  (ms_cons
  (ms_for pw rfl (mi_range1 (by exact rfl) (He.free_ok KX G (S.fact 3 rfl)) (ma_cons (me_callB call_len cs_len (by exact rfl) (He.free_ok KX G (S.fact 2 rfl)) (by decide +kernel) (ma_cons (me_var 3) ma_nil)) ma_nil)) (mg_name (i := 7) sc_law.nd rfl (by first | exact Or.inl rfl | exact Or.inr rfl))
  (ms_cons
  (ms_set (i := 8) sc_law.nd rfl (by first | exact Or.inl rfl | exact Or.inr rfl) (me_lstC (ma_cons (me_meth (ps := ["self", "row", "place"]) tk rfl (me_makeO rfl (mko_ok (S.fact 18 rfl)) (by exact rfl) (He.glo_ok KX G (S.fact 19 rfl))) (He.cls_ok (S.fact 20 rfl)) (meth_ok (S.fact 21 rfl)) O_Front_aim (hr.mono (by decide : 1 ≤ 4)) B_Front_aim .nil Filled.nil (ma_cons (me_var 5) (ma_cons (me_var 7) ma_nil))) (ma_cons (me_meth (ps := ["self", "row", "place"]) tk rfl (me_makeO rfl (mko_ok (S.fact 14 rfl)) (by exact rfl) (He.glo_ok KX G (S.fact 15 rfl))) (He.cls_ok (S.fact 16 rfl)) (meth_ok (S.fact 17 rfl)) O_Half_aim (hr.mono (by decide : 1 ≤ 4)) B_Half_aim .nil Filled.nil (ma_cons (me_var 5) (ma_cons (me_var 7) ma_nil))) (ma_cons (me_meth (ps := ["self", "row", "place"]) tk rfl (me_makeO rfl (mko_ok (S.fact 10 rfl)) (by exact rfl) (He.glo_ok KX G (S.fact 11 rfl))) (He.cls_ok (S.fact 12 rfl)) (meth_ok (S.fact 13 rfl)) O_Like_aim (hr.mono (by decide : 1 ≤ 4)) B_Like_aim .nil Filled.nil (ma_cons (me_var 5) (ma_cons (me_var 7) ma_nil))) ma_nil)))))
  (ms_cons
  (ms_expr (me_bm rfl PySem.F.plainAttrs_list PySem.F.slot_list_append PySem.F.type_list_append mt_append ts_lst ms_append (me_var 8) (ma_cons (me_meth (ps := ["self", "row", "place"]) tk rfl (me_make (ps := ["self", "steps"]) rfl tk (mk_ok (S.fact 6 rfl)) O_By_ZinitZ (hr.mono (by decide : 3 ≤ 4)) (by exact rfl) (He.glo_ok KX G (S.fact 7 rfl)) B_By_ZinitZ .nil Filled.nil (ma_cons (me_var 6) ma_nil)) (He.cls_ok (S.fact 8 rfl)) (meth_ok (S.fact 9 rfl)) O_By_aim (hr.mono (by decide : 1 ≤ 4)) B_By_aim .nil Filled.nil (ma_cons (me_var 5) (ma_cons (me_var 7) ma_nil))) ma_nil)))
  (ms_one (ms_if (mt_w (mw_or (mt_cmp (op_neD hr.units) os_ne (me_var 8) (me_lst (ma_cons me_int (ma_cons (me_bin op_fdiv os_div (me_var 7) me_int) (ma_cons (me_call (ps := ["_law_row", "_law_place"]) tk O__law_like (hr.mono (by decide : 1 ≤ 4)) (by exact rfl) (He.glo_ok KX G (S.fact 5 rfl)) F__law_like.kp B__law_like .nil Filled.nil (ma_cons (me_var 3) (ma_cons (me_var 7) ma_nil))) (ma_cons (me_callB (call_max2 rfl) cs_max2 (by exact rfl) (He.free_ok KX G (S.fact 4 rfl)) (by decide +kernel) (ma_cons me_int (ma_cons (me_bin op_sub os_sub (me_var 7) (me_var 6)) ma_nil))) ma_nil)))))) (mw_or1 (mt_cmp (op_neD hr.units) os_ne (me_var 5) (me_var 3)))))
  (ms_one (ms_ret me_bl))
  ms_nil)))))
  (ms_cons
  (ms_if (mt_not (mt_val (me_call (ps := ["_law_steps"]) tk O__law_alike_right (hr.mono (by decide : 4 ≤ 4)) (by exact rfl) (He.glo_ok KX G (S.fact 1 rfl)) F__law_alike_right.kp B__law_alike_right .nil Filled.nil (ma_cons (me_var 6) ma_nil))))
  (ms_one (ms_ret me_bl))
  ms_nil)
  (ms_one (ms_if (mt_cmp (op_neD hr.units) os_ne (me_lc (own := [("_law_thing", 9)]) rfl sc_law.nd (mi_any rfl (me_lst (ma_cons (me_un un_neg us_neg me_int) (ma_cons me_bl (ma_cons me_non (ma_cons me_str (ma_cons (me_tup (ma_cons me_int ma_nil)) (ma_cons (me_lst ma_nil) (ma_cons (me_un un_neg us_neg (me_bin op_pow os_pow me_int me_int)) ma_nil))))))))) (blk_of rfl (by kernel_rfl)) (fun _ _ _ _ _ => by exact (pg_name (i := 9) sc_law.nd rfl (by first | exact Or.inl rfl | exact Or.inr rfl))) (tgw_name 9 (by decide)) (fun _ _ _ _ _ => by exact (mts_one (mt_not (mt_val (me_call (ps := ["_law_thing"]) takes0 O__law_refused (hr.mono (by decide : 4 ≤ 4)) (by exact rfl) (He.glo_ok KX G (S.fact 0 rfl)) F__law_refused.kp B__law_refused .nil Filled.nil (ma_cons (me_var 9) ma_nil)))))) (fun _ _ _ _ _ => by exact (me_var 9))) (me_lst ma_nil))
  (ms_one (ms_ret me_bl))
  ms_nil)))))))))
  (ms_one (ms_ret me_bl)))
end
def lawDepth : Nat := 5
theorem law_fact {P : Program} {w : World} {K : PySem.W.Frag} {h : Heap} {mg : Str → Option Value} {f : Addr} (KX : K.In h) (G : h.Ns mainGlobals mg) (hmg : mg ("law" : Str) = some (.ref f)) (S : SaysB fa fnl K) :
    ∃ fd : FuncData, (∀ (s : Shared) (v : Value), BindsTo s fd ⟨[v], []⟩ [("_law_script", v)]) ∧ ∀ base : Heap, FnOk P w K mg base (fun _ _ _ _ _ _ => False) lawDepth f fd ["_law_script"] (fun vs H Q _ => spM ⟨P, w, K⟩ 1 d_law vs H Q fun _ _ _ => False) := by
  have e := hmg.symm.trans (He.glo_ok KX G (S.fact 57 rfl))
  cases e
  obtain ⟨fd, F⟩ := S.def_ 18 rfl
  refine ⟨fd, fun s v => (FunD.bindsA (ps := ["_law_script"]) F fun _ _ _ _ _ _ us hl => match us, hl with | [_], _ => rfl) s [v] rfl, fun base => ?_⟩
  obtain ⟨fd2, F2, O⟩ := ok_law (P := P) (w := w) (base := base) S KX G
  cases fun_same F F2
  exact fn_quiet (C := ⟨P, w, K⟩) O
end Lk01

set_option Elab.async false
set_option linter.all false
set_option maxRecDepth 100000
set_option maxHeartbeats 4000000
namespace Lk01
open PySem Ws
theorem whole_int (s : Int) : d_is_whole [.int s, .int 0, .non] [] = .ok (.bl (decide (0 ≤ s))) [] := by
  by_cases hs : 0 ≤ s <;> simp [hs, d_is_whole, m_is_whole, seqS, ifS, orB, notB, andB, asB, app, consA, nilA, var, cst, Ws.ret, retN, Ws.drop, andV, orV, notV, Ws.bin, Ws.un, asg, tgN, bindS, skip, Out.bind, isBl, fn, startD, outD, leave, pureD, pureDs, pureH, pureF, pureX, pureO, gIsi, tyOf, clsTy, kt, subs, gIs, isNonD, gLe, gCmp]
/-- the state of the draws: one number, or three -/
def St (st : List D) : Prop := (∃ a, st = [.int a]) ∨ ∃ a b c, st = [.int a, .int b, .int c]
theorem digit_ok {h : AH} {n : Nat} {st : List D} (e : h.get n = some (.lst st)) (hs : St st) (p : pureH h.length h = true) {b : Int} (hb : 0 < b) (hb2 : b < 1073741824) :
    ∃ r st', d__law_digit [.cell n, .int b] h = .ok (.int r) (h.put n (.lst st')) ∧ 0 ≤ r ∧ r < b ∧ St st' := by
  have key : ∀ (h : AH) (a u c : Int), h.get n = some (.lst [.int a, .int u, .int c]) → ∃ r st', (seqS
      (ifS (asB (bin gGe (bin gIx (var 0) (cst (.int 0))) (var 1)))
      (seqS
      (asg (bin gMod (bin gIx (var 0) (cst (.int 0))) (var 1)) (tgN 2))
      (seqS
      (asg (bin gDiv (bin gIx (var 0) (cst (.int 0))) (var 1)) (tgSub (var 0) (cst (.int 0))))
      (ret (var 2))))
      skip)
      (seqS
      (asg (bin gAdd (bin gIx (var 0) (cst (.int 2))) (cst (.int 1))) (tgSub (var 0) (cst (.int 2))))
      (seqS
      (asg (bin gMod (bin gMul (bin gAdd (bin gIx (var 0) (cst (.int 1))) (bin gMul (cst (.int 7919)) (bin gIx (var 0) (cst (.int 2))))) (cst (.int 48271))) (cst (.int 2147483647))) (tgN 3))
      (ret (bin gMod (bin gDiv (bin gMod (bin gMul (bin gAdd (var 3) (bin gDiv (var 3) (cst (.int 1009)))) (bin gAdd (bin gDiv (var 3) (cst (.int 65537))) (cst (.int 69621)))) (cst (.int 2147483629))) (cst (.int 7))) (var 1))))))
      [some (.cell n), some (.int b), none, none] h = .rt (.int r) (h.put n (.lst st')) ∧ 0 ≤ r ∧ r < b ∧ St st' := by
    intro h a u c e
    have e2 : ∀ st', (h.put n (.lst st')).get n = some (.lst st') := fun st' => get_put_same e
    have ne : b ≠ 0 := by omega
    by_cases hge : b ≤ a
    · refine ⟨a % b, [.int (a / b), .int u, .int c], ?_, Int.emod_nonneg _ ne, Int.emod_lt_of_pos _ hb, .inr ⟨_, _, _, rfl⟩⟩
      simp [seqS, ifS, orB, notB, andB, asB, app, consA, nilA, var, cst, Ws.ret, retN, Ws.drop, andV, orV, notV, Ws.bin, Ws.un, asg, tgN, bindS, skip, Out.bind, isBl, gIx, lstOf, e, L2.atI, gGe, gCmp, hge, gMod, gInt, hb, gDiv, hb2, tgSub, cellL, L2.ixN]
    · obtain ⟨mx, hmx⟩ : ∃ mx, mx = (u + 7919 * (c + 1)) * 48271 % 2147483647 := ⟨_, rfl⟩
      have m0 : 0 ≤ mx := by rw [hmx]; exact Int.emod_nonneg _ (by decide)
      have m1 : mx < 2147483647 := by rw [hmx]; exact Int.emod_lt_of_pos _ (by decide)
      have s1 : small64 48271 = true := by decide
      have s2 : small64 7919 = true := by decide
      have s3 : small64 (mx / 65537 + 69621) = true := by unfold small64; simp only [Bool.and_eq_true, decide_eq_true_eq]; omega
      refine ⟨(mx + mx / 1009) * (mx / 65537 + 69621) % 2147483629 / 7 % b, [.int a, .int u, .int (c + 1)], ?_, Int.emod_nonneg _ ne, Int.emod_lt_of_pos _ hb, .inr ⟨_, _, _, rfl⟩⟩
      simp [seqS, ifS, orB, notB, andB, asB, app, consA, nilA, var, cst, Ws.ret, retN, Ws.drop, andV, orV, notV, Ws.bin, Ws.un, asg, tgN, bindS, skip, Out.bind, isBl, gIx, lstOf, e, e2, L2.atI, gGe, gCmp, hge, gMod, gInt, hb, gDiv, hb2, tgSub, cellL, L2.ixN, gAdd, gMul, s1, s2]
      rw [← hmx]
      simp [s3, hb]
  rcases hs with ⟨a, rfl⟩ | ⟨a, u, c, rfl⟩
  · have e2 : (h.put n (.lst [.int a, .int (a % 2147483647), .int 0])).get n = some (.lst [.int a, .int (a % 2147483647), .int 0]) := get_put_same e
    obtain ⟨r, st', k1, k2, k3, k4⟩ := key _ _ _ _ e2
    refine ⟨r, st', ?_, k2, k3, k4⟩
    have pq : pureH h.length ((h.put n (.lst st')).take h.length) = true := by
      rw [List.take_of_length_le (by rw [put_len]; exact Nat.le_refl _)]
      exact pureH_put p (by rcases k4 with ⟨_, rfl⟩ | ⟨_, _, _, rfl⟩ <;> rfl)
    have tk : (h.put n (.lst st')).take h.length = h.put n (.lst st') := List.take_of_length_le (by rw [put_len]; exact Nat.le_refl _)
    have st1 : m__law_digit [some (.cell n), some (.int b), none, none] h = .rt (.int r) (h.put n (.lst st')) := by
      unfold m__law_digit
      rw [seqS]
      rw [show (ifS (asB (bin gEqD (app gLen (consA (var 0) nilA)) (cst (.int 1)))) (drop (bm isLst gExtend (var 0) (consA (app gLst (consA (bin gMod (bin gIx (var 0) (cst (.int 0))) (cst (.int 2147483647))) (consA (cst (.int 0)) nilA))) nilA))) skip)
          [some (.cell n), some (.int b), none, none] h = .nx [some (.cell n), some (.int b), none, none] (h.put n (.lst [.int a, .int (a % 2147483647), .int 0])) from by
        simp [seqS, ifS, orB, notB, andB, asB, app, consA, nilA, var, cst, Ws.ret, retN, Ws.drop, andV, orV, notV, Ws.bin, Ws.un, asg, tgN, bindS, skip, Out.bind, isBl, gLen, lenD, lstOf, e, bm, isLst, gIx, L2.atI, L2.ixN, gMod, gInt, gLst, gExtend, cellL, lim]]
      dsimp only
      rw [k1, put_put]
    show leave _ (outD (m__law_digit _ _)) = _
    rw [show startD 4 [.cell n, .int b] = [some (.cell n), some (.int b), none, none] from rfl, st1]
    unfold outD leave
    dsimp only
    rw [tk] at pq
    rw [tk, if_pos ⟨rfl, pq⟩]
  · obtain ⟨r, st', k1, k2, k3, k4⟩ := key _ _ _ _ e
    refine ⟨r, st', ?_, k2, k3, k4⟩
    have pq : pureH h.length (h.put n (.lst st')) = true := pureH_put p (by rcases k4 with ⟨_, rfl⟩ | ⟨_, _, _, rfl⟩ <;> rfl)
    have tk : (h.put n (.lst st')).take h.length = h.put n (.lst st') := List.take_of_length_le (by rw [put_len]; exact Nat.le_refl _)
    have st1 : m__law_digit [some (.cell n), some (.int b), none, none] h = .rt (.int r) (h.put n (.lst st')) := by
      unfold m__law_digit
      rw [seqS]
      rw [show (ifS (asB (bin gEqD (app gLen (consA (var 0) nilA)) (cst (.int 1)))) (drop (bm isLst gExtend (var 0) (consA (app gLst (consA (bin gMod (bin gIx (var 0) (cst (.int 0))) (cst (.int 2147483647))) (consA (cst (.int 0)) nilA))) nilA))) skip)
          [some (.cell n), some (.int b), none, none] h = .nx [some (.cell n), some (.int b), none, none] h from by
        simp [seqS, ifS, orB, notB, andB, asB, app, consA, nilA, var, cst, Ws.ret, retN, Ws.drop, andV, orV, notV, Ws.bin, Ws.un, asg, tgN, bindS, skip, Out.bind, isBl, gLen, lenD, lstOf, e]]
      dsimp only
      rw [k1]
    show leave _ (outD (m__law_digit _ _)) = _
    rw [show startD 4 [.cell n, .int b] = [some (.cell n), some (.int b), none, none] from rfl, st1]
    unfold outD leave
    dsimp only
    rw [tk, if_pos ⟨rfl, pq⟩]
end Lk01

set_option Elab.async false
set_option linter.all false
set_option maxRecDepth 100000
set_option maxHeartbeats 4000000
namespace Lk01
open PySem Ws
/-- the draw at a call -/
theorem draw {h : AH} {n i : Nat} {σ : Sl} {st : List D} (ei : σ[i]? = some (some (.cell n))) (e : h.get n = some (.lst st)) (hs : St st) (p : pureH h.length h = true) {b : Int} (hb : 0 < b) (hb2 : b < 1073741824) :
    ∃ r st', app (cal 2 [] d__law_digit) (consA (var i) (consA (cst (.int b)) nilA)) σ h = .ok (.int r) (h.put n (.lst st')) ∧ 0 ≤ r ∧ r < b ∧ St st' ∧ (h.put n (.lst st')).get n = some (.lst st') ∧ pureH (h.put n (.lst st')).length (h.put n (.lst st')) = true := by
  obtain ⟨r, st', k1, k2, k3, k4⟩ := digit_ok e hs p hb hb2
  refine ⟨r, st', ?_, k2, k3, k4, get_put_same e, ?_⟩
  · rw [app_ok (ds := [.cell n, .int b]) (h' := h) (by simp [consA, var, ei, cst, nilA]), cal_cell (n := 2) rfl rfl]
    exact k1
  · rw [put_len]
    exact pureH_put p (by rcases k4 with ⟨_, rfl⟩ | ⟨_, _, _, rfl⟩ <;> rfl)
def marksM : M D := bm isStr gJoin (cst (.str "")) (consA (lc [3, 4] (walkA enumA (consA (var 2) nilA)) (tgTup (tgCons (tgN 3) (tgCons (tgN 4) tgNil))) (asB (bin gEqD (bin gMod (bin gDiv (var 1) (bin gIx (app gLst (consA (cst (.int 1)) (consA (cst (.int 2)) (consA (cst (.int 4)) (consA (cst (.int 8)) nilA))))) (var 3))) (cst (.int 2))) (cst (.int 1)))) (var 4)) nilA)
abbrev okT (x : Str) : Prop := PyData.canLay0 (.str x) = true ∧ x.length ≤ 4
theorem marks_at (c : D) (h : AH) (r : Int) (z : Str) (hz : z = "abcd" ∨ z = "aqxz") (h0 : 0 ≤ r) (h1 : r < 16) : ∃ x, marksM [some c, some (.int r), some (.str z), none, none] h = .ok (.str x) h ∧ okT x := by
  have hr : r = 0 ∨ r = 1 ∨ r = 2 ∨ r = 3 ∨ r = 4 ∨ r = 5 ∨ r = 6 ∨ r = 7 ∨ r = 8 ∨ r = 9 ∨ r = 10 ∨ r = 11 ∨ r = 12 ∨ r = 13 ∨ r = 14 ∨ r = 15 := by omega
  rcases hz with rfl | rfl <;> rcases hr with rfl | rfl | rfl | rfl | rfl | rfl | rfl | rfl | rfl | rfl | rfl | rfl | rfl | rfl | rfl | rfl <;> exact ⟨_, rfl, by decide +kernel⟩
/-- the state in the only cell -/
theorem draw0 {i : Nat} {σ : Sl} {st : List D} (ei : σ[i]? = some (some (.cell 0))) (hs : St st) {b : Int} (hb : 0 < b) (hb2 : b < 1073741824) :
    ∃ r st', app (cal 2 [] d__law_digit) (consA (var i) (consA (cst (.int b)) nilA)) σ [some (.lst st)] = .ok (.int r) [some (.lst st')] ∧ 0 ≤ r ∧ r < b ∧ St st' := by
  obtain ⟨r, st', k1, k2, k3, k4, _⟩ := draw (h := [some (.lst st)]) ei rfl hs (by rcases hs with ⟨_, rfl⟩ | ⟨_, _, _, rfl⟩ <;> rfl) hb hb2
  exact ⟨r, st', k1, k2, k3, k4⟩
theorem marks_ok {st : List D} (hs : St st) : ∃ x st', d__law_marks [.cell 0] [some (.lst st)] = .ok (.str x) [some (.lst st')] ∧ okT x ∧ St st' := by
  obtain ⟨r, st1, k1, k2, k3, k4⟩ := draw0 (i := 0) (σ := [some (.cell 0), none, none, none, none]) rfl hs (b := 16) (by decide) (by decide)
  obtain ⟨r2, st2, l1, l2, l3, l4⟩ := draw0 (i := 0) (σ := [some (.cell 0), some (.int r), none, none, none]) rfl k4 (b := 2) (by decide) (by decide)
  have hz : ∃ z : Str, (z = "abcd" ∨ z = "aqxz") ∧ gIx (.lst [.str "abcd", .str "aqxz"]) (.int r2) [some (.lst st2)] = .ok (.str z) [some (.lst st2)] := by
    have : r2 = 0 ∨ r2 = 1 := by omega
    rcases this with rfl | rfl
    · exact ⟨"abcd", .inl rfl, rfl⟩
    · exact ⟨"aqxz", .inr rfl, rfl⟩
  obtain ⟨z, hz, e3⟩ := hz
  obtain ⟨x, m1, m2⟩ := marks_at (.cell 0) [some (.lst st2)] r z hz k2 k3
  refine ⟨x, st2, ?_, m2, l4⟩
  refine fn_rt (h := [some (.lst st)]) (h' := [some (.lst st2)]) ?_ rfl (by rcases l4 with ⟨_, rfl⟩ | ⟨_, _, _, rfl⟩ <;> rfl)
  show m__law_marks [some (.cell 0), none, none, none, none] _ = _
  unfold m__law_marks
  rw [seq_asg k1]
  refine (seq_asg (σ := [some (.cell 0), some (.int r), none, none, none]) (d := .str z) (h' := [some (.lst st2)]) ?_).trans (ret_ok m1)
  exact (bin_ok (u := .lst [.str "abcd", .str "aqxz"]) rfl l1).trans e3
theorem row_ok {st : List D} (hs : St st) {σ : Sl} (ei : σ[2]? = some (some (.cell 0))) {r : Int} (h0 : 0 ≤ r) (h1 : r < 9) :
    ∃ xs : List Str, ∃ st', lcGo (tgN 4) yesB (app (cal 1 [] d__law_marks) (consA (var 2) nilA)) (wipeD σ [4]) ((List.range (1 + r).toNat).map fun (i : Nat) => D.int (0 + (i : Int))) [] [some (.lst st)] = .ok (xs.map .str) [some (.lst st')] ∧ St st' ∧ xs.length = (1 + r).toNat ∧ ∀ x ∈ xs, okT x := by
  have key := lcGo_inv (t := tgN 4) (c := yesB) (e := app (cal 1 [] d__law_marks) (consA (var 2) nilA)) (σ := wipeD σ [4]) (fun h => ∃ st, h = [some (.lst st)] ∧ St st) (fun y => ∃ x, y = .str x ∧ okT x)
    (ds := (List.range (1 + r).toNat).map fun (i : Nat) => D.int (0 + (i : Int))) (acc := []) (h := [some (.lst st)]) ⟨st, rfl, hs⟩ (fun d _ h ⟨st, eh, hs⟩ => by
      subst eh
      obtain ⟨x, st', e, o, s'⟩ := marks_ok hs
      refine ⟨.str x, [some (.lst st')], ?_, ⟨st', rfl, s'⟩, x, rfl, o⟩
      have ev : var 2 ((wipeD σ [4]).set 4 (some d)) [some (.lst st)] = .ok (.cell 0) [some (.lst st)] := by
        unfold var wipeD wipeD
        rw [List.set_set, List.getElem?_set_ne (by decide), ei]
      unfold turnM tgN yesB
      dsimp only
      rw [app_ok (cons_ok ev rfl), cal_cell (n := 1) rfl rfl, e]) (by simp; omega) (by simp)
  obtain ⟨ys, h', e, ⟨st', rfl, s'⟩, l, p⟩ := key
  have : ∃ xs : List Str, ys = xs.map .str ∧ ∀ x ∈ xs, okT x := by
    clear e l
    induction ys with
    | nil => exact ⟨[], rfl, by simp⟩
    | cons y ys ih =>
      obtain ⟨x, rfl, o⟩ := p y (List.mem_cons_self ..)
      obtain ⟨xs, rfl, q⟩ := ih fun z hz => p z (List.mem_cons_of_mem _ hz)
      exact ⟨x :: xs, rfl, by intro z hz; rcases List.mem_cons.mp hz with rfl | hz; exact o; exact q z hz⟩
  obtain ⟨xs, rfl, q⟩ := this
  exact ⟨xs, st', e, s', by simpa using l, q⟩
end Lk01

set_option Elab.async false
set_option linter.all false
set_option maxRecDepth 100000
set_option maxHeartbeats 8000000
namespace Lk01
open PySem Ws
theorem init_by {s : Int} (hs : 0 ≤ s) : d_By_ZinitZ [.cell 0, .int s] [some (.ins "By" [])] = .ok .non [some (.ins "By" [("steps", .int s)])] := by
  have e : cal 3 [] d_is_whole [.int s, .int 0, .non] [some (.ins "By" [])] = .ok (.bl true) [some (.ins "By" [])] := cal_pure rfl rfl (by rw [whole_int, decide_eq_true hs]) rfl
  simp [d_By_ZinitZ, m_By_ZinitZ, seqS, ifS, orB, notB, andB, asB, app, consA, nilA, var, cst, Ws.ret, retN, Ws.drop, andV, orV, notV, Ws.bin, Ws.un, asg, tgN, bindS, skip, Out.bind, isBl, fn, startD, outD, leave, pureD, pureDs, pureH, pureF, pureX, pureO, e, stf, AH.get, AH.put, putD]
theorem mk_by {s : Int} (hs : 0 ≤ s) (h : AH) : makeN "By" 2 [] d_By_ZinitZ [.int s] h = .ok (.ins "By" [("steps", .int s)]) h := by
  simp [makeN, make, pureDs, pureD, init_by hs, pureF]
theorem eqBy (s t : Int) : d_Rule_ZeqZ [.ins "By" [("steps", .int s)], .ins "By" [("steps", .int t)]] [] = .ok (.bl (decide (s = t))) [] := by
  have e1 : cal 2 [] d_By_same_class [.ins "By" [("steps", .int s)], .ins "By" [("steps", .int t)]] [] = .ok (.bl true) [] := rfl
  have e2 : ∀ t : Int, cal 1 [] d_By_steps_of [.ins "By" [("steps", .int t)]] [] = .ok (.int t) [] := fun _ => rfl
  simp (decide := true) [d_Rule_ZeqZ, m_Rule_ZeqZ, seqS, ifS, orB, notB, andB, asB, app, consA, nilA, var, cst, Ws.ret, retN, Ws.drop, andV, orV, notV, Ws.bin, Ws.un, asg, tgN, bindS, skip, Out.bind, isBl, fn, startD, outD, leave, pureD, pureDs, pureH, pureF, pureX, pureO, Ws.orM, meth, insOf, e1, e2]
theorem eqFF (s : Int) : d_Rule_ZeqZ [.ins "Front" [], .ins "Front" []] [] = .ok (.bl true) [] := rfl
theorem eqFB (s : Int) : d_Rule_ZeqZ [.ins "Front" [], .ins "By" [("steps", .int s)]] [] = .ok (.bl false) [] := rfl
theorem eqFC (s : Int) : d_Rule_ZeqZ [.ins "Front" [], .ins "By" [("steps", .int (s + 1))]] [] = .ok (.bl false) [] := rfl
theorem eqFH (s : Int) : d_Rule_ZeqZ [.ins "Front" [], .ins "Half" []] [] = .ok (.bl false) [] := rfl
theorem eqFL (s : Int) : d_Rule_ZeqZ [.ins "Front" [], .ins "Like" []] [] = .ok (.bl false) [] := rfl
theorem eqFS (s : Int) (x : Str) : d_Rule_ZeqZ [.ins "Front" [], .str x] [] = .ok (.bl false) [] := rfl
theorem eqFN (s : Int) : d_Rule_ZeqZ [.ins "Front" [], .non] [] = .ok (.bl false) [] := rfl
theorem eqBF (s : Int) : d_Rule_ZeqZ [.ins "By" [("steps", .int s)], .ins "Front" []] [] = .ok (.bl false) [] := rfl
theorem eqBH (s : Int) : d_Rule_ZeqZ [.ins "By" [("steps", .int s)], .ins "Half" []] [] = .ok (.bl false) [] := rfl
theorem eqBL (s : Int) : d_Rule_ZeqZ [.ins "By" [("steps", .int s)], .ins "Like" []] [] = .ok (.bl false) [] := rfl
theorem eqBS (s : Int) (x : Str) : d_Rule_ZeqZ [.ins "By" [("steps", .int s)], .str x] [] = .ok (.bl false) [] := rfl
theorem eqBN (s : Int) : d_Rule_ZeqZ [.ins "By" [("steps", .int s)], .non] [] = .ok (.bl false) [] := rfl
theorem eqCF (s : Int) : d_Rule_ZeqZ [.ins "By" [("steps", .int (s + 1))], .ins "Front" []] [] = .ok (.bl false) [] := rfl
theorem eqCH (s : Int) : d_Rule_ZeqZ [.ins "By" [("steps", .int (s + 1))], .ins "Half" []] [] = .ok (.bl false) [] := rfl
theorem eqCL (s : Int) : d_Rule_ZeqZ [.ins "By" [("steps", .int (s + 1))], .ins "Like" []] [] = .ok (.bl false) [] := rfl
theorem eqCS (s : Int) (x : Str) : d_Rule_ZeqZ [.ins "By" [("steps", .int (s + 1))], .str x] [] = .ok (.bl false) [] := rfl
theorem eqCN (s : Int) : d_Rule_ZeqZ [.ins "By" [("steps", .int (s + 1))], .non] [] = .ok (.bl false) [] := rfl
theorem eqHF (s : Int) : d_Rule_ZeqZ [.ins "Half" [], .ins "Front" []] [] = .ok (.bl false) [] := rfl
theorem eqHB (s : Int) : d_Rule_ZeqZ [.ins "Half" [], .ins "By" [("steps", .int s)]] [] = .ok (.bl false) [] := rfl
theorem eqHC (s : Int) : d_Rule_ZeqZ [.ins "Half" [], .ins "By" [("steps", .int (s + 1))]] [] = .ok (.bl false) [] := rfl
theorem eqHH (s : Int) : d_Rule_ZeqZ [.ins "Half" [], .ins "Half" []] [] = .ok (.bl true) [] := rfl
theorem eqHL (s : Int) : d_Rule_ZeqZ [.ins "Half" [], .ins "Like" []] [] = .ok (.bl false) [] := rfl
theorem eqHS (s : Int) (x : Str) : d_Rule_ZeqZ [.ins "Half" [], .str x] [] = .ok (.bl false) [] := rfl
theorem eqHN (s : Int) : d_Rule_ZeqZ [.ins "Half" [], .non] [] = .ok (.bl false) [] := rfl
theorem eqLF (s : Int) : d_Rule_ZeqZ [.ins "Like" [], .ins "Front" []] [] = .ok (.bl false) [] := rfl
theorem eqLB (s : Int) : d_Rule_ZeqZ [.ins "Like" [], .ins "By" [("steps", .int s)]] [] = .ok (.bl false) [] := rfl
theorem eqLC (s : Int) : d_Rule_ZeqZ [.ins "Like" [], .ins "By" [("steps", .int (s + 1))]] [] = .ok (.bl false) [] := rfl
theorem eqLH (s : Int) : d_Rule_ZeqZ [.ins "Like" [], .ins "Half" []] [] = .ok (.bl false) [] := rfl
theorem eqLL (s : Int) : d_Rule_ZeqZ [.ins "Like" [], .ins "Like" []] [] = .ok (.bl true) [] := rfl
theorem eqLS (s : Int) (x : Str) : d_Rule_ZeqZ [.ins "Like" [], .str x] [] = .ok (.bl false) [] := rfl
theorem eqLN (s : Int) : d_Rule_ZeqZ [.ins "Like" [], .non] [] = .ok (.bl false) [] := rfl
theorem alike_ok {s : Int} (hs : 0 ≤ s) : d__law_alike_right [.int s] [] = .ok (.bl true) [] := by
  have m1 := fun h => mk_by hs h
  have m2 := fun h => mk_by (show 0 ≤ s + 1 by omega) h
  have n1 : ¬ (s = s + 1) := by omega
  have n2 : ¬ (s + 1 = s) := by omega
  simp (decide := true) [d__law_alike_right, m__law_alike_right, seqS, ifS, orB, notB, andB, asB, app, consA, nilA, var, cst, Ws.ret, retN, Ws.drop, andV, orV, notV, Ws.bin, Ws.un, asg, tgN, bindS, skip, Out.bind, isBl, fn, startD, outD, leave, pureD, pureDs, pureH, pureF, pureX, pureO, forS, forGo, keepAll, walkA, enumA, enumL, enumD, gLst, lim, m1, m2, gAdd, tgTup, tgCons, tgNil, lc, lcGo, turnM, wipeD, walk, itemsA, itemsL, rng1, yesB, Ws.orM, orT, gOwn, insOf, tyOf, kt, callP, Ws.call, noX, eqFF, eqFB, eqFC, eqFH, eqFL, eqBF, eqBH, eqBL, eqCF, eqCH, eqCL, eqHF, eqHB, eqHC, eqHH, eqHL, eqLF, eqLB, eqLC, eqLH, eqLL, eqFS, eqBS, eqCS, eqHS, eqLS, eqFN, eqBN, eqCN, eqHN, eqLN, eqBy, n1, n2, gNot,
    show List.range 5 = [0, 1, 2, 3, 4] from rfl, gEqD, seen, toPy, toPys, SeqAt.shaped, PyData.canLay0, PyData.canLayAll0, PyData.depth, PyData.depthAll, PyData.eqv, PyData.eqvAll, gIsi, clsTy, subs, gIx, lstOf, L2.atI, L2.ixN, fldC]
end Lk01

set_option Elab.async false
set_option linter.all false
set_option maxRecDepth 100000
set_option maxHeartbeats 8000000
namespace Lk01
open PySem Ws
/-- a sign of the one in the other -/
def meet (x z : Str) : Bool := x.cps.toList.any fun c => decide (c ∈ z.cps.toList)
theorem ix_row {xs : List Str} {q : Nat} (hq : q < xs.length) (h : AH) : gIx (.lst (xs.map .str)) (.int q) h = .ok (.str xs[q]) h := by
  have e : L2.atI (xs.map D.str) (q : Int) = some (.str xs[q]) := by
    unfold L2.atI L2.ixN
    rw [if_pos (by omega), if_pos (by simpa using hq)]
    simp [hq]
  simp [gIx, lstOf, e]
theorem in_sgn (c : Nat) (z : Str) (h : AH) : gIn (sgn c) (.str z) h = .ok (.bl (decide (c ∈ z.cps.toList))) h := rfl
theorem any_meet {x z : Str} {σ : Sl} {m : M D} {h : AH} (hl : x.length ≤ 4) (h4 : 4 < σ.length) (hm : ∀ c, m ((wipeD σ [4]).set 4 (some (sgn c))) h = .ok (.str z) h) :
    lcGo (tgN 4) yesB (bin gIn (var 4) m) (wipeD σ [4]) (x.cps.toList.map sgn) [] h = .ok ((x.cps.toList.map fun c => decide (c ∈ z.cps.toList)).map .bl) h := by
  rw [lcGo_mapF (f := fun c => some (.bl (decide (c ∈ z.cps.toList)))) (fun c _ => ?_) (by have : x.cps.size ≤ 4 := hl; simp; omega)]
  · simp [List.filterMap_eq_map']
  · unfold turnM tgN yesB
    dsimp only
    rw [bin_ok (u := sgn c) (by unfold var wipeD wipeD; simp [h4]) (hm c), in_sgn]
theorem some_meet {x z : Str} {σ : Sl} {m : M D} {h : AH} (hl : x.length ≤ 4) (h4 : 4 < σ.length) (hm : ∀ c, m ((wipeD σ [4]).set 4 (some (sgn c))) h = .ok (.str z) h) :
    lcGo (tgN 4) (asB (bin gIn (var 4) m)) (var 4) (wipeD σ [4]) (x.cps.toList.map sgn) [] h = .ok ((x.cps.toList.filter fun c => decide (c ∈ z.cps.toList)).map sgn) h := by
  rw [lcGo_mapF (f := fun c => if c ∈ z.cps.toList then some (sgn c) else none) (fun c _ => ?_) (by have : x.cps.size ≤ 4 := hl; simp; omega)]
  · have : ∀ cs : List Nat, cs.filterMap (fun c => if c ∈ z.cps.toList then some (sgn c) else none) = (cs.filter fun c => decide (c ∈ z.cps.toList)).map sgn := by
      intro cs
      induction cs with
      | nil => rfl
      | cons c cs ih =>
        rw [List.filterMap_cons, List.filter_cons]
        by_cases hc : c ∈ z.cps.toList
        · rw [if_pos hc, decide_eq_true hc, if_pos rfl, List.map_cons, ih]
        · rw [if_neg hc, decide_eq_false hc, if_neg Bool.false_ne_true, ih]
    rw [List.nil_append, this]
  · have ev : var 4 ((wipeD σ [4]).set 4 (some (sgn c))) h = .ok (sgn c) h := by unfold var wipeD wipeD; simp [h4]
    unfold turnM tgN
    dsimp only
    rw [asB_ok (bin_ok (u := sgn c) ev (hm c) |>.trans (in_sgn c z h))]
    by_cases hc : c ∈ z.cps.toList
    · simp [hc, ev]
    · simp [hc]
/-- how far Like aims -/
def likeV (xs : List Str) (p : Nat) : Nat := match (List.range p).reverse.find? fun q => meet (xs.getD p "") (xs.getD q "") with
  | some q => q + 1
  | none => p
theorem getD_at {xs : List Str} {q : Nat} (hq : q < xs.length) : xs.getD q "" = xs[q] := by simp [hq]
def pq (xs : List Str) (p : Nat) : D → Bool
  | .int z => meet (xs.getD p "") (xs.getD z.toNat "")
  | _ => false
def succD : D → D
  | .int z => .int (z + 1)
  | _ => .non
theorem like_aim {xs : List Str} {p : Nat} (hp : p < xs.length) (hz : p < 1000) (ho : ∀ x ∈ xs, okT x) : d_Like_aim [.ins "Like" [], .lst (xs.map .str), .int p] [] = .ok (.int (likeV xs p)) [] := by
  refine fn_rt0 (h' := []) ?_ rfl
  show m_Like_aim [some (.ins "Like" []), some (.lst (xs.map .str)), some (.int p), none, none] [] = _
  unfold m_Like_aim
  have rg : walkA rng3 (consA (bin gSub (var 2) (cst (.int 1))) (consA (un gNeg (cst (.int 1))) (consA (un gNeg (cst (.int 1))) nilA))) [some (.ins "Like" []), some (.lst (xs.map .str)), some (.int p), none, none] [] = .ok ((List.range p).reverse.map fun q => D.int (q : Nat)) [] := by
    have e : ((p : Int) - 1 - -1).toNat = p := by omega
    simp [walkA, seqS, ifS, orB, notB, andB, asB, app, consA, nilA, var, cst, Ws.ret, retN, Ws.drop, andV, orV, notV, Ws.bin, Ws.un, asg, tgN, bindS, skip, Out.bind, isBl, gSub, gInt0, gNeg, rng3, e]
    have c1 : -4611686018427387904 ≤ (p : Int) - 1 := by omega
    have c2 : (p : Int) - 1 < 4611686018427387904 := by omega
    simp only [c1, c2, and_self, if_true]
    congr 1
    apply List.ext_getElem
    · simp
    · intro i h1 h2
      simp at h1
      simp
      omega
  have body : ∀ d ∈ (List.range p).reverse.map fun q => D.int (q : Nat), (ifS (asB (app gAny (consA (lc [4] (walk itemsA (bin gIx (var 1) (var 2))) (tgN 4) yesB (bin gIn (var 4) (bin gIx (var 1) (var 3)))) nilA)))
      (ret (bin gAdd (var 3) (cst (.int 1)))) skip) (([some (.ins "Like" []), some (.lst (xs.map .str)), some (.int p), none, none] : Sl).set 3 (some d)) [] =
      if pq xs p d = true then .rt (succD d) [] else .nx (([some (.ins "Like" []), some (.lst (xs.map .str)), some (.int p), none, none] : Sl).set 3 (some d)) [] := by
    intro d hd
    obtain ⟨q, hq, rfl⟩ := List.mem_map.mp hd
    have hq : q < p := by simpa using hq
    have hq2 : q < xs.length := by omega
    have cond : asB (app gAny (consA (lc [4] (walk itemsA (bin gIx (var 1) (var 2))) (tgN 4) yesB (bin gIn (var 4) (bin gIx (var 1) (var 3)))) nilA)) [some (.ins "Like" []), some (.lst (xs.map .str)), some (.int p), some (.int q), none] [] = .ok (meet xs[p] xs[q]) [] := by
      refine asB_ok ((app_ok (h' := []) (ds := [.lst ((xs[p].cps.toList.map fun c => decide (c ∈ xs[q].cps.toList)).map .bl)]) (cons_ok (h1 := []) ?_ rfl)).trans ?_)
      · unfold lc
        rw [show walk itemsA (bin gIx (var 1) (var 2)) [some (.ins "Like" []), some (.lst (xs.map .str)), some (.int p), some (.int q), none] [] = .ok (xs[p].cps.toList.map sgn) [] from by
          unfold walk
          rw [bin_ok (u := .lst (xs.map .str)) (v := .int p) rfl rfl, ix_row hp]
          rfl]
        simp only [Out.bind_ok]
        rw [any_meet (z := xs[q]) (ho _ (List.getElem_mem hp)).2 (by simp) (fun c => (bin_ok (u := .lst (xs.map .str)) (v := .int q) rfl rfl).trans (ix_row hq2 _))]
        rfl
      · simp only [gAny, lstOf, Option.bind, blsOf_map]
        simp [meet]
    show ifS _ _ _ [some (.ins "Like" []), some (.lst (xs.map .str)), some (.int p), some (.int q), none] [] = _
    have epq : pq xs p (.int q) = meet xs[p] xs[q] := by
      show meet (xs.getD p "") (xs.getD ((q : Nat) : Int).toNat "") = _
      rw [show ((q : Nat) : Int).toNat = q from by omega, getD_at hp, getD_at hq2]
    rw [epq]
    cases hc : meet xs[p] xs[q] with
    | true =>
      rw [hc] at cond
      rw [if_yes cond, if_pos rfl, ret_ok (d := .int ((q : Int) + 1)) rfl]
      rfl
    | false =>
      rw [hc] at cond
      rw [if_no cond, if_neg Bool.false_ne_true]
      rfl
  have key := forGo_find (i := 3) body
  unfold seqS forS
  rw [rg]
  simp only [bindS_ok]
  rw [key, List.find?_map]
  unfold likeV
  have ef : (pq xs p ∘ fun q : Nat => D.int q) = fun q => meet (xs.getD p "") (xs.getD q "") := by
    funext q
    show meet (xs.getD p "") (xs.getD ((q : Nat) : Int).toNat "") = _
    rw [show ((q : Nat) : Int).toNat = q from by omega]
  rw [ef]
  cases (List.range p).reverse.find? fun q => meet (xs.getD p "") (xs.getD q "") with
  | some q => simp [succD]
  | none =>
    simp only [Option.map]
    refine ret_ok ?_
    unfold var
    rw [foldl_set_get (by decide)]
    rfl
end Lk01

set_option Elab.async false
set_option linter.all false
set_option maxRecDepth 100000
set_option maxHeartbeats 8000000
namespace Lk01
open PySem Ws
/-- the law's own way: upwards, the last one counts -/
def upV (P : Nat → Bool) (p : Nat) : Nat → Nat
  | 0 => p
  | k + 1 => if P k = true then k + 1 else upV P p k
theorem upV_eq (P : Nat → Bool) (p : Nat) : ∀ k, upV P p k = match (List.range k).reverse.find? P with
    | some q => q + 1
    | none => p
  | 0 => rfl
  | k + 1 => by
    rw [List.range_succ, List.reverse_append]
    simp only [List.reverse_cons, List.reverse_nil, List.nil_append, List.singleton_append]
    unfold upV
    by_cases h : P k = true
    · rw [if_pos h, List.find?_cons_of_pos h]
    · rw [if_neg h, List.find?_cons_of_neg h]
      exact upV_eq P p k
theorem law_like {xs : List Str} {p : Nat} (hp : p < xs.length) (hz : p < 1000) (ho : ∀ x ∈ xs, okT x) : d__law_like [.lst (xs.map .str), .int p] [] = .ok (.int (likeV xs p)) [] := by
  refine fn_rt0 (h' := []) ?_ rfl
  show m__law_like [some (.lst (xs.map .str)), some (.int p), none, none, none] [] = _
  unfold m__law_like
  rw [seq_asg (d := .int p) (h' := []) rfl]
  show seqS _ _ [some (.lst (xs.map .str)), some (.int p), some (.int p), none, none] [] = _
  have hit : ∀ σ : Sl, σ[1]? = some (some (.int p)) → walkA rng1 (consA (var 1) nilA) σ [] = .ok ((List.range p).map fun (i : Nat) => D.int (0 + (i : Int))) [] := fun σ e => by
    have c : (p : Int) < 2 ^ 62 := by omega
    simp [walkA, seqS, ifS, orB, notB, andB, asB, app, consA, nilA, var, cst, Ws.ret, retN, Ws.drop, andV, orV, notV, Ws.bin, Ws.un, asg, tgN, bindS, skip, Out.bind, isBl, e, rng1]
    omega
  have inv := forGo_inv (t := tgN 3) (m := ifS (asB (bin (gNot gEqD) (lc [4] (walk itemsA (bin gIx (var 0) (var 1))) (tgN 4) (asB (bin gIn (var 4) (bin gIx (var 0) (var 3)))) (var 4)) (app gLst nilA))) (asg (bin gAdd (var 3) (cst (.int 1))) (tgN 2)) skip)
    (fun k σ h => h = [] ∧ ∃ x, σ = [some (.lst (xs.map .str)), some (.int p), some (.int (upV (fun q => meet (xs.getD p "") (xs.getD q "")) p k)), x, none])
    ((List.range p).map fun (i : Nat) => D.int (0 + (i : Int))) 0 (σ := [some (.lst (xs.map .str)), some (.int p), some (.int p), none, none]) (h := []) ⟨rfl, none, rfl⟩ (fun j d σ h e ⟨eh, x, eσ⟩ => by
      subst eh eσ
      rw [List.getElem?_map] at e
      have hj : j < p := by
        by_cases hj : j < p
        · exact hj
        · rw [List.getElem?_eq_none (by simpa using hj)] at e; cases e
      rw [List.getElem?_range hj] at e
      have e : d = .int (j : Int) := by simpa using e.symm
      subst e
      have hj2 : j < xs.length := by omega
      have cond : asB (bin (gNot gEqD) (lc [4] (walk itemsA (bin gIx (var 0) (var 1))) (tgN 4) (asB (bin gIn (var 4) (bin gIx (var 0) (var 3)))) (var 4)) (app gLst nilA)) [some (.lst (xs.map .str)), some (.int p), some (.int (upV (fun q => meet (xs.getD p "") (xs.getD q "")) p (0 + j))), some (.int j), none] [] = .ok (meet xs[p] xs[j]) [] := by
        refine asB_ok ((bin_ok (h1 := []) (h2 := []) (u := .lst ((xs[p].cps.toList.filter fun c => decide (c ∈ xs[j].cps.toList)).map sgn)) (v := .lst []) ?_ rfl).trans ?_)
        · unfold lc
          rw [show walk itemsA (bin gIx (var 0) (var 1)) [some (.lst (xs.map .str)), some (.int p), some (.int (upV (fun q => meet (xs.getD p "") (xs.getD q "")) p (0 + j))), some (.int j), none] [] = .ok (xs[p].cps.toList.map sgn) [] from by
            unfold walk
            rw [bin_ok (u := .lst (xs.map .str)) (v := .int p) rfl rfl, ix_row hp]
            rfl]
          simp only [Out.bind_ok]
          rw [some_meet (z := xs[j]) (ho _ (List.getElem_mem hp)).2 (by simp) (fun c => (bin_ok (u := .lst (xs.map .str)) (v := .int j) rfl rfl).trans (ix_row hj2 _))]
          rfl
        · have ft : fits 63 ((xs[p].cps.toList.filter fun c => decide (c ∈ xs[j].cps.toList)).map sgn) = true := fits_all fun d hd => by
            obtain ⟨c, hc, rfl⟩ := List.mem_map.mp hd
            have hc := (List.mem_filter.mp hc).1
            have ok := (ho _ (List.getElem_mem hp)).1
            unfold PyData.canLay0 at ok
            unfold PyData.strOk at ok
            have hlt := Array.all_eq_true_iff_forall_mem.mp ok c (by simpa using hc)
            show PyData.canLay0 (.str ⟨#[c]⟩) = true
            unfold PyData.canLay0 PyData.strOk
            simpa using hlt
          unfold gNot
          rw [gEq_nil ft]
          have : (!((xs[p].cps.toList.filter fun c => decide (c ∈ xs[j].cps.toList)).map sgn).isEmpty) = meet xs[p] xs[j] := by
            unfold meet
            generalize xs[p].cps.toList = cs
            induction cs with
            | nil => rfl
            | cons c cs ih =>
              rw [List.filter_cons, List.any_cons]
              by_cases hc : decide (c ∈ xs[j].cps.toList) = true
              · rw [if_pos hc, hc]; rfl
              · rw [if_neg hc, ih]
                simp only [Bool.not_eq_true] at hc
                rw [hc]; rfl
          dsimp only
          rw [this]
      have en : upV (fun q => meet (xs.getD p "") (xs.getD q "")) p (0 + j + 1) = if meet xs[p] xs[j] = true then j + 1 else upV (fun q => meet (xs.getD p "") (xs.getD q "")) p (0 + j) := by
        rw [Nat.zero_add]
        show (if meet (xs.getD p "") (xs.getD j "") = true then j + 1 else _) = _
        rw [getD_at hp, getD_at hj2]
      cases hc : meet xs[p] xs[j] with
      | true =>
        rw [hc] at cond
        rw [hc, if_pos rfl] at en
        refine ⟨_, [], _, [], rfl, (if_yes cond).trans (asg_nx (d := .int ((j : Int) + 1)) rfl), rfl, some (.int j), ?_⟩
        rw [en]
        rfl
      | false =>
        rw [hc] at cond
        rw [hc, if_neg Bool.false_ne_true] at en
        refine ⟨_, [], _, [], rfl, if_no cond, rfl, some (.int j), ?_⟩
        rw [en]
        rfl)
  obtain ⟨σ', h', e, eh, x, eσ⟩ := inv
  subst eh eσ
  rw [seq_nx (σ' := [some (.lst (xs.map .str)), some (.int p), some (.int (upV (fun q => meet (xs.getD p "") (xs.getD q "")) p (0 + ((List.range p).map fun (i : Nat) => D.int (0 + (i : Int))).length))), x, none]) (h' := []) (by
    unfold forS
    rw [hit _ rfl]
    exact e)]
  rw [ret_ok (d := .int (likeV xs p)) (h' := [])]
  unfold var likeV
  simp only [List.length_map, List.length_range, Nat.zero_add]
  rw [upV_eq]
  rfl
end Lk01

set_option Elab.async false
set_option linter.all false
set_option maxRecDepth 100000
set_option maxHeartbeats 8000000
namespace Lk01
open PySem Ws
def rowD (xs : List Str) : D := .lst (xs.map .str)
theorem pure_row (xs : List Str) : pureD 0 (rowD xs) = true := by
  unfold rowD pureD
  induction xs with
  | nil => rfl
  | cons x xs ih => simp only [List.map_cons]; unfold pureDs; rw [ih]; rfl
theorem fit_row {xs : List Str} (ho : ∀ x ∈ xs, okT x) : fit 64 (rowD xs) = true := by
  unfold rowD fit
  exact fits_all fun d hd => by
    obtain ⟨x, hx, rfl⟩ := List.mem_map.mp hd
    unfold fit
    exact (ho x hx).1
theorem pure2 {xs : List Str} {p : Nat} {d : D} (hd : pureD 0 d = true) : pureDs 0 [d, rowD xs, .int p] = true := by
  unfold pureDs pureDs pureDs pureDs
  rw [hd, pure_row]; rfl
/-- the slots in the body -/
def slb (ns : List Int) (c : Int) (xs : List Str) (s : Int) (x7 x8 : Option D) : Sl := [some (.scr ns), some (.int c), some (.cell 0), some (rowD xs), none, some (rowD xs), some (.int s), x7, x8, none]
def placeM : SM := (seqS
  (asg (app gLstC (consA (meth "Front" "aim" (cal 3 [] d_Front_aim) (cst (.ins "Front" [])) (consA (var 5) (consA (var 7) nilA))) (consA (meth "Half" "aim" (cal 3 [] d_Half_aim) (cst (.ins "Half" [])) (consA (var 5) (consA (var 7) nilA))) (consA (meth "Like" "aim" (cal 3 [] d_Like_aim) (cst (.ins "Like" [])) (consA (var 5) (consA (var 7) nilA))) nilA)))) (tgN 8))
  (seqS
  (drop (bm isLst gAppend (var 8) (consA (meth "By" "aim" (cal 3 [] d_By_aim) (app (makeN "By" 2 [] d_By_ZinitZ) (consA (var 6) nilA)) (consA (var 5) (consA (var 7) nilA))) nilA)))
  (ifS (orB (asB (bin (gNot gEqD) (var 8) (app gLst (consA (cst (.int 0)) (consA (bin gDiv (var 7) (cst (.int 2))) (consA (app (cal 2 [] d__law_like) (consA (var 3) (consA (var 7) nilA))) (consA (app gMax2 (consA (cst (.int 0)) (consA (bin gSub (var 7) (var 6)) nilA))) nilA))))))) (asB (bin (gNot gEqD) (var 5) (var 3))))
  (ret (cst (.bl false)))
  skip)))
theorem meth_at {c m : Str} {g : List D → AH → Out D} {mo : M D} {mr : M (List D)} {σ : Sl} {h h1 h2 : AH} {fs : List (Str × D)} {ds : List D} (e1 : mo σ h = .ok (.ins c fs) h1) (hl : fs.lookup m = none) (e2 : mr σ h1 = .ok ds h2) : meth c m g mo mr σ h = g (.ins c fs :: ds) h2 := by
  unfold meth
  rw [e1]
  show (if c = c ∧ (fs.lookup m).isNone = true then (mr σ h1).bind fun ds h2 => g (.ins c fs :: ds) h2 else .bad) = _
  rw [if_pos ⟨rfl, by rw [hl]; rfl⟩, e2]
  rfl
theorem get_end (h : AH) (o : OB) : AH.get (h ++ [some o]) h.length = some o := by rw [AH.get_push, if_pos rfl]
theorem put_end (h : AH) (o u : OB) : AH.put (h ++ [some o]) h.length u = h ++ [some u] := by unfold AH.put; simp
theorem place_ok {ns : List Int} {c s : Int} {xs : List Str} {x8 : Option D} {p : Nat} {h : AH} (hs : 0 ≤ s) (hp : p < xs.length) (hz : p < 1000) (ho : ∀ x ∈ xs, okT x) :
    ∃ h', placeM (slb ns c xs s (some (.int p)) x8) h = .nx (slb ns c xs s (some (.int p)) (some (.cell h.length))) h' := by
  have ar : ∀ (x8 : Option D) (h : AH), consA (var 5) (consA (var 7) nilA) (slb ns c xs s (some (.int p)) x8) h = .ok [rowD xs, .int p] h := fun _ _ => rfl
  have f1 : ∀ h : AH, cal 3 [] d_Front_aim [.ins "Front" [], rowD xs, .int p] h = .ok (.int 0) h := fun h => cal_pure (h0 := []) rfl (pure2 rfl) rfl rfl
  have f2 : ∀ h : AH, cal 3 [] d_Half_aim [.ins "Half" [], rowD xs, .int p] h = .ok (.int ((p : Int) / 2)) h := fun h => cal_pure (h0 := []) rfl (pure2 rfl) rfl rfl
  have f3 : ∀ h : AH, cal 3 [] d_Like_aim [.ins "Like" [], rowD xs, .int p] h = .ok (.int (likeV xs p)) h := fun h => cal_pure (h0 := []) rfl (pure2 rfl) (like_aim hp hz ho) rfl
  have f4 : ∀ h : AH, cal 3 [] d_By_aim [.ins "By" [("steps", .int s)], rowD xs, .int p] h = .ok (.int (if (p : Int) - s > 0 then (p : Int) - s else 0)) h := fun h => cal_pure (h0 := []) rfl (pure2 rfl) rfl rfl
  have f5 : ∀ h : AH, cal 2 [] d__law_like [rowD xs, .int p] h = .ok (.int (likeV xs p)) h := fun h => cal_pure (h0 := []) rfl (by unfold pureDs pureDs pureDs; rw [pure_row]; rfl) (law_like hp hz ho) rfl
  refine ⟨h ++ [some (.lst [.int 0, .int ((p : Int) / 2), .int (likeV xs p), .int (if (p : Int) - s > 0 then (p : Int) - s else 0)])], ?_⟩
  unfold placeM
  rw [seq_asg (d := .cell h.length) (h' := h ++ [some (.lst [.int 0, .int ((p : Int) / 2), .int (likeV xs p)])]) ((app_ok (cons_ok ((meth_at (h1 := h) rfl rfl (ar x8 h)).trans (f1 h)) (cons_ok ((meth_at (h1 := h) rfl rfl (ar x8 h)).trans (f2 h)) (cons_ok ((meth_at (h1 := h) rfl rfl (ar x8 h)).trans (f3 h)) rfl)))).trans rfl)]
  show seqS _ _ (slb ns c xs s (some (.int p)) (some (.cell h.length))) _ = _
  rw [seq_drop (d := .non) (h' := h ++ [some (.lst [.int 0, .int ((p : Int) / 2), .int (likeV xs p), .int (if (p : Int) - s > 0 then (p : Int) - s else 0)])]) (by
    unfold bm
    rw [show var 8 (slb ns c xs s (some (.int p)) (some (.cell h.length))) (h ++ [some (.lst [.int 0, .int ((p : Int) / 2), .int (likeV xs p)])]) = .ok (.cell h.length) (h ++ [some (.lst [.int 0, .int ((p : Int) / 2), .int (likeV xs p)])]) from rfl]
    simp only [Out.bind_ok]
    rw [if_pos (by unfold isLst lstOf; simp only [get_end]; rfl), cons_ok ((meth_at ((app_ok (ds := [.int s]) rfl).trans (mk_by hs _)) rfl (ar _ _)).trans (f4 _)) rfl]
    simp only [Out.bind_ok, gAppend, cellL, get_end]
    rw [if_pos (by simp [lim]), put_end]
    rfl)]
  have e1 : asB (bin (gNot gEqD) (var 8) (app gLst (consA (cst (.int 0)) (consA (bin gDiv (var 7) (cst (.int 2))) (consA (app (cal 2 [] d__law_like) (consA (var 3) (consA (var 7) nilA))) (consA (app gMax2 (consA (cst (.int 0)) (consA (bin gSub (var 7) (var 6)) nilA))) nilA)))))) (slb ns c xs s (some (.int p)) (some (.cell h.length))) (h ++ [some (.lst [.int 0, .int ((p : Int) / 2), .int (likeV xs p), .int (if (p : Int) - s > 0 then (p : Int) - s else 0)])]) = .ok false (h ++ [some (.lst [.int 0, .int ((p : Int) / 2), .int (likeV xs p), .int (if (p : Int) - s > 0 then (p : Int) - s else 0)])]) := by
    refine asB_ok ((bin_ok (u := .cell h.length) (v := .lst [.int 0, .int ((p : Int) / 2), .int (likeV xs p), .int (if (p : Int) - s > 0 then (p : Int) - s else 0)]) rfl ((app_ok (cons_ok rfl (cons_ok rfl (cons_ok ((app_ok (ds := [rowD xs, .int p]) rfl).trans (f5 _)) (cons_ok rfl rfl))))).trans rfl)).trans ?_)
    unfold gNot
    rw [gEq_self (by unfold seen; simp only [get_end]) (by unfold seen; simp only [get_end]; rfl)]
    rfl
  have e2 : ∀ h' : AH, asB (bin (gNot gEqD) (var 5) (var 3)) (slb ns c xs s (some (.int p)) (some (.cell h.length))) h' = .ok false h' := fun h' => by
    refine asB_ok ((bin_ok (u := rowD xs) (v := rowD xs) rfl rfl).trans ?_)
    unfold gNot
    rw [gEq_self (x := rowD xs) (y := rowD xs) rfl (fit_row ho)]
    rfl
  exact if_no ((orB_no e1).trans (e2 _))
theorem atI3 {a b c : D} {r : Int} (h0 : 0 ≤ r) (h1 : r < 3) (h : AH) : gIx (.lst [a, b, c]) (.int r) h = .ok (if r = 0 then a else if r = 1 then b else c) h := by
  have : r = 0 ∨ r = 1 ∨ r = 2 := by omega
  rcases this with rfl | rfl | rfl <;> rfl
theorem cut_len (ns : List Int) (hl : ns.length ≤ 63) : (cutD ns none (some 12)).length ≤ 63 := by
  unfold cutD
  rw [List.length_take, List.length_drop]
  omega
def badM : M D := lc [9] (walk itemsA (app gLst (consA (un gNeg (cst (.int 1))) (consA (cst (.bl true)) (consA (cst .non) (consA (cst (.str "1")) (consA (app gTup (consA (cst (.int 1)) nilA)) (consA (app gLst nilA) (consA (un gNeg (bin gPow (cst (.int 10)) (cst (.int 30)))) nilA))))))))) (tgN 9) (notB (asB (app (cal 1 [] d__law_refused) (consA (var 9) nilA)))) (var 9)
theorem bad_ok {σ : Sl} {h : AH} (h9 : 9 < σ.length) : badM σ h = .ok (.lst []) h := by
  unfold badM lc
  rw [show walk itemsA (app gLst (consA (un gNeg (cst (.int 1))) (consA (cst (.bl true)) (consA (cst .non) (consA (cst (.str "1")) (consA (app gTup (consA (cst (.int 1)) nilA)) (consA (app gLst nilA) (consA (un gNeg (bin gPow (cst (.int 10)) (cst (.int 30)))) nilA)))))))) σ h = .ok [.int (-1), .bl true, .non, .str "1", .tup [.int 1], .lst [], .int (-1000000000000000000000000000000)] h from rfl]
  simp only [Out.bind_ok]
  rw [lcGo_map (f := fun _ => none) (fun d hd => ?_) (by simp)]
  · simp
  · have key : d__law_refused [d] [] = .ok (.bl true) [] ∧ pureDs 0 [d] = true := by
      simp only [List.mem_cons, List.not_mem_nil, or_false] at hd
      rcases hd with rfl | rfl | rfl | rfl | rfl | rfl | rfl <;> exact ⟨rfl, rfl⟩
    have ev : var 9 ((wipeD σ [9]).set 9 (some d)) h = .ok d h := by unfold var wipeD wipeD; simp [h9]
    unfold turnM tgN
    dsimp only
    rw [notB_ok (bb := true) (h' := h) (asB_ok ((app_ok (ds := [d]) (h' := h) (cons_ok ev rfl)).trans (cal_pure (n := 1) (ds := [d]) (h0 := []) rfl key.2 key.1 rfl)))]
    rfl
theorem last_ok {σ : Sl} {h : AH} (h9 : 9 < σ.length) : asB (bin (gNot gEqD) badM (app gLst nilA)) σ h = .ok false h := by
  refine asB_ok ((bin_ok (bad_ok h9) (v := .lst []) rfl).trans ?_)
  unfold gNot
  rw [gEq_nil rfl]
  rfl
def stepsM : M D := bin gIx (app gLst (consA (app (cal 2 [] d__law_digit) (consA (var 2) (consA (cst (.int 4)) nilA))) (consA (app gLen (consA (var 3) nilA)) (consA (bin gAdd (bin gPow (cst (.int 10)) (cst (.int 39))) (app (cal 2 [] d__law_digit) (consA (var 2) (consA (cst (.int 9)) nilA)))) nilA)))) (app (cal 2 [] d__law_digit) (consA (var 2) (consA (cst (.int 3)) nilA)))
def rowM : M D := lc [4] (walkA rng1 (consA (bin gAdd (cst (.int 1)) (app (cal 2 [] d__law_digit) (consA (var 2) (consA (cst (.int 9)) nilA)))) nilA)) (tgN 4) yesB (app (cal 1 [] d__law_marks) (consA (var 2) nilA))
theorem len_row {xs : List Str} {σ : Sl} {h : AH} (e : σ[3]? = some (some (rowD xs))) : app gLen (consA (var 3) nilA) σ h = .ok (.int xs.length) h := by
  rw [app_ok (ds := [rowD xs]) (h' := h) (cons_ok (by unfold var; rw [e]) rfl)]
  simp [gLen, lenD, rowD, lstOf]
theorem steps_ok {xs : List Str} {σ : Sl} {st : List D} (e2 : σ[2]? = some (some (.cell 0))) (e3 : σ[3]? = some (some (rowD xs))) (hs : St st) : ∃ s st', stepsM σ [some (.lst st)] = .ok (.int s) [some (.lst st')] ∧ 0 ≤ s ∧ St st' := by
  obtain ⟨r2, st3, c1, c2, c3, c4⟩ := draw0 (i := 2) (σ := σ) e2 hs (b := 4) (by decide) (by decide)
  obtain ⟨r3, st4, d1, d2, d3, d4⟩ := draw0 (i := 2) (σ := σ) e2 c4 (b := 9) (by decide) (by decide)
  obtain ⟨r4, st5, f1, f2, f3, f4⟩ := draw0 (i := 2) (σ := σ) e2 d4 (b := 3) (by decide) (by decide)
  obtain ⟨s, hs, es⟩ : ∃ s : Int, 0 ≤ s ∧ (if r4 = 0 then D.int r2 else if r4 = 1 then .int xs.length else .int (10 ^ 39 + r3)) = .int s := by
    by_cases h0 : r4 = 0
    · exact ⟨r2, c2, by rw [if_pos h0]⟩
    · by_cases h1 : r4 = 1
      · exact ⟨xs.length, by omega, by rw [if_neg h0, if_pos h1]⟩
      · exact ⟨10 ^ 39 + r3, by omega, by rw [if_neg h0, if_neg h1]⟩
  refine ⟨s, st5, ?_, hs, f4⟩
  have p1 : bin gAdd (bin gPow (cst (.int 10)) (cst (.int 39))) (app (cal 2 [] d__law_digit) (consA (var 2) (consA (cst (.int 9)) nilA))) σ [some (.lst st3)] = .ok (.int (10 ^ 39 + r3)) [some (.lst st4)] :=
    (bin_ok (u := .int (10 ^ 39)) (v := .int r3) (h1 := [some (.lst st3)]) (h2 := [some (.lst st4)]) rfl d1).trans rfl
  have p2 : app gLst (consA (app (cal 2 [] d__law_digit) (consA (var 2) (consA (cst (.int 4)) nilA))) (consA (app gLen (consA (var 3) nilA)) (consA (bin gAdd (bin gPow (cst (.int 10)) (cst (.int 39))) (app (cal 2 [] d__law_digit) (consA (var 2) (consA (cst (.int 9)) nilA)))) nilA))) σ [some (.lst st)] = .ok (.lst [.int r2, .int xs.length, .int (10 ^ 39 + r3)]) [some (.lst st4)] :=
    (app_ok (h' := [some (.lst st4)]) (cons_ok c1 (cons_ok (len_row e3) (cons_ok p1 rfl)))).trans rfl
  exact (bin_ok p2 f1).trans ((atI3 f2 f3 _).trans (by rw [es]))
theorem rowM_ok {σ : Sl} {st : List D} (e2 : σ[2]? = some (some (.cell 0))) (hs : St st) : ∃ xs st', rowM σ [some (.lst st)] = .ok (rowD xs) [some (.lst st')] ∧ St st' ∧ xs.length < 1000 ∧ ∀ x ∈ xs, okT x := by
  obtain ⟨r, st1, a1, a2, a3, a4⟩ := draw0 (i := 2) (σ := σ) e2 hs (b := 9) (by decide) (by decide)
  obtain ⟨xs, st2, b1, b2, b3, b4⟩ := row_ok a4 (σ := σ) e2 a2 a3
  refine ⟨xs, st2, ?_, b2, by omega, b4⟩
  unfold rowM lc walkA
  rw [cons_ok ((bin_ok (u := .int 1) rfl a1).trans (show gAdd (.int 1) (.int r) [some (.lst st1)] = .ok (.int (1 + r)) [some (.lst st1)] from rfl)) rfl]
  simp only [Out.bind_ok]
  rw [show rng1 [.int (1 + r)] [some (.lst st1)] = .ok ((List.range (1 + r).toNat).map fun (i : Nat) => D.int (0 + (i : Int))) [some (.lst st1)] from by
    unfold rng1
    dsimp only
    rw [if_pos (by omega)]
    simp only [Int.zero_add]]
  simp only [Out.bind_ok]
  rw [b1]
  rfl
theorem body_ok {ns : List Int} (c : Int) : ∃ σ2 h2, (seqS
  (asg (app gLstC (consA (var 1) nilA)) (tgN 2))
  (seqS
  (asg rowM (tgN 3))
  (seqS
  (asg (app gList (consA (var 3) nilA)) (tgN 5))
  (seqS
  (asg stepsM (tgN 6))
  (seqS
  (forS (walkA rng1 (consA (app gLen (consA (var 3) nilA)) nilA)) (tgN 7) placeM)
  (seqS
  (ifS (notB (asB (app (cal 1 [] d__law_alike_right) (consA (var 6) nilA))))
  (ret (cst (.bl false)))
  skip)
  (ifS (asB (bin (gNot gEqD) badM (app gLst nilA)))
  (ret (cst (.bl false)))
  skip)))))))
  [some (.scr ns), some (.int c), none, none, none, none, none, none, none, none] [] = .nx σ2 h2 ∧ trim 0 [1, 2, 3, 4, 5, 6, 7, 8, 9] σ2 h2 = .ok [some (.scr ns), none, none, none, none, none, none, none, none, none] [] := by
  rw [seq_asg (d := .cell 0) (h' := [some (.lst [.int c])]) rfl]
  show ∃ σ2 h2, seqS _ _ [some (.scr ns), some (.int c), some (.cell 0), none, none, none, none, none, none, none] [some (.lst [.int c])] = .nx σ2 h2 ∧ _
  obtain ⟨xs, st2, b1, b2, hx, b4⟩ := rowM_ok (σ := [some (.scr ns), some (.int c), some (.cell 0), none, none, none, none, none, none, none]) (st := [.int c]) rfl (.inl ⟨c, rfl⟩)
  rw [seq_asg b1]
  show ∃ σ2 h2, seqS _ _ [some (.scr ns), some (.int c), some (.cell 0), some (rowD xs), none, none, none, none, none, none] [some (.lst st2)] = .nx σ2 h2 ∧ _
  rw [seq_asg (d := rowD xs) (h' := [some (.lst st2)]) rfl]
  show ∃ σ2 h2, seqS _ _ [some (.scr ns), some (.int c), some (.cell 0), some (rowD xs), none, some (rowD xs), none, none, none, none] [some (.lst st2)] = .nx σ2 h2 ∧ _
  obtain ⟨s, st5, c1, hs, f4⟩ := steps_ok (xs := xs) (σ := [some (.scr ns), some (.int c), some (.cell 0), some (rowD xs), none, some (rowD xs), none, none, none, none]) rfl rfl b2
  rw [seq_asg c1]
  show ∃ σ2 h2, seqS _ _ (slb ns c xs s none none) [some (.lst st5)] = .nx σ2 h2 ∧ _
  obtain ⟨σ', h', g1, x7, x8, g2⟩ := forGo_inv (t := tgN 7) (m := placeM) (fun k σ h => ∃ x7 x8, σ = slb ns c xs s x7 x8) ((List.range xs.length).map fun (i : Nat) => D.int (0 + (i : Int))) 0 (σ := slb ns c xs s none none) (h := [some (.lst st5)]) ⟨none, none, rfl⟩ (fun j d σ h e ⟨x7, x8, eσ⟩ => by
    subst eσ
    rw [List.getElem?_map] at e
    have hj : j < xs.length := by
      by_cases hj : j < xs.length
      · exact hj
      · rw [List.getElem?_eq_none (by simpa using hj)] at e; cases e
    rw [List.getElem?_range hj] at e
    have e : d = .int (j : Int) := by simpa using e.symm
    subst e
    obtain ⟨h', k⟩ := place_ok (ns := ns) (c := c) (x8 := x8) (h := h) hs hj (by omega) b4
    exact ⟨slb ns c xs s (some (.int j)) x8, h, _, h', rfl, k, _, _, rfl⟩)
  subst g2
  rw [seq_nx (σ' := slb ns c xs s x7 x8) (h' := h') (for_at ((walkA_ok (cons_ok (len_row (xs := xs) rfl) rfl)).trans (rng_nat (by omega) _)) g1)]
  rw [seq_if_no (h' := h') (notB_ok (bb := true) (asB_ok ((app_ok (ds := [.int s]) (h' := h') rfl).trans (cal_pure (n := 1) (h0 := []) rfl rfl (alike_ok hs) rfl))))]
  refine ⟨slb ns c xs s x7 x8, h', if_no (h' := h') (last_ok (by show 9 < 10; decide)), ?_⟩
  · unfold trim
    rw [if_pos ⟨rfl, rfl⟩]
    rfl
theorem math (ns : List Int) (hl : ns.length ≤ 63) : ∃ h', d_law [.scr ns] [] = .ok (.bl true) h' := by
  refine ⟨[], fn_rt0 (h' := []) ?_ rfl⟩
  show m_law [some (.scr ns), none, none, none, none, none, none, none, none, none] [] = _
  unfold m_law
  rw [seq_nx (σ' := [some (.scr ns), none, none, none, none, none, none, none, none, none]) (h' := [])]
  · rfl
  · unfold forT
    obtain ⟨ds, e, hd⟩ : ∃ ds : List Int, walk itemsA (bin gAdd (app gLst (consA (cst (.int 0)) (consA (cst (.int 1)) nilA))) (sl (var 0) noPart (part (cst (.int 12))))) [some (.scr ns), none, none, none, none, none, none, none, none, none] [] = .ok (ds.map .int) [] ∧ True := ⟨[0, 1] ++ cutD ns none (some 12), by
      unfold walk
      rw [bin_ok (u := .lst [.int 0, .int 1]) (v := .lst ((cutD ns none (some 12)).map .int)) rfl rfl]
      have l := cut_len ns hl
      simp only [gAdd, lstOf]
      rw [if_pos (by simp [lim]; omega)]
      simp [itemsA, itemsL], trivial⟩
    rw [e]
    simp only [bindS_ok]
    refine forGo_trim fun d hd => ?_
    obtain ⟨c, _, rfl⟩ := List.mem_map.mp hd
    obtain ⟨σ2, h2, k1, k2⟩ := body_ok (ns := ns) c
    exact ⟨_, [], σ2, h2, rfl, k1, k2⟩
end Lk01

set_option maxHeartbeats 0
namespace Lk01
open PySem PySem.Spec PyProof.Rows L2 Ws
abbrev Rw : PySem.W.OpenRow := PySem.W.OpenLaw.row PySem.Challenge.rw_wishshelf_k01_how_far_rules_aim
def loose : List PySem.Str := (["__name__", "ShelfError", "NoRule", "NoThing", "is_whole", "Rule", "Front", "By", "Half", "Like", "_law_cell_at", "_law_digit", "_law_marks", "_law_like", "_law_refused", "_law_alike_right"] : List PySem.Str)
abbrev hk : PySem.W.Hook := hookB 6 fa fnl
def ob (s : PySem.W.SharedT) : He.AlD := obsBG 6 fa fnl (HandSHeadRun.getT s)
theorem ob_eq (s : PySem.W.SharedT) : ob s = hk.obs s.abs := obsBG_eq (HandSHeadRun.getT_eq s)
theorem run (w : World) : HandSHeadRun.RunEq Rw (PySem.W.view Rw.prog [19]) hk ob 3000 loose w := by
  intro os
  kernel_rfl
end Lk01
open PySem PySem.W PySem.Calls PyProof.Rows
theorem PySem.Challenge.cw_wishshelf_k01_how_far_rules_aim_holds : PySem.Challenge.rw_wishshelf_k01_how_far_rules_aim.Holds := by
  w_on; o_law
  refine HandSHeadRun.head_any (r := OpenLaw.row PySem.Challenge.rw_wishshelf_k01_how_far_rules_aim) (q := view (OpenLaw.row PySem.Challenge.rw_wishshelf_k01_how_far_rules_aim).prog [19]) (H := Lk01.hk) (ob := Lk01.ob) (M := 3000) (loose := Lk01.loose) (d := HandSHeadRun.topDef (OpenLaw.row PySem.Challenge.rw_wishshelf_k01_how_far_rules_aim).prog 19) (kwd := []) Lk01.ob_eq
    (by kernel_rfl) (fun s => by kernel_rfl) Lk01.run (by kernel_rfl) (by kernel_rfl) (by kernel_rfl) (by rfl) (by first | assumption | decide +kernel) (by decide +kernel) ⟨rfl, rfl, rfl, rfl, rfl, by decide +kernel⟩ ?hw ?hc
  case hw => w_witness2
  case hc =>
    refine L2.walk_ofE (l := PySem.Challenge.rw_wishshelf_k01_how_far_rules_aim) (n := 63) (k := Lk01.lawDepth) (x := "_law_script") (CX := fun _ _ _ _ _ _ => False) rfl (by decide) (by kernel_rfl) ⟨rfl, by decide, by decide⟩ ?F (fun _ _ _ _ z => z)
    intro w mg fa h Y G hmg0
    obtain ⟨K, KX, c⟩ := Y
    have hmg : mg ("law" : PySem.Str) = some (.ref fa) := by
      have e : (HandSHeadRun.topDef (OpenLaw.row PySem.Challenge.rw_wishshelf_k01_how_far_rules_aim).prog 19).name = ("law" : PySem.Str) := by kernel_rfl
      rw [← e]
      exact hmg0
    obtain ⟨fd, hb, hF⟩ := Lk01.law_fact (P := (PySem.Challenge.rw_wishshelf_k01_how_far_rules_aim).prog) (w := w) KX G hmg c
    exact ⟨K, fd, _, KX, hb, fun H a ns hl _ hS => (let ⟨h', e⟩ := Lk01.math ns hl; Ws.spM_law (C := ⟨(PySem.Challenge.rw_wishshelf_k01_how_far_rules_aim).prog, w, K⟩) hS e), fun base _ _ => hF base⟩

