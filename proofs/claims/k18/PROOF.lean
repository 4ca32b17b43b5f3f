import PyProof.Rows.All
import Wide.All
import OpenK.AllK
import Wide.FinOn
import KE.KStateDown
import HandS.ForMost
import HandS.ForExc
import HandS.Defaults
import HandS.IsInst
import HandS.Slots
import HandS.SlotsOwn
import HandS.ExcInit
import HandS.ExcIs
import HandS.ExcField
import HandS.TryMany
import HandS.Star
import HandS.Conv
import HandS.DictComp
import HandS.ListItems
import HandS.TupMul
import HandS.TupAny
import HandS.Flow
import HandS.TupSets
import HandS.Property
import HandS.CallSlots
import HandS.Head0
import HandS.Head1
import HandS.Head2
import HandS.HeadEnd
import HandS.HeadHook1
import HandS.HeadHook2
import HandS.HeadHook3
import KE.GoesEnum
import HandS.SetFor
import HandS.Small
import HandS.Style
import HandS.Finally
import HandS.DictEq
import PyProof.StrOps2
import HandS.RaiseMore
import HandS.Comp
import HandS.ExcInitHot
import PySem.Challenge.RW_shelfsums_k18_errors_apart
set_option Elab.async false
set_option linter.all false
set_option maxRecDepth 100000
set_option maxHeartbeats 4000000
namespace DL
open PySem PySem.Spec PyProof.Rows L2
/-! ### data -/
structure ClsT where
  C : Addr
  ns : List Str
inductive TyN where
  | int | bool | str | tuple | list | dict | non
  deriving DecidableEq
def TyN.nm : TyN → String
  | .int => "int" | .bool => "bool" | .str => "str" | .tuple => "tuple" | .list => "list" | .dict => "dict" | .non => "NoneType"
inductive D where
  | non | bl (b : Bool) | int (i : Int) | str (s : Str) | ref (a : Addr) | ty (n : TyN)
  | lst (xs : List D) | frl (xs : List D) | tup (xs : List D)
  | dic (kvs : List (Key × D))
  | obj (T : ClsT) (fs : List D)
  | slo (T : ClsT) (fs : List D)
  | xcp (a : Addr) (d : Option Addr) (ns : List Str) (fs : List D)
inductive DV where
  | d (x : D) | m (i : Nat) | pr (x : D) (k : Nat)
inductive MO where
  | lst (xs : List DV) | dic (kvs : List (Key × D)) | ins (T : ClsT) (fs : List DV) | gone
abbrev Rh := List (Option DV)
abbrev Mem := List MO

section
variable (K : PySem.W.Frag) (B : Hp)
mutual
def Rep : D → V → Prop
  | .non, v => v = .non
  | .bl b, v => v = .bl b
  | .int i, v => v = .int i
  | .str s, v => v = .str s
  | .ref a, v => v = .ref a
  | .ty n, v => v = .ty n.nm
  | .lst xs, v => ∃ a vs, v = .ref a ∧ B a = some (.lst vs) ∧ RepL xs vs
  | .frl xs, v => ∃ a vs, v = .ref a ∧ SqL K B a vs ∧ RepL xs vs
  | .tup xs, v => ∃ a vs, v = .ref a ∧ SqT K B a vs ∧ RepL xs vs
  | .dic kvs, v => ∃ a ws, v = .ref a ∧ Rd B a (.dK ws) ∧ RepK kvs ws
  | .obj T fs, v => ∃ a dx gs, v = .ref a ∧ B a = some (.ins T.C dx gs) ∧ gs.map (·.1) = T.ns ∧ RepL fs (gs.map (·.2))
  | .slo T fs, v => ∃ a dx vs, v = .ref a ∧ B a = some (SlX.SlO a T.C dx (vs.map some)) ∧ B dx = some (.xd []) ∧ RepL fs vs
  | .xcp a d ns fs, v => v = .ref a ∧ (d = none ∧ fs = [] ∧ ns = [] ∨ ∃ dd gs, d = some dd ∧ B dd = some (.xd gs) ∧ gs.map (·.1) = ns ∧ RepL fs (gs.map (·.2)))
def RepL : List D → List V → Prop
  | [], [] => True
  | x :: xs, v :: vs => Rep x v ∧ RepL xs vs
  | [], _ :: _ => False
  | _ :: _, [] => False
def RepK : List (Key × D) → List (Key × V) → Prop
  | [], [] => True
  | (k, x) :: xs, (j, v) :: vs => k = j ∧ Rep x v ∧ RepK xs vs
  | [], _ :: _ => False
  | _ :: _, [] => False
end
end
/-- what a lock hides -/
def core : HO → HO
  | .frz _ (.dK ws) => .dK ws
  | .frz _ (.dT ws) => .dT ws
  | o => o
def isLock : HO → Bool
  | .frz _ _ => true
  | _ => false
/-- more stands there; a dict may have been locked -/
def Sub (B B' : Hp) : Prop := ∀ a o, B a = some o → ∃ o', B' a = some o' ∧ core o' = core o ∧ (isLock o = true → o' = o)
theorem core_eq {o o' : HO} (h : core o' = core o) (hd : ∀ ws, core o ≠ .dK ws) (ht : ∀ ws, core o ≠ .dT ws) : o' = o := by
  have k : ∀ u : HO, (∀ ws, core u ≠ .dK ws) → (∀ ws, core u ≠ .dT ws) → core u = u := by
    intro u h1 h2
    cases u with
    | frz od v =>
      cases v with
      | dK ws => exact absurd rfl (h1 ws)
      | dT ws => exact absurd rfl (h2 ws)
      | _ => rfl
    | _ => rfl
  rw [← k o hd ht, ← h]
  exact (k o' (h ▸ hd) (h ▸ ht)).symm
theorem Sub.eq {B B' : Hp} (e : Sub B B') {a : Addr} {o : HO} (h : B a = some o) (hd : ∀ ws, core o ≠ .dK ws := by intro ws q; cases q) (ht : ∀ ws, core o ≠ .dT ws := by intro ws q; cases q) : B' a = some o := by
  obtain ⟨o', h1, h2, _⟩ := e a o h
  rw [h1, core_eq h2 hd ht]
theorem Sub.rdK {B B' : Hp} (e : Sub B B') {a : Addr} {ws : List (Key × V)} (h : Rd B a (.dK ws)) : Rd B' a (.dK ws) := by
  have k : ∀ o, core o = .dK ws → o = .dK ws ∨ ∃ od, o = .frz od (.dK ws) := by
    intro o h
    cases o with
    | frz od v =>
      cases v with
      | dK w2 => right; exact ⟨od, by rw [show core (.frz od (.dK w2)) = .dK w2 from rfl] at h; rw [h]⟩
      | dT w2 => cases h
      | _ => cases h
    | _ => first | exact .inl h | cases h
  have : ∃ o, B a = some o ∧ core o = .dK ws := by
    rcases h with h | ⟨od, h⟩
    · exact ⟨_, h, rfl⟩
    · exact ⟨_, h, rfl⟩
  obtain ⟨o, h1, h2⟩ := this
  obtain ⟨o', h3, h4, _⟩ := e a o h1
  rcases k o' (h4.trans h2) with rfl | ⟨od, rfl⟩
  · exact .inl h3
  · exact .inr ⟨od, h3⟩
theorem Sub.rdL {B B' : Hp} (e : Sub B B') {a : Addr} {xs : List V} (h : Rd B a (.lst xs)) : Rd B' a (.lst xs) := by
  rcases h with h | ⟨o, h⟩
  · exact .inl (e.eq h)
  · exact .inr ⟨o, e.eq h⟩
theorem Sub.rdT {B B' : Hp} (e : Sub B B') {a : Addr} {xs : List V} (h : Rd B a (.tup xs)) : Rd B' a (.tup xs) := by
  rcases h with h | ⟨o, h⟩
  · exact .inl (e.eq h)
  · exact .inr ⟨o, e.eq h⟩
theorem Sub.l {K : PySem.W.Frag} {B B' : Hp} (e : Sub B B') {a : Addr} {xs : List V} (h : SqL K B a xs) : SqL K B' a xs := by
  rcases h with h | h
  · exact .inl (e.rdL h)
  · exact .inr h
theorem Sub.t {K : PySem.W.Frag} {B B' : Hp} (e : Sub B B') {a : Addr} {xs : List V} (h : SqT K B a xs) : SqT K B' a xs := by
  rcases h with h | h
  · exact .inl (e.rdT h)
  · exact .inr h
theorem Sub.refl (B : Hp) : Sub B B := fun _ o h => ⟨o, h, rfl, fun _ => rfl⟩
theorem Sub.trans {B B1 B2 : Hp} (a : Sub B B1) (b : Sub B1 B2) : Sub B B2 := fun x o h => by
  obtain ⟨o1, h1, e1, l1⟩ := a x o h
  obtain ⟨o2, h2, e2, l2⟩ := b x o1 h1
  exact ⟨o2, h2, e2.trans e1, fun z => by
    have q := l1 z
    subst q
    exact l2 z⟩
section
variable {K : PySem.W.Frag} {B B' : Hp} (e : Sub B B')
include e
mutual
theorem Rep.mono : ∀ (d : D) (v : V), Rep K B d v → Rep K B' d v
  | .non, _, h => h
  | .bl _, _, h => h
  | .int _, _, h => h
  | .str _, _, h => h
  | .ref _, _, h => h
  | .ty _, _, h => h
  | .lst xs, _, h => by
    unfold Rep at h ⊢
    obtain ⟨a, vs, h1, h2, h3⟩ := h
    exact ⟨a, vs, h1, e.eq h2, RepL.mono xs vs h3⟩
  | .frl xs, _, h => by
    unfold Rep at h ⊢
    obtain ⟨a, vs, h1, h2, h3⟩ := h
    exact ⟨a, vs, h1, e.l h2, RepL.mono xs vs h3⟩
  | .tup xs, _, h => by
    unfold Rep at h ⊢
    obtain ⟨a, vs, h1, h2, h3⟩ := h
    exact ⟨a, vs, h1, e.t h2, RepL.mono xs vs h3⟩
  | .dic kvs, _, h => by
    unfold Rep at h ⊢
    obtain ⟨a, vs, h1, h2, h3⟩ := h
    exact ⟨a, vs, h1, e.rdK h2, RepK.mono kvs vs h3⟩
  | .obj T fs, _, h => by
    unfold Rep at h ⊢
    obtain ⟨a, dx, gs, h1, h2, h3, h4⟩ := h
    exact ⟨a, dx, gs, h1, e.eq h2, h3, RepL.mono fs _ h4⟩
  | .slo T fs, _, h => by
    unfold Rep at h ⊢
    obtain ⟨a, dx, vs, h1, h2, h3, h4⟩ := h
    exact ⟨a, dx, vs, h1, e.eq h2, e.eq h3, RepL.mono fs _ h4⟩
  | .xcp a d ns fs, _, h => by
    unfold Rep at h ⊢
    obtain ⟨h1, h2 | ⟨dd, gs, h2, h3, h4, h5⟩⟩ := h
    · exact ⟨h1, .inl h2⟩
    · exact ⟨h1, .inr ⟨dd, gs, h2, e.eq h3, h4, RepL.mono fs _ h5⟩⟩
theorem RepL.mono : ∀ (xs : List D) (vs : List V), RepL K B xs vs → RepL K B' xs vs
  | [], [], _ => by unfold RepL; trivial
  | x :: xs, v :: vs, h => by
    unfold RepL at h ⊢
    exact ⟨Rep.mono x v h.1, RepL.mono xs vs h.2⟩
  | [], _ :: _, h => by unfold RepL at h; exact h.elim
  | _ :: _, [], h => by unfold RepL at h; exact h.elim
theorem RepK.mono : ∀ (xs : List (Key × D)) (vs : List (Key × V)), RepK K B xs vs → RepK K B' xs vs
  | [], [], _ => by unfold RepK; trivial
  | (k, x) :: xs, (j, v) :: vs, h => by
    unfold RepK at h ⊢
    exact ⟨h.1, Rep.mono x v h.2.1, RepK.mono xs vs h.2.2⟩
  | [], _ :: _, h => by unfold RepK at h; exact h.elim
  | (_, _) :: _, [], h => by unfold RepK at h; exact h.elim
end
end
end DL

namespace DL
open PySem PySem.Spec PyProof.Rows L2
section
variable (K : PySem.W.Frag) (B : Hp) (L : List Addr)
def RepV : DV → V → Prop
  | .d x, v => Rep K B x v
  | .m i, v => ∃ a, v = .ref a ∧ L[i]? = some a
  | .pr x k, v => ∃ a u b, v = .ref a ∧ SqT K B a [u, .ref b] ∧ Rep K B x u ∧ L[k]? = some b
def RepVs : List DV → List V → Prop
  | [], [] => True
  | x :: xs, v :: vs => RepV K B L x v ∧ RepVs xs vs
  | [], _ :: _ => False
  | _ :: _, [] => False
end
/-- what an extension of the ground is -/
structure Ext (B : Hp) (L : List Addr) (B' : Hp) (L' : List Addr) : Prop where
  sub : Sub B B'
  pre : ∃ L2, L' = L ++ L2
theorem Ext.refl (B : Hp) (L : List Addr) : Ext B L B L := ⟨Sub.refl B, [], by simp⟩
theorem Ext.trans {B B1 B2 : Hp} {L L1 L2 : List Addr} (a : Ext B L B1 L1) (b : Ext B1 L1 B2 L2) : Ext B L B2 L2 := by
  obtain ⟨x, rfl⟩ := a.pre
  obtain ⟨y, rfl⟩ := b.pre
  exact ⟨a.sub.trans b.sub, x ++ y, by simp⟩
theorem Ext.get {B B' : Hp} {L L' : List Addr} (e : Ext B L B' L') {i : Nat} {a : Addr} (h : L[i]? = some a) : L'[i]? = some a := by
  obtain ⟨x, rfl⟩ := e.pre
  have hl := (List.getElem?_eq_some_iff.mp h).1
  rw [List.getElem?_append_left hl]
  exact h
section
variable {K : PySem.W.Frag} {B B' : Hp} {L L' : List Addr}
theorem RepV.mono (e : Ext B L B' L') : ∀ {x : DV} {v : V}, RepV K B L x v → RepV K B' L' x v
  | .d _, _, h => Rep.mono e.sub _ _ h
  | .m _, _, h => by
    obtain ⟨a, h1, h2⟩ := h
    exact ⟨a, h1, e.get h2⟩
  | .pr x k, _, h => by
    obtain ⟨a, u, b, h1, h2, h3, h4⟩ := h
    exact ⟨a, u, b, h1, e.sub.t h2, Rep.mono e.sub _ _ h3, e.get h4⟩
theorem RepVs.mono (e : Ext B L B' L') : ∀ {xs : List DV} {vs : List V}, RepVs K B L xs vs → RepVs K B' L' xs vs
  | [], [], h => h
  | _ :: _, _ :: _, h => ⟨h.1.mono e, RepVs.mono e h.2⟩
  | [], _ :: _, h => h.elim
  | _ :: _, [], h => h.elim
theorem RepVs.len : ∀ {xs : List DV} {vs : List V}, RepVs K B L xs vs → xs.length = vs.length
  | [], [], _ => rfl
  | _ :: _, _ :: _, h => by simp [RepVs.len h.2]
  | [], _ :: _, h => h.elim
  | _ :: _, [], h => h.elim
theorem RepVs.get : ∀ {xs : List DV} {vs : List V} {i : Nat} {x : DV}, RepVs K B L xs vs → xs[i]? = some x → ∃ v, vs[i]? = some v ∧ RepV K B L x v
  | [], _, _, _, _, e => by simp at e
  | _ :: _, [], _, _, h, _ => h.elim
  | x :: xs, v :: vs, 0, y, h, e => by
    simp at e
    subst e
    exact ⟨v, rfl, h.1⟩
  | x :: xs, v :: vs, i + 1, y, h, e => by
    obtain ⟨u, h1, h2⟩ := RepVs.get (i := i) h.2 (by simpa using e)
    exact ⟨u, by simpa using h1, h2⟩
theorem RepVs.app : ∀ {xs ys : List DV} {vs ws : List V}, RepVs K B L xs vs → RepVs K B L ys ws → RepVs K B L (xs ++ ys) (vs ++ ws)
  | [], _, [], _, _, h => h
  | _ :: _, _, _ :: _, _, h, g => ⟨h.1, RepVs.app h.2 g⟩
  | [], _, _ :: _, _, h, _ => h.elim
  | _ :: _, _, [], _, h, _ => h.elim
theorem RepVs.set {y : DV} {u : V} (r : RepV K B L y u) : ∀ {xs : List DV} {vs : List V} (i : Nat), RepVs K B L xs vs → RepVs K B L (xs.set i y) (vs.set i u)
  | [], [], _, h => h
  | _ :: _, _ :: _, 0, h => ⟨r, h.2⟩
  | _ :: _, _ :: _, i + 1, h => ⟨h.1, RepVs.set r i h.2⟩
  | [], _ :: _, _, h => h.elim
  | _ :: _, [], _, h => h.elim
theorem RepVs.take : ∀ {xs : List DV} {vs : List V} (n : Nat), RepVs K B L xs vs → RepVs K B L (xs.take n) (vs.take n)
  | _, _, 0, _ => trivial
  | [], [], _ + 1, h => h
  | _ :: _, _ :: _, n + 1, h => ⟨h.1, RepVs.take n h.2⟩
  | [], _ :: _, _ + 1, h => h.elim
  | _ :: _, [], _ + 1, h => h.elim
theorem RepVs.drop : ∀ {xs : List DV} {vs : List V} (n : Nat), RepVs K B L xs vs → RepVs K B L (xs.drop n) (vs.drop n)
  | _, _, 0, h => h
  | [], [], _ + 1, h => h
  | _ :: _, _ :: _, n + 1, h => RepVs.drop n h.2
  | [], _ :: _, _ + 1, h => h.elim
  | _ :: _, [], _ + 1, h => h.elim
theorem RepVs.eraseIdx : ∀ {xs : List DV} {vs : List V} (n : Nat), RepVs K B L xs vs → RepVs K B L (xs.eraseIdx n) (vs.eraseIdx n)
  | [], [], _, h => h
  | _ :: _, _ :: _, 0, h => h.2
  | _ :: _, _ :: _, n + 1, h => ⟨h.1, RepVs.eraseIdx n h.2⟩
  | [], _ :: _, _, h => h.elim
  | _ :: _, [], _, h => h.elim
/-- all data -/
theorem RepL.vs : ∀ {xs : List D} {vs : List V}, RepL K B xs vs → RepVs K B L (xs.map DV.d) vs
  | [], [], _ => trivial
  | x :: xs, v :: vs, h => by
    unfold RepL at h
    exact ⟨h.1, RepL.vs h.2⟩
  | [], _ :: _, h => by unfold RepL at h; exact h.elim
  | _ :: _, [], h => by unfold RepL at h; exact h.elim
theorem RepVs.toL : ∀ {xs : List D} {vs : List V}, RepVs K B L (xs.map DV.d) vs → RepL K B xs vs
  | [], [], _ => by unfold RepL; trivial
  | x :: xs, v :: vs, h => by
    unfold RepL
    exact ⟨h.1, RepVs.toL h.2⟩
  | [], _ :: _, h => h.elim
  | _ :: _, [], h => h.elim
theorem RepL.len : ∀ {xs : List D} {vs : List V}, RepL K B xs vs → xs.length = vs.length := fun {xs} {vs} h => by
  have := (RepL.vs (L := []) h).len
  simpa using this
end
/-! ### the state -/
def CellOk (K : PySem.W.Frag) (B : Hp) (L : List Addr) (H : Hp) (a : Addr) : MO → Prop
  | .lst xs => ∃ vs, H a = some (.lst vs) ∧ RepVs K B L xs vs
  | .dic kvs => ∃ ws, H a = some (.dK ws) ∧ RepK K B kvs ws
  | .ins T fs => ∃ dx gs, H a = some (.ins T.C dx gs) ∧ gs.map (·.1) = T.ns.take fs.length ∧ fs.length ≤ T.ns.length ∧ RepVs K B L fs (gs.map (·.2))
  | .gone => True
def MO.gone? : MO → Bool
  | .gone => true
  | _ => false
/-- the constants of the text that are tracked: known dicts -/
class Csts where
  cs : List (Addr × HO)
variable [Csts]
structure StM (K : PySem.W.Frag) (B : Hp) (L : List Addr) (Z : List (Addr × HO)) (M : Mem) (H : Hp) : Prop where
  sub : Sub B H
  zh : ∀ p ∈ Z, H p.1 = Option.some p.2 ∧ p.1 ∉ L ∧ (isLock p.2 = false → B p.1 = none)
  len : L.length = M.length
  nod : L.Nodup
  out : ∀ (i : Nat) (a : Addr) (o : MO), L[i]? = some a → M[i]? = some o → o.gone? = false → B a = none
  cell : ∀ (i : Nat) (a : Addr) (o : MO), L[i]? = some a → M[i]? = some o → CellOk K B L H a o
  live : ∀ (i : Nat) (a : Addr), L[i]? = some a → H a ≠ none
  cst : ∀ p ∈ Csts.cs, B p.1 = Option.some p.2 ∧ isLock p.2 = true
structure EnvR (K : PySem.W.Frag) (B : Hp) (L : List Addr) (σ : L2.St) (ρ : Rh) : Prop where
  len : ρ.length = σ.length
  at_ : ∀ (i : Nat) (x : DV), ρ[i]? = some (some x) → ∃ v, σ[i]? = some (some v) ∧ RepV K B L x v
section
variable {K : PySem.W.Frag} {B B' : Hp} {L L' : List Addr} {M M' : Mem} {H H' : Hp} {σ : L2.St} {ρ : Rh}
theorem EnvR.mono (e : Ext B L B' L') (h : EnvR K B L σ ρ) : EnvR K B' L' σ ρ :=
  ⟨h.len, fun i x hx => by
    obtain ⟨v, h1, h2⟩ := h.at_ i x hx
    exact ⟨v, h1, h2.mono e⟩⟩
theorem EnvR.set (h : EnvR K B L σ ρ) {x : DV} {v : V} (r : RepV K B L x v) (i : Nat) : EnvR K B L (σ.set i (some v)) (ρ.set i (some x)) := by
  refine ⟨by simp [h.len], fun j y hy => ?_⟩
  rw [List.getElem?_set] at hy ⊢
  by_cases hij : i = j
  · subst hij
    rw [if_pos rfl] at hy ⊢
    by_cases hl : i < ρ.length
    · rw [if_pos hl] at hy
      rw [if_pos (by rw [← h.len]; exact hl)]
      cases hy
      exact ⟨v, rfl, r⟩
    · rw [if_neg hl] at hy
      cases hy
  · rw [if_neg hij] at hy ⊢
    exact h.at_ j y hy
theorem EnvR.forget (h : EnvR K B L σ ρ) (i : Nat) (o : Option V) : EnvR K B L (σ.set i o) (ρ.set i none) := by
  refine ⟨by simp [h.len], fun j y hy => ?_⟩
  rw [List.getElem?_set] at hy ⊢
  by_cases hij : i = j
  · subst hij
    rw [if_pos rfl] at hy
    split at hy <;> cases hy
  · rw [if_neg hij] at hy ⊢
    exact h.at_ j y hy
end
theorem CellOk.mono {K : PySem.W.Frag} {B B' : Hp} {L L' : List Addr} {H H' : Hp} {a : Addr} (e : Ext B L B' L') (h : H' a = H a) : ∀ {o : MO}, CellOk K B L H a o → CellOk K B' L' H' a o
  | .lst xs, c => by
    obtain ⟨vs, h1, h2⟩ := c
    exact ⟨vs, h.trans h1, h2.mono e⟩
  | .dic xs, c => by
    obtain ⟨vs, h1, h2⟩ := c
    exact ⟨vs, h.trans h1, RepK.mono e.sub _ _ h2⟩
  | .ins T fs, c => by
    obtain ⟨dx, gs, h1, h2, h3, h4⟩ := c
    exact ⟨dx, gs, h.trans h1, h2, h3, h4.mono e⟩
  | .gone, _ => trivial
section
variable {K : PySem.W.Frag} {B : Hp} {L : List Addr} {Z : List (Addr × HO)} {M : Mem} {H : Hp} {p : Addr} {o : HO} {i : Nat} {a : Addr} {m : MO}
theorem StM.fresh (S : StM K B L Z M H) (hp : H p = none) : B p = none := by
  cases h : B p with
  | none => rfl
  | some o =>
    obtain ⟨o', h1, _, _⟩ := S.sub _ _ h
    rw [h1] at hp
    cases hp
theorem StM.notL (S : StM K B L Z M H) (hp : H p = none) : p ∉ L := fun h => by
  obtain ⟨i, hi⟩ := List.getElem?_of_mem h
  exact S.live i p hi hp
theorem upd_sub {B : Hp} (h : B p = none) : Sub B (upd B p o) := fun x u hx => ⟨u, by rw [upd_ne (ne_of_none hx h)]; exact hx, rfl, fun _ => rfl⟩
/-- new data -/
theorem StM.newD (S : StM K B L Z M H) (hp : H p = none) : StM K (upd B p o) L Z M (upd H p o) ∧ Ext B L (upd B p o) L := by
  have hB := S.fresh hp
  have hL := S.notL hp
  have E : Ext B L (upd B p o) L := ⟨upd_sub hB, [], by simp⟩
  have ne : ∀ i a, L[i]? = some a → a ≠ p := fun i a h q => hL (q ▸ List.mem_of_getElem? h)
  refine ⟨⟨fun x u hx => ?_, fun q hq => ?_, S.len, S.nod, fun i a o h ho hg => ?_, fun i a m h hm => ?_, fun i a h => ?_, fun q hq => by rw [upd_ne (ne_of_none (S.cst q hq).1 hB)]; exact S.cst q hq⟩, E⟩
  · by_cases q : x = p
    · subst q
      rw [upd_same] at hx ⊢
      exact ⟨_, hx, rfl, fun _ => rfl⟩
    · rw [upd_ne q] at hx ⊢
      exact S.sub _ _ hx
  · obtain ⟨h1, h2, h3⟩ := S.zh q hq
    exact ⟨by rw [upd_ne (ne_of_none h1 hp)]; exact h1, h2, fun z => by rw [upd_ne (ne_of_none h1 hp)]; exact h3 z⟩
  · rw [upd_ne (ne i a h)]
    exact S.out i a o h ho hg
  · exact (S.cell i a m h hm).mono E (upd_ne (ne i a h))
  · rw [upd_ne (ne i a h)]
    exact S.live i a h
/-- a new cell -/
theorem StM.newM (S : StM K B L Z M H) (hp : H p = none) (c : CellOk K B (L ++ [p]) (upd H p o) p m) : StM K B (L ++ [p]) Z (M ++ [m]) (upd H p o) ∧ Ext B L B (L ++ [p]) := by
  have hB := S.fresh hp
  have hL := S.notL hp
  have E : Ext B L B (L ++ [p]) := ⟨Sub.refl B, [p], rfl⟩
  have ne : ∀ i a, L[i]? = some a → a ≠ p := fun i a h q => hL (q ▸ List.mem_of_getElem? h)
  have split : ∀ i a, (L ++ [p])[i]? = some a → (L[i]? = some a) ∨ (i = L.length ∧ a = p) := fun i a h => by
    by_cases hi : i < L.length
    · rw [List.getElem?_append_left hi] at h
      exact .inl h
    · rw [List.getElem?_append_right (by omega)] at h
      right
      have : i - L.length = 0 := by
        by_cases z : i - L.length = 0
        · exact z
        · rw [List.getElem?_eq_none (by simp; omega)] at h
          cases h
      rw [this] at h
      simp at h
      exact ⟨by omega, h.symm⟩
  refine ⟨⟨fun x u hx => ?_, fun q hq => ?_, by simp [S.len], ?_, fun i a o h ho hg => ?_, fun i a m' h hm => ?_, fun i a h => ?_, S.cst⟩, E⟩
  · rw [upd_ne (ne_of_none hx hB)]
    exact S.sub _ _ hx
  · obtain ⟨h1, h2, h3⟩ := S.zh q hq
    refine ⟨by rw [upd_ne (ne_of_none h1 hp)]; exact h1, fun h => ?_, h3⟩
    rcases List.mem_append.mp h with h | h
    · exact h2 h
    · simp at h
      rw [h, hp] at h1
      cases h1
  · rw [List.nodup_append]
    refine ⟨S.nod, by simp, fun x hx y hy => ?_⟩
    simp at hy
    subst hy
    exact fun q => hL (q ▸ hx)
  · rcases split i a h with h | ⟨_, rfl⟩
    · have hi : i < M.length := by
        rw [← S.len]
        exact (List.getElem?_eq_some_iff.mp h).1
      rw [List.getElem?_append_left hi] at ho
      exact S.out i a o h ho hg
    · exact hB
  · rcases split i a h with h1 | ⟨rfl, rfl⟩
    · have hi : i < M.length := by
        rw [← S.len]
        exact (List.getElem?_eq_some_iff.mp h1).1
      rw [List.getElem?_append_left hi] at hm
      exact (S.cell i a m' h1 hm).mono E (upd_ne (ne i a h1))
    · rw [S.len, List.getElem?_append_right (Nat.le_refl _)] at hm
      simp at hm
      subst hm
      exact c
  · rcases split i a h with h1 | ⟨_, rfl⟩
    · rw [upd_ne (ne i a h1)]
      exact S.live i a h1
    · rw [upd_same]
      simp
/-- a cell is written -/
theorem StM.put {m0 : MO} (S : StM K B L Z M H) (hi : L[i]? = some a) (h0 : M[i]? = some m0) (hg : m0.gone? = false) (c : CellOk K B L (upd H a o) a m) : StM K B L Z (M.set i m) (upd H a o) := by
  have inj : ∀ j b, L[j]? = some b → j ≠ i → b ≠ a := fun j b hj n q => by
    subst q
    have h1 := (List.getElem?_eq_some_iff.mp hi).1
    have h2 := (List.getElem?_eq_some_iff.mp hj).1
    exact n ((List.getElem?_inj h2 S.nod).mp (hj.trans hi.symm))
  refine ⟨fun x u hx => ?_, fun q hq => ?_, by simp [S.len], S.nod, fun j b o hj ho hg' => ?_, fun j b m' hj hm => ?_, fun j b hj => ?_, S.cst⟩
  · have : x ≠ a := fun q => by
      subst q
      rw [S.out i x m0 hi h0 hg] at hx
      cases hx
    rw [upd_ne this]
    exact S.sub _ _ hx
  · obtain ⟨h1, h2, h3⟩ := S.zh q hq
    have : q.1 ≠ a := fun z => h2 (z ▸ List.mem_of_getElem? hi)
    exact ⟨by rw [upd_ne this]; exact h1, h2, h3⟩
  · rw [List.getElem?_set] at ho
    by_cases q : i = j
    · subst q
      have : a = b := Option.some.inj (hi.symm.trans hj)
      subst this
      exact S.out i a m0 hi h0 hg
    · rw [if_neg q] at ho
      exact S.out j b o hj ho hg'
  · rw [List.getElem?_set] at hm
    by_cases q : i = j
    · subst q
      rw [if_pos rfl] at hm
      have hl : i < M.length := by
        rw [← S.len]
        exact (List.getElem?_eq_some_iff.mp hi).1
      rw [if_pos hl] at hm
      cases hm
      have : a = b := Option.some.inj (hi.symm.trans hj)
      subst this
      exact c
    · rw [if_neg q] at hm
      exact (S.cell j b m' hj hm).mono (Ext.refl B L) (upd_ne (inj j b hj (Ne.symm q)))
  · by_cases q : b = a
    · subst q
      rw [upd_same]
      simp
    · rw [upd_ne q]
      exact S.live j b hj
theorem StM.at_ (S : StM K B L Z M H) (h : M[i]? = some m) : ∃ a, L[i]? = some a ∧ CellOk K B L H a m := by
  have hl : i < L.length := by
    rw [S.len]
    exact (List.getElem?_eq_some_iff.mp h).1
  exact ⟨L[i], List.getElem?_eq_getElem hl, S.cell i _ m (List.getElem?_eq_getElem hl) h⟩
end
end DL

namespace DL
open PySem PySem.Spec PyProof.Rows L2
variable [Csts]
abbrev Post := DV → Mem → Prop
abbrev XPost := Value → List (Str × D) → Mem → Prop
abbrev ET := Rh → Mem → Post → XPost → Prop
abbrev TT := Rh → Mem → (Bool → Mem → Prop) → XPost → Prop
abbrev AT := Rh → Mem → (List DV → Mem → Prop) → XPost → Prop
abbrev Zs := List (Addr × HO)
/-! ### the weakest wants -/
section
variable (X : Cx)
def sE (e : Expr) : L2.TE := fun σ H Q => ∀ pins s, Inv X pins σ H s → wpAny (model X.prog X.w) X.A (eval e X.env) (EP X pins σ Q) X.xe s
def sT (e : Expr) : L2.TT := fun σ H Q => ∀ pins s, Inv X pins σ H s → wpAny (model X.prog X.w) X.A (isTrue e X.env (eval e X.env)) (TP X pins σ Q) X.xe s
def sA (es : List Expr) : L2.TA := fun σ H Q => ∀ pos pins s, Inv X pins σ H s → wpAny (model X.prog X.w) X.A (spliced (backTo pos (starEach es X.env))) (AP X pins σ Q) X.xe s
def sS (st : Stmt) : L2.TS := fun F σ H => ∀ pins s, Inv X pins σ H s → wpAny (model X.prog X.w) X.A (exec st X.env) (SP X pins F) X.xe s
def sSs (st : List Stmt) : L2.TS := fun F σ H => ∀ pins s, Inv X pins σ H s → wpAny (model X.prog X.w) X.A (execs st X.env) (SP X pins F) X.xe s
def sO (f : Value → Value → Sem Value) (x y : V) (H : Hp) (Q : VK) : Prop := ∀ pins s σ v u, Inv X pins σ H s → RelV x v → RelV y u → wpAny (model X.prog X.w) X.A (f v u) (EP X pins σ Q) X.xe s
def sU (f : Value → Sem Value) (x : V) (H : Hp) (Q : VK) : Prop := ∀ pins s σ v, Inv X pins σ H s → RelV x v → wpAny (model X.prog X.w) X.A (f v) (EP X pins σ Q) X.xe s
def sC (f : Value) (xs : List V) (H : Hp) (Q : VK) : Prop := ∀ pins s σ us, Inv X pins σ H s → Vals xs us → wpAny (model X.prog X.w) X.A (call f us) (EP X pins σ Q) X.xe s
def sTr (x : V) (H : Hp) (Q : Bool → Hp → Prop) : Prop := ∀ pins s σ v, Inv X pins σ H s → RelV x v → wpAny (model X.prog X.w) X.A (truthy v) (TP X pins σ Q) X.xe s
def sG (tg : Expr) : L2.TG := fun x σ H Q => ∀ pins s u, Inv X pins σ H s → RelV x u → wpAny (model X.prog X.w) X.A (assign tg X.env u) (fun _ s' => ∃ σ' H', Inv X pins σ' H' s' ∧ Q σ' H') X.xe s
def sI (tg iter : Expr) : L2.TI := fun σ H R => ∀ pins s, Inv X pins σ H s → wpAny (model X.prog X.w) X.A (eval iter X.env) (fun v s1 => wpAny (model X.prog X.w) X.A (pyIter v) (PIE X pins σ tg R) X.xe s1) X.xe s
end
section
variable {X : Cx} {e : Expr} {es : List Expr} {st : Stmt} {sts : List Stmt} {σ : L2.St} {H : Hp}
theorem pe_s : PE X e (sE X e) := ⟨fun pins s _ _ _ I h => h pins s I⟩
theorem pt_s : PT X e (sT X e) := ⟨fun pins s _ _ _ I h => h pins s I⟩
theorem pa_s : PA X es (sA X es) := ⟨fun pos pins s _ _ _ I h => h pos pins s I⟩
theorem ps_s : PS X st (sS X st) := ⟨fun pins s _ _ _ I h => h pins s I⟩
theorem pss_s : PSs X sts (sSs X sts) := ⟨fun pins s _ _ _ I h => h pins s I⟩
theorem pg_s : PG X e (sG X e) := ⟨fun pins s _ _ _ u _ I r h => h pins s u I r⟩
theorem op_s {f : Value → Value → Sem Value} : OpR X f (sO X f) := fun pins s σ _ _ _ v u _ I r q h => h pins s σ v u I r q
theorem un_s {f : Value → Sem Value} : UnR X f (sU X f) := fun pins s σ _ _ v _ I r h => h pins s σ v I r
theorem call_s {f : Value} : CallR X f (sC X f) := fun pins s σ _ _ us _ I r h => h pins s σ us I r
theorem PE.s {t : L2.TE} (h : PE X e t) {Q : VK} (q : t σ H Q) : sE X e σ H Q := fun pins s I => h.run pins s σ H Q I q
theorem PT.s {t : L2.TT} (h : PT X e t) {Q : Bool → Hp → Prop} (q : t σ H Q) : sT X e σ H Q := fun pins s I => h.run pins s σ H Q I q
theorem PA.s {t : L2.TA} (h : PA X es t) {Q : List V → Hp → Prop} (q : t σ H Q) : sA X es σ H Q := fun pos pins s I => h.run pos pins s σ H Q I q
theorem PS.s {t : L2.TS} (h : PS X st t) {D : Ends} (q : t D σ H) : sS X st D σ H := fun pins s I => h.run pins s σ H D I q
theorem PSs.s {t : L2.TS} (h : PSs X sts t) {D : Ends} (q : t D σ H) : sSs X sts D σ H := fun pins s I => h.run pins s σ H D I q
theorem PG.s {t : L2.TG} (h : PG X e t) {x : V} {Q : L2.St → Hp → Prop} (q : t x σ H Q) : sG X e x σ H Q := fun pins s u I r => h.run pins s σ H x u Q I r q
theorem opS {f : Value → Value → Sem Value} {r : R2} (h : OpR X f r) {x y : V} {Q : VK} (q : r x y H Q) : sO X f x y H Q := fun pins s σ v u I rx ry => h pins s σ H x y v u Q I rx ry q
theorem unS {f : Value → Sem Value} {r : V → Hp → VK → Prop} (h : UnR X f r) {x : V} {Q : VK} (q : r x H Q) : sU X f x H Q := fun pins s σ v I rx => h pins s σ H x v Q I rx q
theorem callS {f : Value} {r : List V → Hp → VK → Prop} (h : CallR X f r) {xs : List V} {Q : VK} (q : r xs H Q) : sC X f xs H Q := fun pins s σ us I rx => h pins s σ H xs us Q I rx q
theorem PI.s {tg iter : Expr} {w : L2.TI} (h : PI X tg iter w) {R : It → Hp → Prop} (q : w σ H R) : sI X tg iter σ H R := fun pins s I => h.run pins s σ H R I q
theorem pi_s {tg iter : Expr} : PI X tg iter (sI X tg iter) := ⟨fun pins s _ _ _ I h => h pins s I⟩
end
/-! ### links -/
def XRep (K : PySem.W.Frag) (B : Hp) : Option Addr → List (Str × D) → Prop
  | none, fs => fs = []
  | some dd, fs => fs ≠ [] ∧ ∃ gs, B dd = some (.xd gs) ∧ gs.map (·.1) = fs.map (·.1) ∧ RepL K B (fs.map (·.2)) (gs.map (·.2))
def XOk (X : Cx) (B : Hp) (L : List Addr) (Z : Zs) (σ : L2.St) (x : XPost) : Prop :=
  ∃ W, Takes X W ∧ ∀ cls fs M' d B' L' H', x cls fs M' → Ext B L B' L' → StM X.K B' L' Z M' H' → XRep X.K B' d fs → W cls d σ H'
def POk (X : Cx) (B : Hp) (L : List Addr) (Z : Zs) (P : Post) (Q : VK) : Prop :=
  ∀ d M' v B' L' H', P d M' → Ext B L B' L' → StM X.K B' L' Z M' H' → RepV X.K B' L' d v → Q v H'
def TOk (X : Cx) (B : Hp) (L : List Addr) (Z : Zs) (P : Bool → Mem → Prop) (Q : Bool → Hp → Prop) : Prop :=
  ∀ b M' B' L' H', P b M' → Ext B L B' L' → StM X.K B' L' Z M' H' → Q b H'
def AOk (X : Cx) (B : Hp) (L : List Addr) (Z : Zs) (P : List DV → Mem → Prop) (Q : List V → Hp → Prop) : Prop :=
  ∀ ds M' vs B' L' H', P ds M' → Ext B L B' L' → StM X.K B' L' Z M' H' → RepVs X.K B' L' ds vs → Q vs H'
section
variable {X : Cx} {B B' : Hp} {L L' : List Addr} {Z : Zs} {σ : L2.St} {x : XPost} {P : Post} {Q : VK}
theorem XOk.mono (h : XOk X B L Z σ x) (e : Ext B L B' L') : XOk X B' L' Z σ x := by
  obtain ⟨W, h1, h2⟩ := h
  exact ⟨W, h1, fun cls fs M' d B2 L2 H' a b => h2 cls fs M' d B2 L2 H' a (e.trans b)⟩
theorem POk.mono (h : POk X B L Z P Q) (e : Ext B L B' L') : POk X B' L' Z P Q := fun d M' v B2 L2 H' a b => h d M' v B2 L2 H' a (e.trans b)
end
structure DE (X : Cx) (e : Expr) (f : ET) : Prop where
  run : ∀ {ρ M P x}, f ρ M P x → ∀ {σ H B L Z}, StM X.K B L Z M H → EnvR X.K B L σ ρ → XOk X B L Z σ x → ∀ {Q : VK}, POk X B L Z P Q → sE X e σ H Q
structure DT (X : Cx) (e : Expr) (f : TT) : Prop where
  run : ∀ {ρ M P x}, f ρ M P x → ∀ {σ H B L Z}, StM X.K B L Z M H → EnvR X.K B L σ ρ → XOk X B L Z σ x → ∀ {Q : Bool → Hp → Prop}, TOk X B L Z P Q → sT X e σ H Q
structure DA (X : Cx) (es : List Expr) (f : AT) : Prop where
  run : ∀ {ρ M P x}, f ρ M P x → ∀ {σ H B L Z}, StM X.K B L Z M H → EnvR X.K B L σ ρ → XOk X B L Z σ x → ∀ {Q : List V → Hp → Prop}, AOk X B L Z P Q → sA X es σ H Q
/-- operations on values -/
abbrev O2 := DV → DV → Mem → Post → Prop
structure DO (X : Cx) (f : Value → Value → Sem Value) (o : O2) : Prop where
  run : ∀ {a b M P}, o a b M P → ∀ {u v : V} {B L Z H}, StM X.K B L Z M H → RepV X.K B L a u → RepV X.K B L b v → ∀ {Q : VK}, POk X B L Z P Q → sO X f u v H Q
abbrev CT := List DV → Mem → Post → Prop
structure DC (X : Cx) (f : Value) (o : CT) : Prop where
  run : ∀ {a M P}, o a M P → ∀ {vs : List V} {B L Z H}, StM X.K B L Z M H → RepVs X.K B L a vs → ∀ {Q : VK}, POk X B L Z P Q → sC X f vs H Q
/-! ### expressions -/
section
variable {X : Cx} {a b c e : Expr} {es : List Expr} {fa fb fc fe : ET} {ft : TT} {fas : AT} {pos : Pos}
/-- nothing of the memory changes: a value is there -/
theorem POk.here {B : Hp} {L : List Addr} {Z : Zs} {P : Post} {Q : VK} {M : Mem} {H : Hp} (q : POk X B L Z P Q) (S : StM X.K B L Z M H) {d : DV} (h : P d M) {v : V} (r : RepV X.K B L d v) : Q v H := q d M v B L H h (Ext.refl B L) S r
def tVar (i : Nat) : ET := fun ρ M P _ => match ρ[i]? with
  | some (some d) => P d M
  | _ => False
theorem de_var (i : Nat) {x : Str} (hN : X.N[i]? = some x := by rfl) (hv : Vis X.env.scope x := by first | exact Or.inl rfl | exact Or.inr (Or.inl rfl) | exact Or.inr (Or.inr rfl)) (hd : (x == ("__debug__" : Str)) = false := by decide)
    (hcd : (x == ("__classdict__" : Str)) = false := by decide) : DE X (.Name x pos) (tVar i) where
  run := fun {ρ M P x'} h {σ H B L Z} S E _ {Q} q => by
    refine PE.s (pe_var (i := i) hN hv hd hcd) ?_
    unfold tVar at h
    split at h
    · rename_i d hd
      obtain ⟨v, h1, h2⟩ := E.at_ i d hd
      exact ⟨v, h1, q.here S h h2⟩
    · exact h.elim
def tC (d : D) : ET := fun _ M P _ => P (.d d) M
theorem de_pe {v : V} {d : D} (h : PE X e (L2.tC v)) (r : ∀ B, Rep X.K B d v) : DE X e (tC d) where
  run := fun {ρ M P x} h' {σ H B L Z} S E _ {Q} q => PE.s h (q.here S h' (r B))
theorem de_int {i j} : DE X (.Constant (.int i) j pos) (tC (.int i)) := de_pe pe_int fun _ => by simp only [Rep]
theorem de_bl {i j} : DE X (.Constant (.bool i) j pos) (tC (.bl i)) := de_pe pe_bl fun _ => by simp only [Rep]
theorem de_non {j} : DE X (.Constant .none j pos) (tC .non) := de_pe pe_non fun _ => by simp only [Rep]
theorem de_str {i j} : DE X (.Constant (.str i) j pos) (tC (.str i)) := de_pe pe_str fun _ => by simp only [Rep]
/-- a module's name whose value is known -/
theorem de_glob {x : Str} {v : V} {u : Value} {d : D} (hg : Gl X x) (hm : X.mg x = some u) (r : RelV v u) (rd : ∀ B, Rep X.K B d v) (hd : (x == ("__debug__" : Str)) = false := by decide) : DE X (.Name x pos) (tC d) :=
  de_pe (pe_glob hg hm r hd) rd
def tBin (o : O2) (fa fb : ET) : ET := fun ρ M P x => fa ρ M (fun d M1 => fb ρ M1 (fun d2 M2 => o d d2 M2 P) x) x
theorem de_bin {op : Operator} {o : O2} (ho : DO X (binaryOp op) o) (ha : DE X a fa) (hb : DE X b fb) : DE X (.BinOp a op b pos) (tBin o fa fb) where
  run := fun {ρ M P x} h {σ H B L Z} S E x1 {Q} q => by
    refine PE.s (pe_op op_s pe_s pe_s) ?_
    refine ha.run h S E x1 fun d M1 v B1 L1 H1 h1 e1 S1 r1 => ?_
    refine hb.run h1 S1 (E.mono e1) (x1.mono e1) fun d2 M2 v2 B2 L2 H2 h2 e2 S2 r2 => ?_
    exact ho.run h2 S2 (r1.mono e2) r2 (q.mono (e1.trans e2))
theorem de_cmp {op : CmpOp} {o : O2} (ho : DO X (compareOp op) o) (ha : DE X a fa) (hb : DE X b fb) (hm : behindInMarks op b = false := by first | exact nomark _ | rfl | with_unfolding_all rfl) : DE X (.Compare a [op] [b] pos) (tBin o fa fb) where
  run := fun {ρ M P x} h {σ H B L Z} S E x1 {Q} q => by
    refine PE.s (pe_cmpR op_s pe_s pe_s hm) ?_
    refine ha.run h S E x1 fun d M1 v B1 L1 H1 h1 e1 S1 r1 => ?_
    refine hb.run h1 S1 (E.mono e1) (x1.mono e1) fun d2 M2 v2 B2 L2 H2 h2 e2 S2 r2 => ?_
    exact ho.run h2 S2 (r1.mono e2) r2 (q.mono (e1.trans e2))
/-- the value is a bool -/
def isB (d : DV) (P : Bool → Prop) : Prop := match d with
  | .d (.bl b) => P b
  | _ => False
theorem isB.of {d : DV} {P : Bool → Prop} (h : isB d P) : ∃ b, d = .d (.bl b) ∧ P b := by
  unfold isB at h
  split at h
  · exact ⟨_, rfl, h⟩
  · exact h.elim
def tB (f : ET) : TT := fun ρ M P x => f ρ M (fun d M1 => isB d fun b => P b M1) x
theorem dt_val (h : DE X e fe) (he : ∀ whole, isTrue e X.env whole = (do let v ← whole; standAt e.pos; holding [v] (truthy v)) := by intro _; rfl) : DT X e (tB fe) where
  run := fun {ρ M P x} h' {σ H B L Z} S E x1 {Q} q => by
    refine PT.s (pt_val pe_s he) ?_
    refine h.run h' S E x1 fun d M1 v B1 L1 H1 h1 e1 S1 r1 => ?_
    obtain ⟨b, rfl, h2⟩ := h1.of
    have r1 : v = .bl b := by simpa only [RepV, Rep] using r1
    exact ⟨b, r1, q b M1 B1 L1 H1 h2 e1 S1⟩
theorem dt_cmp {op : CmpOp} {o : O2} (ho : DO X (compareOp op) o) (ha : DE X a fa) (hb : DE X b fb) (hm : behindInMarks op b = false := by first | exact nomark _ | rfl | with_unfolding_all rfl) : DT X (.Compare a [op] [b] pos) (tB (tBin o fa fb)) where
  run := fun {ρ M P x} h {σ H B L Z} S E x1 {Q} q => by
    refine PT.s (pt_cmpR op_s pe_s pe_s hm) ?_
    refine ha.run h S E x1 fun d M1 v B1 L1 H1 h1 e1 S1 r1 => ?_
    refine hb.run h1 S1 (E.mono e1) (x1.mono e1) fun d2 M2 v2 B2 L2 H2 h2 e2 S2 r2 => ?_
    refine ho.run h2 S2 (r1.mono e2) r2 fun d3 M3 v3 B3 L3 H3 h3 e3 S3 r3 => ?_
    obtain ⟨k, rfl, h4⟩ := h3.of
    have r3 : v3 = .bl k := by simpa only [RepV, Rep] using r3
    exact ⟨k, r3, q k M3 B3 L3 H3 h4 ((e1.trans e2).trans e3) S3⟩
/-- truth of a value -/
abbrev T1 := DV → Mem → (Bool → Mem → Prop) → Prop
structure DTr (X : Cx) (o : T1) : Prop where
  run : ∀ {a M P}, o a M P → ∀ {u : V} {B L Z H}, StM X.K B L Z M H → RepV X.K B L a u → ∀ {Q : Bool → Hp → Prop}, TOk X B L Z P Q → ∃ k, TruV X.K u H k ∧ Q k H
def tTr (o : T1) (f : ET) : TT := fun ρ M P x => f ρ M (fun d M1 => o d M1 P) x
theorem dt_truth {o : T1} (ho : DTr X o) (h : DE X e fe) (he : ∀ whole, isTrue e X.env whole = (do let v ← whole; standAt e.pos; holding [v] (truthy v)) := by intro _; rfl) : DT X e (tTr o fe) where
  run := fun {ρ M P x} h' {σ H B L Z} S E x1 {Q} q => by
    refine PT.s (pt_truth pe_s he) ?_
    refine h.run h' S E x1 fun d M1 v B1 L1 H1 h1 e1 S1 r1 => ?_
    exact ho.run h1 S1 r1 fun b M' B' L' H' p e s => q b M' B' L' H' p (e1.trans e) s
/-! ### and, or, not, if -/
variable {rest : List Expr} {ta tb : TT}
def tAnd (ta tb : TT) : TT := fun ρ M P x => ta ρ M (fun k M1 => (k = true → tb ρ M1 P x) ∧ (k = false → P false M1)) x
def tOr (ta tb : TT) : TT := fun ρ M P x => ta ρ M (fun k M1 => (k = true → P true M1) ∧ (k = false → tb ρ M1 P x)) x
def tNot (ta : TT) : TT := fun ρ M P x => ta ρ M (fun k M1 => P (!k) M1) x
/-- a chain of tests, whatever its 'whole' -/
structure DW (X : Cx) (e : Expr) (f : TT) : Prop where
  run : ∀ {ρ M P x}, f ρ M P x → ∀ {σ H B L Z}, StM X.K B L Z M H → EnvR X.K B L σ ρ → XOk X B L Z σ x → ∀ {Q : Bool → Hp → Prop}, TOk X B L Z P Q →
    ∀ whole pins s, Inv X pins σ H s → wpAny (model X.prog X.w) X.A (isTrue e X.env whole) (TP X pins σ Q) X.xe s
def sW (X : Cx) (e : Expr) : L2.TT := fun σ H Q => ∀ whole pins s, Inv X pins σ H s → wpAny (model X.prog X.w) X.A (isTrue e X.env whole) (TP X pins σ Q) X.xe s
theorem pw_s : PW X e (sW X e) := ⟨fun whole pins s _ _ _ I h => h whole pins s I⟩
theorem dw_and1 (ha : DT X a ta) : DW X (.BoolOp .And [a] pos) ta where
  run := fun {ρ M P x} h {σ H B L Z} S E x1 {Q} q whole pins s I => (pw_and1 pt_s).run whole pins s σ H Q I (ha.run h S E x1 q)
theorem dw_or1 (ha : DT X a ta) : DW X (.BoolOp .Or [a] pos) ta where
  run := fun {ρ M P x} h {σ H B L Z} S E x1 {Q} q whole pins s I => (pw_or1 pt_s).run whole pins s σ H Q I (ha.run h S E x1 q)
theorem dw_and (ha : DT X a ta) (hb : DW X (.BoolOp .And (b :: rest) pos) tb) : DW X (.BoolOp .And (a :: b :: rest) pos) (tAnd ta tb) where
  run := fun {ρ M P x} h {σ H B L Z} S E x1 {Q} q whole pins s I => by
    refine (pw_and pt_s (pw_s (e := .BoolOp .And (b :: rest) pos))).run whole pins s σ H Q I ?_
    refine ha.run h S E x1 fun k M1 B1 L1 H1 h1 e1 S1 => ?_
    cases k with
    | false => exact q false M1 B1 L1 H1 (h1.2 rfl) e1 S1
    | true => exact fun whole pins s I => hb.run (h1.1 rfl) S1 (E.mono e1) (x1.mono e1) (fun b M' B' L' H' p e s => q b M' B' L' H' p (e1.trans e) s) whole pins s I
theorem dw_or (ha : DT X a ta) (hb : DW X (.BoolOp .Or (b :: rest) pos) tb) : DW X (.BoolOp .Or (a :: b :: rest) pos) (tOr ta tb) where
  run := fun {ρ M P x} h {σ H B L Z} S E x1 {Q} q whole pins s I => by
    refine (pw_or pt_s (pw_s (e := .BoolOp .Or (b :: rest) pos))).run whole pins s σ H Q I ?_
    refine ha.run h S E x1 fun k M1 B1 L1 H1 h1 e1 S1 => ?_
    cases k with
    | true => exact q true M1 B1 L1 H1 (h1.1 rfl) e1 S1
    | false => exact fun whole pins s I => hb.run (h1.2 rfl) S1 (E.mono e1) (x1.mono e1) (fun b M' B' L' H' p e s => q b M' B' L' H' p (e1.trans e) s) whole pins s I
theorem DW.dt (h : DW X e ta) : DT X e ta where
  run := fun {ρ M P x} h' {σ H B L Z} S E x1 {Q} q pins s I => h.run h' S E x1 q _ pins s I
theorem dt_not (ha : DT X a ta) : DT X (.UnaryOp .Not a pos) (tNot ta) where
  run := fun {ρ M P x} h {σ H B L Z} S E x1 {Q} q => by
    refine PT.s (pt_not pt_s) ?_
    refine ha.run h S E x1 fun k M1 B1 L1 H1 h1 e1 S1 => ?_
    exact q _ M1 B1 L1 H1 h1 e1 S1
def tAndV (fa fb : ET) : ET := fun ρ M P x => fa ρ M (fun d M1 => isB d fun k => (k = true → fb ρ M1 P x) ∧ (k = false → P (.d (.bl false)) M1)) x
def tOrV (fa fb : ET) : ET := fun ρ M P x => fa ρ M (fun d M1 => isB d fun k => (k = true → P (.d (.bl true)) M1) ∧ (k = false → fb ρ M1 P x)) x
def tNotV (fa : ET) : ET := fun ρ M P x => fa ρ M (fun d M1 => isB d fun k => P (.d (.bl (!k))) M1) x
theorem de_one {op} (h : DE X a fa) : DE X (.BoolOp op [a] pos) fa where
  run := fun {ρ M P x} h' {σ H B L Z} S E x1 {Q} q => PE.s (pe_one pe_s) (h.run h' S E x1 q)
theorem de_and (ha : DE X a fa) (hb : DE X (.BoolOp .And (b :: rest) pos) fb) : DE X (.BoolOp .And (a :: b :: rest) pos) (tAndV fa fb) where
  run := fun {ρ M P x} h {σ H B L Z} S E x1 {Q} q => by
    refine PE.s (pe_and pe_s (pe_s (e := .BoolOp .And (b :: rest) pos))) ?_
    refine ha.run h S E x1 fun d M1 v B1 L1 H1 h1 e1 S1 r1 => ?_
    obtain ⟨k, rfl, h2⟩ := h1.of
    have r1 : v = .bl k := by simpa only [RepV, Rep] using r1
    refine ⟨k, r1, ?_⟩
    cases k with
    | false => exact q _ M1 _ B1 L1 H1 (h2.2 rfl) e1 S1 (by simp only [RepV, Rep])
    | true => exact hb.run (h2.1 rfl) S1 (E.mono e1) (x1.mono e1) (q.mono e1)
theorem de_or (ha : DE X a fa) (hb : DE X (.BoolOp .Or (b :: rest) pos) fb) : DE X (.BoolOp .Or (a :: b :: rest) pos) (tOrV fa fb) where
  run := fun {ρ M P x} h {σ H B L Z} S E x1 {Q} q => by
    refine PE.s (pe_or pe_s (pe_s (e := .BoolOp .Or (b :: rest) pos))) ?_
    refine ha.run h S E x1 fun d M1 v B1 L1 H1 h1 e1 S1 r1 => ?_
    obtain ⟨k, rfl, h2⟩ := h1.of
    have r1 : v = .bl k := by simpa only [RepV, Rep] using r1
    refine ⟨k, r1, ?_⟩
    cases k with
    | true => exact q _ M1 _ B1 L1 H1 (h2.1 rfl) e1 S1 (by simp only [RepV, Rep])
    | false => exact hb.run (h2.2 rfl) S1 (E.mono e1) (x1.mono e1) (q.mono e1)
theorem de_not (ha : DE X a fa) : DE X (.UnaryOp .Not a pos) (tNotV fa) where
  run := fun {ρ M P x} h {σ H B L Z} S E x1 {Q} q => by
    refine PE.s (pe_not pe_s) ?_
    refine ha.run h S E x1 fun d M1 v B1 L1 H1 h1 e1 S1 r1 => ?_
    obtain ⟨k, rfl, h2⟩ := h1.of
    have r1 : v = .bl k := by simpa only [RepV, Rep] using r1
    exact ⟨k, r1, q _ M1 _ B1 L1 H1 h2 e1 S1 (by simp only [RepV, Rep])⟩
def tIf (ft : TT) (fa fb : ET) : ET := fun ρ M P x => ft ρ M (fun k M1 => (k = true → fa ρ M1 P x) ∧ (k = false → fb ρ M1 P x)) x
theorem de_if (hc : DT X c ft) (ha : DE X a fa) (hb : DE X b fb) : DE X (.IfExp c a b pos) (tIf ft fa fb) where
  run := fun {ρ M P x} h {σ H B L Z} S E x1 {Q} q => by
    refine PE.s (pe_ifExp pt_s pe_s pe_s) ?_
    refine hc.run h S E x1 fun k M1 B1 L1 H1 h1 e1 S1 => ?_
    cases k with
    | true => exact ha.run (h1.1 rfl) S1 (E.mono e1) (x1.mono e1) (q.mono e1)
    | false => exact hb.run (h1.2 rfl) S1 (E.mono e1) (x1.mono e1) (q.mono e1)
/-- a op1 b op2 c -/
def tChain (o o' : O2) (fa fb fc : ET) : ET := fun ρ M P x => fa ρ M (fun d1 M1 => fb ρ M1 (fun d2 M2 => o d1 d2 M2 fun k M3 => isB k fun k => (k = true → fc ρ M3 (fun d3 M4 => o' d2 d3 M4 P) x) ∧ (k = false → P (.d (.bl false)) M3)) x) x
theorem de_chain {op op' : CmpOp} {o o' : O2} (ho : DO X (compareOp op) o) (ho' : DO X (compareOp op') o') (ha : DE X a fa) (hb : DE X b fb) (hc : DE X c fc)
    (hm : lastMarks [op, op'] [b, c] = false := by with_unfolding_all rfl) : DE X (.Compare a [op, op'] [b, c] pos) (tChain o o' fa fb fc) where
  run := fun {ρ M P x} h {σ H B L Z} S E x1 {Q} q => by
    refine PE.s (pe_chain op_s op_s pe_s pe_s pe_s hm) ?_
    refine ha.run h S E x1 fun d1 M1 v1 B1 L1 H1 h1 e1 S1 r1 => ?_
    refine hb.run h1 S1 (E.mono e1) (x1.mono e1) fun d2 M2 v2 B2 L2 H2 h2 e2 S2 r2 => ?_
    refine ho.run h2 S2 (r1.mono e2) r2 fun d3 M3 v3 B3 L3 H3 h3 e3 S3 r3 => ?_
    obtain ⟨k, rfl, h4⟩ := h3.of
    have r3 : v3 = .bl k := by simpa only [RepV, Rep] using r3
    refine ⟨k, r3, ?_⟩
    have e := (e1.trans e2).trans e3
    cases k with
    | false => exact q _ M3 _ B3 L3 H3 (h4.2 rfl) e S3 (by simp only [RepV, Rep])
    | true =>
      refine hc.run (h4.1 rfl) S3 (E.mono e) (x1.mono e) fun d5 M5 v5 B5 L5 H5 h5 e5 S5 r5 => ?_
      exact ho'.run h5 S5 (r2.mono (e3.trans e5)) r5 (q.mono (e.trans e5))
/-! ### arguments -/
def tNil : AT := fun _ M P _ => P [] M
def tCons (fe : ET) (fas : AT) : AT := fun ρ M P x => fe ρ M (fun d M1 => fas ρ M1 (fun ds M2 => P (d :: ds) M2) x) x
theorem da_nil : DA X [] tNil where
  run := fun {ρ M P x} h {σ H B L Z} S E x1 {Q} q => PA.s pa_nil (q [] M [] B L H h (Ext.refl B L) S trivial)
theorem da_cons (he : DE X e fe) (hr : DA X es fas) (hs : starEach (e :: es) X.env = (false, eval e X.env) :: starEach es X.env := by rfl) : DA X (e :: es) (tCons fe fas) where
  run := fun {ρ M P x} h {σ H B L Z} S E x1 {Q} q => by
    refine PA.s (pa_cons pe_s pa_s hs) ?_
    refine he.run h S E x1 fun d M1 v B1 L1 H1 h1 e1 S1 r1 => ?_
    refine hr.run h1 S1 (E.mono e1) (x1.mono e1) fun ds M2 vs B2 L2 H2 h2 e2 S2 r2 => ?_
    exact q (d :: ds) M2 (v :: vs) B2 L2 H2 h2 (e1.trans e2) S2 ⟨r1.mono e2, r2⟩
end
/-! ### calls by value -/
section
variable {X : Cx} {x : Str} {p pos : Pos} {e : Expr} {es : List Expr} {fas : AT} {id T : String} {o : CT}
def tCB (o : CT) (fas : AT) : ET := fun ρ M P x => fas ρ M (fun ds M1 => o ds M1 P) x
theorem de_callB (ho : DC X (.builtin id) o) (hg : Gl X x) (hm : X.mg x = none) (hv : bootBuiltins x = some (.builtin id)) (ha : DA X (e :: es) fas) (hn : x ≠ "__name__" := by decide) (hdb : (x == ("__debug__" : Str)) = false := by decide)
    (he : starEach (e :: es) X.env = (false, eval e X.env) :: starEach es X.env := by rfl) (hpl : (backTo pos (starEach es X.env)).any (·.1) = false := by rfl) : DE X (.Call (.Name x p) (e :: es) [] pos) (tCB o fas) where
  run := fun {ρ M P x} h {σ H B L Z} S E x1 {Q} q => by
    refine PE.s (pe_callB call_s hg hm hv pa_s hn hdb he hpl) ?_
    refine ha.run h S E x1 fun ds M1 vs B1 L1 H1 h1 e1 S1 r1 => ?_
    exact ho.run h1 S1 r1 (q.mono e1)
theorem de_callTy (ho : DC X (.type T) o) (hg : Gl X x) (hm : X.mg x = none) (hv : bootBuiltins x = some (.type T)) (ha : DA X (e :: es) fas) (hn : x ≠ "__name__" := by decide) (hdb : (x == ("__debug__" : Str)) = false := by decide)
    (he : starEach (e :: es) X.env = (false, eval e X.env) :: starEach es X.env := by rfl) (hpl : (backTo pos (starEach es X.env)).any (·.1) = false := by rfl) : DE X (.Call (.Name x p) (e :: es) [] pos) (tCB o fas) where
  run := fun {ρ M P x} h {σ H B L Z} S E x1 {Q} q => by
    refine PE.s (pe_callTy call_s hg hm hv pa_s hn hdb he hpl) ?_
    refine ha.run h S E x1 fun ds M1 vs B1 L1 H1 h1 e1 S1 r1 => ?_
    exact ho.run h1 S1 r1 (q.mono e1)
end
end DL

namespace DL
open PySem PySem.Spec PyProof.Rows L2
variable [Csts]
/-! ### statements -/
structure DEnds where
  nx : Rh → Mem → Prop
  rt : Post
  ex : Value → List (Str × D) → Rh → Mem → Prop
  bk : Rh → Mem → Prop := fun _ _ => False
  ct : Rh → Mem → Prop := fun _ _ => False
abbrev ST := DEnds → Rh → Mem → Prop
def NOk (X : Cx) (B : Hp) (L : List Addr) (Z : Zs) (N : Rh → Mem → Prop) (N' : L2.St → Hp → Prop) : Prop :=
  ∀ ρ' M' B' L' σ' H', N ρ' M' → Ext B L B' L' → StM X.K B' L' Z M' H' → EnvR X.K B' L' σ' ρ' → N' σ' H'
def XOkS (X : Cx) (B : Hp) (L : List Addr) (Z : Zs) (x : Value → List (Str × D) → Rh → Mem → Prop) : Prop :=
  ∃ W, Takes X W ∧ ∀ cls fs ρ' M' d B' L' σ' H', x cls fs ρ' M' → Ext B L B' L' → StM X.K B' L' Z M' H' → EnvR X.K B' L' σ' ρ' → XRep X.K B' d fs → W cls d σ' H'
structure Lk (X : Cx) (B : Hp) (L : List Addr) (Z : Zs) (E : DEnds) (F : Ends) : Prop where
  nx : NOk X B L Z E.nx F.nx
  rt : POk X B L Z E.rt F.rt
  bk : NOk X B L Z E.bk F.bk
  ct : NOk X B L Z E.ct F.ct
  ex : XOkS X B L Z E.ex
structure DS (X : Cx) (st : Stmt) (t : ST) : Prop where
  run : ∀ {E ρ M}, t E ρ M → ∀ {σ H B L Z}, StM X.K B L Z M H → EnvR X.K B L σ ρ → ∀ {F}, Lk X B L Z E F → sS X st F σ H
structure DSs (X : Cx) (st : List Stmt) (t : ST) : Prop where
  run : ∀ {E ρ M}, t E ρ M → ∀ {σ H B L Z}, StM X.K B L Z M H → EnvR X.K B L σ ρ → ∀ {F}, Lk X B L Z E F → sSs X st F σ H
section
variable {X : Cx} {B B' : Hp} {L L' : List Addr} {Z : Zs}
theorem NOk.mono {N : Rh → Mem → Prop} {N' : L2.St → Hp → Prop} (h : NOk X B L Z N N') (e : Ext B L B' L') : NOk X B' L' Z N N' := fun ρ M B2 L2 σ H a b => h ρ M B2 L2 σ H a (e.trans b)
theorem XOkS.mono {x} (h : XOkS X B L Z x) (e : Ext B L B' L') : XOkS X B' L' Z x := by
  obtain ⟨W, h1, h2⟩ := h
  exact ⟨W, h1, fun cls fs ρ M d B2 L2 σ H a b => h2 cls fs ρ M d B2 L2 σ H a (e.trans b)⟩
theorem XOkS.at_ {x} (h : XOkS X B L Z x) {ρ : Rh} {σ : L2.St} (E : EnvR X.K B L σ ρ) : XOk X B L Z σ (fun c fs M => x c fs ρ M) := by
  obtain ⟨W, h1, h2⟩ := h
  exact ⟨W, h1, fun cls fs M d B2 L2 H a b c r => h2 cls fs ρ M d B2 L2 σ H a b c (E.mono b) r⟩
theorem Lk.mono {E : DEnds} {F : Ends} (h : Lk X B L Z E F) (e : Ext B L B' L') : Lk X B' L' Z E F := ⟨h.nx.mono e, h.rt.mono e, h.bk.mono e, h.ct.mono e, h.ex.mono e⟩
/-- no exception -/
theorem XOk.none (σ : L2.St) : XOk X.nox B L Z σ (fun _ _ _ => False) := ⟨fun _ _ _ _ => False, takes0, fun _ _ _ _ _ _ _ h => h.elim⟩
end
/-- an expression's exceptions as a statement's -/
abbrev xS (E : DEnds) (ρ : Rh) : XPost := fun c fs M => E.ex c fs ρ M
section
variable {X : Cx} {st : Stmt} {rest : List Stmt} {t u : ST} {e : Expr} {fe : ET} {pos : Pos}
def tNext : ST := fun E ρ M => E.nx ρ M
def tSeq (t u : ST) : ST := fun E ρ M => t { E with nx := u E } ρ M
theorem dss_nil : DSs X [] tNext where
  run := fun h _ _ _ _ _ S V _ l => PSs.s pss_nil (l.nx _ _ _ _ _ _ h (Ext.refl _ _) S V)
theorem dss_cons (h1 : DS X st t) (h2 : DSs X rest u) : DSs X (st :: rest) (tSeq t u) where
  run := fun {E ρ M} h {σ H B L Z} S V {F} l => by
    refine PSs.s (pss_cons ps_s pss_s) ?_
    exact h1.run h S V (F := { F with nx := sSs X rest F }) ⟨fun ρ' M' B' L' σ' H' a b c d => h2.run a c d (l.mono b), l.rt, l.bk, l.ct, l.ex⟩
theorem dss_one (h1 : DS X st t) : DSs X [st] t where
  run := fun {E ρ M} h {σ H B L Z} S V {F} l => PSs.s (pss_one ps_s) (h1.run h S V l)
theorem ds_pass : DS X (.Pass pos) tNext where
  run := fun h _ _ _ _ _ S V _ l => PS.s ps_pass (l.nx _ _ _ _ _ _ h (Ext.refl _ _) S V)
def tBreak : ST := fun E ρ M => E.bk ρ M
def tCont : ST := fun E ρ M => E.ct ρ M
theorem ds_break : DS X (.Break pos) tBreak where
  run := fun h _ _ _ _ _ S V _ l => PS.s ps_break (l.bk _ _ _ _ _ _ h (Ext.refl _ _) S V)
theorem ds_cont : DS X (.Continue pos) tCont where
  run := fun h _ _ _ _ _ S V _ l => PS.s ps_continue (l.ct _ _ _ _ _ _ h (Ext.refl _ _) S V)
theorem ds_doc {x j pos'} : DS X (.Expr (.Constant (.str x) j pos) pos') tNext where
  run := fun h _ _ _ _ _ S V _ l => PS.s ps_doc (l.nx _ _ _ _ _ _ h (Ext.refl _ _) S V)
def tNever : ST := fun _ _ _ => False
theorem ds_never : DS X st tNever where
  run := fun h => h.elim
theorem dss_never {sts : List Stmt} : DSs X sts tNever where
  run := fun h => h.elim
def tDrop (fe : ET) : ST := fun E ρ M => fe ρ M (fun _ M1 => E.nx ρ M1) (xS E ρ)
theorem ds_expr (he : DE X e fe) (hs : swapsWith e none pos.line X.env = pure false := by rfl) : DS X (.Expr e pos) (tDrop fe) where
  run := fun {E ρ M} h {σ H B L Z} S V {F} l => by
    refine PS.s (ps_expr pe_s hs) ?_
    exact he.run h S V (l.ex.at_ V) fun d M1 v B1 L1 H1 h1 e1 S1 r1 => l.nx _ _ _ _ _ _ h1 e1 S1 (V.mono e1)
def tRet (fe : ET) : ST := fun E ρ M => fe ρ M E.rt (xS E ρ)
theorem ds_ret (he : DE X e fe) : DS X (.Return (some e) pos) (tRet fe) where
  run := fun {E ρ M} h {σ H B L Z} S V {F} l => PS.s (ps_ret pe_s) (he.run h S V (l.ex.at_ V) l.rt)
def tRetN : ST := fun E _ M => E.rt (.d .non) M
theorem ds_retN : DS X (.Return none pos) tRetN where
  run := fun {E ρ M} h {σ H B L Z} S V {F} l => PS.s ps_retN (l.rt _ _ _ _ _ _ h (Ext.refl _ _) S (by simp only [RepV, Rep]))
def tIfS (c : TT) (t u : ST) : ST := fun E ρ M => c ρ M (fun b M1 => (b = true → t E ρ M1) ∧ (b = false → u E ρ M1)) (xS E ρ)
theorem ds_if {c : Expr} {a b : List Stmt} {tc : TT} (hc : DT X c tc) (ha : DSs X a t) (hb : DSs X b u) : DS X (.If c a b pos) (tIfS tc t u) where
  run := fun {E ρ M} h {σ H B L Z} S V {F} l => by
    refine PS.s (ps_if pt_s pss_s pss_s) ?_
    refine hc.run h S V (l.ex.at_ V) fun k M1 B1 L1 H1 h1 e1 S1 => ?_
    cases k with
    | true => exact ha.run (h1.1 rfl) S1 (V.mono e1) (l.mono e1)
    | false => exact hb.run (h1.2 rfl) S1 (V.mono e1) (l.mono e1)
end
/-! ### targets -/
abbrev GT := DV → Rh → Mem → (Rh → Mem → Prop) → Prop
structure DG (X : Cx) (tg : Expr) (g : GT) : Prop where
  run : ∀ {x ρ M N}, g x ρ M N → ∀ {v σ H B L Z}, StM X.K B L Z M H → EnvR X.K B L σ ρ → RepV X.K B L x v → ∀ {N' : L2.St → Hp → Prop}, NOk X B L Z N N' → sG X tg v σ H N'
section
variable {X : Cx} {pos : Pos}
def gName (i : Nat) : GT := fun x ρ M N => N (ρ.set i (some x)) M
theorem dg_name (i : Nat) {x : Str} (hN : X.N.Nodup) (hi : X.N[i]? = some x := by rfl) (hx : Loc X.env.scope x := by first | exact Or.inl rfl | exact Or.inr rfl) (hf : X.fn x = true ∨ X.env.scope.names.lookup x = some .local := by first | exact .inl rfl | exact .inr rfl) : DG X (.Name x pos) (gName i) where
  run := fun {x ρ M N} h {v σ H B L Z} S V r {N'} l => PG.s (pg_name hN hi hx hf) (l _ _ _ _ _ _ h (Ext.refl _ _) S (V.set r i))
/-- a tuple of targets -/
abbrev GTs := List DV → Rh → Mem → (Rh → Mem → Prop) → Prop
def sGs (X : Cx) (ts : List Expr) : L2.TGs := fun xs σ H Q => ∀ pins s us, Inv X pins σ H s → Vals xs us → wpAny (model X.prog X.w) X.A (assignInOrder ((assignEach ts X.env).map (·.2)) us) (fun _ s' => ∃ σ' H', Inv X pins σ' H' s' ∧ Q σ' H') X.xe s
theorem pgs_s {ts : List Expr} : PGs X ts (sGs X ts) := ⟨fun pins s _ _ _ us _ I r h => h pins s us I r⟩
structure DGs (X : Cx) (ts : List Expr) (g : GTs) : Prop where
  run : ∀ {xs ρ M N}, g xs ρ M N → ∀ {vs σ H B L Z}, StM X.K B L Z M H → EnvR X.K B L σ ρ → RepVs X.K B L xs vs → ∀ {N' : L2.St → Hp → Prop}, NOk X B L Z N N' → sGs X ts vs σ H N'
def gNil : GTs := fun xs ρ M N => match xs with
  | [] => N ρ M
  | _ :: _ => False
def gCons (g : GT) (gs : GTs) : GTs := fun xs ρ M N => match xs with
  | x :: r => g x ρ M fun ρ' M' => gs r ρ' M' N
  | [] => False
theorem dgs_nil : DGs X [] gNil where
  run := fun {xs ρ M N} h {vs σ H B L Z} S V r {N'} l => by
    cases xs with
    | cons _ _ => exact h.elim
    | nil =>
      cases vs with
      | cons _ _ => exact r.elim
      | nil => exact fun pins s us I rv => pgs_nil.run pins s σ H [] us N' I rv ⟨rfl, l _ _ _ _ _ _ h (Ext.refl _ _) S V⟩
theorem dgs_cons {e : Expr} {es : List Expr} {g : GT} {gs : GTs} (h1 : DG X e g) (h2 : DGs X es gs)
    (hs : (assignEach (e :: es) X.env).map (·.2) = assign e X.env :: (assignEach es X.env).map (·.2) := by rfl) : DGs X (e :: es) (gCons g gs) where
  run := fun {xs ρ M N} h {vs σ H B L Z} S V r {N'} l => by
    cases xs with
    | nil => exact h.elim
    | cons x xs =>
      cases vs with
      | nil => exact r.elim
      | cons v vs =>
        intro pins s us I rv
        refine (pgs_cons pg_s pgs_s hs).run pins s σ H (v :: vs) us N' I rv ⟨v, vs, rfl, ?_⟩
        refine h1.run h S V r.1 fun ρ' M' B' L' σ' H' a b c d => ?_
        exact h2.run a c d (r.2.mono b) (l.mono b)
def gTup (n : Nat) (gs : GTs) : GT := fun x ρ M N => match x with
  | .d (.tup xs) => xs.length = n ∧ gs (xs.map DV.d) ρ M N
  | .pr x k => n = 2 ∧ gs [.d x, .m k] ρ M N
  | _ => False
theorem dg_tup {es : List Expr} {k : Nat} {g : GTs} {n : Nat} (hc : X.calm = true) (h : DGs X es g)
    (hn : (assignEach es X.env).length = n := by rfl) (hst : (assignEach es X.env).findIdx? (·.1) = none := by rfl) : DG X (.Tuple es k pos) (gTup n g) where
  run := fun {x ρ M N} h' {v σ H B L Z} S V r {N'} l => by
    refine PG.s (pg_tup hc pgs_s hn hst) ?_
    unfold gTup at h'
    split at h'
    · rename_i xs
      unfold RepV Rep at r
      obtain ⟨a, vs, rfl, h2, h3⟩ := r
      exact ⟨a, vs, rfl, S.sub.t h2, by rw [← h3.len]; exact h'.1, h.run h'.2 S V h3.vs l⟩
    · obtain ⟨a, u, b, rfl, h2, h3, h4⟩ := r
      exact ⟨a, _, rfl, S.sub.t h2, h'.1.symm, h.run (xs := [.d _, .m _]) (vs := [u, .ref b]) h'.2 S V ⟨h3, ⟨b, rfl, h4⟩, trivial⟩ l⟩
    · exact h'.elim
def tAsg (fe : ET) (g : GT) : ST := fun E ρ M => fe ρ M (fun d M1 => g d ρ M1 E.nx) (xS E ρ)
theorem ds_asg {tg e : Expr} {fe : ET} {g : GT} (he : DE X e fe) (hg : DG X tg g) (hs : swapsWithSole [tg] e pos.line X.env = pure false := by rfl) (hw : swappedStores [tg] e X.env = pure none := by rfl)
    (h1 : (assignEach [tg] X.env).map (·.2) = [assign tg X.env] := by rfl) : DS X (.Assign [tg] e pos) (tAsg fe g) where
  run := fun {E ρ M} h {σ H B L Z} S V {F} l => by
    refine PS.s (ps_asg pe_s pg_s hs hw h1) ?_
    exact he.run h S V (l.ex.at_ V) fun d M1 v B1 L1 H1 h1 e1 S1 r1 => hg.run h1 S1 (V.mono e1) r1 (l.nx.mono e1)
/-- name = e -/
theorem ds_set (i : Nat) {x : Str} {e : Expr} {fe : ET} {pos' : Pos} (hN : X.N.Nodup) (he : DE X e fe) (hi : X.N[i]? = some x := by rfl) (hx : Loc X.env.scope x := by first | exact Or.inl rfl | exact Or.inr rfl)
    (hs : swapsWith e (some (.Name x pos')) pos.line X.env = pure false := by rfl) (hf : X.fn x = true ∨ X.env.scope.names.lookup x = some .local := by first | exact .inl rfl | exact .inr rfl) :
    DS X (.Assign [.Name x pos'] e pos) (tAsg fe (gName i)) where
  run := fun {E ρ M} h {σ H B L Z} S V {F} l => by
    refine PS.s (ps_set hN hi hx pe_s hs hf) ?_
    exact he.run h S V (l.ex.at_ V) fun d M1 v B1 L1 H1 h1 e1 S1 r1 => l.nx _ _ _ _ _ _ h1 e1 S1 ((V.mono e1).set r1 i)
/-- a, b = x, y with plain names -/
def tPar (i j : Nat) (fas : AT) : ST := fun E ρ M => fas ρ M (fun ds M1 => match ds with
  | [x, y] => E.nx ((ρ.set i (some x)).set j (some y)) M1
  | _ => False) (xS E ρ)
theorem ds_par (i j : Nat) {x y : Str} {a b : Expr} {fas : AT} {px py pt : Pos} {kt k2 pt2} (hc : X.calm = true) (hN : X.N.Nodup) (ha : DA X [a, b] fas) (hi : X.N[i]? = some x := by rfl) (hj : X.N[j]? = some y := by rfl) (hij : i ≠ j := by decide)
    (hx : X.env.scope.names.lookup x = some .local := by rfl) (hy : X.env.scope.names.lookup y = some .local := by rfl)
    (hw : swappedStores [.Tuple [.Name x px, .Name y py] kt pt] (.Tuple [a, b] k2 pt2) X.env = pure (some [x, y]) := by rfl)
    (hs : swapsWithSole [.Tuple [.Name x px, .Name y py] kt pt] (.Tuple [a, b] k2 pt2) pos.line X.env = pure false := by rfl) :
    DS X (.Assign [.Tuple [.Name x px, .Name y py] kt pt] (.Tuple [a, b] k2 pt2) pos) (tPar i j fas) where
  run := fun {E ρ M} h {σ H B L Z} S V {F} l => by
    refine PS.s (ps_par hc hN hi hj hij hx hy pa_s hw hs) ?_
    refine ha.run h S V (l.ex.at_ V) fun ds M1 vs B1 L1 H1 h1 e1 S1 r1 => ?_
    match ds, vs, h1, r1 with
    | [x, y], [u, w], h1, r1 => exact ⟨u, w, rfl, l.nx _ _ _ _ _ _ h1 e1 S1 (((V.mono e1).set r1.1 i).set r1.2.1 j)⟩
/-- name op= e -/
def tAug (i : Nat) (o : O2) (fe : ET) : ST := fun E ρ M => match ρ[i]? with
  | some (some x) => fe ρ M (fun d M1 => o x d M1 fun z M2 => E.nx (ρ.set i (some z)) M2) (xS E ρ)
  | _ => False
theorem ds_aug (i : Nat) {x : Str} {e : Expr} {fe : ET} {op : Operator} {o : O2} {pos' : Pos} (hN : X.N.Nodup) (ho : DO X (inplaceOp op) o) (he : DE X e fe) (hi : X.N[i]? = some x := by rfl) (hx : Loc X.env.scope x := by first | exact Or.inl rfl | exact Or.inr rfl)
    (hf : X.fn x = true ∨ X.env.scope.names.lookup x = some .local := by first | exact .inl rfl | exact .inr rfl) : DS X (.AugAssign (.Name x pos') op e pos) (tAug i o fe) where
  run := fun {E ρ M} h {σ H B L Z} S V {F} l => by
    have hp : PIp X op (sO X (inplaceOp op)) := fun pins s σ _ _ _ v u _ I r q h => h pins s σ v u I r q
    refine PS.s (ps_aug hN hi hx pe_s hp hf) ?_
    unfold tAug at h
    split at h
    · rename_i d hd
      obtain ⟨v, h1, h2⟩ := V.at_ i d hd
      refine ⟨v, h1, ?_⟩
      refine he.run h S V (l.ex.at_ V) fun d2 M2 v2 B2 L2 H2 h2' e2 S2 r2 => ?_
      refine ho.run h2' S2 (h2.mono e2) r2 fun d3 M3 v3 B3 L3 H3 h3 e3 S3 r3 => ?_
      exact l.nx _ _ _ _ _ _ h3 (e2.trans e3) S3 ((V.mono (e2.trans e3)).set r3 i)
    · exact h.elim
end
/-! ### functions -/
abbrev DSp := List DV → Mem → Post → XPost → Prop
def Up (K : PySem.W.Frag) (dsp : DSp) : Sp := fun vs H Q E => ∃ B L Z ds M P x, StM K B L Z M H ∧ RepVs K B L ds vs ∧ dsp ds M P x ∧
  (∀ d M' v B' L' H', P d M' → Ext B L B' L' → StM K B' L' Z M' H' → RepV K B' L' d v → Q v H') ∧
  (∀ cls fs M' d B' L' H', x cls fs M' → Ext B L B' L' → StM K B' L' Z M' H' → XRep K B' d fs → E cls d H')
def startD (N : List Str) (ds : List DV) : Rh := ds.map some ++ List.replicate (N.length - ds.length) none
/-- the wants of a body -/
def ends (P : Post) (x : XPost) : DEnds := { nx := fun _ M => P (.d .non) M, rt := P, ex := fun c fs _ M => x c fs M }
theorem start_env {K : PySem.W.Frag} {B : Hp} {L : List Addr} {N : List Str} {ds : List DV} {vs : List V} (r : RepVs K B L ds vs) : EnvR K B L (L2.start N vs) (startD N ds) := by
  refine ⟨by simp [L2.start, startD, r.len], fun i x h => ?_⟩
  unfold startD at h
  by_cases hi : i < ds.length
  · rw [List.getElem?_append_left (by simpa using hi)] at h
    rw [List.getElem?_map] at h
    cases e : ds[i]? with
    | none =>
      rw [e] at h
      cases h
    | some y =>
      rw [e] at h
      simp at h
      subst h
      obtain ⟨v, h1, h2⟩ := r.get e
      refine ⟨v, ?_, h2⟩
      unfold L2.start
      rw [List.getElem?_append_left (by simpa [← r.len] using hi), List.getElem?_map, h1]
      rfl
  · rw [List.getElem?_append_right (by simpa using hi), List.getElem?_replicate] at h
    split at h <;> cases h
section
variable {P : Program} {w : World} {K : PySem.W.Frag} {mg : Str → Option Value} {base : Heap}
theorem fn_dl {x qual : Str} {st : Stmt} {f : Addr} {fd : FuncData} {N ps : List Str} {k : Nat} {dsp : DSp} (F : Fun K x qual st f fd) (S : FnScope N ps (defScope st)) (len : ∀ ds M P x, dsp ds M P x → ds.length = ps.length)
    (hbody : ∀ (cdv : Value) (A : Around) (outer : List PySem.Env) (s : Shared) (H : Hp) (E : XK), Room k (A.deeper (envOfC qual (defScope st) s.heap.objs.size f cdv)) →
      ∃ t, DSs (cxOf (L2.CX P w) P w K mg base N qual (defScope st) f cdv A outer s H E) (defBody st) t ∧ ∀ ds M P x, dsp ds M P x → t (ends P x) (startD N ds) M) : FnOk P w K mg base (L2.CX P w) (k + 1) f fd ps (Up K dsp) := by
  refine F.okX S (fun vs H Q E h => ?_) (fun cdv A outer s H vs Q E hr h => ?_)
  · obtain ⟨B, L, Z, ds, M, P, x, _, r, hd, _⟩ := h
    rw [← r.len]
    exact len _ _ _ _ hd
  · obtain ⟨t, ht, hd⟩ := hbody cdv A outer s H E hr
    refine ⟨sSs (cxOf (L2.CX P w) P w K mg base N qual (defScope st) f cdv A outer s H E) (defBody st), pss_s, ?_⟩
    obtain ⟨B, L, Z, ds, M, P', x, S1, r, h1, hP, hX⟩ := h
    refine ht.run (hd _ _ _ _ h1) S1 (start_env r) ⟨fun ρ' M' B' L' σ' H' a b c d => hP _ _ _ _ _ _ a b c (by simp only [RepV, Rep]), hP, fun _ _ _ _ _ _ a => a.elim, fun _ _ _ _ _ _ a => a.elim, ?_⟩
    exact ⟨fun cls d _ H => E cls d H, takes_of rfl rfl rfl rfl, fun cls fs ρ' M' d B' L' σ' H' a b c _ r => hX cls fs M' d B' L' H' a b c r⟩
end
section
variable {X : Cx} {k : Nat} {f C : Addr} {fd : FuncData} {ps : List Str} {dsp : DSp} {dvs : List V} {dds : List D} {ds : List Value} {x m : Str} {p pos apos : Pos} {e o : Expr} {es : List Expr} {fas : AT} {fo : ET}
def tCall (dsp : DSp) (dds : List D) (fas : AT) : ET := fun ρ M P x => fas ρ M (fun vs M1 => dsp (vs ++ dds.map DV.d) M1 P x) x
theorem callOk {B : Hp} {L : List Addr} {Z : Zs} {M : Mem} {H : Hp} {σ : L2.St} {xs : List DV} {vs : List V} {P : Post} {x : XPost} {Q : VK} {W : WX} (S : StM X.K B L Z M H) (r : RepVs X.K B L xs vs) (h : dsp xs M P x) (q : POk X B L Z P Q)
    (hW : ∀ cls fs M' d B' L' H', x cls fs M' → Ext B L B' L' → StM X.K B' L' Z M' H' → XRep X.K B' d fs → W cls d σ H') : Up X.K dsp vs H Q (WE W σ) := ⟨B, L, Z, xs, M, P, x, S, r, h, q, hW⟩
theorem de_call (F : FnOk X.prog X.w X.K X.mg X.base (L2.CX X.prog X.w) k f fd ps (Up X.K dsp)) (hr : Room k X.A) (hg : Gl X x) (hm : X.mg x = some (.ref f)) (hk : PySem.W.keepIn X.K (.ref f) = true) (hb : Binds X.K fd ps ds) (hd : Vals dvs ds) (hdd : RepL X.K (fun _ => none) dds dvs)
    (ha : DA X (e :: es) fas) (hdb : (x == ("__debug__" : Str)) = false := by decide) (he : starEach (e :: es) X.env = (false, eval e X.env) :: starEach es X.env := by rfl) (hpl : (backTo pos (starEach es X.env)).any (·.1) = false := by rfl) :
    DE X (.Call (.Name x p) (e :: es) [] pos) (tCall dsp dds fas) where
  run := fun {ρ M P x} h {σ H B L Z} S E x1 {Q} q => by
    obtain ⟨W, tk, hW⟩ := x1
    refine PE.s (pe_callSD F hr hg hm hk hb hd (E := WE W) (fun σ => passAt tk σ) pa_s hdb he hpl) ?_
    refine ha.run h S E ⟨W, tk, hW⟩ fun xs M1 vs B1 L1 H1 h1 e1 S1 r1 => ?_
    have rd : RepVs X.K B1 L1 (dds.map DV.d) dvs := (RepL.mono (fun a o z => by cases z) _ _ hdd).vs
    exact callOk S1 (r1.app rd) h1 (q.mono e1) fun cls fs M' d B' L' H' a b => hW cls fs M' d B' L' H' a (e1.trans b)
end
end DL

namespace DL
open PySem PySem.Spec PyProof.Rows L2
variable [Csts]
/-! ### held objects -/
section
variable {K : PySem.W.Frag} {B : Hp} {L : List Addr} {Z : Zs} {M : Mem} {H : Hp} {p : Addr} {o u : HO}
theorem StM.z {q : Addr × HO} (S : StM K B L (q :: Z) M H) : StM K B L Z M H := ⟨S.sub, fun q hq => S.zh q (List.mem_cons_of_mem _ hq), S.len, S.nod, S.out, S.cell, S.live, S.cst⟩
theorem StM.zAt {o : HO} (S : StM K B L ((p, o) :: Z) M H) : H p = some o := (S.zh (p, o) (List.mem_cons_self ..)).1
/-- a new held object -/
theorem StM.newZ (S : StM K B L Z M H) (hp : H p = none) : StM K B L ((p, o) :: Z) M (upd H p o) := by
  have hL := S.notL hp
  have ne : ∀ i a, L[i]? = some a → a ≠ p := fun i a h q => hL (q ▸ List.mem_of_getElem? h)
  refine ⟨fun x u hx => ?_, fun q hq => ?_, S.len, S.nod, S.out, fun i a m h hm => ?_, fun i a h => ?_, S.cst⟩
  · obtain ⟨o', h1, h2, h3⟩ := S.sub _ _ hx
    exact ⟨o', by rw [upd_ne (ne_of_none h1 hp)]; exact h1, h2, h3⟩
  · rcases List.mem_cons.mp hq with rfl | hq
    · exact ⟨upd_same, hL, fun _ => S.fresh hp⟩
    · obtain ⟨h1, h2, h3⟩ := S.zh q hq
      exact ⟨by rw [upd_ne (ne_of_none h1 hp)]; exact h1, h2, h3⟩
  · exact (S.cell i a m h hm).mono (Ext.refl B L) (upd_ne (ne i a h))
  · rw [upd_ne (ne i a h)]
    exact S.live i a h
/-- it changes; those held beneath are others -/
theorem StM.putZ (S : StM K B L ((p, o) :: Z) M H) (ho : isLock o = false) (hZ : ∀ q ∈ Z, q.1 ≠ p) : StM K B L ((p, u) :: Z) M (upd H p u) := by
  obtain ⟨_, hL, hB⟩ := S.zh (p, o) (List.mem_cons_self ..)
  have hB : B p = none := hB ho
  have ne : ∀ i a, L[i]? = some a → a ≠ p := fun i a h q => hL (q ▸ List.mem_of_getElem? h)
  refine ⟨fun x u hx => ?_, fun q hq => ?_, S.len, S.nod, S.out, fun i a m h hm => ?_, fun i a h => ?_, S.cst⟩
  · obtain ⟨o', h1, h2, h3⟩ := S.sub _ _ hx
    exact ⟨o', by rw [upd_ne (ne_of_none hx hB)]; exact h1, h2, h3⟩
  · rcases List.mem_cons.mp hq with rfl | hq
    · exact ⟨upd_same, hL, fun _ => hB⟩
    · obtain ⟨h1, h2, h3⟩ := S.zh q (List.mem_cons_of_mem _ hq)
      exact ⟨by rw [upd_ne (hZ q hq)]; exact h1, h2, h3⟩
  · exact (S.cell i a m h hm).mono (Ext.refl B L) (upd_ne (ne i a h))
  · rw [upd_ne (ne i a h)]
    exact S.live i a h
/-- it becomes data -/
theorem StM.unZ (S : StM K B L ((p, o) :: Z) M H) (ho : isLock o = false) (hZ : ∀ q ∈ Z, q.1 ≠ p) : StM K (upd B p o) L Z M H ∧ Ext B L (upd B p o) L := by
  obtain ⟨_, hL, hB⟩ := S.zh (p, o) (List.mem_cons_self ..)
  have hB : B p = none := hB ho
  have E : Ext B L (upd B p o) L := ⟨upd_sub hB, [], by simp⟩
  have ne : ∀ i a, L[i]? = some a → a ≠ p := fun i a h q => hL (q ▸ List.mem_of_getElem? h)
  refine ⟨⟨fun x u hx => ?_, fun q hq => ?_, S.len, S.nod, fun i a o h ho hg => ?_, fun i a m h hm => ?_, S.live, fun q hq => by rw [upd_ne (ne_of_none (S.cst q hq).1 hB)]; exact S.cst q hq⟩, E⟩
  · by_cases q : x = p
    · subst q
      rw [upd_same] at hx
      cases hx
      exact ⟨_, S.zAt, rfl, fun _ => rfl⟩
    · rw [upd_ne q] at hx
      exact S.sub _ _ hx
  · obtain ⟨h1, h2, h3⟩ := S.zh q (List.mem_cons_of_mem _ hq)
    exact ⟨h1, h2, fun z => by rw [upd_ne (hZ q hq)]; exact h3 z⟩
  · rw [upd_ne (ne i a h)]
    exact S.out i a o h ho hg
  · exact (S.cell i a m h hm).mono E rfl
/-- it becomes a cell -/
theorem StM.cellZ {m : MO} (S : StM K B L ((p, o) :: Z) M H) (ho : isLock o = false) (hZ : ∀ q ∈ Z, q.1 ≠ p) (c : CellOk K B (L ++ [p]) H p m) : StM K B (L ++ [p]) Z (M ++ [m]) H ∧ Ext B L B (L ++ [p]) := by
  obtain ⟨_, hL, hB⟩ := S.zh (p, o) (List.mem_cons_self ..)
  have hB : B p = none := hB ho
  have E : Ext B L B (L ++ [p]) := ⟨Sub.refl B, [p], rfl⟩
  have split : ∀ i a, (L ++ [p])[i]? = some a → (L[i]? = some a) ∨ (i = L.length ∧ a = p) := fun i a h => by
    by_cases hi : i < L.length
    · rw [List.getElem?_append_left hi] at h
      exact .inl h
    · rw [List.getElem?_append_right (by omega)] at h
      right
      have : i - L.length = 0 := by
        by_cases z : i - L.length = 0
        · exact z
        · rw [List.getElem?_eq_none (by simp; omega)] at h
          cases h
      rw [this] at h
      simp at h
      exact ⟨by omega, h.symm⟩
  refine ⟨⟨S.sub, fun q hq => ?_, by simp [S.len], ?_, fun i a o h ho hg => ?_, fun i a m' h hm => ?_, fun i a h => ?_, S.cst⟩, E⟩
  · obtain ⟨h1, h2, h3⟩ := S.zh q (List.mem_cons_of_mem _ hq)
    refine ⟨h1, fun h => ?_, h3⟩
    rcases List.mem_append.mp h with h | h
    · exact h2 h
    · simp at h
      exact hZ q hq h
  · rw [List.nodup_append]
    refine ⟨S.nod, by simp, fun x hx y hy => ?_⟩
    simp at hy
    subst hy
    exact fun q => hL (q ▸ hx)
  · rcases split i a h with h | ⟨_, rfl⟩
    · have hi : i < M.length := by
        rw [← S.len]
        exact (List.getElem?_eq_some_iff.mp h).1
      rw [List.getElem?_append_left hi] at ho
      exact S.out i a o h ho hg
    · exact hB
  · rcases split i a h with h1 | ⟨rfl, rfl⟩
    · have hi : i < M.length := by
        rw [← S.len]
        exact (List.getElem?_eq_some_iff.mp h1).1
      rw [List.getElem?_append_left hi] at hm
      exact (S.cell i a m' h1 hm).mono E rfl
    · rw [S.len, List.getElem?_append_right (Nat.le_refl _)] at hm
      simp at hm
      subst hm
      exact c
  · rcases split i a h with h1 | ⟨_, rfl⟩
    · exact S.live i a h1
    · rw [S.zAt]
      simp
theorem StM.zne (S : StM K B L Z M H) (hp : H p = none) : ∀ q ∈ Z, q.1 ≠ p := fun q hq z => by
  have := (S.zh q hq).1
  rw [z, hp] at this
  cases this
end
/-! ### what a value is read as -/
def seqOf (M : Mem) : DV → Option (List DV)
  | .d (.lst ys) => some (ys.map .d)
  | .d (.frl ys) => some (ys.map .d)
  | .d (.tup ys) => some (ys.map .d)
  | .m k => match M[k]? with
    | some (.lst xs) => some xs
    | _ => none
  | _ => none
theorem StM.seq {K : PySem.W.Frag} {B : Hp} {L : List Addr} {Z : Zs} {M : Mem} {H : Hp} (S : StM K B L Z M H) {d : DV} {v : V} {xs : List DV} (r : RepV K B L d v) (h : seqOf M d = some xs) :
    ∃ p vs, v = .ref p ∧ (SqT K H p vs ∨ SqL K H p vs) ∧ RepVs K B L xs vs := by
  unfold seqOf at h
  split at h
  · cases h
    unfold RepV Rep at r
    obtain ⟨a, vs, h1, h2, h3⟩ := r
    exact ⟨a, vs, h1, .inr (S.sub.l (.inl (.inl h2))), h3.vs⟩
  · cases h
    unfold RepV Rep at r
    obtain ⟨a, vs, h1, h2, h3⟩ := r
    exact ⟨a, vs, h1, .inr (S.sub.l h2), h3.vs⟩
  · cases h
    unfold RepV Rep at r
    obtain ⟨a, vs, h1, h2, h3⟩ := r
    exact ⟨a, vs, h1, .inl (S.sub.t h2), h3.vs⟩
  · split at h
    · rename_i k xs' hk
      cases h
      obtain ⟨a, h1, h2⟩ := r
      obtain ⟨a', h3, c⟩ := S.at_ hk
      have : a' = a := Option.some.inj (h3.symm.trans h2)
      subst this
      obtain ⟨vs, h4, h5⟩ := c
      exact ⟨a', vs, h1, .inr (.inl (.inl h4)), h5⟩
    · cases h
  · cases h
/-- all are data -/
def allD : List DV → Option (List D)
  | [] => some []
  | .d x :: r => match allD r with
    | some xs => some (x :: xs)
    | none => none
  | .m _ :: _ => none
  | .pr _ _ :: _ => none
theorem allD_eq : ∀ {ds : List DV} {xs : List D}, allD ds = some xs → ds = xs.map .d
  | [], _, h => by cases h; rfl
  | .d x :: r, _, h => by
    unfold allD at h
    split at h
    · rename_i xs hx
      cases h
      rw [allD_eq hx]
      rfl
    · cases h
  | .m _ :: _, _, h => by cases h
  | .pr _ _ :: _, _, h => by cases h
theorem allD_map : ∀ (xs : List D), allD (xs.map .d) = some xs
  | [] => rfl
  | x :: xs => by
    show (match allD (xs.map .d) with | some ys => some (x :: ys) | none => none) = _
    rw [allD_map xs]
theorem allD_append {as bs : List DV} {xs ys : List D} (h1 : allD as = some xs) (h2 : allD bs = some ys) : allD (as ++ bs) = some (xs ++ ys) := by
  rw [allD_eq h1, allD_eq h2, ← List.map_append]
  exact allD_map _
section
variable {X : Cx} {es : List Expr} {e : Expr} {fas : AT} {fe : ET} {pos : Pos}
/-- a display that is data -/
def tLst (fas : AT) : ET := fun ρ M P x => fas ρ M (fun ds M1 => match allD ds with
  | some xs => xs.length ≤ 100000 ∧ P (.d (.lst xs)) M1
  | none => False) x
def tTup (fas : AT) : ET := fun ρ M P x => fas ρ M (fun ds M1 => match allD ds with
  | some xs => xs.length ≤ 100000 ∧ P (.d (.tup xs)) M1
  | none => False) x
/-- a list that will change -/
def tLstM (fas : AT) : ET := fun ρ M P x => fas ρ M (fun ds M1 => ds.length ≤ 100000 ∧ P (.m M1.length) (M1 ++ [.lst ds])) x
theorem size100 {n : Nat} (h : n ≤ 100000) : n ≤ sizeLine := Nat.le_trans h (by decide)
theorem de_lst (ha : DA X es fas) : DE X (.List es pos) (tLst fas) where
  run := fun {ρ M P x} h {σ H B L Z} S E x1 {Q} q => by
    refine PE.s (pe_lst pa_s) ?_
    refine ha.run h S E x1 fun ds M1 vs B1 L1 H1 h1 e1 S1 r1 => ?_
    dsimp only at h1
    split at h1
    · rename_i xs hx
      have := allD_eq hx
      subst this
      have rl : RepL X.K B1 xs vs := r1.toL
      refine ⟨by rw [← rl.len]; exact size100 h1.1, fun p hp => ?_⟩
      obtain ⟨S2, e2⟩ := S1.newD (o := .lst vs) hp
      refine q _ M1 _ _ _ _ h1.2 (e1.trans e2) S2 ?_
      unfold RepV Rep
      exact ⟨p, vs, rfl, upd_same, RepL.mono e2.sub _ _ rl⟩
    · exact h1.elim
theorem de_tup {k : Nat} (ha : DA X es fas) : DE X (.Tuple es k pos) (tTup fas) where
  run := fun {ρ M P x} h {σ H B L Z} S E x1 {Q} q => by
    refine PE.s (pe_tup pa_s) ?_
    refine ha.run h S E x1 fun ds M1 vs B1 L1 H1 h1 e1 S1 r1 => ?_
    dsimp only at h1
    split at h1
    · rename_i xs hx
      have := allD_eq hx
      subst this
      have rl : RepL X.K B1 xs vs := r1.toL
      refine ⟨by rw [← rl.len]; exact size100 h1.1, fun p hp => ?_⟩
      obtain ⟨S2, e2⟩ := S1.newD (o := .tup vs) hp
      refine q _ M1 _ _ _ _ h1.2 (e1.trans e2) S2 ?_
      unfold RepV Rep
      exact ⟨p, vs, rfl, .inl (.inl upd_same), RepL.mono e2.sub _ _ rl⟩
    · exact h1.elim
theorem de_lstM (ha : DA X es fas) : DE X (.List es pos) (tLstM fas) where
  run := fun {ρ M P x} h {σ H B L Z} S E x1 {Q} q => by
    refine PE.s (pe_lst pa_s) ?_
    refine ha.run h S E x1 fun ds M1 vs B1 L1 H1 h1 e1 S1 r1 => ?_
    refine ⟨by rw [← r1.len]; exact size100 h1.1, fun p hp => ?_⟩
    have E1 : Ext B1 L1 B1 (L1 ++ [p]) := ⟨Sub.refl B1, [p], rfl⟩
    obtain ⟨S2, e2⟩ := S1.newM (o := .lst vs) (m := .lst ds) hp ⟨vs, upd_same, r1.mono E1⟩
    refine q _ _ _ _ _ _ h1.2 (e1.trans e2) S2 ⟨p, rfl, ?_⟩
    rw [← S1.len]
    simp
/-- *e among the arguments or items -/
def tStar (fe : ET) (fas : AT) : AT := fun ρ M P x => fe ρ M (fun d M1 => match seqOf M1 d with
  | some xs => fas ρ M1 (fun ds M2 => P (xs ++ ds) M2) x
  | none => False) x
theorem da_star {p : Pos} (he : DE X e fe) (hr : DA X es fas) (hs : starEach (.Starred e p :: es) X.env = (true, eval e X.env) :: starEach es X.env := by rfl) : DA X (.Starred e p :: es) (tStar fe fas) where
  run := fun {ρ M P x} h {σ H B L Z} S E x1 {Q} q => by
    refine PA.s (StX.pa_star pe_s pa_s hs) ?_
    refine he.run h S E x1 fun d M1 v B1 L1 H1 h1 e1 S1 r1 => ?_
    dsimp only at h1
    split at h1
    · rename_i xs hx
      obtain ⟨a, vs, rfl, h2, h3⟩ := S1.seq r1 hx
      refine ⟨a, vs, rfl, h2, ?_⟩
      refine hr.run h1 S1 (E.mono e1) (x1.mono e1) fun ds M2 ws B2 L2 H2 h4 e2 S2 r2 => ?_
      exact q _ M2 _ B2 L2 H2 h4 (e1.trans e2) S2 ((h3.mono e2).app r2)
    · exact h1.elim
end
/-! ### for, while -/
abbrev RT := List DV → (Mem → Prop) → Mem → Prop
abbrev IT := Rh → Mem → RT → XPost → Prop
structure Itd (X : Cx) (Z : Zs) (J : It) (xs : List DV) (still : Mem → Prop) (B0 : Hp) (L0 : List Addr) : Prop where
  go : ∀ i y M' B' L' Z' H', xs[i]? = some y → still M' → Ext B0 L0 B' L' → StM X.K B' L' (Z' ++ Z) M' H' → J.go i H' ∧ ∀ v H'', J.yld i H' v H'' → ∃ B'', Ext B' L' B'' L' ∧ StM X.K B'' L' (Z' ++ Z) M' H'' ∧ RepV X.K B'' L' y v
  stop : ∀ i M' B' L' Z' H', xs.length ≤ i → still M' → Ext B0 L0 B' L' → StM X.K B' L' (Z' ++ Z) M' H' → J.stop i H'
structure DI (X : Cx) (tg iter : Expr) (fi : IT) : Prop where
  run : ∀ {ρ M R x}, fi ρ M R x → ∀ {σ H B L Z}, StM X.K B L Z M H → EnvR X.K B L σ ρ → XOk X B L Z σ x → ∀ {RR : It → Hp → Prop},
    (∀ xs still M' B' L' H' J, R xs still M' → Ext B L B' L' → StM X.K B' L' Z M' H' → Itd X Z J xs still B' L' → RR J H') → sI X tg iter σ H RR
section
variable {X : Cx} {tg iter c : Expr} {body : List Stmt} {fi : IT} {g : GT} {tb : ST} {tc : TT} {pos : Pos}
def tFor (fi : IT) (g : GT) (tb : ST) : ST := fun E ρ M => fi ρ M (fun xs still M1 => ∃ I : Nat → Rh → Mem → Prop, I 0 ρ M1 ∧
  (∀ i y ρ' M', xs[i]? = some y → I i ρ' M' → still M' ∧ g y ρ' M' fun ρ2 M2 => tb { E with nx := I (i + 1), ct := I (i + 1), bk := E.nx } ρ2 M2) ∧
  ∀ ρ' M', I xs.length ρ' M' → still M' ∧ E.nx ρ' M') (xS E ρ)
theorem ds_for (hi : DI X tg iter fi) (hg : DG X tg g) (hb : DSs X body tb) (hc : X.calm = true := by rfl) (hp : PassesOwn (model X.prog X.w) X.A X.env X.xe := by first | exact passes_of rfl | assumption)
    (hs : ∀ x, foldedSetIterable iter X.env x = pure x := by intro _; rfl) : DS X (.For tg iter body [] pos) (tFor fi g tb) where
  run := fun {E ρ M} h {σ H B L Z} S V {F} l => by
    refine PS.s (ps_for hp hc pi_s pg_s pss_s hs) ?_
    refine hi.run h S V (l.ex.at_ V) fun xs still M1 B1 L1 H1 J hR e1 S1 it => ?_
    obtain ⟨I, h0, hs, hd⟩ := hR
    refine ⟨fun i m σ' H' => i + m = xs.length ∧ ∃ ρ' M' B' L', I i ρ' M' ∧ Ext B1 L1 B' L' ∧ StM X.K B' L' Z M' H' ∧ EnvR X.K B' L' σ' ρ', ⟨xs.length, by omega, ρ, M1, B1, L1, h0, Ext.refl _ _, S1, V.mono e1⟩, ?_⟩
    rintro i m σ' H' ⟨hm, ρ', M', B', L', hI, e2, S2, V2⟩
    by_cases hl : i < xs.length
    · obtain ⟨y, hy⟩ : ∃ y, xs[i]? = some y := ⟨xs[i], List.getElem?_eq_getElem hl⟩
      obtain ⟨st, hg'⟩ := hs i y ρ' M' hy hI
      obtain ⟨go, yl⟩ := it.go i y M' B' L' [] H' hy st e2 S2
      refine .inr ⟨go, fun σ2 H2 => ∃ m', m' < m ∧ (i + 1) + m' = xs.length ∧ ∃ ρ' M' B' L', I (i + 1) ρ' M' ∧ Ext B1 L1 B' L' ∧ StM X.K B' L' Z M' H2 ∧ EnvR X.K B' L' σ2 ρ', fun _ _ ⟨m', a, b⟩ => ⟨m', a, b⟩, fun v H'' hy' => ?_⟩
      obtain ⟨B'', e3, S3, r3⟩ := yl v H'' hy'
      refine hg.run hg' S3 (V2.mono e3) r3 fun ρ2 M2 B2 L2 σ2 H2 h2 e4 S4 V4 => ?_
      have e := ((e1.trans e2).trans e3).trans e4
      refine hb.run h2 S4 V4 ⟨fun ρ5 M5 B5 L5 σ5 H5 h5 e5 S5 V5 => ?_, l.rt.mono e, l.nx.mono e, fun ρ5 M5 B5 L5 σ5 H5 h5 e5 S5 V5 => ?_, l.ex.mono e⟩
      · exact ⟨m - 1, by omega, by omega, ρ5, M5, B5, L5, h5, ((e2.trans e3).trans e4).trans e5, S5, V5⟩
      · exact ⟨m - 1, by omega, by omega, ρ5, M5, B5, L5, h5, ((e2.trans e3).trans e4).trans e5, S5, V5⟩
    · have hi' : i = xs.length := by omega
      subst hi'
      obtain ⟨st, hn⟩ := hd ρ' M' hI
      exact .inl ⟨it.stop _ M' B' L' [] H' (Nat.le_refl _) st e2 S2, l.nx _ _ _ _ _ _ hn (e1.trans e2) S2 V2⟩
def tWhile (c : TT) (tb : ST) : ST := fun E ρ M => ∃ I : Nat → Rh → Mem → Prop, (∃ m, I m ρ M) ∧ ∀ m ρ' M', I m ρ' M' →
  c ρ' M' (fun b M1 => (b = true → tb { E with nx := fun ρ2 M2 => ∃ m', m' < m ∧ I m' ρ2 M2, ct := fun ρ2 M2 => ∃ m', m' < m ∧ I m' ρ2 M2, bk := E.nx } ρ' M1) ∧ (b = false → E.nx ρ' M1)) (xS E ρ')
theorem ds_while (hc : DT X c tc) (hb : DSs X body tb) (hp : PassesOwn (model X.prog X.w) X.A X.env X.xe := by first | exact passes_of rfl | assumption) : DS X (.While c body [] pos) (tWhile tc tb) where
  run := fun {E ρ M} h {σ H B L Z} S V {F} l => by
    refine PS.s (ps_while hp pt_s pss_s) ?_
    obtain ⟨I, ⟨m0, h0⟩, hs⟩ := h
    refine ⟨fun m σ' H' => ∃ ρ' M' B' L', I m ρ' M' ∧ Ext B L B' L' ∧ StM X.K B' L' Z M' H' ∧ EnvR X.K B' L' σ' ρ', ⟨m0, ρ, M, B, L, h0, Ext.refl _ _, S, V⟩, ?_⟩
    rintro m σ' H' ⟨ρ', M', B', L', hI, e2, S2, V2⟩
    have l2 := l.mono e2
    refine hc.run (hs m ρ' M' hI) S2 V2 (l2.ex.at_ V2) fun b M1 B1 L1 H1 h1 e1 S1 => ?_
    cases b with
    | false => exact l2.nx _ _ _ _ _ _ (h1.2 rfl) e1 S1 (V2.mono e1)
    | true =>
      refine ⟨fun σ3 H3 => ∃ m', m' < m ∧ ∃ ρ' M' B' L', I m' ρ' M' ∧ Ext B L B' L' ∧ StM X.K B' L' Z M' H3 ∧ EnvR X.K B' L' σ3 ρ', fun _ _ x => x, ?_⟩
      have l3 := l2.mono e1
      refine hb.run (h1.1 rfl) S1 (V2.mono e1) ⟨fun ρ5 M5 B5 L5 σ5 H5 h5 e5 S5 V5 => ?_, l3.rt, l3.nx, fun ρ5 M5 B5 L5 σ5 H5 h5 e5 S5 V5 => ?_, l3.ex⟩
      · obtain ⟨m', a, b⟩ := h5
        exact ⟨m', a, ρ5, M5, B5, L5, b, (e2.trans e1).trans e5, S5, V5⟩
      · obtain ⟨m', a, b⟩ := h5
        exact ⟨m', a, ρ5, M5, B5, L5, b, (e2.trans e1).trans e5, S5, V5⟩
end
/-! ### what is walked -/
section
variable {X : Cx} {tg : Expr} {e : Expr} {fe : ET}
theorem StM.zz {K : PySem.W.Frag} {B : Hp} {L : List Addr} {Z : Zs} {M : Mem} {H : Hp} : ∀ {Z' : Zs}, StM K B L (Z' ++ Z) M H → StM K B L Z M H
  | [], S => S
  | _ :: _, S => StM.zz (StM.z S)
/-- a list (data, read only, a cell) or a tuple -/
def iSeq (fe : ET) : IT := fun ρ M R x => fe ρ M (fun d M1 => match seqOf M1 d with
  | some xs => R xs (fun M' => seqOf M' d = some xs) M1
  | none => False) x
theorem itd_list {B0 : Hp} {L0 : List Addr} {Z : Zs} {a : Addr} {d : DV} {xs : List DV} (r : RepV X.K B0 L0 d (.ref a)) (hl : ∀ K B L H M v, StM K B L [] M H → RepV K B L d v → seqOf M d = some xs → ∃ p vs, v = .ref p ∧ SqL K H p vs ∧ RepVs K B L xs vs) : Itd X Z (Itl X.K a) xs (fun M' => seqOf M' d = some xs) B0 L0 where
  go := fun i y M' B' L' Z' H' hy st e S => by
    have S0 : StM X.K B' L' [] M' H' := StM.zz (Z := []) (Z' := Z' ++ Z) (by simpa using S)
    obtain ⟨p, vs, h1, h2, h3⟩ := hl _ _ _ _ _ _ S0 (r.mono e) st
    cases h1
    obtain ⟨v, h4, h5⟩ := h3.get hy
    refine ⟨⟨vs, v, h2, h4⟩, fun w H'' hw => ?_⟩
    obtain ⟨rfl, hw⟩ := hw
    have : w = v := Option.some.inj ((hw vs h2).symm.trans h4)
    subst this
    exact ⟨B', Ext.refl _ _, S, h5⟩
  stop := fun i M' B' L' Z' H' hi st e S => by
    have S0 : StM X.K B' L' [] M' H' := StM.zz (Z := []) (Z' := Z' ++ Z) (by simpa using S)
    obtain ⟨p, vs, h1, h2, h3⟩ := hl _ _ _ _ _ _ S0 (r.mono e) st
    cases h1
    exact ⟨vs, h2, by rw [← h3.len]; exact hi⟩
theorem itd_tup {B0 : Hp} {L0 : List Addr} {Z : Zs} {a : Addr} {ys : List D} (r : RepV X.K B0 L0 (.d (.tup ys)) (.ref a)) : Itd X Z (Itt X.K a) (ys.map DV.d) (fun M' => seqOf M' (.d (.tup ys)) = some (ys.map DV.d)) B0 L0 where
  go := fun i y M' B' L' Z' H' hy st e S => by
    have r := r.mono e
    unfold RepV Rep at r
    obtain ⟨p, vs, h1, h2, h3⟩ := r
    cases h1
    obtain ⟨v, h4, h5⟩ := (h3.vs (L := L')).get hy
    have h2 := S.sub.t h2
    refine ⟨⟨vs, v, h2, h4⟩, fun w H'' hw => ?_⟩
    obtain ⟨rfl, hw⟩ := hw
    have : w = v := Option.some.inj ((hw vs h2).symm.trans h4)
    subst this
    exact ⟨B', Ext.refl _ _, S, h5⟩
  stop := fun i M' B' L' Z' H' hi st e S => by
    have r := r.mono e
    unfold RepV Rep at r
    obtain ⟨p, vs, h1, h2, h3⟩ := r
    cases h1
    exact ⟨vs, S.sub.t h2, by rw [← h3.len]; simpa using hi⟩
theorem PI.or {tg iter : Expr} {w1 w2 : L2.TI} (h1 : PI X tg iter w1) (h2 : PI X tg iter w2) : PI X tg iter (fun σ H R => w1 σ H R ∨ w2 σ H R) :=
  ⟨fun pins s σ H R I h => h.elim (fun h => h1.run pins s σ H R I h) (fun h => h2.run pins s σ H R I h)⟩
/-- the two walks of a value in one -/
theorem pi_seq (he : PE X e (sE X e)) : PI X tg e (fun σ H R => sE X e σ H fun x H1 => ∃ a, x = .ref a ∧ (((∃ xs, SqL X.K H1 a xs) ∧ R (Itl X.K a) H1) ∨ ((∃ xs, SqT X.K H1 a xs) ∧ R (Itt X.K a) H1))) := by
  refine ⟨fun pins s σ H R I h => ?_⟩
  refine thn (h pins s I) fun u s1 hh => ?_
  obtain ⟨v, H1, I1, rv, a, ev, q⟩ := hh
  subst ev
  obtain rfl : u = Value.ref a := rv
  rcases q with ⟨⟨xs, hx⟩, q⟩ | ⟨⟨xs, hx⟩, q⟩
  · obtain ⟨its, rv, p, hz⟩ := I1.list hx
    refine wpAny_pyIter_list p.isList ?_
    refine ⟨s1.heap.objs.size, [s1.heap.objs.size], _, _, H1, rfl, I1.kept (t' := s1.toks) fun b o e => Heap.get?_push_of_some _ e, turn_list a _, ⟨_, Heap.get?_push_size _ rfl, rfl, rfl⟩, fun b hb => ?_, q⟩
    have e : b = s1.heap.objs.size := by simpa using hb
    subst e
    exact I1.fpOk (Nat.le_refl _) (I1.hok.fresh (Nat.le_refl _))
  · obtain ⟨its, rv, p, hz⟩ := I1.tuple hx
    refine wpAny_pyIter_tuple (show s1.heap.IsTuple a its.toArray from p) ?_
    refine ⟨s1.heap.objs.size, [s1.heap.objs.size], _, _, H1, rfl, I1.kept (t' := s1.toks) fun b o e => Heap.get?_push_of_some _ e, turn_tuple a _, ⟨_, Heap.get?_push_size _ rfl, rfl, rfl⟩, fun b hb => ?_, q⟩
    have e : b = s1.heap.objs.size := by simpa using hb
    subst e
    exact I1.fpOk (Nat.le_refl _) (I1.hok.fresh (Nat.le_refl _))
theorem di_seq (he : DE X e fe) : DI X tg e (iSeq fe) where
  run := fun {ρ M R x} h {σ H B L Z} S V x1 {RR} q => by
    refine PI.s (pi_seq pe_s) ?_
    refine he.run h S V x1 fun d M1 v B1 L1 H1 h1 e1 S1 r1 => ?_
    dsimp only at h1
    split at h1
    · rename_i xs hx
      obtain ⟨p, vs, rfl, h2, h3⟩ := S1.seq r1 hx
      refine ⟨p, rfl, ?_⟩
      have tup : ∀ ys, d = .d (.tup ys) → (∃ xs, SqT X.K H1 p xs) ∧ RR (Itt X.K p) H1 := fun ys e => by
        subst e
        have : xs = ys.map DV.d := by
          unfold seqOf at hx
          exact (Option.some.inj hx).symm
        subst this
        have r2 := r1
        unfold RepV Rep at r2
        obtain ⟨a, ws, ea, h4, _⟩ := r2
        cases ea
        exact ⟨⟨ws, S1.sub.t h4⟩, q _ _ _ _ _ _ _ h1 e1 S1 (itd_tup r1)⟩
      have lst : (∀ ys, d ≠ .d (.tup ys)) → (∃ xs, SqL X.K H1 p xs) ∧ RR (Itl X.K p) H1 := fun hn => by
        have hl : ∀ K B L H M v, StM K B L [] M H → RepV K B L d v → seqOf M d = some xs → ∃ p vs, v = .ref p ∧ SqL K H p vs ∧ RepVs K B L xs vs := fun K B L H M v S r hs => by
          unfold seqOf at hs
          split at hs
          · cases hs
            unfold RepV Rep at r
            obtain ⟨a, vs, h1, h2, h3⟩ := r
            exact ⟨a, vs, h1, S.sub.l (.inl (.inl h2)), h3.vs⟩
          · cases hs
            unfold RepV Rep at r
            obtain ⟨a, vs, h1, h2, h3⟩ := r
            exact ⟨a, vs, h1, S.sub.l h2, h3.vs⟩
          · exact absurd rfl (hn _)
          · split at hs
            · rename_i k xs' hk
              cases hs
              obtain ⟨a, h1, h2⟩ := r
              obtain ⟨a', h3, c⟩ := S.at_ hk
              have : a' = a := Option.some.inj (h3.symm.trans h2)
              subst this
              obtain ⟨vs, h4, h5⟩ := c
              exact ⟨a', vs, h1, .inl (.inl h4), h5⟩
            · cases hs
          · cases hs
        have S0 : StM X.K B1 L1 [] M1 H1 := StM.zz (Z := []) (Z' := Z) (by simpa using S1)
        obtain ⟨p2, vs2, ep, h4, _⟩ := hl _ _ _ _ _ _ S0 r1 hx
        cases ep
        exact ⟨⟨vs2, h4⟩, q _ _ _ _ _ _ _ h1 e1 S1 (itd_list r1 hl)⟩
      by_cases c : ∃ ys, d = .d (.tup ys)
      · obtain ⟨ys, c⟩ := c
        exact .inr (tup ys c)
      · exact .inl (lst fun ys e => c ⟨ys, e⟩)
    · exact h1.elim
end
end DL

namespace DL
open PySem PySem.Spec PyProof.Rows L2
variable [Csts]
/-! ### comprehensions -/
def wipeD (ρ : Rh) : List Nat → Rh
  | [] => ρ
  | v :: vs => (wipeD ρ vs).set v none
theorem EnvR.wipe {K : PySem.W.Frag} {B : Hp} {L : List Addr} {σ : L2.St} {ρ : Rh} (h : EnvR K B L σ ρ) : ∀ vs, EnvR K B L (L2.wipe σ vs) (wipeD ρ vs)
  | [] => h
  | v :: vs => (EnvR.wipe h vs).forget v none
theorem wipe_get (σ : L2.St) (i : Nat) : ∀ vs : List Nat, (L2.wipe σ vs)[i]? = if i ∈ vs then (σ[i]?).map (fun _ => none) else σ[i]?
  | [] => by simp [L2.wipe]
  | v :: vs => by
    show ((L2.wipe σ vs).set v none)[i]? = _
    rw [List.getElem?_set, wipe_get σ i vs]
    have hl : (L2.wipe σ vs).length = σ.length := wipe_length σ vs
    by_cases h1 : v = i
    · subst h1
      rw [if_pos rfl]
      simp only [List.mem_cons, true_or, if_true]
      by_cases h2 : v < σ.length
      · rw [if_pos (by omega), List.getElem?_eq_getElem h2]
        rfl
      · rw [if_neg (by omega), List.getElem?_eq_none (by omega)]
        rfl
    · rw [if_neg h1]
      have h2 : i ≠ v := fun h => h1 h.symm
      simp only [List.mem_cons, h2, false_or]
theorem wipe_set {σ : L2.St} {vs : List Nat} {i : Nat} (hi : i ∈ vs) (o : Option V) : L2.wipe (σ.set i o) vs = L2.wipe σ vs := by
  refine List.ext_getElem? fun j => ?_
  rw [wipe_get, wipe_get]
  by_cases h : j ∈ vs
  · rw [if_pos h, if_pos h, List.getElem?_set]
    by_cases q : i = j
    · subst q
      rw [if_pos rfl]
      by_cases hl : i < σ.length
      · rw [if_pos hl, List.getElem?_eq_getElem hl]
        rfl
      · rw [if_neg hl, List.getElem?_eq_none (by omega)]
    · rw [if_neg q]
  · rw [if_neg h, if_neg h, List.getElem?_set, if_neg (fun q : i = j => h (q ▸ hi))]
theorem wipe_idem (σ : L2.St) (vs : List Nat) : L2.wipe (L2.wipe σ vs) vs = L2.wipe σ vs := by
  refine List.ext_getElem? fun j => ?_
  rw [wipe_get, wipe_get]
  by_cases h : j ∈ vs
  · rw [if_pos h, if_pos h]
    cases σ[j]? <;> rfl
  · rw [if_neg h, if_neg h]
structure DGw (X : Cx) (tg : Expr) (vs : List Nat) (g : GT) : Prop where
  run : ∀ {x ρ M N}, g x ρ M N → ∀ {v σ H B L Z}, StM X.K B L Z M H → EnvR X.K B L σ ρ → RepV X.K B L x v → ∀ {N' : L2.St → Hp → Prop},
    (∀ ρ' M' B' L' σ' H', N ρ' M' → Ext B L B' L' → StM X.K B' L' Z M' H' → EnvR X.K B' L' σ' ρ' → L2.wipe σ' vs = L2.wipe σ vs → N' σ' H') → sG X tg v σ H N'
structure DGsw (X : Cx) (ts : List Expr) (vs : List Nat) (g : GTs) : Prop where
  run : ∀ {xs ρ M N}, g xs ρ M N → ∀ {ws σ H B L Z}, StM X.K B L Z M H → EnvR X.K B L σ ρ → RepVs X.K B L xs ws → ∀ {N' : L2.St → Hp → Prop},
    (∀ ρ' M' B' L' σ' H', N ρ' M' → Ext B L B' L' → StM X.K B' L' Z M' H' → EnvR X.K B' L' σ' ρ' → L2.wipe σ' vs = L2.wipe σ vs → N' σ' H') → sGs X ts ws σ H N'
section
variable {X : Cx} {pos : Pos} {vs : List Nat}
theorem dgw_name (i : Nat) {x : Str} (hi : i ∈ vs) (hN : X.N.Nodup) (hx' : X.N[i]? = some x := by rfl) (hx : Loc X.env.scope x := by first | exact Or.inl rfl | exact Or.inr rfl) (hf : X.fn x = true ∨ X.env.scope.names.lookup x = some .local := by first | exact .inl rfl | exact .inr rfl) : DGw X (.Name x pos) vs (gName i) where
  run := fun {x ρ M N} h {v σ H B L Z} S V r {N'} l => PG.s (pg_name hN hx' hx hf) (l _ _ _ _ _ _ h (Ext.refl _ _) S (V.set r i) (wipe_set hi _))
theorem dgsw_nil : DGsw X [] vs gNil where
  run := fun {xs ρ M N} h {ws σ H B L Z} S V r {N'} l => by
    cases xs with
    | cons _ _ => exact h.elim
    | nil =>
      cases ws with
      | cons _ _ => exact r.elim
      | nil => exact fun pins s us I rv => pgs_nil.run pins s σ H [] us N' I rv ⟨rfl, l _ _ _ _ _ _ h (Ext.refl _ _) S V rfl⟩
theorem dgsw_cons {e : Expr} {es : List Expr} {g : GT} {gs : GTs} (h1 : DGw X e vs g) (h2 : DGsw X es vs gs)
    (hs : (assignEach (e :: es) X.env).map (·.2) = assign e X.env :: (assignEach es X.env).map (·.2) := by rfl) : DGsw X (e :: es) vs (gCons g gs) where
  run := fun {xs ρ M N} h {ws σ H B L Z} S V r {N'} l => by
    cases xs with
    | nil => exact h.elim
    | cons x xs =>
      cases ws with
      | nil => exact r.elim
      | cons v ws =>
        intro pins s us I rv
        refine (pgs_cons pg_s pgs_s hs).run pins s σ H (v :: ws) us N' I rv ⟨v, ws, rfl, ?_⟩
        refine h1.run h S V r.1 fun ρ' M' B' L' σ' H' a b c d w => ?_
        exact h2.run a c d (r.2.mono b) fun ρ2 M2 B2 L2 σ2 H2 a2 b2 c2 d2 w2 => l ρ2 M2 B2 L2 σ2 H2 a2 (b.trans b2) c2 d2 (w2.trans w)
theorem dgw_tup {es : List Expr} {k : Nat} {g : GTs} {n : Nat} (hc : X.calm = true) (h : DGsw X es vs g)
    (hn : (assignEach es X.env).length = n := by rfl) (hst : (assignEach es X.env).findIdx? (·.1) = none := by rfl) : DGw X (.Tuple es k pos) vs (gTup n g) where
  run := fun {x ρ M N} h' {v σ H B L Z} S V r {N'} l => by
    refine PG.s (pg_tup hc pgs_s hn hst) ?_
    unfold gTup at h'
    split at h'
    · rename_i xs
      unfold RepV Rep at r
      obtain ⟨a, ws, rfl, h2, h3⟩ := r
      exact ⟨a, ws, rfl, S.sub.t h2, by rw [← h3.len]; exact h'.1, h.run h'.2 S V h3.vs l⟩
    · obtain ⟨a, u, b, rfl, h2, h3, h4⟩ := r
      exact ⟨a, _, rfl, S.sub.t h2, h'.1.symm, h.run (xs := [.d _, .m _]) (ws := [u, .ref b]) h'.2 S V ⟨h3, ⟨b, rfl, h4⟩, trivial⟩ l⟩
    · exact h'.elim
end
/-- a clause's tests -/
def sTs (X : Cx) (ifs : List Expr) : L2.TT := fun σ H Q => ∀ pins s, Inv X pins σ H s →
  wpAny (model X.prog X.w) X.A (forIn ifs true fun c r => if r = true then do let ok ← isTrue c X.env (eval c X.env); pure (ForInStep.yield ok) else pure (ForInStep.yield r)) (TP X pins σ Q) X.xe s
structure DTs (X : Cx) (ifs : List Expr) (f : TT) : Prop where
  run : ∀ {ρ M P x}, f ρ M P x → ∀ {σ H B L Z}, StM X.K B L Z M H → EnvR X.K B L σ ρ → XOk X B L Z σ x → ∀ {Q : Bool → Hp → Prop}, TOk X B L Z P Q → sTs X ifs σ H Q
def tYes : TT := fun _ M P _ => P true M
section
variable {X : Cx}
theorem dts_nil : DTs X [] tYes where
  run := fun {ρ M P x} h {σ H B L Z} S V x1 {Q} q pins s I => pts_nil.run pins s σ H Q I (q _ _ _ _ _ h (Ext.refl _ _) S)
theorem dts_one {c : Expr} {f : TT} (h : DT X c f) : DTs X [c] f where
  run := fun {ρ M P x} h' {σ H B L Z} S V x1 {Q} q pins s I => (pts_one pt_s).run pins s σ H Q I (h.run h' S V x1 q)
/-- [elt for tg in iter if ..]: Fin, what is wanted of all items -/
def tLcG (fi : IT) (g : GT) (tt : TT) (fe : ET) (vs : List Nat) (Fin : List DV → Mem → Prop) (ρ : Rh) (M : Mem) (x : XPost) : Prop := fi ρ M (fun xs still M1 => ∃ I : Nat → List DV → Mem → Prop, I 0 [] M1 ∧
  (∀ i y acc M', xs[i]? = some y → I i acc M' → still M' ∧ g y (wipeD ρ vs) M' fun ρ2 M2 => tt ρ2 M2 (fun b M3 => (b = true → fe ρ2 M3 (fun d M4 => acc.length < 100000 ∧ I (i + 1) (acc ++ [d]) M4) (fun _ _ _ => False)) ∧ (b = false → I (i + 1) acc M3)) fun _ _ _ => False) ∧
  ∀ acc M', I xs.length acc M' → still M' ∧ Fin acc M') x
/-- as data -/
def tLc (fi : IT) (g : GT) (tt : TT) (fe : ET) (vs : List Nat) : ET := fun ρ M P x => tLcG fi g tt fe vs (fun acc M' => match allD acc with
  | some zs => P (.d (.lst zs)) M'
  | none => False) ρ M x
/-- as a list that will change -/
def tLcM (fi : IT) (g : GT) (tt : TT) (fe : ET) (vs : List Nat) : ET := fun ρ M P x => tLcG fi g tt fe vs (fun acc M' => P (.m M'.length) (M' ++ [.lst acc])) ρ M x
variable {elt tg iter : Expr} {ifs : List Expr} {scope : Scope} {own : List (Str × Nat)} {pos : Pos} {fi : IT} {g : GT} {tt : TT} {fe : ET}
theorem size_lt {n : Nat} (h : n < 100000) : n < sizeLine := Nat.lt_of_lt_of_le h (by decide)
abbrev blkG (X : Cx) (scope : Scope) (tg : Expr) : L2.TG := fun y σ H Q => ∀ s0 H0 C cl fp, sG (X.blk s0 H0 scope (compEnvC scope cl C X.env) fp) tg y σ H Q
abbrev blkT (X : Cx) (scope : Scope) (ifs : List Expr) : L2.TT := fun σ H Q => ∀ s0 H0 C cl fp, sTs (X.blk s0 H0 scope (compEnvC scope cl C X.env) fp) ifs σ H Q
abbrev blkE (X : Cx) (scope : Scope) (elt : Expr) : L2.TE := fun σ H Q => ∀ s0 H0 C cl fp, sE (X.blk s0 H0 scope (compEnvC scope cl C X.env) fp) elt σ H Q
/-- the reading behind all -/
theorem lc_reading (hi : DI X tg iter fi)
    (hg : ∀ (s : Shared) (H : Hp) (C : Addr) (cl : List (Str × Addr)) (fp : List Addr), DGw (X.blk s H scope (compEnvC scope cl C X.env) fp) tg (own.map (·.2)) g) (ht : ∀ (s : Shared) (H : Hp) (C : Addr) (cl : List (Str × Addr)) (fp : List Addr), DTs (X.blk s H scope (compEnvC scope cl C X.env) fp) ifs tt)
    (he : ∀ (s : Shared) (H : Hp) (C : Addr) (cl : List (Str × Addr)) (fp : List Addr), DE (X.blk s H scope (compEnvC scope cl C X.env) fp) elt fe)
    {ρ : Rh} {M : Mem} {x : XPost} {Fin : List DV → Mem → Prop} (h : tLcG fi g tt fe (own.map (·.2)) Fin ρ M x) {σ : L2.St} {H B : Hp} {L : List Addr} {Z : Zs} (S : StM X.K B L Z M H) (V : EnvR X.K B L σ ρ) (x1 : XOk X B L Z σ x) {Q : VK}
    (q : ∀ acc M' D accV B' L' H', Fin acc M' → Ext B L B' L' → StM X.K B' L' ((D, .lst accV) :: Z) M' H' → (∀ q ∈ Z, q.1 ≠ D) → RepVs X.K B' L' acc accV → Q (.ref D) H') :
    L2.tLc (sI X tg iter) (blkG X scope tg) (blkT X scope ifs) (blkE X scope elt) (own.map (·.2)) σ H Q := by
  have nox : ∀ s0 H0 C cl fp B L Z σ, XOk (X.blk s0 H0 scope (compEnvC scope cl C X.env) fp) B L Z σ (fun _ _ _ => False) := fun _ _ _ _ _ _ _ _ _ => ⟨fun _ _ _ _ => False, takes0, fun _ _ _ _ _ _ _ h => h.elim⟩
  refine hi.run h S V x1 fun xs still M1 B1 L1 H1 J hR e1 S1 it => ?_
  obtain ⟨I, h0, hs, hd⟩ := hR
  intro D hD
  have hZ := S1.zne hD
  refine ⟨fun i m H' => i + m = xs.length ∧ ∃ acc accV M' B' L', I i acc M' ∧ Ext B1 L1 B' L' ∧ StM X.K B' L' ((D, .lst accV) :: Z) M' H' ∧ RepVs X.K B' L' acc accV, ⟨xs.length, by omega, [], [], M1, B1, L1, h0, Ext.refl _ _, S1.newZ hD, trivial⟩, ?_⟩
  rintro i m H' ⟨hm, acc, accV, M', B', L', hI, e2, S2, r2⟩
  by_cases hl : i < xs.length
  · obtain ⟨y, hy⟩ : ∃ y, xs[i]? = some y := ⟨xs[i], List.getElem?_eq_getElem hl⟩
    obtain ⟨st, hg'⟩ := hs i y acc M' hy hI
    obtain ⟨go, yl⟩ := it.go i y M' B' L' [(D, .lst accV)] H' hy st e2 S2
    refine .inr ⟨go, fun H2 => ∃ m', m' < m ∧ (i + 1) + m' = xs.length ∧ ∃ acc accV M' B' L', I (i + 1) acc M' ∧ Ext B1 L1 B' L' ∧ StM X.K B' L' ((D, .lst accV) :: Z) M' H2 ∧ RepVs X.K B' L' acc accV, fun _ ⟨m', a, b⟩ => ⟨m', a, b⟩, fun v H'' hy' s0 H0 C cl fp => ?_⟩
    obtain ⟨B'', e3, S3, r3⟩ := yl v H'' hy'
    refine (hg s0 H0 C cl fp).run hg' S3 ((V.mono ((e1.trans e2).trans e3)).wipe _) r3 fun ρ2 M2 B2 L2 σ2 H2 h2 e4 S4 V4 w4 => ?_
    refine ⟨w4.trans (wipe_idem _ _), fun s0 H0 C cl fp => ?_⟩
    refine (ht s0 H0 C cl fp).run h2 S4 V4 (nox ..) fun b M3 B3 L3 H3 h3 e5 S5 => ?_
    cases b with
    | false => exact ⟨m - 1, by omega, by omega, acc, accV, M3, B3, L3, (h3.2 rfl), ((e2.trans e3).trans e4).trans e5, S5, r2.mono ((e3.trans e4).trans e5)⟩
    | true =>
      intro s0 H0 C cl fp
      refine (he s0 H0 C cl fp).run (h3.1 rfl) S5 (V4.mono e5) (nox ..) fun d M4 v4 B4 L4 H4 h4 e6 S6 r6 => ?_
      have r7 := (r2.mono (((e3.trans e4).trans e5).trans e6))
      refine ⟨accV, S6.zAt, by rw [← r2.len]; exact size_lt h4.1, m - 1, by omega, by omega, acc ++ [d], accV ++ [v4], M4, B4, L4, h4.2, (((e2.trans e3).trans e4).trans e5).trans e6, S6.putZ rfl hZ, r7.app ⟨r6, trivial⟩⟩
  · have hi' : i = xs.length := by omega
    subst hi'
    obtain ⟨st, hf⟩ := hd acc M' hI
    exact .inl ⟨it.stop _ M' B' L' [(D, .lst accV)] H' (Nat.le_refl _) st e2 S2, q acc M' D accV B' L' H' hf (e1.trans e2) S2 hZ r2⟩
theorem lc_blk (hc : X.calm = true) (hN : X.N.Nodup) (ok : BlkOk X.N X.env.scope scope own) (hs : ∀ x, foldedSetIterable iter X.env x = pure x) :
    PE X (.ListComp elt [⟨tg, iter, ifs, 0⟩] scope pos) (L2.tLc (sI X tg iter) (blkG X scope tg) (blkT X scope ifs) (blkE X scope elt) (own.map (·.2))) :=
  pe_lc hc hN pi_s ok (fun s0 H0 C cl fp => ⟨fun pins s σ H v u Q I r h => h s0 H0 C cl fp pins s u I r⟩) (fun s0 H0 C cl fp => ⟨fun pins s σ H Q I h => h s0 H0 C cl fp pins s I⟩) (fun s0 H0 C cl fp => ⟨fun pins s σ H Q I h => h s0 H0 C cl fp pins s I⟩) hs
theorem fin_data {B : Hp} {L : List Addr} {Z : Zs} {P : Post} {Q : VK} (q : POk X B L Z P Q) : ∀ acc M' D accV B' L' H', (match allD acc with
  | some zs => P (.d (.lst zs)) M'
  | none => False) → Ext B L B' L' → StM X.K B' L' ((D, .lst accV) :: Z) M' H' → (∀ q ∈ Z, q.1 ≠ D) → RepVs X.K B' L' acc accV → Q (.ref D) H' := fun acc M' D accV B' L' H' h e S hZ r => by
  split at h
  · rename_i zs hz
    have := allD_eq hz
    subst this
    obtain ⟨S2, e2⟩ := S.unZ rfl hZ
    refine q _ M' _ _ _ _ h (e.trans e2) S2 ?_
    unfold RepV Rep
    exact ⟨D, accV, rfl, upd_same, RepL.mono e2.sub _ _ r.toL⟩
  · exact h.elim
theorem fin_cell {B : Hp} {L : List Addr} {Z : Zs} {P : Post} {Q : VK} (q : POk X B L Z P Q) : ∀ acc M' D accV B' L' H', P (.m M'.length) (M' ++ [.lst acc]) → Ext B L B' L' → StM X.K B' L' ((D, .lst accV) :: Z) M' H' → (∀ q ∈ Z, q.1 ≠ D) → RepVs X.K B' L' acc accV → Q (.ref D) H' := fun acc M' D accV B' L' H' h e S hZ r => by
  have E1 : Ext B' L' B' (L' ++ [D]) := ⟨Sub.refl B', [D], rfl⟩
  obtain ⟨S2, e2⟩ := S.cellZ (m := .lst acc) rfl hZ ⟨accV, S.zAt, r.mono E1⟩
  refine q _ _ _ _ _ _ h (e.trans e2) S2 ⟨D, rfl, ?_⟩
  rw [← S.len]
  simp
theorem de_lc (hc : X.calm = true) (hN : X.N.Nodup) (hi : DI X tg iter fi) (ok : BlkOk X.N X.env.scope scope own)
    (hg : ∀ (s : Shared) (H : Hp) (C : Addr) (cl : List (Str × Addr)) (fp : List Addr), DGw (X.blk s H scope (compEnvC scope cl C X.env) fp) tg (own.map (·.2)) g) (ht : ∀ (s : Shared) (H : Hp) (C : Addr) (cl : List (Str × Addr)) (fp : List Addr), DTs (X.blk s H scope (compEnvC scope cl C X.env) fp) ifs tt)
    (he : ∀ (s : Shared) (H : Hp) (C : Addr) (cl : List (Str × Addr)) (fp : List Addr), DE (X.blk s H scope (compEnvC scope cl C X.env) fp) elt fe) (hs : ∀ x, foldedSetIterable iter X.env x = pure x := by intro _; rfl) :
    DE X (.ListComp elt [⟨tg, iter, ifs, 0⟩] scope pos) (tLc fi g tt fe (own.map (·.2))) where
  run := fun {ρ M P x} h {σ H B L Z} S V x1 {Q} q => PE.s (lc_blk hc hN ok hs) (lc_reading hi hg ht he h S V x1 (fin_data q))
theorem de_lcM (hc : X.calm = true) (hN : X.N.Nodup) (hi : DI X tg iter fi) (ok : BlkOk X.N X.env.scope scope own)
    (hg : ∀ (s : Shared) (H : Hp) (C : Addr) (cl : List (Str × Addr)) (fp : List Addr), DGw (X.blk s H scope (compEnvC scope cl C X.env) fp) tg (own.map (·.2)) g) (ht : ∀ (s : Shared) (H : Hp) (C : Addr) (cl : List (Str × Addr)) (fp : List Addr), DTs (X.blk s H scope (compEnvC scope cl C X.env) fp) ifs tt)
    (he : ∀ (s : Shared) (H : Hp) (C : Addr) (cl : List (Str × Addr)) (fp : List Addr), DE (X.blk s H scope (compEnvC scope cl C X.env) fp) elt fe) (hs : ∀ x, foldedSetIterable iter X.env x = pure x := by intro _; rfl) :
    DE X (.ListComp elt [⟨tg, iter, ifs, 0⟩] scope pos) (tLcM fi g tt fe (own.map (·.2))) where
  run := fun {ρ M P x} h {σ H B L Z} S V x1 {Q} q => PE.s (lc_blk hc hN ok hs) (lc_reading hi hg ht he h S V x1 (fin_cell q))
/-- y = [..] on one line -/
theorem ds_setLc (i : Nat) {y : Str} {py spos : Pos} (hc : X.calm = true) (hN : X.N.Nodup) (hi : DI X tg iter fi) (ok : BlkOk X.N X.env.scope scope own)
    (hg : ∀ (s : Shared) (H : Hp) (C : Addr) (cl : List (Str × Addr)) (fp : List Addr), DGw (X.blk s H scope (compEnvC scope cl C X.env) fp) tg (own.map (·.2)) g) (ht : ∀ (s : Shared) (H : Hp) (C : Addr) (cl : List (Str × Addr)) (fp : List Addr), DTs (X.blk s H scope (compEnvC scope cl C X.env) fp) ifs tt)
    (he : ∀ (s : Shared) (H : Hp) (C : Addr) (cl : List (Str × Addr)) (fp : List Addr), DE (X.blk s H scope (compEnvC scope cl C X.env) fp) elt fe) (hy : X.N[i]? = some y := by rfl) (hyl : X.env.scope.names.lookup y = some .local := by rfl)
    (hsw : swapsWith (.ListComp elt [⟨tg, iter, ifs, 0⟩] scope pos) (some (.Name y py)) spos.line X.env = pure true := by exact sw_true rfl rfl rfl (by decide +kernel)) (hs : ∀ x, foldedSetIterable iter X.env x = pure x := by intro _; rfl) :
    DS X (.Assign [.Name y py] (.ListComp elt [⟨tg, iter, ifs, 0⟩] scope pos) spos) (tAsg (tLc fi g tt fe (own.map (·.2))) (gName i)) where
  run := fun {E ρ M} h {σ H B L Z} S V {F} l => by
    refine PS.s (ps_setLc (i := i) hc hN hy hyl hsw pi_s ok (fun s0 H0 C cl fp => ⟨fun pins s σ H v u Q I r h => h s0 H0 C cl fp pins s u I r⟩) (fun s0 H0 C cl fp => ⟨fun pins s σ H Q I h => h s0 H0 C cl fp pins s I⟩) (fun s0 H0 C cl fp => ⟨fun pins s σ H Q I h => h s0 H0 C cl fp pins s I⟩) hs (g := blkG X scope tg) (tt := blkT X scope ifs) (te := blkE X scope elt)) ?_
    exact lc_reading hi hg ht he h S V (l.ex.at_ V) (fin_data (P := fun d M1 => gName i d ρ M1 E.nx) fun d M' v B' L' H' a b c r => l.nx _ _ _ _ _ _ a b c ((V.mono b).set r i))
theorem ds_setLcM (i : Nat) {y : Str} {py spos : Pos} (hc : X.calm = true) (hN : X.N.Nodup) (hi : DI X tg iter fi) (ok : BlkOk X.N X.env.scope scope own)
    (hg : ∀ (s : Shared) (H : Hp) (C : Addr) (cl : List (Str × Addr)) (fp : List Addr), DGw (X.blk s H scope (compEnvC scope cl C X.env) fp) tg (own.map (·.2)) g) (ht : ∀ (s : Shared) (H : Hp) (C : Addr) (cl : List (Str × Addr)) (fp : List Addr), DTs (X.blk s H scope (compEnvC scope cl C X.env) fp) ifs tt)
    (he : ∀ (s : Shared) (H : Hp) (C : Addr) (cl : List (Str × Addr)) (fp : List Addr), DE (X.blk s H scope (compEnvC scope cl C X.env) fp) elt fe) (hy : X.N[i]? = some y := by rfl) (hyl : X.env.scope.names.lookup y = some .local := by rfl)
    (hsw : swapsWith (.ListComp elt [⟨tg, iter, ifs, 0⟩] scope pos) (some (.Name y py)) spos.line X.env = pure true := by exact sw_true rfl rfl rfl (by decide +kernel)) (hs : ∀ x, foldedSetIterable iter X.env x = pure x := by intro _; rfl) :
    DS X (.Assign [.Name y py] (.ListComp elt [⟨tg, iter, ifs, 0⟩] scope pos) spos) (tAsg (tLcM fi g tt fe (own.map (·.2))) (gName i)) where
  run := fun {E ρ M} h {σ H B L Z} S V {F} l => by
    refine PS.s (ps_setLc (i := i) hc hN hy hyl hsw pi_s ok (fun s0 H0 C cl fp => ⟨fun pins s σ H v u Q I r h => h s0 H0 C cl fp pins s u I r⟩) (fun s0 H0 C cl fp => ⟨fun pins s σ H Q I h => h s0 H0 C cl fp pins s I⟩) (fun s0 H0 C cl fp => ⟨fun pins s σ H Q I h => h s0 H0 C cl fp pins s I⟩) hs (g := blkG X scope tg) (tt := blkT X scope ifs) (te := blkE X scope elt)) ?_
    exact lc_reading hi hg ht he h S V (l.ex.at_ V) (fin_cell (P := fun d M1 => gName i d ρ M1 E.nx) fun d M' v B' L' H' a b c r => l.nx _ _ _ _ _ _ a b c ((V.mono b).set r i))
end
/-! ### ranges -/
section
variable {X : Cx} {tg a b : Expr} {fas : AT} {p pos : Pos}
def rangeL (lo : Int) (n : Nat) : List DV := (List.range n).map fun (i : Nat) => .d (.int (lo + (i : Int)))
theorem rangeL_get {lo : Int} {n i : Nat} {y : DV} : (rangeL lo n)[i]? = some y ↔ i < n ∧ y = .d (.int (lo + (i : Int))) := by
  unfold rangeL
  rw [List.getElem?_map]
  by_cases h : i < n
  · rw [List.getElem?_range h]
    simp [h, eq_comm]
  · rw [List.getElem?_eq_none (by simp; omega)]
    simp [h]
theorem rangeL_len (lo : Int) (n : Nat) : (rangeL lo n).length = n := by simp [rangeL]
theorem itd_range {B0 : Hp} {L0 : List Addr} {Z : Zs} (lo : Int) (n : Nat) : Itd X Z (Itr lo n) (rangeL lo n) (fun _ => True) B0 L0 where
  go := fun i y M' B' L' Z' H' hy st e S => by
    obtain ⟨h1, rfl⟩ := rangeL_get.mp hy
    exact ⟨h1, fun v H'' ⟨h2, h3⟩ => ⟨B', Ext.refl _ _, h2 ▸ S, by rw [h3]; simp only [RepV, Rep]⟩⟩
  stop := fun i M' B' L' Z' H' hi st e S => by
    rw [rangeL_len] at hi
    exact hi
def iRng1 (fas : AT) : IT := fun ρ M R x => fas ρ M (fun ds M1 => match ds with
  | [.d (.int j)] => (-(2 ^ 62) ≤ j ∧ j < 2 ^ 62) ∧ R (rangeL 0 j.toNat) (fun _ => True) M1
  | _ => False) x
def iRng2 (fas : AT) : IT := fun ρ M R x => fas ρ M (fun ds M1 => match ds with
  | [.d (.int i), .d (.int j)] => (-(2 ^ 62) ≤ i ∧ i < 2 ^ 62 ∧ -(2 ^ 62) ≤ j ∧ j < 2 ^ 62) ∧ R (rangeL i (j - i).toNat) (fun _ => True) M1
  | _ => False) x
theorem di_range1 (hg : Gl X "range") (hm : X.mg "range" = none) (ha : DA X [a] fas) (hs : starEach [a] X.env = [(false, eval a X.env)] := by rfl) : DI X tg (.Call (.Name "range" p) [a] [] pos) (iRng1 fas) where
  run := fun {ρ M R x} h {σ H B L Z} S V x1 {RR} q => by
    refine PI.s (pi_range1 hg hm pa_s hs) ?_
    refine ha.run h S V x1 fun ds M1 vs B1 L1 H1 h1 e1 S1 r1 => ?_
    dsimp only at h1
    split at h1
    · rename_i j
      match vs, r1 with
      | [v], r1 =>
        have : v = .int j := by simpa only [RepV, Rep] using r1.1
        subst this
        exact ⟨j, rfl, h1.1.1, h1.1.2, q _ _ _ _ _ _ _ h1.2 e1 S1 (itd_range 0 _)⟩
    · exact h1.elim
theorem di_range2 (hg : Gl X "range") (hm : X.mg "range" = none) (ha : DA X [a, b] fas) (hs : starEach [a, b] X.env = [(false, eval a X.env), (false, eval b X.env)] := by rfl) (hs2 : starEach [b] X.env = [(false, eval b X.env)] := by rfl) : DI X tg (.Call (.Name "range" p) [a, b] [] pos) (iRng2 fas) where
  run := fun {ρ M R x} h {σ H B L Z} S V x1 {RR} q => by
    refine PI.s (pi_range2 hg hm pa_s hs hs2) ?_
    refine ha.run h S V x1 fun ds M1 vs B1 L1 H1 h1 e1 S1 r1 => ?_
    dsimp only at h1
    split at h1
    · rename_i i j
      match vs, r1 with
      | [v, w], r1 =>
        have hv : v = .int i := by simpa only [RepV, Rep] using r1.1
        have hw : w = .int j := by simpa only [RepV, Rep] using r1.2.1
        subst hv
        subst hw
        exact ⟨i, j, rfl, h1.1, q _ _ _ _ _ _ _ h1.2 e1 S1 (itd_range i _)⟩
    · exact h1.elim
end
end DL

namespace DL
open PySem PySem.Spec PyProof.Rows L2
variable [Csts]
/-! ### operations on values -/
section
variable {X : Cx}
theorem rv_int {K : PySem.W.Frag} {B : Hp} {L : List Addr} {i : Int} {v : V} : RepV K B L (.d (.int i)) v ↔ v = .int i := by simp only [RepV, Rep]
theorem rv_str {K : PySem.W.Frag} {B : Hp} {L : List Addr} {i : Str} {v : V} : RepV K B L (.d (.str i)) v ↔ v = .str i := by simp only [RepV, Rep]
theorem rv_bl {K : PySem.W.Frag} {B : Hp} {L : List Addr} {i : Bool} {v : V} : RepV K B L (.d (.bl i)) v ↔ v = .bl i := by simp only [RepV, Rep]
theorem rv_non {K : PySem.W.Frag} {B : Hp} {L : List Addr} {v : V} : RepV K B L (.d .non) v ↔ v = .non := by simp only [RepV, Rep]
theorem rv_ref {K : PySem.W.Frag} {B : Hp} {L : List Addr} {a : Addr} {v : V} : RepV K B L (.d (.ref a)) v ↔ v = .ref a := by simp only [RepV, Rep]
theorem rv_ty {K : PySem.W.Frag} {B : Hp} {L : List Addr} {a : TyN} {v : V} : RepV K B L (.d (.ty a)) v ↔ v = .ty a.nm := by simp only [RepV, Rep]
/-- two ints -/
def o2I (f : Int → Int → Mem → Post → Prop) : O2 := fun a b M P => match a, b with
  | .d (.int i), .d (.int j) => f i j M P
  | _, _ => False
theorem o2I_of {f : Int → Int → Mem → Post → Prop} {a b : DV} {M : Mem} {P : Post} (h : o2I f a b M P) : ∃ i j, a = .d (.int i) ∧ b = .d (.int j) ∧ f i j M P := by
  unfold o2I at h
  split at h
  · exact ⟨_, _, rfl, rfl, h⟩
  · exact h.elim
theorem do_int {f : Value → Value → Sem Value} {C : Int → Int → Prop} {g : Int → Int → V} {gd : Int → Int → D} (h : OpR X f (rI C g)) (hg : ∀ i j B, Rep X.K B (gd i j) (g i j)) : DO X f (o2I fun i j M P => C i j ∧ P (.d (gd i j)) M) where
  run := fun {a b M P} h' {u v B L Z H} S r1 r2 {Q} q => by
    obtain ⟨i, j, rfl, rfl, hc, hp⟩ := o2I_of h'
    exact opS h ⟨i, j, rv_int.mp r1, rv_int.mp r2, hc, q.here S hp (hg i j B)⟩
theorem do_int0 {f : Value → Value → Sem Value} {g : Int → Int → V} {gd : Int → Int → D} (h : OpR X f (rI0 g)) (hg : ∀ i j B, Rep X.K B (gd i j) (g i j)) : DO X f (o2I fun i j M P => P (.d (gd i j)) M) where
  run := fun {a b M P} h' {u v B L Z H} S r1 r2 {Q} q => by
    obtain ⟨i, j, rfl, rfl, hp⟩ := o2I_of h'
    exact opS h ⟨i, j, rv_int.mp r1, rv_int.mp r2, q.here S hp (hg i j B)⟩
theorem do_sub : DO X (binaryOp .Sub) (o2I fun i j M P => P (.d (.int (i - j))) M) := do_int0 (gd := fun i j => .int (i - j)) op_sub fun _ _ _ => by simp only [Rep]
theorem do_isub : DO X (inplaceOp .Sub) (o2I fun i j M P => P (.d (.int (i - j))) M) := do_int0 (gd := fun i j => .int (i - j)) iop_sub fun _ _ _ => by simp only [Rep]
theorem do_iadd : DO X (inplaceOp .Add) (o2I fun i j M P => P (.d (.int (i + j))) M) := do_int0 (gd := fun i j => .int (i + j)) iop_add fun _ _ _ => by simp only [Rep]
theorem do_mod : DO X (binaryOp .Mod) (o2I fun i j M P => 0 < j ∧ P (.d (.int (i % j))) M) := do_int (gd := fun i j => .int (i % j)) op_mod fun _ _ _ => by simp only [Rep]
theorem do_fdiv : DO X (binaryOp .FloorDiv) (o2I fun i j M P => CDiv i j ∧ P (.d (.int (i / j))) M) := do_int (gd := fun i j => .int (i / j)) op_fdiv fun _ _ _ => by simp only [Rep]
theorem do_pow : DO X (binaryOp .Pow) (o2I fun i j M P => CPow i j ∧ P (.d (.int (i ^ j.toNat))) M) := do_int (gd := fun i j => .int (i ^ j.toNat)) op_pow fun _ _ _ => by simp only [Rep]
theorem do_lt : DO X (compareOp .Lt) (o2I fun i j M P => P (.d (.bl (decide (i < j)))) M) := do_int0 (gd := fun i j => .bl (decide (i < j))) op_lt fun _ _ _ => by simp only [Rep]
theorem do_le : DO X (compareOp .LtE) (o2I fun i j M P => P (.d (.bl (decide (i ≤ j)))) M) := do_int0 (gd := fun i j => .bl (decide (i ≤ j))) op_le fun _ _ _ => by simp only [Rep]
theorem do_gt : DO X (compareOp .Gt) (o2I fun i j M P => P (.d (.bl (decide (j < i)))) M) := do_int0 (gd := fun i j => .bl (decide (j < i))) op_gt fun _ _ _ => by simp only [Rep]
theorem do_ge : DO X (compareOp .GtE) (o2I fun i j M P => P (.d (.bl (decide (j ≤ i)))) M) := do_int0 (gd := fun i j => .bl (decide (j ≤ i))) op_ge fun _ _ _ => by simp only [Rep]
/-! + -/
def lstOf (M : Mem) (d : DV) (xs : List DV) : Prop := match d with
  | .d (.lst ys) => xs = ys.map .d
  | .m k => M[k]? = some (.lst xs)
  | _ => False
theorem StM.lst {K : PySem.W.Frag} {B : Hp} {L : List Addr} {Z : Zs} {M : Mem} {H : Hp} (S : StM K B L Z M H) {d : DV} {v : V} {xs : List DV} (r : RepV K B L d v) (h : lstOf M d xs) : ∃ p vs, v = .ref p ∧ H p = some (.lst vs) ∧ RepVs K B L xs vs := by
  unfold lstOf at h
  split at h
  · subst h
    unfold RepV Rep at r
    obtain ⟨a, vs, h1, h2, h3⟩ := r
    exact ⟨a, vs, h1, S.sub.eq h2, h3.vs⟩
  · obtain ⟨a, h1, h2⟩ := r
    obtain ⟨a', h3, c⟩ := S.at_ h
    have : a' = a := Option.some.inj (h3.symm.trans h2)
    subst this
    obtain ⟨vs, h4, h5⟩ := c
    exact ⟨a', vs, h1, h4, h5⟩
  · exact h.elim
def oAdd : O2 := fun a b M P => match a, b with
  | .d (.int i), .d (.int j) => P (.d (.int (i + j))) M
  | .d (.str i), .d (.str j) => i.length + j.length ≤ 100000 ∧ P (.d (.str (i ++ j))) M
  | .d (.tup xs), .d (.tup ys) => xs.length + ys.length ≤ 100000 ∧ P (.d (.tup (xs ++ ys))) M
  | .d (.lst xs), .d (.lst ys) => xs.length + ys.length ≤ 100000 ∧ P (.d (.lst (xs ++ ys))) M
  | .m k, .d (.lst ys) => match M[k]? with
    | some (.lst xs) => (match allD xs with
      | some zs => zs.length + ys.length ≤ 100000 ∧ P (.d (.lst (zs ++ ys))) M
      | none => False)
    | _ => False
  | .d (.lst ys), .m k => match M[k]? with
    | some (.lst xs) => (match allD xs with
      | some zs => ys.length + zs.length ≤ 100000 ∧ P (.d (.lst (ys ++ zs))) M
      | none => False)
    | _ => False
  | _, _ => False
theorem RepL.app {K : PySem.W.Frag} {B : Hp} {xs ys : List D} {vs ws : List V} (h : RepL K B xs vs) (g : RepL K B ys ws) : RepL K B (xs ++ ys) (vs ++ ws) := by
  have a := (RepL.vs (L := []) h).app (RepL.vs g)
  rw [← List.map_append] at a
  exact a.toL
theorem add_lists {B : Hp} {L : List Addr} {Z : Zs} {M : Mem} {H : Hp} {P : Post} {Q : VK} {a b : DV} {u v : V} {xs ys : List D} (S : StM X.K B L Z M H) (r1 : RepV X.K B L a u) (r2 : RepV X.K B L b v) (h1 : lstOf M a (xs.map .d)) (h2 : lstOf M b (ys.map .d)) (hl : xs.length + ys.length ≤ 100000) (h : P (.d (.lst (xs ++ ys))) M) (q : POk X B L Z P Q) : sO X (binaryOp .Add) u v H Q := by
  obtain ⟨p, vs, rfl, e1, g1⟩ := S.lst r1 h1
  obtain ⟨p2, ws, rfl, e2, g2⟩ := S.lst r2 h2
  have l1 := g1.len
  have l2 := g2.len
  simp at l1 l2
  refine opS op_cat ⟨p, p2, vs, ws, rfl, rfl, e1, e2, size100 (by omega), fun z hz => ?_⟩
  obtain ⟨S2, e⟩ := S.newD (o := .lst (vs ++ ws)) hz
  refine q _ M _ _ _ _ h e S2 ?_
  unfold RepV Rep
  exact ⟨z, vs ++ ws, rfl, upd_same, RepL.mono e.sub _ _ (g1.toL.app g2.toL)⟩
/-- a tuple is laid -/
theorem new_tup {B : Hp} {L : List Addr} {Z : Zs} {M : Mem} {H : Hp} {P : Post} {Q : VK} {xs : List D} {vs : List V} (S : StM X.K B L Z M H) (r : RepL X.K B xs vs) (h : P (.d (.tup xs)) M) (q : POk X B L Z P Q) {z : Addr} (hz : H z = none) : Q (.ref z) (upd H z (.tup vs)) := by
  obtain ⟨S2, e⟩ := S.newD (o := .tup vs) hz
  refine q _ M _ _ _ _ h e S2 ?_
  unfold RepV Rep
  exact ⟨z, vs, rfl, .inl (.inl upd_same), RepL.mono e.sub _ _ r⟩
theorem new_lst {B : Hp} {L : List Addr} {Z : Zs} {M : Mem} {H : Hp} {P : Post} {Q : VK} {xs : List D} {vs : List V} (S : StM X.K B L Z M H) (r : RepL X.K B xs vs) (h : P (.d (.lst xs)) M) (q : POk X B L Z P Q) {z : Addr} (hz : H z = none) : Q (.ref z) (upd H z (.lst vs)) := by
  obtain ⟨S2, e⟩ := S.newD (o := .lst vs) hz
  refine q _ M _ _ _ _ h e S2 ?_
  unfold RepV Rep
  exact ⟨z, vs, rfl, upd_same, RepL.mono e.sub _ _ r⟩
theorem RepL.nil_iff {K : PySem.W.Frag} {B : Hp} {xs : List D} {vs : List V} (h : RepL K B xs vs) : vs = [] ↔ xs = [] := by
  have := h.len
  constructor
  · intro e
    rw [e] at this
    exact List.length_eq_zero_iff.mp this
  · intro e
    rw [e] at this
    exact List.length_eq_zero_iff.mp this.symm
theorem do_add : DO X (binaryOp .Add) oAdd where
  run := fun {a b M P} h {u v B L Z H} S r1 r2 {Q} q => by
    unfold oAdd at h
    split at h
    · exact opS op_add ⟨_, _, rv_int.mp r1, rv_int.mp r2, q.here S h (rv_int.mpr rfl)⟩
    · exact opS op_add_str ⟨_, _, rv_str.mp r1, rv_str.mp r2, size100 h.1, q.here S h.2 (rv_str.mpr rfl)⟩
    · rename_i xs ys
      have r1' := r1
      have r2' := r2
      unfold RepV Rep at r1 r2
      obtain ⟨p, vs, rfl, h1, h2⟩ := r1
      obtain ⟨p2, ws, rfl, h3, h4⟩ := r2
      have l1 := h2.len
      have l2 := h4.len
      refine opS op_catA ⟨p, p2, vs, ws, rfl, rfl, S.sub.t h1, S.sub.t h3, size100 (by omega), fun e => ?_, fun _ e => ?_, fun _ _ z hz => new_tup S (h2.app h4) h.2 q hz⟩
      · have : xs = [] := (h2.nil_iff).mp e
        subst this
        exact q.here S h.2 (by simpa using r2')
      · have : ys = [] := (h4.nil_iff).mp e
        subst this
        exact q.here S h.2 (by simpa using r1')
    · exact add_lists S r1 r2 rfl rfl h.1 h.2 q
    · split at h
      · rename_i xs hk
        split at h
        · rename_i zs hz
          have := allD_eq hz
          subst this
          exact add_lists S r1 r2 hk rfl h.1 h.2 q
        · exact h.elim
      · exact h.elim
    · split at h
      · rename_i xs hk
        split at h
        · rename_i zs hz
          have := allD_eq hz
          subst this
          exact add_lists S r1 r2 rfl hk h.1 h.2 q
        · exact h.elim
      · exact h.elim
    · exact h.elim
/-! * -/
def oMul : O2 := fun a b M P => match a, b with
  | .d (.int i), .d (.int j) => CMul i j ∧ P (.d (.int (i * j))) M
  | .d (.lst xs), .d (.int k) => (-(2 ^ 63) ≤ k ∧ k < 2 ^ 63 ∧ xs.length * k.toNat ≤ 100000) ∧ P (.d (.lst (List.replicate k.toNat xs).flatten)) M
  | .d (.tup xs), .d (.int k) => (xs ≠ [] ∧ 2 ≤ k ∧ k ≤ 1000 ∧ xs.length ≤ 1000) ∧ P (.d (.tup (List.replicate k.toNat xs).flatten)) M
  | _, _ => False
theorem RepL.rep {K : PySem.W.Frag} {B : Hp} {xs : List D} {vs : List V} (h : RepL K B xs vs) : ∀ n : Nat, RepL K B (List.replicate n xs).flatten (List.replicate n vs).flatten
  | 0 => by simp only [List.replicate, List.flatten_nil]; unfold RepL; trivial
  | n + 1 => by
    rw [List.replicate_succ, List.replicate_succ, List.flatten_cons, List.flatten_cons]
    exact h.app (RepL.rep h n)
/-! == -/
mutual
def isPy : D → Bool
  | .non | .bl _ | .int _ | .str _ => true
  | .lst xs | .frl xs | .tup xs => isPyL xs
  | _ => false
def isPyL : List D → Bool
  | [] => true
  | x :: xs => isPy x && isPyL xs
end
mutual
def toPy : D → PyData
  | .bl b => .bool b
  | .int i => .int i
  | .str s => .str s
  | .lst xs | .frl xs => .list (toPyL xs)
  | .tup xs => .tuple (toPyL xs)
  | _ => .none
def toPyL : List D → List PyData
  | [] => []
  | x :: xs => toPy x :: toPyL xs
end
mutual
theorem Rep.dp {K : PySem.W.Frag} {B H : Hp} (e : Sub B H) : ∀ (d : D) (v : V), isPy d = true → Rep K B d v → Dp K H v (toPy d)
  | .non, _, _, h => by
    unfold Rep at h
    subst h
    exact .non
  | .bl _, _, _, h => by
    unfold Rep at h
    subst h
    exact .bl _
  | .int _, _, _, h => by
    unfold Rep at h
    subst h
    exact .int _
  | .str _, _, _, h => by
    unfold Rep at h
    subst h
    exact .str _
  | .lst xs, _, p, h => by
    unfold Rep at h
    unfold isPy at p
    obtain ⟨a, vs, rfl, h2, h3⟩ := h
    exact .lst (e.l (.inl (.inl h2))) (RepL.dp e xs vs p h3)
  | .frl xs, _, p, h => by
    unfold Rep at h
    unfold isPy at p
    obtain ⟨a, vs, rfl, h2, h3⟩ := h
    exact .lst (e.l h2) (RepL.dp e xs vs p h3)
  | .tup xs, _, p, h => by
    unfold Rep at h
    unfold isPy at p
    obtain ⟨a, vs, rfl, h2, h3⟩ := h
    exact .tup (e.t h2) (RepL.dp e xs vs p h3)
  | .ref _, _, p, _ => by simp [isPy] at p
  | .ty _, _, p, _ => by simp [isPy] at p
  | .dic _, _, p, _ => by simp [isPy] at p
  | .obj _ _, _, p, _ => by simp [isPy] at p
  | .slo _ _, _, p, _ => by simp [isPy] at p
theorem RepL.dp {K : PySem.W.Frag} {B H : Hp} (e : Sub B H) : ∀ (xs : List D) (vs : List V), isPyL xs = true → RepL K B xs vs → DpAll K H vs (toPyL xs)
  | [], [], _, _ => .nil
  | x :: xs, v :: vs, p, h => by
    unfold RepL at h
    unfold isPyL at p
    rw [Bool.and_eq_true] at p
    exact .cons (Rep.dp e x v p.1 h.1) (RepL.dp e xs vs p.2 h.2)
  | [], _ :: _, _, h => by unfold RepL at h; exact h.elim
  | _ :: _, [], _, h => by unfold RepL at h; exact h.elim
end
def eqD (a b : D) : Bool := PyData.eqv (toPy a) (toPy b)
def shapedD (a : D) : Bool := isPy a && SeqAt.shaped (toPy a)
/-- what a value is as data, for == -/
def datOf (M : Mem) : DV → Option D
  | .d x => some x
  | .m k => match M[k]? with
    | some (.lst xs) => (match allD xs with
      | some zs => some (.lst zs)
      | none => none)
    | _ => none
  | .pr _ _ => none
theorem StM.dp {K : PySem.W.Frag} {B : Hp} {L : List Addr} {Z : Zs} {M : Mem} {H : Hp} (S : StM K B L Z M H) {d : DV} {v : V} {x : D} (r : RepV K B L d v) (h : datOf M d = some x) (p : isPy x = true) : Dp K H v (toPy x) := by
  unfold datOf at h
  split at h
  · cases h
    exact Rep.dp S.sub _ _ p r
  · split at h
    · rename_i xs hk
      split at h
      · rename_i zs hz
        cases h
        have := allD_eq hz
        subst this
        obtain ⟨q, vs, rfl, h2, h3⟩ := S.lst r hk
        unfold isPy at p
        exact .lst (.inl (.inl h2)) (RepL.dp S.sub _ _ p h3.toL)
      · cases h
    · cases h
  · cases h
/-- == with its answer turned by n -/
def oEqN (n : Bool) : O2 := fun a b M P => match a, b with
  | .d (.int i), .d (.int j) => P (.d (.bl (n ^^ decide (i = j)))) M
  | .d (.str i), .d (.str j) => P (.d (.bl (n ^^ decide (i = j)))) M
  | .d (.bl i), .d (.bl j) => P (.d (.bl (n ^^ decide (i = j)))) M
  | a, b => match datOf M a, datOf M b with
    | some x, some y => (shapedD x = true ∧ shapedD y = true) ∧ P (.d (.bl (n ^^ eqD x y))) M
    | _, _ => False
theorem do_eqN {n : Bool} {op : CmpOp} {f : Value → Value → Sem Value} (hs : OpR X f (fun x y H Q => scal x y = true ∧ Q (.bl (n ^^ decide (x = y))) H)) (hd : OpR X f (fun x y H Q => ∃ d e, Dp X.K H x d ∧ Dp X.K H y e ∧ SeqAt.shaped d = true ∧ SeqAt.shaped e = true ∧ Q (.bl (n ^^ PyData.eqv d e)) H)) : DO X f (oEqN n) where
  run := fun {a b M P} h {u v B L Z H} S r1 r2 {Q} q => by
    unfold oEqN at h
    split at h
    · have e1 := rv_int.mp r1
      have e2 := rv_int.mp r2
      subst e1
      subst e2
      refine opS hs ⟨rfl, ?_⟩
      refine q.here S h (rv_bl.mpr ?_)
      simp
    · have e1 := rv_str.mp r1
      have e2 := rv_str.mp r2
      subst e1
      subst e2
      refine opS hs ⟨rfl, ?_⟩
      refine q.here S h (rv_bl.mpr ?_)
      simp
    · have e1 := rv_bl.mp r1
      have e2 := rv_bl.mp r2
      subst e1
      subst e2
      refine opS hs ⟨rfl, ?_⟩
      refine q.here S h (rv_bl.mpr ?_)
      simp
    · split at h
      · rename_i x y hx hy
        obtain ⟨⟨h1, h2⟩, hp⟩ := h
        unfold shapedD at h1 h2
        rw [Bool.and_eq_true] at h1 h2
        exact opS hd ⟨_, _, S.dp r1 hx h1.1, S.dp r2 hy h2.1, h1.2, h2.2, q.here S hp (rv_bl.mpr rfl)⟩
      · exact h.elim
theorem do_eq (hu : X.A.units + 64 < cLine) : DO X (compareOp .Eq) (oEqN false) :=
  do_eqN (op := .Eq) (fun pins s σ H x y v u Q I rx ry h => op_eq pins s σ H x y v u Q I rx ry ⟨h.1, by simpa using h.2⟩) (fun pins s σ H x y v u Q I rx ry h => by
    obtain ⟨d, e, a1, a2, a3, a4, a5⟩ := h
    exact op_eqD hu pins s σ H x y v u Q I rx ry ⟨d, e, a1, a2, a3, a4, by simpa using a5⟩)
theorem do_ne (hu : X.A.units + 64 < cLine) : DO X (compareOp .NotEq) (oEqN true) :=
  do_eqN (op := .NotEq) (fun pins s σ H x y v u Q I rx ry h => op_ne pins s σ H x y v u Q I rx ry ⟨h.1, by simpa using h.2⟩) (fun pins s σ H x y v u Q I rx ry h => by
    obtain ⟨d, e, a1, a2, a3, a4, a5⟩ := h
    exact op_neD hu pins s σ H x y v u Q I rx ry ⟨d, e, a1, a2, a3, a4, by simpa using a5⟩)
/-! is None -/
def isNonD : DV → Bool
  | .d .non => true
  | _ => false
theorem isNon_rep {K : PySem.W.Frag} {B : Hp} {L : List Addr} {d : DV} {v : V} (r : RepV K B L d v) : decide (v = .non) = isNonD d := by
  cases d with
  | m i =>
    obtain ⟨a, rfl, _⟩ := r
    rfl
  | pr x k =>
    obtain ⟨a, u, b, rfl, _⟩ := r
    rfl
  | d x =>
    cases x <;> unfold RepV Rep at r
    all_goals first
      | (subst r; rfl)
      | (obtain ⟨a, vs, rfl, _⟩ := r; rfl)
      | (obtain ⟨a, dx, gs, rfl, _⟩ := r; rfl)
      | (obtain ⟨e, _⟩ := r; rw [e]; rfl)
def oIs (n : Bool) : O2 := fun a b M P => match b with
  | .d .non => P (.d (.bl (n ^^ isNonD a))) M
  | _ => False
theorem do_is : DO X (compareOp .Is) (oIs false) where
  run := fun {a b M P} h {u v B L Z H} S r1 r2 {Q} q => by
    unfold oIs at h
    split at h
    · refine opS op_isN ⟨rv_non.mp r2, ?_⟩
      rw [isNon_rep r1]
      exact q.here S h (rv_bl.mpr (by simp))
    · exact h.elim
theorem do_isNot : DO X (compareOp .IsNot) (oIs true) where
  run := fun {a b M P} h {u v B L Z H} S r1 r2 {Q} q => by
    unfold oIs at h
    split at h
    · refine opS op_notN ⟨rv_non.mp r2, ?_⟩
      rw [isNon_rep r1]
      exact q.here S h (rv_bl.mpr (by simp))
    · exact h.elim
/-! in -/
def flatD : D → Bool
  | .non | .bl _ | .int _ | .str _ => true
  | _ => false
def eqF : D → D → Bool
  | .non, .non => true
  | .bl a, .bl b => a == b
  | .bl a, .int b => (if a then 1 else 0) == b
  | .int a, .bl b => a == (if b then 1 else 0)
  | .int a, .int b => a == b
  | .str a, .str b => a == b
  | _, _ => false
theorem flat_v {K : PySem.W.Frag} {B : Hp} {d : D} {v : V} (r : Rep K B d v) (f : flatD d = true) : flatV v = true := by
  cases d <;> simp [flatD] at f <;> (unfold Rep at r; subst r; rfl)
theorem eqF_v {K : PySem.W.Frag} {B : Hp} {d e : D} {v u : V} (r : Rep K B d v) (q : Rep K B e u) (f : flatD d = true) (g : flatD e = true) : eqV v u = eqF d e := by
  cases d <;> simp [flatD] at f <;> (unfold Rep at r; subst r) <;> cases e <;> simp [flatD] at g <;> (unfold Rep at q; subst q; rfl)
def inF (x : D) (xs : List D) : Bool := xs.any fun y => eqF y x
theorem flat_vs {K : PySem.W.Frag} {B : Hp} : ∀ {xs : List D} {vs : List V}, RepL K B xs vs → xs.all flatD = true → vs.all flatV = true
  | [], [], _, _ => rfl
  | x :: xs, v :: vs, h, f => by
    unfold RepL at h
    rw [List.all_cons, Bool.and_eq_true] at f ⊢
    exact ⟨flat_v h.1 f.1, flat_vs h.2 f.2⟩
  | [], _ :: _, h, _ => by unfold RepL at h; exact h.elim
  | _ :: _, [], h, _ => by unfold RepL at h; exact h.elim
theorem inF_v {K : PySem.W.Frag} {B : Hp} {x : D} {v : V} (r : Rep K B x v) (f : flatD x = true) : ∀ {xs : List D} {vs : List V}, RepL K B xs vs → xs.all flatD = true → inV v vs = inF x xs
  | [], [], _, _ => rfl
  | y :: xs, u :: vs, h, g => by
    unfold RepL at h
    rw [List.all_cons, Bool.and_eq_true] at g
    unfold inV inF
    rw [List.any_cons, List.any_cons, eqF_v h.1 r g.1 f]
    have := inF_v r f h.2 g.2
    unfold inV inF at this
    rw [this]
  | [], _ :: _, h, _ => by unfold RepL at h; exact h.elim
  | _ :: _, [], h, _ => by unfold RepL at h; exact h.elim
def lookD (kvs : List (Key × D)) (k : Key) : Option D := (kvs.find? fun kv => decide (kv.1 = k)).map (·.2)
def keyD : DV → Option Key
  | .d (.int i) => some (.inl i)
  | .d (.str s) => some (.inr s)
  | _ => none
def keysFlat : DV → Bool
  | .d x => flatD x
  | _ => false
def oIn (n : Bool) : O2 := fun a b M P => match b with
  | .d (.dic kvs) => (match keyD a with
    | some k => P (.d (.bl (n ^^ (lookD kvs k).isSome))) M
    | none => False)
  | b => match a, seqOf M b with
    | .d x, some ys => (match allD ys with
      | some zs => (flatD x = true ∧ zs.all flatD = true) ∧ P (.d (.bl (n ^^ inF x zs))) M
      | none => False)
    | _, _ => False
theorem RepK.val {K : PySem.W.Frag} {B : Hp} (k : Key) : ∀ {kvs : List (Key × D)} {ws : List (Key × V)}, RepK K B kvs ws → (lookD kvs k = none ∧ valV ws k = none) ∨ ∃ d v, lookD kvs k = some d ∧ valV ws k = some v ∧ Rep K B d v
  | [], [], _ => .inl ⟨rfl, rfl⟩
  | (a, x) :: kvs, (b, v) :: ws, h => by
    unfold RepK at h
    obtain ⟨rfl, h1, h2⟩ := h
    by_cases e : a = k
    · right
      refine ⟨x, v, ?_, ?_, h1⟩
      · unfold lookD
        rw [List.find?_cons, decide_eq_true e]
        rfl
      · exact valV_pos (p := (a, v)) e
    · have h3 : lookD ((a, x) :: kvs) k = lookD kvs k := by
        unfold lookD
        rw [List.find?_cons, decide_eq_false e]
      have h4 : valV ((a, v) :: ws) k = valV ws k := valV_neg (p := (a, v)) e
      rw [h3, h4]
      exact RepK.val k h2
  | [], _ :: _, h => by unfold RepK at h; exact h.elim
  | (_, _) :: _, [], h => by unfold RepK at h; exact h.elim
theorem keyD_v {K : PySem.W.Frag} {B : Hp} {L : List Addr} {d : DV} {v : V} {k : Key} (r : RepV K B L d v) (h : keyD d = some k) : v = kV k := by
  unfold keyD at h
  split at h
  · cases h
    exact rv_int.mp r
  · cases h
    exact rv_str.mp r
  · cases h
theorem do_inN {n : Bool} {f : Value → Value → Sem Value} (h1 : OpR X f (fun x y H Q => ∃ p xs, y = .ref p ∧ (SqL X.K H p xs ∨ SqT X.K H p xs) ∧ flatV x = true ∧ xs.all flatV = true ∧ Q (.bl (n ^^ inV x xs)) H))
    (h2 : OpR X f (fun y x H Q => ∃ a o, x = .ref a ∧ DGet H a y o ∧ Q (.bl (n ^^ o.isSome)) H)) : DO X f (oIn n) where
  run := fun {a b M P} h {u v B L Z H} S r1 r2 {Q} q => by
    unfold oIn at h
    split at h
    · rename_i kvs
      split at h
      · rename_i k hk
        unfold RepV Rep at r2
        obtain ⟨p, ws, rfl, e1, e2⟩ := r2
        refine opS h2 ⟨p, valV ws k, rfl, .inl ⟨ws, k, S.sub.rdK e1, keyD_v r1 hk, rfl⟩, ?_⟩
        have : (valV ws k).isSome = (lookD kvs k).isSome := by
          rcases e2.val k with ⟨h3, h4⟩ | ⟨d, w, h3, h4, _⟩ <;> rw [h3, h4] <;> rfl
        rw [this]
        exact q.here S h (rv_bl.mpr rfl)
      · exact h.elim
    · split at h
      · rename_i x ys hs
        split at h
        · rename_i zs hz
          have := allD_eq hz
          subst this
          obtain ⟨p, vs, rfl, g1, g2⟩ := S.seq r2 hs
          obtain ⟨⟨f1, f2⟩, hp⟩ := h
          refine opS h1 ⟨p, vs, rfl, g1.symm, flat_v r1 f1, flat_vs g2.toL f2, ?_⟩
          rw [inF_v r1 f1 g2.toL f2]
          exact q.here S hp (rv_bl.mpr rfl)
        · exact h.elim
      · exact h.elim
theorem do_in (hu : X.A.units + 64 < cLine) : DO X (compareOp .In) (oIn false) :=
  do_inN (fun pins s σ H x y v u Q I rx ry h => by
    obtain ⟨p, xs, a1, a2, a3, a4, a5⟩ := h
    exact op_in_seq pins s σ H x y v u Q I rx ry ⟨p, xs, a1, a2, a3, a4, by simpa using a5⟩) (fun pins s σ H x y v u Q I rx ry h => by
    obtain ⟨a, o, rfl, g, h⟩ := h
    obtain rfl : u = Value.ref a := ry
    exact d_in (by omega) I g rx fun s' I' => ⟨.bl o.isSome, H, I', rfl, by simpa using h⟩)
theorem do_notIn (hu : X.A.units + 64 < cLine) : DO X (compareOp .NotIn) (oIn true) :=
  do_inN (fun pins s σ H x y v u Q I rx ry h => by
    obtain ⟨p, xs, a1, a2, a3, a4, a5⟩ := h
    exact op_notIn_seq pins s σ H x y v u Q I rx ry ⟨p, xs, a1, a2, a3, a4, by simpa using a5⟩) (fun pins s σ H x y v u Q I rx ry h => by
    obtain ⟨a, o, rfl, g, h⟩ := h
    obtain rfl : u = Value.ref a := ry
    exact d_notIn (by omega) I g rx fun s' I' => ⟨.bl (!o.isSome), H, I', rfl, by simpa using h⟩)
end
end DL

namespace DL
open PySem PySem.Spec PyProof.Rows L2
variable [Csts]
/-! ### subscripts -/
section
variable {X : Cx} {a b e o : Expr} {fa fb fe fo : ET} {pos : Pos}
/-- a dict's item, as a subscript rule -/
theorem ix_dict (hu : X.A.units + 1 < cLine) : IxR X (fun x y H Q => ∃ d v, x = .ref d ∧ DGet H d y (some v) ∧ Q v H) := by
  intro value slice pins s σ H x y v u Q I rx ry h hs
  obtain ⟨d, z, rfl, g, q⟩ := h
  cases rx
  exact tail_any (dict_typeIs I g) PySem.F.slot_dict_getitem.lookup (d_getItem hu I g ry fun w s' I' r => ⟨z, H, I', r, q⟩) hs
def sIx (X : Cx) (x y : V) (H : Hp) (Q : VK) : Prop := ∀ (value slice : Expr) pins s σ v u, Inv X pins σ H s → RelV x v → RelV y u → subscripted slice false v u = operate [v, u] (getItem v u) → wpAny (model X.prog X.w) X.A (subscriptTail value slice v u) (EP X pins σ Q) X.xe s
theorem ix_s : IxR X (sIx X) := fun value slice pins s σ _ _ _ v u _ I rx ry h hs => h value slice pins s σ v u I rx ry hs
theorem ixS {r : R2} (h : IxR X r) {x y : V} {H : Hp} {Q : VK} (q : r x y H Q) : sIx X x y H Q := fun value slice pins s σ v u I rx ry hs => h value slice pins s σ H x y v u Q I rx ry q hs
/-- a constant dict of the written part: its pairs, by text keys -/
structure KTab (K : PySem.W.Frag) (w : World) (a : Addr) (kvs : List (Str × D)) : Prop where
  at_ : ∀ k d, (k, d) ∈ kvs → ∃ v, KDct K w a k v ∧ ∀ B, Rep K B d v
def oIx : O2 := fun a b M P => match a, b with
  | .d (.dic kvs), k => (match keyD k with
    | some k => (match lookD kvs k with
      | some d => P (.d d) M
      | none => False)
    | none => False)
  | .d (.str s), .d (.int i) => s.length ≤ 100000 ∧ ∃ c, atI s.cps.toList i = some c ∧ P (.d (.str ⟨#[c]⟩)) M
  | a, .d (.int i) => (match seqOf M a with
    | some xs => (match atI xs i with
      | some y => P y M
      | none => False)
    | none => False)
  | .m n, .d (.str s) => (match M[n]? with
    | some (.dic kvs) => (match lookD kvs (.inr s) with
      | some d => P (.d d) M
      | none => False)
    | _ => False)
  | _, _ => False
theorem RepVs.atI {K : PySem.W.Frag} {B : Hp} {L : List Addr} {xs : List DV} {vs : List V} (h : RepVs K B L xs vs) {i : Int} {y : DV} (e : L2.atI xs i = some y) : ∃ v, L2.atI vs i = some v ∧ RepV K B L y v := by
  unfold L2.atI at e ⊢
  rw [← h.len]
  cases q : ixN xs.length i with
  | none =>
    rw [q] at e
    cases e
  | some j =>
    rw [q] at e
    exact h.get e
theorem ix_of {B : Hp} {L : List Addr} {Z : Zs} {M : Mem} {H : Hp} {P : Post} {Q : VK} {d : DV} {i : Int} {u : V} {xs : List DV} {y : DV} (S : StM X.K B L Z M H) (r : RepV X.K B L d u) (hx : seqOf M d = some xs) (hy : L2.atI xs i = some y) (h : P y M) (q : POk X B L Z P Q) : sIx X u (.int i) H Q := by
  obtain ⟨p, vs, rfl, g1, g2⟩ := S.seq r hx
  obtain ⟨v, h1, h2⟩ := g2.atI hy
  refine ixS ix_seq ?_
  rcases g1 with g1 | g1
  · exact .inr (.inl ⟨p, vs, i, v, rfl, rfl, g1, h1, q.here S h h2⟩)
  · exact .inl ⟨p, vs, i, v, rfl, rfl, g1, h1, q.here S h h2⟩
theorem ix_run (hu : X.A.units + 1 < cLine) {d k : DV} {M : Mem} {P : Post} (h : oIx d k M P) {u v : V} {B : Hp} {L : List Addr} {Z : Zs} {H : Hp} (S : StM X.K B L Z M H) (r1 : RepV X.K B L d u) (r2 : RepV X.K B L k v) {Q : VK} (q : POk X B L Z P Q) : sIx X u v H Q := by
  unfold oIx at h
  split at h
  · rename_i kvs k
    split at h
    · rename_i k' hk
      split at h
      · rename_i x hx
        unfold RepV Rep at r1
        obtain ⟨p, ws, rfl, g1, g2⟩ := r1
        rcases g2.val k' with ⟨h3, h4⟩ | ⟨d, w, h3, h4, h5⟩
        · rw [h3] at hx
          cases hx
        · rw [h3] at hx
          cases hx
          exact ixS (ix_dict hu) ⟨p, w, rfl, .inl ⟨ws, k', S.sub.rdK g1, keyD_v r2 hk, h4.symm⟩, q.here S h h5⟩
      · exact h.elim
    · exact h.elim
  · obtain ⟨h1, c, h2, h3⟩ := h
    have e1 := rv_str.mp r1
    have e2 := rv_int.mp r2
    subst e1
    subst e2
    exact ixS ix_str ⟨_, _, c, rfl, rfl, size100 h1, h2, q.here S h3 (rv_str.mpr rfl)⟩
  · split at h
    · rename_i xs hx
      split at h
      · rename_i y hy
        have e2 := rv_int.mp r2
        subst e2
        exact ix_of S r1 hx hy h q
      · exact h.elim
    · exact h.elim
  · split at h
    · rename_i n s _ kvs hk
      split at h
      · rename_i x hx
        have e2 := rv_str.mp r2
        subst e2
        obtain ⟨a, rfl, h2⟩ := r1
        obtain ⟨a', h3, c⟩ := S.at_ hk
        have : a' = a := Option.some.inj (h3.symm.trans h2)
        subst this
        obtain ⟨ws, g1, g2⟩ := c
        rcases g2.val (.inr s) with ⟨h3, h4⟩ | ⟨d, w, h3, h4, h5⟩
        · rw [h3] at hx
          cases hx
        · rw [h3] at hx
          cases hx
          exact ixS (ix_dict hu) ⟨a', w, rfl, .inl ⟨ws, .inr s, .inl g1, rfl, h4.symm⟩, q.here S h h5⟩
      · exact h.elim
    · exact h.elim
  · exact h.elim
def tIx (fa fb : ET) : ET := tBin oIx fa fb
theorem de_ix (hu : X.A.units + 64 < cLine) (ha : DE X a fa) (hb : DE X b fb) (hs : PlainIx b := by exact fun _ _ => rfl) : DE X (.Subscript a b pos) (tBin oIx fa fb) where
  run := fun {ρ M P x} h {σ H B L Z} S E x1 {Q} q => by
    refine PE.s (pe_ix ix_s pe_s pe_s hs) ?_
    refine ha.run h S E x1 fun d M1 v B1 L1 H1 h1 e1 S1 r1 => ?_
    refine hb.run h1 S1 (E.mono e1) (x1.mono e1) fun d2 M2 v2 B2 L2 H2 h2 e2 S2 r2 => ?_
    exact ix_run (by omega) h2 S2 (r1.mono e2) r2 (q.mono (e1.trans e2))
/-- an item of a constant dict -/
def tKd (kvs : List (Str × D)) (fb : ET) : ET := fun ρ M P x => fb ρ M (fun d M1 => match d with
  | .d (.str s) => ∃ z, (s, z) ∈ kvs ∧ P (.d z) M1
  | _ => False) x
theorem de_kd {x : Str} {p : Pos} {ad : Addr} {kvs : List (Str × D)} (T : KTab X.K X.w ad kvs) (hg : Gl X x) (hm : X.mg x = some (.ref ad)) (hb : DE X b fb) (hs : PlainIx b := by exact fun _ _ => rfl) (hd : (x == ("__debug__" : Str)) = false := by decide) : DE X (.Subscript (.Name x p) b pos) (tKd kvs fb) where
  run := fun {ρ M P x} h {σ H B L Z} S E x1 {Q} q => by
    refine PE.s (pe_ix (X := X) ix_s (pe_glob (v := .ref ad) hg hm rfl hd) pe_s hs) ?_
    refine hb.run h S E x1 fun d M1 v B1 L1 H1 h1 e1 S1 r1 => ?_
    dsimp only at h1
    split at h1
    · rename_i s
      obtain ⟨z, hz, hp⟩ := h1
      obtain ⟨v', k1, k2⟩ := T.at_ _ _ hz
      exact ixS ix_kdict ⟨ad, s, v', rfl, rv_str.mp r1, k1, (q.mono e1).here S1 hp (k2 B1)⟩
    · exact h1.elim
/-! ### slices -/
def partOf (d : Option DV) (P : Option Int → Prop) : Prop := match d with
  | none => P none
  | some (.d (.int i)) => P (some i)
  | _ => False
abbrev OT := Rh → Mem → (Option Int → Mem → Prop) → XPost → Prop
def sPO (X : Cx) (e : Option Expr) : L2.TO := fun σ H Q => ∀ pins s, Inv X pins σ H s → wpAny (model X.prog X.w) X.A (evalPart e X.env) (fun u s' => ∃ o H', Inv X pins σ H' s' ∧ IsPart u o ∧ Q o H') X.xe s
theorem po_s {e : Option Expr} : PO X e (sPO X e) := ⟨fun pins s _ _ _ I h => h pins s I⟩
structure DP (X : Cx) (e : Option Expr) (f : OT) : Prop where
  run : ∀ {ρ M P x}, f ρ M P x → ∀ {σ H B L Z}, StM X.K B L Z M H → EnvR X.K B L σ ρ → XOk X B L Z σ x → ∀ {Q : Option Int → Hp → Prop},
    (∀ o M' B' L' H', P o M' → Ext B L B' L' → StM X.K B' L' Z M' H' → Q o H') → sPO X e σ H Q
def tNoP : OT := fun _ M P _ => P none M
def tP (fe : ET) : OT := fun ρ M P x => fe ρ M (fun d M1 => match d with
  | .d (.int i) => P (some i) M1
  | _ => False) x
theorem dp_none : DP X none tNoP where
  run := fun {ρ M P x} h {σ H B L Z} S E x1 {Q} q pins s I => po_none.run pins s σ H Q I (q _ _ _ _ _ h (Ext.refl _ _) S)
theorem dp_some (he : DE X e fe) : DP X (some e) (tP fe) where
  run := fun {ρ M P x} h {σ H B L Z} S E x1 {Q} q pins s I => by
    refine (po_some pe_s).run pins s σ H Q I ?_
    refine he.run h S E x1 fun d M1 v B1 L1 H1 h1 e1 S1 r1 => ?_
    dsimp only at h1
    split at h1
    · exact ⟨_, rv_int.mp r1, q _ _ _ _ _ h1 e1 S1⟩
    · exact h1.elim
/-- the items of a slice -/
def cutD (xs : List D) (lo hi : Option Int) : List D := (xs.drop (HT.sIx xs.length 0 lo)).take (HT.sIx xs.length xs.length hi - HT.sIx xs.length 0 lo)
def oSl (a : DV) (lo hi : Option Int) (M : Mem) (P : Post) : Prop := match a with
  | .d (.tup xs) => P (.d (.tup (cutD xs lo hi))) M
  | .d (.lst xs) => P (.d (.lst (cutD xs lo hi))) M
  | .d (.frl xs) => P (.d (.lst (cutD xs lo hi))) M
  | .m k => (match M[k]? with
    | some (.lst xs) => (match allD xs with
      | some zs => P (.d (.lst (cutD zs lo hi))) M
      | none => False)
    | _ => False)
  | _ => False
def sSl (X : Cx) (x : V) (lo hi : Option Int) (H : Hp) (Q : VK) : Prop := ∀ pins s σ v vl vu sl, Inv X pins σ H s → RelV x v → s.heap.IsSliceOf sl vl vu .none → IsPart vl lo → IsPart vu hi →
  ∃ T id, typeLookup (.type T) "__getitem__" = pure (some (.builtin id)) ∧ s.TypeIs v T ∧ wpAny (model X.prog X.w) X.A (getItem v (.ref sl)) (EP X pins σ Q) X.xe s
theorem sl_s : L2.SlR X (sSl X) := fun pins s σ _ _ v vl vu _ _ sl _ I rx hs pl pu h => h pins s σ v vl vu sl I rx hs pl pu
theorem slS {r : V → Option Int → Option Int → Hp → VK → Prop} (h : L2.SlR X r) {x : V} {lo hi : Option Int} {H : Hp} {Q : VK} (q : r x lo hi H Q) : sSl X x lo hi H Q := fun pins s σ v vl vu sl I rx hs pl pu => h pins s σ H x v vl vu lo hi sl Q I rx hs pl pu q
theorem RepL.take {K : PySem.W.Frag} {B : Hp} {xs : List D} {vs : List V} (h : RepL K B xs vs) (n : Nat) : RepL K B (xs.take n) (vs.take n) := by
  have := (RepL.vs (L := []) h).take n
  rw [← List.map_take] at this
  exact this.toL
theorem RepL.drop {K : PySem.W.Frag} {B : Hp} {xs : List D} {vs : List V} (h : RepL K B xs vs) (n : Nat) : RepL K B (xs.drop n) (vs.drop n) := by
  have := (RepL.vs (L := []) h).drop n
  rw [← List.map_drop] at this
  exact this.toL
theorem RepL.cut {K : PySem.W.Frag} {B : Hp} {xs : List D} {vs : List V} (h : RepL K B xs vs) (lo hi : Option Int) : RepL K B (cutD xs lo hi) (cutV vs lo hi) := by
  unfold cutD cutV
  rw [← h.len]
  exact (h.drop _).take _
def tSl (fe : ET) (fl fh : OT) : ET := fun ρ M P x => fe ρ M (fun d M1 => fl ρ M1 (fun lo M2 => fh ρ M2 (fun hi M3 => oSl d lo hi M3 P) x) x) x
theorem sl_list_of {B : Hp} {L : List Addr} {Z : Zs} {M : Mem} {H : Hp} {P : Post} {Q : VK} {p : Addr} {vs : List V} {xs : List D} {lo hi : Option Int} (S : StM X.K B L Z M H) (g : SqL X.K H p vs) (r : RepL X.K B xs vs) (h : P (.d (.lst (cutD xs lo hi))) M) (q : POk X B L Z P Q) : sSl X (.ref p) lo hi H Q :=
  slS sl_list ⟨p, vs, rfl, g, fun z hz => new_lst S (r.cut lo hi) h q hz⟩
theorem cut_whole {xs : List D} {vs : List V} {K : PySem.W.Frag} {B : Hp} (r : RepL K B xs vs) {lo hi : Option Int} (h : HT.sIx vs.length 0 lo = 0 ∧ HT.sIx vs.length vs.length hi = vs.length) : cutD xs lo hi = xs := by
  unfold cutD
  rw [r.len, h.1, h.2]
  simp only [List.drop_zero, Nat.sub_zero]
  rw [← r.len]
  exact List.take_length
theorem de_sl {lo hi : Option Expr} {fl fh : OT} {p2 : Pos} (he : DE X e fe) (hl : DP X lo fl) (hh : DP X hi fh) : DE X (.Subscript e (.Slice lo hi none p2) pos) (tSl fe fl fh) where
  run := fun {ρ M P x} h {σ H B L Z} S E x1 {Q} q => by
    refine PE.s (pe_slice sl_s pe_s po_s po_s) ?_
    refine he.run h S E x1 fun d M1 v B1 L1 H1 h1 e1 S1 r1 => ?_
    refine hl.run h1 S1 (E.mono e1) (x1.mono e1) fun lo' M2 B2 L2 H2 h2 e2 S2 => ?_
    refine hh.run h2 S2 (E.mono (e1.trans e2)) (x1.mono (e1.trans e2)) fun hi' M3 B3 L3 H3 h3 e3 S3 => ?_
    have r3 := r1.mono (e2.trans e3)
    have q3 := q.mono ((e1.trans e2).trans e3)
    unfold oSl at h3
    split at h3
    · rename_i xs
      have r4 := r3
      unfold RepV Rep at r3
      obtain ⟨p, vs, rfl, g1, g2⟩ := r3
      refine slS sl_tupA ⟨p, vs, rfl, S3.sub.t g1, fun hw => ?_, fun _ z hz => new_tup S3 (g2.cut lo' hi') h3 q3 hz⟩
      rw [cut_whole g2 hw] at h3
      exact q3.here S3 h3 r4
    · unfold RepV Rep at r3
      obtain ⟨p, vs, rfl, g1, g2⟩ := r3
      exact sl_list_of S3 (S3.sub.l (.inl (.inl g1))) g2 h3 q3
    · unfold RepV Rep at r3
      obtain ⟨p, vs, rfl, g1, g2⟩ := r3
      exact sl_list_of S3 (S3.sub.l g1) g2 h3 q3
    · split at h3
      · rename_i k xs hk
        split at h3
        · rename_i zs hz
          have := allD_eq hz
          subst this
          obtain ⟨p, vs, rfl, g1, g2⟩ := S3.lst r3 hk
          exact sl_list_of S3 (.inl (.inl g1)) g2.toL h3 q3
        · exact h3.elim
      · exact h3.elim
    · exact h3.elim
/-! ### o[i] = v -/
def gSub (fo fi : ET) : GT := fun v ρ M N => fo ρ M (fun o M1 => fi ρ M1 (fun i M2 => match o, i with
  | .m k, .d (.int i) => (match M2[k]? with
    | some (.lst xs) => (match ixN xs.length i with
      | some j => N ρ (M2.set k (.lst (xs.set j v)))
      | none => False)
    | _ => False)
  | _, _ => False) (fun _ _ _ => False)) (fun _ _ _ => False)
theorem StM.putL {K : PySem.W.Frag} {B : Hp} {L : List Addr} {Z : Zs} {M : Mem} {H : Hp} (S : StM K B L Z M H) {k : Nat} {a : Addr} {xs : List DV} {vs : List V} (hk : L[k]? = some a) {ys : List DV} (h0 : M[k]? = some (.lst ys)) (r : RepVs K B L xs vs) : StM K B L Z (M.set k (.lst xs)) (upd H a (.lst vs)) :=
  S.put hk h0 rfl ⟨vs, upd_same, r⟩
theorem dg_sub {i : Expr} {fi : ET} (ho : DE X o fo) (hi : DE X i fi) (hn : ∃ W, Takes X W := by first | exact ⟨_, takes_of rfl rfl rfl rfl⟩ | exact ⟨_, by assumption⟩ | exact ⟨_, takes0⟩) (ha : ∀ v, assign (.Subscript o i pos) X.env v = (do
      let ov ← holding [v] (eval o X.env)
      let iv ← holding [v, ov] (eval i X.env)
      standAt pos
      holding [v, ov, iv] (setItem ov iv v)
      release [v, ov, iv] []) := by intro _; rfl) : DG X (.Subscript o i pos) (gSub fo fi) where
  run := fun {x ρ M N} h {v σ H B L Z} S V r {N'} l => by
    obtain ⟨W, tk⟩ := hn
    have nx : ∀ {B L}, XOk X B L Z σ (fun _ _ _ => False) := ⟨W, tk, fun _ _ _ _ _ _ _ h => h.elim⟩
    refine PG.s (pg_sub pe_s pe_s set_list ha) ?_
    refine ho.run h S V nx fun d M1 v1 B1 L1 H1 h1 e1 S1 r1 => ?_
    refine hi.run h1 S1 (V.mono e1) nx fun d2 M2 v2 B2 L2 H2 h2 e2 S2 r2 => ?_
    dsimp only at h2
    split at h2
    · rename_i k i
      split at h2
      · rename_i xs hk
        split at h2
        · rename_i j hj
          have e := rv_int.mp r2
          subst e
          obtain ⟨a, rfl, h3⟩ := r1.mono e2
          obtain ⟨a', h4, c⟩ := S2.at_ hk
          have : a' = a := Option.some.inj (h4.symm.trans h3)
          subst this
          obtain ⟨vs, g1, g2⟩ := c
          refine ⟨a', vs, i, j, rfl, rfl, g1, by rw [← g2.len]; exact hj, ?_⟩
          have e12 := e1.trans e2
          exact l _ _ _ _ _ _ h2 e12 (S2.putL h4 hk (g2.set (r.mono e12) j)) (V.mono e12)
        · exact h2.elim
      · exact h2.elim
    · exact h2.elim
/-! ### dicts -/
def putD (kvs : List (Key × D)) (k : Key) (v : D) : List (Key × D) :=
  if (kvs.any fun kv => decide (kv.1 = k)) = true then kvs.map (fun kv => if kv.1 = k then (kv.1, v) else kv) else kvs ++ [(k, v)]
theorem RepK.any {K : PySem.W.Frag} {B : Hp} (k : Key) : ∀ {kvs : List (Key × D)} {ws : List (Key × V)}, RepK K B kvs ws → (kvs.any fun kv => decide (kv.1 = k)) = (ws.any fun kv => decide (kv.1 = k))
  | [], [], _ => rfl
  | (a, x) :: kvs, (b, v) :: ws, h => by
    unfold RepK at h
    rw [List.any_cons, List.any_cons, RepK.any k h.2.2, h.1]
  | [], _ :: _, h => by unfold RepK at h; exact h.elim
  | (_, _) :: _, [], h => by unfold RepK at h; exact h.elim
theorem RepK.repl {K : PySem.W.Frag} {B : Hp} (k : Key) {d : D} {u : V} (r : Rep K B d u) : ∀ {kvs : List (Key × D)} {ws : List (Key × V)}, RepK K B kvs ws → RepK K B (kvs.map fun kv => if kv.1 = k then (kv.1, d) else kv) (ws.map fun kv => if kv.1 = k then (kv.1, u) else kv)
  | [], [], _ => by simp only [List.map_nil]; unfold RepK; trivial
  | (a, x) :: kvs, (b, v) :: ws, h => by
    unfold RepK at h
    obtain ⟨rfl, h1, h2⟩ := h
    simp only [List.map_cons]
    by_cases e : a = k
    · rw [if_pos e, if_pos e]
      unfold RepK
      exact ⟨rfl, r, RepK.repl k r h2⟩
    · rw [if_neg e, if_neg e]
      unfold RepK
      exact ⟨rfl, h1, RepK.repl k r h2⟩
  | [], _ :: _, h => by unfold RepK at h; exact h.elim
  | (_, _) :: _, [], h => by unfold RepK at h; exact h.elim
theorem RepK.snoc {K : PySem.W.Frag} {B : Hp} (k : Key) {d : D} {u : V} (r : Rep K B d u) : ∀ {kvs : List (Key × D)} {ws : List (Key × V)}, RepK K B kvs ws → RepK K B (kvs ++ [(k, d)]) (ws ++ [(k, u)])
  | [], [], _ => by simp only [List.nil_append]; unfold RepK; exact ⟨rfl, r, by unfold RepK; trivial⟩
  | (a, x) :: kvs, (b, v) :: ws, h => by
    unfold RepK at h
    simp only [List.cons_append]
    unfold RepK
    exact ⟨h.1, h.2.1, RepK.snoc k r h.2.2⟩
  | [], _ :: _, h => by unfold RepK at h; exact h.elim
  | (_, _) :: _, [], h => by unfold RepK at h; exact h.elim
theorem RepK.put {K : PySem.W.Frag} {B : Hp} (k : Key) {d : D} {u : V} (r : Rep K B d u) {kvs : List (Key × D)} {ws : List (Key × V)} (h : RepK K B kvs ws) : RepK K B (putD kvs k d) (putK ws k u) := by
  unfold putD putK
  rw [h.any k]
  split
  · exact h.repl k r
  · exact h.snoc k r
theorem RepK.len {K : PySem.W.Frag} {B : Hp} : ∀ {kvs : List (Key × D)} {ws : List (Key × V)}, RepK K B kvs ws → kvs.length = ws.length
  | [], [], _ => rfl
  | (_, _) :: _, (_, _) :: _, h => by
    unfold RepK at h
    simp [RepK.len h.2.2]
  | [], _ :: _, h => by unfold RepK at h; exact h.elim
  | (_, _) :: _, [], h => by unfold RepK at h; exact h.elim
/-- d[k] = v -/
def sDput (fo fi fv : ET) : ST := fun E ρ M => fv ρ M (fun v M1 => fo ρ M1 (fun o M2 => fi ρ M2 (fun i M3 => match o, keyD i, v with
  | .m n, some k, .d z => (match M3[n]? with
    | some (.dic kvs) => kvs.length < 100000 ∧ E.nx ρ (M3.set n (.dic (putD kvs k z)))
    | _ => False)
  | _, _, _ => False) (xS E ρ)) (xS E ρ)) (xS E ρ)
theorem ds_dput {i value : Expr} {fi fv : ET} {pos' : Pos} (hu : X.A.units + 64 < cLine) (ho : DE X o fo) (hi : DE X i fi) (hv : DE X value fv) (hs : swapsWith value (some (.Subscript o i pos')) pos.line X.env = pure false := by rfl)
    (hn : NoSl i := by exact fun _ _ => rfl) : DS X (.Assign [.Subscript o i pos'] value pos) (sDput fo fi fv) where
  run := fun {E ρ M} h {σ H B L Z} S V {F} l => by
    refine PS.s (ps_dput (by omega) pe_s pe_s pe_s hs) ?_
    refine hv.run h S V (l.ex.at_ V) fun v M1 vv B1 L1 H1 h1 e1 S1 r1 => ?_
    refine ho.run h1 S1 (V.mono e1) ((l.mono e1).ex.at_ (V.mono e1)) fun d M2 vo B2 L2 H2 h2 e2 S2 r2 => ?_
    refine hi.run h2 S2 (V.mono (e1.trans e2)) ((l.mono (e1.trans e2)).ex.at_ (V.mono (e1.trans e2))) fun d3 M3 vi B3 L3 H3 h3 e3 S3 r3 => ?_
    dsimp only at h3
    split at h3
    · rename_i n k z hk
      split at h3
      · rename_i kvs hn
        obtain ⟨a, rfl, g3⟩ := r2.mono e3
        obtain ⟨a', g4, c⟩ := S3.at_ hn
        have : a' = a := Option.some.inj (g4.symm.trans g3)
        subst this
        obtain ⟨ws, g1, g2⟩ := c
        have e := (e1.trans e2).trans e3
        have rz : Rep X.K B3 z vv := (r1.mono (e2.trans e3) : RepV X.K B3 L3 (.d z) vv)
        refine ⟨a', _, rfl, .inl ⟨ws, k, g1, keyD_v r3 hk, by rw [← g2.len]; exact size_lt h3.1, rfl⟩, ?_⟩
        exact l.nx _ _ _ _ _ _ h3.2 e (S3.put g4 hn rfl ⟨_, upd_same, g2.put k rz⟩) (V.mono e)
      · exact h3.elim
    · exact h3.elim
/-- {} that will change; as data -/
def tDnewM : ET := fun _ M P _ => P (.m M.length) (M ++ [.dic []])
theorem de_dnewM : DE X (.Dict [] [] pos) tDnewM where
  run := fun {ρ M P x} h {σ H B L Z} S E x1 {Q} q => by
    refine PE.s pe_dnewK fun p hp => ?_
    obtain ⟨S2, e2⟩ := S.newM (o := .dK []) (m := .dic []) hp ⟨[], upd_same, by unfold RepK; trivial⟩
    refine q _ _ _ _ _ _ h e2 S2 ⟨p, rfl, ?_⟩
    rw [← S.len]
    simp
def tDnew : ET := fun _ M P _ => P (.d (.dic [])) M
theorem de_dnew : DE X (.Dict [] [] pos) tDnew where
  run := fun {ρ M P x} h {σ H B L Z} S E x1 {Q} q => by
    refine PE.s pe_dnewK fun p hp => ?_
    obtain ⟨S2, e2⟩ := S.newD (o := .dK []) hp
    refine q _ _ _ _ _ _ h e2 S2 ?_
    unfold RepV Rep
    exact ⟨p, [], rfl, .inl upd_same, by unfold RepK; trivial⟩
end
end DL

namespace DL
open PySem PySem.Spec PyProof.Rows L2
variable [Csts]
/-! ### attributes -/
section
variable {X : Cx} {e o value : Expr} {fe fo fv : ET} {f : Str} {pos pos' : Pos}
/-- what a class's layout must have -/
structure ClsOk (K : PySem.W.Frag) (T : ClsT) : Prop where
  cls : Cls K T.C
  nd : T.ns.Nodup
  no : ∀ f ∈ T.ns, NoAttr K T.C f
def fldD (T : ClsT) (j : Nat) (d : DV) (M : Mem) (P : Post) : Prop := match d with
  | .d (.obj T' fs) => T' = T ∧ (match fs[j]? with
    | some y => P (.d y) M
    | none => False)
  | .m k => (match M[k]? with
    | some (.ins T' fs) => T' = T ∧ (match fs[j]? with
      | some y => P y M
      | none => False)
    | _ => False)
  | _ => False
theorem lookup_at : ∀ {gs : List (Str × V)} {j : Nat} {f : Str} {v : V}, (gs.map (·.1))[j]? = some f → (gs.map (·.2))[j]? = some v → (gs.map (·.1)).Nodup → gs.lookup f = some v
  | [], _, _, _, h, _, _ => by simp at h
  | (g, x) :: r, 0, f, v, h1, h2, _ => by
    simp at h1 h2
    subst h1
    subst h2
    simp [List.lookup]
  | (g, x) :: r, j + 1, f, v, h1, h2, nd => by
    simp only [List.map_cons, List.getElem?_cons_succ] at h1 h2
    rw [List.map_cons, List.nodup_cons] at nd
    have hne : ¬ f = g := fun q => nd.1 (q ▸ List.mem_of_getElem? h1)
    have : (f == g) = false := by simpa using hne
    simp only [List.lookup, this]
    exact lookup_at h1 h2 nd.2
theorem take_get {α : Type} {l : List α} {n j : Nat} {f : α} (h : l[j]? = some f) (hj : j < n) : (l.take n)[j]? = some f := by
  rw [List.getElem?_take, if_pos hj]
  exact h
theorem fld_run {T : ClsT} {j : Nat} (c : ClsOk X.K T) (hf : T.ns[j]? = some f) {d : DV} {M : Mem} {P : Post} (h : fldD T j d M P) {v : V} {B : Hp} {L : List Addr} {Z : Zs} {H : Hp} (S : StM X.K B L Z M H) (r : RepV X.K B L d v) {Q : VK} (q : POk X B L Z P Q) :
    ∃ a C dx fs w, v = .ref a ∧ H a = some (.ins C dx fs) ∧ Cls X.K C ∧ NoAttr X.K C f ∧ fs.lookup f = some w ∧ Q w H := by
  have hm : f ∈ T.ns := List.mem_of_getElem? hf
  unfold fldD at h
  split at h
  · obtain ⟨rfl, h⟩ := h
    split at h
    · rename_i y hy
      unfold RepV Rep at r
      obtain ⟨a, dx, gs, rfl, g1, g2, g3⟩ := r
      obtain ⟨w, h1, h2⟩ := (g3.vs (L := L)).get (i := j) (x := .d y) (by rw [List.getElem?_map, hy]; rfl)
      exact ⟨a, _, dx, gs, w, rfl, S.sub.eq g1, c.cls, c.no f hm, lookup_at (j := j) (by rw [g2]; exact hf) h1 (by rw [g2]; exact c.nd), q.here S h h2⟩
    · exact h.elim
  · split at h
    · rename_i k T' fs hk
      obtain ⟨rfl, h⟩ := h
      split at h
      · rename_i y hy
        obtain ⟨a, rfl, h2⟩ := r
        obtain ⟨a', h3, cell⟩ := S.at_ hk
        have : a' = a := Option.some.inj (h3.symm.trans h2)
        subst this
        obtain ⟨dx, gs, g1, g2, g3, g4⟩ := cell
        obtain ⟨w, h4, h5⟩ := g4.get hy
        have hj : j < fs.length := (List.getElem?_eq_some_iff.mp hy).1
        refine ⟨a', _, dx, gs, w, rfl, g1, c.cls, c.no f hm, lookup_at (j := j) (by rw [g2]; exact take_get hf hj) h4 ?_, q.here S h h5⟩
        rw [g2]
        exact c.nd.sublist (List.take_sublist _ _)
      · exact h.elim
    · exact h.elim
  · exact h.elim
def tFld (T : ClsT) (j : Nat) (fe : ET) : ET := fun ρ M P x => fe ρ M (fun d M1 => fldD T j d M1 P) x
theorem de_fld (T : ClsT) (j : Nat) (c : ClsOk X.K T) (he : DE X e fe) (hf : T.ns[j]? = some f := by rfl) (hb : attributeBase e f X.env (eval e X.env) = eval e X.env := by rfl) : DE X (.Attribute e f pos) (tFld T j fe) where
  run := fun {ρ M P x} h {σ H B L Z} S E x1 {Q} q => by
    refine PE.s (pe_fld pe_s hb) ?_
    refine he.run h S E x1 fun d M1 v B1 L1 H1 h1 e1 S1 r1 => ?_
    exact fld_run c hf h1 S1 r1 (q.mono e1)
theorem putF_at (y : V) : ∀ {gs : List (Str × V)} {j : Nat} {f : Str}, (gs.map (·.1))[j]? = some f → (gs.map (·.1)).Nodup → putF f y gs = gs.set j (f, y)
  | [], _, _, h, _ => by simp at h
  | (g, x) :: r, 0, f, h, _ => by
    simp at h
    subst h
    simp [putF]
  | (g, x) :: r, j + 1, f, h, nd => by
    simp only [List.map_cons, List.getElem?_cons_succ] at h
    rw [List.map_cons, List.nodup_cons] at nd
    have hne : ¬ g = f := fun q => nd.1 (q ▸ List.mem_of_getElem? h)
    unfold putF
    rw [if_neg hne, putF_at y h nd.2]
    rfl
theorem putF_new (y : V) : ∀ {gs : List (Str × V)} {f : Str}, f ∉ gs.map (·.1) → putF f y gs = gs ++ [(f, y)]
  | [], _, _ => rfl
  | (g, x) :: r, f, h => by
    simp only [List.map_cons, List.mem_cons, not_or] at h
    unfold putF
    rw [if_neg (fun q : g = f => h.1 q.symm), putF_new y h.2]
    rfl
theorem set_self {α : Type} : ∀ {l : List α} {j : Nat} {x : α}, l[j]? = some x → l.set j x = l
  | [], _, _, h => by simp at h
  | y :: r, 0, x, h => by
    simp at h
    subst h
    rfl
  | y :: r, j + 1, x, h => by
    simp only [List.getElem?_cons_succ] at h
    rw [List.set_cons_succ, set_self h]
/-- the fields behind a store -/
def setF (fs : List DV) (j : Nat) (y : DV) : Option (List DV) := if j < fs.length then some (fs.set j y) else if j = fs.length then some (fs ++ [y]) else none
def sFldD (T : ClsT) (j : Nat) (fo fv : ET) : ST := fun E ρ M => fv ρ M (fun y M1 => fo ρ M1 (fun d M2 => match d with
  | .m k => (match M2[k]? with
    | some (.ins T' fs) => T' = T ∧ (match setF fs j y with
      | some gs => E.nx ρ (M2.set k (.ins T gs))
      | none => False)
    | _ => False)
  | _ => False) (xS E ρ)) (xS E ρ)
theorem RepVs.snoc {K : PySem.W.Frag} {B : Hp} {L : List Addr} {xs : List DV} {vs : List V} {y : DV} {u : V} (h : RepVs K B L xs vs) (r : RepV K B L y u) : RepVs K B L (xs ++ [y]) (vs ++ [u]) := h.app ⟨r, trivial⟩
theorem ds_fld (T : ClsT) (j : Nat) (c : ClsOk X.K T) (ho : DE X o fo) (hv : DE X value fv) (hf : T.ns[j]? = some f := by rfl) (hl : T.ns.length < 900 := by first | decide | exact of_decide_eq_true rfl) (hs : swapsWith value (some (.Attribute o f pos')) pos.line X.env = pure false := by rfl) : DS X (.Assign [.Attribute o f pos'] value pos) (sFldD T j fo fv) where
  run := fun {E ρ M} h {σ H B L Z} S V {F} l => by
    refine PS.s (ps_fld pe_s pe_s hs) ?_
    refine hv.run h S V (l.ex.at_ V) fun y M1 u B1 L1 H1 h1 e1 S1 r1 => ?_
    refine ho.run h1 S1 (V.mono e1) ((l.mono e1).ex.at_ (V.mono e1)) fun d M2 v B2 L2 H2 h2 e2 S2 r2 => ?_
    dsimp only at h2
    split at h2
    · rename_i k
      split at h2
      · rename_i T' fs hk
        obtain ⟨rfl, h2⟩ := h2
        obtain ⟨a, rfl, h3⟩ := r2
        obtain ⟨a', h4, cell⟩ := S2.at_ hk
        have : a' = a := Option.some.inj (h4.symm.trans h3)
        subst this
        obtain ⟨dx, gs, g1, g2, g3, g4⟩ := cell
        have hlen := g4.len
        simp at hlen
        have e := e1.trans e2
        refine ⟨a', _, dx, gs, rfl, g1, c.cls, c.no f (List.mem_of_getElem? hf), by omega, ?_⟩
        split at h2
        · rename_i ys hy
          refine l.nx _ _ _ _ _ _ h2 e (S2.put h4 hk rfl ?_) (V.mono e)
          have ry := r1.mono e2
          unfold setF at hy
          split at hy
          · rename_i hj
            cases hy
            have hg : (gs.map (·.1))[j]? = some f := by rw [g2]; exact take_get hf hj
            have hnd : (gs.map (·.1)).Nodup := by rw [g2]; exact c.nd.sublist (List.take_sublist _ _)
            rw [putF_at u hg hnd]
            refine ⟨dx, _, upd_same, ?_, by simpa using g3, ?_⟩
            · rw [List.map_set, List.length_set, ← g2]
              exact set_self hg
            · rw [List.map_set]
              exact g4.set ry j
          · split at hy
            · rename_i hj hj2
              subst hj2
              cases hy
              have hlt : fs.length < T'.ns.length := (List.getElem?_eq_some_iff.mp hf).1
              have hnew : f ∉ gs.map (·.1) := by
                rw [g2]
                intro hm
                obtain ⟨i, hi⟩ := List.getElem?_of_mem hm
                rw [List.getElem?_take] at hi
                split at hi
                · rename_i hi2
                  have h1 := (List.getElem?_inj (by omega : i < T'.ns.length) c.nd).mp (hi.trans hf.symm)
                  omega
                · cases hi
              rw [putF_new u hnew]
              refine ⟨dx, _, upd_same, ?_, by rw [List.length_append]; exact hlt, ?_⟩
              · rw [List.map_append, g2, List.length_append]
                show _ = List.take (fs.length + 1) T'.ns
                rw [List.take_add_one, hf]
                rfl
              · rw [List.map_append]
                exact g4.snoc ry
            · cases hy
        · exact h2.elim
      · exact h2.elim
    · exact h2.elim

/-! ### methods of the text's classes -/
/-- an object of the class -/
def isObjD (T : ClsT) (d : DV) (M : Mem) : Prop := match d with
  | .d (.obj T' _) => T' = T
  | .m k => (match M[k]? with
    | some (.ins T' _) => T' = T
    | _ => False)
  | _ => False
theorem lookup_out : ∀ {gs : List (Str × V)} {m : Str}, m ∉ gs.map (·.1) → gs.lookup m = none
  | [], _, _ => rfl
  | (g, x) :: r, m, h => by
    simp only [List.map_cons, List.mem_cons, not_or] at h
    have : (m == g) = false := by simpa using h.1
    simp only [List.lookup, this]
    exact lookup_out h.2
theorem isObj_run {T : ClsT} {d : DV} {M : Mem} (h : isObjD T d M) {m : Str} (hm : m ∉ T.ns) {v : V} {B : Hp} {L : List Addr} {Z : Zs} {H : Hp} (S : StM X.K B L Z M H) (r : RepV X.K B L d v) : ∃ a dx fs, v = .ref a ∧ H a = some (.ins T.C dx fs) ∧ fs.lookup m = none := by
  unfold isObjD at h
  split at h
  · subst h
    unfold RepV Rep at r
    obtain ⟨a, dx, gs, rfl, g1, g2, g3⟩ := r
    exact ⟨a, dx, gs, rfl, S.sub.eq g1, lookup_out (by rw [g2]; exact hm)⟩
  · split at h
    · rename_i k T' fs hk
      subst h
      obtain ⟨a, rfl, h2⟩ := r
      obtain ⟨a', h3, cell⟩ := S.at_ hk
      have : a' = a := Option.some.inj (h3.symm.trans h2)
      subst this
      obtain ⟨dx, gs, g1, g2, g3, g4⟩ := cell
      exact ⟨a', dx, gs, rfl, g1, lookup_out (by rw [g2]; exact fun q => hm (List.mem_of_mem_take q))⟩
    · exact h.elim
  · exact h.elim
variable {k : Nat} {g : Addr} {fd : FuncData} {ps : List Str} {dsp : DSp} {m : Str} {apos : Pos} {es : List Expr} {fas : AT}
def tMeth (T : ClsT) (dsp : DSp) (fo : ET) (fas : AT) : ET := fun ρ M P x => fo ρ M (fun d M1 => isObjD T d M1 ∧ fas ρ M1 (fun ds M2 => dsp (d :: ds) M2 P x) x) x
theorem de_meth (T : ClsT) {pl : Sem Bool} (ho : DE X o fo) (c : Cls X.K T.C) (hm : Meth X.K T.C m g) (F : FnOk X.prog X.w X.K X.mg X.base (L2.CX X.prog X.w) k g fd ps (Up X.K dsp)) (hr : Room k X.A) (hb : Binds X.K fd ps []) (ha : DA X (e :: es) fas) (hnm : m ∉ T.ns := by first | decide | exact of_decide_eq_true rfl)
    (hst : starEach (e :: es) X.env = (false, eval e X.env) :: starEach es X.env := by rfl) (hpl : (backTo pos (starEach es X.env)).any (·.1) = false := by rfl)
    (ht : eval (.Call (.Attribute o m apos) (e :: es) [] pos) X.env = (do
      let ov ← eval o X.env
      standAt apos.atName
      let (f, first) ← holding [ov] (getMethod ov m pl)
      callWith pos f first (backTo pos (starEach (e :: es) X.env)) (backToKw pos (keywordEach [] X.env))) := by rfl) : DE X (.Call (.Attribute o m apos) (e :: es) [] pos) (tMeth T dsp fo fas) where
  run := fun {ρ M P x} h {σ H B L Z} S E x1 {Q} q => by
    obtain ⟨W, tk, hW⟩ := x1
    intro pins s I
    refine PySem.W.methodCall_KW (pl := pl) (thn (ho.run h S E ⟨W, tk, hW⟩ (Q := fun x H1 => ∃ a dx fs, x = .ref a ∧ H1 a = some (.ins T.C dx fs) ∧ fs.lookup m = none ∧ sA X (e :: es) σ H1 fun vs H2 => Up X.K dsp (.ref a :: vs) H2 Q (WE W σ)) ?_ pins s I) fun u s1 hh => ?_) ht
    · intro d M1 v B1 L1 H1 h1 e1 S1 r1
      obtain ⟨a, dx, fs, rfl, g1, g2⟩ := isObj_run h1.1 hnm S1 r1
      refine ⟨a, dx, fs, rfl, g1, g2, ?_⟩
      refine ha.run h1.2 S1 (E.mono e1) ⟨W, tk, fun cls fs M' d B' L' H' a b => hW cls fs M' d B' L' H' a (e1.trans b)⟩ fun ds M2 vs B2 L2 H2 h2 e2 S2 r2 => ?_
      exact callOk S2 (show RepVs X.K B2 L2 (d :: ds) (.ref a :: vs) from ⟨r1.mono e2, r2⟩) h2 (q.mono (e1.trans e2)) fun cls fs M' d B' L' H' a b => hW cls fs M' d B' L' H' a ((e1.trans e2).trans b)
    · obtain ⟨v, H1, I1, rv, a, dx, fs, ev, g1, g2, q2⟩ := hh
      subst ev
      cases rv
      refine getmeth_ok I1 g1 c hm g2 ?_
      refine PySem.W.callWith_K (first := [.ref a]) (h₀ := X.base) I.ok.mod.kin hm.kp (thn (q2 pos pins s1 I1) fun us s2 h2 => ?_) hst hpl
      obtain ⟨vs, H2, I2, rs, q3⟩ := h2
      exact ⟨I2.kIn, run_fnSD (us := .ref a :: us) (vs := .ref a :: vs) (dvs := []) (ds := []) (E := WE W) F hr hb .nil (passAt tk σ) I2 (.cons rfl rs) (by simpa using q3)⟩
theorem de_meth0 (T : ClsT) {pl : Sem Bool} (ho : DE X o fo) (c : Cls X.K T.C) (hm : Meth X.K T.C m g) (F : FnOk X.prog X.w X.K X.mg X.base (L2.CX X.prog X.w) k g fd ps (Up X.K dsp)) (hr : Room k X.A) (hb : Binds X.K fd ps []) (hnm : m ∉ T.ns := by first | decide | exact of_decide_eq_true rfl)
    (ht : eval (.Call (.Attribute o m apos) [] [] pos) X.env = (do
      let ov ← eval o X.env
      standAt apos.atName
      let (f, first) ← holding [ov] (getMethod ov m pl)
      callWith pos f first (backTo pos (starEach [] X.env)) (backToKw pos (keywordEach [] X.env))) := by rfl) : DE X (.Call (.Attribute o m apos) [] [] pos) (tMeth T dsp fo tNil) where
  run := fun {ρ M P x} h {σ H B L Z} S E x1 {Q} q => by
    obtain ⟨W, tk, hW⟩ := x1
    intro pins s I
    refine PySem.W.methodCall_KW (pl := pl) (thn (ho.run h S E ⟨W, tk, hW⟩ (Q := fun x H1 => ∃ a dx fs, x = .ref a ∧ H1 a = some (.ins T.C dx fs) ∧ fs.lookup m = none ∧ Up X.K dsp [.ref a] H1 Q (WE W σ)) ?_ pins s I) fun u s1 hh => ?_) ht
    · intro d M1 v B1 L1 H1 h1 e1 S1 r1
      obtain ⟨a, dx, fs, rfl, g1, g2⟩ := isObj_run h1.1 hnm S1 r1
      refine ⟨a, dx, fs, rfl, g1, g2, ?_⟩
      exact callOk S1 (show RepVs X.K B1 L1 [d] [.ref a] from ⟨r1, trivial⟩) h1.2 (q.mono e1) fun cls fs M' d B' L' H' a b => hW cls fs M' d B' L' H' a (e1.trans b)
    · obtain ⟨v, H1, I1, rv, a, dx, fs, ev, g1, g2, q2⟩ := hh
      subst ev
      cases rv
      refine getmeth_ok I1 g1 c hm g2 ?_
      refine PySem.W.callWith_K0 (first := [.ref a]) I1.kIn hm.kp ?_
      exact run_fnSD (us := [.ref a]) (vs := [.ref a]) (dvs := []) (ds := []) (E := WE W) F hr hb .nil (passAt tk σ) I1 (.cons rfl .nil) (by simpa using q2)
/-! ### C(e, ..) -/
variable {x : Str} {p : Pos}
theorem madeS {T : ClsT} {B : Hp} {L : List Addr} {Z : Zs} {M : Mem} {H : Hp} (S : StM X.K B L Z M H) {a dx : Addr} (ha : H a = none) (hd : H dx = none) (hne : dx ≠ a) : StM X.K B (L ++ [a]) Z (M ++ [.ins T []]) (upd (upd H dx (.own a)) a (.ins T.C dx [])) ∧ Ext B L B (L ++ [a]) := by
  have S1 : StM X.K B L ((dx, .own a) :: Z) M (upd H dx (.own a)) := S.newZ hd
  exact (StM.newM (m := .ins T []) S1 (by rw [upd_ne hne.symm]; exact ha) ⟨dx, [], upd_same, by simp, by simp, trivial⟩).imp (fun x => x.z) id
theorem make_at {T : ClsT} {fI : Addr} {W : WX} {pins : List (Addr × Obj)} {σ : L2.St} {H : Hp} {s : Shared} {Q : VK} {us : List Value} {vs : List V} {sp : Sp} (N : Mk X.K T.C fI) (F : FnOk X.prog X.w X.K X.mg X.base (L2.CX X.prog X.w) k fI fd ps sp) (hr : Room (k + 1) X.A) (hb : Binds X.K fd ps [])
    (tk : Takes X W) (I : Inv X pins σ H s) (r : Vals vs us)
    (h : ∀ a dx, H a = none → H dx = none → dx ≠ a → sp (.ref a :: vs) (upd (upd H dx (.own a)) a (.ins T.C dx [])) (fun v H2 => v = .non ∧ Q (.ref a) H2) (WE W σ)) : wpAny (model X.prog X.w) X.A (call (.ref T.C) us) (EP X pins σ Q) X.xe s := by
  have hq := h _ _ (I.hok.fresh (Nat.le_succ _)) (I.hok.fresh (Nat.le_refl _)) (Nat.ne_of_lt (Nat.lt_succ_self _))
  have J := Inv.made (C := T.C) I
  have rr : Vals (V.ref (s.heap.objs.size + 1) :: vs) (Value.ref (s.heap.objs.size + 1) :: us) := .cons rfl r
  have hl : (Value.ref (s.heap.objs.size + 1) :: us ++ []).length = ps.length := by
    rw [List.append_nil, ← rr.length]
    exact F.len _ _ _ _ hq
  have hbind := hb _ (Value.ref (s.heap.objs.size + 1) :: us) J.kIn hl
  rw [List.append_nil] at hbind
  refine wpAny_call (make_map (f := fI) I.kIn N.makes N.init (beq_iff_eq.mp N.fn) (codeAny_mono (F.run _ X.stack _ _ _ _ _ _ _ (hr.make T.C us []) (J.env0.make T.C us []) hbind rr hq) fun res s' hres => ?_))
  match res, hres with
  | .error e, hres => exact tk e s' (XE.of_call J (fun _ _ _ z => z) hres)
  | .ok (.ret u), hres =>
    obtain ⟨v, H', J3, rv, ev, q3⟩ := J.after hres
    subst ev
    exact ⟨rv, ⟨.ref (s.heap.objs.size + 1), H', J3, rfl, q3⟩⟩
def tMake (T : ClsT) (dsp : DSp) (fas : AT) : ET := fun ρ M P x => fas ρ M (fun ds M1 => dsp (.m M1.length :: ds) (M1 ++ [.ins T []]) (fun d M2 => isNonD d = true ∧ P (.m M1.length) M2) (fun c fs M2 => x c fs M2)) x
theorem de_make (T : ClsT) {fI : Addr} (N : Mk X.K T.C fI) (F : FnOk X.prog X.w X.K X.mg X.base (L2.CX X.prog X.w) k fI fd ps (Up X.K dsp)) (hr : Room (k + 1) X.A) (hg : Gl X x) (hm : X.mg x = some (.ref T.C)) (hb : Binds X.K fd ps []) (ha : DA X (e :: es) fas)
    (hdb : (x == ("__debug__" : Str)) = false := by decide) (he : starEach (e :: es) X.env = (false, eval e X.env) :: starEach es X.env := by rfl) (hpl : (backTo pos (starEach es X.env)).any (·.1) = false := by rfl) : DE X (.Call (.Name x p) (e :: es) [] pos) (tMake T dsp fas) where
  run := fun {ρ M P x} h {σ H B L Z} S E x1 {Q} q => by
    obtain ⟨W, tk, hW⟩ := x1
    intro pins s I
    refine wpAny_Call_Name_kw (ld_glob I hg hm ?_ hdb)
    refine PySem.W.callWith_K (h₀ := X.base) I.ok.mod.kin N.kp (thn (ha.run h S E ⟨W, tk, hW⟩ (Q := fun vs H1 => ∀ a dx, H1 a = none → H1 dx = none → dx ≠ a → Up X.K dsp (.ref a :: vs) (upd (upd H1 dx (.own a)) a (.ins T.C dx [])) (fun v H2 => v = .non ∧ Q (.ref a) H2) (WE W σ)) ?_ pos pins s I) fun us s1 hh => ?_) he hpl
    · intro ds M1 vs B1 L1 H1 h1 e1 S1 r1 a dx ha hd hne
      obtain ⟨S2, e2⟩ := madeS (T := T) S1 ha hd hne
      have e12 := e1.trans e2
      have hself : (L1 ++ [a])[M1.length]? = some a := by
        rw [← S1.len]
        simp
      refine callOk S2 (show RepVs X.K B1 (L1 ++ [a]) (.m M1.length :: ds) (.ref a :: vs) from ⟨⟨a, rfl, hself⟩, r1.mono e2⟩) h1 (fun d M3 v B3 L3 H3 h3 e3 S3 r3 => ?_) fun cls fs M' d B' L' H' a b => hW cls fs M' d B' L' H' a (e12.trans b)
      refine ⟨by have := isNon_rep r3; rw [h3.1] at this; exact of_decide_eq_true this, ?_⟩
      exact q _ _ _ _ _ _ h3.2 (e12.trans e3) S3 ⟨a, rfl, e3.get hself⟩
    · obtain ⟨vs, H1, I1, rv, hq⟩ := hh
      exact ⟨I1.kIn, make_at N F hr hb tk I1 rv hq⟩
end
end DL

namespace DL
open PySem PySem.Spec PyProof.Rows L2
variable [Csts]
/-! ### methods of built-in types -/
abbrev MT := DV → List DV → Mem → Post → Prop
def sM (X : Cx) (id : String) (x : V) (xs : List V) (H : Hp) (Q : VK) : Prop := ∀ pins s σ v us, Inv X pins σ H s → RelV x v → Vals xs us → wpAny (model X.prog X.w) X.A (call (.builtin id) (v :: us)) (EP X pins σ Q) X.xe s
section
variable {X : Cx}
theorem mt_s {id : String} : MtR X id (sM X id) := fun pins s σ _ _ _ v us _ I r rs h => h pins s σ v us I r rs
theorem mtS {id : String} {r : V → List V → Hp → VK → Prop} (h : MtR X id r) {x : V} {xs : List V} {H : Hp} {Q : VK} (q : r x xs H Q) : sM X id x xs H Q := fun pins s σ v us I rx rs => h pins s σ H x xs v us Q I rx rs q
structure DM (X : Cx) (id : String) (o : MT) : Prop where
  run : ∀ {a ds M P}, o a ds M P → ∀ {u : V} {vs : List V} {B L Z H}, StM X.K B L Z M H → RepV X.K B L a u → RepVs X.K B L ds vs → ∀ {Q : VK}, POk X B L Z P Q → sM X id u vs H Q
/-- the receiver's type -/
def tyD (t : TyN) (d : DV) (M : Mem) : Bool := match t, d with
  | .list, .d (.lst _) => true
  | .list, .d (.frl _) => true
  | .list, .m k => (match M[k]? with
    | some (.lst _) => true
    | _ => false)
  | .dict, .d (.dic _) => true
  | .dict, .m k => (match M[k]? with
    | some (.dic _) => true
    | _ => false)
  | .str, .d (.str _) => true
  | _, _ => false
theorem tyD_v {t : TyN} {d : DV} {M : Mem} (h : tyD t d M = true) {v : V} {B : Hp} {L : List Addr} {Z : Zs} {H : Hp} (S : StM X.K B L Z M H) (r : RepV X.K B L d v) (hd : ∀ kvs, d ≠ .d (.dic kvs)) : tyV X.K t.nm v H := by
  unfold tyD at h
  split at h
  · unfold RepV Rep at r
    obtain ⟨a, vs, rfl, h2, h3⟩ := r
    exact .inl ⟨rfl, vs, S.sub.l (.inl (.inl h2))⟩
  · unfold RepV Rep at r
    obtain ⟨a, vs, rfl, h2, h3⟩ := r
    exact .inl ⟨rfl, vs, S.sub.l h2⟩
  · split at h
    · rename_i xs hk
      obtain ⟨p, vs, rfl, h2, h3⟩ := S.lst r hk
      exact .inl ⟨rfl, vs, .inl (.inl h2)⟩
    · cases h
  · exact absurd rfl (hd _)
  · split at h
    · rename_i kvs hk
      obtain ⟨a, rfl, h2⟩ := r
      obtain ⟨a', h3, cell⟩ := S.at_ hk
      have : a' = a := Option.some.inj (h3.symm.trans h2)
      subst this
      obtain ⟨ws, g1, g2⟩ := cell
      exact .inr (.inr (.inl ⟨rfl, .inl ⟨ws, g1⟩⟩))
    · cases h
  · have := rv_str.mp r
    subst this
    rfl
  · cases h
variable {o e : Expr} {es : List Expr} {fo : ET} {fas : AT} {om : MT} {name : Str} {apos cpos : Pos} {T id : String} {t : TyN}
def notDic : DV → Prop
  | .d (.dic _) => False
  | _ => True
def tBM (t : TyN) (om : MT) (fo : ET) (fas : AT) : ET := fun ρ M P x => fo ρ M (fun d M1 => (notDic d ∧ tyD t d M1 = true) ∧ fas ρ M1 (fun ds M2 => om d ds M2 P) x) x
theorem de_bm (t : TyN) (pa : PlainAttrs t.nm) (slot : Slot t.nm name id) (hty : typeOf (.builtin id) = pure (.type "method_descriptor")) (hm : DM X id om) (ho : DE X o fo) (ha : DA X (e :: es) fas)
    (hbase : attributeBase o name X.env (eval o X.env) = eval o X.env := by rfl)
    (hfew : ((backTo cpos (starEach (e :: es) X.env)).all (fun x => !x.1) && (backToKw cpos (keywordEach [] X.env)).all (fun x => x.1.isSome)
      && decide ((e :: es).length + ([] : List Keyword).length + (if ([] : List Keyword).isEmpty then 0 else 1) < 30)) = true := by rfl)
    (hline : (apos.endLine == cpos.line) = true := by rfl) (hs : starEach (e :: es) X.env = (false, eval e X.env) :: starEach es X.env := by rfl) (hplain : (backTo cpos (starEach es X.env)).any (·.1) = false := by rfl) :
    DE X (.Call (.Attribute o name apos) (e :: es) [] cpos) (tBM t om fo fas) where
  run := fun {ρ M P x} h {σ H B L Z} S E x1 {Q} q => by
    refine PE.s (pe_bm pa slot hty mt_s pe_s pa_s hbase hfew hline hs hplain) ?_
    refine ho.run h S E x1 fun d M1 v B1 L1 H1 h1 e1 S1 r1 => ?_
    refine ⟨tyD_v h1.1.2 S1 r1 fun kvs z => by subst z; exact h1.1.1, ?_⟩
    refine ha.run h1.2 S1 (E.mono e1) (x1.mono e1) fun ds M2 vs B2 L2 H2 h2 e2 S2 r2 => ?_
    exact hm.run h2 S2 (r1.mono e2) r2 (q.mono (e1.trans e2))
theorem de_bm0 (t : TyN) (pa : PlainAttrs t.nm) (slot : Slot t.nm name id) (hty : typeOf (.builtin id) = pure (.type "method_descriptor")) (hm : DM X id om) (ho : DE X o fo)
    (hbase : attributeBase o name X.env (eval o X.env) = eval o X.env := by rfl) (hline : (apos.endLine == cpos.line) = true := by rfl) : DE X (.Call (.Attribute o name apos) [] [] cpos) (tBM t om fo tNil) where
  run := fun {ρ M P x} h {σ H B L Z} S E x1 {Q} q => by
    refine PE.s (pe_bm0 pa slot hty mt_s pe_s hbase hline) ?_
    refine ho.run h S E x1 fun d M1 v B1 L1 H1 h1 e1 S1 r1 => ?_
    exact ⟨tyD_v h1.1.2 S1 r1 fun kvs z => by subst z; exact h1.1.1, hm.run h1.2 S1 r1 (show RepVs X.K B1 L1 [] [] from trivial) (q.mono e1)⟩
/-! lists that change -/
theorem cell_of {k : Nat} {xs : List DV} {v : V} {B : Hp} {L : List Addr} {Z : Zs} {M : Mem} {H : Hp} (S : StM X.K B L Z M H) (hk : M[k]? = some (.lst xs)) (r : RepV X.K B L (.m k) v) : ∃ a vs, v = .ref a ∧ L[k]? = some a ∧ H a = some (.lst vs) ∧ RepVs X.K B L xs vs := by
  obtain ⟨a, rfl, h2⟩ := r
  obtain ⟨a', h3, cell⟩ := S.at_ hk
  have : a' = a := Option.some.inj (h3.symm.trans h2)
  subst this
  obtain ⟨vs, g1, g2⟩ := cell
  exact ⟨a', vs, rfl, h3, g1, g2⟩
def onL (d : DV) (M : Mem) (P : Nat → List DV → Prop) : Prop := match d with
  | .m k => (match M[k]? with
    | some (.lst xs) => P k xs
    | _ => False)
  | _ => False
theorem onL_of {d : DV} {M : Mem} {P : Nat → List DV → Prop} (h : onL d M P) : ∃ k xs, d = .m k ∧ M[k]? = some (.lst xs) ∧ P k xs := by
  cases d with
  | d x => exact h.elim
  | pr _ _ => exact h.elim
  | m k =>
    unfold onL at h
    dsimp only at h
    split at h
    · rename_i xs hk
      exact ⟨k, xs, rfl, hk, h⟩
    · exact h.elim
def oAppend : MT := fun d ds M P => onL d M fun k xs => match ds with
  | [y] => xs.length < 100000 ∧ P (.d .non) (M.set k (.lst (xs ++ [y])))
  | _ => False
theorem dm_append : DM X "list.append" oAppend where
  run := fun {a ds M P} h {u vs B L Z H} S r rs {Q} q => by
    obtain ⟨k, xs, rfl, hk, h⟩ := onL_of h
    obtain ⟨p, ws, rfl, g1, g2, g3⟩ := cell_of S hk r
    match ds, vs, h, rs with
    | [y], [v], h, rs =>
      exact mtS mt_append ⟨p, ws, v, rfl, rfl, g2, by rw [← g3.len]; exact size_lt h.1, q _ _ _ _ _ _ h.2 (Ext.refl _ _) (S.putL g1 hk (g3.snoc rs.1)) (rv_non.mpr rfl)⟩
def oInsert : MT := fun d ds M P => onL d M fun k xs => match ds with
  | [.d (.int i), y] => (xs.length < 100000 ∧ 0 ≤ i ∧ i < 2 ^ 63) ∧ P (.d .non) (M.set k (.lst (xs.take i.toNat ++ [y] ++ xs.drop i.toNat)))
  | _ => False
theorem dm_insert : DM X "list.insert" oInsert where
  run := fun {a ds M P} h {u vs B L Z H} S r rs {Q} q => by
    obtain ⟨k, xs, rfl, hk, h⟩ := onL_of h
    obtain ⟨p, ws, rfl, g1, g2, g3⟩ := cell_of S hk r
    match ds, vs, rs, h with
      | [.d (.int i), y], [v, w], rs, h =>
        have := rv_int.mp rs.1
        subst this
        exact mtS mt_insert ⟨p, ws, i, w, rfl, rfl, g2, by rw [← g3.len]; exact size_lt h.1.1, h.1.2.1, h.1.2.2, q _ _ _ _ _ _ h.2 (Ext.refl _ _) (S.putL g1 hk (((g3.take _).snoc rs.2.1).app (g3.drop _))) (rv_non.mpr rfl)⟩
def oPop : MT := fun d ds M P => onL d M fun k xs => match ds with
  | [] => (match xs[xs.length - 1]? with
    | some y => P y (M.set k (.lst xs.dropLast))
    | none => False)
  | [.d (.int 0)] => (match xs with
    | y :: ys => P y (M.set k (.lst ys))
    | [] => False)
  | _ => False
theorem RepVs.dropLast {K : PySem.W.Frag} {B : Hp} {L : List Addr} {xs : List DV} {vs : List V} (h : RepVs K B L xs vs) : RepVs K B L xs.dropLast vs.dropLast := by
  rw [List.dropLast_eq_take, List.dropLast_eq_take, ← h.len]
  exact h.take _
theorem dm_pop : DM X "list.pop" oPop where
  run := fun {a ds M P} h {u vs B L Z H} S r rs {Q} q => by
    obtain ⟨k, xs, rfl, hk, h⟩ := onL_of h
    obtain ⟨p, ws, rfl, g1, g2, g3⟩ := cell_of S hk r
    split at h
    · split at h
      · rename_i y hy
        obtain ⟨w, h1, h2⟩ := g3.get hy
        match vs, rs with
        | [], _ => exact mtS mt_pop ⟨p, ws, w, rfl, rfl, g2, by rw [← g3.len]; exact h1, q _ _ _ _ _ _ h (Ext.refl _ _) (S.putL g1 hk g3.dropLast) h2⟩
      · exact h.elim
    · split at h
      · rename_i y ys
        match vs, rs, ws, g3 with
        | [v], rs, w :: ws, g3 =>
          have := rv_int.mp rs.1
          subst this
          exact mtS mt_popAt ⟨p, w :: ws, 0, 0, w, rfl, rfl, g2, by decide, by decide, by simp [seqIndex?], rfl, q _ _ _ _ _ _ h (Ext.refl _ _) (S.putL g1 hk g3.2) g3.1⟩
      · exact h.elim
    · exact h.elim
def oClear : MT := fun d ds M P => onL d M fun k xs => match ds with
  | [] => P (.d .non) (M.set k (.lst []))
  | _ => False
theorem dm_clear : DM X "list.clear" oClear where
  run := fun {a ds M P} h {u vs B L Z H} S r rs {Q} q => by
    obtain ⟨k, xs, rfl, hk, h⟩ := onL_of h
    obtain ⟨p, ws, rfl, g1, g2, g3⟩ := cell_of S hk r
    match ds, vs, h, rs with
    | [], [], h, rs => exact mtS mt_clear ⟨p, ws, rfl, rfl, g2, q _ _ _ _ _ _ h (Ext.refl _ _) (S.putL g1 hk trivial) (rv_non.mpr rfl)⟩
/-- a cell or a list of ints, as ints -/
def intsOf : List DV → Option (List Int)
  | [] => some []
  | .d (.int i) :: r => (match intsOf r with
    | some is => some (i :: is)
    | none => none)
  | _ :: _ => none
theorem intsOf_eq : ∀ {xs : List DV} {is : List Int}, intsOf xs = some is → xs = is.map fun i => .d (.int i)
  | [], _, h => by cases h; rfl
  | .d (.int i) :: r, _, h => by
    unfold intsOf at h
    split at h
    · rename_i is hi
      cases h
      rw [intsOf_eq hi]
      rfl
    · cases h
  | .m _ :: _, _, h => by cases h
  | .pr _ _ :: _, _, h => by cases h
  | .d .non :: _, _, h => by cases h
  | .d (.bl _) :: _, _, h => by cases h
  | .d (.str _) :: _, _, h => by cases h
  | .d (.ref _) :: _, _, h => by cases h
  | .d (.ty _) :: _, _, h => by cases h
  | .d (.lst _) :: _, _, h => by cases h
  | .d (.frl _) :: _, _, h => by cases h
  | .d (.tup _) :: _, _, h => by cases h
  | .d (.dic _) :: _, _, h => by cases h
  | .d (.obj _ _) :: _, _, h => by cases h
  | .d (.slo _ _) :: _, _, h => by cases h
  | .d (.xcp _ _ _ _) :: _, _, h => by cases h
theorem intsOf_map : ∀ (is : List Int), intsOf (is.map fun i => .d (.int i)) = some is
  | [] => rfl
  | i :: is => by
    show (match intsOf (is.map fun i => .d (.int i)) with | some js => some (i :: js) | none => none) = _
    rw [intsOf_map is]
theorem ints_v {K : PySem.W.Frag} {B : Hp} {L : List Addr} : ∀ {is : List Int} {vs : List V}, RepVs K B L (is.map fun i => .d (.int i)) vs → vs = is.map V.int
  | [], [], _ => rfl
  | i :: is, v :: vs, h => by
    rw [List.map_cons, ← rv_int.mp h.1, ← ints_v h.2]
  | [], _ :: _, h => h.elim
  | _ :: _, [], h => h.elim
end
/-! ### built-in functions -/
section
variable {X : Cx}
def oLen : CT := fun ds M P => match ds with
  | [.d (.str s)] => s.length ≤ 100000 ∧ P (.d (.int s.length)) M
  | [d] => (match seqOf M d with
    | some xs => P (.d (.int xs.length)) M
    | none => False)
  | _ => False
theorem one_v {K : PySem.W.Frag} {B : Hp} {L : List Addr} {d : DV} {vs : List V} (h : RepVs K B L [d] vs) : ∃ v, vs = [v] ∧ RepV K B L d v := by
  match vs, h with
  | [v], h => exact ⟨v, rfl, h.1⟩
theorem two_v {K : PySem.W.Frag} {B : Hp} {L : List Addr} {d e : DV} {vs : List V} (h : RepVs K B L [d, e] vs) : ∃ v w, vs = [v, w] ∧ RepV K B L d v ∧ RepV K B L e w := by
  match vs, h with
  | [v, w], h => exact ⟨v, w, rfl, h.1, h.2.1⟩
theorem dc_len : DC X (.builtin "len") oLen where
  run := fun {ds M P} h {vs B L Z H} S rs {Q} q => by
    unfold oLen at h
    split at h
    · obtain ⟨v, rfl, r⟩ := one_v rs
      have := rv_str.mp r
      subst this
      exact callS call_len ⟨_, _, rfl, ⟨size100 h.1, rfl⟩, q.here S h.2 (rv_int.mpr rfl)⟩
    · split at h
      · rename_i d _ xs hx
        obtain ⟨v, rfl, r⟩ := one_v rs
        obtain ⟨p, vs, rfl, g1, g2⟩ := S.seq r hx
        refine callS call_len ⟨_, vs.length, rfl, ?_, q.here S h (rv_int.mpr (by rw [g2.len]))⟩
        rcases g1 with g1 | g1
        · exact .inr ⟨vs, g1, rfl⟩
        · exact .inl ⟨vs, g1, rfl⟩
      · exact h.elim
    · exact h.elim
def oInt : CT := fun ds M P => match ds with
  | [.d (.int i)] => P (.d (.int i)) M
  | [.d (.bl b)] => P (.d (.int (if b = true then 1 else 0))) M
  | _ => False
theorem dc_int : DC X (.type "int") oInt where
  run := fun {ds M P} h {vs B L Z H} S rs {Q} q => by
    unfold oInt at h
    split at h
    · obtain ⟨v, rfl, r⟩ := one_v rs
      have := rv_int.mp r
      subst this
      exact callS call_int1 (.inl ⟨_, rfl, q.here S h (rv_int.mpr rfl)⟩)
    · obtain ⟨v, rfl, r⟩ := one_v rs
      have := rv_bl.mp r
      subst this
      exact callS call_int1 (.inr ⟨_, rfl, q.here S h (rv_int.mpr rfl)⟩)
    · exact h.elim
def oMax2 : CT := fun ds M P => match ds with
  | [.d (.int i), .d (.int j)] => P (.d (.int (if j > i then j else i))) M
  | _ => False
theorem dc_max2 (hc : X.calm = true) : DC X (.builtin "max") oMax2 where
  run := fun {ds M P} h {vs B L Z H} S rs {Q} q => by
    unfold oMax2 at h
    split at h
    · obtain ⟨v, w, rfl, r1, r2⟩ := two_v rs
      have e1 := rv_int.mp r1
      have e2 := rv_int.mp r2
      subst e1
      subst e2
      exact callS (call_max2 hc) ⟨_, _, rfl, q.here S h (rv_int.mpr rfl)⟩
    · exact h.elim
def oMin2 : CT := fun ds M P => match ds with
  | [.d (.int i), .d (.int j)] => P (.d (.int (if j < i then j else i))) M
  | _ => False
theorem dc_min2 (hc : X.calm = true) : DC X (.builtin "min") oMin2 where
  run := fun {ds M P} h {vs B L Z H} S rs {Q} q => by
    unfold oMin2 at h
    split at h
    · obtain ⟨v, w, rfl, r1, r2⟩ := two_v rs
      have e1 := rv_int.mp r1
      have e2 := rv_int.mp r2
      subst e1
      subst e2
      exact callS (call_min2 hc) ⟨_, _, rfl, q.here S h (rv_int.mpr rfl)⟩
    · exact h.elim
/-- one sequence of ints -/
def onInts (ds : List DV) (M : Mem) (P : List Int → Prop) : Prop := match ds with
  | [.d (.lst xs)] => ∃ is, intsOf (xs.map .d) = some is ∧ P is
  | [.m k] => (match M[k]? with
    | some (.lst xs) => ∃ is, intsOf xs = some is ∧ P is
    | _ => False)
  | _ => False
theorem onInts_of {ds : List DV} {M : Mem} {P : List Int → Prop} (h : onInts ds M P) {vs : List V} {B : Hp} {L : List Addr} {Z : Zs} {H : Hp} (S : StM X.K B L Z M H) (rs : RepVs X.K B L ds vs) : ∃ a is, vs = [.ref a] ∧ SqL X.K H a (is.map V.int) ∧ P is := by
  unfold onInts at h
  split at h
  · rename_i xs
    obtain ⟨is, h1, h2⟩ := h
    obtain ⟨v, rfl, r⟩ := one_v rs
    obtain ⟨p, ws, rfl, g1, g2⟩ := S.lst (xs := xs.map .d) r rfl
    rw [intsOf_eq h1] at g2
    exact ⟨p, is, rfl, by rw [← ints_v g2]; exact .inl (.inl g1), h2⟩
  · split at h
    · rename_i k xs hk
      obtain ⟨is, h1, h2⟩ := h
      obtain ⟨v, rfl, r⟩ := one_v rs
      obtain ⟨p, ws, rfl, g1, g2⟩ := S.lst r hk
      rw [intsOf_eq h1] at g2
      exact ⟨p, is, rfl, by rw [← ints_v g2]; exact .inl (.inl g1), h2⟩
    · exact h.elim
  · exact h.elim
def oSum : CT := fun ds M P => onInts ds M fun is => P (.d (.int is.sum)) M
theorem dc_sum (hc : X.calm = true) : DC X (.builtin "sum") oSum where
  run := fun {ds M P} h {vs B L Z H} S rs {Q} q => by
    obtain ⟨a, is, rfl, g, h⟩ := onInts_of h S rs
    exact callS (cr_sum hc) ⟨a, is, rfl, g, q.here S h (rv_int.mpr rfl)⟩
def oMin : CT := fun ds M P => onInts ds M fun is => 0 < is.length ∧ ∀ m, m ∈ is → (∀ y, y ∈ is → m ≤ y) → P (.d (.int m)) M
theorem dc_min (hc : X.calm = true) : DC X (.builtin "min") oMin where
  run := fun {ds M P} h {vs B L Z H} S rs {Q} q => by
    obtain ⟨a, is, rfl, g, h⟩ := onInts_of h S rs
    exact callS (cr_min hc) ⟨a, is, rfl, g, h.1, fun m h1 h2 => q.here S (h.2 m h1 h2) (rv_int.mpr rfl)⟩
def oMax : CT := fun ds M P => onInts ds M fun is => 0 < is.length ∧ ∀ m, m ∈ is → (∀ y, y ∈ is → y ≤ m) → P (.d (.int m)) M
theorem dc_max (hc : X.calm = true) : DC X (.builtin "max") oMax where
  run := fun {ds M P} h {vs B L Z H} S rs {Q} q => by
    obtain ⟨a, is, rfl, g, h⟩ := onInts_of h S rs
    exact callS (cr_max hc) ⟨a, is, rfl, g, h.1, fun m h1 h2 => q.here S (h.2 m h1 h2) (rv_int.mpr rfl)⟩
/-- a list of bools -/
def bls : List D → Option (List Bool)
  | [] => some []
  | .bl b :: r => (match bls r with
    | some bs => some (b :: bs)
    | none => none)
  | _ :: _ => none
theorem bls_eq : ∀ {xs : List D} {bs : List Bool}, bls xs = some bs → xs = bs.map .bl
  | [], _, h => by cases h; rfl
  | .bl b :: r, _, h => by
    unfold bls at h
    split at h
    · rename_i bs hb
      cases h
      rw [bls_eq hb]
      rfl
    · cases h
  | .non :: _, _, h => by cases h
  | .int _ :: _, _, h => by cases h
  | .str _ :: _, _, h => by cases h
  | .ref _ :: _, _, h => by cases h
  | .ty _ :: _, _, h => by cases h
  | .lst _ :: _, _, h => by cases h
  | .frl _ :: _, _, h => by cases h
  | .tup _ :: _, _, h => by cases h
  | .dic _ :: _, _, h => by cases h
  | .obj _ _ :: _, _, h => by cases h
  | .slo _ _ :: _, _, h => by cases h
theorem bls_map : ∀ (bs : List Bool), bls (bs.map .bl) = some bs
  | [] => rfl
  | b :: bs => by
    show (match bls (bs.map .bl) with | some cs => some (b :: cs) | none => none) = _
    rw [bls_map bs]
theorem bls_v {K : PySem.W.Frag} {B : Hp} : ∀ {bs : List Bool} {vs : List V}, RepL K B (bs.map .bl) vs → vs = bs.map V.bl
  | [], [], _ => rfl
  | b :: bs, v :: vs, h => by
    simp only [List.map_cons] at h
    unfold RepL Rep at h
    rw [List.map_cons, ← h.1, ← bls_v h.2]
  | [], _ :: _, h => by unfold RepL at h; exact h.elim
  | _ :: _, [], h => by unfold RepL at h; exact h.elim
def onBls (ds : List DV) (P : List Bool → Prop) : Prop := match ds with
  | [.d (.lst xs)] => ∃ bs, bls xs = some bs ∧ P bs
  | _ => False
theorem onBls_of {ds : List DV} {M : Mem} {P : List Bool → Prop} (h : onBls ds P) {vs : List V} {B : Hp} {L : List Addr} {Z : Zs} {H : Hp} (S : StM X.K B L Z M H) (rs : RepVs X.K B L ds vs) : ∃ a bs, vs = [.ref a] ∧ SqL X.K H a (bs.map V.bl) ∧ P bs := by
  unfold onBls at h
  split at h
  · rename_i xs
    obtain ⟨bs, h1, h2⟩ := h
    have := bls_eq h1
    subst this
    obtain ⟨v, rfl, r⟩ := one_v rs
    unfold RepV Rep at r
    obtain ⟨p, ws, rfl, g1, g2⟩ := r
    exact ⟨p, bs, rfl, by rw [← bls_v g2]; exact S.sub.l (.inl (.inl g1)), h2⟩
  · exact h.elim
def oAll : CT := fun ds M P => onBls ds fun bs => P (.d (.bl (bs.all id))) M
theorem dc_all (hc : X.calm = true) : DC X (.builtin "all") oAll where
  run := fun {ds M P} h {vs B L Z H} S rs {Q} q => by
    obtain ⟨a, bs, rfl, g, h⟩ := onBls_of h S rs
    exact callS (cr_all hc) ⟨a, bs, rfl, g, q.here S h (rv_bl.mpr rfl)⟩
def oAny : CT := fun ds M P => onBls ds fun bs => P (.d (.bl (bs.any id))) M
theorem dc_any (hc : X.calm = true) : DC X (.builtin "any") oAny where
  run := fun {ds M P} h {vs B L Z H} S rs {Q} q => by
    obtain ⟨a, bs, rfl, g, h⟩ := onBls_of h S rs
    exact callS (cr_any hc) ⟨a, bs, rfl, g, q.here S h (rv_bl.mpr rfl)⟩
/-- list(e), as data; as a cell -/
def oList : CT := fun ds M P => match ds with
  | [d] => (match seqOf M d with
    | some xs => (match allD xs with
      | some zs => P (.d (.lst zs)) M
      | none => False)
    | none => False)
  | _ => False
theorem dc_list : DC X (.type "list") oList where
  run := fun {ds M P} h {vs B L Z H} S rs {Q} q => by
    unfold oList at h
    split at h
    · split at h
      · rename_i d xs hx
        split at h
        · rename_i zs hz
          have := allD_eq hz
          subst this
          obtain ⟨v, rfl, r⟩ := one_v rs
          obtain ⟨p, ws, rfl, g1, g2⟩ := S.seq r hx
          exact callS call_list_of ⟨p, ws, rfl, g1.symm, fun l hl => new_lst S g2.toL h q hl⟩
        · exact h.elim
      · exact h.elim
    · exact h.elim
def oListM : CT := fun ds M P => match ds with
  | [d] => (match seqOf M d with
    | some xs => P (.m M.length) (M ++ [.lst xs])
    | none => False)
  | _ => False
theorem dc_listM : DC X (.type "list") oListM where
  run := fun {ds M P} h {vs B L Z H} S rs {Q} q => by
    unfold oListM at h
    split at h
    · split at h
      · rename_i d xs hx
        obtain ⟨v, rfl, r⟩ := one_v rs
        obtain ⟨p, ws, rfl, g1, g2⟩ := S.seq r hx
        refine callS call_list_of ⟨p, ws, rfl, g1.symm, fun l hl => ?_⟩
        have E1 : Ext B L B (L ++ [l]) := ⟨Sub.refl B, [l], rfl⟩
        obtain ⟨S2, e2⟩ := S.newM (o := .lst ws) (m := .lst xs) hl ⟨ws, upd_same, g2.mono E1⟩
        refine q _ _ _ _ _ _ h e2 S2 ⟨l, rfl, ?_⟩
        rw [← S.len]
        simp
      · exact h.elim
    · exact h.elim
def oTuple : CT := fun ds M P => match ds with
  | [d] => (match seqOf M d with
    | some xs => (match allD xs with
      | some zs => P (.d (.tup zs)) M
      | none => False)
    | none => False)
  | _ => False
theorem dc_tuple : DC X (.type "tuple") oTuple where
  run := fun {ds M P} h {vs B L Z H} S rs {Q} q => by
    unfold oTuple at h
    split at h
    · split at h
      · rename_i d _ xs hx
        split at h
        · rename_i zs hz
          have := allD_eq hz
          subst this
          obtain ⟨v, rfl, r⟩ := one_v rs
          by_cases c : ∃ ys, d = .d (.tup ys)
          · obtain ⟨ys, rfl⟩ := c
            have e : zs = ys := by
              have h1 : ys.map DV.d = zs.map DV.d := Option.some.inj hx
              have h2 := allD_map ys
              rw [h1, allD_map] at h2
              exact Option.some.inj h2
            subst e
            have r' := r
            unfold RepV Rep at r
            obtain ⟨p, ws, rfl, g1, g2⟩ := r
            exact callS call_tuple_of ⟨p, ws, rfl, .inr ⟨S.sub.t g1, q.here S h r'⟩⟩
          · have g : ∃ p ws, v = .ref p ∧ SqL X.K H p ws ∧ RepVs X.K B L (List.map DV.d zs) ws := by
              unfold seqOf at hx
              split at hx
              · rename_i ys
                have e2 : List.map DV.d ys = List.map DV.d zs := Option.some.inj hx
                obtain ⟨p, ws, e, g1, g2⟩ := S.lst (xs := List.map DV.d ys) r rfl
                exact ⟨p, ws, e, .inl (.inl g1), e2 ▸ g2⟩
              · rename_i ys
                have e2 : List.map DV.d ys = List.map DV.d zs := Option.some.inj hx
                unfold RepV Rep at r
                obtain ⟨p, ws, e, g1, g2⟩ := r
                exact ⟨p, ws, e, S.sub.l g1, e2 ▸ g2.vs⟩
              · exact absurd ⟨_, rfl⟩ c
              · split at hx
                · rename_i k xs' hk
                  cases hx
                  obtain ⟨p, ws, e, g1, g2⟩ := S.lst r hk
                  exact ⟨p, ws, e, .inl (.inl g1), g2⟩
                · cases hx
              · cases hx
            obtain ⟨p, ws, rfl, g1, g2⟩ := g
            exact callS call_tuple_of ⟨p, ws, rfl, .inl ⟨g1, fun l hl => new_tup S g2.toL h q hl⟩⟩
        · exact h.elim
      · exact h.elim
    · exact h.elim
end
end DL

namespace DL
open PySem PySem.Spec PyProof.Rows L2
variable [Csts]
section
variable {X : Cx} {e : Expr} {fe : ET} {pos : Pos}
theorem do_mul : DO X (binaryOp .Mult) oMul where
  run := fun {a b M P} h {u v B L Z H} S r1 r2 {Q} q => by
    unfold oMul at h
    split at h
    · exact opS op_mul ⟨_, _, rv_int.mp r1, rv_int.mp r2, h.1, q.here S h.2 (rv_int.mpr rfl)⟩
    · rename_i xs k
      obtain ⟨p, vs, rfl, g1, g2⟩ := S.lst (xs := xs.map .d) r1 rfl
      have e := rv_int.mp r2
      subst e
      have rl := g2.toL
      exact opS op_rep ⟨p, k, vs, rfl, rfl, g1, h.1.1, h.1.2.1, size100 (by rw [← rl.len]; exact h.1.2.2), fun z hz => new_lst S (rl.rep _) h.2 q hz⟩
    · rename_i xs k
      have e := rv_int.mp r2
      subst e
      have r1' := r1
      unfold RepV Rep at r1
      obtain ⟨p, vs, rfl, g1, g2⟩ := r1
      obtain ⟨h1, h2, h3, h4⟩ := h.1
      · exact opS op_repT ⟨p, k, vs, rfl, rfl, S.sub.t g1, fun z => h1 (g2.nil_iff.mp z), h2, h3, by rw [← g2.len]; exact h4, fun z hz => new_tup S (g2.rep _) h.2 q hz⟩
    · exact h.elim
def tNeg (fe : ET) : ET := fun ρ M P x => fe ρ M (fun d M1 => match d with
  | .d (.int i) => P (.d (.int (-i))) M1
  | _ => False) x
theorem de_neg (he : DE X e fe) : DE X (.UnaryOp .USub e pos) (tNeg fe) where
  run := fun {ρ M P x} h {σ H B L Z} S E x1 {Q} q => by
    refine PE.s (pe_un un_neg pe_s) ?_
    refine he.run h S E x1 fun d M1 v B1 L1 H1 h1 e1 S1 r1 => ?_
    dsimp only at h1
    split at h1
    · exact ⟨_, rv_int.mp r1, (q.mono e1).here S1 h1 (rv_int.mpr rfl)⟩
    · exact h1.elim
/-- a module's int -/
theorem de_gint {x : Str} {i : Int} (hm : ∃ t, X.mg x = some (.int i t)) (hg : Gl X x := by rfl) (hd : (x == ("__debug__" : Str)) = false := by decide) : DE X (.Name x pos) (tC (.int i)) := by
  obtain ⟨t, hm⟩ := hm
  exact de_glob (v := .int i) hg hm ⟨t, rfl⟩ (fun _ => by simp only [Rep]) hd
/-- a class, a def of the module as a value -/
theorem de_gref {x : Str} {a : Addr} (hm : X.mg x = some (.ref a)) (hg : Gl X x := by rfl) (hd : (x == ("__debug__" : Str)) = false := by decide) : DE X (.Name x pos) (tC (.ref a)) :=
  de_glob (v := .ref a) hg hm rfl (fun _ => by simp only [Rep]) hd
/-- a built-in class as a value -/
theorem de_ty (t : TyN) {x : Str} (hm : X.mg x = none) (hv : bootBuiltins x = some (.type t.nm)) (hg : Gl X x := by rfl) (hn : x ≠ "__name__" := by decide) (hd : (x == ("__debug__" : Str)) = false := by decide) : DE X (.Name x pos) (tC (.ty t)) :=
  de_pe (v := .ty t.nm) (pe_bltn hg hm hv rfl hn hd) fun _ => by simp only [Rep]
end
/-! ### what is known of a def, a method, a class -/
section
variable (P : Program) (w : World) (K : PySem.W.Frag) (mg : Str → Option Value) (base : Heap)
structure FunG (x : Str) (st : Stmt) (ps : List Str) : Prop where
  ex : ∃ f fd, Fun K x x st f fd ∧ mg x = some (.ref f) ∧ Binds K fd ps []
structure FunM (T : ClsT) (m qual : Str) (st : Stmt) (ps : List Str) : Prop where
  ex : ∃ f fd, Fun K m qual st f fd ∧ Meth K T.C m f ∧ Binds K fd ps []
structure FunI (T : ClsT) (x qual : Str) (st : Stmt) (ps : List Str) : Prop where
  ex : ∃ f fd, Fun K "__init__" qual st f fd ∧ Mk K T.C f ∧ mg x = some (.ref T.C) ∧ Binds K fd ps []
structure BindsF (f : Addr) (fd : FuncData) (ps : List Str) : Prop where
  b : Binds K fd ps []
  is : ∃ (oc : Value) (od : Option Addr) (osl : Array (Option Value)), K.lookup f = some ⟨oc, od, .func fd, osl⟩
structure Callee (x : Str) (k : Nat) (ps : List Str) (dsp : DSp) : Prop where
  ex : ∃ f fd, mg x = some (.ref f) ∧ PySem.W.keepIn K (.ref f) = true ∧ BindsF K f fd ps ∧ FnOk P w K mg base (L2.CX P w) k f fd ps (Up K dsp)
structure CalleeM (T : ClsT) (m : Str) (k : Nat) (ps : List Str) (dsp : DSp) : Prop where
  ex : ∃ f fd, Meth K T.C m f ∧ Binds K fd ps [] ∧ FnOk P w K mg base (L2.CX P w) k f fd ps (Up K dsp)
structure CalleeI (T : ClsT) (x : Str) (k : Nat) (ps : List Str) (dsp : DSp) : Prop where
  ex : ∃ f fd, Mk K T.C f ∧ mg x = some (.ref T.C) ∧ Binds K fd ps [] ∧ FnOk P w K mg base (L2.CX P w) k f fd ps (Up K dsp)
end
section
variable {P : Program} {w : World} {K : PySem.W.Frag} {mg : Str → Option Value} {base : Heap} {x m qual : Str} {st : Stmt} {N ps : List Str} {k : Nat} {dsp : DSp} {T : ClsT}
theorem Fun.isF {K : PySem.W.Frag} {x qual : Str} {st : Stmt} {f : Addr} {fd : FuncData} (F : Fun K x qual st f fd) : ∃ (oc : Value) (od : Option Addr) (osl : Array (Option Value)), K.lookup f = some ⟨oc, od, .func fd, osl⟩ := by
  obtain ⟨oc, od, kV, doc, pm, an, cdv, ct, osl, h, lk, hcd⟩ := F.ex
  exact ⟨oc, od, osl, lk⟩
theorem callee_dl (F : FunG K mg x st ps) (S : FnScope N ps (defScope st)) (len : ∀ ds M P x, dsp ds M P x → ds.length = ps.length)
    (hbody : ∀ (f : Addr) (cdv : Value) (A : Around) (outer : List PySem.Env) (s : Shared) (H : Hp) (E : XK), Room k (A.deeper (envOfC x (defScope st) s.heap.objs.size f cdv)) →
      ∃ t, DSs (cxOf (L2.CX P w) P w K mg base N x (defScope st) f cdv A outer s H E) (defBody st) t ∧ ∀ ds M P x, dsp ds M P x → t (ends P x) (startD N ds) M) : Callee P w K mg base x (k + 1) ps dsp := by
  obtain ⟨f, fd, F, hm, hb⟩ := F.ex
  exact ⟨f, fd, hm, F.kp, ⟨hb, Fun.isF F⟩, fn_dl F S len (hbody f)⟩
theorem calleeM_dl (F : FunM K T m qual st ps) (S : FnScope N ps (defScope st)) (len : ∀ ds M P x, dsp ds M P x → ds.length = ps.length)
    (hbody : ∀ (f : Addr) (cdv : Value) (A : Around) (outer : List PySem.Env) (s : Shared) (H : Hp) (E : XK), Room k (A.deeper (envOfC qual (defScope st) s.heap.objs.size f cdv)) →
      ∃ t, DSs (cxOf (L2.CX P w) P w K mg base N qual (defScope st) f cdv A outer s H E) (defBody st) t ∧ ∀ ds M P x, dsp ds M P x → t (ends P x) (startD N ds) M) : CalleeM P w K mg base T m (k + 1) ps dsp := by
  obtain ⟨f, fd, F, hm, hb⟩ := F.ex
  exact ⟨f, fd, hm, hb, fn_dl F S len (hbody f)⟩
theorem calleeI_dl (F : FunI K mg T x qual st ps) (S : FnScope N ps (defScope st)) (len : ∀ ds M P x, dsp ds M P x → ds.length = ps.length)
    (hbody : ∀ (f : Addr) (cdv : Value) (A : Around) (outer : List PySem.Env) (s : Shared) (H : Hp) (E : XK), Room k (A.deeper (envOfC qual (defScope st) s.heap.objs.size f cdv)) →
      ∃ t, DSs (cxOf (L2.CX P w) P w K mg base N qual (defScope st) f cdv A outer s H E) (defBody st) t ∧ ∀ ds M P x, dsp ds M P x → t (ends P x) (startD N ds) M) : CalleeI P w K mg base T x (k + 1) ps dsp := by
  obtain ⟨f, fd, F, h1, h2, hb⟩ := F.ex
  exact ⟨f, fd, h1, h2, hb, fn_dl F S len (hbody f)⟩
end
section
variable {X : Cx} {x m : Str} {p pos apos : Pos} {e o : Expr} {es : List Expr} {fas : AT} {fo : ET} {k : Nat} {ps : List Str} {dsp : DSp} {T : ClsT}
def tCallN (dsp : DSp) (fas : AT) : ET := fun ρ M P x => fas ρ M (fun vs M1 => dsp vs M1 P x) x
theorem de_callN (C : Callee X.prog X.w X.K X.mg X.base x k ps dsp) (hr : Room k X.A) (ha : DA X (e :: es) fas) (hg : Gl X x := by rfl) (hdb : (x == ("__debug__" : Str)) = false := by decide) (he : starEach (e :: es) X.env = (false, eval e X.env) :: starEach es X.env := by rfl)
    (hpl : (backTo pos (starEach es X.env)).any (·.1) = false := by rfl) : DE X (.Call (.Name x p) (e :: es) [] pos) (tCallN dsp fas) where
  run := fun {ρ M P x} h {σ H B L Z} S E x1 {Q} q => by
    obtain ⟨f, fd, hm, hk, hb, F⟩ := C.ex
    refine (de_call F hr hg hm hk hb.b (dds := []) .nil (by unfold RepL; trivial) ha hdb he hpl).run (x := x) (P := P) (M := M) (ρ := ρ) ?_ S E x1 q
    unfold tCall
    simp only [List.map_nil, List.append_nil]
    exact h
theorem de_call0 (C : Callee X.prog X.w X.K X.mg X.base x k ps dsp) (hr : Room k X.A) (hg : Gl X x := by rfl) (hdb : (x == ("__debug__" : Str)) = false := by decide) : DE X (.Call (.Name x p) [] [] pos) (tCallN dsp tNil) where
  run := fun {ρ M P x} h {σ H B L Z} S E x1 {Q} q => by
    obtain ⟨f, fd, hm, hk, hb, F⟩ := C.ex
    obtain ⟨W, tk, hW⟩ := x1
    intro pins s I
    refine wpAny_Call_Name_kw (ld_glob I hg hm ?_ hdb)
    refine PySem.W.callWith_K0 I.kIn hk ?_
    exact run_fnSD (us := []) (vs := []) (dvs := []) (ds := []) (E := WE W) F hr hb.b .nil (passAt tk σ) I .nil (callOk S (show RepVs X.K B L [] [] from trivial) h q hW)
theorem de_methN {pl : Sem Bool} (C : CalleeM X.prog X.w X.K X.mg X.base T m k ps dsp) (hr : Room k X.A) (c : Cls X.K T.C) (ho : DE X o fo) (ha : DA X (e :: es) fas) (hnm : m ∉ T.ns := by first | decide | exact of_decide_eq_true rfl)
    (hst : starEach (e :: es) X.env = (false, eval e X.env) :: starEach es X.env := by rfl) (hpl : (backTo pos (starEach es X.env)).any (·.1) = false := by rfl)
    (ht : eval (.Call (.Attribute o m apos) (e :: es) [] pos) X.env = (do
      let ov ← eval o X.env
      standAt apos.atName
      let (f, first) ← holding [ov] (getMethod ov m pl)
      callWith pos f first (backTo pos (starEach (e :: es) X.env)) (backToKw pos (keywordEach [] X.env))) := by rfl) : DE X (.Call (.Attribute o m apos) (e :: es) [] pos) (tMeth T dsp fo fas) := by
  obtain ⟨f, fd, hm, hb, F⟩ := C.ex
  exact de_meth T ho c hm F hr hb ha hnm hst hpl ht
theorem de_methN0 {pl : Sem Bool} (C : CalleeM X.prog X.w X.K X.mg X.base T m k ps dsp) (hr : Room k X.A) (c : Cls X.K T.C) (ho : DE X o fo) (hnm : m ∉ T.ns := by first | decide | exact of_decide_eq_true rfl)
    (ht : eval (.Call (.Attribute o m apos) [] [] pos) X.env = (do
      let ov ← eval o X.env
      standAt apos.atName
      let (f, first) ← holding [ov] (getMethod ov m pl)
      callWith pos f first (backTo pos (starEach [] X.env)) (backToKw pos (keywordEach [] X.env))) := by rfl) : DE X (.Call (.Attribute o m apos) [] [] pos) (tMeth T dsp fo tNil) := by
  obtain ⟨f, fd, hm, hb, F⟩ := C.ex
  exact de_meth0 T ho c hm F hr hb hnm ht
theorem de_makeN (C : CalleeI X.prog X.w X.K X.mg X.base T x k ps dsp) (hr : Room (k + 1) X.A) (ha : DA X (e :: es) fas) (hg : Gl X x := by rfl) (hdb : (x == ("__debug__" : Str)) = false := by decide) (he : starEach (e :: es) X.env = (false, eval e X.env) :: starEach es X.env := by rfl)
    (hpl : (backTo pos (starEach es X.env)).any (·.1) = false := by rfl) : DE X (.Call (.Name x p) (e :: es) [] pos) (tMake T dsp fas) := by
  obtain ⟨f, fd, h1, h2, hb, F⟩ := C.ex
  exact de_make T h1 F hr hg h2 hb ha hdb he hpl
end
end DL

namespace DL
open PySem PySem.Spec PyProof.Rows L2
variable [Csts]
/-! ### a cell becomes data -/
section
variable {K : PySem.W.Frag} {B : Hp} {L : List Addr} {Z : Zs} {M : Mem} {H : Hp}
theorem StM.gone (S : StM K B L Z M H) {k : Nat} {a : Addr} {m : MO} {o : HO} (hk : L[k]? = some a) (h0 : M[k]? = some m) (hg : m.gone? = false) (hH : H a = some o) : StM K (upd B a o) L Z (M.set k .gone) H ∧ Ext B L (upd B a o) L := by
  have hB := S.out k a m hk h0 hg
  have E : Ext B L (upd B a o) L := ⟨upd_sub hB, [], by simp⟩
  have inj : ∀ j b, L[j]? = some b → j ≠ k → b ≠ a := fun j b hj n q => by
    subst q
    have h1 := (List.getElem?_eq_some_iff.mp hk).1
    have h2 := (List.getElem?_eq_some_iff.mp hj).1
    exact n ((List.getElem?_inj h2 S.nod).mp (hj.trans hk.symm))
  refine ⟨⟨fun x u hx => ?_, fun q hq => ?_, by simp [S.len], S.nod, fun j b o' hj ho hg' => ?_, fun j b m' hj hm => ?_, S.live, fun q hq => by rw [upd_ne (ne_of_none (S.cst q hq).1 hB)]; exact S.cst q hq⟩, E⟩
  · by_cases q : x = a
    · subst q
      rw [upd_same] at hx
      cases hx
      exact ⟨o, hH, rfl, fun _ => rfl⟩
    · rw [upd_ne q] at hx
      exact S.sub _ _ hx
  · obtain ⟨h1, h2, h3⟩ := S.zh q hq
    have : q.1 ≠ a := fun z => h2 (z ▸ List.mem_of_getElem? hk)
    exact ⟨h1, h2, fun z => by rw [upd_ne this]; exact h3 z⟩
  · rw [List.getElem?_set] at ho
    by_cases q : k = j
    · subst q
      have hl : k < M.length := (List.getElem?_eq_some_iff.mp h0).1
      rw [if_pos rfl, if_pos hl] at ho
      cases ho
      cases hg'
    · rw [if_neg q] at ho
      rw [upd_ne (inj j b hj (Ne.symm q))]
      exact S.out j b o' hj ho hg'
  · rw [List.getElem?_set] at hm
    by_cases q : k = j
    · subst q
      have hl : k < M.length := (List.getElem?_eq_some_iff.mp h0).1
      rw [if_pos rfl, if_pos hl] at hm
      cases hm
      trivial
    · rw [if_neg q] at hm
      exact (S.cell j b m' hj hm).mono E rfl
/-- what a cell is as data -/
def cellD : MO → Option D
  | .lst xs => (match allD xs with
    | some zs => some (.lst zs)
    | none => none)
  | .dic kvs => some (.dic kvs)
  | .ins T fs => (match allD fs with
    | some zs => if zs.length = T.ns.length then some (.obj T zs) else none
    | none => none)
  | .gone => none
theorem StM.frz (S : StM K B L Z M H) {k : Nat} {a : Addr} {m : MO} {x : D} (hk : L[k]? = some a) (h0 : M[k]? = some m) (hx : cellD m = some x) : ∃ B', StM K B' L Z (M.set k .gone) H ∧ Ext B L B' L ∧ Rep K B' x (.ref a) := by
  have c := S.cell k a m hk h0
  cases m with
  | lst xs =>
    unfold cellD at hx
    dsimp only at hx
    split at hx
    · rename_i zs hz
      cases hx
      have := allD_eq hz
      subst this
      obtain ⟨vs, g1, g2⟩ := c
      obtain ⟨S2, e2⟩ := S.gone hk h0 rfl g1
      refine ⟨_, S2, e2, ?_⟩
      unfold Rep
      exact ⟨a, vs, rfl, upd_same, RepL.mono e2.sub _ _ g2.toL⟩
    · cases hx
  | dic kvs =>
    cases hx
    obtain ⟨ws, g1, g2⟩ := c
    obtain ⟨S2, e2⟩ := S.gone hk h0 rfl g1
    refine ⟨_, S2, e2, ?_⟩
    unfold Rep
    exact ⟨a, ws, rfl, .inl upd_same, RepK.mono e2.sub _ _ g2⟩
  | ins T fs =>
    unfold cellD at hx
    dsimp only at hx
    split at hx
    · rename_i zs hz
      split at hx
      · rename_i hl
        cases hx
        have := allD_eq hz
        subst this
        obtain ⟨dx, gs, g1, g2, g3, g4⟩ := c
        obtain ⟨S2, e2⟩ := S.gone hk h0 rfl g1
        refine ⟨_, S2, e2, ?_⟩
        unfold Rep
        refine ⟨a, dx, gs, rfl, upd_same, ?_, RepL.mono e2.sub _ _ g4.toL⟩
        rw [g2, List.length_map, hl]
        exact List.take_length
      · cases hx
    · cases hx
  | gone => cases hx
end
def frzV (d : DV) (M : Mem) (P : Post) : Prop := match d with
  | .d x => P (.d x) M
  | .m k => (match M[k]? with
    | some m => (match cellD m with
      | some x => P (.d x) (M.set k .gone)
      | none => False)
    | none => False)
  | .pr _ _ => False
section
variable {X : Cx} {e : Expr} {fe : ET} {sts : List Stmt} {t : ST}
/-- the same expression; what it gives is frozen -/
def tFz (fe : ET) : ET := fun ρ M P x => fe ρ M (fun d M1 => frzV d M1 P) x
theorem de_fz (he : DE X e fe) : DE X e (tFz fe) where
  run := fun {ρ M P x} h {σ H B L Z} S E x1 {Q} q => by
    refine he.run h S E x1 fun d M1 v B1 L1 H1 h1 e1 S1 r1 => ?_
    unfold frzV at h1
    dsimp only at h1
    split at h1
    · exact q _ _ _ _ _ _ h1 e1 S1 r1
    · rename_i k
      split at h1
      · rename_i m hm
        split at h1
        · rename_i x hx
          obtain ⟨a, rfl, h2⟩ := r1
          obtain ⟨B2, S2, e2, r2⟩ := S1.frz h2 hm hx
          exact q _ _ _ _ _ _ h1 (e1.trans e2) S2 r2
        · exact h1.elim
      · exact h1.elim
    · exact h1.elim
/-- ahead of a block: the cell that the slot i holds is frozen -/
def tFrz (i : Nat) (t : ST) : ST := fun E ρ M => match ρ[i]? with
  | some (some d) => frzV d M fun d' M' => t E (ρ.set i (some d')) M'
  | _ => False
theorem dss_frz (i : Nat) (h : DSs X sts t) : DSs X sts (tFrz i t) where
  run := fun {E ρ M} h' {σ H B L Z} S V {F} l => by
    unfold tFrz at h'
    split at h'
    · rename_i d hd
      obtain ⟨v, h1, h2⟩ := V.at_ i d hd
      have set_same : σ.set i (some v) = σ := set_self h1
      unfold frzV at h'
      split at h'
      · have V2 := V.set h2 i
        rw [set_same] at V2
        exact h.run h' S V2 l
      · rename_i k
        split at h'
        · rename_i m hm
          split at h'
          · rename_i x hx
            obtain ⟨a, rfl, h3⟩ := h2
            obtain ⟨B2, S2, e2, r2⟩ := S.frz h3 hm hx
            have V2 := (V.mono e2).set (x := .d x) r2 i
            rw [set_same] at V2
            exact h.run h' S2 V2 (l.mono e2)
          · exact h'.elim
        · exact h'.elim
      · exact h'.elim
    · exact h'.elim
end
/-! ### functions of data -/
abbrev DSp0 := List D → (D → Prop) → (Value → List (Str × D) → Prop) → Prop
def Up0 (K : PySem.W.Frag) (dsp : DSp0) : Sp := fun vs H Q E => ∃ B Z ds P x, StM K B [] Z [] H ∧ RepL K B ds vs ∧ dsp ds P x ∧
  (∀ d v B' H', P d → Sub B B' → StM K B' [] Z [] H' → Rep K B' d v → Q v H') ∧
  (∀ cls fs d B' H', x cls fs → Sub B B' → StM K B' [] Z [] H' → XRep K B' d fs → E cls d H')
/-- the cells dropped -/
theorem StM.drop {K : PySem.W.Frag} {B : Hp} {L : List Addr} {Z : Zs} {M : Mem} {H : Hp} (S : StM K B L Z M H) : StM K B [] Z [] H :=
  ⟨S.sub, fun q hq => ⟨(S.zh q hq).1, by simp, (S.zh q hq).2.2⟩, rfl, List.nodup_nil, fun i a o h => by simp at h, fun i a o h => by simp at h, fun i a h => by simp at h, S.cst⟩
/-- the cells held beside -/
def heldZ (B H : Hp) : List Addr → Zs
  | [] => []
  | a :: r => match B a, H a with
    | none, some o => (a, o) :: heldZ B H r
    | _, _ => heldZ B H r
theorem mem_heldZ {B H : Hp} {q : Addr × HO} : ∀ {L : List Addr}, q ∈ heldZ B H L ↔ q.1 ∈ L ∧ B q.1 = none ∧ H q.1 = some q.2
  | [] => by simp [heldZ]
  | a :: r => by
    unfold heldZ
    split
    · rename_i h1 h2
      rw [List.mem_cons, mem_heldZ, List.mem_cons]
      constructor
      · rintro (rfl | ⟨h3, h4⟩)
        · exact ⟨.inl rfl, h1, h2⟩
        · exact ⟨.inr h3, h4⟩
      · rintro ⟨h3 | h3, h4, h5⟩
        · left
          obtain ⟨b, u⟩ := q
          simp at h3
          subst h3
          rw [h2] at h5
          cases h5
          rfl
        · exact .inr ⟨h3, h4, h5⟩
    · rename_i hne
      rw [mem_heldZ, List.mem_cons]
      constructor
      · rintro ⟨h3, h4⟩
        exact ⟨.inr h3, h4⟩
      · rintro ⟨h3 | h3, h4, h5⟩
        · subst h3
          exact absurd h5 (hne _ h4)
        · exact ⟨h3, h4, h5⟩
theorem StM.toPure {K : PySem.W.Frag} {B : Hp} {L : List Addr} {Z : Zs} {M : Mem} {H : Hp} (S : StM K B L Z M H) : StM K B [] (heldZ B H L ++ Z) [] H :=
  ⟨S.sub, fun q hq => by
    rcases List.mem_append.mp hq with h | h
    · obtain ⟨h1, h2, h3⟩ := mem_heldZ.mp h
      exact ⟨h3, by simp, fun _ => h2⟩
    · exact ⟨(S.zh q h).1, by simp, (S.zh q h).2.2⟩, rfl, List.nodup_nil, fun i a o h => by simp at h, fun i a o h => by simp at h, fun i a h => by simp at h, S.cst⟩
theorem cell_lock {K : PySem.W.Frag} {B : Hp} {L : List Addr} {H : Hp} {a : Addr} : ∀ {m : MO}, CellOk K B L H a m → m.gone? = false → ∀ u, H a = some u → isLock u = false
  | .lst _, c, _, u, h => by
    obtain ⟨vs, g, _⟩ := c
    rw [g] at h
    cases h
    rfl
  | .dic _, c, _, u, h => by
    obtain ⟨vs, g, _⟩ := c
    rw [g] at h
    cases h
    rfl
  | .ins _ _, c, _, u, h => by
    obtain ⟨dx, gs, g, _⟩ := c
    rw [g] at h
    cases h
    rfl
  | .gone, _, g, _, _ => by cases g
theorem StM.ofPure {K : PySem.W.Frag} {B B' : Hp} {L : List Addr} {Z : Zs} {M : Mem} {H H' : Hp} (S : StM K B L Z M H) (e : Sub B B') (S' : StM K B' [] (heldZ B H L ++ Z) [] H') : StM K B' L Z M H' := by
  have key : ∀ i a, L[i]? = some a → B a = none → H' a = H a := fun i a h hb => by
    cases hH : H a with
    | none => exact absurd hH (S.live i a h)
    | some o => exact (S'.zh (a, o) (List.mem_append_left _ (mem_heldZ.mpr ⟨List.mem_of_getElem? h, hb, hH⟩))).1
  refine ⟨S'.sub, fun q hq => ⟨(S'.zh q (List.mem_append_right _ hq)).1, (S.zh q hq).2.1, (S'.zh q (List.mem_append_right _ hq)).2.2⟩, S.len, S.nod, fun i a o h ho hg => ?_, fun i a m h hm => ?_, fun i a h => ?_, S'.cst⟩
  · have hb := S.out i a o h ho hg
    cases hH : H a with
    | none => exact absurd hH (S.live i a h)
    | some u => exact (S'.zh (a, u) (List.mem_append_left _ (mem_heldZ.mpr ⟨List.mem_of_getElem? h, hb, hH⟩))).2.2 (cell_lock (S.cell i a o h ho) hg u hH)
  · cases m with
    | gone => trivial
    | lst xs => exact (S.cell i a _ h hm).mono ⟨e, [], by simp⟩ (key i a h (S.out i a _ h hm rfl))
    | dic xs => exact (S.cell i a _ h hm).mono ⟨e, [], by simp⟩ (key i a h (S.out i a _ h hm rfl))
    | ins T xs => exact (S.cell i a _ h hm).mono ⟨e, [], by simp⟩ (key i a h (S.out i a _ h hm rfl))
  · cases hb : B a with
    | none => rw [key i a h hb]; exact S.live i a h
    | some o =>
      obtain ⟨o', h1, _, _⟩ := e a o hb
      obtain ⟨o2, h2, _, _⟩ := S'.sub a o' h1
      rw [h2]
      simp

/-- the wants of a body of data: only data goes out -/
def ret0 (P : D → Prop) : Post := fun d _ => match d with
  | .d z => P z
  | _ => False
def ends0 (P : D → Prop) (x : Value → List (Str × D) → Prop) : DEnds := { nx := fun _ _ => P .non, rt := ret0 P, ex := fun c fs _ _ => x c fs }
section
variable (P : Program) (w : World) (K : PySem.W.Frag) (mg : Str → Option Value) (base : Heap)
structure Callee0 (x : Str) (k : Nat) (ps : List Str) (dsp : DSp0) : Prop where
  ex : ∃ f fd, mg x = some (.ref f) ∧ PySem.W.keepIn K (.ref f) = true ∧ BindsF K f fd ps ∧ FnOk P w K mg base (L2.CX P w) k f fd ps (Up0 K dsp)
structure CalleeM0 (T : ClsT) (m : Str) (k : Nat) (ps : List Str) (dsp : DSp0) : Prop where
  ex : ∃ f fd, Meth K T.C m f ∧ Binds K fd ps [] ∧ FnOk P w K mg base (L2.CX P w) k f fd ps (Up0 K dsp)
end
section
variable {P : Program} {w : World} {K : PySem.W.Frag} {mg : Str → Option Value} {base : Heap} {x m qual : Str} {st : Stmt} {N ps : List Str} {k : Nat} {dsp : DSp0} {T : ClsT} {f : Addr} {fd : FuncData}
theorem fn_dl0 (F : Fun K x qual st f fd) (S : FnScope N ps (defScope st)) (len : ∀ ds P x, dsp ds P x → ds.length = ps.length)
    (hbody : ∀ (cdv : Value) (A : Around) (outer : List PySem.Env) (s : Shared) (H : Hp) (E : XK), Room k (A.deeper (envOfC qual (defScope st) s.heap.objs.size f cdv)) →
      ∃ t, DSs (cxOf (L2.CX P w) P w K mg base N qual (defScope st) f cdv A outer s H E) (defBody st) t ∧ ∀ ds P x, dsp ds P x → t (ends0 P x) (startD N (ds.map DV.d)) []) : FnOk P w K mg base (L2.CX P w) (k + 1) f fd ps (Up0 K dsp) := by
  refine F.okX S (fun vs H Q E h => ?_) (fun cdv A outer s H vs Q E hr h => ?_)
  · obtain ⟨B, Z, ds, P, x, _, r, hd, _⟩ := h
    rw [← r.len]
    exact len _ _ _ hd
  · obtain ⟨t, ht, hd⟩ := hbody cdv A outer s H E hr
    refine ⟨sSs (cxOf (L2.CX P w) P w K mg base N qual (defScope st) f cdv A outer s H E) (defBody st), pss_s, ?_⟩
    obtain ⟨B, Z, ds, P', x, S1, r, h1, hP, hX⟩ := h
    refine ht.run (hd _ _ _ h1) S1 (start_env (r.vs (L := []))) ⟨fun ρ' M' B' L' σ' H' a b c d => hP _ _ _ _ a b.sub c.drop (by simp only [Rep]), fun d M' v B' L' H' a b c r => ?_, fun _ _ _ _ _ _ a => a.elim, fun _ _ _ _ _ _ a => a.elim, ?_⟩
    · match d, a, r with
      | .d z, a, r => exact hP _ _ _ _ a b.sub c.drop r
    · exact ⟨fun cls d _ H => E cls d H, takes_of rfl rfl rfl rfl, fun cls fs ρ' M' d B' L' σ' H' a b c _ r => hX cls fs d B' H' a b.sub c.drop r⟩
theorem callee_dl0 (F : FunG K mg x st ps) (S : FnScope N ps (defScope st)) (len : ∀ ds P x, dsp ds P x → ds.length = ps.length)
    (hbody : ∀ (f : Addr) (cdv : Value) (A : Around) (outer : List PySem.Env) (s : Shared) (H : Hp) (E : XK), Room k (A.deeper (envOfC x (defScope st) s.heap.objs.size f cdv)) →
      ∃ t, DSs (cxOf (L2.CX P w) P w K mg base N x (defScope st) f cdv A outer s H E) (defBody st) t ∧ ∀ ds P x, dsp ds P x → t (ends0 P x) (startD N (ds.map DV.d)) []) : Callee0 P w K mg base x (k + 1) ps dsp := by
  obtain ⟨f, fd, F, hm, hb⟩ := F.ex
  exact ⟨f, fd, hm, F.kp, ⟨hb, Fun.isF F⟩, fn_dl0 F S len (hbody f)⟩
theorem calleeM_dl0 (F : FunM K T m qual st ps) (S : FnScope N ps (defScope st)) (len : ∀ ds P x, dsp ds P x → ds.length = ps.length)
    (hbody : ∀ (f : Addr) (cdv : Value) (A : Around) (outer : List PySem.Env) (s : Shared) (H : Hp) (E : XK), Room k (A.deeper (envOfC qual (defScope st) s.heap.objs.size f cdv)) →
      ∃ t, DSs (cxOf (L2.CX P w) P w K mg base N qual (defScope st) f cdv A outer s H E) (defBody st) t ∧ ∀ ds P x, dsp ds P x → t (ends0 P x) (startD N (ds.map DV.d)) []) : CalleeM0 P w K mg base T m (k + 1) ps dsp := by
  obtain ⟨f, fd, F, hm, hb⟩ := F.ex
  exact ⟨f, fd, hm, hb, fn_dl0 F S len (hbody f)⟩
/-- a function of data, called in any memory with data or frozen cells -/
theorem up_of0 : ∀ vs H Q E, Up K (fun ds M P x => match allD ds with
    | some xs => dsp xs (fun z => P (.d z) M) (fun c fs => x c fs M)
    | none => False) vs H Q E → Up0 K dsp vs H Q E := fun vs H Q E h => by
  obtain ⟨B, L, Z, ds, M, P, x, S, r, hd, hP, hX⟩ := h
  split at hd
  · rename_i xs hx
    have := allD_eq hx
    subst this
    exact ⟨B, heldZ B H L ++ Z, xs, _, _, S.toPure, r.toL, hd, fun d v B' H' a b c r => hP _ _ _ _ _ _ a ⟨b, [], by simp⟩ (S.ofPure b c) r, fun cls fs d B' H' a b c r => hX _ _ _ _ _ _ _ a ⟨b, [], by simp⟩ (S.ofPure b c) r⟩
  · exact hd.elim
def lift0 (dsp : DSp0) : DSp := fun ds M P x => match allD ds with
  | some xs => dsp xs (fun z => P (.d z) M) (fun c fs => x c fs M)
  | none => False
theorem Callee0.up (C : Callee0 P w K mg base x k ps dsp) : Callee P w K mg base x k ps (lift0 dsp) := by
  obtain ⟨f, fd, h1, h2, h3, F⟩ := C.ex
  exact ⟨f, fd, h1, h2, h3, F.imp up_of0⟩
theorem CalleeM0.up (C : CalleeM0 P w K mg base T m k ps dsp) : CalleeM P w K mg base T m k ps (lift0 dsp) := by
  obtain ⟨f, fd, h1, h3, F⟩ := C.ex
  exact ⟨f, fd, h1, h3, F.imp up_of0⟩
theorem Callee.mono {j : Nat} {dsp : DSp} (C : Callee P w K mg base x k ps dsp) (h : k ≤ j) : Callee P w K mg base x j ps dsp := by
  obtain ⟨f, fd, h1, h2, h3, F⟩ := C.ex
  exact ⟨f, fd, h1, h2, h3, F.mono h⟩
/-- one promise for all of a family -/
theorem Callee.all {ι : Type} {dsp : ι → DSp} (i0 : ι) (C : ∀ i, Callee P w K mg base x k ps (dsp i)) : Callee P w K mg base x k ps (fun ds M P' x' => ∃ i, dsp i ds M P' x') := by
  obtain ⟨f, fd, h1, h2, h3, F⟩ := (C i0).ex
  have key : ∀ i, FnOk P w K mg base (L2.CX P w) k f fd ps (Up K (dsp i)) := fun i => by
    obtain ⟨g, gd, g1, g2, g3, G⟩ := (C i).ex
    rw [h1] at g1
    cases g1
    obtain ⟨oc, od, osl, l1⟩ := h3.is
    obtain ⟨oc2, od2, osl2, l2⟩ := g3.is
    rw [l1] at l2
    cases l2
    exact G
  refine ⟨f, fd, h1, h2, h3, ⟨fun vs H Q E h => ?_, fun A outer s H args us vs Q E hr he hb hv hs => ?_⟩⟩
  · obtain ⟨B, L, Z, ds, M, P', x', h0, h1', ⟨i, h2'⟩, h3', h4⟩ := h
    exact (key i).len vs H Q E ⟨B, L, Z, ds, M, P', x', h0, h1', h2', h3', h4⟩
  · obtain ⟨B, L, Z, ds, M, P', x', h0, h1', ⟨i, h2'⟩, h3', h4⟩ := hs
    exact (key i).run A outer s H args us vs Q E hr he hb hv ⟨B, L, Z, ds, M, P', x', h0, h1', h2', h3', h4⟩
end
end DL

namespace DL
open PySem PySem.Spec PyProof.Rows L2
variable [Csts]
/-! ### isinstance -/
def tyOf : D → Option TyN
  | .non => some .non
  | .bl _ => some .bool
  | .int _ => some .int
  | .str _ => some .str
  | .lst _ => some .list
  | .frl _ => some .list
  | .tup _ => some .tuple
  | .dic _ => some .dict
  | _ => none
def tyOfV (M : Mem) : DV → Option TyN
  | .d x => tyOf x
  | .m k => match M[k]? with
    | some (.lst _) => some .list
    | some (.dic _) => some .dict
    | _ => none
  | .pr _ _ => none
def isiB (t n : TyN) : Bool := match t, n with
  | .int, .int => true
  | .bool, .bool => true
  | .bool, .int => true
  | .str, .str => true
  | .tuple, .tuple => true
  | .list, .list => true
  | .dict, .dict => true
  | .non, .non => true
  | _, _ => false
theorem isi_ok (t n : TyN) : kitB t.nm n.nm = some (isiB t n) := by
  cases t <;> cases n <;> decide +kernel
section
variable {X : Cx}
theorem ty_v {K : PySem.W.Frag} {B : Hp} {L : List Addr} {Z : Zs} {M : Mem} {H : Hp} (S : StM K B L Z M H) {d : DV} {v : V} {t : TyN} (r : RepV K B L d v) (h : tyOfV M d = some t) : TyX K H v (.type t.nm) := by
  cases d with
  | pr _ _ => cases h
  | m k =>
    unfold tyOfV at h
    dsimp only at h
    split at h
    · rename_i xs hk
      cases h
      obtain ⟨p, vs, rfl, g1, g2⟩ := S.lst r hk
      exact .base (.lst g1)
    · rename_i kvs hk
      cases h
      obtain ⟨a, rfl, h2⟩ := r
      obtain ⟨a', h3, cell⟩ := S.at_ hk
      have : a' = a := Option.some.inj (h3.symm.trans h2)
      subst this
      obtain ⟨ws, g1, g2⟩ := cell
      exact .base (.dK g1)
    · cases h
  | d x =>
    cases x <;> (unfold tyOfV tyOf at h) <;> first
      | (cases h; done)
      | skip
    · cases h
      have := rv_non.mp r
      subst this
      exact .base .non
    · cases h
      have := rv_bl.mp r
      subst this
      exact .base (.bl _)
    · cases h
      have := rv_int.mp r
      subst this
      exact .base (.int _)
    · cases h
      have := rv_str.mp r
      subst this
      exact .base (.str _)
    · cases h
      obtain ⟨p, vs, rfl, g1, g2⟩ := S.lst (xs := _) r rfl
      exact .base (.lst g1)
    · cases h
      unfold RepV Rep at r
      obtain ⟨a, vs, rfl, g1, g2⟩ := r
      rcases S.sub.l g1 with (g1 | ⟨o, g1⟩) | ⟨o, its, n, g1, g2, _⟩
      · exact .base (.lst g1)
      · exact .base (.frz g1)
      · exact .kList g1 g2
    · cases h
      unfold RepV Rep at r
      obtain ⟨a, vs, rfl, g1, g2⟩ := r
      rcases S.sub.t g1 with (g1 | ⟨o, g1⟩) | ⟨o, its, n, g1, g2, _⟩
      · exact .base (.tup g1)
      · exact .fTuple g1
      · exact .kTuple g1 g2
    · cases h
      unfold RepV Rep at r
      obtain ⟨a, vs, rfl, g1, g2⟩ := r
      rcases S.sub.rdK g1 with g1 | ⟨o, g1⟩
      · exact .base (.dK g1)
      · exact .fDict g1
def oIsi : CT := fun ds M P => match ds with
  | [d, .d (.ty n)] => (match tyOfV M d with
    | some t => P (.d (.bl (isiB t n))) M
    | none => False)
  | _ => False
theorem dc_isi : DC X (.builtin "isinstance") oIsi where
  run := fun {ds M P} h {vs B L Z H} S rs {Q} q => by
    unfold oIsi at h
    split at h
    · rename_i d n
      split at h
      · rename_i t ht
        obtain ⟨v, w, rfl, r1, r2⟩ := two_v rs
        have := rv_ty.mp r2
        subst this
        exact callS call_isi ⟨v, _, _, _, _, rfl, .ty _, ty_v S r1 ht, kit_ty (isi_ok t n), q.here S h (rv_bl.mpr rfl)⟩
      · exact h.elim
    · exact h.elim
-- isinstance(e, (T1, T2))
variable {e : Expr} {fe : ET} {pos p p1 p2 p3 : Pos} {x1 x2 : Str} {k : Nat}
def tIsi2 (t1 t2 : TyN) (fe : ET) : ET := fun ρ M P x => fe ρ M (fun d M1 => match tyOfV M1 d with
  | some t => P (.d (.bl (isiB t t1 || isiB t t2))) M1
  | none => False) x
theorem de_isi2 (t1 t2 : TyN) (hm : X.mg "isinstance" = none) (h1 : X.mg x1 = none) (h2 : X.mg x2 = none) (v1 : bootBuiltins x1 = some (.type t1.nm)) (v2 : bootBuiltins x2 = some (.type t2.nm)) (he : DE X e fe) (hg : Gl X "isinstance" := by rfl) (g1 : Gl X x1 := by rfl) (g2 : Gl X x2 := by rfl)
    (n1 : x1 ≠ "__name__" := by decide) (n2 : x2 ≠ "__name__" := by decide) (d1 : (x1 == ("__debug__" : Str)) = false := by decide) (d2 : (x2 == ("__debug__" : Str)) = false := by decide)
    (hs : starEach (e :: [.Tuple [.Name x1 p1, .Name x2 p2] k p3]) X.env = (false, eval e X.env) :: starEach [.Tuple [.Name x1 p1, .Name x2 p2] k p3] X.env := by rfl)
    (hpl : (backTo pos (starEach [.Tuple [.Name x1 p1, .Name x2 p2] k p3] X.env)).any (·.1) = false := by rfl)
    (hs2 : starEach [.Tuple [.Name x1 p1, .Name x2 p2] k p3] X.env = (false, eval (.Tuple [.Name x1 p1, .Name x2 p2] k p3) X.env) :: starEach [] X.env := by rfl)
    (hs3 : starEach [.Name x1 p1, .Name x2 p2] X.env = (false, eval (.Name x1 p1) X.env) :: starEach [.Name x2 p2] X.env := by rfl) (hs4 : starEach [.Name x2 p2] X.env = (false, eval (.Name x2 p2) X.env) :: starEach [] X.env := by rfl) :
    DE X (.Call (.Name "isinstance" p) [e, .Tuple [.Name x1 p1, .Name x2 p2] k p3] [] pos) (tIsi2 t1 t2 fe) where
  run := fun {ρ M P x} h {σ H B L Z} S E xk {Q} q => by
    refine PE.s (pe_callB call_isiT hg hm PyProof.Rows.boot_isinstance (pa_cons pe_s (pa_cons (pe_tup (pa_cons (pe_bltn (v := .ty t1.nm) g1 h1 v1 rfl n1 d1) (pa_cons (pe_bltn (v := .ty t2.nm) g2 h2 v2 rfl n2 d2) pa_nil hs4) hs3)) pa_nil hs2) hs) (by decide) (by decide) hs hpl) ?_
    refine he.run h S E xk fun d M1 v B1 L1 H1 h1 e1 S1 r1 => ?_
    dsimp only at h1
    split at h1
    · rename_i t ht
      refine ⟨by show 2 ≤ sizeLine; decide, fun z hz => ?_⟩
      obtain ⟨S2, e2⟩ := S1.newD (o := .tup [.ty t1.nm, .ty t2.nm]) hz
      refine ⟨v, z, _, _, [.type t1.nm, .type t2.nm], isiB t t1 || isiB t t2, rfl, upd_same, .cons (.ty _) (.cons (.ty _) .nil), ty_v S2 (r1.mono e2) ht, ?_, q _ _ _ _ _ _ h1 (e1.trans e2) S2 (rv_bl.mpr rfl)⟩
      exact kitAny_cons (kit_ty (isi_ok t t1)) (fun hf => by rw [hf, Bool.false_or]; exact kitAny_cons (kit_ty (isi_ok t t2)) (fun hf2 => by rw [hf2]; exact kitAny_nil) (fun ht2 => ht2)) (fun htr => by rw [htr]; rfl)
    · exact h1.elim
/-! ### slots -/
variable {o value : Expr} {fo : ET} {f : Str}
structure SloOk (K : PySem.W.Frag) (T : ClsT) : Prop where
  cls : SlX.SCls K T.C
  slot : ∀ j f, T.ns[j]? = some f → ∃ p, SlX.Slot1 K T.C f p j
def tSlo (T : ClsT) (j : Nat) (fe : ET) : ET := fun ρ M P x => fe ρ M (fun d M1 => match d with
  | .d (.slo T' fs) => T' = T ∧ (match fs[j]? with
    | some y => P (.d y) M1
    | none => False)
  | _ => False) x
theorem de_slo (T : ClsT) (j : Nat) (c : SloOk X.K T) (he : DE X e fe) (hf : T.ns[j]? = some f := by rfl) (hb : attributeBase e f X.env (eval e X.env) = eval e X.env := by rfl) : DE X (.Attribute e f pos) (tSlo T j fe) where
  run := fun {ρ M P x} h {σ H B L Z} S E x1 {Q} q => by
    refine PE.s (SlX.pe_sl pe_s hb) ?_
    refine he.run h S E x1 fun d M1 v B1 L1 H1 h1 e1 S1 r1 => ?_
    dsimp only at h1
    split at h1
    · rename_i T' fs
      obtain ⟨rfl, h1⟩ := h1
      split at h1
      · rename_i y hy
        unfold RepV Rep at r1
        obtain ⟨a, dx, vs, rfl, g1, g2, g3⟩ := r1
        obtain ⟨w, h3, h4⟩ := (g3.vs (L := L1)).get (i := j) (x := .d y) (by rw [List.getElem?_map, hy]; rfl)
        obtain ⟨ps, hp⟩ := c.slot j f hf
        refine ⟨a, T'.C, dx, ps, vs.map some, j, w, rfl, .inr ⟨S1.sub.eq g1, S1.sub.eq g2⟩, c.cls, hp, by rw [List.getElem?_map, h3]; rfl, (q.mono e1).here S1 h1 h4⟩
      · exact h1.elim
    · exact h1.elim
end
end DL

namespace DL
open PySem PySem.Spec PyProof.Rows L2
variable [Csts]
/-! ### enumerate(a tuple) -/
theorem new_enumT (tt : Addr) (vals : Array Value) : Meets (Builtin.«enumerate.__new__» ⟨[.type "enumerate", .ref tt], []⟩)
    (fun _ R st => st.heap.IsTuple tt vals ∧ R (.ok (.ret (.ref (st.heap.push { cls := .type "tuple_iterator", data := .fields #[.ref tt, .int 0 0] }).objs.size)))
      { st with heap := (st.heap.push { cls := .type "tuple_iterator", data := .fields #[.ref tt, .int 0 0] }).push { cls := .type "enumerate", data := .fields #[.none, .bool false, .ref st.heap.objs.size, rawInt 0, .none, .none] } }) :=
  .of_wp fun prog w A R st hh => by
    obtain ⟨hp0, gs0, dr0, tk0, os0⟩ := st
    obtain ⟨ht0, hh⟩ := hh
    have hsub0 := sub_enumerate
    have walk : ∀ {A' : Around} {E : Value → Shared → Prop} {Q : Value → Shared → Prop}, Q (.ref hp0.objs.size) ⟨hp0.push { cls := .type "tuple_iterator", data := .fields #[.ref tt, .int 0 0] }, gs0, dr0, tk0, os0⟩ → wpAny (model prog w) A' (pyIter (.ref tt)) Q E ⟨hp0, gs0, dr0, tk0, os0⟩ :=
      fun q => (begins_tuple tt vals).iter prog w _ _ ⟨hp0, gs0, dr0, tk0, os0⟩ _ ht0 q
    obtain ⟨ob0, hob0, hcl0, n0, hda0⟩ := id ht0
    wp_walk using walk, PySem.AutoSeq1.wpAny_loadPart' hob0
    refine wpAny_stack_any fun _ => wpAny_pure ?_
    split
    · rename_i c0 _ _ _ _ _
      cases (c0 == Value.type "enumerate") <;>
      · wp_walk using walk, PySem.AutoSeq1.wpAny_loadPart' hob0
        exact ⟨_, rfl, hh⟩
    · wp_walk using walk, PySem.AutoSeq1.wpAny_loadPart' hob0
      exact ⟨_, rfl, hh⟩
theorem call_enumT {prog : Program} {w : World} {A : Around} {E : Value → Shared → Prop} {st : Shared} {tt : Addr} {vals : Array Value} {Q : Value → Shared → Prop} (ht : st.heap.IsTuple tt vals)
    (k : ∀ h2, IsEnum h2 (st.heap.objs.size + 1) st.heap.objs.size 0 .none → h2.IsTupleIter st.heap.objs.size tt 0 → (∀ b o, st.heap.get? b = some o → h2.get? b = some o) → Q (.ref (st.heap.objs.size + 1)) { st with heap := h2 }) :
    wpAny (model prog w) A (call (.type "enumerate") [.ref tt]) Q E st := by
  refine callType_new F.called_enumerate (by decide) (F.typeCall_enumerate_1 _) (F.newCall_enumerate_1 _) (fun obj => F.args_object_init_2 obj _) F.entry_enumerate_new (new_enumT tt vals) ⟨ht, ?_⟩
  let it0 : Obj := { cls := .type "tuple_iterator", data := .fields #[.ref tt, .int 0 0] }
  have sz0 : (st.heap.push it0).objs.size = st.heap.objs.size + 1 := Heap.size_push ..
  show _ ∧ _
  rw [sz0]
  have en0 : IsEnum ((st.heap.push it0).push { cls := .type "enumerate", data := .fields #[.none, .bool false, .ref st.heap.objs.size, rawInt 0, .none, .none] }) (st.heap.objs.size + 1) st.heap.objs.size 0 .none := by
    have q0 := Heap.get?_push_size (st.heap.push it0) (o := { cls := .type "enumerate", data := .fields #[.none, .bool false, .ref st.heap.objs.size, rawInt 0, .none, .none] }) rfl
    rw [sz0] at q0
    exact q0
  exact ⟨⟨_, en0, rfl⟩, k _ en0 ⟨_, Heap.get?_push_of_some _ (Heap.get?_push_size _ rfl), rfl, rfl⟩ fun b o x => Heap.get?_push_of_some _ (Heap.get?_push_of_some _ x)⟩
def Iet (K : PySem.W.Frag) (a : Addr) : It :=
  ⟨fun i H => ∃ (zs : List V) (z : V), SqT K H a zs ∧ zs[i]? = some z, fun i H v H' => ∃ T z, v = .ref T ∧ H T = none ∧ H' = upd H T (.tup [.int (i : Nat), z]) ∧ ∀ zs, SqT K H a zs → zs[i]? = some z, fun i H => ∃ zs : List V, SqT K H a zs ∧ zs.length ≤ i⟩
theorem turn_enumT {P : Program} {w : World} {K : PySem.W.Frag} {elts : List Expr} {kk : Nat} {tpos : Pos} (a en it : Addr) :
    Turn P w K (.Tuple elts kk tpos) (Iet K a) [en, it] en (fun i h => (∃ old, IsEnum h en it ((i : Nat) : Int) old) ∧ h.IsTupleIter it a i ∧ en ≠ it) where
  mem := by simp
  obj := fun i h st b hb => by
    obtain ⟨⟨old, h1⟩, ⟨o, h2, _, h3⟩, _⟩ := st
    rcases (by simpa using hb : b = en ∨ b = it) with rfl | rfl
    · exact ⟨_, h1, fun v q => nomatch q⟩
    · exact ⟨o, h2, fun v q => by rw [h3] at q; cases q⟩
  keep := fun i h h' st k => ⟨st.1.imp fun old e => k en (by simp) _ e, st.2.1.at fun o q => k it (by simp) o q, st.2.2⟩
  item := by
    intro X hP hw hK hc i pins s σ H E I hf st hg
    subst hP hw hK
    obtain ⟨⟨old, h1⟩, h2, hne⟩ := st
    obtain ⟨zs, z, hq, hz⟩ := hg
    obtain ⟨its, rv, tp, _⟩ := I.tuple hq
    obtain ⟨u, hu, ru⟩ := rv.get hz
    have tp' : s.heap.IsTuple a its.toArray := tp
    have nait : a ≠ it := fun q => by
      obtain ⟨o, e1, e2, _⟩ := tp'
      obtain ⟨o', e3, e4, _⟩ := id h2
      rw [q, e3] at e1
      cases e1
      rw [e4] at e2
      exact absurd (Value.type.inj e2) (by decide)
    have naen : a ≠ en := fun q => by
      obtain ⟨o, e1, e2, _⟩ := tp'
      rw [q, (show s.heap.get? en = some _ from h1)] at e1
      cases e1
      exact absurd (Value.type.inj (show Value.type "enumerate" = Value.type "tuple" from e2)) (by decide)
    have lt1 : en < s.heap.objs.size := Heap.lt_size h1
    have lt2 : it < s.heap.objs.size := by
      obtain ⟨o, e, _⟩ := id h2
      exact Heap.lt_size e
    have dr := Draws.tuple (prog := X.prog) (w := X.w) (A := X.A.in1) (I.ok.hd hc) it a nait its.toArray
    have hi : i < its.toArray.size := by
      have := (List.getElem?_eq_some_iff.mp hu).1
      simpa using this
    refine wpAny_pyNext_enum_itemD dr h1 ⟨h2, tp'⟩ hi hne (by simp [hne, Ne.symm naen]) fun x h2' tk hx ho hst hT _ hk => ?_
    have ex : x = u := by
      have e2 : its.toArray[i]? = some x := hx
      rw [show its.toArray[i]? = its[i]? by simp, hu] at e2
      exact (Option.some.inj e2).symm
    subst ex
    refine ⟨_, rfl, wpAny_letOwnedTupleGo_enum (s := { s with heap := h2', toks := tk + 1 }) ho fun h3 he sb => ?_⟩
    have hT3 : h3.get? s.heap.objs.size = some { cls := .type "tuple", data := .seq #[.int i tk, x] } := (sb.2 _ (Nat.ne_of_gt lt1)).trans hT
    have nw : ObjOk X.prog X.w (upd H s.heap.objs.size (.tup [.int (i : Nat), z])) h3 s.heap.objs.size (.tup [.int (i : Nat), z]) :=
      ⟨by show 2 ≤ sizeLine; decide, [.int i tk, x], .cons ⟨_, rfl⟩ (.cons ru .nil), ⟨_, hT3, rfl, _, rfl⟩⟩
    have J : Inv X pins σ (upd H s.heap.objs.size (.tup [.int (i : Nat), z])) { s with heap := h3, toks := tk + 1 } :=
      I.turnedNew (ch := [en, it]) (fun b ob hb q => (sb.2 b (fun y => hb (by simp [y]))).trans (hk b ob (fun y => hb (by simp [y])) (fun y => hb (by simp [y])) q)) hf (Nat.le_refl _) nw
    refine ⟨.ref s.heap.objs.size, _, J, rfl, ⟨_, z, rfl, I.hok.fresh (Nat.le_refl _), rfl, fun ys hy => by rw [I.tuple_inj hy hq]; exact hz⟩, ⟨⟨x, ?_⟩, hst.1.at fun o q => (sb.2 it (Ne.symm hne)).trans q, hne⟩, fun b hb => ?_⟩
    · rw [show ((i + 1 : Nat) : Int) = (i : Int) + 1 by omega]
      exact he
    · have lt : b < s.heap.objs.size := by
        rcases (by simpa using hb : b = en ∨ b = it) with rfl | rfl
        · exact lt1
        · exact lt2
      rw [upd_ne (Nat.ne_of_lt lt)]
      exact (hf b hb).1
  done := by
    intro X hP hw hK hc i pins s σ H E I hf st hg
    subst hP hw hK
    obtain ⟨⟨old, h1⟩, h2, hne⟩ := st
    obtain ⟨zs, hq, hz⟩ := hg
    obtain ⟨its, rv, tp, _⟩ := I.tuple hq
    have tp' : s.heap.IsTuple a its.toArray := tp
    have nait : a ≠ it := fun q => by
      obtain ⟨o, e1, e2, _⟩ := tp'
      obtain ⟨o', e3, e4, _⟩ := id h2
      rw [q, e3] at e1
      cases e1
      rw [e4] at e2
      exact absurd (Value.type.inj e2) (by decide)
    have hT : s.TypeIs (.ref en) "enumerate" := ⟨_, h1, rfl⟩
    obtain ⟨f0, f1, f2, f3, f4, f5⟩ := hf it (by simp)
    have hl := rv.length
    unfold pyNext
    refine wpAny_bind (wpAny_attempt (wpAny_callSpecial?_slot (name := Str.ofString "__next__") hT F.slot_enumerate_next (wpAny_call_entry F.slot_enumerate_next hT F.entry_enumerate_next ?_ (F.args_enumerate_next_1 _))))
    show wpAny _ _ (field (.ref en) 2 >>= _) _ _ _
    refine wpAny_bind (wpAny_field h1 rfl (x := .ref it) rfl ?_)
    refine wpAny_bind (wpAny_nextOf_tuple_end (I.ok.hd hc) h2 tp' (by simp; omega) fun h3 x he hx => ?_)
    obtain ⟨o, ho, hcl⟩ := hx
    refine wpAny_bind (wpAny_isInstance (T := "StopIteration") (b := true) ⟨o, ho, hcl⟩ isSubtype_stop ?_)
    exact wpAny_pure ⟨rfl, I.turned (t' := s.toks) (fun b o hb q => he b o hb q) f0 f1 f3 f4 f5⟩
  self := fun A i s Q E st h => wpAny_pyIter_enum st.1.choose_spec h
/-- enumerate(a list or a tuple) -/
def iEnum2 (K : PySem.W.Frag) (ta : L2.TA) : L2.TI := fun σ H R => ta σ H fun vs H1 => ∃ a, vs = [.ref a] ∧ ((∃ zs, SqL K H1 a zs ∧ R (Ite K a) H1) ∨ (∃ zs, SqT K H1 a zs ∧ R (Iet K a) H1))
theorem pi_enum2 {X : Cx} {e : Expr} {ta : L2.TA} {p pos tpos : Pos} {elts : List Expr} {kk : Nat} (hg : Gl X "enumerate") (hm : X.mg "enumerate" = none) (ha : PA X [e] ta) (hs : starEach [e] X.env = [(false, eval e X.env)] := by rfl) :
    PI X (.Tuple elts kk tpos) (.Call (.Name "enumerate" p) [e] [] pos) (iEnum2 X.K ta) := by
  refine ⟨fun pins s σ H R I h => Call_ (ld_blt I hg hm boot_enumerate (PyProof.Rows.callWith_type1 (thn (ha.run pos pins s σ H _ I h) fun us s1 ⟨vs, H1, I1, r1, a, ex, q⟩ => ?_) hs rfl))⟩
  subst ex
  cases r1 with
  | cons r rr =>
    cases rr
    cases r
    have below : ∀ b ∈ [s1.heap.objs.size + 1, s1.heap.objs.size], s1.heap.objs.size ≤ b := fun b hb => by
      rcases (by simpa using hb : b = s1.heap.objs.size + 1 ∨ b = s1.heap.objs.size) with y | y
      · rw [y]; exact Nat.le_add_right _ _
      · rw [y]; exact Nat.le_refl _
    rcases q with ⟨zs, hq, q⟩ | ⟨zs, hq, q⟩
    · obtain ⟨its, rv, tp, hz⟩ := I1.list hq
      refine call_enumerate_list tp.isList fun h2 he hit _ hk => wpAny_pyIter_enum he ?_
      have I2 : Inv X pins σ H1 { s1 with heap := h2 } := I1.kept (t' := s1.toks) hk
      exact ⟨_, _, _, _, H1, rfl, I2, turn_enum a _ _, ⟨⟨.none, he⟩, hit, Nat.succ_ne_self _⟩, fun b hb => I1.fpOk (below b hb) (I1.hok.fresh (below b hb)), q⟩
    · obtain ⟨its, rv, tp, hz⟩ := I1.tuple hq
      refine call_enumT (show s1.heap.IsTuple a its.toArray from tp) fun h2 he hit hk => wpAny_pyIter_enum he ?_
      have I2 : Inv X pins σ H1 { s1 with heap := h2 } := I1.kept (t' := s1.toks) hk
      exact ⟨_, _, _, _, H1, rfl, I2, turn_enumT a _ _, ⟨⟨.none, he⟩, hit, Nat.succ_ne_self _⟩, fun b hb => I1.fpOk (below b hb) (I1.hok.fresh (below b hb)), q⟩
end DL

namespace DL
open PySem PySem.Spec PyProof.Rows L2
variable [Csts]
/-! ### enumerate -/
def pairV (i : Nat) : DV → DV
  | .d x => .d (.tup [.int (i : Int), x])
  | .m k => .pr (.int (i : Int)) k
  | .pr _ _ => .d .non
def noPr : DV → Bool
  | .pr _ _ => false
  | _ => true
def enumV (xs : List DV) : List DV := (List.range xs.length).map fun i => pairV i (xs.getD i (.d .non))
theorem enumV_len (xs : List DV) : (enumV xs).length = xs.length := by simp [enumV]
theorem enumV_get {xs : List DV} {i : Nat} {y : DV} (h : (enumV xs)[i]? = some y) : ∃ x, xs[i]? = some x ∧ y = pairV i x := by
  unfold enumV at h
  rw [List.getElem?_map] at h
  by_cases hi : i < xs.length
  · rw [List.getElem?_range hi] at h
    refine ⟨xs[i], List.getElem?_eq_getElem hi, ?_⟩
    simp at h
    rw [← h, List.getElem?_eq_getElem hi]
    rfl
  · rw [List.getElem?_eq_none (by simp; omega)] at h
    cases h
section
variable {X : Cx} {e tg : Expr} {fe : ET} {fas : AT} {p pos tpos : Pos} {elts : List Expr} {kk : Nat}
def iEnumV (fas : AT) : IT := fun ρ M R x => fas ρ M (fun ds M1 => match ds with
  | [d] => (match seqOf M1 d with
    | some xs => xs.all noPr = true ∧ R (enumV xs) (fun M' => seqOf M' d = some xs) M1
    | none => False)
  | _ => False) x
/-- the pair just made -/
theorem pair_new {K : PySem.W.Frag} {B : Hp} {L : List Addr} {Z : Zs} {M : Mem} {H : Hp} (S : StM K B L Z M H) {x : DV} {v : V} (r : RepV K B L x v) (hn : noPr x = true) (i : Nat) {T : Addr} (hT : H T = none) :
    ∃ B', Ext B L B' L ∧ StM K B' L Z M (upd H T (.tup [.int (i : Nat), v])) ∧ RepV K B' L (pairV i x) (.ref T) := by
  obtain ⟨S2, e2⟩ := S.newD (o := .tup [.int (i : Nat), v]) hT
  refine ⟨_, e2, S2, ?_⟩
  cases x with
  | pr _ _ => cases hn
  | d x =>
    show RepV K _ L (.d (.tup [.int (i : Int), x])) _
    unfold RepV Rep
    refine ⟨T, _, rfl, .inl (.inl upd_same), ?_⟩
    unfold RepL Rep
    refine ⟨rfl, ?_⟩
    unfold RepL
    exact ⟨Rep.mono e2.sub _ _ r, by unfold RepL; trivial⟩
  | m k =>
    obtain ⟨a, rfl, hk⟩ := r
    exact ⟨T, _, a, rfl, .inl (.inl upd_same), by simp only [Rep], hk⟩
theorem itd_enumV {B0 : Hp} {L0 : List Addr} {Z : Zs} {a : Addr} {xs : List DV} {d : DV} (r : RepV X.K B0 L0 d (.ref a)) (hn : xs.all noPr = true)
    (hl : ∀ B L M H, StM X.K B L [] M H → RepV X.K B L d (.ref a) → seqOf M d = some xs → ∃ vs, SqL X.K H a vs ∧ RepVs X.K B L xs vs) : Itd X Z (Ite X.K a) (enumV xs) (fun M' => seqOf M' d = some xs) B0 L0 where
  go := fun i y M' B' L' Z' H' hy st e S => by
    obtain ⟨x, hx, rfl⟩ := enumV_get hy
    obtain ⟨vs, g1, g2⟩ := hl B' L' M' H' (StM.zz (Z := []) (Z' := Z' ++ Z) (by simpa using S)) (r.mono e) st
    obtain ⟨v, h1, h2⟩ := g2.get hx
    refine ⟨⟨vs, v, g1, h1⟩, fun w H'' hw => ?_⟩
    obtain ⟨T, z, rfl, hT, rfl, hz⟩ := hw
    have : z = v := Option.some.inj ((hz vs g1).symm.trans h1)
    subst this
    exact pair_new S h2 (List.all_eq_true.mp hn x (List.mem_of_getElem? hx)) i hT
  stop := fun i M' B' L' Z' H' hi st e S => by
    obtain ⟨vs, g1, g2⟩ := hl B' L' M' H' (StM.zz (Z := []) (Z' := Z' ++ Z) (by simpa using S)) (r.mono e) st
    rw [enumV_len] at hi
    exact ⟨vs, g1, by rw [← g2.len]; exact hi⟩
theorem itd_enumT {B0 : Hp} {L0 : List Addr} {Z : Zs} {a : Addr} {ys : List D} (r : RepV X.K B0 L0 (.d (.tup ys)) (.ref a)) : Itd X Z (Iet X.K a) (enumV (ys.map DV.d)) (fun M' => seqOf M' (.d (.tup ys)) = some (ys.map DV.d)) B0 L0 where
  go := fun i y M' B' L' Z' H' hy st e S => by
    obtain ⟨x, hx, rfl⟩ := enumV_get hy
    have r2 := r.mono e
    unfold RepV Rep at r2
    obtain ⟨a2, vs, ea, g1, g2⟩ := r2
    cases ea
    obtain ⟨v, h1, h2⟩ := (g2.vs (L := L')).get hx
    refine ⟨⟨vs, v, S.sub.t g1, h1⟩, fun w H'' hw => ?_⟩
    obtain ⟨T, z, rfl, hT, rfl, hz⟩ := hw
    have : z = v := Option.some.inj ((hz vs (S.sub.t g1)).symm.trans h1)
    subst this
    have hn : noPr x = true := by
      rw [List.getElem?_map] at hx
      cases q : ys[i]? with
      | none => rw [q] at hx; cases hx
      | some z => rw [q] at hx; cases hx; rfl
    exact pair_new S h2 hn i hT
  stop := fun i M' B' L' Z' H' hi st e S => by
    have r2 := r.mono e
    unfold RepV Rep at r2
    obtain ⟨a2, vs, ea, g1, g2⟩ := r2
    cases ea
    rw [enumV_len] at hi
    exact ⟨vs, S.sub.t g1, by rw [← g2.len]; simpa using hi⟩
theorem di_enum (hg : Gl X "enumerate") (hm : X.mg "enumerate" = none) (ha : DA X [e] fas) (hs : starEach [e] X.env = [(false, eval e X.env)] := by rfl) : DI X (.Tuple elts kk tpos) (.Call (.Name "enumerate" p) [e] [] pos) (iEnumV fas) where
  run := fun {ρ M R x} h {σ H B L Z} S V x1 {RR} q => by
    refine PI.s (pi_enum2 hg hm pa_s hs) ?_
    refine ha.run h S V x1 fun ds M1 vs B1 L1 H1 h1 e1 S1 r1 => ?_
    dsimp only at h1
    split at h1
    · rename_i d
      split at h1
      · rename_i xs hx
        obtain ⟨v, rfl, r⟩ := one_v r1
        obtain ⟨hn, h1⟩ := h1
        by_cases ht : ∃ ys, d = .d (.tup ys)
        · obtain ⟨ys, rfl⟩ := ht
          have e : ys.map DV.d = xs := Option.some.inj hx
          subst e
          have r' := r
          unfold RepV Rep at r
          obtain ⟨a, ws, rfl, g1, g2⟩ := r
          exact ⟨a, rfl, .inr ⟨ws, S1.sub.t g1, q _ _ _ _ _ _ _ h1 e1 S1 (itd_enumT r')⟩⟩
        · have hl : ∀ B L M H v, StM X.K B L [] M H → RepV X.K B L d v → seqOf M d = some xs → ∃ a vs, v = .ref a ∧ SqL X.K H a vs ∧ RepVs X.K B L xs vs := by
            intro B L M H v S r hx
            cases d with
            | pr _ _ => cases hx
            | m k =>
              obtain ⟨p, vs, rfl, g1, g2⟩ := S.lst (xs := xs) r (by
                unfold seqOf at hx
                dsimp only at hx
                split at hx
                · rename_i ys hk
                  cases hx
                  exact hk
                · cases hx)
              exact ⟨p, vs, rfl, .inl (.inl g1), g2⟩
            | d x =>
              cases x with
              | lst ys =>
                have e : ys.map DV.d = xs := Option.some.inj hx
                subst e
                obtain ⟨p, vs, rfl, g1, g2⟩ := S.lst (xs := ys.map DV.d) r rfl
                exact ⟨p, vs, rfl, .inl (.inl g1), g2⟩
              | frl ys =>
                have e : ys.map DV.d = xs := Option.some.inj hx
                subst e
                unfold RepV Rep at r
                obtain ⟨p, vs, rfl, g1, g2⟩ := r
                exact ⟨p, vs, rfl, S.sub.l g1, g2.vs⟩
              | tup ys => exact absurd ⟨ys, rfl⟩ ht
              | non => cases hx
              | bl _ => cases hx
              | int _ => cases hx
              | str _ => cases hx
              | ref _ => cases hx
              | ty _ => cases hx
              | dic _ => cases hx
              | obj _ _ => cases hx
              | slo _ _ => cases hx
              | xcp _ _ _ _ => cases hx
          obtain ⟨a, ws, rfl, g1, g2⟩ := hl _ _ _ _ _ (StM.zz (Z := []) (Z' := Z) (by simpa using S1)) r hx
          refine ⟨a, rfl, .inl ⟨ws, g1, q _ _ _ _ _ _ _ h1 e1 S1 (itd_enumV r hn fun B L M H S r hx => ?_)⟩⟩
          obtain ⟨a2, us, ea, k1, k2⟩ := hl _ _ _ _ _ S r hx
          cases ea
          exact ⟨us, k1, k2⟩
      · exact h1.elim
    · exact h1.elim
end
end DL

namespace DL
open PySem PySem.Spec PyProof.Rows L2
variable [Csts]
/-! ### a dict that is walked is locked for good -/
theorem pe_lockAfter {X : Cx} {e : Expr} {te : L2.TE} (h : PE X e te) : PE X e (fun σ H Q => te σ H fun x H1 => Q x H1 ∨ ∃ d u, H1 d = some u ∧ Mut (some u) ∧ ∀ od, Q x (upd H1 d (.frz od u))) := by
  refine ⟨fun pins s σ H Q I hw => thn (h.run pins s σ H _ I hw) fun v s1 ⟨x, H1, I1, r, q⟩ => ?_⟩
  rcases q with q | ⟨d, u, hd, mu, q⟩
  · exact ⟨x, H1, I1, r, q⟩
  · obtain ⟨od, I2⟩ := I1.lock hd mu
    exact ⟨x, _, I2, r, q od⟩
theorem core_dK {o : HO} {ws : List (Key × V)} (h : core o = .dK ws) : o = .dK ws ∨ ∃ od, o = .frz od (.dK ws) := by
  cases o with
  | frz od v =>
    cases v with
    | dK w2 => right; exact ⟨od, by rw [show core (.frz od (.dK w2)) = .dK w2 from rfl] at h; rw [h]⟩
    | dT w2 => cases h
    | _ => cases h
  | _ => first | exact .inl h | cases h
theorem core_lock {o u : HO} (h1 : core o = core u) (h2 : ∃ ws, core u = .dK ws) : ∃ ws, core o = .dK ws := by
  obtain ⟨ws, e⟩ := h2
  exact ⟨ws, h1.trans e⟩
theorem lock_sub {B : Hp} {d : Addr} {ws : List (Key × V)} {od : Obj} (h : B d = some (.dK ws)) : Sub B (upd B d (.frz od (.dK ws))) := fun x u hx => by
  by_cases q : x = d
  · subst q
    rw [h] at hx
    cases hx
    exact ⟨_, upd_same, rfl, fun z => by cases z⟩
  · exact ⟨u, by rw [upd_ne q]; exact hx, rfl, fun _ => rfl⟩
section
variable {K : PySem.W.Frag} {B : Hp} {L : List Addr} {Z : Zs} {M : Mem} {H : Hp} {d : Addr} {ws : List (Key × V)}
theorem StM.lockB (S : StM K B L Z M H) (hB : B d = some (.dK ws)) {od : Obj} {H' : Hp} (hH : ∀ b, b ≠ d → H' b = H b) (hd : H' d = some (.frz od (.dK ws))) (hz : ∀ q ∈ Z, q.1 = d → H' q.1 = some q.2) :
    StM K (upd B d (.frz od (.dK ws))) L Z M H' ∧ Ext B L (upd B d (.frz od (.dK ws))) L := by
  have E : Ext B L (upd B d (.frz od (.dK ws))) L := ⟨lock_sub hB, [], by simp⟩
  refine ⟨⟨fun x u hx => ?_, fun q hq => ?_, S.len, S.nod, fun i a o h ho hg => ?_, fun i a m h hm => ?_, fun i a h => ?_, fun q hq => ?_⟩, E⟩
  · by_cases q : x = d
    · subst q
      rw [upd_same] at hx
      cases hx
      exact ⟨_, hd, rfl, fun _ => rfl⟩
    · rw [upd_ne q] at hx
      rw [hH x q]
      exact S.sub _ _ hx
  · obtain ⟨h1, h2, h3⟩ := S.zh q hq
    by_cases e : q.1 = d
    · have := hz q hq e
      rw [e, hd] at this
      refine ⟨by rw [e, hd]; exact this, h2, fun z => ?_⟩
      rw [← Option.some.inj this] at z
      cases z
    · exact ⟨by rw [hH _ e]; exact h1, h2, fun z => by rw [upd_ne e]; exact h3 z⟩
  · have h1 := S.out i a o h ho hg
    have : a ≠ d := fun z => by rw [z, hB] at h1; cases h1
    rw [upd_ne this]
    exact h1
  · by_cases g : m.gone? = true
    · cases m with
      | gone => trivial
      | _ => cases g
    · have h1 := S.out i a m h hm (by cases z : m.gone? <;> simp_all)
      have : a ≠ d := fun z => by rw [z, hB] at h1; cases h1
      exact (S.cell i a m h hm).mono E (hH a this)
  · by_cases e : a = d
    · rw [e, hd]
      simp
    · rw [hH a e]
      exact S.live i a h
  · obtain ⟨h1, h2⟩ := S.cst q hq
    have : q.1 ≠ d := fun z => by
      rw [z, hB] at h1
      rw [← Option.some.inj h1] at h2
      cases h2
    exact ⟨by rw [upd_ne this]; exact h1, h2⟩
/-- a dict of the data is locked, or can be -/
theorem StM.lockD (S : StM K B L Z M H) (h : Rd B d (.dK ws)) : (∃ o B', H d = some (.frz o (.dK ws)) ∧ B' d = some (.frz o (.dK ws)) ∧ StM K B' L Z M H ∧ Ext B L B' L) ∨
    (H d = some (.dK ws) ∧ ∀ o, ∃ B', B' d = some (.frz o (.dK ws)) ∧ StM K B' L Z M (upd H d (.frz o (.dK ws))) ∧ Ext B L B' L) := by
  rcases h with h | ⟨o, h⟩
  · obtain ⟨u, h1, h2, _⟩ := S.sub _ _ h
    rcases core_dK (h2.trans (show core (.dK ws) = .dK ws from rfl)) with rfl | ⟨od, rfl⟩
    · refine .inr ⟨h1, fun o => ⟨_, upd_same, S.lockB h (fun b hb => upd_ne hb) upd_same fun q hq e => ?_⟩⟩
      obtain ⟨g1, g2, g3⟩ := S.zh q hq
      rw [e, h1] at g1
      have g1 := Option.some.inj g1
      rw [← g1, e, h] at g3
      cases g3 rfl
    · refine .inl ⟨od, _, h1, upd_same, S.lockB h (fun b hb => rfl) h1 fun q hq e => (S.zh q hq).1⟩
  · obtain ⟨u, h1, h2, h3⟩ := S.sub _ _ h
    have := h3 rfl
    subst this
    exact .inl ⟨o, B, h1, h, S, Ext.refl B L⟩
end
/-! ### for k in d -/
def kD : Key → D
  | .inl i => .int i
  | .inr s => .str s
def keysOf (kvs : List (Key × D)) : List DV := kvs.map fun kv => .d (kD kv.1)
theorem kD_rep {K : PySem.W.Frag} {B : Hp} (k : Key) : Rep K B (kD k) (kV k) := by
  cases k <;> simp only [kD, kV, Rep]
theorem RepK.at_ {K : PySem.W.Frag} {B : Hp} : ∀ {kvs : List (Key × D)} {ws : List (Key × V)} {i : Nat} {k : Key} {v : V}, RepK K B kvs ws → ws[i]? = some (k, v) → ∃ x, kvs[i]? = some (k, x) ∧ Rep K B x v
  | [], [], _, _, _, _, e => by simp at e
  | (a, x) :: kvs, (b, u) :: ws, 0, k, v, h, e => by
    unfold RepK at h
    simp at e
    obtain ⟨rfl, rfl⟩ := e
    exact ⟨x, by simp [h.1], h.2.1⟩
  | (a, x) :: kvs, (b, u) :: ws, i + 1, k, v, h, e => by
    unfold RepK at h
    obtain ⟨y, h1, h2⟩ := RepK.at_ (i := i) h.2.2 (by simpa using e)
    exact ⟨y, by simpa using h1, h2⟩
  | [], _ :: _, _, _, _, h, _ => by unfold RepK at h; exact h.elim
  | (_, _) :: _, [], _, _, _, h, _ => by unfold RepK at h; exact h.elim
section
variable {X : Cx} {tg e : Expr} {fe : ET} {pos : Pos}
def iKeysD (fe : ET) : IT := fun ρ M R x => fe ρ M (fun d M1 => match d with
  | .d (.dic kvs) => R (keysOf kvs) (fun _ => True) M1
  | _ => False) x
theorem itd_keys {B0 : Hp} {L0 : List Addr} {Z : Zs} {d : Addr} {o : Obj} {kvs : List (Key × D)} {ws : List (Key × V)} (hB : B0 d = some (.frz o (.dK ws))) (r : RepK X.K B0 kvs ws) : Itd X Z (Itk d o ws) (keysOf kvs) (fun _ => True) B0 L0 where
  go := fun i y M' B' L' Z' H' hy st e S => by
    obtain ⟨u, h1, _, h2⟩ := e.sub _ _ hB
    have := h2 rfl
    subst this
    obtain ⟨u, h3, _, h4⟩ := S.sub _ _ h1
    have := h4 rfl
    subst this
    have hi : i < ws.length := by
      have := (List.getElem?_eq_some_iff.mp hy).1
      rw [← r.len]
      simpa [keysOf] using this
    refine ⟨⟨h3, hi⟩, fun w H'' hw => ?_⟩
    obtain ⟨rfl, k, v, hk, rfl⟩ := hw
    refine ⟨B', Ext.refl _ _, S, ?_⟩
    obtain ⟨x, hx, _⟩ := r.at_ hk
    unfold keysOf at hy
    rw [List.getElem?_map, hx] at hy
    cases hy
    exact kD_rep k
  stop := fun i M' B' L' Z' H' hi st e S => by
    obtain ⟨u, h1, _, h2⟩ := e.sub _ _ hB
    have := h2 rfl
    subst this
    obtain ⟨u, h3, _, h4⟩ := S.sub _ _ h1
    have := h4 rfl
    subst this
    refine ⟨h3, ?_⟩
    rw [← r.len]
    simpa [keysOf] using hi
theorem di_keys (he : DE X e fe) : DI X tg e (iKeysD fe) where
  run := fun {ρ M R x} h {σ H B L Z} S V x1 {RR} q => by
    refine PI.s (pi_keys (pe_lockAfter pe_s)) ?_
    refine he.run h S V x1 fun d M1 v B1 L1 H1 h1 e1 S1 r1 => ?_
    dsimp only at h1
    split at h1
    · rename_i kvs
      unfold RepV Rep at r1
      obtain ⟨a, ws, rfl, g1, g2⟩ := r1
      rcases S1.lockD g1 with ⟨o, B2, k1, k2, S2, e2⟩ | ⟨k1, k2⟩
      · exact .inl ⟨a, o, rfl, .inl ⟨ws, k1, q _ _ _ _ _ _ _ h1 (e1.trans e2) S2 (itd_keys k2 (RepK.mono e2.sub _ _ g2))⟩⟩
      · refine .inr ⟨a, _, k1, trivial, fun od => ⟨a, od, rfl, .inl ⟨ws, upd_same, ?_⟩⟩⟩
        obtain ⟨B2, k3, S2, e2⟩ := k2 od
        exact q _ _ _ _ _ _ _ h1 (e1.trans e2) S2 (itd_keys k3 (RepK.mono e2.sub _ _ g2))
    · exact h1.elim
/-! ### a known dict of the text -/
theorem de_cst {x : Str} {a : Addr} {o : Obj} {ws : List (Key × V)} {kvs : List (Key × D)} (hc : (a, HO.frz o (.dK ws)) ∈ Csts.cs) (r : ∀ B, RepK X.K B kvs ws) (hm : X.mg x = some (.ref a)) (hg : Gl X x := by rfl) (hd : (x == ("__debug__" : Str)) = false := by decide) :
    DE X (.Name x pos) (tC (.dic kvs)) where
  run := fun {ρ M P xx} h' {σ H B L Z} S E _ {Q} q => by
    refine PE.s (pe_glob (v := .ref a) hg hm rfl hd) ?_
    refine q.here S h' (v := .ref a) ?_
    unfold RepV Rep
    exact ⟨a, ws, rfl, .inr ⟨o, (S.cst _ hc).1⟩, r B⟩
/-! ### d.get(k, x) -/
variable {o f : Expr} {fo ff : ET} {apos cpos : Pos}
def tDgetD (fo fe ff : ET) : ET := fun ρ M P x => fo ρ M (fun d M1 => match d with
  | .d (.dic kvs) => fe ρ M1 (fun k M2 => ff ρ M2 (fun z M3 => match keyD k with
    | some k => P (match lookD kvs k with
      | some y => .d y
      | none => z) M3
    | none => False) x) x
  | _ => False) x
theorem de_dget2 (hu : X.A.units + 64 < cLine) (ho : DE X o fo) (he : DE X e fe) (hf : DE X f ff) (m : M2 X o "get" apos e f cpos := by exact ⟨rfl, rfl, rfl, rfl⟩) : DE X (.Call (.Attribute o "get" apos) [e, f] [] cpos) (tDgetD fo fe ff) where
  run := fun {ρ M P x} h {σ H B L Z} S V x1 {Q} q => by
    refine PE.s (pe_dget2 (by omega) pe_s pe_s pe_s m) ?_
    refine ho.run h S V x1 fun d M1 v B1 L1 H1 h1 e1 S1 r1 => ?_
    dsimp only at h1
    split at h1
    · rename_i kvs
      have r1' := r1
      unfold RepV Rep at r1
      obtain ⟨a, ws, rfl, g1, g2⟩ := r1
      refine ⟨a, rfl, .inl ⟨ws, S1.sub.rdK g1⟩, ?_⟩
      refine he.run h1 S1 (V.mono e1) (x1.mono e1) fun k M2 vk B2 L2 H2 h2 e2 S2 r2 => ?_
      refine hf.run h2 S2 (V.mono (e1.trans e2)) (x1.mono (e1.trans e2)) fun z M3 vz B3 L3 H3 h3 e3 S3 r3 => ?_
      dsimp only at h3
      split at h3
      · rename_i kk hk
        have g1' := e3.sub.rdK (e2.sub.rdK g1)
        have g2' := RepK.mono e3.sub _ _ (RepK.mono e2.sub _ _ g2)
        refine ⟨valV ws kk, .inl ⟨ws, kk, S3.sub.rdK g1', keyD_v r2 hk, rfl⟩, ?_⟩
        rcases g2'.val kk with ⟨y1, y2⟩ | ⟨y, w, y1, y2, y3⟩
        · rw [y2]
          rw [y1] at h3
          exact q _ _ _ _ _ _ h3 ((e1.trans e2).trans e3) S3 r3
        · rw [y2]
          rw [y1] at h3
          exact q _ _ _ _ _ _ h3 ((e1.trans e2).trans e3) S3 y3
      · exact h3.elim
    · exact h1.elim
/-! ### len -/
def oLenA : CT := fun ds M P => match ds with
  | [.d (.dic kvs)] => P (.d (.int kvs.length)) M
  | ds => oLen ds M P
theorem dc_lenA : DC X (.builtin "len") oLenA where
  run := fun {ds M P} h {vs B L Z H} S rs {Q} q => by
    unfold oLenA at h
    split at h
    · rename_i kvs
      obtain ⟨v, rfl, r⟩ := one_v rs
      unfold RepV Rep at r
      obtain ⟨a, ws, rfl, g1, g2⟩ := r
      intro pins s σ us I rv
      obtain ⟨u, rfl, ru⟩ := rv.one
      cases (show u = Value.ref a from ru)
      refine d_len I (S.sub.rdK g1) fun t s' I' => ⟨.int ws.length, H, I', ⟨t, rfl⟩, ?_⟩
      exact q.here S h (rv_int.mpr (by rw [g2.len]))
    · exact dc_len.run h S rs q
end
/-! ### {k: v, ..} -/
abbrev PrT := Rh → Mem → (List (Key × D) → Mem → Prop) → XPost → Prop
def sPr (X : Cx) : List (Option Expr) → List Expr → List (L2.TE × L2.TE)
  | some k :: ks, v :: vs => (sE X k, sE X v) :: sPr X ks vs
  | _, _ => []
structure DPr (X : Cx) (ks : List (Option Expr)) (vs : List Expr) (f : PrT) : Prop where
  run : ∀ {ρ M P x}, f ρ M P x → ∀ {σ H B L Z}, StM X.K B L Z M H → EnvR X.K B L σ ρ → XOk X B L Z σ x → ∀ {Q : List (V × V) → Hp → Prop},
    (∀ ps M' ws B' L' H', P ps M' → Ext B L B' L' → StM X.K B' L' Z M' H' → RepK X.K B' ps ws → Q (ws.map fun kv => (kV kv.1, kv.2)) H') → L2.tPairs (sPr X ks vs) σ H Q
def prNil : PrT := fun _ M P _ => P [] M
def prCons (fk fv : ET) (fr : PrT) : PrT := fun ρ M P x => fk ρ M (fun k M1 => match keyD k with
  | some kk => fv ρ M1 (fun v M2 => match v with
    | .d z => fr ρ M2 (fun ps M3 => P ((kk, z) :: ps) M3) x
    | _ => False) x
  | none => False) x
section
variable {X : Cx} {k v : Expr} {ks : List (Option Expr)} {vs : List Expr} {fk fv : ET} {fr : PrT} {pos : Pos}
theorem dpr_nil : DPr X [] [] prNil where
  run := fun {ρ M P x} h {σ H B L Z} S V x1 {Q} q => q [] M [] B L H h (Ext.refl B L) S (by unfold RepK; trivial)
theorem dpr_cons (hk : DE X k fk) (hv : DE X v fv) (hr : DPr X ks vs fr) : DPr X (some k :: ks) (v :: vs) (prCons fk fv fr) where
  run := fun {ρ M P x} h {σ H B L Z} S V x1 {Q} q => by
    show sE X k σ H _
    refine hk.run h S V x1 fun d M1 u B1 L1 H1 h1 e1 S1 r1 => ?_
    dsimp only at h1
    split at h1
    · rename_i kk hkk
      show sE X v σ H1 _
      refine hv.run h1 S1 (V.mono e1) (x1.mono e1) fun d2 M2 w B2 L2 H2 h2 e2 S2 r2 => ?_
      dsimp only at h2
      split at h2
      · rename_i z
        refine hr.run h2 S2 (V.mono (e1.trans e2)) (x1.mono (e1.trans e2)) fun ps M3 ws B3 L3 H3 h3 e3 S3 r3 => ?_
        have := keyD_v r1 hkk
        subst this
        exact q ((kk, z) :: ps) M3 ((kk, w) :: ws) B3 L3 H3 h3 ((e1.trans e2).trans e3) S3 (by unfold RepK; exact ⟨rfl, Rep.mono e3.sub _ _ r2, r3⟩)
      · exact h2.elim
    · exact h1.elim
def mergeD (kvs more : List (Key × D)) : List (Key × D) := more.foldl (fun acc kv => putD acc kv.1 kv.2) kvs
theorem RepK.merge {K : PySem.W.Frag} {B : Hp} : ∀ {more : List (Key × D)} {ws : List (Key × V)} {kvs : List (Key × D)} {us : List (Key × V)}, RepK K B more ws → RepK K B kvs us → RepK K B (mergeD kvs more) (mergeK us ws)
  | [], [], _, _, _, h => h
  | (a, x) :: more, (b, v) :: ws, kvs, us, h, g => by
    unfold RepK at h
    obtain ⟨rfl, h1, h2⟩ := h
    show RepK K B (mergeD (putD kvs a x) more) (mergeK (putK us a v) ws)
    exact RepK.merge h2 (RepK.put a h1 g)
  | [], _ :: _, _, _, h, _ => by unfold RepK at h; exact h.elim
  | (_, _) :: _, [], _, _, h, _ => by unfold RepK at h; exact h.elim
def tDispM (fr : PrT) : ET := fun ρ M P x => fr ρ M (fun ps M1 => ps.length ≤ 15 ∧ P (.m M1.length) (M1 ++ [.dic (mergeD [] ps)])) x
theorem pps_of (X : Cx) (pos : Pos) : ∀ {ks : List (Option Expr)} {vs : List Expr}, ks.length = vs.length → ks.all (·.isSome) = true → PPs X pos ks vs (sPr X ks vs)
  | [], [], _, _ => pps_nil
  | some k :: ks, v :: vs, h, a => pps_cons pe_s pe_s (pps_of X pos (by simpa using h) (by simpa using a))
  | none :: _, _, _, a => by simp at a
  | [], _ :: _, h, _ => by simp at h
  | _ :: _, [], h, _ => by simp at h
theorem de_dispM (hr : DPr X ks vs fr) (hall : ks.all (·.isSome) = true := by rfl) (hl : ks.length = vs.length := by rfl) (h0 : ks ≠ [] := by exact List.cons_ne_nil _ _) (h15 : ks.length ≤ 15 := by decide) : DE X (.Dict ks vs pos) (tDispM fr) where
  run := fun {ρ M P x} h {σ H B L Z} S V x1 {Q} q => by
    refine PE.s (pe_disp (pps_of X pos hl hall) hall hl h0 h15) ?_
    intro p hp
    have S0 := S.newZ (o := .dK []) hp
    have x2 : XOk X B L ((p, .dK []) :: Z) σ x := by
      obtain ⟨W, t1, t2⟩ := x1
      exact ⟨W, t1, fun cls fs M' d B' L' H' a b c e => t2 cls fs M' d B' L' H' a b c.z e⟩
    refine hr.run h S0 V x2 fun ps M1 ws B1 L1 H1 h1 e1 S1 r1 => ?_
    refine ⟨S1.zAt, ws, rfl, by rw [← r1.len]; exact h1.1, ?_⟩
    have hZ : ∀ q ∈ Z, q.1 ≠ p := S.zne hp
    have S2 := S1.putZ (u := .dK (mergeK [] ws)) rfl hZ
    obtain ⟨S3, e3⟩ := S2.cellZ (m := .dic (mergeD [] ps)) rfl hZ ⟨mergeK [] ws, upd_same, RepK.merge r1 (by unfold RepK; trivial)⟩
    refine q _ _ _ _ _ _ h1.2 (e1.trans e3) S3 ⟨p, rfl, ?_⟩
    rw [← S1.len]
    simp
end
end DL

namespace DL
open PySem PySem.Spec PyProof.Rows L2
variable [Csts]
/-! ### attributes as targets -/
section
variable {K : PySem.W.Frag} {B : Hp} {L : List Addr} {Z : Zs} {M : Mem} {H : Hp} {T : ClsT} {f : Str} {j k : Nat} {a : Addr} {fs ys : List DV} {y : DV} {u : V}
theorem StM.putFld (c : ClsOk K T) (hf : T.ns[j]? = some f) (S : StM K B L Z M H) (hk : M[k]? = some (.ins T fs)) (hL : L[k]? = some a) (hy : setF fs j y = some ys) (r : RepV K B L y u) :
    ∃ dx gs, H a = some (.ins T.C dx gs) ∧ gs.length ≤ T.ns.length ∧ StM K B L Z (M.set k (.ins T ys)) (upd H a (.ins T.C dx (putF f u gs))) := by
  obtain ⟨a', h4, cell⟩ := S.at_ hk
  have : a' = a := Option.some.inj (h4.symm.trans hL)
  subst this
  obtain ⟨dx, gs, g1, g2, g3, g4⟩ := cell
  have hlen := g4.len
  simp at hlen
  refine ⟨dx, gs, g1, by omega, S.put hL hk rfl ?_⟩
  unfold setF at hy
  split at hy
  · rename_i hj
    cases hy
    have hg : (gs.map (·.1))[j]? = some f := by rw [g2]; exact take_get hf hj
    have hnd : (gs.map (·.1)).Nodup := by rw [g2]; exact c.nd.sublist (List.take_sublist _ _)
    rw [putF_at u hg hnd]
    refine ⟨dx, _, upd_same, ?_, by simpa using g3, ?_⟩
    · rw [List.map_set, List.length_set, ← g2]
      exact set_self hg
    · rw [List.map_set]
      exact g4.set r j
  · split at hy
    · rename_i hj hj2
      subst hj2
      cases hy
      have hlt : fs.length < T.ns.length := (List.getElem?_eq_some_iff.mp hf).1
      have hnew : f ∉ gs.map (·.1) := by
        rw [g2]
        intro hm
        obtain ⟨i, hi⟩ := List.getElem?_of_mem hm
        rw [List.getElem?_take] at hi
        split at hi
        · rename_i hi2
          have h1 := (List.getElem?_inj (by omega : i < T.ns.length) c.nd).mp (hi.trans hf.symm)
          omega
        · cases hi
      rw [putF_new u hnew]
      refine ⟨dx, _, upd_same, ?_, by rw [List.length_append]; exact hlt, ?_⟩
      · rw [List.map_append, g2, List.length_append]
        show _ = List.take (fs.length + 1) T.ns
        rw [List.take_add_one, hf]
        rfl
      · rw [List.map_append]
        exact g4.snoc r
    · cases hy
end
section
variable {X : Cx} {o e : Expr} {fo fe : ET} {f : Str} {pos : Pos}
theorem pg_attr {te : L2.TE} (ho : PE X o te) (ha : ∀ v, assign (.Attribute o f pos) X.env v = (do
      let ov ← holding [v] (eval o X.env)
      standAt pos.atName
      holding [v, ov] (setAttr ov f v)
      release [v, ov] []) := by intro _; rfl) :
    PG X (.Attribute o f pos) (fun v σ H Q => te σ H fun x H1 => ∃ a C dx fs, x = .ref a ∧ H1 a = some (.ins C dx fs) ∧ Cls X.K C ∧ NoAttr X.K C f ∧ fs.length < 1000 ∧ Q σ (upd H1 a (.ins C dx (putF f v fs)))) := by
  refine ⟨fun pins s σ H v u Q I r h => ?_⟩
  rw [ha]
  refine wpAny_bind (wpAny_holding (thn (ho.run pins s σ H _ I h) fun ov s1 ⟨x, H1, I1, r1, a, C, dx, fs, ex, h1, c, n, hl, q⟩ => ?_))
  subst ex
  obtain rfl : ov = Value.ref a := r1
  refine wpAny_bind (wpAny_standAt (wpAny_bind (wpAny_holding (setattr_ok I1 h1 c n hl r fun s2 I2 => wpAny_release ⟨σ, _, I2, q⟩))))
def gFld (T : ClsT) (j : Nat) (fo : ET) : GT := fun v ρ M N => fo ρ M (fun d M1 => match d with
  | .m k => (match M1[k]? with
    | some (.ins T' fs) => T' = T ∧ (match setF fs j v with
      | some ys => N ρ (M1.set k (.ins T ys))
      | none => False)
    | _ => False)
  | _ => False) (fun _ _ _ => False)
theorem dg_fld (T : ClsT) (j : Nat) (c : ClsOk X.K T) (ho : DE X o fo) (hn : ∃ W, Takes X W := by first | exact ⟨_, takes_of rfl rfl rfl rfl⟩ | exact ⟨_, by assumption⟩ | exact ⟨_, takes0⟩) (hf : T.ns[j]? = some f := by rfl) (hl : T.ns.length < 900 := by first | decide | exact of_decide_eq_true rfl)
    (ha : ∀ v, assign (.Attribute o f pos) X.env v = (do
      let ov ← holding [v] (eval o X.env)
      standAt pos.atName
      holding [v, ov] (setAttr ov f v)
      release [v, ov] []) := by intro _; rfl) : DG X (.Attribute o f pos) (gFld T j fo) where
  run := fun {x ρ M N} h {v σ H B L Z} S V r {N'} l => by
    refine PG.s (pg_attr pe_s ha) ?_
    obtain ⟨W, tk⟩ := hn
    refine ho.run h S V ⟨W, tk, fun _ _ _ _ _ _ _ h => h.elim⟩ fun d M1 u B1 L1 H1 h1 e1 S1 r1 => ?_
    dsimp only at h1
    split at h1
    · rename_i k
      split at h1
      · rename_i T' fs hk
        obtain ⟨rfl, h1⟩ := h1
        obtain ⟨a, rfl, hL⟩ := r1
        split at h1
        · rename_i ys hy
          obtain ⟨dx, gs, g1, g2, S2⟩ := StM.putFld c hf S1 hk hL hy (r.mono e1)
          exact ⟨a, _, dx, gs, rfl, g1, c.cls, c.no f (List.mem_of_getElem? hf), by omega, l _ _ _ _ _ _ h1 e1 S2 (V.mono e1)⟩
        · exact h1.elim
      · exact h1.elim
    · exact h1.elim
/-! ### list.index, list.remove, of ints -/
/-- the items of a list -/
def lsOf (M : Mem) : DV → Option (List DV)
  | .d (.lst xs) => some (xs.map .d)
  | .m k => (match M[k]? with
    | some (.lst xs) => some xs
    | _ => none)
  | _ => none
theorem lsOf_ok {M : Mem} {d : DV} {xs : List DV} (h : lsOf M d = some xs) : lstOf M d xs := by
  unfold lsOf at h
  split at h
  · cases h
    rfl
  · split at h
    · rename_i hk
      cases h
      exact hk
    · cases h
  · cases h
def oIndex : MT := fun d ds M P => match lsOf M d, ds with
  | some xs, [.d (.int k)] => (match intsOf xs with
    | some is => k ∈ is ∧ P (.d (.int (is.idxOf k : Nat))) M
    | none => False)
  | _, _ => False
theorem flat_ints (is : List Int) : (is.map V.int).all flatV = true := by
  rw [List.all_eq_true]
  intro x hx
  obtain ⟨i, _, rfl⟩ := List.mem_map.mp hx
  rfl
theorem idx_get {is : List Int} {k : Int} (h : k ∈ is) : is[is.idxOf k]? = some k := by
  have hl := List.idxOf_lt_length_of_mem h
  rw [List.getElem?_eq_getElem hl, List.getElem_idxOf]
theorem idx_before {k : Int} : ∀ {is : List Int} {m : Nat} {z : Int}, m < is.idxOf k → is[m]? = some z → z ≠ k
  | [], _, _, h, _ => by simp at h
  | a :: r, m, z, h, e => by
    rw [List.idxOf_cons] at h
    cases q : (a == k) with
    | true =>
      rw [q] at h
      simp at h
    | false =>
      rw [q] at h
      cases m with
      | zero =>
        simp at e
        subst e
        exact fun z => by rw [z] at q; simp at q
      | succ m => exact idx_before (m := m) (by simp at h; omega) (by simpa using e)
theorem dm_index : DM X "list.index" oIndex where
  run := fun {a ds M P} h {u vs B L Z H} S r rs {Q} q => by
    unfold oIndex at h
    split at h
    · rename_i xs k hx
      split at h
      · rename_i is hi
        obtain ⟨w, rfl, rw'⟩ := one_v rs
        have := rv_int.mp rw'
        subst this
        have e := intsOf_eq hi
        subst e
        obtain ⟨p, vs, rfl, g1, g2⟩ := S.lst r (lsOf_ok hx)
        have ev := ints_v g2
        subst ev
        refine mtS mt_index ⟨p, _, _, is.idxOf k, .int k, rfl, rfl, .inl (.inl g1), rfl, flat_ints is, by rw [List.getElem?_map, idx_get h.1]; rfl, by simp [eqV], fun m z hm hz => ?_, q.here S h.2 (rv_int.mpr rfl)⟩
        rw [List.getElem?_map] at hz
        cases e : is[m]? with
        | none => rw [e] at hz; cases hz
        | some y =>
          rw [e] at hz
          cases hz
          have := idx_before hm e
          simp [eqV, this]
      · exact h.elim
    · exact h.elim
theorem ints_rep {K : PySem.W.Frag} {B : Hp} {L : List Addr} : ∀ (is : List Int), RepVs K B L (is.map fun i => .d (.int i)) (is.map V.int)
  | [] => trivial
  | i :: is => ⟨rv_int.mpr rfl, ints_rep is⟩
def oRemove : MT := fun d ds M P => onL d M fun k xs => match ds with
  | [.d (.int i)] => (match intsOf xs with
    | some is => i ∈ is ∧ P (.d .non) (M.set k (.lst ((is.erase i).map fun i => .d (.int i))))
    | none => False)
  | _ => False
theorem dm_remove : DM X "list.remove" oRemove where
  run := fun {a ds M P} h {u vs B L Z H} S r rs {Q} q => by
    obtain ⟨k, xs, rfl, hk, h⟩ := onL_of h
    split at h
    · rename_i i _
      split at h
      · rename_i is hi
        obtain ⟨w, rfl, rw'⟩ := one_v rs
        have := rv_int.mp rw'
        subst this
        have e := intsOf_eq hi
        subst e
        obtain ⟨p, vs, rfl, hL, g1, g2⟩ := cell_of S hk r
        have ev := ints_v g2
        subst ev
        intro pins s σ v us I rv rvs
        refine mt_remove pins s σ H _ _ v us _ I rv rvs ⟨p, is, i, is.idxOf i, rfl, rfl, g1, idx_get h.1, fun m hm z => idx_before hm z rfl, ?_⟩
        have ee : is.eraseIdx (is.idxOf i) = is.erase i := (List.erase_eq_eraseIdx_of_idxOf (i := is.idxOf i) rfl).symm
        rw [ee]
        exact q _ _ _ _ _ _ h.2 (Ext.refl _ _) (S.putL hL hk (ints_rep _)) (rv_non.mpr rfl)
      · exact h.elim
    · exact h.elim
end
end DL

namespace DL
open PySem PySem.Spec PyProof.Rows L2
variable [Csts]
/-! ### own specials: a def of a class, by its promise -/
def FnS (P : Program) (w : World) (K : PySem.W.Frag) (mg : Str → Option Value) (base : Heap) (k : Nat) (f : Addr) (dsp : DSp) : Prop := FnR P w K mg base (L2.CX P w) k f (Up K dsp)
section
variable (P : Program) (w : World) (K : PySem.W.Frag) (mg : Str → Option Value) (base : Heap)
/-- a special of the class (== , len) -/
structure CalleeS (T : ClsT) (m : Str) (k : Nat) (dsp : DSp) : Prop where
  ex : ∃ f, PySem.W.findIn K (.ref T.C) m = some (some (.ref f)) ∧ PySem.W.isFn K (.ref f) = true ∧ FnS P w K mg base k f dsp
/-- a property -/
structure CalleeP (T : ClsT) (m : Str) (k : Nat) (dsp : DSp) : Prop where
  ex : ∃ p f, PropOf K T.C m p f ∧ FnS P w K mg base k f dsp
end
theorem CalleeM.toS {P : Program} {w : World} {K : PySem.W.Frag} {mg : Str → Option Value} {base : Heap} {T : ClsT} {m : Str} {k : Nat} {ps : List Str} {dsp : DSp} (c : CalleeM P w K mg base T m k ps dsp) : CalleeS P w K mg base T m k dsp := by
  obtain ⟨f, fd, hm, hb, F⟩ := c.ex
  refine ⟨f, hm.at_, hm.fn, ?_⟩
  exact FnR.imp (F.raw hb .nil) fun vs H Q E h => by rw [List.append_nil]; exact h
/-- an instance of T (whatever it is made of) -/
def isInst (T : ClsT) (d : DV) (M : Mem) : Prop := match d with
  | .d (.obj T' _) => T' = T
  | .d (.slo T' _) => T' = T
  | .m k => (match M[k]? with
    | some (.ins T' _) => T' = T
    | _ => False)
  | _ => False
section
variable {X : Cx} {T : ClsT} {pins : List (Addr × Obj)} {σ : L2.St} {s : Shared}
theorem inst_at {d : DV} {M : Mem} (h : isInst T d M) {v : V} {B : Hp} {L : List Addr} {Z : Zs} {H : Hp} (S : StM X.K B L Z M H) (r : RepV X.K B L d v) (I : Inv X pins σ H s) : ∃ a ox od, v = .ref a ∧ PySem.W.InstAt s.heap a ox T.C (some od) ∧
    ((∃ dx fs, H a = some (.ins T.C dx fs)) ∨ ∃ dx vs, SlX.Slt H a T.C dx vs) := by
  have plain : ∀ a dx fs, H a = some (.ins T.C dx fs) → ∃ ox od, PySem.W.InstAt s.heap a ox T.C (some od) := fun a dx fs e => by
    obtain ⟨mA, O, _⟩ := ins_get I.hok e
    obtain ⟨od, J, _⟩ := O.look
    exact ⟨_, od, J⟩
  cases d with
  | pr _ _ => exact h.elim
  | m k =>
    unfold isInst at h
    dsimp only at h
    split at h
    · rename_i T' fs hk
      subst h
      obtain ⟨a, rfl, h2⟩ := r
      obtain ⟨a', h3, cell⟩ := S.at_ hk
      have : a' = a := Option.some.inj (h3.symm.trans h2)
      subst this
      obtain ⟨dx, gs, g1, _⟩ := cell
      obtain ⟨ox, od, J⟩ := plain a' dx gs g1
      exact ⟨a', ox, od, rfl, J, .inl ⟨dx, gs, g1⟩⟩
    · exact h.elim
  | d x =>
    cases x with
    | obj T' fs =>
      have e : T' = T := h
      subst e
      unfold RepV Rep at r
      obtain ⟨a, dx, gs, rfl, g1, _⟩ := r
      obtain ⟨ox, od, J⟩ := plain a dx gs (S.sub.eq g1)
      exact ⟨a, ox, od, rfl, J, .inl ⟨dx, gs, S.sub.eq g1⟩⟩
    | slo T' fs =>
      have e : T' = T := h
      subst e
      unfold RepV Rep at r
      obtain ⟨a, dx, vs, rfl, g1, g2, _⟩ := r
      have sl : SlX.Slt H a T'.C dx (vs.map some) := .inr ⟨S.sub.eq g1, S.sub.eq g2⟩
      obtain ⟨_, od, _, J, _⟩ := SlX.slt_inst I sl
      exact ⟨a, _, od, rfl, J, .inr ⟨dx, _, sl⟩⟩
    | _ => exact h.elim
variable {k : Nat} {dsp : DSp} {m f : Str} {o e : Expr} {fo fe : ET} {pos : Pos} {fas : AT}
/-- len(x), an own __len__ -/
def oLenOwn (T : ClsT) (dsp : DSp) : CT := fun ds M P => match ds with
  | [d] => isInst T d M ∧ dsp [d] M (fun r M' => match r with
    | .d (.int n) => (0 ≤ n ∧ n < 2 ^ 63) ∧ P (.d (.int n)) M'
    | _ => False) (fun _ _ _ => False)
  | _ => False
theorem dc_lenOwn (C : CalleeS X.prog X.w X.K X.mg X.base T "__len__" k dsp) (hr : Room (k + 1) X.A) : DC X (.builtin "len") (oLenOwn T dsp) where
  run := fun {ds M P} h {vs B L Z H} S rs {Q} q => by
    unfold oLenOwn at h
    split at h
    · rename_i d
      obtain ⟨v, rfl, r⟩ := one_v rs
      intro pins s σ us I rv
      obtain ⟨u, rfl, ru⟩ := rv.one
      obtain ⟨a, ox, od, rfl, J, _⟩ := inst_at h.1 S r I
      cases (show u = Value.ref a from ru)
      obtain ⟨g, hs, hf, F⟩ := C.ex
      obtain ⟨m, hF⟩ := I.fr
      have sp : Up X.K dsp [V.ref a] H (fun z H' => ∃ n : Int, z = .int n ∧ (0 ≤ n ∧ n < 2 ^ 63) ∧ Q (.int n) H') E0 := by
        refine ⟨B, L, Z, [d], M, _, _, S, ⟨r, trivial⟩, h.2, fun d' M' v' B' L' H' hp e S' r' => ?_, fun _ _ _ _ _ _ _ h => h.elim⟩
        split at hp
        · rename_i n
          have := rv_int.mp r'
          subst this
          exact ⟨n, rfl, hp.1, q _ _ _ _ _ _ hp.2 e S' (rv_int.mpr rfl)⟩
        · exact hp.elim
      refine PySem.W.len_K hF I.ok.mod.kin J hs hf (wpAny_mono (wpAny_call (SlX.run_at (us := [.ref a]) (ws := [.ref a]) F hr.in1 I.env0.in1 passL I (.cons rfl .nil) sp)) (fun w' s' z => ?_) fun _ _ x => x)
      obtain ⟨z, H', I', rz, n, ez, hn, qn⟩ := z
      subst ez
      obtain ⟨t, rfl⟩ := (show ∃ t, w' = Value.int n t from rz)
      exact ⟨hn, .int n, H', I'.tok _, ⟨_, rfl⟩, qn⟩
    · exact h.elim
/-- x == y, an own __eq__; y an instance of the same class, or of a built-in type -/
def tyOk (T : ClsT) (d : DV) (M : Mem) : Prop := isInst T d M ∨ ∃ t, tyOfV M d = some t
def oEqOwn (T : ClsT) (dsp : DSp) : O2 := fun a b M P => isInst T a M ∧ tyOk T b M ∧ dsp [a, b] M (fun r M' => isB (r) fun k => P (.d (.bl k)) M') (fun _ _ _ => False)
theorem tb_of {d : DV} {M : Mem} (h : tyOk T d M) (hn : ∀ t : TyN, PySem.W.notFirst X.K T.C (.type t.nm) = true) {v : V} {u : Value} {B : Hp} {L : List Addr} {Z : Zs} {H : Hp} (S : StM X.K B L Z M H) (r : RepV X.K B L d v) (I : Inv X pins σ H s) (ru : RelV v u) :
    ∃ tb, PySem.W.Looks (model X.prog X.w) s.heap (typeOf u) tb ∧ PySem.W.notFirst X.K T.C tb = true := by
  rcases h with h | ⟨t, h⟩
  · obtain ⟨a, ox, od, rfl, J, _⟩ := inst_at h S r I
    cases (show u = Value.ref a from ru)
    exact ⟨_, J.type, by simp [PySem.W.notFirst]⟩
  · obtain ⟨P, kx, hP, _⟩ := kit_of I ru (ty_v S r h)
    exact ⟨_, kx.ty _ _ I.kIn hP, hn t⟩
theorem do_eqOwn (C : CalleeS X.prog X.w X.K X.mg X.base T "__eq__" k dsp) (hr : Room k X.A) (hn : ∀ t : TyN, PySem.W.notFirst X.K T.C (.type t.nm) = true) : DO X (compareOp .Eq) (oEqOwn T dsp) where
  run := fun {a b M P} h {u v B L Z H} S r1 r2 {Q} q => by
    obtain ⟨h1, h2, h3⟩ := h
    intro pins s σ ua ub I ru rv
    obtain ⟨x, ox, od, rfl, J, _⟩ := inst_at h1 S r1 I
    cases (show ua = Value.ref x from ru)
    obtain ⟨tb, hb, hnb⟩ := tb_of h2 hn S r2 I rv
    obtain ⟨g, hs, hf, F⟩ := C.ex
    obtain ⟨m, hF⟩ := I.fr
    have sp : Up X.K dsp [V.ref x, v] H (fun z H' => ∃ k : Bool, z = .bl k ∧ Q (.bl k) H') E0 := by
      refine ⟨B, L, Z, [a, b], M, _, _, S, ⟨r1, r2, trivial⟩, h3, fun d' M' v' B' L' H' hp e S' r' => ?_, fun _ _ _ _ _ _ _ h => h.elim⟩
      obtain ⟨k, rfl, hp⟩ := hp.of
      have := rv_bl.mp r'
      subst this
      exact ⟨k, rfl, q _ _ _ _ _ _ hp e S' (rv_bl.mpr rfl)⟩
    show wpAny _ _ (richCompare .Eq (.ref x) ub) _ _ _
    refine PySem.W.cmp_K (op := .Eq) (tb := tb) hr.units0 hF I.ok.mod.kin J hb hnb hs hf (wpAny_mono (wpAny_call (run_fnR (us := [.ref x, ub]) (vs := [.ref x, v]) F hr passL I (.cons rfl (.cons rv .nil)) sp)) (fun w' s' z => ?_) fun _ _ x => x)
    obtain ⟨z, H', I', rz, k, ez, qk⟩ := z
    subst ez
    cases (show w' = Value.bool k from rz)
    exact ⟨.bl k, H', I', rfl, qk⟩
/-- x.f, a property of a plain instance -/
def tPropD (T : ClsT) (dsp : DSp) (fo : ET) : ET := fun ρ M P x => fo ρ M (fun d M1 => isInst T d M1 ∧ dsp [d] M1 P (fun _ _ _ => False)) x
theorem noCX {P : Program} {w : World} {outer : List Env} {H : Hp} {s s' : Shared} {u : Value} (c : L2.CX P w outer H s E0 u s') : False := by
  obtain ⟨a, B, H', cls, d, _, _, _, _, _, _, _, h⟩ := c
  exact h
theorem de_prop (C : CalleeP X.prog X.w X.K X.mg X.base T f k dsp) (hr : Room (k + 1) X.A) (c : PySem.W.plainGet X.K T.C f = true) (ci : (PySem.W.clsIn X.K T.C).isSome = true) (ho : DE X o fo) (hab : attributeBase o f X.env (eval o X.env) = eval o X.env := by rfl) : DE X (.Attribute o f pos) (tPropD T dsp fo) where
  run := fun {ρ M P x} h {σ H B L Z} S V x1 {Q} q => by
    intro pins s I
    have step := ho.run h S V x1 (Q := fun v H1 => ∃ d M1 B1 L1, (isInst T d M1 ∧ dsp [d] M1 P (fun _ _ _ => False)) ∧ Ext B L B1 L1 ∧ StM X.K B1 L1 Z M1 H1 ∧ RepV X.K B1 L1 d v) (fun d M1 v B1 L1 H1 h1 e1 S1 r1 => ⟨d, M1, B1, L1, h1, e1, S1, r1⟩)
    refine attr_of hab (thn (step pins s I) fun ov s1 ⟨v, H1, I1, rv, d, M1, B1, L1, h1, e1, S1, r1⟩ => ?_)
    obtain ⟨a, ox, od, rfl, J, _⟩ := inst_at h1.1 S1 r1 I1
    cases (show ov = Value.ref a from rv)
    obtain ⟨p, g, hp, F⟩ := C.ex
    obtain ⟨rest, hrec⟩ := hp.rec_
    have I2 : Inv X pins σ H1 { s1 with toks := s1.toks + 1 } := I1.tok (s1.toks + 1)
    have sp : Up X.K dsp [L2.V.ref a] H1 Q E0 := ⟨B1, L1, Z, [d], M1, _, _, S1, ⟨r1, trivial⟩, h1.2, q.mono e1, fun _ _ _ _ _ _ _ h => h.elim⟩
    refine PySem.W.get_bind I1.kIn J (PySem.W.plainGet_of c).1 (PySem.W.findObj_data ci hp.at_ hp.get hp.tak) (PySem.W.plainGet_of c).2 (wpAny_call (PySem.W.prop_get (s := { s1 with toks := s1.toks + 1 }) I1.kIn hrec ?_))
    refine codeAny_mono (F X.A.in1 X.stack { s1 with toks := s1.toks + 1 } H1 [.ref a] [.ref a] Q E0 hr.in1 I2.env0.in1 (.cons rfl .nil) sp) fun r s' hq => ?_
    cases r with
    | error e => exact (noCX hq).elim
    | ok fl =>
      cases fl with
      | ret u =>
        obtain ⟨z, H', I3, rz, qz⟩ := I2.after hq
        exact wpAny_of_eq (PySem.W.handedOut_of (handed_of rz)) ⟨z, H', I3, rz, qz⟩
      | next => exact False.elim hq
      | brk => exact False.elim hq
      | cont => exact False.elim hq
/-! ### isinstance(x, C), C an own class -/
structure IsiOk (K : PySem.W.Frag) (T : ClsT) : Prop where
  ca : PySem.W.findIn K (.ref T.C) "__class__" = some (some (.builtin "object.__class__"))
  cn : PySem.W.specialIn K (.builtin "object.__class__") "__get__" = some (some (.builtin "getset_descriptor.__get__"))
  ct : PySem.W.takesIn K (.builtin "object.__class__") = some true
  cm : PySem.W.mroIn K T.C (.type "object") = some true
  pg : PySem.W.plainGet K T.C "__class__" = true
  ic : PySem.W.isClsIn K T.C = true
  no : ∀ t : TyN, PySem.W.kitOne K (.type t.nm) (.ref T.C) = some false
def oIsiC (T : ClsT) : CT := fun ds M P => match ds with
  | [d, .d (.ref C)] => C = T.C ∧ (match d with
    | .d (.obj T' _) => T' = T ∧ P (.d (.bl true)) M
    | .d (.slo T' _) => T' = T ∧ P (.d (.bl true)) M
    | .m k => (match M[k]? with
      | some (.ins T' _) => T' = T ∧ P (.d (.bl true)) M
      | _ => (match tyOfV M (.m k) with
        | some _ => P (.d (.bl false)) M
        | none => False))
    | d => (match tyOfV M d with
      | some _ => P (.d (.bl false)) M
      | none => False))
  | _ => False
theorem oIsiC_cases {d : DV} {C : Addr} {M : Mem} {P : Post} (h : oIsiC T [d, .d (.ref C)] M P) : C = T.C ∧ ((isInst T d M ∧ P (.d (.bl true)) M) ∨ ∃ t, tyOfV M d = some t ∧ P (.d (.bl false)) M) := by
  obtain ⟨e, h⟩ := h
  refine ⟨e, ?_⟩
  split at h
  · exact .inl ⟨h.1, h.2⟩
  · exact .inl ⟨h.1, h.2⟩
  · rename_i k
    split at h
    · rename_i T' fs hk
      refine .inl ⟨?_, h.2⟩
      show (match M[k]? with
        | some (.ins T' _) => T' = T
        | _ => False)
      rw [hk]
      exact h.1
    · split at h
      · rename_i t ht
        exact .inr ⟨t, ht, h⟩
      · exact h.elim
  · split at h
    · rename_i t ht
      exact .inr ⟨t, ht, h⟩
    · exact h.elim
theorem dc_isiC (C : IsiOk X.K T) : DC X (.builtin "isinstance") (oIsiC T) where
  run := fun {ds M P} h {vs B L Z H} S rs {Q} q => by
    match ds, rs, h with
    | [d, .d (.ref c)], rs, h =>
      obtain ⟨rfl, hcs⟩ := oIsiC_cases h
      obtain ⟨v, w, rfl, r1, r2⟩ := two_v rs
      have ew : w = .ref T.C := by
        unfold RepV Rep at r2
        exact r2
      subst ew
      rcases hcs with ⟨hi, hp⟩ | ⟨t, ht, hp⟩
      · intro pins s σ us I rv
        obtain ⟨u1, u2, rfl, ru1, ru2⟩ := rv.two
        cases (show u2 = Value.ref T.C from ru2)
        obtain ⟨a, ox, od, rfl, J, _⟩ := inst_at hi S r1 I
        cases (show u1 = Value.ref a from ru1)
        have k1 : PySem.W.kitOne X.K (.ref T.C) (.ref T.C) = some true := by simp [PySem.W.kitOne]
        exact PySem.W.kia_one (OwX.kitx_slt C.ic C.pg C.ca C.cn C.ct C.cm) I.kIn J k1 (fun z => nomatch z) fun tk => ⟨.bl true, H, I.tok _, rfl, q.here S hp (rv_bl.mpr rfl)⟩
      · exact callS call_isi ⟨v, _, _, _, _, rfl, .own _, ty_v S r1 ht, C.no t, q.here S hp (rv_bl.mpr rfl)⟩
end
end DL

namespace DL
open PySem PySem.Spec PyProof.Rows L2
variable [Csts]
/-! ### {k: v for .. in ..} -/
def tDcD (fi : IT) (g : GT) (tt : TT) (fk fv : ET) (vs : List Nat) : ET := fun ρ M P x => fi ρ M (fun xs still M1 => ∃ I : Nat → List (Key × D) → Mem → Prop, I 0 [] M1 ∧
  (∀ i y acc M', xs[i]? = some y → I i acc M' → still M' ∧ g y (wipeD ρ vs) M' fun ρ2 M2 => tt ρ2 M2 (fun b M3 => (b = true → fk ρ2 M3 (fun d M4 => match keyD d with
    | some k => fv ρ2 M4 (fun z M5 => match z with
      | .d z => acc.length < 100000 ∧ I (i + 1) (putD acc k z) M5
      | _ => False) (fun _ _ _ => False)
    | none => False) (fun _ _ _ => False)) ∧ (b = false → I (i + 1) acc M3)) fun _ _ _ => False) ∧
  ∀ acc M', I xs.length acc M' → still M' ∧ P (.d (.dic acc)) M') x
section
variable {X : Cx} {kx vx tg iter : Expr} {ifs : List Expr} {scope : Scope} {own : List (Str × Nat)} {pos : Pos} {fi : IT} {g : GT} {tt : TT} {fk fv : ET}
theorem dc_reading (hi : DI X tg iter fi)
    (hg : ∀ (s : Shared) (H : Hp) (C : Addr) (cl : List (Str × Addr)) (fp : List Addr), DGw (X.blk s H scope (compEnvC scope cl C X.env) fp) tg (own.map (·.2)) g) (ht : ∀ (s : Shared) (H : Hp) (C : Addr) (cl : List (Str × Addr)) (fp : List Addr), DTs (X.blk s H scope (compEnvC scope cl C X.env) fp) ifs tt)
    (hk : ∀ (s : Shared) (H : Hp) (C : Addr) (cl : List (Str × Addr)) (fp : List Addr), DE (X.blk s H scope (compEnvC scope cl C X.env) fp) kx fk)
    (he : ∀ (s : Shared) (H : Hp) (C : Addr) (cl : List (Str × Addr)) (fp : List Addr), DE (X.blk s H scope (compEnvC scope cl C X.env) fp) vx fv)
    {ρ : Rh} {M : Mem} {P : Post} {x : XPost} (h : tDcD fi g tt fk fv (own.map (·.2)) ρ M P x) {σ : L2.St} {H B : Hp} {L : List Addr} {Z : Zs} (S : StM X.K B L Z M H) (V : EnvR X.K B L σ ρ) (x1 : XOk X B L Z σ x) {Q : VK} (q : POk X B L Z P Q) :
    L2.tDc (sI X tg iter) (blkG X scope tg) (blkT X scope ifs) (blkE X scope kx) (blkE X scope vx) (own.map (·.2)) σ H Q := by
  have nox : ∀ s0 H0 C cl fp B L Z σ, XOk (X.blk s0 H0 scope (compEnvC scope cl C X.env) fp) B L Z σ (fun _ _ _ => False) := fun _ _ _ _ _ _ _ _ _ => ⟨fun _ _ _ _ => False, takes0, fun _ _ _ _ _ _ _ h => h.elim⟩
  refine hi.run h S V x1 fun xs still M1 B1 L1 H1 J hR e1 S1 it => ?_
  obtain ⟨I, h0, hs, hd⟩ := hR
  intro D hD
  have hZ := S1.zne hD
  refine ⟨fun i m H' => i + m = xs.length ∧ ∃ acc ws M' B' L', I i acc M' ∧ Ext B1 L1 B' L' ∧ StM X.K B' L' ((D, .dK ws) :: Z) M' H' ∧ RepK X.K B' acc ws, ⟨xs.length, by omega, [], [], M1, B1, L1, h0, Ext.refl _ _, S1.newZ hD, by unfold RepK; trivial⟩, ?_⟩
  rintro i m H' ⟨hm, acc, ws, M', B', L', hI, e2, S2, r2⟩
  by_cases hl : i < xs.length
  · obtain ⟨y, hy⟩ : ∃ y, xs[i]? = some y := ⟨xs[i], List.getElem?_eq_getElem hl⟩
    obtain ⟨st, hg'⟩ := hs i y acc M' hy hI
    obtain ⟨go, yl⟩ := it.go i y M' B' L' [(D, .dK ws)] H' hy st e2 S2
    refine .inr ⟨go, fun H2 => ∃ m', m' < m ∧ (i + 1) + m' = xs.length ∧ ∃ acc ws M' B' L', I (i + 1) acc M' ∧ Ext B1 L1 B' L' ∧ StM X.K B' L' ((D, .dK ws) :: Z) M' H2 ∧ RepK X.K B' acc ws, fun _ ⟨m', a, b⟩ => ⟨m', a, b⟩, fun v H'' hy' s0 H0 C cl fp => ?_⟩
    obtain ⟨B'', e3, S3, r3⟩ := yl v H'' hy'
    refine (hg s0 H0 C cl fp).run hg' S3 ((V.mono ((e1.trans e2).trans e3)).wipe _) r3 fun ρ2 M2 B2 L2 σ2 H2 h2 e4 S4 V4 w4 => ?_
    refine ⟨w4.trans (wipe_idem _ _), fun s0 H0 C cl fp => ?_⟩
    refine (ht s0 H0 C cl fp).run h2 S4 V4 (nox ..) fun b M3 B3 L3 H3 h3 e5 S5 => ?_
    cases b with
    | false => exact ⟨m - 1, by omega, by omega, acc, ws, M3, B3, L3, (h3.2 rfl), ((e2.trans e3).trans e4).trans e5, S5, RepK.mono ((e3.trans e4).trans e5).sub _ _ r2⟩
    | true =>
      intro s0 H0 C cl fp
      refine (hk s0 H0 C cl fp).run (h3.1 rfl) S5 (V4.mono e5) (nox ..) fun d M4 v4 B4 L4 H4 h4 e6 S6 r6 => ?_
      dsimp only at h4
      split at h4
      · rename_i k hk
        intro s0 H0 C cl fp
        refine (he s0 H0 C cl fp).run h4 S6 (V4.mono (e5.trans e6)) (nox ..) fun z M5 v5 B5 L5 H5 h5 e7 S7 r7 => ?_
        dsimp only at h5
        split at h5
        · rename_i z
          have r8 := RepK.mono ((((e3.trans e4).trans e5).trans e6).trans e7).sub _ _ r2
          refine ⟨ws, k, keyD_v r6 hk, S7.zAt, by rw [← r2.len]; exact size_lt h5.1, m - 1, by omega, by omega, putD acc k z, putK ws k v5, M5, B5, L5, h5.2, ((((e2.trans e3).trans e4).trans e5).trans e6).trans e7, S7.putZ rfl hZ, RepK.put k r7 r8⟩
        · exact h5.elim
      · exact h4.elim
  · have hi' : i = xs.length := by omega
    subst hi'
    obtain ⟨st, hf⟩ := hd acc M' hI
    refine .inl ⟨it.stop _ M' B' L' [(D, .dK ws)] H' (Nat.le_refl _) st e2 S2, ?_⟩
    obtain ⟨S3, e3⟩ := S2.unZ rfl hZ
    refine q _ M' _ _ _ _ hf ((e1.trans e2).trans e3) S3 ?_
    unfold RepV Rep
    exact ⟨D, ws, rfl, .inl upd_same, RepK.mono e3.sub _ _ r2⟩
theorem de_dc (hc : X.calm = true) (hN : X.N.Nodup) (hi : DI X tg iter fi) (ok : BlkOk X.N X.env.scope scope own)
    (hg : ∀ (s : Shared) (H : Hp) (C : Addr) (cl : List (Str × Addr)) (fp : List Addr), DGw (X.blk s H scope (compEnvC scope cl C X.env) fp) tg (own.map (·.2)) g) (ht : ∀ (s : Shared) (H : Hp) (C : Addr) (cl : List (Str × Addr)) (fp : List Addr), DTs (X.blk s H scope (compEnvC scope cl C X.env) fp) ifs tt)
    (hk : ∀ (s : Shared) (H : Hp) (C : Addr) (cl : List (Str × Addr)) (fp : List Addr), DE (X.blk s H scope (compEnvC scope cl C X.env) fp) kx fk)
    (he : ∀ (s : Shared) (H : Hp) (C : Addr) (cl : List (Str × Addr)) (fp : List Addr), DE (X.blk s H scope (compEnvC scope cl C X.env) fp) vx fv) (hs : ∀ x, foldedSetIterable iter X.env x = pure x := by intro _; rfl) :
    DE X (.DictComp kx vx [⟨tg, iter, ifs, 0⟩] scope pos) (tDcD fi g tt fk fv (own.map (·.2))) where
  run := fun {ρ M P x} h {σ H B L Z} S V x1 {Q} q => PE.s (pe_dc hc hN pi_s ok (fun s0 H0 C cl fp => ⟨fun pins s σ H v u Q I r h => h s0 H0 C cl fp pins s u I r⟩) (fun s0 H0 C cl fp => ⟨fun pins s σ H Q I h => h s0 H0 C cl fp pins s I⟩) (fun s0 H0 C cl fp => ⟨fun pins s σ H Q I h => h s0 H0 C cl fp pins s I⟩) (fun s0 H0 C cl fp => ⟨fun pins s σ H Q I h => h s0 H0 C cl fp pins s I⟩) hs) (dc_reading hi hg ht hk he h S V x1 q)
end
/-! ### a class with slots, made -/
section
variable {K : PySem.W.Frag} {B : Hp} {L : List Addr} {Z Z' : Zs} {M : Mem} {H : Hp}
theorem StM.perm (S : StM K B L Z M H) (h : ∀ q ∈ Z', q ∈ Z) : StM K B L Z' M H := ⟨S.sub, fun q hq => S.zh q (h q hq), S.len, S.nod, S.out, S.cell, S.live, S.cst⟩
theorem StM.put2 {a dx : Addr} {o1 o2 u1 u2 : HO} (S : StM K B L ((a, o1) :: (dx, o2) :: Z) M H) (h1 : isLock o1 = false) (h2 : isLock o2 = false) (hne : dx ≠ a) (hz : ∀ q ∈ Z, q.1 ≠ a ∧ q.1 ≠ dx) :
    StM K B L ((a, u1) :: (dx, u2) :: Z) M (upd (upd H dx u2) a u1) := by
  have S1 : StM K B L ((dx, o2) :: (a, o1) :: Z) M H := S.perm fun q hq => by
    simp only [List.mem_cons] at hq ⊢
    rcases hq with h | h | h
    · exact .inr (.inl h)
    · exact .inl h
    · exact .inr (.inr h)
  have S2 := S1.putZ (u := u2) h2 fun q hq => by
    rcases List.mem_cons.mp hq with rfl | hq
    · exact Ne.symm hne
    · exact (hz q hq).2
  have S3 : StM K B L ((a, o1) :: (dx, u2) :: Z) M (upd H dx u2) := S2.perm fun q hq => by
    simp only [List.mem_cons] at hq ⊢
    rcases hq with h | h | h
    · exact .inr (.inl h)
    · exact .inl h
    · exact .inr (.inr h)
  exact S3.putZ (u := u1) h1 fun q hq => by
    rcases List.mem_cons.mp hq with rfl | hq
    · exact hne
    · exact (hz q hq).1
end
/-- what an own __init__ of a slotted class promises: what goes into the slots -/
abbrev DSpI := List DV → Mem → (List D → Mem → Prop) → XPost → Prop
def UpI (K : PySem.W.Frag) (T : ClsT) (dsp : DSpI) : Sp := fun vs H Q E => ∃ a dx ws B L Z ds M P x, vs = V.ref a :: ws ∧ dx ≠ a ∧ (∀ q ∈ Z, q.1 ≠ a ∧ q.1 ≠ dx) ∧ StM K B L ((a, .ins T.C dx []) :: (dx, .own a) :: Z) M H ∧ RepVs K B L ds ws ∧ dsp ds M P x ∧
  (∀ fs M' us B' L' H', P fs M' → Ext B L B' L' → StM K B' L' ((a, SlX.SlO a T.C dx (us.map some)) :: (dx, .xd []) :: Z) M' H' → RepL K B' fs us → Q .non H') ∧
  (∀ cls fs M' d B' L' H', x cls fs M' → Ext B L B' L' → StM K B' L' Z M' H' → XRep K B' d fs → E cls d H')
section
variable (P : Program) (w : World) (K : PySem.W.Frag) (mg : Str → Option Value) (base : Heap)
structure CalleeSl (T : ClsT) (x : Str) (k : Nat) (ps : List Str) (dsp : DSpI) : Prop where
  ex : ∃ f fd, Mk K T.C f ∧ mg x = some (.ref T.C) ∧ Binds K fd ps [] ∧ FnOk P w K mg base (L2.CX P w) k f fd ps (UpI K T dsp)
end
def tMakeSl (T : ClsT) (dsp : DSpI) (fas : AT) : ET := fun ρ M P x => fas ρ M (fun ds M1 => dsp ds M1 (fun fs M2 => P (.d (.slo T fs)) M2) x) x
section
variable {X : Cx} {x : Str} {p pos : Pos} {e : Expr} {es : List Expr} {fas : AT} {k : Nat} {ps : List Str} {dsp : DSpI} {T : ClsT}
theorem de_makeSl (C : CalleeSl X.prog X.w X.K X.mg X.base T x k ps dsp) (hr : Room (k + 1) X.A) (ha : DA X (e :: es) fas) (hg : Gl X x := by rfl) (hdb : (x == ("__debug__" : Str)) = false := by decide) (he : starEach (e :: es) X.env = (false, eval e X.env) :: starEach es X.env := by rfl)
    (hpl : (backTo pos (starEach es X.env)).any (·.1) = false := by rfl) : DE X (.Call (.Name x p) (e :: es) [] pos) (tMakeSl T dsp fas) where
  run := fun {ρ M P xx} h {σ H B L Z} S V x1 {Q} q => by
    obtain ⟨fI, fd, N, hm, hb, F⟩ := C.ex
    obtain ⟨W, tk, hW⟩ := x1
    intro pins s I
    refine wpAny_Call_Name_kw (ld_glob I hg hm ?_ hdb)
    refine PySem.W.callWith_K (h₀ := X.base) I.ok.mod.kin N.kp (thn (ha.run h S V ⟨W, tk, hW⟩ (Q := fun vs H1 => ∀ a dx, H1 a = none → H1 dx = none → dx ≠ a → UpI X.K T dsp (.ref a :: vs) (upd (upd H1 dx (.own a)) a (.ins T.C dx [])) (fun v H2 => v = .non ∧ Q (.ref a) H2) (WE W σ)) ?_ pos pins s I) fun us s1 hh => ?_) he hpl
    · intro ds M1 vs B1 L1 H1 h1 e1 S1 r1 a dx ha hd hne
      have S2 : StM X.K B1 L1 ((a, .ins T.C dx []) :: (dx, .own a) :: Z) M1 (upd (upd H1 dx (.own a)) a (.ins T.C dx [])) := (S1.newZ (o := .own a) hd).newZ (by rw [upd_ne (Ne.symm hne)]; exact ha)
      refine ⟨a, dx, vs, B1, L1, Z, ds, M1, _, _, rfl, hne, fun z hz => ⟨S1.zne ha z hz, S1.zne hd z hz⟩, S2, r1, h1, fun fs M' us B' L' H' hp e' S' r => ⟨rfl, ?_⟩, fun cls fs M' d B' L' H' a b c r => hW cls fs M' d B' L' H' a (e1.trans b) c r⟩
      obtain ⟨S3, e3⟩ := S'.unZ rfl fun z hz => by
        rcases List.mem_cons.mp hz with rfl | hz
        · exact hne
        · exact S1.zne ha z hz
      obtain ⟨S4, e4⟩ := S3.unZ rfl fun z hz => S1.zne hd z hz
      refine q _ _ _ _ _ _ hp (((e1.trans e').trans e3).trans e4) S4 ?_
      unfold RepV Rep
      exact ⟨a, dx, us, rfl, by rw [upd_ne (Ne.symm hne), upd_same], upd_same, RepL.mono (e3.trans e4).sub _ _ r⟩
    · obtain ⟨vs, H1, I1, rv, hq⟩ := hh
      exact ⟨I1.kIn, make_at N F hr hb tk I1 rv hq⟩
/-- self.f = e, of the instance that is being made -/
theorem ss_slot {f : Str} {o value : Expr} {fv : ET} {pos' : Pos} {B : Hp} {L : List Addr} {Z : Zs} {M : Mem} {H : Hp} {σ : L2.St} {ρ : Rh} {a dx : Addr} {us : List V} {o1 o2 : HO} {F : Ends} {xx : XPost} (c : SlX.SCls X.K T.C) (hs : ∃ p, SlX.Slot1 X.K T.C f p us.length)
    (hv : DE X value fv) (ho : ∀ H', sE X o σ H' (fun v H2 => v = .ref a ∧ H2 = H')) (h1 : isLock o1 = false) (h2 : isLock o2 = false) (hne : dx ≠ a) (hz : ∀ q ∈ Z, q.1 ≠ a ∧ q.1 ≠ dx) (S : StM X.K B L ((a, o1) :: (dx, o2) :: Z) M H) (V : EnvR X.K B L σ ρ) (x1 : XOk X B L ((a, o1) :: (dx, o2) :: Z) σ xx)
    (hsl : ∀ H', H' a = some o1 → H' dx = some o2 → SlX.Slt H' a T.C dx (us.map some)) {P : Post} (h : fv ρ M P xx)
    (q : ∀ y M' v B' L' H', P y M' → Ext B L B' L' → RepV X.K B' L' y v → StM X.K B' L' ((a, SlX.SlO a T.C dx ((us ++ [v]).map some)) :: (dx, .xd []) :: Z) M' H' → EnvR X.K B' L' σ ρ → F.nx σ H')
    (hsw : swapsWith value (some (.Attribute o f pos')) pos.line X.env = pure false := by rfl) : sS X (.Assign [.Attribute o f pos'] value pos) F σ H := by
  refine PS.s (SlX.ps_sl pe_s pe_s hsw) ?_
  refine hv.run h S V x1 fun y M1 v B1 L1 H1 hp e1 S1 r1 => ?_
  obtain ⟨p, hp1⟩ := hs
  have hq : ∀ u H2, (u = L2.V.ref a ∧ H2 = H1) → ∃ a C dx p vs i, u = L2.V.ref a ∧ SlX.Slt H2 a C dx vs ∧ SlX.SCls X.K C ∧ SlX.Slot1 X.K C f p i ∧ F.nx σ (SlX.slH H2 a C dx (SlX.putS i v vs)) := by
    rintro u H2 ⟨rfl, rfl⟩
    refine ⟨a, T.C, dx, p, us.map some, us.length, rfl, hsl _ S1.zAt (S1.z.zAt), c, hp1, ?_⟩
    have e : SlX.putS us.length v (us.map some) = (us ++ [v]).map some := by
      unfold SlX.putS
      rw [List.length_map]
      have : us.length + 1 - us.length = 1 := by omega
      rw [this]
      simp
    rw [e]
    exact q y M1 v B1 L1 _ hp e1 r1 (S1.put2 h1 h2 hne hz) (V.mono e1)
  exact fun pins s I => thn (ho H1 pins s I) fun u s' ⟨vv, H2, I2, rv, hh⟩ => ⟨vv, H2, I2, rv, hq vv H2 hh⟩
end
end DL

namespace DL
open PySem PySem.Spec PyProof.Rows L2
variable [Csts]
/-! ### properties of plain classes -/
structure FunP (K : PySem.W.Frag) (T : ClsT) (m qual : Str) (st : Stmt) (ps : List Str) : Prop where
  ex : ∃ p f fd, Fun K m qual st f fd ∧ PropOf K T.C m p f ∧ Binds K fd ps []
section
variable {P : Program} {w : World} {K : PySem.W.Frag} {mg : Str → Option Value} {base : Heap} {m qual : Str} {st : Stmt} {N ps : List Str} {k : Nat} {dsp : DSp} {T : ClsT}
theorem calleeP_dl (F : FunP K T m qual st ps) (S : FnScope N ps (defScope st)) (len : ∀ ds M P x, dsp ds M P x → ds.length = ps.length)
    (hbody : ∀ (f : Addr) (cdv : Value) (A : Around) (outer : List PySem.Env) (s : Shared) (H : Hp) (E : XK), Room k (A.deeper (envOfC qual (defScope st) s.heap.objs.size f cdv)) →
      ∃ t, DSs (cxOf (L2.CX P w) P w K mg base N qual (defScope st) f cdv A outer s H E) (defBody st) t ∧ ∀ ds M P x, dsp ds M P x → t (ends P x) (startD N ds) M) : CalleeP P w K mg base T m (k + 1) dsp := by
  obtain ⟨p, f, fd, F, hm, hb⟩ := F.ex
  exact ⟨p, f, hm, FnR.imp ((fn_dl F S len (hbody f)).raw hb .nil) fun vs H Q E h => by rw [List.append_nil]; exact h⟩
end
end DL

namespace DL
open PySem PySem.Spec PyProof.Rows L2
/-! ### a try with several named clauses -/
section
/-- what a clause's suite wants: its name goes behind it -/
def goneE (D : Ends) (i : Nat) : Ends := { nx := fun σ H => D.nx (σ.set i none) H, rt := D.rt, bk := fun σ H => D.bk (σ.set i none) H, ct := fun σ H => D.ct (σ.set i none) H }
abbrev ClauseT : Type := Value × Nat × (Addr → Value → Option Addr → L2.TS)
def wCl (K : PySem.W.Frag) (Wout : WX) (D : Ends) : List ClauseT → WX
  | [] => Wout
  | q :: r => fun cls d σ H => ∃ b, PySem.W.exmOne K cls q.1 = some b ∧ (b = true → ∀ a, H a = none → q.2.2 a cls d (goneE D q.2.1) (σ.set q.2.1 (some (.ref a))) H) ∧ (b = false → wCl K Wout D r cls d σ H)
inductive ClausesOk (X : Cx) : List ExceptHandler → List ClauseT → Prop
  | none : ClausesOk X [] []
  | more {x n : Str} {c : Value} {i : Nat} {ts : Addr → Value → Option Addr → L2.TS} {st : Stmt} {sts : List Stmt} {p1 p2 : Pos} {hds : List ExceptHandler} {l : List ClauseT} (nm : Names X x c) (at_ : X.N[i]? = some n) (lc : X.env.kindOf n = some .local)
      (su : ∀ (a : Addr) (oe : Obj) (cls : Value) (d : Option Addr) (pn : List (Addr × Obj)), Zc cls d oe → (∃ vs, oe.data = .fields vs) → PSs (X.suite a ((a, oe) :: pn)) (st :: sts) (ts a cls d)) (r : ClausesOk X hds l) :
      ClausesOk X (.ExceptHandler (some (.Name x p1)) (some n) (st :: sts) p2 :: hds) ((c, i, ts) :: l)
variable {X : Cx} {body : List Stmt} {h0 : ExceptHandler} {hds : List ExceptHandler} {l : List ClauseT} {pos : Pos} {tb : WX → L2.TS} {Wout : WX}
theorem ps_try_named (est : X.stack = X.env :: X.outer) (efr : X.env.frame = some X.env.locals) (eN : X.N.Nodup) (tk : Takes X Wout)
    (eb : ∀ (W : WX) (pn : List (Addr × Obj)) (xe : Value → Shared → Prop), Takes (X.tr pn xe) W → PassesOwn (model X.prog X.w) X.A X.env xe → PSs (X.tr pn xe) body (tb W))
    (eh : ClausesOk X (h0 :: hds) l) : PS X (.Try body (h0 :: hds) [] [] pos) (fun D σ H => tb (wCl X.K Wout D l) D σ H) where
  run := fun pins s σ H D J want => by
    have good := J.ok
    have frm : X.A.frames = some (X.env :: X.outer) := good.frames.trans (by rw [est])
    apply wpAny_Try_except
    refine wpAny_mono ((eb (wCl X.K Wout D l) (X.pn ++ pins) _ (fun u s2 air => ?_) PassesOwn.looking).run [] s σ H D (J.toTry _) want) (fun fl s2 done => ?_) (fun _ _ z => z)
    · obtain ⟨a, G, sI, pins2, τ, H2, cls, d, rfl, J0, nb, up, sky, na, eos, ag, wc⟩ := air
      have J1 : Inv X pins τ H2 sI := J0.ofTry good
      have sky1 : Sky G (X.env :: X.outer) a (Zc cls d) X.env.locals s2.heap := by
        rw [← est]
        exact sky
      show wpAny (model X.prog X.w) X.A (noteFrame (.ref a) X.env) _ _ _
      refine Sky.land Zc.steady frm efr sky1 fun hp fly up2 => ?_
      obtain ⟨ob, fv, eob, zob, dob⟩ := fly.there
      have J2 : Inv X pins τ H2 { s2 with heap := hp } := J1.landed nb fly.1 (up.trans up2) eos ag
      have apart : a ∉ frs (X.env :: X.outer) := fun hm => by
        obtain ⟨_, o2, e2, nf⟩ := fly.2.2.1.mem hm
        rw [eob] at e2
        cases e2
        exact nf _ dob
      have noL : a ≠ X.env.locals := fun z => apart (List.mem_filterMap.mpr ⟨X.env, List.mem_cons_self, efr.trans (by rw [z])⟩)
      have noF : a ∉ X.fs := fun hm => by
        obtain ⟨en, hen, qen⟩ := List.mem_filterMap.mp hm
        exact apart (List.mem_filterMap.mpr ⟨en, List.mem_cons_of_mem _ hen, qen⟩)
      have J3 := J2.suite eob dob na noL noF
      have walk : ∀ {hs2 : List ExceptHandler} {l2 : List ClauseT}, ClausesOk X hs2 l2 → wCl X.K Wout D l2 cls d τ H2 → wpAny (model X.prog X.w) X.A (handleBy (.ref a) X.env hs2) (SP X pins D) X.xe { s2 with heap := hp } := fun {hs2 l2} ck => by
        induction ck with
        | none =>
          intro wout
          apply wpAny_handleBy_nil
          obtain ⟨_, _, _, o4, f4, T4, _, _, g1, _, g3, g4, _⟩ := id fly
          unfold PySem.passOn
          refine wpAny_bind (wpAny_field g1 g3 g4 ?_)
          rw [if_neg (show ¬ ((Value.ref T4 == Value.none) = true) by simp)]
          have last : wpAny (model X.prog X.w) X.A (setFlight (.ref a) X.env.frame) (fun _ s4 => wpAny (model X.prog X.w) X.A (throw (.ref a) : Sem Flow) (SP X pins D) X.xe s4) X.xe { s2 with heap := hp } := by
            rw [efr]
            exact HandSPX.setFlight_upZ fly fun h4 held up4 => wpAny_throw (tk _ _ ⟨a, G, sI, pins, τ, H2, cls, d, rfl, J1, nb, (up.trans up2).trans up4, .inr (.inr (by rw [est]; exact held)), na, eos, ag, wout⟩)
          first
            | exact wpAny_bind (wpAny_pure (wpAny_bind last))
            | exact wpAny_bind last
        | @more x n c i ts st sts p1 p2 hs3 l3 nm at_ lc su r ih =>
          rintro ⟨b, eb1, yes, no⟩
          refine wpAny_handleBy_cons (codeAny_handlers_test ?_) (fun q => by cases q)
          have look : PySem.W.Looks (model X.prog X.w) hp (typeOf (.ref a)) cls := fun A Q E s k q => wpAny_typeOf_ref (k _ _ eob) (by rw [zob.1]; exact q)
          have hit := PySem.W.exm_one (M := model X.prog X.w) J2.kIn look eb1
          have named : ∀ {Q : Value → Shared → Prop} {E : Value → Shared → Prop}, Q c { s2 with heap := hp } → wpAny (model X.prog X.w) (X.A.mark (some (.ref a))) (eval (.Name x p1) X.env) Q E { s2 with heap := hp } := fun {Q E} qc => by
            obtain ⟨n1, n2, n3⟩ := nm
            rcases n3 with n3 | ⟨n3, n4, n5⟩
            · exact ld_glob (X := X.suite a ((a, ob) :: (X.pn ++ pins))) J3 n1 n3 qc n2
            · exact ld_blt (X := X.suite a ((a, ob) :: (X.pn ++ pins))) J3 n1 n3 n4 qc n5 n2
          refine named (hit.here ?_)
          cases b with
          | false =>
            show wpAny _ X.A (handleBy (.ref a) X.env hs3) _ _ _
            exact ih (no rfl)
          | true =>
            apply codeAny_handlers_suite_as
            refine HandSPX.lands_againZ fly fun h4 fly4 up4 => ?_
            obtain ⟨ob4, fv4, eob4, zob4, dob4⟩ := fly4.there
            have J4 : Inv X pins τ H2 { s2 with heap := h4 } := J1.landed nb fly4.1 ((up.trans up2).trans up4) eos ag
            refine store_ok (X := X.suite a ((a, ob4) :: (X.pn ++ pins))) (v := .ref a) (J4.suite eob4 dob4 na noL noF) eN at_ (.inl lc) rfl (fun s5 J5 => ?_) (.inr lc)
            refine wpAny_mono ((su a ob4 cls d (X.pn ++ pins) zob4 ⟨_, dob4⟩).run [] s5 _ H2 _ J5 (yes rfl a na)) (fun fl s6 out => ?_) (fun _ _ z => False.elim z)
            have behind : ∀ {τ6 : L2.St} {H6 : Hp} {Q : Shared → Prop}, Inv (X.suite a ((a, ob4) :: (X.pn ++ pins))) [] τ6 H6 s6 → (∀ s7, Inv X pins (τ6.set i none) H6 s7 → Q s7) →
                wpAny (model X.prog X.w) X.A (do bindName X.env n .none; unbindBehindTheSuite X.env n p2) (fun _ s7 => Q s7) X.xe s6 := fun {τ6 H6 Q} J6 qq => gone_ok (J6.unsuite good) eN at_ lc qq
            cases fl with
            | ret u =>
              obtain ⟨v6, τ6, H6, J6, r6, q6⟩ := out
              exact behind J6 fun s7 J7 => ⟨_, _, _, J7, r6, q6⟩
            | next =>
              obtain ⟨τ6, H6, J6, q6⟩ := out
              exact behind J6 fun s7 J7 => ⟨_, _, J7, q6⟩
            | brk =>
              obtain ⟨τ6, H6, J6, q6⟩ := out
              exact behind J6 fun s7 J7 => ⟨_, _, J7, q6⟩
            | cont =>
              obtain ⟨τ6, H6, J6, q6⟩ := out
              exact behind J6 fun s7 J7 => ⟨_, _, J7, q6⟩
      exact walk eh wc
    · cases fl with
      | ret u =>
        obtain ⟨v, τ, H2, J0, r, q⟩ := done
        exact ⟨v, τ, H2, J0.ofTry good, r, q⟩
      | next =>
        obtain ⟨τ, H2, J0, q⟩ := done
        exact wpAny_execs_nil ⟨τ, H2, J0.ofTry good, q⟩
      | brk =>
        obtain ⟨τ, H2, J0, q⟩ := done
        exact ⟨τ, H2, J0.ofTry good, q⟩
      | cont =>
        obtain ⟨τ, H2, J0, q⟩ := done
        exact ⟨τ, H2, J0.ofTry good, q⟩
end
variable [Csts]
/-! ### raise -/
abbrev MkT := Rh → Mem → XPost → XPost → Prop
def sMk (X : Cx) (e : Expr) : L2.St → Hp → XK → Prop := fun σ H Q => ∀ pins s, Inv X pins σ H s → wpAny (model X.prog X.w) X.A (eval e X.env) (MkP X pins σ Q) X.xe s
theorem pmk_s {X : Cx} {e : Expr} : PMk X e (sMk X e) := fun pins s _ _ _ I h => h pins s I
structure DMk (X : Cx) (e : Expr) (f : MkT) : Prop where
  run : ∀ {ρ M P x}, f ρ M P x → ∀ {σ H B L Z}, StM X.K B L Z M H → EnvR X.K B L σ ρ → XOk X B L Z σ x → ∀ {Q : XK}, (∀ cls fs M' d B' L' H', P cls fs M' → Ext B L B' L' → StM X.K B' L' Z M' H' → XRep X.K B' d fs → Q cls d H') → sMk X e σ H Q
def tRaise (f : MkT) : ST := fun E ρ M => f ρ M (xS E ρ) (xS E ρ)
theorem ds_raise {X : Cx} {e : Expr} {f : MkT} {pos : Pos} (hc : X.calm = true) (he : DMk X e f) : DS X (.Raise (some e) none pos) (tRaise f) where
  run := fun {E ρ M} h {σ H B L Z} S V {F} l => by
    obtain ⟨W, tk, hW⟩ := l.ex
    refine PS.s (ps_raise hc tk pmk_s) ?_
    exact he.run h S V (l.ex.at_ V) fun cls fs M' d B' L' H' a b c r => hW cls fs ρ M' d B' L' σ H' a b c (V.mono b) r
/-- an own exception class without own __init__ -/
structure ErrC (K : PySem.W.Frag) (mg : Str → Option Value) (x : Str) (C : Addr) : Prop where
  mg_ : mg x = some (.ref C)
  ve : PySem.W.excIn K C He.veBase "ValueError.__new__" = true
  kp : PySem.W.keepIn K (.ref C) = true
  sub : PySem.W.subIn K (.ref C) (.type "BaseException") = some true
  ty : PySem.W.typeIn K (.ref C) = some (.type "type")
theorem ErrC.raises {X : Cx} {x : Str} {C : Addr} (e : ErrC X.K X.mg x C) : Raises X (.ref C) := raises_own e.sub e.ty
def tMk0 (C : Addr) : MkT := fun _ M P _ => P (.ref C) [] M
theorem dmk0 {X : Cx} {x : Str} {C : Addr} {p pos : Pos} (T : ErrC X.K X.mg x C) (hg : Gl X x := by rfl) (hdb : (x == ("__debug__" : Str)) = false := by decide) : DMk X (.Call (.Name x p) [] [] pos) (tMk0 C) where
  run := fun {ρ M P x} h {σ H B L Z} S V x1 {Q} q pins s I => by
    refine wpAny_Call_Name_kw (ld_glob I hg T.mg_ ?_ hdb)
    refine PySem.W.callWith_K0 I.kIn T.kp ?_
    obtain ⟨hp, g, dr, tk, os⟩ := s
    obtain ⟨bm, N, nm, qn, bs, hd, sn, sub, ab, col, dd, k0, k1, k2, k3, k5, mN, hC, hN, hni, own⟩ := exc_obj I.kIn T.ve
    refine wpAny_call_exc_subT PySem.F.excBase_ValueError own hC hN hni (fun h' e mk => ?_) (Nat.zero_le _)
    exact mk_of I mk T.raises (q _ _ _ none B L H h (Ext.refl _ _) S rfl) (I.hok.gone mk.new)
/-! ### .. with fields -/
/-- what an exception's own __init__ promises: its fields -/
def InitSp (K : PySem.W.Frag) (ns : List Str) : Sp := fun vs H Q _ => ∃ a C ws, vs = V.ref a :: ws ∧ ws.length = ns.length ∧ OexC K C ∧ (∀ n ∈ ns, PySem.W.findIn K (.ref C) n = some none) ∧ H a = some (exo a C none) ∧
  ∀ dx, H dx = none → dx ≠ a → Q .non (upd (upd H dx (exd dx (ns.zip ws).reverse)) a (exo a C (some dx)))
structure CalleeX (P : Program) (w : World) (K : PySem.W.Frag) (mg : Str → Option Value) (base : Heap) (x : Str) (C : Addr) (ps ns : List Str) : Prop where
  mg_ : mg x = some (.ref C)
  oex : OexC K C
  no : ∀ n ∈ ns, PySem.W.findIn K (.ref C) n = some none
  few : ns.length ≤ 10
  one : ns ≠ []
  ex : ∃ fI fd, PySem.W.findIn K (.ref C) "__init__" = some (some (.ref fI)) ∧ PySem.W.typeIn K (.ref fI) = some (.type "function") ∧ Binds K fd ps [] ∧ FnOk P w K mg base (L2.CX P w) 1 fI fd ps (InitSp K ns)
def tMkF (C : Addr) (ns : List Str) (fas : AT) : MkT := fun ρ M P x => fas ρ M (fun ds M1 => match allD ds with
  | some xs => xs.length = ns.length ∧ P (.ref C) (ns.zip xs).reverse M1
  | none => False) x
theorem repL_rev {K : PySem.W.Frag} {B : Hp} : ∀ {xs ys : List D} {vs ws : List V}, RepL K B xs vs → RepL K B ys ws → RepL K B (xs.reverse ++ ys) (vs.reverse ++ ws)
  | [], _, [], _, _, h => h
  | x :: xs, _, v :: vs, _, g, h => by
    unfold RepL at g
    rw [List.reverse_cons, List.reverse_cons, List.append_assoc, List.append_assoc]
    refine repL_rev g.2 ?_
    show RepL K B (x :: _) (v :: _)
    unfold RepL
    exact ⟨g.1, h⟩
  | [], _, _ :: _, _, g, _ => by unfold RepL at g; exact g.elim
  | _ :: _, _, [], _, g, _ => by unfold RepL at g; exact g.elim
theorem zip_fst {α β : Type} : ∀ {l : List α} {m : List β}, m.length = l.length → (l.zip m).map (·.1) = l
  | [], [], _ => rfl
  | a :: l, b :: m, h => by
    rw [List.zip_cons_cons, List.map_cons, zip_fst (by simpa using h)]
  | [], _ :: _, h => by cases h
  | _ :: _, [], h => by cases h
theorem zip_snd {α β : Type} : ∀ {l : List α} {m : List β}, m.length = l.length → (l.zip m).map (·.2) = m
  | [], [], _ => rfl
  | a :: l, b :: m, h => by
    rw [List.zip_cons_cons, List.map_cons, zip_snd (by simpa using h)]
  | [], _ :: _, h => by cases h
  | _ :: _, [], h => by cases h
theorem dmkF {X : Cx} {x : Str} {C : Addr} {p pos : Pos} {e : Expr} {es : List Expr} {fas : AT} {ps ns : List Str} (T : CalleeX X.prog X.w X.K X.mg X.base x C ps ns) (hr : Room 2 X.A) (ha : DA X (e :: es) fas) (hg : Gl X x := by rfl) (hdb : (x == ("__debug__" : Str)) = false := by decide)
    (he : starEach (e :: es) X.env = (false, eval e X.env) :: starEach es X.env := by rfl) (hpl : (backTo pos (starEach es X.env)).any (·.1) = false := by rfl) : DMk X (.Call (.Name x p) (e :: es) [] pos) (tMkF C ns fas) where
  run := fun {ρ M P x'} h {σ H B L Z} S V x1 {Q} q pins s I => by
    obtain ⟨fI, fd, hi, ht, hb, F⟩ := T.ex
    refine pmk_oex (dvs := []) (ds := []) T.oex hi ht F hr hb .nil passL hg T.mg_ pa_s hdb he hpl pins s σ H Q I ?_
    refine ha.run h S V x1 fun ds M1 vs B1 L1 H1 h1 e1 S1 r1 => ?_
    dsimp only at h1
    split at h1
    · rename_i xs hx
      have := allD_eq hx
      subst this
      have rl : RepL X.K B1 xs vs := r1.toL
      have hlen : vs.length = ns.length := rl.len.symm.trans h1.1
      refine ⟨by rw [hlen]; exact Nat.le_trans T.few (by decide), fun a na => ⟨a, C, vs, by rw [List.append_nil], hlen, T.oex, T.no, upd_same, fun dx hdx hne => ⟨rfl, dx, (ns.zip vs).reverse, upd_same, ?_, ?_, ?_⟩⟩⟩
      · rw [upd_ne hne, upd_same]
      · rw [upd_ne hne] at hdx
        exact hdx
      · rw [upd_ne hne] at hdx
        have eH : upd (del (upd (upd (upd H1 a (exo a C none)) dx (exd dx (ns.zip vs).reverse)) a (exo a C (some dx))) a) dx (.xd (ns.zip vs).reverse) = upd H1 dx (.xd (ns.zip vs).reverse) := by
          funext b
          by_cases h1 : b = dx
          · subst h1
            rw [upd_same, upd_same]
          · rw [upd_ne h1, upd_ne h1]
            by_cases h2 : b = a
            · subst h2
              rw [del_same, na]
            · rw [del_ne h2, upd_ne h2, upd_ne h1, upd_ne h2]
        rw [eH]
        obtain ⟨S2, e2⟩ := S1.newD (o := .xd (ns.zip vs).reverse) hdx
        refine q _ _ M1 (some dx) _ _ _ h1.2 (e1.trans e2) S2 ⟨?_, (ns.zip vs).reverse, upd_same, ?_, ?_⟩
        · intro z
          have := congrArg List.length z
          rw [List.length_reverse, List.length_zip, h1.1, Nat.min_self] at this
          exact T.one (List.eq_nil_of_length_eq_zero this)
        · rw [List.map_reverse, List.map_reverse, zip_fst hlen, zip_fst h1.1]
        · rw [List.map_reverse, List.map_reverse, zip_snd hlen, zip_snd h1.1]
          have := repL_rev (RepL.mono e2.sub _ _ rl) (show RepL X.K (upd B1 dx (.xd (ns.zip vs).reverse)) [] [] by unfold RepL; trivial)
          rwa [List.append_nil, List.append_nil] at this
    · exact h1.elim
/-! ### try -/
def goneD (E : DEnds) (i : Nat) : DEnds := { nx := fun ρ M => E.nx (ρ.set i none) M, rt := E.rt, ex := fun _ _ _ _ => False, bk := fun ρ M => E.bk (ρ.set i none) M, ct := fun ρ M => E.ct (ρ.set i none) M }
abbrev ClT : Type := Value × Nat × (Addr → Value → Option Addr → ST)
def xClauses (K : PySem.W.Frag) (E : DEnds) : List ClT → Value → List (Str × D) → Rh → Mem → Prop
  | [] => E.ex
  | q :: r => fun cls fs ρ M => ∃ b, PySem.W.exmOne K cls q.1 = some b ∧ (b = true → ∀ a d, (d = none ↔ fs = []) → q.2.2 a cls d (goneD E q.2.1) (ρ.set q.2.1 (some (.d (.xcp a d (fs.map (·.1)) (fs.map (·.2)))))) M) ∧ (b = false → xClauses K E r cls fs ρ M)
def tTry (K : PySem.W.Frag) (tb : ST) (l : List ClT) : ST := fun E ρ M => tb { E with ex := xClauses K E l } ρ M
inductive DCls (X : Cx) : List ExceptHandler → List ClT → Prop
  | none : DCls X [] []
  | more {x n : Str} {c : Value} {i : Nat} {ts : Addr → Value → Option Addr → ST} {st : Stmt} {sts : List Stmt} {p1 p2 : Pos} {hds : List ExceptHandler} {l : List ClT} (nm : Names X x c) (at_ : X.N[i]? = some n) (lc : X.env.kindOf n = some .local)
      (su : ∀ (a : Addr) (oe : Obj) (cls : Value) (d : Option Addr) (pn : List (Addr × Obj)), Zc cls d oe → (∃ vs, oe.data = .fields vs) → DSs (X.suite a ((a, oe) :: pn)) (st :: sts) (ts a cls d)) (r : DCls X hds l) :
      DCls X (.ExceptHandler (some (.Name x p1)) (some n) (st :: sts) p2 :: hds) ((c, i, ts) :: l)
def ups (X : Cx) : List ExceptHandler → List ClT → List ClauseT
  | .ExceptHandler _ _ sts _ :: hds, q :: l => (q.1, q.2.1, fun a cls d => fun F σ H => ∀ oe pn, Zc cls d oe → (∃ vs, oe.data = .fields vs) → sSs (X.suite a ((a, oe) :: pn)) sts F σ H) :: ups X hds l
  | _, _ => []
theorem ups_ok {X : Cx} : ∀ {hds : List ExceptHandler} {l : List ClT}, DCls X hds l → ClausesOk X hds (ups X hds l) := fun {hds l} k => by
  induction k with
  | none => exact .none
  | more nm at_ lc su r ih =>
    refine .more nm at_ lc (fun a oe cls d pn hz hf => ?_) ih
    exact ⟨fun pins s σ H D I h => h oe pn hz hf pins s I⟩
theorem ds_try {X : Cx} {body : List Stmt} {h0 : ExceptHandler} {hds : List ExceptHandler} {l : List ClT} {pos : Pos} {tb : ST} (est : X.stack = X.env :: X.outer) (efr : X.env.frame = some X.env.locals) (eN : X.N.Nodup)
    (eb : ∀ (pn : List (Addr × Obj)) (xe : Value → Shared → Prop), (∃ W, Takes (X.tr pn xe) W) → PassesOwn (model X.prog X.w) X.A X.env xe → DSs (X.tr pn xe) body tb) (eh : DCls X (h0 :: hds) l) : DS X (.Try body (h0 :: hds) [] [] pos) (tTry X.K tb l) where
  run := fun {E ρ M} h {σ H B L Z} S V {F} lk => by
    obtain ⟨Wout, tk, hW⟩ := lk.ex
    refine PS.s (ps_try_named (tb := fun W => fun D σ H => ∀ pn xe, Takes (X.tr pn xe) W → PassesOwn (model X.prog X.w) X.A X.env xe → sSs (X.tr pn xe) body D σ H) est efr eN tk (fun W pn xe t p => ⟨fun pins s σ H D I q => q pn xe t p pins s I⟩) (ups_ok eh)) ?_
    intro pn xe t p
    refine (eb pn xe ⟨_, t⟩ p).run h S V ⟨lk.nx, lk.rt, lk.bk, lk.ct, ⟨_, t, ?_⟩⟩
    have key : ∀ {hs2 : List ExceptHandler} {l2 : List ClT}, DCls X hs2 l2 → ∀ cls fs ρ' M' d B' L' σ' H', xClauses X.K E l2 cls fs ρ' M' → Ext B L B' L' → StM X.K B' L' Z M' H' → EnvR X.K B' L' σ' ρ' → XRep X.K B' d fs → wCl X.K Wout F (ups X hs2 l2) cls d σ' H' := fun {hs2 l2} k => by
      induction k with
      | none => exact fun cls fs ρ' M' d B' L' σ' H' a b c v r => hW cls fs ρ' M' d B' L' σ' H' a b c v r
      | @more x n c i ts st sts p1 p2 hs3 l3 nm at_ lc su r ih =>
        rintro cls fs ρ' M' d B' L' σ' H' ⟨b, eb1, yes, no⟩ e' S' V' xr
        refine ⟨b, eb1, fun hb a na oe pn2 hz hf => ?_, fun hb => ih _ _ _ _ _ _ _ _ _ (no hb) e' S' V' xr⟩
        have rx : RepV X.K B' L' (.d (.xcp a d (fs.map (·.1)) (fs.map (·.2)))) (.ref a) := by
          show Rep X.K B' _ _
          unfold Rep
          refine ⟨rfl, ?_⟩
          cases d with
          | none => 
            have : fs = [] := xr
            subst this
            exact .inl ⟨rfl, rfl, rfl⟩
          | some dd =>
            obtain ⟨_, gs, g1, g2, g3⟩ := xr
            exact .inr ⟨dd, gs, rfl, g1, g2, g3⟩
        have lk2 := lk.mono e'
        refine (su a oe cls d pn2 hz hf).run (yes hb a d ?_) S' (V'.set rx i) ⟨fun ρ2 M2 B2 L2 σ2 H2 a1 b1 c1 d1 => lk2.nx _ _ _ _ _ _ a1 b1 c1 (d1.forget i none), lk2.rt, fun ρ2 M2 B2 L2 σ2 H2 a1 b1 c1 d1 => lk2.bk _ _ _ _ _ _ a1 b1 c1 (d1.forget i none), fun ρ2 M2 B2 L2 σ2 H2 a1 b1 c1 d1 => lk2.ct _ _ _ _ _ _ a1 b1 c1 (d1.forget i none), ⟨_, takes0, fun _ _ _ _ _ _ _ _ _ z => z.elim⟩⟩
        cases d with
        | none => exact ⟨fun _ => xr, fun _ => rfl⟩
        | some dd => exact ⟨fun z => (by cases z), fun z => absurd z xr.1⟩
    exact key eh
/-! ### in a suite -/
section
variable {X : Cx} {a : Addr} {oe : Obj} {cls : Value} {d : Option Addr} {pn : List (Addr × Obj)} {e : Expr} {fe : ET} {pos : Pos} {f : Str}
/-- e.f of the caught exception -/
def tXfD (a : Addr) (cls : Value) (d : Option Addr) (C : Addr) (f : Str) (fe : ET) : ET := fun ρ M P x => fe ρ M (fun v M1 => match v with
  | .d (.xcp a' d' ns fs) => (a' = a ∧ d' = d ∧ cls = .ref C) ∧ (match (ns.zip fs).lookup f with
    | some y => P (.d y) M1
    | none => False)
  | _ => False) x
theorem lookup_rel {K : PySem.W.Frag} {B : Hp} : ∀ {fs : List D} {gs : List (Str × V)} {ns : List Str} {y : D}, gs.map (·.1) = ns → RepL K B fs (gs.map (·.2)) → (ns.zip fs).lookup f = some y → ∃ v, gs.lookup f = some v ∧ Rep K B y v
  | _, [], _, _, h, _, e => by
    subst h
    simp at e
  | [], _ :: _, _, _, _, r, _ => by
    unfold RepL at r
    exact r.elim
  | x :: xs, (n, v) :: gs, _, y, h, r, e => by
    subst h
    change RepL K B (x :: xs) (v :: gs.map (·.2)) at r
    unfold RepL at r
    change (match f == n with | true => some x | false => ((gs.map (·.1)).zip xs).lookup f) = some y at e
    show ∃ u, (match f == n with | true => some v | false => gs.lookup f) = some u ∧ _
    cases q : (f == n) with
    | true =>
      rw [q] at e
      cases e
      exact ⟨v, rfl, r.1⟩
    | false =>
      rw [q] at e
      exact lookup_rel rfl r.2 e
theorem de_xf {C : Addr} (T : XfC X.K C) (hno : PySem.W.findIn X.K (.ref C) f = some none) (hz : Zc cls d oe) (hf : ∃ vs, oe.data = .fields vs) (he : DE (X.suite a ((a, oe) :: pn)) e fe) (hb : attributeBase e f X.env (eval e X.env) = eval e X.env := by rfl) :
    DE (X.suite a ((a, oe) :: pn)) (.Attribute e f pos) (tXfD a cls d C f fe) where
  run := fun {ρ M P x} h {σ H B L Z} S E x1 {Q} q => by
    refine PE.s (pe_xf T hno hz hf pe_s hb) ?_
    refine he.run h S E x1 fun v M1 u B1 L1 H1 h1 e1 S1 r1 => ?_
    dsimp only at h1
    split at h1
    · rename_i a' d' ns fs
      obtain ⟨⟨rfl, rfl, ec⟩, h2⟩ := h1
      split at h2
      · rename_i y hy
        unfold RepV Rep at r1
        obtain ⟨rfl, r1 | ⟨dd, gs, g1, g2, g3, g4⟩⟩ := r1
        · obtain ⟨_, rfl, rfl⟩ := r1
          simp at hy
        · obtain ⟨v, l1, l2⟩ := lookup_rel g3 g4 hy
          exact ⟨rfl, ec, dd, gs, v, g1, S1.sub.eq g2, l1, q _ _ _ _ _ _ h2 e1 S1 l2⟩
      · exact h2.elim
    · exact h1.elim
/-- isinstance of the caught exception, which has no fields -/
def oIsE (K : PySem.W.Frag) (a : Addr) (cls : Value) (d : Option Addr) : CT := fun ds M P => match ds with
  | [.d (.xcp a' _ _ _), .d (.ref c)] => (a' = a ∧ d = none) ∧ ∃ C b, cls = .ref C ∧ ExcC K C ∧ PySem.W.kitOne K (.ref C) (.ref c) = some b ∧ P (.d (.bl b)) M
  | _ => False
theorem dc_isE (hz : Zc cls d oe) (hf : ∃ vs, oe.data = .fields vs) : DC (X.suite a ((a, oe) :: pn)) (.builtin "isinstance") (oIsE X.K a cls d) where
  run := fun {ds M P} h {vs B L Z H} S rs {Q} q => by
    unfold oIsE at h
    split at h
    · obtain ⟨⟨rfl, rfl⟩, C, b, rfl, T, hk, hP⟩ := h
      obtain ⟨v, w, rfl, r1, r2⟩ := two_v rs
      have e2 := rv_ref.mp r2
      subst e2
      unfold RepV Rep at r1
      obtain ⟨rfl, _⟩ := r1
      exact callS (call_isE T hz hf) ⟨_, _, b, rfl, fun u r => r, hk, q.here S hP (rv_bl.mpr rfl)⟩
    · exact h.elim
end
end DL

namespace DL
open PySem PySem.Spec PyProof.Rows L2
/-! ### (x, ..) * 1 -/
theorem tup_once (l : Addr) (items : Array Value) (n : Nat) (dd : Option Addr) (sl : Array (Option Value)) (u : Tok) :
    Meets (Builtin.«tuple.__mul__» ⟨[.ref l, .int 1 u], []⟩) (fun _ R s => s.heap.get? l = some { cls := .type "tuple", dict := dd, data := .seq items n, slots := sl } ∧ R (.ok (.ret (Value.ref l))) s) :=
  .of_wp fun prog w A R s h => by
    obtain ⟨hp, g, d, tk, os⟩ := s
    obtain ⟨hl, h⟩ := h
    have f1 := AutoSeq1.idx_int
    have c1 : (items.isEmpty || (1 : Int) == 1) = true := by simp
    wp_walk using wpAny_loadPart' hl
    repeat (first
      | (refine wpAny_ite_false (decide_eq_false (by decide)) ?_; wp_walk using wpAny_loadPart' hl)
      | (refine wpAny_ite_true (decide_eq_true (by rw [c1])) ?_; wp_walk using wpAny_loadPart' hl)
      | (refine wpAny_ite_true (decide_eq_true c1) ?_; wp_walk using wpAny_loadPart' hl))
    exact ⟨_, rfl, h⟩
section
variable {X : Cx}
theorem op_once : OpR X (binaryOp .Mult) (fun x y H Q => ∃ l xs, x = .ref l ∧ y = .int 1 ∧ SqT X.K H l xs ∧ Q (.ref l) H) := by
  intro pins s σ H x y v u Q I rx ry h
  obtain ⟨l, xs, rfl, rfl, hT, q⟩ := h
  cases rx
  obtain ⟨t, rfl⟩ := ry
  obtain ⟨its, r, ⟨⟨cls, dd, data, sl⟩, ho, hc, n, hd⟩, hs⟩ := I.tuple hT
  simp only at hc hd
  subst hc hd
  refine wpAny_binaryOp_repeat_ref (T := "tuple") (U := "int") (by decide) ⟨_, ho, rfl⟩ (fun s' => typeIs_int s' 1 t) noFill_tuple_mul F.fills_int_mul F.slot_int_rmul repeat_tuple F.slot_int_index.lookup ?_
  refine call_meets F.slot_int_rmul (typeIs_int s 1 t) F.entry_int_rmul (F.args_int_rmul_2 _ _) (int_rmul_tuple 1 t l its.toArray n dd sl) ⟨ho, rfl, ⟨_, ho, rfl⟩, ?_⟩
  exact call_meets F.slot_tuple_mul ⟨_, ho, rfl⟩ F.entry_tuple_mul (F.args_tuple_mul_2 _ _) (tup_once l its.toArray n dd sl t) ⟨ho, .ref l, H, I, rfl, q⟩
end
variable [Csts]
section
variable {X : Cx}
def oMul2 : O2 := fun a b M P => match a, b with
  | .d (.tup xs), .d (.int k) => (xs ≠ [] ∧ 1 ≤ k ∧ k ≤ 1000 ∧ xs.length ≤ 1000) ∧ P (.d (.tup (List.replicate k.toNat xs).flatten)) M
  | a, b => oMul a b M P
theorem do_mul2 : DO X (binaryOp .Mult) oMul2 where
  run := fun {a b M P} h {u v B L Z H} S r1 r2 {Q} q => by
    unfold oMul2 at h
    split at h
    · rename_i xs k
      by_cases hk : k = 1
      · subst hk
        have e := rv_int.mp r2
        subst e
        have r1' := r1
        unfold RepV Rep at r1
        obtain ⟨p, vs, rfl, g1, g2⟩ := r1
        have ex : (List.replicate (1 : Int).toNat xs).flatten = xs := by
          show (List.replicate 1 xs).flatten = xs
          simp
        rw [ex] at h
        exact opS op_once ⟨p, vs, rfl, rfl, S.sub.t g1, q.here S h.2 r1'⟩
      · exact do_mul.run (a := .d (.tup xs)) (b := .d (.int k)) ⟨⟨h.1.1, by have := h.1.2.1; omega, h.1.2.2⟩, h.2⟩ S r1 r2 q
    · exact do_mul.run h S r1 r2 q
/-! ### d.get(k, x), looked up by name -/
@[irreducible] def getOr (kvs : List (Key × D)) (k : Key) (z : DV) : DV := match lookD kvs k with
  | some y => .d y
  | none => z
def tDgetS (fo fe ff : ET) : ET := fun ρ M P x => fo ρ M (fun d M1 => match d with
  | .d (.dic kvs) => fe ρ M1 (fun k M2 => ff ρ M2 (fun z M3 => match keyD k with
    | some k => P (getOr kvs k z) M3
    | none => False) x) x
  | _ => False) x
variable {o e f : Expr} {fo fe ff : ET} {apos cpos : Pos}
theorem de_dget2S (hu : X.A.units + 64 < cLine) (ho : DE X o fo) (he : DE X e fe) (hf : DE X f ff) (m : M2 X o "get" apos e f cpos := by exact ⟨rfl, rfl, rfl, rfl⟩) : DE X (.Call (.Attribute o "get" apos) [e, f] [] cpos) (tDgetS fo fe ff) where
  run := fun {ρ M P x} h {σ H B L Z} S V x1 {Q} q => by
    refine (de_dget2 hu ho he hf m).run (P := P) ?_ S V x1 q
    unfold tDgetS getOr at h
    exact h
end
/-! ### an exception class with its own __init__, as a def -/
structure FunE (K : PySem.W.Frag) (mg : Str → Option Value) (x qual : Str) (C : Addr) (st : Stmt) (ps : List Str) : Prop where
  mg_ : mg x = some (.ref C)
  oex : OexC K C
  ex : ∃ fI fd, Fun K "__init__" qual st fI fd ∧ PySem.W.findIn K (.ref C) "__init__" = some (some (.ref fI)) ∧ PySem.W.typeIn K (.ref fI) = some (.type "function") ∧ Binds K fd ps []
theorem FunE.callee {P : Program} {w : World} {K : PySem.W.Frag} {mg : Str → Option Value} {base : Heap} {x qual : Str} {C : Addr} {st : Stmt} {N ps ns : List Str} (E : FunE K mg x qual C st ps) (S : FnScope N ps (defScope st)) (hl : ps.length = ns.length + 1) (few : ns.length ≤ 10) (one : ns ≠ [])
    (no : ∀ n ∈ ns, PySem.W.findIn K (.ref C) n = some none)
    (body : ∀ (f : Addr) (cdv : Value) (A : Around) (outer : List PySem.Env) (s : Shared) (H : Hp) (vs : List V) (Q : VK) (E : XK), InitSp K ns vs H Q E → ∃ t, PSs (cxOf (L2.CX P w) P w K mg base N qual (defScope st) f cdv A outer s H E) (defBody st) t ∧ t { nx := fun _ H' => Q .non H', rt := Q } (L2.start N vs) H) : CalleeX P w K mg base x C ps ns := by
  obtain ⟨fI, fd, F, h1, h2, h3⟩ := E.ex
  refine ⟨E.mg_, E.oex, no, few, one, fI, fd, h1, h2, h3, F.okX S (fun vs H Q E h => ?_) (fun cdv A outer s H vs Q E hr h => body fI cdv A outer s H vs Q E h)⟩
  obtain ⟨a, C, ws, rfl, hw, _⟩ := h
  rw [hl, List.length_cons, hw]
/-! ### a test whose answer is known -/
theorem br_n {b : Bool} {A B : Prop} (h : b = true → False) (a : B) : (b = true → A) ∧ (b = false → B) := ⟨fun q => (h q).elim, fun _ => a⟩
theorem br_y {b : Bool} {A B : Prop} (h : b = false → False) (a : A) : (b = true → A) ∧ (b = false → B) := ⟨fun _ => a, fun q => (h q).elim⟩
theorem br_any {b : Bool} {A B : Prop} (h : b = true → A) (a : b = false → B) : (b = true → A) ∧ (b = false → B) := ⟨h, a⟩
end DL

/-! ### != of lists within one model (the kit's rule for ==, turned) -/
namespace DL
open PySem PySem.SeqAt PySem.Spec PySem.Builtin
open AutoSeq1 (wpAny_loadPart')
open MeetsSeq MeetsSeq2 MeetsSeq3 SeqRoads2
section
variable {prog : Program} {w : World}
theorem ne_loopIn (l b : Addr) (items items2 : Array Value) (n n2 : Nat) (dd dd2 : Option Addr) (sl sl2 : Array (Option Value)) (hsz : items.size = items2.size) (e : Nat → Bool) (k : Nat) :
    ∀ i : Nat, items.size - i = k → MeetsIn prog w (Builtin.«list.__eq__.loop» ⟨[.ref l, .ref b, rawInt i, rawInt 3], []⟩)
      (fun A R s => s.heap.get? l = some { cls := .type "list", dict := dd, data := .seq items n, slots := sl } ∧ s.heap.get? b = some { cls := .type "list", dict := dd2, data := .seq items2 n2, slots := sl2 } ∧
        (∀ j (h1 : j < items.size) (h2 : j < items2.size), EqP prog w A.in1 s items[j] items2[j] (e j)) ∧
        R (.ok (.ret (.bool (!((List.range items.size).drop i).all e)))) s) := by
  induction k with
  | zero =>
    intro i hk A R s h
    obtain ⟨hp, g, d, tk, os⟩ := s; obtain ⟨hl, hb, he, h⟩ := h
    wp_walk using wpAny_loadPart' hl, wpAny_loadPart' hb
    have hi1 : items[((i : Nat) : Int).toNat]? = none := by simp; omega
    have hi2 : items2[((i : Nat) : Int).toNat]? = none := by simp; omega
    have hd : (List.range items.size).drop i = [] := by simp; omega
    rw [hd] at h
    rw [hi1, hi2]
    wp_walk using wpAny_loadPart' hl, wpAny_loadPart' hb
    show R (.ok (.ret (.bool (items.size != items2.size)))) _
    rw [hsz]
    simpa using h
  | succ k ih =>
    intro i hk A R s h
    obtain ⟨hp, g, d, tk, os⟩ := s; obtain ⟨hl, hb, he, h⟩ := h
    wp_walk using wpAny_loadPart' hl, wpAny_loadPart' hb
    have hlt : i < items.size := by omega
    have hlt2 : i < items2.size := by omega
    have hi1 : items[((i : Nat) : Int).toNat]? = some items[i] := by simp [hlt]
    have hi2 : items2[((i : Nat) : Int).toNat]? = some items2[i] := by simp [hlt2]
    have hd : (List.range items.size).drop i = i :: (List.range items.size).drop (i + 1) := by simp [List.drop_eq_getElem_cons, hlt]
    have hc : ((i : Int) + 1) = ((i + 1 : Nat) : Int) := by push_cast; rfl
    rw [hd, List.all_cons] at h
    rw [hi1, hi2]
    refine wpAny_bind (he i hlt hlt2 _ _ ?_)
    cases hb' : e i with
    | true =>
      rw [hb'] at h
      wp_walk
      rw [hc]
      exact ⟨plainId_quiet plain_eq_loop _, codeAny_builtin entry_eq_loop (by
        rw [Around.under_plainId plain_eq_loop _]
        exact ih (i + 1) (by omega) A R _ ⟨hl, hb, he, by simpa using h⟩)⟩
    | false =>
      rw [hb'] at h
      wp_walk using wpAny_loadPart' hl, wpAny_loadPart' hb
      rw [hi1, hi2]
      wp_walk
      simpa using h
theorem list_neIn (l b : Addr) (items items2 : Array Value) (n n2 : Nat) (dd dd2 : Option Addr) (sl sl2 : Array (Option Value)) (hsz : items.size = items2.size) (e : Nat → Bool) :
    MeetsIn prog w (Builtin.«list.__ne__» ⟨[.ref l, .ref b], []⟩)
      (fun A R s => s.heap.get? l = some { cls := .type "list", dict := dd, data := .seq items n, slots := sl } ∧ s.heap.get? b = some { cls := .type "list", dict := dd2, data := .seq items2 n2, slots := sl2 } ∧
        (∀ j (h1 : j < items.size) (h2 : j < items2.size), EqP prog w A.in1 s items[j] items2[j] (e j)) ∧
        R (.ok (.ret (.bool (!(List.range items.size).all e)))) s) := by
  intro A R s h
  obtain ⟨hp, g, d, tk, os⟩ := s; obtain ⟨hl, hb, he, h⟩ := h
  have f3 := AutoSeq1.sub_list_list
  have hne : ¬ (items.size != items2.size) = true := by simp [hsz]
  wp_walk using wpAny_loadPart' hl, wpAny_loadPart' hb
  exact ⟨plainId_quiet plain_eq_loop _, codeAny_builtin entry_eq_loop (by
    rw [Around.under_plainId plain_eq_loop _]
    exact ne_loopIn l b items items2 n n2 dd dd2 sl sl2 hsz e _ 0 rfl A R _ ⟨hl, hb, he, by simpa using h⟩)⟩
theorem rcP_ne {A : Around} {s : Shared} {l b : Addr} {items items2 : Array Value} {e : Nat → Bool} (hl : s.heap.IsList l items) (hb : s.heap.IsList b items2) (hsz : items.size = items2.size) (hu : A.units < cLine)
    (he : ∀ j (h1 : j < items.size) (h2 : j < items2.size), EqP prog w A.in1 s items[j] items2[j] (e j)) (E Q : Value → Shared → Prop) (h : Q (.bool (!(List.range items.size).all e)) s) : wpAny (model prog w) A (richCompare .NotEq (.ref l) (.ref b)) Q E s := by
  obtain ⟨⟨cls, dd, data, sl⟩, ho, hc, n, hd⟩ := id hl
  obtain ⟨⟨cls2, dd2, data2, sl2⟩, ho2, hc2, n2, hd2⟩ := id hb
  simp only at hc hd hc2 hd2
  subst hc hd hc2 hd2
  have ta : s.TypeIs (.ref l) "list" := ⟨_, ho, rfl⟩
  have tb : s.TypeIs (.ref b) "list" := ⟨_, ho2, rfl⟩
  exact wpAny_richCompare_same_room (op := .NotEq) ta tb F.slot_list_ne (call_meetsIn F.slot_list_ne ta F.entry_list_ne (F.args_list_ne_2 _ _) (list_neIn l b items items2 n n2 dd dd2 sl sl2 hsz e)
    ⟨ho, ho2, he, show Value.bool (!(List.range items.size).all e) ≠ Value.notImplemented ∧ Q (.bool (!(List.range items.size).all e)) s from ⟨(fun x => nomatch x), h⟩⟩) hu
end
end DL
namespace DL
open PySem PySem.Spec PyProof.Rows L2
variable [Csts]
/-! ### a dict, as data or as a cell -/
def dicOf (M : Mem) : DV → Option (List (Key × D))
  | .d (.dic kvs) => some kvs
  | .m k => (match M[k]? with
    | some (.dic kvs) => some kvs
    | _ => none)
  | _ => none
section
variable {K : PySem.W.Frag} {B : Hp} {L : List Addr} {Z : Zs} {M : Mem} {H : Hp}
theorem StM.dict (S : StM K B L Z M H) {d : DV} {v : V} {kvs : List (Key × D)} (r : RepV K B L d v) (h : dicOf M d = some kvs) : ∃ a ws, v = .ref a ∧ Rd H a (.dK ws) ∧ RepK K B kvs ws := by
  unfold dicOf at h
  split at h
  · cases h
    unfold RepV Rep at r
    obtain ⟨a, ws, rfl, g1, g2⟩ := r
    exact ⟨a, ws, rfl, S.sub.rdK g1, g2⟩
  · split at h
    · rename_i k kvs' hk
      cases h
      obtain ⟨a, rfl, g3⟩ := r
      obtain ⟨a', g4, c⟩ := S.at_ hk
      have : a' = a := Option.some.inj (g4.symm.trans g3)
      subst this
      obtain ⟨ws, g1, g2⟩ := c
      exact ⟨a', ws, rfl, .inl g1, g2⟩
    · cases h
  · cases h
end
section
variable {X : Cx}
/-! ### dict(d) -/
def oDictM : CT := fun ds M P => match ds with
  | [d] => (match dicOf M d with
    | some kvs => P (.m M.length) (M ++ [.dic kvs])
    | none => False)
  | _ => False
theorem dc_dictM : DC X (.type "dict") oDictM where
  run := fun {ds M P} h {vs B L Z H} S rs {Q} q => by
    unfold oDictM at h
    split at h
    · split at h
      · rename_i d kvs hx
        obtain ⟨v, rfl, r⟩ := one_v rs
        obtain ⟨a, ws, rfl, g1, g2⟩ := S.dict r hx
        refine callS call_dictD ⟨a, ws, rfl, g1, fun l hl => ?_⟩
        have E1 : Ext B L B (L ++ [l]) := ⟨Sub.refl B, [l], rfl⟩
        obtain ⟨S2, e2⟩ := S.newM (o := .dK ws) (m := .dic kvs) hl ⟨ws, upd_same, g2⟩
        refine q _ _ _ _ _ _ h e2 S2 ⟨l, rfl, ?_⟩
        rw [← S.len]
        simp
      · exact h.elim
    · exact h.elim
/-! ### list(d): its keys -/
def oListKM : CT := fun ds M P => match ds with
  | [d] => (match dicOf M d with
    | some kvs => P (.d (.lst (kvs.map fun kv => kD kv.1))) M
    | none => False)
  | _ => False
theorem repL_keys {K : PySem.W.Frag} {B : Hp} : ∀ {kvs : List (Key × D)} {ws : List (Key × V)}, RepK K B kvs ws → RepL K B (kvs.map fun kv => kD kv.1) (ws.map fun kv => kV kv.1)
  | [], [], _ => by
    show RepL K B [] []
    unfold RepL
    trivial
  | (a, x) :: kvs, (b, u) :: ws, h => by
    unfold RepK at h
    obtain ⟨rfl, h2, h3⟩ := h
    rw [List.map_cons, List.map_cons]
    unfold RepL
    exact ⟨kD_rep _, repL_keys h3⟩
  | [], _ :: _, h => by unfold RepK at h; exact h.elim
  | (_, _) :: _, [], h => by unfold RepK at h; exact h.elim
theorem dc_listK (hc : X.calm = true) : DC X (.type "list") oListKM where
  run := fun {ds M P} h {vs B L Z H} S rs {Q} q => by
    unfold oListKM at h
    split at h
    · split at h
      · rename_i d kvs hx
        obtain ⟨v, rfl, r⟩ := one_v rs
        obtain ⟨a, ws, rfl, g1, g2⟩ := S.dict r hx
        exact callS (call_listD hc) ⟨a, ws, rfl, g1, fun l hl => new_lst S (repL_keys g2) h q hl⟩
      · exact h.elim
    · exact h.elim
/-! ### sorted(texts) -/
def strsOf : List DV → Option (List Str)
  | [] => some []
  | .d (.str i) :: r => (match strsOf r with
    | some is => some (i :: is)
    | none => none)
  | _ :: _ => none
theorem strsOf_eq : ∀ {xs : List DV} {is : List Str}, strsOf xs = some is → xs = is.map fun i => .d (.str i)
  | [], _, h => by cases h; rfl
  | .d (.str i) :: r, is, h => by
    unfold strsOf at h
    split at h
    · rename_i js hj
      cases h
      rw [strsOf_eq hj]
      rfl
    · cases h
  | .m _ :: _, _, h => by cases h
  | .pr _ _ :: _, _, h => by cases h
  | .d .non :: _, _, h => by cases h
  | .d (.bl _) :: _, _, h => by cases h
  | .d (.int _) :: _, _, h => by cases h
  | .d (.ref _) :: _, _, h => by cases h
  | .d (.ty _) :: _, _, h => by cases h
  | .d (.lst _) :: _, _, h => by cases h
  | .d (.frl _) :: _, _, h => by cases h
  | .d (.tup _) :: _, _, h => by cases h
  | .d (.dic _) :: _, _, h => by cases h
  | .d (.obj _ _) :: _, _, h => by cases h
  | .d (.slo _ _) :: _, _, h => by cases h
  | .d (.xcp _ _ _ _) :: _, _, h => by cases h
theorem repVs_strs {K : PySem.W.Frag} {B : Hp} {L : List Addr} : ∀ {is : List Str} {vs : List V}, RepVs K B L (is.map fun i => DV.d (.str i)) vs → vs = is.map V.str
  | [], [], _ => rfl
  | i :: is, v :: vs, h => by
    rw [List.map_cons, rv_str.mp h.1, repVs_strs h.2]
  | [], _ :: _, h => h.elim
  | _ :: _, [], h => h.elim
theorem repL_strs {K : PySem.W.Frag} {B : Hp} : ∀ (is : List Str), RepL K B (is.map D.str) (is.map V.str)
  | [] => by unfold RepL; trivial
  | i :: is => by
    unfold RepL
    exact ⟨by simp only [Rep], repL_strs is⟩
theorem StM.lsq {K : PySem.W.Frag} {B : Hp} {L : List Addr} {Z : Zs} {M : Mem} {H : Hp} (S : StM K B L Z M H) {d : DV} {v : V} {xs : List DV} (r : RepV K B L d v) (h : lsOf M d = some xs) : ∃ p vs, v = .ref p ∧ SqL K H p vs ∧ RepVs K B L xs vs := by
  unfold lsOf at h
  split at h
  · cases h
    unfold RepV Rep at r
    obtain ⟨a, vs, h1, h2, h3⟩ := r
    exact ⟨a, vs, h1, S.sub.l (.inl (.inl h2)), h3.vs⟩
  · split at h
    · rename_i k xs' hk
      cases h
      obtain ⟨a, h1, h2⟩ := r
      obtain ⟨a', h3, c⟩ := S.at_ hk
      have : a' = a := Option.some.inj (h3.symm.trans h2)
      subst this
      obtain ⟨vs, h4, h5⟩ := c
      exact ⟨a', vs, h1, .inl (.inl h4), h5⟩
    · cases h
  · cases h
def oSortS : CT := fun ds M P => match ds with
  | [d] => (match lsOf M d with
    | some xs => (match strsOf xs with
      | some is => is.length < 64 ∧ ∀ ys : List Str, ys.Perm is → sortedS ys = true → P (.d (.lst (ys.map D.str))) M
      | none => False)
    | none => False)
  | _ => False
theorem dc_sortS : DC X (.builtin "sorted") oSortS where
  run := fun {ds M P} h {vs B L Z H} S rs {Q} q => by
    unfold oSortS at h
    split at h
    · split at h
      · rename_i d xs hx
        split at h
        · rename_i is hi
          obtain ⟨v, rfl, r⟩ := one_v rs
          obtain ⟨p, ws, rfl, g1, g2⟩ := S.lsq r hx
          have e := strsOf_eq hi
          subst e
          have := repVs_strs g2
          subst this
          have key : ∀ (ys : List Str) (p : Addr), ys.Perm is → sortedS ys = true → H p = none → Q (.ref p) (upd H p (.lst (ys.map V.str))) := fun ys p hy hs hp => new_lst S (repL_strs ys) (h.2 ys hy hs) q hp
          exact callS cr_sortedS ⟨p, is, rfl, g1, h.1, key⟩
        · exact h.elim
      · exact h.elim
    · exact h.elim
/-! ### xs[::-1] -/
def tRev (fe : ET) : ET := fun ρ M P x => fe ρ M (fun d M1 => match lsOf M1 d with
  | some xs => (match allD xs with
    | some zs => P (.d (.lst zs.reverse)) M1
    | none => False)
  | none => False) x
theorem RepL.rev {K : PySem.W.Frag} {B : Hp} : ∀ {xs : List D} {vs : List V}, RepL K B xs vs → RepL K B xs.reverse vs.reverse
  | [], [], h => h
  | x :: xs, v :: vs, h => by
    unfold RepL at h
    rw [List.reverse_cons, List.reverse_cons]
    exact (RepL.rev h.2).app (by unfold RepL; exact ⟨h.1, by unfold RepL; trivial⟩)
  | [], _ :: _, h => by unfold RepL at h; exact h.elim
  | _ :: _, [], h => by unfold RepL at h; exact h.elim
theorem de_rev {e : Expr} {fe : ET} {k : Nat} {p1 p2 p3 pos : Pos} (he : DE X e fe) : DE X (.Subscript e (.Slice none none (some (.UnaryOp .USub (.Constant (.int 1) k p1) p2)) p3) pos) (tRev fe) where
  run := fun {ρ M P x} h {σ H B L Z} S V x1 {Q} q => by
    refine PE.s (pe_revL pe_s) ?_
    refine he.run h S V x1 fun d M1 v B1 L1 H1 h1 e1 S1 r1 => ?_
    dsimp only at h1
    split at h1
    · rename_i xs hx
      split at h1
      · rename_i zs hz
        have := allD_eq hz
        subst this
        obtain ⟨p, vs, rfl, g1, g2⟩ := S1.lsq r1 hx
        exact ⟨p, vs, rfl, g1, fun l hl => new_lst S1 (RepL.rev g2.toL) h1 (q.mono e1) hl⟩
      · exact h1.elim
    · exact h1.elim
/-! ### d.clear() -/
theorem cell_ofD {k : Nat} {xs : List (Key × D)} {v : V} {B : Hp} {L : List Addr} {Z : Zs} {M : Mem} {H : Hp} (S : StM X.K B L Z M H) (hk : M[k]? = some (.dic xs)) (r : RepV X.K B L (.m k) v) : ∃ a vs, v = .ref a ∧ L[k]? = some a ∧ H a = some (.dK vs) ∧ RepK X.K B xs vs := by
  obtain ⟨a, rfl, h2⟩ := r
  obtain ⟨a', h3, cell⟩ := S.at_ hk
  have : a' = a := Option.some.inj (h3.symm.trans h2)
  subst this
  obtain ⟨vs, g1, g2⟩ := cell
  exact ⟨a', vs, rfl, h3, g1, g2⟩
def oDclear : MT := fun d ds M P => match d, ds with
  | .m k, [] => (match M[k]? with
    | some (.dic _) => P (.d .non) (M.set k (.dic []))
    | _ => False)
  | _, _ => False
theorem dm_dclear : DM X "dict.clear" oDclear where
  run := fun {a ds M P} h {u vs B L Z H} S r rs {Q} q => by
    unfold oDclear at h
    split at h
    · split at h
      · rename_i k kvs hk
        obtain ⟨p, ws, rfl, g1, g2, g3⟩ := cell_ofD S hk r
        match vs, rs with
        | [], _ => exact mtS mtd_clear ⟨p, ws, rfl, rfl, g2, q _ _ _ _ _ _ h (Ext.refl _ _) (S.put g1 hk rfl ⟨_, upd_same, by unfold RepK; trivial⟩) (rv_non.mpr rfl)⟩
      · exact h.elim
    · exact h.elim
/-! ### d.pop(k, x) -/
def dropD (kvs : List (Key × D)) (k : Key) : List (Key × D) := kvs.filter fun kv => decide (kv.1 ≠ k)
theorem RepK.drop {K : PySem.W.Frag} {B : Hp} (k : Key) : ∀ {kvs : List (Key × D)} {ws : List (Key × V)}, RepK K B kvs ws → RepK K B (dropD kvs k) (dropK ws k)
  | [], [], h => h
  | (a, x) :: kvs, (b, u) :: ws, h => by
    unfold RepK at h
    obtain ⟨rfl, h2, h3⟩ := h
    have ih := RepK.drop k h3
    unfold dropD dropK at ih ⊢
    rw [List.filter_cons, List.filter_cons]
    dsimp only
    split
    · unfold RepK
      exact ⟨rfl, h2, ih⟩
    · exact ih
  | [], _ :: _, h => by unfold RepK at h; exact h.elim
  | (_, _) :: _, [], h => by unfold RepK at h; exact h.elim
def tDpop2 (fo fe ff : ET) : ET := fun ρ M P x => fo ρ M (fun d M1 => match d with
  | .m n => (match M1[n]? with
    | some (.dic _) => fe ρ M1 (fun k M2 => ff ρ M2 (fun z M3 => match keyD k with
      | some k => (match M3[n]? with
        | some (.dic kvs) => (match lookD kvs k with
          | some y => P (.d y) (M3.set n (.dic (dropD kvs k)))
          | none => P z M3)
        | _ => False)
      | _ => False) x) x
    | _ => False)
  | _ => False) x
variable {o e f : Expr} {fo fe ff : ET} {apos cpos pos : Pos}
theorem de_dpop2 (ho : DE X o fo) (he : DE X e fe) (hf : DE X f ff) (m : M2 X o "pop" apos e f cpos := by exact ⟨rfl, rfl, rfl, rfl⟩) : DE X (.Call (.Attribute o "pop" apos) [e, f] [] cpos) (tDpop2 fo fe ff) where
  run := fun {ρ M P x} h {σ H B L Z} S V x1 {Q} q => by
    refine PE.s (pe_dpop2 pe_s pe_s pe_s m) ?_
    refine ho.run h S V x1 fun d M1 v B1 L1 H1 h1 e1 S1 r1 => ?_
    dsimp only at h1
    split at h1
    · rename_i n
      split at h1
      · rename_i kvs0 hn
        obtain ⟨p, ws0, rfl, g1, g2, g3⟩ := cell_ofD S1 hn r1
        refine ⟨p, rfl, .inl ⟨ws0, .inl g2⟩, ?_⟩
        refine he.run h1 S1 (V.mono e1) (x1.mono e1) fun k M2 vk B2 L2 H2 h2 e2 S2 r2 => ?_
        refine hf.run h2 S2 (V.mono (e1.trans e2)) (x1.mono (e1.trans e2)) fun z M3 vz B3 L3 H3 h3 e3 S3 r3 => ?_
        dsimp only at h3
        split at h3
        · rename_i kk hk
          split at h3
          · rename_i kvs hn3
            obtain ⟨p', ws, e', k1, k2, k3⟩ := cell_ofD S3 hn3 (r1.mono (e2.trans e3))
            cases e'
            refine ⟨ws, kk, k2, keyD_v r2 hk, fun w hw => ?_, fun hw => ?_⟩
            · rcases k3.val kk with ⟨y1, y2⟩ | ⟨y, w', y1, y2, y3⟩
              · rw [y2] at hw
                cases hw
              · rw [y2] at hw
                cases hw
                rw [y1] at h3
                exact q _ _ _ _ _ _ h3 ((e1.trans e2).trans e3) (S3.put k1 hn3 rfl ⟨_, upd_same, RepK.drop kk k3⟩) y3
            · rcases k3.val kk with ⟨y1, y2⟩ | ⟨y, w', y1, y2, y3⟩
              · rw [y1] at h3
                exact q _ _ _ _ _ _ h3 ((e1.trans e2).trans e3) S3 r3
              · rw [y2] at hw
                cases hw
          · exact h3.elim
        · exact h3.elim
      · exact h1.elim
    · exact h1.elim
/-! ### list(d.items()) -/
def itemsD (kvs : List (Key × D)) : List D := kvs.map fun kv => .tup [kD kv.1, kv.2]
def tItems (fe : ET) : ET := fun ρ M P x => fe ρ M (fun d M1 => match d with
  | .m n => (match M1[n]? with
    | some (.dic kvs) => P (.d (.lst (itemsD kvs))) M1
    | _ => False)
  | _ => False) x
/-! ### == of dicts -/
theorem hitsF {P : Program} {w : World} {A : Around} {s : Shared} {ls : List (Key × V)} {vb : List (Key × Value)} (rb : KV ls vb) (fl : ∀ p ∈ ls, flatV p.2 = true) {ks : List (Key × V)} {va : List (Key × Value)} (ra : KV ks va) :
    (∀ p ∈ ks, flatV p.2 = true) → PySem.W.KeqHitsP P w A s vb va (ks.all fun p => match valV ls p.1 with
      | some u => L2.eqV p.2 u
      | none => false) := by
  unfold KV at ra
  induction ra with
  | nil => intro _; exact .nil
  | @cons p q ps qs h t k =>
    intro hp
    obtain ⟨h1, h2⟩ := h
    obtain ⟨key, v⟩ := q
    have h1' : p.1 = key := h1
    have rr : RelO (valV ls p.1) (valueAt vb p.1) := rb.val p.1
    rw [List.all_cons]
    cases hv : valV ls p.1 with
    | none =>
      rw [hv] at rr
      have hn : valueAt vb p.1 = none := by
        cases e : valueAt vb p.1 with
        | none => rfl
        | some y => rw [e] at rr; exact rr.elim
      rw [h1'] at hn
      exact .miss hn
    | some u =>
      rw [hv] at rr
      obtain ⟨y, hy, ry⟩ := rr.some_of
      rw [h1'] at hy
      have fu : flatV u = true := by
        unfold valV at hv
        cases e : ls.find? fun kv => decide (kv.1 = p.1) with
        | none => rw [e] at hv; cases hv
        | some z =>
          rw [e] at hv
          cases hv
          exact fl z (List.mem_of_find?_eq_some e)
      exact .hit hy ((eqAt_V h2 ry (hp p List.mem_cons_self) fu).eqP) (k fun p' hm => hp p' (List.mem_cons_of_mem _ hm))
theorem op_dictF (hu : X.A.units + 64 < cLine) : OpR X (compareOp .Eq) (fun x y H Q => ∃ a b ks ls, x = .ref a ∧ y = .ref b ∧ Rd H a (.dK ks) ∧ Rd H b (.dK ls) ∧ (∀ p ∈ ks, flatV p.2 = true) ∧ (∀ p ∈ ls, flatV p.2 = true) ∧ Q (.bl (ks.length == ls.length && ks.all fun p => match valV ls p.1 with
      | some u => L2.eqV p.2 u
      | none => false)) H) := by
  intro pins s σ H x y v u Q I rx ry h
  obtain ⟨a, b, ks, ls, rfl, rfl, ha, hb, fa, fb, q⟩ := h
  cases (show v = Value.ref a from rx)
  cases (show u = Value.ref b from ry)
  obtain ⟨_, ya, va, ra, da⟩ := (show ObjOk X.prog X.w H s.heap a (.dK ks) from ha.ok I.hok)
  obtain ⟨_, yb, vb, rb, db⟩ := (show ObjOk X.prog X.w H s.heap b (.dK ls) from hb.ok I.hok)
  refine PySem.W.rcP_dicts (knd := mixKind X.prog X.w) ya yb da db (by omega) (fun _ => hitsF rb fb ra fa) _ _ ?_
  rw [← ra.length, ← rb.length]
  exact ⟨.bl _, H, I, rfl, q⟩
theorem lookD_mem {kvs : List (Key × D)} {k : Key} {d : D} (h : lookD kvs k = some d) : ∃ p ∈ kvs, p.2 = d := by
  unfold lookD at h
  cases e : kvs.find? fun kv => decide (kv.1 = k) with
  | none => rw [e] at h; cases h
  | some z =>
    rw [e] at h
    cases h
    exact ⟨z, List.mem_of_find?_eq_some e, rfl⟩
def eqKD (ks ls : List (Key × D)) : Bool := ks.length == ls.length && ks.all fun p => match lookD ls p.1 with
  | some u => eqF p.2 u
  | none => false
theorem flatK {K : PySem.W.Frag} {B : Hp} : ∀ {kvs : List (Key × D)} {ws : List (Key × V)}, RepK K B kvs ws → (kvs.all fun p => flatD p.2) = true → ∀ p ∈ ws, flatV p.2 = true
  | [], [], _, _, p, hp => by cases hp
  | (a, x) :: kvs, (b, u) :: ws, h, hf, p, hp => by
    unfold RepK at h
    rw [List.all_cons, Bool.and_eq_true] at hf
    rcases List.mem_cons.mp hp with rfl | hp
    · exact flat_v h.2.1 hf.1
    · exact flatK h.2.2 hf.2 p hp
  | [], _ :: _, h, _, _, _ => by unfold RepK at h; exact h.elim
  | (_, _) :: _, [], h, _, _, _ => by unfold RepK at h; exact h.elim
theorem eqK_all {K : PySem.W.Frag} {B : Hp} {ls : List (Key × D)} {zs : List (Key × V)} (r : RepK K B ls zs) (fl : (ls.all fun p => flatD p.2) = true) : ∀ {ks : List (Key × D)} {ws : List (Key × V)}, RepK K B ks ws → (ks.all fun p => flatD p.2) = true →
    (ws.all fun p => match valV zs p.1 with
      | some u => L2.eqV p.2 u
      | none => false) = ks.all fun p => match lookD ls p.1 with
      | some u => eqF p.2 u
      | none => false
  | [], [], _, _ => rfl
  | (a, x) :: kvs, (b, u) :: ws, h, hf => by
    unfold RepK at h
    obtain ⟨rfl, h2, h3⟩ := h
    rw [List.all_cons, Bool.and_eq_true] at hf
    rw [List.all_cons, List.all_cons, eqK_all r fl h3 hf.2]
    congr 1
    rcases r.val a with ⟨y1, y2⟩ | ⟨y, w', y1, y2, y3⟩
    · dsimp only
      rw [y1, y2]
    · dsimp only
      rw [y1, y2]
      obtain ⟨p, hp, rfl⟩ := lookD_mem y1
      exact eqF_v h2 y3 hf.1 (List.all_eq_true.mp fl p hp)
  | [], _ :: _, h, _ => by unfold RepK at h; exact h.elim
  | (_, _) :: _, [], h, _ => by unfold RepK at h; exact h.elim
/-- == of two dicts of flat values -/
def oEqK : O2 := fun a b M P => match dicOf M a, dicOf M b with
  | some ks, some ls => ((ks.all fun p => flatD p.2) = true ∧ (ls.all fun p => flatD p.2) = true) ∧ P (.d (.bl (eqKD ks ls))) M
  | _, _ => False
theorem do_eqK (hu : X.A.units + 64 < cLine) : DO X (compareOp .Eq) oEqK where
  run := fun {a b M P} h {u v B L Z H} S r1 r2 {Q} q => by
    unfold oEqK at h
    split at h
    · rename_i ks ls h1 h2
      obtain ⟨a1, ws, rfl, g1, g2⟩ := S.dict r1 h1
      obtain ⟨a2, zs, rfl, k1, k2⟩ := S.dict r2 h2
      refine opS (op_dictF hu) ⟨a1, a2, ws, zs, rfl, rfl, g1, k1, flatK g2 h.1.1, flatK k2 h.1.2, ?_⟩
      refine q.here S h.2 (rv_bl.mpr ?_)
      unfold eqKD
      rw [g2.len, k2.len, eqK_all k2 h.1.2 g2 h.1.1]
    · exact h.elim
/-! ### many new things at once -/
def growB (B H H' : Hp) : Hp := fun a => match H a with
  | none => H' a
  | some _ => B a
theorem growB_new {B H H' : Hp} {a : Addr} (h : H a = none) : growB B H H' a = H' a := by
  unfold growB
  rw [h]
theorem growB_old {B H H' : Hp} {a : Addr} (h : H a ≠ none) : growB B H H' a = B a := by
  unfold growB
  cases e : H a with
  | none => exact absurd e h
  | some _ => rfl
theorem StM.grow {K : PySem.W.Frag} {B : Hp} {L : List Addr} {Z : Zs} {M : Mem} {H H' : Hp} (S : StM K B L Z M H) (he : ∀ b o, H b = some o → H' b = some o) : StM K (growB B H H') L Z M H' ∧ Ext B L (growB B H H') L := by
  have old : ∀ {a o}, B a = some o → H a ≠ none := fun {a o} h => by
    obtain ⟨o', h1, _⟩ := S.sub _ _ h
    rw [h1]
    simp
  have keep : ∀ {a}, H a ≠ none → H' a = H a := fun {a} h => by
    cases e : H a with
    | none => exact absurd e h
    | some o => exact he a o e
  have hs : Sub B (growB B H H') := fun x u hx => ⟨u, by rw [growB_old (old hx)]; exact hx, rfl, fun _ => rfl⟩
  have E : Ext B L (growB B H H') L := ⟨hs, [], by simp⟩
  refine ⟨⟨fun x u hx => ?_, fun q hq => ?_, S.len, S.nod, fun i a o h ho hg => ?_, fun i a m h hm => ?_, fun i a h => ?_, fun q hq => ?_⟩, E⟩
  · by_cases q : H x = none
    · rw [growB_new q] at hx
      exact ⟨u, hx, rfl, fun _ => rfl⟩
    · rw [growB_old q] at hx
      rw [keep q]
      exact S.sub _ _ hx
  · obtain ⟨h1, h2, h3⟩ := S.zh q hq
    refine ⟨he _ _ h1, h2, fun z => ?_⟩
    rw [growB_old (by rw [h1]; simp)]
    exact h3 z
  · rw [growB_old (S.live i a h)]
    exact S.out i a o h ho hg
  · exact (S.cell i a m h hm).mono E (keep (S.live i a h))
  · rw [keep (S.live i a h)]
    exact S.live i a h
  · obtain ⟨h1, h2⟩ := S.cst q hq
    exact ⟨by rw [growB_old (old h1)]; exact h1, h2⟩
theorem repL_items {K : PySem.W.Frag} {B B' H' : Hp} (e : Sub B B') : ∀ {kvs : List (Key × D)} {ws : List (Key × V)} {ts : List Addr}, RepK K B kvs ws → Paired (fun (t : Addr) (q : Key × V) => B' t = some (.tup [kV q.1, q.2])) ts ws → RepL K B' (itemsD kvs) (ts.map V.ref)
  | [], [], [], _, _ => by
    show RepL K B' [] []
    unfold RepL
    trivial
  | (a, x) :: kvs, (b, u) :: ws, t :: ts, h, hp => by
    unfold RepK at h
    obtain ⟨rfl, h2, h3⟩ := h
    obtain ⟨g1, g2⟩ : B' t = some (.tup [kV a, u]) ∧ Paired (fun (t : Addr) (q : Key × V) => B' t = some (.tup [kV q.1, q.2])) ts ws := by
      cases hp with
      | cons g1 g2 => exact ⟨g1, g2⟩
    show RepL K B' (.tup [kD a, x] :: itemsD kvs) (.ref t :: ts.map V.ref)
    unfold RepL
    refine ⟨?_, repL_items (H' := H') e h3 g2⟩
    unfold Rep
    refine ⟨t, _, rfl, .inl (.inl g1), ?_⟩
    unfold RepL
    refine ⟨kD_rep _, ?_⟩
    unfold RepL
    exact ⟨Rep.mono e _ _ h2, by unfold RepL; trivial⟩
  | [], [], _ :: _, _, hp => by cases hp
  | _ :: _, _ :: _, [], _, hp => by cases hp
  | [], _ :: _, _, h, _ => by unfold RepK at h; exact h.elim
  | (_, _) :: _, [], _, h, _ => by unfold RepK at h; exact h.elim
theorem de_items {p2 : Pos} (hc : X.calm = true) (he : DE X e fe) (hg : Gl X "list") (hm : X.mg "list" = none) (hv : bootBuiltins "list" = some (.type "list")) (hbase : attributeBase e "items" X.env (eval e X.env) = eval e X.env := by rfl) (hline : (apos.endLine == cpos.line) = true := by rfl)
    (hs : starEach [.Call (.Attribute e "items" apos) [] [] cpos] X.env = (false, eval (.Call (.Attribute e "items" apos) [] [] cpos) X.env) :: starEach [] X.env := by rfl) : DE X (.Call (.Name "list" p2) [.Call (.Attribute e "items" apos) [] [] cpos] [] pos) (tItems fe) where
  run := fun {ρ M P x} h {σ H B L Z} S V x1 {Q} q => by
    refine PE.s (LiI.pe_listItems hc pe_s hg hm hv hbase hline hs) ?_
    refine he.run h S V x1 fun d M1 v B1 L1 H1 h1 e1 S1 r1 => ?_
    dsimp only at h1
    split at h1
    · rename_i n
      split at h1
      · rename_i kvs hn
        obtain ⟨a, ws, rfl, g1, g2, g3⟩ := cell_ofD S1 hn r1
        refine ⟨a, ws, rfl, g2, fun H2 p ts hk hp hts hnot hlp hpr => ?_⟩
        obtain ⟨S2, E2⟩ := S1.grow hk
        refine q _ _ _ _ _ _ h1 (e1.trans E2) S2 ?_
        unfold RepV Rep
        refine ⟨p, _, rfl, by rw [growB_new hp]; exact hlp, repL_items (H' := H2) E2.sub g3 ?_⟩
        have : ∀ {ts : List Addr} {ws : List (Key × L2.V)}, Paired (fun (t : Addr) (q : Key × L2.V) => H2 t = some (.tup [kV q.1, q.2])) ts ws → (∀ t ∈ ts, H1 t = none) → Paired (fun (t : Addr) (q : Key × L2.V) => growB B1 H1 H2 t = some (.tup [kV q.1, q.2])) ts ws := fun {ts ws} k => by
          induction k with
          | nil => exact fun _ => .nil
          | cons r _ ih => exact fun hn => .cons (by rw [growB_new (hn _ List.mem_cons_self)]; exact r) (ih fun t ht => hn t (List.mem_cons_of_mem _ ht))
        exact this hpr hts
      · exact h1.elim
    · exact h1.elim
/-! ### dict(pairs) -/
def pairsOf : List D → Option (List (Key × D))
  | [] => some []
  | .tup [k, x] :: r => (match keyD (.d k), pairsOf r with
    | some kk, some ps => some ((kk, x) :: ps)
    | _, _ => none)
  | _ :: _ => none
theorem pairs_rep {K : PySem.W.Frag} {B H : Hp} (e : Sub B H) : ∀ {xs : List D} {vs : List V} {ps : List (Key × D)}, pairsOf xs = some ps → RepL K B xs vs → ∃ (as : List Addr) (ws : List (Key × V)), vs = as.map V.ref ∧ Paired (fun p (kv : Key × V) => SqT K H p [kV kv.1, kv.2]) as ws ∧ RepK K B ps ws
  | [], [], _, h, _ => by
    cases h
    exact ⟨[], [], rfl, .nil, by unfold RepK; trivial⟩
  | x :: xs, v :: vs, ps, h, r => by
    unfold RepL at r
    unfold pairsOf at h
    split at h
    · rename_i h0; cases h0
    · rename_i k y r0 h0
      cases h0
      split at h
      · rename_i kk qs hk hq
        cases h
        obtain ⟨as, ws, rfl, h2, h3⟩ := pairs_rep e hq r.2
        have r1 := r.1
        unfold Rep at r1
        obtain ⟨a, us, rfl, g1, g2⟩ := r1
        match us, g2 with
        | [u1, u2], g2 =>
          unfold RepL at g2
          obtain ⟨g3, g4⟩ := g2
          unfold RepL at g4
          have e1 : u1 = kV kk := keyD_v (L := []) (show RepV K B [] (.d k) u1 from g3) hk
          subst e1
          exact ⟨a :: as, (kk, u2) :: ws, rfl, .cons (e.t g1) h2, by unfold RepK; exact ⟨rfl, g4.1, h3⟩⟩
        | [], g2 => unfold RepL at g2; exact g2.elim
        | [_], g2 => unfold RepL at g2; have := g2.2; unfold RepL at this; exact this.elim
        | _ :: _ :: _ :: _, g2 => unfold RepL at g2; have := g2.2; unfold RepL at this; have := this.2; unfold RepL at this; exact this.elim
      · cases h
    · cases h
  | [], _ :: _, _, _, r => by unfold RepL at r; exact r.elim
  | _ :: _, [], _, _, r => by unfold RepL at r; exact r.elim
def oDictP : CT := fun ds M P => match ds with
  | [d] => (match lsOf M d with
    | some xs => (match allD xs with
      | some zs => (match pairsOf zs with
        | some ps => P (.m M.length) (M ++ [.dic (mergeD [] ps)])
        | none => False)
      | none => False)
    | none => False)
  | _ => False
theorem dc_dictP (hc : X.calm = true) : DC X (.type "dict") oDictP where
  run := fun {ds M P} h {vs B L Z H} S rs {Q} q => by
    unfold oDictP at h
    split at h
    · split at h
      · rename_i d xs hx
        split at h
        · rename_i zs hz
          split at h
          · rename_i ps hp
            have := allD_eq hz
            subst this
            obtain ⟨v, rfl, r⟩ := one_v rs
            obtain ⟨p, us, rfl, g1, g2⟩ := S.lsq r hx
            obtain ⟨as, ws, rfl, k1, k2⟩ := pairs_rep S.sub hp g2.toL
            refine callS (call_dictP hc) ⟨p, as, ws, rfl, g1, k1, fun l hl => ?_⟩
            have k3 : RepK X.K B (mergeD [] ps) (mergeK [] ws) := RepK.merge k2 (by unfold RepK; trivial)
            obtain ⟨S2, e2⟩ := S.newM (o := .dK (mergeK [] ws)) (m := .dic (mergeD [] ps)) hl ⟨_, upd_same, k3⟩
            refine q _ _ _ _ _ _ h e2 S2 ⟨l, rfl, ?_⟩
            rw [← S.len]
            simp
          · exact h.elim
        · exact h.elim
      · exact h.elim
    · exact h.elim
/-! ### != of two lists that are equal, with dicts in them -/
theorem eqAt_dictF {pins : List (Addr × Obj)} {σ : L2.St} {H : Hp} {s : Shared} {A : Around} (I : Inv X pins σ H s) {a b : Addr} {ks ls : List (Key × L2.V)} (hu : A.units < cLine) (ha : Rd H a (.dK ks)) (hb : Rd H b (.dK ls)) (fa : ∀ p ∈ ks, flatV p.2 = true) (fb : ∀ p ∈ ls, flatV p.2 = true)
    (h : (ks.length == ls.length && ks.all fun p => match valV ls p.1 with
      | some u => L2.eqV p.2 u
      | none => false) = true) : SeqAt.EqP X.prog X.w A s (.ref a) (.ref b) true := by
  by_cases e : a = b
  · subst e
    exact (SeqAt.EqAt.same _).eqP
  · refine SeqAt.eqP_refs e fun E Q q => ?_
    obtain ⟨_, ya, va, ra, da⟩ := (show ObjOk X.prog X.w H s.heap a (.dK ks) from ha.ok I.hok)
    obtain ⟨_, yb, vb, rb, db⟩ := (show ObjOk X.prog X.w H s.heap b (.dK ls) from hb.ok I.hok)
    refine PySem.W.rcP_dicts (knd := mixKind X.prog X.w) ya yb da db hu (fun _ => hitsF rb fb ra fa) _ _ ?_
    rw [← ra.length, ← rb.length, h]
    exact q
def eqE : D → D → Bool
  | .dic ks, .dic ls => (ks.all fun p => flatD p.2) && ((ls.all fun p => flatD p.2) && eqKD ks ls)
  | a, b => flatD a && (flatD b && eqF a b)
def eqEs : List D → List D → Bool
  | [], [] => true
  | x :: xs, y :: ys => eqE x y && eqEs xs ys
  | _, _ => false
end
end DL

namespace DL
open PySem PySem.Spec PyProof.Rows L2
variable [Csts]
/-! ### operations on a dict that is data or a cell -/
/-- what is looked up: a name that does not unfold -/
@[irreducible] def lookI (kvs : List (Key × D)) (k : Key) : Option D := lookD kvs k
theorem lookI_eq (kvs : List (Key × D)) (k : Key) : lookI kvs k = lookD kvs k := by unfold lookI; rfl
section
variable {X : Cx}
def oLenD : CT := fun ds M P => match ds with
  | [d] => (match dicOf M d with
    | some kvs => P (.d (.int kvs.length)) M
    | none => False)
  | _ => False
theorem dc_lenD : DC X (.builtin "len") oLenD where
  run := fun {ds M P} h {vs B L Z H} S rs {Q} q => by
    unfold oLenD at h
    split at h
    · split at h
      · rename_i d kvs hx
        obtain ⟨v, rfl, r⟩ := one_v rs
        obtain ⟨a, ws, rfl, g1, g2⟩ := S.dict r hx
        intro pins s σ us I rv
        obtain ⟨u, rfl, ru⟩ := rv.one
        cases (show u = Value.ref a from ru)
        refine d_len I g1 fun t s' I' => ⟨.int ws.length, H, I', ⟨t, rfl⟩, ?_⟩
        exact q.here S h (rv_int.mpr (by rw [g2.len]))
      · exact h.elim
    · exact h.elim
def oInD (n : Bool) : O2 := fun a b M P => match dicOf M b, keyD a with
  | some kvs, some k => P (.d (.bl (n ^^ (lookI kvs k).isSome))) M
  | _, _ => False
theorem do_inDN {n : Bool} {f : Value → Value → Sem Value} (h2 : OpR X f (fun y x H Q => ∃ a o, x = .ref a ∧ DGet H a y o ∧ Q (.bl (n ^^ o.isSome)) H)) : DO X f (oInD n) where
  run := fun {a b M P} h {u v B L Z H} S r1 r2 {Q} q => by
    unfold oInD at h
    split at h
    · rename_i kvs k hx hk
      obtain ⟨p, ws, rfl, g1, g2⟩ := S.dict r2 hx
      refine opS h2 ⟨p, valV ws k, rfl, .inl ⟨ws, k, g1, keyD_v r1 hk, rfl⟩, ?_⟩
      have : (valV ws k).isSome = (lookI kvs k).isSome := by
        rw [lookI_eq]
        rcases g2.val k with ⟨h3, h4⟩ | ⟨d, w, h3, h4, _⟩ <;> rw [h3, h4] <;> rfl
      rw [this]
      exact q.here S h (rv_bl.mpr rfl)
    · exact h.elim
theorem do_inD (hu : X.A.units + 64 < cLine) : DO X (compareOp .In) (oInD false) :=
  do_inDN (fun pins s σ H x y v u Q I rx ry h => by
    obtain ⟨a, o, rfl, g, h⟩ := h
    obtain rfl : u = Value.ref a := ry
    exact d_in (by omega) I g rx fun s' I' => ⟨.bl o.isSome, H, I', rfl, by simpa using h⟩)
theorem do_notInD (hu : X.A.units + 64 < cLine) : DO X (compareOp .NotIn) (oInD true) :=
  do_inDN (fun pins s σ H x y v u Q I rx ry h => by
    obtain ⟨a, o, rfl, g, h⟩ := h
    obtain rfl : u = Value.ref a := ry
    exact d_notIn (by omega) I g rx fun s' I' => ⟨.bl (!o.isSome), H, I', rfl, by simpa using h⟩)
def oIxD : O2 := fun a b M P => match dicOf M a, keyD b with
  | some kvs, some k => (match lookI kvs k with
    | some d => P (.d d) M
    | none => False)
  | _, _ => False
variable {a b : Expr} {fa fb : ET} {pos : Pos}
theorem de_ixD (hu : X.A.units + 64 < cLine) (ha : DE X a fa) (hb : DE X b fb) (hs : PlainIx b := by exact fun _ _ => rfl) : DE X (.Subscript a b pos) (tBin oIxD fa fb) where
  run := fun {ρ M P x} h {σ H B L Z} S E x1 {Q} q => by
    refine PE.s (pe_ix ix_s pe_s pe_s hs) ?_
    refine ha.run h S E x1 fun d M1 v B1 L1 H1 h1 e1 S1 r1 => ?_
    refine hb.run h1 S1 (E.mono e1) (x1.mono e1) fun d2 M2 v2 B2 L2 H2 h2 e2 S2 r2 => ?_
    unfold oIxD at h2
    dsimp only at h2
    split at h2
    · rename_i kvs k hx hk
      split at h2
      · rename_i z hz
        obtain ⟨p, ws, rfl, g1, g2⟩ := S2.dict (r1.mono e2) hx
        rw [lookI_eq] at hz
        rcases g2.val k with ⟨h3, h4⟩ | ⟨d', w, h3, h4, h5⟩
        · rw [h3] at hz
          cases hz
        · rw [h3] at hz
          cases hz
          exact ixS (ix_dict (by omega)) ⟨p, w, rfl, .inl ⟨ws, k, g1, keyD_v r2 hk, h4.symm⟩, (q.mono (e1.trans e2)).here S2 h2 h5⟩
      · exact h2.elim
    · exact h2.elim
/-! ### != of two equal lists, their dicts data or cells -/
def valOf (M : Mem) : DV → Option D
  | .d x => some x
  | .m k => (match M[k]? with
    | some (.dic kvs) => some (.dic kvs)
    | _ => none)
  | _ => none
def valsOf (M : Mem) : List DV → Option (List D)
  | [] => some []
  | x :: xs => (match valOf M x, valsOf M xs with
    | some z, some zs => some (z :: zs)
    | _, _ => none)
/-- a value with its dict told by the heap -/
def RepH (K : PySem.W.Frag) (B H : Hp) (x : D) (v : L2.V) : Prop := Rep K B x v ∨ ∃ kvs a ws, x = .dic kvs ∧ v = .ref a ∧ Rd H a (.dK ws) ∧ RepK K B kvs ws
def RepHL (K : PySem.W.Frag) (B H : Hp) : List D → List L2.V → Prop
  | [], [] => True
  | x :: xs, v :: vs => RepH K B H x v ∧ RepHL K B H xs vs
  | _, _ => False
theorem StM.valOf {K : PySem.W.Frag} {B : Hp} {L : List Addr} {Z : Zs} {M : Mem} {H : Hp} (S : StM K B L Z M H) {d : DV} {v : L2.V} {x : D} (r : RepV K B L d v) (h : DL.valOf M d = some x) : RepH K B H x v := by
  cases d with
  | d y =>
    cases h
    exact .inl r
  | pr _ _ => cases h
  | m k =>
    unfold DL.valOf at h
    dsimp only at h
    split at h
    · rename_i kvs hk
      cases h
      obtain ⟨a, ws, rfl, g1, g2⟩ := S.dict r (show dicOf M (.m k) = some kvs by unfold dicOf; dsimp only; rw [hk])
      exact .inr ⟨kvs, a, ws, rfl, rfl, g1, g2⟩
    · cases h
theorem StM.valsOf {K : PySem.W.Frag} {B : Hp} {L : List Addr} {Z : Zs} {M : Mem} {H : Hp} (S : StM K B L Z M H) : ∀ {ds : List DV} {vs : List L2.V} {xs : List D}, RepVs K B L ds vs → DL.valsOf M ds = some xs → RepHL K B H xs vs
  | [], [], _, _, h => by cases h; trivial
  | d :: ds, v :: vs, xs, r, h => by
    unfold DL.valsOf at h
    split at h
    · rename_i z zs h1 h2
      cases h
      exact ⟨S.valOf r.1 h1, S.valsOf r.2 h2⟩
    · cases h
  | [], _ :: _, _, r, _ => r.elim
  | _ :: _, [], _, r, _ => r.elim
theorem RepH.dict {K : PySem.W.Frag} {B H : Hp} (sb : Sub B H) {kvs : List (Key × D)} {v : L2.V} (h : RepH K B H (.dic kvs) v) : ∃ a ws, v = .ref a ∧ Rd H a (.dK ws) ∧ RepK K B kvs ws := by
  rcases h with h | ⟨kvs', a, ws, e, rfl, g1, g2⟩
  · unfold Rep at h
    obtain ⟨a, ws, rfl, g1, g2⟩ := h
    exact ⟨a, ws, rfl, sb.rdK g1, g2⟩
  · cases e
    exact ⟨a, ws, rfl, g1, g2⟩
theorem RepH.flat {K : PySem.W.Frag} {B H : Hp} {x : D} {v : L2.V} (h : RepH K B H x v) (f : flatD x = true) : Rep K B x v := by
  rcases h with h | ⟨kvs', a, ws, rfl, _⟩
  · exact h
  · cases f
theorem eqE_atH {pins : List (Addr × Obj)} {σ : L2.St} {H B : Hp} {s : Shared} {A : Around} (I : Inv X pins σ H s) (hu : A.units < cLine) (sb : Sub B H) {x y : D} {v u : L2.V} {vv uu : Value} (h : eqE x y = true) (r1 : RepH X.K B H x v) (r2 : RepH X.K B H y u) (q1 : RelV v vv) (q2 : RelV u uu) : SeqAt.EqP X.prog X.w A s vv uu true := by
  unfold eqE at h
  split at h
  · rename_i ks ls
    rw [Bool.and_eq_true, Bool.and_eq_true] at h
    obtain ⟨h1, h2, h3⟩ := h
    obtain ⟨a, ws, rfl, g1, g2⟩ := r1.dict sb
    obtain ⟨b, zs, rfl, k1, k2⟩ := r2.dict sb
    cases (show vv = Value.ref a from q1)
    cases (show uu = Value.ref b from q2)
    refine eqAt_dictF I hu g1 k1 (flatK g2 h1) (flatK k2 h2) ?_
    rw [← g2.len, ← k2.len, eqK_all k2 h2 g2 h1]
    exact h3
  · rw [Bool.and_eq_true, Bool.and_eq_true] at h
    obtain ⟨h1, h2, h3⟩ := h
    have := eqAt_V (A := A) (s := s) q1 q2 (flat_v (r1.flat h1) h1) (flat_v (r2.flat h2) h2)
    rw [eqF_v (r1.flat h1) (r2.flat h2) h1 h2, h3] at this
    exact this.eqP
theorem eqEs_atH {pins : List (Addr × Obj)} {σ : L2.St} {H B : Hp} {s : Shared} {A : Around} (I : Inv X pins σ H s) (hu : A.units < cLine) (sb : Sub B H) : ∀ {xs ys : List D} {vs us : List L2.V} {v1 u1 : List Value}, eqEs xs ys = true → RepHL X.K B H xs vs → RepHL X.K B H ys us → Vals vs v1 → Vals us u1 →
    v1.length = u1.length ∧ ∀ j (h1 : j < v1.length) (h2 : j < u1.length), SeqAt.EqP X.prog X.w A s v1[j] u1[j] true
  | [], [], [], [], _, _, _, _, _, q1, q2 => by
    cases q1
    cases q2
    exact ⟨rfl, fun j h1 _ => absurd h1 (Nat.not_lt_zero j)⟩
  | x :: xs, y :: ys, v :: vs, u :: us, _, _, h, r1, r2, q1, q2 => by
    unfold eqEs at h
    rw [Bool.and_eq_true] at h
    cases q1 with
    | cons a1 b1 =>
      cases q2 with
      | cons a2 b2 =>
        obtain ⟨l, k⟩ := eqEs_atH I hu sb h.2 r1.2 r2.2 b1 b2
        refine ⟨by simp [l], fun j h1 h2 => ?_⟩
        cases j with
        | zero => exact eqE_atH I hu sb h.1 r1.1 r2.1 a1 a2
        | succ j => exact k j (Nat.lt_of_succ_lt_succ h1) (Nat.lt_of_succ_lt_succ h2)
  | [], _ :: _, _, _, _, _, h, _, _, _, _ => by cases h
  | _ :: _, [], _, _, _, _, h, _, _, _, _ => by cases h
  | [], [], _ :: _, _, _, _, _, r1, _, _, _ => r1.elim
  | [], [], [], _ :: _, _, _, _, _, r2, _, _ => r2.elim
  | _ :: _, _ :: _, [], _, _, _, _, r1, _, _, _ => r1.elim
  | _ :: _, _ :: _, _ :: _, [], _, _, _, _, r2, _, _ => r2.elim
def oNeH : O2 := fun a b M P => match lsOf M a, lsOf M b with
  | some xs, some ys => (match valsOf M xs, valsOf M ys with
    | some zs, some ws => eqEs zs ws = true ∧ P (.d (.bl false)) M
    | _, _ => False)
  | _, _ => False
theorem do_neH (hu : X.A.units + 64 < cLine) : DO X (compareOp .NotEq) oNeH where
  run := fun {a b M P} h {u v B L Z H} S r1 r2 {Q} q => by
    unfold oNeH at h
    split at h
    · rename_i xs ys hx hy
      split at h
      · rename_i zs ws h1 h2
        obtain ⟨a1, vs, rfl, g1, g2⟩ := S.lsq r1 hx
        obtain ⟨a2, us, rfl, k1, k2⟩ := S.lsq r2 hy
        intro pins s σ v u I rx ry
        cases (show v = Value.ref a1 from rx)
        cases (show u = Value.ref a2 from ry)
        obtain ⟨v1, q1, p1, _⟩ := I.list g1
        obtain ⟨u1, q2, p2, _⟩ := I.list k1
        obtain ⟨hl, he⟩ := eqEs_atH (A := X.A.in1) I (by show X.A.units + 1 < cLine; omega) S.sub h.1 (S.valsOf g2 h1) (S.valsOf k2 h2) q1 q2
        refine rcP_ne (e := fun _ => true) p1.isList p2.isList (by simpa using hl) (by omega) (fun j j1 j2 => ?_) _ _ ?_
        · have := he j (by simpa using j1) (by simpa using j2)
          simpa using this
        · rw [show ((List.range v1.toArray.size).all fun _ => true) = true from List.all_eq_true.mpr fun _ _ => rfl]
          exact ⟨.bl false, H, I, rfl, q.here S h.2 (rv_bl.mpr rfl)⟩
      · exact h.elim
    · exact h.elim
/-! ### methods of slotted instances -/
def isSlo (T : ClsT) : DV → Prop
  | .d (.slo T' _) => T' = T
  | _ => False
theorem isSlo_run {T : ClsT} {d : DV} (h : isSlo T d) {v : L2.V} {B : Hp} {La : List Addr} {Z : Zs} {M : Mem} {H : Hp} (S : StM X.K B La Z M H) (r : RepV X.K B La d v) : ∃ a dx vs, v = .ref a ∧ SlX.Slt H a T.C dx vs := by
  cases d with
  | m k => exact h.elim
  | pr _ _ => exact h.elim
  | d x =>
    cases x with
    | slo T' fs =>
      have e : T' = T := h
      subst e
      unfold RepV Rep at r
      obtain ⟨a, dx, vs, rfl, g1, g2, _⟩ := r
      exact ⟨a, dx, vs.map some, rfl, .inr ⟨S.sub.eq g1, S.sub.eq g2⟩⟩
    | _ => exact h.elim
def tMethS (T : ClsT) (dsp : DSp) (fo : ET) (fas : AT) : ET := fun ρ M P x => fo ρ M (fun d M1 => isSlo T d ∧ fas ρ M1 (fun ds M2 => dsp (d :: ds) M2 P x) x) x
variable {o e : Expr} {es : List Expr} {fo : ET} {fas : AT} {m : Str} {apos : Pos} {k : Nat} {ps : List Str} {dsp : DSp} {T : ClsT}
theorem de_methSl {pl : Sem Bool} (C : CalleeM X.prog X.w X.K X.mg X.base T m k ps dsp) (hr : Room k X.A) (c : SlX.SCls X.K T.C) (ho : DE X o fo) (ha : DA X (e :: es) fas)
    (hst : starEach (e :: es) X.env = (false, eval e X.env) :: starEach es X.env := by rfl) (hpl : (backTo pos (starEach es X.env)).any (·.1) = false := by rfl)
    (ht : eval (.Call (.Attribute o m apos) (e :: es) [] pos) X.env = (do
      let ov ← eval o X.env
      standAt apos.atName
      let (f, first) ← holding [ov] (getMethod ov m pl)
      callWith pos f first (backTo pos (starEach (e :: es) X.env)) (backToKw pos (keywordEach [] X.env))) := by rfl) : DE X (.Call (.Attribute o m apos) (e :: es) [] pos) (tMethS T dsp fo fas) where
  run := fun {ρ M P x} h {σ H B La Z} S E x1 {Q} q => by
    obtain ⟨g, fd, hm, hb, F⟩ := C.ex
    obtain ⟨W, tk, hW⟩ := x1
    intro pins s I
    refine PySem.W.methodCall_KW (pl := pl) (thn (ho.run h S E ⟨W, tk, hW⟩ (Q := fun x H1 => ∃ a dx vs, x = .ref a ∧ SlX.Slt H1 a T.C dx vs ∧ sA X (e :: es) σ H1 fun vs H2 => Up X.K dsp (.ref a :: vs) H2 Q (WE W σ)) ?_ pins s I) fun ov s1 hh => ?_) ht
    · intro d M1 v B1 L1 H1 h1 e1 S1 r1
      obtain ⟨a, dx, vs, rfl, g1⟩ := isSlo_run h1.1 S1 r1
      refine ⟨a, dx, vs, rfl, g1, ?_⟩
      refine ha.run h1.2 S1 (E.mono e1) ⟨W, tk, fun cls fs M' d B' L' H' a b => hW cls fs M' d B' L' H' a (e1.trans b)⟩ fun ds M2 vs B2 L2 H2 h2 e2 S2 r2 => ?_
      exact callOk S2 (show RepVs X.K B2 L2 (d :: ds) (.ref a :: vs) from ⟨r1.mono e2, r2⟩) h2 (q.mono (e1.trans e2)) fun cls fs M' d B' L' H' a b => hW cls fs M' d B' L' H' a ((e1.trans e2).trans b)
    · obtain ⟨v, H1, I1, rv, a, dx, vs, ev, g1, q2⟩ := hh
      subst ev
      cases rv
      refine SlX.getmethsl_ok I1 g1 c hm ?_
      refine PySem.W.callWith_K (first := [.ref a]) (h₀ := X.base) I.ok.mod.kin hm.kp (thn (q2 pos pins s1 I1) fun us s2 h2 => ?_) hst hpl
      obtain ⟨vs, H2, I2, rs, q3⟩ := h2
      exact ⟨I2.kIn, run_fnSD (us := .ref a :: us) (vs := .ref a :: vs) (dvs := []) (ds := []) (E := WE W) F hr hb .nil (passAt tk σ) I2 (.cons rfl rs) (by simpa using q3)⟩
theorem de_methSl0 {pl : Sem Bool} (C : CalleeM X.prog X.w X.K X.mg X.base T m k ps dsp) (hr : Room k X.A) (c : SlX.SCls X.K T.C) (ho : DE X o fo)
    (ht : eval (.Call (.Attribute o m apos) [] [] pos) X.env = (do
      let ov ← eval o X.env
      standAt apos.atName
      let (f, first) ← holding [ov] (getMethod ov m pl)
      callWith pos f first (backTo pos (starEach [] X.env)) (backToKw pos (keywordEach [] X.env))) := by rfl) : DE X (.Call (.Attribute o m apos) [] [] pos) (tMethS T dsp fo tNil) where
  run := fun {ρ M P x} h {σ H B La Z} S E x1 {Q} q => by
    obtain ⟨g, fd, hm, hb, F⟩ := C.ex
    obtain ⟨W, tk, hW⟩ := x1
    intro pins s I
    refine PySem.W.methodCall_KW (pl := pl) (thn (ho.run h S E ⟨W, tk, hW⟩ (Q := fun x H1 => ∃ a dx vs, x = .ref a ∧ SlX.Slt H1 a T.C dx vs ∧ Up X.K dsp [.ref a] H1 Q (WE W σ)) ?_ pins s I) fun ov s1 hh => ?_) ht
    · intro d M1 v B1 L1 H1 h1 e1 S1 r1
      obtain ⟨a, dx, vs, rfl, g1⟩ := isSlo_run h1.1 S1 r1
      exact ⟨a, dx, vs, rfl, g1, callOk S1 (show RepVs X.K B1 L1 [d] [.ref a] from ⟨r1, trivial⟩) h1.2 (q.mono e1) fun cls fs M' d B' L' H' a b => hW cls fs M' d B' L' H' a (e1.trans b)⟩
    · obtain ⟨v, H1, I1, rv, a, dx, vs, ev, g1, q2⟩ := hh
      subst ev
      cases rv
      refine SlX.getmethsl_ok I1 g1 c hm ?_
      refine PySem.W.callWith_K0 (first := [.ref a]) I1.kIn hm.kp ?_
      exact run_fnSD (us := [.ref a]) (vs := [.ref a]) (dvs := []) (ds := []) (E := WE W) F hr hb .nil (passAt tk σ) I1 (.cons rfl .nil) (by simpa using q2)
end
end DL

/-! texts: split, join, str(x), int(text), text * int -/
namespace DL
open PySem PySem.Spec PyProof.Rows L2
variable [Csts]
section
variable {X : Cx}
theorem new_strs {B : Hp} {L : List Addr} {Z : Zs} {M : Mem} {H : Hp} {P : Post} {Q : VK} {ys : List Str} (S : StM X.K B L Z M H) (h : P (.d (.lst (ys.map D.str))) M) (q : POk X B L Z P Q) : rNewStrs ys H Q := fun p hp => new_lst S (repL_strs ys) h q hp
def oSplit : MT := fun d ds M P => match d, ds with
  | .d (.str a), [.d (.str b)] => ((b.length == 0) = false ∧ a.length ≤ 90000) ∧ P (.d (.lst ((Txt.split a b).map D.str))) M
  | _, _ => False
theorem dm_split : DM X "str.split" oSplit where
  run := fun {a ds M P} h {u vs B L Z H} S r rs {Q} q => by
    unfold oSplit at h
    split at h
    · have := rv_str.mp r
      subst this
      obtain ⟨v, rfl, r1⟩ := one_v rs
      have := rv_str.mp r1
      subst this
      exact mtS mt_split ⟨_, _, rfl, rfl, h.1.1, Nat.le_trans (Nat.add_le_add_right h.1.2 2) (by decide), new_strs S h.2 q⟩
    · exact h.elim
/-- a sequence of texts -/
def seqStrs (M : Mem) (d : DV) : Option (List Str) := match seqOf M d with
  | some xs => strsOf xs
  | none => none
def oJoin : MT := fun d ds M P => match d, ds with
  | .d (.str a), [e] => (match seqStrs M e with
    | some ys => (ys.map (·.length)).sum + ys.length * a.length ≤ 16777216 ∧ P (.d (.str (Txt.join a ys))) M
    | none => False)
  | _, _ => False
theorem dm_join : DM X "str.join" oJoin where
  run := fun {a ds M P} h {u vs B L Z H} S r rs {Q} q => by
    unfold oJoin at h
    split at h
    · split at h
      · rename_i e ys hy
        have := rv_str.mp r
        subst this
        obtain ⟨v, rfl, r1⟩ := one_v rs
        unfold seqStrs at hy
        split at hy
        · rename_i xs hx
          obtain ⟨p, ws, rfl, g1, g2⟩ := S.seq r1 hx
          have e2 := strsOf_eq hy
          subst e2
          have e3 := repVs_strs g2
          subst e3
          exact mtS mt_join ⟨_, p, ys, rfl, rfl, g1.symm, h.1, q.here S h.2 (rv_str.mpr rfl)⟩
        · cases hy
      · exact h.elim
    · exact h.elim
def oStr : CT := fun ds M P => match ds with
  | [.d (.int i)] => i.natAbs < 2 ^ 1000 ∧ P (.d (.str (toString i : String))) M
  | [.d (.str s)] => P (.d (.str s)) M
  | _ => False
theorem log_small {n : Nat} (h : n < 2 ^ 1000) : n.log2 < 1920 := by
  by_cases h0 : n = 0
  · subst h0
    decide
  · exact Nat.lt_trans ((Nat.log2_lt h0).mpr h) (by decide)
theorem dc_str : DC X (.type "str") oStr where
  run := fun {ds M P} h {vs B L Z H} S rs {Q} q => by
    unfold oStr at h
    split at h
    · obtain ⟨v, rfl, r⟩ := one_v rs
      have := rv_int.mp r
      subst this
      exact callS call_str_int ⟨_, rfl, log_small h.1, q.here S h.2 (rv_str.mpr rfl)⟩
    · obtain ⟨v, rfl, r⟩ := one_v rs
      have := rv_str.mp r
      subst this
      exact callS SkE.call_str_str ⟨_, rfl, q.here S h (rv_str.mpr rfl)⟩
    · exact h.elim
def oIntS : CT := fun ds M P => match ds with
  | [.d (.str s)] => s.length ≤ 640 ∧ (match intText? s with
    | some n => P (.d (.int n)) M
    | none => False)
  | _ => False
theorem dc_intS : DC X (.type "int") oIntS where
  run := fun {ds M P} h {vs B L Z H} S rs {Q} q => by
    unfold oIntS at h
    split at h
    · obtain ⟨v, rfl, r⟩ := one_v rs
      have := rv_str.mp r
      subst this
      obtain ⟨h1, h2⟩ := h
      split at h2
      · rename_i n hn
        exact callS call_int_str ⟨_, n, rfl, hn, h1, q.here S h2 (rv_int.mpr rfl)⟩
      · exact h2.elim
    · exact h.elim
/-- text * int -/
def strRep (x : Str) (n : Nat) : Str := ⟨(List.replicate n x.cps).foldl (· ++ ·) #[]⟩
theorem op_repS : OpR X (binaryOp .Mult) (fun x y H Q => ∃ a i, x = .str a ∧ y = .int i ∧ 0 ≤ i ∧ i ≤ 1000 ∧ a.length ≤ 90 ∧ Q (.str (strRep a i.toNat)) H) := by
  intro pins s σ H x y v u Q I rx ry h
  obtain ⟨a, i, rfl, rfl, h0, h1, hl, q⟩ := h
  obtain ⟨t, rfl⟩ := rx
  obtain ⟨t', rfl⟩ := ry
  have ml : a.length * i.toNat ≤ 90000 := by
    have := Nat.mul_le_mul hl (show i.toNat ≤ 1000 by omega)
    omega
  refine PySem.P.mul_str ?_ (fun h2 _ => ?_) (fun _ _ => ?_) ?_
  · rw [decide_eq_false (by omega), decide_eq_false (by omega)]
    rfl
  · have h3 : (90 : Int) ≤ (2 ^ 63 - 1) / i := by
      rw [Int.le_ediv_iff_mul_le (by omega)]
      omega
    omega
  · exact decide_eq_false (Nat.not_lt.mpr (Nat.le_trans ml (by decide)))
  · by_cases hi : i < 1
    · rw [if_pos hi]
      obtain rfl : i = 0 := by omega
      exact ⟨by decide, ⟨.str (strRep a 0), H, I.tok _, ⟨_, rfl⟩, q⟩⟩
    · rw [if_neg hi]
      split
      · rename_i he
        rw [Bool.or_eq_true] at he
        have e : strRep a i.toNat = a := by
          rcases he with he | he
          · have : i = 1 := by simpa using he
            subst this
            show (⟨#[] ++ a.cps⟩ : Str) = a
            simp
          · have h2 : a.cps = #[] := by
              have : a.cps.size = 0 := by simpa [Str.length] using he
              exact Array.eq_empty_of_size_eq_zero this
            have key : ∀ n : Nat, (List.replicate n a.cps).foldl (· ++ ·) #[] = #[] := by
              intro n
              induction n with
              | zero => rfl
              | succ n ih =>
                rw [List.replicate_succ, List.foldl_cons, h2] at *
                simpa using ih
            unfold strRep
            rw [key]
            cases a
            simp at h2
            rw [h2]
        rw [e] at q
        exact ⟨.str a, H, I, ⟨t, rfl⟩, q⟩
      · refine ⟨?_, ⟨.str (strRep a i.toNat), H, I.tok _, ⟨_, rfl⟩, q⟩⟩
        have key : ∀ (n : Nat) (b : Array Nat), ((List.replicate n a.cps).foldl (· ++ ·) b).size = b.size + n * a.cps.size := by
          intro n
          induction n with
          | zero => intro b; simp
          | succ n ih =>
            intro b
            rw [List.replicate_succ, List.foldl_cons, ih, Array.size_append, Nat.succ_mul]
            omega
        show ((List.replicate i.toNat a.cps).foldl (· ++ ·) #[]).size ≤ _
        rw [key, Nat.mul_comm]
        have ml2 : a.cps.size * i.toNat ≤ 90000 := ml
        simp
        exact Nat.le_trans ml2 (by decide)
def oRepS : O2 := fun a b M P => match a, b with
  | .d (.str s), .d (.int i) => (0 ≤ i ∧ i ≤ 1000 ∧ s.length ≤ 90) ∧ P (.d (.str (strRep s i.toNat))) M
  | _, _ => False
theorem do_repS : DO X (binaryOp .Mult) oRepS where
  run := fun {a b M P} h {u v B L Z H} S r1 r2 {Q} q => by
    unfold oRepS at h
    split at h
    · have e1 := rv_str.mp r1
      have e2 := rv_int.mp r2
      subst e1
      subst e2
      exact opS op_repS ⟨_, _, rfl, rfl, h.1.1, h.1.2.1, h.1.2.2, q.here S h.2 (rv_str.mpr rfl)⟩
    · exact h.elim
end
/-! ### o.f += i -/
section
variable {X : Cx} {o e : Expr} {fo fe : ET} {f : Str} {pos tpos : Pos}
/-- the value of a field, an int -/
def fldI (T : ClsT) (j : Nat) (d : DV) (M : Mem) (P : Nat → List DV → Int → Prop) : Prop := match d with
  | .m k => (match M[k]? with
    | some (.ins T' fs) => T' = T ∧ (match fs[j]? with
      | some (.d (.int a)) => P k fs a
      | _ => False)
    | _ => False)
  | _ => False
theorem fldI_of {T : ClsT} {j : Nat} {d : DV} {M : Mem} {P : Nat → List DV → Int → Prop} (h : fldI T j d M P) : ∃ k fs a, d = .m k ∧ M[k]? = some (.ins T fs) ∧ fs[j]? = some (.d (.int a)) ∧ P k fs a := by
  unfold fldI at h
  split at h
  · rename_i k
    split at h
    · rename_i T' fs hk
      obtain ⟨rfl, h⟩ := h
      split at h
      · rename_i a ha
        exact ⟨k, fs, a, rfl, hk, ha, h⟩
      · exact h.elim
    · exact h.elim
  · exact h.elim
def tFldAug (T : ClsT) (j : Nat) (fo fe : ET) : ST := fun E ρ M => fo ρ M (fun d M1 => fldI T j d M1 fun k fs a => fe ρ M1 (fun y M2 => match y with
  | .d (.int b) => M2 = M1 ∧ E.nx ρ (M1.set k (.ins T (fs.set j (.d (.int (a + b))))))
  | _ => False) (xS E ρ)) (xS E ρ)
theorem ds_fldaug (T : ClsT) (j : Nat) (c : ClsOk X.K T) (ho : DE X o fo) (he : DE X e fe) (hf : T.ns[j]? = some f := by rfl) (hl : T.ns.length < 900 := by first | decide | exact of_decide_eq_true rfl) : DS X (.AugAssign (.Attribute o f tpos) .Add e pos) (tFldAug T j fo fe) where
  run := fun {E ρ M} h {σ H B L Z} S V {F} l => by
    refine PS.s (ps_fldaug pe_s pe_s in_add) ?_
    refine ho.run h S V (l.ex.at_ V) fun d M1 u B1 L1 H1 h1 e1 S1 r1 => ?_
    obtain ⟨k, fs, i, rfl, hk, hi, h2⟩ := fldI_of h1
    obtain ⟨a, rfl, hL⟩ := r1
    obtain ⟨a', h4, cell⟩ := S1.at_ hk
    have : a' = a := Option.some.inj (h4.symm.trans hL)
    subst this
    obtain ⟨dx, gs, g1, g2, g3, g4⟩ := cell
    have hj : j < fs.length := (List.getElem?_eq_some_iff.mp hi).1
    obtain ⟨v, hv, rv⟩ := g4.get hi
    have hg : (gs.map (·.1))[j]? = some f := by rw [g2]; exact take_get hf hj
    have hnd : (gs.map (·.1)).Nodup := by rw [g2]; exact c.nd.sublist (List.take_sublist _ _)
    have hlk : gs.lookup f = some v := lookup_at hg hv hnd
    refine ⟨a', T.C, dx, gs, v, rfl, g1, c.cls, c.no f (List.mem_of_getElem? hf), hlk, ?_⟩
    refine he.run h2 S1 (V.mono e1) ((l.mono e1).ex.at_ (V.mono e1)) fun y M2 w B2 L2 H2 h3 e2 S2 r2 => ?_
    dsimp only at h3
    split at h3
    · rename_i b
      obtain ⟨rfl, h3⟩ := h3
      have e1' := rv_int.mp rv
      have e2' := rv_int.mp r2
      subst e1'
      subst e2'
      refine ⟨i, b, rfl, rfl, ?_⟩
      have hset : setF fs j (.d (.int (i + b))) = some (fs.set j (.d (.int (i + b)))) := by
        unfold setF
        rw [if_pos hj]
      obtain ⟨dx2, gs2, q1, q2, S3⟩ := StM.putFld c hf S2 hk (e2.get hL) hset (rv_int (K := X.K) (B := B2) (L := L2).mpr rfl)
      exact ⟨dx2, gs2, q1, by omega, l.nx _ _ _ _ _ _ h3 (e1.trans e2) S3 (V.mono (e1.trans e2))⟩
    · exact h3.elim
end
end DL

/-! a list comprehension whose element may raise -/
namespace DL
open PySem PySem.Spec PyProof.Rows L2
/-! ### an exception that leaves the block -/
section
variable {M : Model} {A : Around} {E : Value → Shared → Prop} {s : Shared} {B : Heap} {env : Env} {outer l : List Env} {a C L : Addr} {Z : Obj → Prop}
/-- noted under another frame's mark -/
theorem note_other {Q : Unit → Shared → Prop} (hZ : HandSPX.Steady Z) (hfr : A.frames = some (env :: outer)) (hf : env.frame = some L) (hne : C ≠ L) (hh : HandSPX.HeldZ B (env :: outer) a Z C s.heap)
    (hQ : ∀ h', HandSPX.HeldZ B (env :: outer) a Z L h' → s.heap.UpToSlots h' → Q () { s with heap := h' }) : wpAny M A (noteFrame (.ref a) env) Q E s := by
  obtain ⟨q1, q2, q3, oe, vs, T, oT, ts, t1, t2, t3, t4, t5, t6, t7, t8, t9⟩ := hh
  unfold noteFrame
  simp only [hf]
  refine wpAny_bind ?_
  refine wpAny_field t1 t3 t4 ?_
  rw [if_pos (by simp : (Value.ref T != Value.none) = true)]
  refine wpAny_bind ?_
  refine wpAny_field t7 t8 t9 ?_
  have hr : ¬ ((rawInt C == rawInt L) = true) := by
    simp only [rawInt, beq_iff_eq]
    intro e
    injection e with e1 e2
    exact hne (Int.ofNat.inj e1)
  rw [if_neg hr]
  refine wpAny_bind ?_
  refine wpAny_setField t7 t8 (Array.getElem?_eq_some_iff.mp t9).1 ?_
  have oth : ∀ b, b ≠ T → (s.heap.update T (Obj.mapFields (·.setIfInBounds 3 Value.none))).get? b = s.heap.get? b := fun b hb => Heap.get?_update_other _ _ fun z => hb z.symm
  have nr : ∀ b o, s.heap.get? b = some o → (∀ vs, o.data ≠ .fields vs) → b ≠ T := fun b o e hn z => by
    subst z
    rw [t7] at e
    cases e
    exact hn ts t8
  have fr : (s.heap.update T (Obj.mapFields (·.setIfInBounds 3 Value.none))).FunFrames B (env :: outer) := q3.of_keeps fun b o e hn => ⟨o, by rw [oth b (nr b o e hn)]; exact e, rfl⟩
  have he : (s.heap.update T (Obj.mapFields (·.setIfInBounds 3 Value.none))).get? a = some oe := by
    rw [oth a fun z => t6 z.symm]
    exact t1
  have st : B.StaysIn (s.heap.update T (Obj.mapFields (·.setIfInBounds 3 Value.none))) := fun b o e => by
    have hb : b ≠ T := fun z => by
      subst z
      rw [t5] at e
      cases e
    rw [oth b hb]
    exact q1 b o e
  refine HandSPX.wpAny_entryZ hZ hfr fr hf he st q2 t3 (Array.getElem?_eq_some_iff.mp t4).1 t2 fun h' hN => ?_
  obtain ⟨x1, x2, x3, x4⟩ := hN
  refine hQ h' ⟨x1, q2, x2, x3⟩ fun b o e hn => ?_
  refine x4 b o ?_ hn
  rw [oth b (nr b o e hn)]
  exact e
theorem note_any {Q : Unit → Shared → Prop} (hZ : HandSPX.Steady Z) (hfr : A.frames = some (env :: outer)) (hf : env.frame = some L) (hne : C ≠ L) (x : Sky B (env :: outer) a Z C s.heap)
    (hQ : ∀ h', HandSPX.HeldZ B (env :: outer) a Z L h' → s.heap.UpToSlots h' → Q () { s with heap := h' }) : wpAny M A (noteFrame (.ref a) env) Q E s := by
  rcases x with ⟨x1, x2, x3, oe, vs, x4, x5, x6, x7⟩ | x | x
  · exact HandSPX.look_newZ hZ hfr x3 hf x4 x1 x2 x6 x7 x5 hQ
  · exact HandSPX.looks_onZ hZ hfr hf x hQ
  · exact note_other hZ hfr hf hne x hQ
theorem note_env {e : Value} {env1 env2 : Env} (h : env1.frame = env2.frame) : noteFrame e env1 = noteFrame e env2 := by
  unfold noteFrame PySem.frameOf
  rw [h]
theorem pass_env {α : Type} {w : String} {e : Value} {env1 env2 : Env} (h : env1.frame = env2.frame) : (PySem.passOn w e env1 : Sem α) = PySem.passOn w e env2 := by
  unfold PySem.passOn
  rw [h]
/-- it is passed on -/
theorem pass_held {w : String} {Q : Value → Shared → Prop} (hf : env.frame = some L) (hh : HandSPX.HeldZ B l a Z L s.heap) (hQ : ∀ h', HandSPX.HeldZ B l a Z L h' → s.heap.UpToSlots h' → E (.ref a) { s with heap := h' }) :
    wpAny M A (PySem.passOn w (.ref a) env : Sem Value) Q E s := by
  obtain ⟨q1, q2, q3, oe, vs, T, oT, ts, t1, t2, t3, t4, t5, t6, t7, t8, t9⟩ := id hh
  unfold PySem.passOn
  rw [hf]
  refine wpAny_bind (wpAny_field t1 t3 t4 ?_)
  rw [if_neg (by simp : ¬ ((Value.ref T == Value.none) = true))]
  refine wpAny_bind (HandSPX.setFlight_onZ hh fun h' k1 k2 => ?_)
  exact wpAny_throw (hQ h' k1 k2)
/-- without one of the ground's objects -/
theorem frames_less {h h2 B B2 : Heap} (h1 : ∀ b, b ≠ C → h2.get? b = h.get? b) (h3 : ∀ b, b ≠ C → B2.get? b = B.get? b) : ∀ {l : List Env}, (∀ e ∈ l, e.frame ≠ some C) → h.FunFrames B l → h2.FunFrames B2 l
  | [], _, _ => trivial
  | e :: r, hc, x => by
    obtain ⟨x1, ⟨L, o, x2, x3, x4, x5⟩, x6⟩ := x
    have hL : L ≠ C := fun z => hc e (List.mem_cons_self ..) (z ▸ x2)
    exact ⟨x1, ⟨L, o, x2, by rw [h3 L hL]; exact x3, by rw [h1 L hL]; exact x4, x5⟩, frames_less h1 h3 (fun e he => hc e (List.mem_cons_of_mem _ he)) x6⟩
theorem held_less {h h2 B2 : Heap} {oC : Obj} (hC : h.get? C = some oC) (nC : ∀ vs, oC.data ≠ .fields vs) (hl : ∀ e ∈ l, e.frame ≠ some C) (h1 : ∀ b, b ≠ C → h2.get? b = h.get? b) (h3 : ∀ b, b ≠ C → B2.get? b = B.get? b) (h4 : B2.get? C = none)
    (hh : HandSPX.HeldZ B l a Z L h) : HandSPX.HeldZ B2 l a Z L h2 := by
  obtain ⟨q1, q2, q3, oe, vs, T, oT, ts, t1, t2, t3, t4, t5, t6, t7, t8, t9⟩ := hh
  have ha : a ≠ C := fun z => by
    subst z
    rw [hC] at t1
    cases t1
    exact nC vs t3
  have hT : T ≠ C := fun z => by
    subst z
    rw [hC] at t7
    cases t7
    exact nC ts t8
  refine ⟨fun b o e => ?_, by rw [h3 a ha]; exact q2, frames_less h1 h3 hl q3, oe, vs, T, oT, ts, by rw [h1 a ha]; exact t1, t2, t3, t4, by rw [h3 T hT]; exact t5, t6, by rw [h1 T hT]; exact t7, t8, t9⟩
  have hb : b ≠ C := fun z => by
    subst z
    rw [h4] at e
    cases e
  rw [h1 b hb]
  rw [h3 b hb] at e
  exact q1 b o e
end
/-! ### the block's end -/
section
variable {M : Model} {A : Around} {E : Value → Shared → Prop} {s : Shared} {env : Env}
def cpX (M : Model) (A : Around) (E : Value → Shared → Prop) (use : Option (Value → Sem Unit)) (Q : Value → Shared → Prop) (acc : Value) (cenv : Env) (r : Result) (s' : Shared) : Prop :=
  match r with
  | .ok f => compPost M A E use Q acc cenv.locals (.ok f) s'
  | .error x => ∃ m, s'.heap.Ns cenv.locals m ∧ ∀ h', Heap.SameBut cenv.locals s'.heap h' → wpAny M A (PySem.passOn "comprehension.variables-let-go" x cenv : Sem Value) (fun _ _ => False) E { s' with heap := h' }
theorem comp_freeX {e : Expr} {scope : Scope} {pos : Pos} {newAcc first : Sem Value} {g : Comprehension} {gs : List Comprehension} {cl : List (Str × Addr)} {use : Option (Value → Sem Unit)} {Q : Value → Shared → Prop}
    (c1 : clausesOf e = g :: gs) (c2 : ∀ x, foldedSetIterable g.iter env x = pure x) (c3 : closureFor scope env = pure cl) (c4 : scope.kind = .function) (c5 : ∀ x ∈ scope.names, x.2 = .local → scope.names.lookup x.1 = some .local)
    (h : wpAny M A first (fun x s1 => wpAny M A (pyIter x) (fun it s2 => wpAny M A newAcc (fun acc s3 => wpAny M A (newFunctionEnv scope env.globals cl [] env.qual none .none (some env)) (fun cenv s4 =>
      codeAny M A (.compStart e 0 it acc { cenv with scope := relabel scope env }) (cpX M A E use Q acc { cenv with scope := relabel scope env }) s4) E s3) E s2) E s1) E s) :
    wpAny M A (comprehension e scope env pos newAcc false first use) Q E s := by
  have kp : ∀ {α : Type} {m : Sem α} {P P' : α → Shared → Prop} {s : Shared}, wpAny M A m P E s → (∀ a s', P a s' → P' a s') → wpAny M A m P' E s := fun h f => wpAny_mono h f fun _ _ z => z
  unfold comprehension
  rw [c3, c1]
  refine wpAny_bind (kp h fun x s1 h1 => ?_)
  refine wpAny_bind (wpAny_standAt ?_)
  refine wpAny_bind (wpAny_of_eq (c2 x) ?_)
  refine wpAny_bind (wpAny_holding (kp h1 fun it s2 h2 => ?_))
  refine wpAny_standIf (wpAny_bind (kp h2 fun acc s3 h3 => ?_))
  refine wpAny_bind (wpAny_pure ?_)
  refine wpAny_bind (kp h3 fun cenv s4 h4 => ?_)
  dsimp only
  have loc : ∀ x ∈ (scope.names.filter fun x => (x.2 == .local || x.2 == .cell) && x.1 != (".0" : Str)).reverse, x.2 = .local → Env.kindOf { cenv with scope := relabel scope env } x.1 = some .local := fun x hx hl =>
    lookup_relabel_local (c5 x (List.mem_filter.mp (List.mem_reverse.mp hx)).1 hl)
  refine wpAny_holding (wpAny_bind (wpAny_attempt (wpAny_holding (wpAny_run (codeAny_mono h4 fun r s5 hr => ?_)))))
  match r, hr with
  | .ok f, hr =>
    cases use with
    | none =>
      obtain ⟨m, k1, k2⟩ := hr
      refine wpAny_bind (wpAny_holding ?_)
      exact wpAny_comp_letGo (cenv := { cenv with scope := relabel scope env }) c4 _ s5 m loc k1 fun h' m' _ sb => wpAny_pure (k2 h' sb)
    | some u =>
      refine wpAny_bind (wpAny_rule (wpAny_bind (wpAny_holding ?_)))
      refine kp hr fun _ s6 ⟨m, k1, k2⟩ => wpAny_bind ?_
      refine wpAny_comp_letGo (cenv := { cenv with scope := relabel scope env }) c4 _ s6 m (fun x hx hl => ?_) k1 fun h' m' _ sb => wpAny_pure (k2 h' sb)
      rcases List.mem_append.mp hx with hx | hx
      · exact loc x (List.mem_of_mem_drop hx) hl
      · exact loc x (List.mem_of_mem_take hx) hl
  | .error x, hr =>
    obtain ⟨m, k1, k2⟩ := hr
    refine wpAny_bind (wpAny_holding ?_)
    exact wpAny_comp_letGo (cenv := { cenv with scope := relabel scope env }) c4 _ s5 m loc k1 fun h' m' _ sb => wpAny_mono (k2 h' sb) (fun _ _ f => f.elim) fun _ _ z => z
end
section
variable {X : Cx}
theorem noE {α : Type} {t : Sem α} {Q Q' : α → Shared → Prop} {M : Model} {A : Around} {E : Value → Shared → Prop} {s : Shared} (h : wpAny M A t Q (fun _ _ => False) s) (f : ∀ a s, Q a s → Q' a s) : wpAny M A t Q' E s :=
  wpAny_mono h f fun _ _ z => z.elim
/-- an exception of the block's element goes out of the def -/
theorem blk_out {pins : List (Addr × Obj)} {s3 : Shared} {σ : L2.St} {H3 : Hp} {W : WX} {W0 : Value → Option Addr → Hp → Prop} {use : Option (Value → Sem Unit)} {Qf : Value → Shared → Prop} {acc u : Value} {scope : Scope} {cl : List (Str × Addr)} {fp : List Addr} {s' : Shared}
    (est : X.stack = X.env :: X.outer) (efr : X.env.frame = some X.env.locals) (tk : Takes X W) (hW : ∀ cls d H', W0 cls d H' → W cls d σ H') (I3 : Inv X pins σ H3 s3) (f3 : ∀ b ∈ fp, FpOk X pins H3 b)
    (x : XE (X.blk s3 H3 scope (compEnvC scope cl s3.heap.objs.size X.env) fp) (fun cls d _ H' => W0 cls d H') u s') :
    notedBy (model X.prog X.w) X.A (compEnvC scope cl s3.heap.objs.size X.env) (fun e s' => cpX (model X.prog X.w) X.A X.xe use Qf acc (compEnvC scope cl s3.heap.objs.size X.env) (.error e) s') u s' := by
  obtain ⟨a, B, sI, pins2, σ2, H2, cls, d, rfl, I, nb, up, sky, na, os, ag, w⟩ := x
  generalize hC : s3.heap.objs.size = C at I sky
  have fe : (compEnvC scope cl C X.env).frame = X.env.frame := rfl
  have nC : H2 C = none := I.free
  have hLC : X.env.locals < C := by
    rw [← hC]
    exact I3.lt
  have hne : C ≠ X.env.locals := Nat.ne_of_gt hLC
  obtain ⟨m, hm, _⟩ := I.loc
  have hm : sI.heap.Ns C m := hm
  have hfr : X.A.frames = some (X.env :: X.outer) := by
    rw [← est]
    exact I3.ok.frames
  have hstk : (X.blk s3 H3 scope (compEnvC scope cl C X.env) fp).stack = X.env :: X.outer := est
  have sky : Sky B (X.env :: X.outer) a (Zc cls d) C s'.heap := by
    rw [← est]
    exact sky
  have nfr : ∀ e ∈ X.env :: X.outer, e.frame ≠ some C := fun e he z => by
    rcases List.mem_cons.mp he with rfl | he
    · rw [efr] at z
      exact hne (Option.some.inj z).symm
    · have : C ∈ X.fs := List.mem_filterMap.mpr ⟨e, he, z⟩
      rw [← hC] at this
      exact I3.nofs (Nat.le_refl _) this
  -- back in the def's context
  have I7 : Inv X pins σ H2 sI := I3.call' (ch := fp) I.os I.base I.hok I.bare fun b hb => ⟨(f3 b hb).2.2.2.1, (f3 b hb).2.1, (f3 b hb).2.2.2.2.1, (f3 b hb).2.2.2.2.2⟩
  have fC : FpOk X pins H2 C := by
    rw [← hC] at nC ⊢
    exact I3.fpOk (Nat.le_refl _) nC
  obtain ⟨G, g1, g2⟩ := restrict sI.heap fun b => decide (b ≠ C)
  obtain ⟨B2, b1, b2⟩ := restrict B fun b => decide (b ≠ C)
  have g1 : ∀ b, b ≠ C → G.get? b = sI.heap.get? b := fun b hb => g1 b (decide_eq_true hb)
  have g2 : G.get? C = none := g2 C (by simp)
  have b1 : ∀ b, b ≠ C → B2.get? b = B.get? b := fun b hb => b1 b (decide_eq_true hb)
  have b2 : B2.get? C = none := b2 C (by simp)
  have I8 : Inv X pins σ H2 { sI with heap := G } := I7.turned (t' := sI.toks) (it := C) (fun b o hb e => (g1 b hb).trans e) fC.1 fC.2.1 fC.2.2.2.1 fC.2.2.2.2.1 fC.2.2.2.2.2
  obtain ⟨oC, es, ep, hoC, hdC, _⟩ := hm
  have ndC : ∀ vs, oC.data ≠ .fields vs := fun vs z => by
    rw [hdC] at z
    cases z
  -- the frame notes it
  unfold notedBy
  rw [note_env fe]
  refine note_any Zc.steady hfr efr hne sky fun h1 hh1 up1 => ?_
  -- the block's own dict as it stands
  have upC : ∃ sl, h1.get? C = some { oC with slots := sl } := by
    obtain ⟨sl, e1⟩ := up C oC hoC ndC
    obtain ⟨sl2, e2⟩ := up1 C _ e1 ndC
    exact ⟨sl2, e2⟩
  have nsC : ∃ m, h1.Ns C m := by
    obtain ⟨sl, e⟩ := upC
    obtain ⟨o, es, ep, z1, z2, z3⟩ := (⟨oC, es, ep, hoC, hdC, ‹_›⟩ : sI.heap.Ns C m)
    rw [hoC] at z1
    cases z1
    exact ⟨m, _, es, ep, e, z2, z3⟩
  obtain ⟨m1, hm1⟩ := nsC
  obtain ⟨sl, eC⟩ := upC
  refine ⟨m1, hm1, fun h2 sb => ?_⟩
  rw [pass_env (env2 := X.env) fe]
  have hh2 : HandSPX.HeldZ B2 (X.env :: X.outer) a (Zc cls d) X.env.locals h2 := held_less eC ndC nfr (fun b hb => sb.2 b hb) b1 b2 hh1
  refine pass_held efr hh2 fun h3 hh3 up3 => ?_
  refine tk _ _ ⟨a, B2, { sI with heap := G }, pins, σ, H2, cls, d, rfl, I8, fun b o e hb => ?_, fun b o e hn => ?_, .inr (.inr ?_), na, os, ag, hW _ _ _ w⟩
  · have hbC : b ≠ C := fun z => by
      rw [z, g2] at e
      cases e
    rw [b1 b hbC]
    refine nb b o ((g1 b hbC).symm.trans e) ?_
    exact hb
  · have hbC : b ≠ C := fun z => by
      rw [z, g2] at e
      cases e
    obtain ⟨sl1, e1⟩ := up b o ((g1 b hbC).symm.trans e) hn
    obtain ⟨sl2, e2⟩ := up1 b _ e1 hn
    have e2' : h2.get? b = _ := (sb.2 b hbC).trans e2
    obtain ⟨sl3, e3⟩ := up3 b _ e2' hn
    exact ⟨sl3, e3⟩
  · rw [est]
    exact hh3
end
section
variable {X : Cx}
/-- the element's context: what it raises is W0's -/
abbrev elX (X : Cx) (W0 : Value → Option Addr → Hp → Prop) (s : Shared) (H : Hp) (scope : Scope) (cl : List (Str × Addr)) (C : Addr) (fp : List Addr) : Cx :=
  (X.blk s H scope (compEnvC scope cl C X.env) fp).wish (XE (X.blk s H scope (compEnvC scope cl C X.env) fp) fun cls d _ H' => W0 cls d H')
theorem lcX_core {pins : List (Addr × Obj)} {s : Shared} {σ : L2.St} {H : Hp} {Q : VK} {elt tg iter : Expr} {ifs : List Expr} {scope : Scope} {own : List (Str × Nat)} {pos pos' : Pos} {wi : L2.TI} {g : L2.TG} {tt : L2.TT} {te : L2.TE}
    {use : Option (Value → Sem Unit)} {Qf : Value → Shared → Prop} {W : WX} {W0 : Value → Option Addr → Hp → Prop} (hc : X.calm = true) (hN : X.N.Nodup) (est : X.stack = X.env :: X.outer) (efr : X.env.frame = some X.env.locals) (tk : Takes X W)
    (hW : ∀ cls d H', W0 cls d H' → W cls d σ H') (I : Inv X pins σ H s) (hi : PI X tg iter wi) (ok : BlkOk X.N X.env.scope scope own)
    (hg : ∀ s H C cl fp, PG (X.blk s H scope (compEnvC scope cl C X.env) fp) tg g) (ht : ∀ s H C cl fp, PTs (X.blk s H scope (compEnvC scope cl C X.env) fp) ifs tt) (he : ∀ s H C cl fp, PE (elX X W0 s H scope cl C fp) elt te)
    (hs : ∀ x, foldedSetIterable iter X.env x = pure x) (h : L2.tLc wi g tt te (own.map (·.2)) σ H Q)
    (hRR : ∀ D C s' m H', Inv X pins σ H' s' → Q (.ref D) H' → s'.heap.Ns C m → FpOk X pins H' C → compPost (model X.prog X.w) X.A X.xe use Qf (.ref D) C (.ok .next) s') :
    wpAny (model X.prog X.w) X.A (comprehension (.ListComp elt [⟨tg, iter, ifs, 0⟩] scope pos) scope X.env pos' (newList []) false (eval iter X.env) use) Qf X.xe s := by
  have fre : ∀ y ∈ scope.names, y.2 = .free → ∃ c, X.env.cells.lookup y.1 = some c := fun y hy e => (ok.free y hy e).elim (fun k => I.ok.has _ (.inl k)) fun k => I.ok.has _ (.inr k)
  refine comp_freeX (use := use) rfl hs (closure_ok fre) ok.kind (fun y hy e => by rw [ok.uniq y hy, e]) ?_
  refine thn (hi.run pins s σ H _ I h) fun xv s1 hx => thn hx fun itv s2 h2 => ?_
  obtain ⟨it, fp, tn, J, H2, rfl, I2, T, st2, f2, q⟩ := h2
  refine wpAny_newObj_type (newEnv_comp ?_) (by show 0 ≤ sizeLine; decide)
  generalize hD : s2.heap.objs.size = D
  obtain ⟨Wt, ⟨m0, w0⟩, turn⟩ := q D (I2.hok.fresh (Nat.le_of_eq hD))
  generalize hs3 : ({ s2 with heap := s2.heap.push { cls := .type "list", data := .seq ([] : List Value).toArray } } : Shared) = s3
  have h3 : s3.heap = s2.heap.push { cls := .type "list", data := .seq ([] : List Value).toArray } := by rw [← hs3]
  have I3 : Inv X pins σ (upd H2 D (.lst [])) s3 := by
    rw [← hs3]
    refine I2.laid (t' := s2.toks) (fun b o e => Heap.get?_push_of_some _ e) (Nat.le_of_eq hD) ⟨Nat.zero_le _, [], 0, .nil, ?_⟩
    rw [← hD]
    exact Heap.get?_push_size _ rfl
  have lt2 : ∀ b ∈ fp, b < s2.heap.objs.size := fun b hb => by
    obtain ⟨o, e, _⟩ := T.obj _ _ st2 b hb
    exact Heap.lt_size e
  have f3 : ∀ b ∈ fp, FpOk X pins (upd H2 D (.lst [])) b ∧ b < s3.heap.objs.size := fun b hb => by
    have h1 := lt2 b hb
    have h2 : b ≠ D := by
      rw [← hD]
      exact Nat.ne_of_lt h1
    refine ⟨⟨by rw [upd_ne h2]; exact (f2 b hb).1, (f2 b hb).2⟩, ?_⟩
    rw [h3, Heap.size_push]
    exact Nat.lt_succ_of_lt h1
  have st3 : tn 0 s3.heap := T.keep _ _ _ st2 fun b _ o e => by
    rw [h3]
    exact Heap.get?_push_of_some _ e
  have I4 := block_start I3 ok hN f3
  generalize hcl : cellsFrom (s3.heap.objs.size + 1) scope.names (cloFrom X.env.cells scope.names []) = cl at I4 ⊢
  show codeAny _ _ (.compStart (.ListComp elt [⟨tg, iter, ifs, 0⟩] scope pos) 0 (.ref it) (.ref D) (compEnvC scope cl s3.heap.objs.size X.env)) (cpX (model X.prog X.w) X.A X.xe use Qf (.ref D) (compEnvC scope cl s3.heap.objs.size X.env)) { s3 with heap := pushCells (s3.heap.push { cls := .type "dict", data := .dict #[] }) scope.names }
  generalize hH3 : upd H2 D (.lst []) = H3 at I3 I4 w0 f3
  generalize hs4 : ({ s3 with heap := pushCells (s3.heap.push { cls := .type "dict", data := .dict #[] }) scope.names } : Shared) = s4 at I4 ⊢
  have out := fun u s' => blk_out (use := use) (Qf := Qf) (acc := .ref D) (scope := scope) (cl := cl) (u := u) (s' := s') est efr tk hW I3 fun b hb => (f3 b hb).1
  have pg := hg s3 H3 s3.heap.objs.size cl fp
  have pt := ht s3 H3 s3.heap.objs.size cl fp
  have pe : PE ((X.blk s3 H3 scope (compEnvC scope cl s3.heap.objs.size X.env) fp).wish (XE (X.blk s3 H3 scope (compEnvC scope cl s3.heap.objs.size X.env) fp) fun cls d _ H' => W0 cls d H')) elt te := he s3 H3 s3.heap.objs.size cl fp
  have st4 : tn 0 s4.heap := T.keep _ _ _ st3 fun b _ o e => by
    rw [← hs4]
    exact pushCells_keeps _ _ _ _ (Heap.get?_push_of_some _ e)
  have cL : (compEnvC scope cl s3.heap.objs.size X.env).locals = s3.heap.objs.size := rfl
  generalize hce : compEnvC scope cl s3.heap.objs.size X.env = ce at I4 pg pt pe out cL ⊢
  have still : ∀ {σ' : L2.St} {H' : Hp} {s' : Shared}, Inv (X.blk s3 H3 scope ce fp) [] σ' H' s' → (∀ b ∈ fp, H' b = none) → ∀ b ∈ fp, FpOk (X.blk s3 H3 scope ce fp) [] H' b := fun I' hn b hb =>
    ⟨hn b hb, (I'.ok.exf b hb).1, I'.ok.exfs b hb, .inl hb, fun x c e => (I'.ok.exf b hb).2 x c e, fun p hp => by cases hp⟩
  refine codeAny_compStart_list ?_ (T.self X.A 0 _ _ _ st4 ?_) <;>
  · refine compLoop_any (fun n s' => ∃ i H', Inv (X.blk s3 H3 scope ce fp) [] (wipe σ (own.map (·.2))) H' s' ∧ tn i s'.heap ∧ (∀ b ∈ fp, H' b = none) ∧ Wt i n H') ?_ m0 ⟨0, H3, I4, st4, fun b hb => (f3 b hb).1.1, w0⟩
    rintro n s5 ⟨i, H5, I5, st5, n5, w5⟩
    rcases turn i n H5 w5 with ⟨stop, qq⟩ | ⟨go, Nx, hNx, step⟩
    · have td := T.done (X.blk s3 H3 scope ce fp) rfl rfl rfl hc i [] s5 _ H5 (fun _ _ => False) I5 (still I5 n5) st5 stop
      refine noE td fun r s6 ⟨hr, I6⟩ => ?_
      subst hr
      have I7 : Inv X pins σ H5 s6 := I3.call' (ch := fp) I6.os I6.base I6.hok I6.bare fun b hb => ⟨(f3 b hb).1.2.2.2.1, (f3 b hb).1.2.1, (f3 b hb).1.2.2.2.2.1, (f3 b hb).1.2.2.2.2.2⟩
      have nC : H5 s3.heap.objs.size = none := by
        rw [← cL]
        exact I6.free
      obtain ⟨m, hn, _⟩ := I6.loc
      have hn : s6.heap.Ns ce.locals m := hn
      show compPost _ _ _ use Qf (.ref D) ce.locals (.ok .next) s6
      rw [cL] at hn ⊢
      exact hRR D s3.heap.objs.size s6 m H5 I7 qq hn (I3.fpOk (Nat.le_refl _) nC)
    · have ti := T.item (X.blk s3 H3 scope ce fp) rfl rfl rfl hc i [] s5 _ H5 (fun _ _ => False) I5 (still I5 n5) st5 go
      refine noE ti fun r s6 ⟨u, hr, h6⟩ => ?_
      subst hr
      refine noE h6 fun _ s7 ⟨x, H7, I7, r7, y7, st7, n7⟩ => ?_
      have J7 := I7.pinned (still I7 n7) (T.obj _ _ st7)
      refine noE (pg.run _ s7 _ H7 x u _ J7 r7 (step x H7 y7)) fun _ s8 ⟨σ8, H8, I8, hw8, q8⟩ => ?_
      refine noE (pt.run _ s8 σ8 H8 _ I8 q8) fun b s9 ⟨H9, I9, q9⟩ => ?_
      have fin : ∀ {s' : Shared} {H' : Hp}, Inv (X.blk s3 H3 scope ce fp) ([] ++ pinsAt fp s7.heap) σ8 H' s' → Nx H' → ∃ m, m < n ∧ ∃ i H', Inv (X.blk s3 H3 scope ce fp) [] (wipe σ (own.map (·.2))) H' s' ∧ tn i s'.heap ∧ (∀ b ∈ fp, H' b = none) ∧ Wt i m H' := fun {s' H'} I' nx => by
        obtain ⟨m', hm, w'⟩ := hNx H' nx
        have pin' : ∀ b ∈ fp, ∀ o, s7.heap.get? b = some o → s'.heap.get? b = some o ∧ H' b = none := fun b hb o e => by
          have z := I'.pin (b, o) (List.mem_append_right _ (List.mem_append_right _ (mem_pinsAt hb e)))
          exact ⟨z.1, z.2.1⟩
        have hl : (wipe σ (own.map (·.2))).length = σ8.length := by rw [← hw8, wipe_length]
        refine ⟨m', hm, i + 1, H', (I'.unpinned (pins := [])).weak hl (fun j v e => ?_), T.keep _ _ _ st7 fun b hb o e => (pin' b hb o e).1, fun b hb => ?_, w'⟩
        · rw [← hw8] at e
          exact (wipe_some e).1
        · obtain ⟨o, e, _⟩ := T.obj _ _ st7 b hb
          exact (pin' b hb o e).2
      cases b with
      | false =>
        simp only [Bool.false_eq_true, if_false] at q9 ⊢
        exact fin I9 q9
      | true =>
        simp only [if_true] at q9 ⊢
        refine wpAny_mono (pe.run _ s9 σ8 H9 _ (I9.wish _) q9) (fun z s10 hz => ?_) fun u s' hx => ?_
        · obtain ⟨yv, H10, I10, r10, acc, hD10, hz10, nx⟩ := hz
          exact app_ok (X := X.blk s3 H3 scope ce fp) I10.unwish hD10 hz10 r10 fun s11 I11 => fin I11 nx
        · exact out u s' hx
end
/-! ### the data level -/
variable [Csts]
section
variable {X : Cx} {elt tg iter : Expr} {ifs : List Expr} {scope : Scope} {own : List (Str × Nat)} {pos : Pos} {fi : IT} {g : GT} {tt : TT} {fe : ET}
def tLcXG (fi : IT) (g : GT) (tt : TT) (fe : ET) (vs : List Nat) (Fin : List DV → Mem → Prop) (ρ : Rh) (M : Mem) (x : XPost) : Prop := fi ρ M (fun xs still M1 => ∃ I : Nat → List DV → Mem → Prop, I 0 [] M1 ∧
  (∀ i y acc M', xs[i]? = some y → I i acc M' → still M' ∧ g y (wipeD ρ vs) M' fun ρ2 M2 => tt ρ2 M2 (fun b M3 => (b = true → fe ρ2 M3 (fun d M4 => acc.length < 100000 ∧ I (i + 1) (acc ++ [d]) M4) x) ∧ (b = false → I (i + 1) acc M3)) fun _ _ _ => False) ∧
  ∀ acc M', I xs.length acc M' → still M' ∧ Fin acc M') x
def tLcX (fi : IT) (g : GT) (tt : TT) (fe : ET) (vs : List Nat) : ET := fun ρ M P x => tLcXG fi g tt fe vs (fun acc M' => match allD acc with
  | some zs => P (.d (.lst zs)) M'
  | none => False) ρ M x
/-- what is wished of an exception of the element -/
def xW (X : Cx) (B : Hp) (L : List Addr) (Z : Zs) (x : XPost) : Value → Option Addr → Hp → Prop := fun cls d H' => ∃ fs M' B' L', x cls fs M' ∧ Ext B L B' L' ∧ StM X.K B' L' Z M' H' ∧ XRep X.K B' d fs
abbrev blkEX (X : Cx) (W0 : Value → Option Addr → Hp → Prop) (scope : Scope) (elt : Expr) : L2.TE := fun σ H Q => ∀ s0 H0 C cl fp, sE (elX X W0 s0 H0 scope cl C fp) elt σ H Q
theorem takes_elX {W0 : Value → Option Addr → Hp → Prop} {s0 : Shared} {H0 : Hp} {cl : List (Str × Addr)} {C : Addr} {fp : List Addr} : Takes (elX X W0 s0 H0 scope cl C fp) (fun cls d _ H' => W0 cls d H') := fun u s' hx => by
  obtain ⟨a, B, sI, pins, σ, H, cls, d, e, I, r⟩ := hx
  exact ⟨a, B, sI, pins, σ, H, cls, d, e, I.unwish, r⟩
theorem lcX_reading (hi : DI X tg iter fi) (hg : ∀ s H C cl fp, DGw (X.blk s H scope (compEnvC scope cl C X.env) fp) tg (own.map (·.2)) g) (ht : ∀ s H C cl fp, DTs (X.blk s H scope (compEnvC scope cl C X.env) fp) ifs tt)
    (he : ∀ W0 s H C cl fp, DE (elX X W0 s H scope cl C fp) elt fe) {ρ : Rh} {M : Mem} {x : XPost} {Fin : List DV → Mem → Prop} (h : tLcXG fi g tt fe (own.map (·.2)) Fin ρ M x) {σ : L2.St} {H B : Hp} {L : List Addr} {Z : Zs} (S : StM X.K B L Z M H)
    (V : EnvR X.K B L σ ρ) (x1 : XOk X B L Z σ x) {Q : VK}
    (q : ∀ acc M' D accV B' L' H', Fin acc M' → Ext B L B' L' → StM X.K B' L' ((D, .lst accV) :: Z) M' H' → (∀ q ∈ Z, q.1 ≠ D) → RepVs X.K B' L' acc accV → Q (.ref D) H') :
    L2.tLc (sI X tg iter) (blkG X scope tg) (blkT X scope ifs) (blkEX X (xW X B L Z x) scope elt) (own.map (·.2)) σ H Q := by
  have nox : ∀ s0 H0 C cl fp B L Z σ, XOk (X.blk s0 H0 scope (compEnvC scope cl C X.env) fp) B L Z σ (fun _ _ _ => False) := fun _ _ _ _ _ _ _ _ _ => ⟨fun _ _ _ _ => False, takes0, fun _ _ _ _ _ _ _ h => h.elim⟩
  refine hi.run h S V x1 fun xs still M1 B1 L1 H1 J hR e1 S1 it => ?_
  obtain ⟨I, h0, hs, hd⟩ := hR
  intro D hD
  have hZ := S1.zne hD
  refine ⟨fun i m H' => i + m = xs.length ∧ ∃ acc accV M' B' L', I i acc M' ∧ Ext B1 L1 B' L' ∧ StM X.K B' L' ((D, .lst accV) :: Z) M' H' ∧ RepVs X.K B' L' acc accV, ⟨xs.length, by omega, [], [], M1, B1, L1, h0, Ext.refl _ _, S1.newZ hD, trivial⟩, ?_⟩
  rintro i m H' ⟨hm, acc, accV, M', B', L', hI, e2, S2, r2⟩
  by_cases hl : i < xs.length
  · obtain ⟨y, hy⟩ : ∃ y, xs[i]? = some y := ⟨xs[i], List.getElem?_eq_getElem hl⟩
    obtain ⟨st, hg'⟩ := hs i y acc M' hy hI
    obtain ⟨go, yl⟩ := it.go i y M' B' L' [(D, .lst accV)] H' hy st e2 S2
    refine .inr ⟨go, fun H2 => ∃ m', m' < m ∧ (i + 1) + m' = xs.length ∧ ∃ acc accV M' B' L', I (i + 1) acc M' ∧ Ext B1 L1 B' L' ∧ StM X.K B' L' ((D, .lst accV) :: Z) M' H2 ∧ RepVs X.K B' L' acc accV, fun _ ⟨m', a, b⟩ => ⟨m', a, b⟩, fun v H'' hy' s0 H0 C cl fp => ?_⟩
    obtain ⟨B'', e3, S3, r3⟩ := yl v H'' hy'
    refine (hg s0 H0 C cl fp).run hg' S3 ((V.mono ((e1.trans e2).trans e3)).wipe _) r3 fun ρ2 M2 B2 L2 σ2 H2 h2 e4 S4 V4 w4 => ?_
    refine ⟨w4.trans (wipe_idem _ _), fun s0 H0 C cl fp => ?_⟩
    refine (ht s0 H0 C cl fp).run h2 S4 V4 (nox ..) fun b M3 B3 L3 H3 h3 e5 S5 => ?_
    cases b with
    | false => exact ⟨m - 1, by omega, by omega, acc, accV, M3, B3, L3, (h3.2 rfl), ((e2.trans e3).trans e4).trans e5, S5, r2.mono ((e3.trans e4).trans e5)⟩
    | true =>
      intro s0 H0 C cl fp
      have ex : Ext B L B3 L3 := (((e1.trans e2).trans e3).trans e4).trans e5
      refine (he _ s0 H0 C cl fp).run (h3.1 rfl) S5 (V4.mono e5) ⟨_, takes_elX, fun cls fs M6 d B6 L6 H6 k1 k2 k3 k4 => ⟨fs, M6, B6, L6, k1, ex.trans k2, k3.perm fun q hq => List.mem_cons_of_mem _ hq, k4⟩⟩ fun d M4 v4 B4 L4 H4 h4 e6 S6 r6 => ?_
      have r7 := (r2.mono (((e3.trans e4).trans e5).trans e6))
      refine ⟨accV, S6.zAt, by rw [← r2.len]; exact size_lt h4.1, m - 1, by omega, by omega, acc ++ [d], accV ++ [v4], M4, B4, L4, h4.2, (((e2.trans e3).trans e4).trans e5).trans e6, S6.putZ rfl hZ, r7.app ⟨r6, trivial⟩⟩
  · have hi' : i = xs.length := by omega
    subst hi'
    obtain ⟨st, hf⟩ := hd acc M' hI
    exact .inl ⟨it.stop _ M' B' L' [(D, .lst accV)] H' (Nat.le_refl _) st e2 S2, q acc M' D accV B' L' H' hf (e1.trans e2) S2 hZ r2⟩
/-- y = [..] on one line; the element may raise -/
theorem ds_setLcX (i : Nat) {y : Str} {py spos : Pos} (hc : X.calm = true) (hN : X.N.Nodup) (est : X.stack = X.env :: X.outer) (efr : X.env.frame = some X.env.locals) (hi : DI X tg iter fi) (ok : BlkOk X.N X.env.scope scope own)
    (hg : ∀ s H C cl fp, DGw (X.blk s H scope (compEnvC scope cl C X.env) fp) tg (own.map (·.2)) g) (ht : ∀ s H C cl fp, DTs (X.blk s H scope (compEnvC scope cl C X.env) fp) ifs tt) (he : ∀ W0 s H C cl fp, DE (elX X W0 s H scope cl C fp) elt fe)
    (hy : X.N[i]? = some y := by rfl) (hyl : X.env.scope.names.lookup y = some .local := by rfl)
    (hsw : swapsWith (.ListComp elt [⟨tg, iter, ifs, 0⟩] scope pos) (some (.Name y py)) spos.line X.env = pure true := by exact sw_true rfl rfl rfl (by decide +kernel)) (hs : ∀ x, foldedSetIterable iter X.env x = pure x := by intro _; rfl) :
    DS X (.Assign [.Name y py] (.ListComp elt [⟨tg, iter, ifs, 0⟩] scope pos) spos) (tAsg (tLcX fi g tt fe (own.map (·.2))) (gName i)) where
  run := fun {E ρ M} h {σ H B L Z} S V {F} l => by
    have x1 := l.ex.at_ V
    obtain ⟨W, tk, hW⟩ := id x1
    have rd := lcX_reading hi hg ht he h S V x1 (fin_data (P := fun d M1 => gName i d ρ M1 E.nx) fun d M' v B' L' H' a b c r => l.nx _ _ _ _ _ _ a b c ((V.mono b).set r i))
    intro pins s I
    rw [exec_Assign_Name_used _ _ _ _ hsw]
    refine wpAny_bind (wpAny_standAt (wpAny_bind ?_))
    show wpAny _ X.A (do let _ ← comprehension (.ListComp elt [⟨tg, iter, ifs, 0⟩] scope pos) scope X.env (firstIterPos [⟨tg, iter, ifs, 0⟩] pos) (newList []) false (eval iter X.env) (some (assign (.Name y py) X.env))) _ _ s
    refine wpAny_bind (thn (lcX_core (W0 := xW X B L Z (xS E ρ)) (Qf := fun _ s' => SP X pins F .next s') hc hN est efr tk (fun cls d H' ⟨fs, M', B', L', k1, k2, k3, k4⟩ => hW cls fs M' d B' L' H' k1 k2 k3 k4) I pi_s ok
      (fun s0 H0 C cl fp => ⟨fun pins s σ H v u Q I r h => h s0 H0 C cl fp pins s u I r⟩) (fun s0 H0 C cl fp => ⟨fun pins s σ H Q I h => h s0 H0 C cl fp pins s I⟩) (fun s0 H0 C cl fp => ⟨fun pins s σ H Q I h => h s0 H0 C cl fp pins s I⟩) hs rd
      fun D C s' m H' I' q hn f => ?_) fun _ s' hq => wpAny_pure (wpAny_pure hq))
    obtain ⟨f0, f1, f2, f3, f4, f5⟩ := f
    show wpAny _ _ (assign (.Name y py) X.env (.ref D)) _ _ _
    refine wpAny_assign_Name ?_
    refine store_ok2 (v := L2.V.ref D) I' hN hy (.inl hyl) rfl (fun s2 I2 ⟨a, sb, ha⟩ => ?_) (.inr hyl)
    have hCa : C ≠ a := by
      rcases ha with z | z
      · rw [z]
        exact f1
      · exact fun e => f4 y a z e.symm
    refine ⟨m, hn.sameBut sb hCa, fun h3 sb3 => ?_⟩
    refine ⟨_, H', ?_, q⟩
    exact I2.turned (t' := s2.toks) (fun b o hb e => (sb3.2 b hb).trans e) f0 f1 f3 f4 f5
end
end DL

/-! exceptions whose context is None, and what runs while one is handled -/
namespace DL
open PySem PySem.Spec PyProof.Rows L2
/-! ### made -/
section
variable {X : Cx}
/-- an own class with an own __init__ -/
theorem pmkN_own {CX : CXT} {x : Str} {C g : Addr} {k : Nat} {fd : FuncData} {ps : List Str} {sp : Sp} {e : Expr} {es : List Expr} {ta : L2.TA} {p pos : Pos} (T : OexC X.K C) (h1 : PySem.W.findIn X.K (.ref C) "__init__" = some (some (.ref g)))
    (h2 : PySem.W.typeIn X.K (.ref g) = some (.type "function")) (Fn : FnOk X.prog X.w X.K X.mg X.base CX k g fd ps sp) (hr : Room (k + 1) X.A) (hb : Binds X.K fd ps []) (hx : Passes CX X (fun _ _ _ => False)) (hg : Gl X x) (hm : X.mg x = some (.ref C))
    (ha : PA X (e :: es) ta) (hdb : (x == ("__debug__" : Str)) = false) (he : starEach (e :: es) X.env = (false, eval e X.env) :: starEach es X.env) (hpl : (backTo pos (starEach es X.env)).any (·.1) = false) : L2N.PMk X (.Call (.Name x p) (e :: es) [] pos) (tMkO C sp [] ta) := by
  intro pins s σ H Q I want
  obtain ⟨c1, c2, c3, c4, c5, c6, c7, c8, c9, c10, c11, c12, c13, c14, c15, hC, hbm⟩ := T.cls
  refine wpAny_Call_Name_kw (ld_glob I hg hm ?_ hdb)
  refine PySem.W.callWith_K (h₀ := X.base) I.ok.mod.kin T.kC ?_ he hpl
  refine thn (ha.run pos pins s σ H _ I want) fun us sA got => ?_
  obtain ⟨vs, HA, IA, rA, few, next⟩ := got
  refine ⟨IA.kIn, ?_⟩
  obtain ⟨hp, gens, drawn, toks, os⟩ := sA
  show wpAny _ _ (call (.ref C) us) _ _ _
  generalize hn : hp.objs.size = n
  have low : hp.objs.size ≤ n + 1 := by omega
  have sp0 := next (n + 1) (IA.hok.fresh low)
  -- the new object and its args
  generalize hL : (hp.push (PySem.W.kdv_tup us)).push (PySem.HandSPX.excO C n) = laid
  have kept : ∀ b o, hp.get? b = some o → laid.get? b = some o := fun b o q => by
    rw [← hL]
    exact Heap.get?_push_of_some _ (Heap.get?_push_of_some _ q)
  have there : laid.get? (n + 1) = some (PySem.HandSPX.excO C n) := by
    rw [← hL, ← hn]
    heap_get
  have IB : Inv X pins σ (upd HA (n + 1) (exo (n + 1) C none)) ⟨laid, gens, drawn, toks, os⟩ := IA.laid (t' := toks) kept low (exo_ok there)
  have rB : Vals (V.ref (n + 1) :: (vs ++ [])) (Value.ref (n + 1) :: (us ++ [])) := .cons rfl (rA.append .nil)
  have len : (Value.ref (n + 1) :: us ++ []).length = ps.length := (rB.length.symm.trans (Fn.len _ _ _ _ sp0) : _)
  have size : us.length ≤ sizeLine := by
    have := Paired.length rA
    rw [sizeLine_eq]
    omega
  have bound : BindsTo ⟨laid, gens, drawn, toks, os⟩ fd ⟨Value.ref (n + 1) :: us, []⟩ (ps.zip (Value.ref (n + 1) :: (us ++ []))) := hb ⟨laid, gens, drawn, toks, os⟩ (Value.ref (n + 1) :: us) IB.kIn len
  have ran := Fn.run (X.A.under (.builtin "type.__call__" ⟨.ref C :: us, []⟩)) X.stack ⟨laid, gens, drawn, toks, os⟩ (upd HA (n + 1) (exo (n + 1) C none)) ⟨Value.ref (n + 1) :: us, []⟩ (Value.ref (n + 1) :: (us ++ [])) _ _ (fun _ _ _ => False) (hr.make C us []) (IB.env0.make C us []) bound rB sp0
  refine wpAny_call ?_
  subst hL
  subst hn
  refine PySem.HandSPX.call_own F.excBase_ValueError (fun Y => PySem.HandSPX.refsVE_contains Y _ hbm) (IA.kIn _ _ hC) (PySem.W.looks_findIn IA.kIn h1) (fun self => PySem.W.bind_fn IA.kIn self h2) size ?_
  refine codeAny_mono ran fun r s' out => ?_
  match r, out with
  | .error _, out => exact hx pins σ _ _ _ s' IB out
  | .ok .next, out => exact out.elim
  | .ok .brk, out => exact out.elim
  | .ok .cont, out => exact out.elim
  | .ok (.ret u), out =>
    obtain ⟨v, HB, o1, o2, o3, o4, rv, rfl, d, fs, d1, d2, d3, last⟩ := out
    obtain ⟨hB, gB, dB, tB, osB⟩ := s'
    obtain ⟨t0, G, J, j1, j2, j3, j4⟩ := mk_end0 (d2 := dB) (t2 := tB) IA low kept o3 o4 o1 o2 d1 d2 d3
    exact ⟨rv, _, _, _, ⟨G, gB, dB, tB, osB⟩, _, .ref C, some d, rfl, J, j1, j2, j3, ⟨rfl, rfl, fun ws e => by cases e; rfl⟩, rfl, rfl, j4, rfl, o2, raises_own T.exC T.tyC, last⟩
end
variable [Csts]
/-! ### statements that may raise so -/
def sMkN (X : Cx) (e : Expr) : L2.St → Hp → XK → Prop := fun σ H Q => ∀ pins s, Inv X pins σ H s → wpAny (model X.prog X.w) X.A (eval e X.env) (L2N.MkP X pins σ Q) X.xe s
theorem pmkN_s {X : Cx} {e : Expr} : L2N.PMk X e (sMkN X e) := fun pins s _ _ _ I h => h pins s I
structure DMkN (X : Cx) (e : Expr) (f : MkT) : Prop where
  run : ∀ {ρ M P}, f ρ M P (fun _ _ _ => False) → ∀ {σ H B L Z}, StM X.K B L Z M H → EnvR X.K B L σ ρ → ∀ {Q : XK}, (∀ cls fs M' d B' L' H', P cls fs M' → Ext B L B' L' → StM X.K B' L' Z M' H' → XRep X.K B' d fs → Q cls d H') → sMkN X e σ H Q
def XOkN (X : Cx) (B : Hp) (L : List Addr) (Z : Zs) (x : Value → List (Str × D) → Rh → Mem → Prop) : Prop :=
  ∃ W, L2N.Takes X W ∧ ∀ cls fs ρ' M' d B' L' σ' H', x cls fs ρ' M' → Ext B L B' L' → StM X.K B' L' Z M' H' → EnvR X.K B' L' σ' ρ' → XRep X.K B' d fs → W cls d σ' H'
theorem XOkN.mono {X : Cx} {B B' : Hp} {L L' : List Addr} {Z : Zs} {x} (h : XOkN X B L Z x) (e : Ext B L B' L') : XOkN X B' L' Z x := by
  obtain ⟨W, h1, h2⟩ := h
  exact ⟨W, h1, fun cls fs ρ M d B2 L2 σ H a b => h2 cls fs ρ M d B2 L2 σ H a (e.trans b)⟩
structure LkN (X : Cx) (B : Hp) (L : List Addr) (Z : Zs) (E : DEnds) (F : Ends) : Prop where
  nx : NOk X B L Z E.nx F.nx
  rt : POk X B L Z E.rt F.rt
  bk : NOk X B L Z E.bk F.bk
  ct : NOk X B L Z E.ct F.ct
  ex : XOkN X B L Z E.ex
theorem LkN.mono {X : Cx} {B B' : Hp} {L L' : List Addr} {Z : Zs} {E : DEnds} {F : Ends} (h : LkN X B L Z E F) (e : Ext B L B' L') : LkN X B' L' Z E F := ⟨h.nx.mono e, h.rt.mono e, h.bk.mono e, h.ct.mono e, h.ex.mono e⟩
structure DSN (X : Cx) (st : Stmt) (t : ST) : Prop where
  run : ∀ {E ρ M}, t E ρ M → ∀ {σ H B L Z}, StM X.K B L Z M H → EnvR X.K B L σ ρ → ∀ {F}, LkN X B L Z E F → sS X st F σ H
structure DSsN (X : Cx) (st : List Stmt) (t : ST) : Prop where
  run : ∀ {E ρ M}, t E ρ M → ∀ {σ H B L Z}, StM X.K B L Z M H → EnvR X.K B L σ ρ → ∀ {F}, LkN X B L Z E F → sSs X st F σ H
section
variable {X : Cx} {st : Stmt} {rest : List Stmt} {t u : ST} {e : Expr} {fe : ET} {pos : Pos}
theorem xnone {B : Hp} {L : List Addr} {Z : Zs} (σ : L2.St) : XOk X B L Z σ (fun _ _ _ => False) := ⟨fun _ _ _ _ => False, takes0, fun _ _ _ _ _ _ _ h => h.elim⟩
theorem dssN_nil : DSsN X [] tNext where
  run := fun h _ _ _ _ _ S V _ l => PSs.s pss_nil (l.nx _ _ _ _ _ _ h (Ext.refl _ _) S V)
theorem dssN_one (h1 : DSN X st t) : DSsN X [st] t where
  run := fun {E ρ M} h {σ H B L Z} S V {F} l => PSs.s (pss_one ps_s) (h1.run h S V l)
theorem dssN_cons (h1 : DSN X st t) (h2 : DSsN X rest u) : DSsN X (st :: rest) (tSeq t u) where
  run := fun {E ρ M} h {σ H B L Z} S V {F} l => by
    refine PSs.s (pss_cons ps_s pss_s) ?_
    exact h1.run h S V (F := { F with nx := sSs X rest F }) ⟨fun ρ' M' B' L' σ' H' a b c d => h2.run a c d (l.mono b), l.rt, l.bk, l.ct, l.ex⟩
def tIfN (c : TT) (t u : ST) : ST := fun E ρ M => c ρ M (fun b M1 => (b = true → t E ρ M1) ∧ (b = false → u E ρ M1)) (fun _ _ _ => False)
theorem dsN_if {c : Expr} {a b : List Stmt} {tc : TT} (hc : DT X c tc) (ha : DSsN X a t) (hb : DSsN X b u) : DSN X (.If c a b pos) (tIfN tc t u) where
  run := fun {E ρ M} h {σ H B L Z} S V {F} l => by
    refine PS.s (ps_if pt_s pss_s pss_s) ?_
    refine hc.run h S V (xnone _) fun k M1 B1 L1 H1 h1 e1 S1 => ?_
    cases k with
    | true => exact ha.run (h1.1 rfl) S1 (V.mono e1) (l.mono e1)
    | false => exact hb.run (h1.2 rfl) S1 (V.mono e1) (l.mono e1)
def tRaiseN (f : MkT) : ST := fun E ρ M => f ρ M (xS E ρ) (fun _ _ _ => False)
theorem dsN_raise {f : MkT} (hc : X.calm = true) (he : DMkN X e f) : DSN X (.Raise (some e) none pos) (tRaiseN f) where
  run := fun {E ρ M} h {σ H B L Z} S V {F} l => by
    obtain ⟨W, tk, hW⟩ := l.ex
    refine PS.s (L2N.ps_raise hc tk pmkN_s) ?_
    exact he.run h S V fun cls fs M' d B' L' H' a b c r => hW cls fs ρ M' d B' L' σ H' a b c (V.mono b) r
theorem dmkN0 {x : Str} {C : Addr} {p : Pos} (T : ErrC X.K X.mg x C) (hg : Gl X x := by rfl) (hdb : (x == ("__debug__" : Str)) = false := by decide) : DMkN X (.Call (.Name x p) [] [] pos) (tMk0 C) where
  run := fun {ρ M P} h {σ H B L Z} S V {Q} q pins s I => by
    refine wpAny_Call_Name_kw (ld_glob I hg T.mg_ ?_ hdb)
    refine PySem.W.callWith_K0 I.kIn T.kp ?_
    obtain ⟨hp, g, dr, tk, os⟩ := s
    obtain ⟨bm, N, nm, qn, bs, hd, sn, sub, ab, col, dd, k0, k1, k2, k3, k5, mN, hC, hN, hni, own⟩ := exc_obj I.kIn T.ve
    refine wpAny_call_exc_subT PySem.F.excBase_ValueError own hC hN hni (fun h' e mk => ?_) (Nat.zero_le _)
    exact L2N.mk_of I mk T.raises (q _ _ _ none B L H h (Ext.refl _ _) S rfl) (I.hok.gone mk.new)
theorem dmkNF {x : Str} {C : Addr} {p : Pos} {es : List Expr} {fas : AT} {ps ns : List Str} (T : CalleeX X.prog X.w X.K X.mg X.base x C ps ns) (hr : Room 2 X.A) (ha : DA X (e :: es) fas) (hg : Gl X x := by rfl) (hdb : (x == ("__debug__" : Str)) = false := by decide)
    (he : starEach (e :: es) X.env = (false, eval e X.env) :: starEach es X.env := by rfl) (hpl : (backTo pos (starEach es X.env)).any (·.1) = false := by rfl) : DMkN X (.Call (.Name x p) (e :: es) [] pos) (tMkF C ns fas) where
  run := fun {ρ M P} h {σ H B L Z} S V {Q} q pins s I => by
    obtain ⟨fI, fd, hi, ht, hb, F⟩ := T.ex
    refine pmkN_own T.oex hi ht F hr hb passL hg T.mg_ pa_s hdb he hpl pins s σ H Q I ?_
    refine ha.run h S V (xnone _) fun ds M1 vs B1 L1 H1 h1 e1 S1 r1 => ?_
    dsimp only at h1
    split at h1
    · rename_i xs hx
      have := allD_eq hx
      subst this
      have rl : RepL X.K B1 xs vs := r1.toL
      have hlen : vs.length = ns.length := rl.len.symm.trans h1.1
      refine ⟨by rw [hlen]; exact Nat.le_trans T.few (by decide), fun a na => ⟨a, C, vs, by rw [List.append_nil], hlen, T.oex, T.no, upd_same, fun dx hdx hne => ⟨rfl, dx, (ns.zip vs).reverse, upd_same, ?_, ?_, ?_⟩⟩⟩
      · rw [upd_ne hne, upd_same]
      · rw [upd_ne hne] at hdx
        exact hdx
      · rw [upd_ne hne] at hdx
        have eH : upd (del (upd (upd (upd H1 a (exo a C none)) dx (exd dx (ns.zip vs).reverse)) a (exo a C (some dx))) a) dx (.xd (ns.zip vs).reverse) = upd H1 dx (.xd (ns.zip vs).reverse) := by
          funext b
          by_cases h1 : b = dx
          · subst h1
            rw [upd_same, upd_same]
          · rw [upd_ne h1, upd_ne h1]
            by_cases h2 : b = a
            · subst h2
              rw [del_same, na]
            · rw [del_ne h2, upd_ne h2, upd_ne h1, upd_ne h2]
        rw [eH]
        obtain ⟨S2, e2⟩ := S1.newD (o := .xd (ns.zip vs).reverse) hdx
        refine q _ _ M1 (some dx) _ _ _ h1.2 (e1.trans e2) S2 ⟨?_, (ns.zip vs).reverse, upd_same, ?_, ?_⟩
        · intro z
          have := congrArg List.length z
          rw [List.length_reverse, List.length_zip, h1.1, Nat.min_self] at this
          exact T.one (List.eq_nil_of_length_eq_zero this)
        · rw [List.map_reverse, List.map_reverse, zip_fst hlen, zip_fst h1.1]
        · rw [List.map_reverse, List.map_reverse, zip_snd hlen, zip_snd h1.1]
          have := repL_rev (RepL.mono e2.sub _ _ rl) (show RepL X.K (upd B1 dx (.xd (ns.zip vs).reverse)) [] [] by unfold RepL; trivial)
          rwa [List.append_nil, List.append_nil] at this
    · exact h1.elim
end
/-! ### defs that raise so -/
section
variable (P : Program) (w : World) (K : PySem.W.Frag) (mg : Str → Option Value) (base : Heap)
structure CalleeN (x : Str) (k : Nat) (ps : List Str) (dsp : DSp) : Prop where
  ex : ∃ f fd, mg x = some (.ref f) ∧ PySem.W.keepIn K (.ref f) = true ∧ Binds K fd ps [] ∧ FnOk P w K mg base (L2N.CX P w) k f fd ps (Up K dsp)
end
section
variable {P : Program} {w : World} {K : PySem.W.Frag} {mg : Str → Option Value} {base : Heap}
theorem calleeN_dl {x : Str} {st : Stmt} {N ps : List Str} {k : Nat} {dsp : DSp} (F : FunG K mg x st ps) (S : FnScope N ps (defScope st)) (len : ∀ ds M P x, dsp ds M P x → ds.length = ps.length)
    (hbody : ∀ (f : Addr) (cdv : Value) (A : Around) (outer : List PySem.Env) (s : Shared) (H : Hp) (E : XK), Room k (A.deeper (envOfC x (defScope st) s.heap.objs.size f cdv)) →
      ∃ t, DSsN (cxOf (L2N.CX P w) P w K mg base N x (defScope st) f cdv A outer s H E) (defBody st) t ∧ ∀ ds M P x, dsp ds M P x → t (ends P x) (startD N ds) M) : CalleeN P w K mg base x (k + 1) ps dsp := by
  obtain ⟨f, fd, F, hm, hb⟩ := F.ex
  refine ⟨f, fd, hm, F.kp, hb, ?_⟩
  obtain ⟨oc, od, kV, doc, pm, an, cdv, ct, osl, rfl, lk, hcd⟩ := F.ex
  refine fn_of lk hcd S (fun vs H Q E h => ?_) fun A outer s H vs Q E hr h => ?_
  · obtain ⟨B, L, Z, ds, M, P, x, _, r, hd, _⟩ := h
    rw [← r.len]
    exact len _ _ _ _ hd
  · obtain ⟨t, ht, hd⟩ := hbody f cdv A outer s H E hr
    refine ⟨sSs (cxOf (L2N.CX P w) P w K mg base N x (defScope st) f cdv A outer s H E) (defBody st), pss_s, ?_⟩
    obtain ⟨B, L, Z, ds, M, P', x', S1, r, h1, hP, hX⟩ := h
    refine ht.run (hd _ _ _ _ h1) S1 (start_env r) ⟨fun ρ' M' B' L' σ' H' a b c d => hP _ _ _ _ _ _ a b c (by simp only [RepV, Rep]), hP, fun _ _ _ _ _ _ a => a.elim, fun _ _ _ _ _ _ a => a.elim, ?_⟩
    exact ⟨fun cls d _ H => E cls d H, L2N.takes_of rfl rfl rfl rfl, fun cls fs ρ' M' d B' L' σ' H' a b c _ r => hX cls fs M' d B' L' H' a b c r⟩
end
section
variable {X : Cx} {x : Str} {p pos pos2 : Pos} {e : Expr} {es : List Expr} {fas : AT} {k : Nat} {ps : List Str} {dsp : DSp}
/-- f(..) as a statement -/
def tDoN (dsp : DSp) (fas : AT) : ST := fun E ρ M => fas ρ M (fun vs M1 => dsp vs M1 (fun _ M' => E.nx ρ M') (xS E ρ)) (fun _ _ _ => False)
theorem dsN_call (C : CalleeN X.prog X.w X.K X.mg X.base x k ps dsp) (hr : Room k X.A) (ha : DA X (e :: es) fas) (hg : Gl X x := by rfl) (hdb : (x == ("__debug__" : Str)) = false := by decide) (he : starEach (e :: es) X.env = (false, eval e X.env) :: starEach es X.env := by rfl)
    (hpl : (backTo pos (starEach es X.env)).any (·.1) = false := by rfl) (hs : swapsWith (.Call (.Name x p) (e :: es) [] pos) none pos2.line X.env = pure false := by rfl) : DSN X (.Expr (.Call (.Name x p) (e :: es) [] pos) pos2) (tDoN dsp fas) where
  run := fun {E ρ M} h {σ H B L Z} S V {F} l => by
    obtain ⟨f, fd, hm, hk, hb, Fn⟩ := C.ex
    obtain ⟨W, tk, hW⟩ := l.ex
    refine PS.s (ps_expr (pe_callSD Fn hr hg hm hk hb .nil (E := WE W) (fun σ => L2N.passAt tk σ) pa_s hdb he hpl) hs) ?_
    refine ha.run h S V (xnone _) fun xs M1 vs B1 L1 H1 h1 e1 S1 r1 => ?_
    refine ⟨B1, L1, Z, xs, M1, _, _, S1, by rw [List.append_nil]; exact r1, h1, fun d M' v B' L' H' a b c r => ?_, fun cls fs M' d B' L' H' a b c r => ?_⟩
    · exact l.nx _ _ _ _ _ _ a (e1.trans b) c (V.mono (e1.trans b))
    · exact hW cls fs ρ M' d B' L' σ H' a (e1.trans b) c (V.mono (e1.trans b)) r
end
/-! ### try, one named clause -/
section
variable {X : Cx} {x n : Str} {c : Value} {i : Nat} {body sts : List Stmt} {st : Stmt} {np pos pos2 : Pos} {tb : ST} {ts : Addr → Value → Option Addr → ST}
def tTryN (K : PySem.W.Frag) (c : Value) (i : Nat) (tb : ST) (ts : Addr → Value → Option Addr → ST) : ST := fun E ρ M => tb { E with ex := fun cls fs ρ' M' => PySem.W.exmOne K cls c = some true ∧ ∀ a d, (d = none ↔ fs = []) → ts a cls d (goneD E i) (ρ'.set i (some (.d (.xcp a d (fs.map (·.1)) (fs.map (·.2)))))) M' } ρ M
theorem takesN0 {X : Cx} : L2N.Takes X (fun _ _ _ _ => False) := fun _ _ h => by
  obtain ⟨_, _, _, _, _, _, _, _, _, _, _, _, _, _, _, _, z⟩ := h
  exact z.elim
theorem ds_tryN (est : X.stack = X.env :: X.outer) (efr : X.env.frame = some X.env.locals) (eN : X.N.Nodup) (nm : Names X x c) (hi : X.N[i]? = some n) (hl : X.env.kindOf n = some .local)
    (eb : ∀ (pn : List (Addr × Obj)) (xe : Value → Shared → Prop), PassesOwn (model X.prog X.w) X.A X.env xe → DSsN (X.tr pn xe) body tb)
    (es : ∀ (a : Addr) (oe : Obj) (cls : Value) (d : Option Addr) (pn : List (Addr × Obj)), L2N.Zn cls d oe → (∃ vs, oe.data = .fields vs) → DSs (X.suite a ((a, oe) :: pn)) (st :: sts) (ts a cls d)) :
    DS X (.Try body [.ExceptHandler (some (.Name x np)) (some n) (st :: sts) pos2] [] [] pos) (tTryN X.K c i tb ts) where
  run := fun {E ρ M} h {σ H B L Z} S V {F} lk => by
    let up : Addr → Value → Option Addr → L2.TS := fun a cls d G σ H => ∀ oe pn, L2N.Zn cls d oe → (∃ vs, oe.data = .fields vs) → sSs (X.suite a ((a, oe) :: pn)) (st :: sts) G σ H
    refine PS.s (L2N.ps_try_as (Wout := fun _ _ _ _ => False) (ts := up) (tb := fun W => fun D σ H => ∀ pn xe, L2N.Takes (X.tr pn xe) W → PassesOwn (model X.prog X.w) X.A X.env xe → sSs (X.tr pn xe) body D σ H) est efr eN hi hl nm takesN0
      (fun W pn xe t p => ⟨fun pins s σ H D I q => q pn xe t p pins s I⟩) (fun a oe cls d pn hz hf => ⟨fun pins s σ H D I q => q oe pn hz hf pins s I⟩)) ?_
    intro pn xe t p
    refine (eb pn xe p).run h S V ⟨lk.nx, lk.rt, lk.bk, lk.ct, ⟨_, t, ?_⟩⟩
    rintro cls fs ρ' M' d B' L' σ' H' ⟨hm, hs⟩ e1 S1 V1 xr
    refine ⟨true, hm, fun _ a na oe pn2 hz hf => ?_, fun z => by cases z⟩
    have rx : RepV X.K B' L' (.d (.xcp a d (fs.map (·.1)) (fs.map (·.2)))) (.ref a) := by
      show Rep X.K B' _ _
      unfold Rep
      refine ⟨rfl, ?_⟩
      cases d with
      | none =>
        have : fs = [] := xr
        subst this
        exact .inl ⟨rfl, rfl, rfl⟩
      | some dd =>
        obtain ⟨_, gs, g1, g2, g3⟩ := xr
        exact .inr ⟨dd, gs, rfl, g1, g2, g3⟩
    have lk2 := lk.mono e1
    refine (es a oe cls d pn2 hz hf).run (hs a d ?_) S1 (V1.set rx i) ⟨fun ρ2 M2 B2 L2 σ2 H2 a1 b1 c1 d1 => lk2.nx _ _ _ _ _ _ a1 b1 c1 (d1.forget i none), lk2.rt, fun ρ2 M2 B2 L2 σ2 H2 a1 b1 c1 d1 => lk2.bk _ _ _ _ _ _ a1 b1 c1 (d1.forget i none),
      fun ρ2 M2 B2 L2 σ2 H2 a1 b1 c1 d1 => lk2.ct _ _ _ _ _ _ a1 b1 c1 (d1.forget i none), ⟨_, takes0, fun _ _ _ _ _ _ _ _ _ z => z.elim⟩⟩
    cases d with
    | none => exact ⟨fun _ => xr, fun _ => rfl⟩
    | some dd => exact ⟨fun z => (by cases z), fun z => absurd z xr.1⟩
end
/-! ### what isinstance asks an exception, with or without a dict -/
section
variable {prog : Program} {w : World} {A : Around} {E : Value → Shared → Prop} {s : Shared} {K : PySem.W.Frag} {x C : Addr} {ox : Obj} {od : Option Obj}
theorem find_cls (T : ExcC K C) : PySem.W.findObj K C od "__class__" = some (.bind (.builtin "getset_descriptor.__get__") (.builtin "object.__class__")) := by
  obtain ⟨cd, hc, _⟩ := PySem.W.any_some T.hd
  unfold PySem.W.findObj
  rw [hc, Option.bind_some, T.ha, Option.bind_some]
  simp [T.hn, T.ht]
theorem ask_cls {Q : Option Value → Shared → Prop} (T : ExcC K C) (kin : K.In s.heap) (I : PySem.W.InstAt s.heap x ox C od) (q : Q (some (.ref C)) { s with toks := s.toks + 1 }) : wpAny (model prog w) A (getAttr? (.ref x) "__class__") Q E s := by
  obtain ⟨hp, gens, drawn, toks, os⟩ := s
  have lt : PySem.W.Looks (model prog w) hp (typeOf (.ref x)) (.ref C) := I.type
  have lg : PySem.W.Looks (model prog w) hp _ _ := PySem.W.looks_findIn kin T.hg
  have lk : PySem.W.Looks (model prog w) hp _ _ := PySem.W.looks_findIn kin T.hk
  have lf : PySem.W.Looks (model prog w) hp _ _ := PySem.W.looks_find kin I (find_cls T)
  have isE : PySem.W.Looks (model prog w) hp (isInstance (.ref x) (.type "BaseException")) true := lt.andThen (PySem.W.looks_subIn kin T.hs)
  have own : (Value.builtin "BaseException.__getattribute__" == Value.builtin "object.__getattribute__") = false := by decide +kernel
  have top : (onTheHeap (Value.ref C) && Value.builtin "BaseException.__getattribute__" == Value.builtin "object.__getattribute__") = false := by
    rw [own]
    rfl
  unfold getAttr? getAttrBy? getAttrBy
  refine wpAny_bind (wpAny_mkText (wpAny_bind (wpAny_attempt (wpAny_holding (wpAny_bind (lt.at (wpAny_bind (lg.at ?_))))))))
  show wpAny _ _ (if (onTheHeap (Value.ref C) && Value.builtin "BaseException.__getattribute__" == Value.builtin "object.__getattribute__") = true then _ else _) _ _ _
  rw [top, if_neg Bool.false_ne_true]
  unfold getAttrByItsOwn hookBefore
  refine wpAny_bind ?_
  rw [if_pos (by rfl : onTheHeap (Value.ref C) = true)]
  refine lk.at (wpAny_bind (wpAny_attempt (wpAny_holding ?_)))
  unfold callGetattribute
  rw [(by rfl : (false && onTheHeap (Value.builtin "BaseException.__getattribute__")) = false), if_neg Bool.false_ne_true]
  unfold boundAndCalled
  rw [PySem.F.excAttr_ValueError.ga.bind (.ref x)]
  refine wpAny_bind (wpAny_pure ?_)
  show wpAny _ _ (call (.builtin "BaseException.__getattribute__") [.ref x, .str "__class__" toks]) _ _ _
  refine wpAny_call (codeAny_call_builtin PySem.F.excAttr_ValueError.ga.plain PySem.F.entry_bexc_ga ?_)
  refine @PySem.W.check_slot (model prog w) _ _ ⟨hp, gens, drawn, toks + 1, os⟩ "BaseException.__getattribute__" "BaseException" "__getattribute__" (.ref x) [.str "__class__" toks] [] _ (by decide +kernel) (by decide +kernel) isE (PySem.F.args_bexc_ga (.ref x) (.str "__class__" toks)) ?_
  unfold Builtin.«object.__getattribute__»
  refine wpAny_bind (wpAny_of_eq (a := ((Value.ref x : Value), [Value.str "__class__" toks])) (by first | rfl | (simp only [slotArgs]; rfl)) ?_)
  refine wpAny_bind (wpAny_pure (wpAny_bind (lt.at (wpAny_bind (lf.at ?_)))))
  show wpAny _ _ (holding [Value.builtin "object.__class__"] (call (.builtin "getset_descriptor.__get__") [.builtin "object.__class__", .ref x, .ref C]) >>= ret) _ _ _
  refine wpAny_bind (wpAny_holding (wpAny_call (PySem.W.class_get (s := ⟨hp, gens, drawn, toks + 1, os⟩) (ox := ox) (od := od) kin I T.hm ?_)))
  refine wpAny_pure ?_
  show wpAny _ _ (handedOut (.ref C)) _ _ _
  rw [PySem.W.handedOut_of (v := .ref C) rfl]
  first
    | exact wpAny_pure (wpAny_pure q)
    | exact wpAny_pure q
    | exact wpAny_pure (wpAny_bind (wpAny_pure (wpAny_pure q)))
theorem asks (T : ExcC K C) : PySem.W.KitX K (.ref x) (.ref C) (fun h => ∃ od, PySem.W.InstAt h x ox C od) where
  ty := fun _ _ _ ⟨_, I⟩ => I.type
  it := fun _ _ kin _ => by
    obtain ⟨cd, hc, _⟩ := PySem.W.any_some T.hd
    unfold PySem.W.clsIn at hc
    split at hc
    · rename_i ho
      intro A' Q' E' s' k q
      unfold isType loadHead
      exact wpAny_bind (wpAny_loadPart (k _ _ (kin _ _ ho)) (wpAny_pure q))
    · cases hc
  ne := fun h tp dd its n sl kin htp => by
    obtain ⟨cd, hc, _⟩ := PySem.W.any_some T.hd
    refine Bool.eq_false_iff.mpr fun z => ?_
    have e := Value.ref.inj (beq_iff_eq.mp z)
    subst e
    unfold PySem.W.clsIn at hc
    split at hc
    · rename_i ho
      have := (kin _ _ ho).symm.trans htp
      cases this
    · cases hc
  ca := fun kin ⟨_, I⟩ q => ask_cls T kin I q
end
/-! ### by the pin: isinstance, fields -/
section
variable {X : Cx} {p : Addr × Obj} {C : Addr} {d : Option Addr}
/-- the pinned exception as an instance: its dict by the abstract one -/
theorem pin_inst {pins : List (Addr × Obj)} {σ : L2.St} {H : Hp} {s : Shared} (I : Inv X pins σ H s) (hp : p ∈ X.pn) (hz : Zc (.ref C) d p.2) (hf : ∃ vs, p.2.data = .fields vs) (hd : ∀ dd, d = some dd → ∃ fs, H dd = some (.xd fs)) :
    ∃ od, PySem.W.InstAt s.heap p.1 p.2 C od := by
  obtain ⟨h1, h2⟩ := hz
  obtain ⟨vs, h3⟩ := hf
  have h4 := (I.pin p (List.mem_append_left _ hp)).1
  have h5 : PySem.W.notCls p.2 = true := by
    unfold PySem.W.notCls
    rw [h3] <;> rfl
  cases d with
  | none => exact ⟨none, h4, h1, h5, by rw [h2]; trivial⟩
  | some dd =>
    obtain ⟨fs, e⟩ := hd dd rfl
    have hx : ObjOk X.prog X.w H s.heap dd (.xd fs) := I.hok dd _ e
    obtain ⟨mA, hns, _⟩ := hx
    obtain ⟨od, ho, _⟩ := lookIn_ns hns
    exact ⟨some od, h4, h1, h5, by rw [h2]; exact ho⟩
def rIsP (K : PySem.W.Frag) (a : Addr) (cls : Value) (d : Option Addr) : List V → Hp → VK → Prop := fun xs H Q => ∃ (c : V) (cv : Value) (C : Addr) (b : Bool), xs = [.ref a, c] ∧ cls = .ref C ∧ ExcC K C ∧ (∀ dd, d = some dd → ∃ fs, H dd = some (.xd fs)) ∧ (∀ u, RelV c u → u = cv) ∧ PySem.W.kitOne K (.ref C) cv = some b ∧ Q (.bl b) H
variable {a : Addr} {oe : Obj} {cls : Value}
theorem call_isP (hp : (a, oe) ∈ X.pn) (hz : Zc cls d oe) (hf : ∃ vs, oe.data = .fields vs) : CallR X (.builtin "isinstance") (rIsP X.K a cls d) := by
  rintro pins s σ H xs us Q I r ⟨c, cv, C, b, rfl, rfl, T, hd, hc, e, q⟩
  obtain ⟨u1, u2, rfl, r1, r2⟩ := r.two
  cases (show u1 = Value.ref a from r1)
  cases hc _ r2
  obtain ⟨od, J⟩ := pin_inst I hp hz hf hd
  exact PySem.W.kia_one (asks T) I.kIn ⟨od, J⟩ e (fun z => nomatch z) fun tk => ⟨.bl b, H, I.tok _, rfl, q⟩
theorem xcp_dict {K : PySem.W.Frag} {B : Hp} {L : List Addr} {Z : Zs} {M : Mem} {H : Hp} (S : StM K B L Z M H) {a : Addr} {d : Option Addr} {ns : List Str} {fs : List D} {v : V} (r : RepV K B L (.d (.xcp a d ns fs)) v) : v = .ref a ∧ ∀ dd, d = some dd → ∃ gs, H dd = some (.xd gs) := by
  unfold RepV Rep at r
  obtain ⟨rfl, r⟩ := r
  refine ⟨rfl, fun dd e => ?_⟩
  rcases r with ⟨r, _⟩ | ⟨d2, gs, r, g, _⟩
  · rw [r] at e
    cases e
  · rw [r] at e
    cases e
    exact ⟨gs, S.sub.eq g⟩
/-- isinstance(e, C) of the exception that is pinned -/
def oIsP (K : PySem.W.Frag) (a : Addr) (cls : Value) (d : Option Addr) : CT := fun ds M P => match ds with
  | [.d (.xcp a' d' _ _), .d (.ref c)] => (a' = a ∧ d' = d) ∧ ∃ C b, cls = .ref C ∧ ExcC K C ∧ PySem.W.kitOne K (.ref C) (.ref c) = some b ∧ P (.d (.bl b)) M
  | _ => False
theorem dc_isP (K : PySem.W.Frag) (hp : (a, oe) ∈ X.pn) (hz : Zc cls d oe) (hf : ∃ vs, oe.data = .fields vs) (hK : X.K = K := by rfl) : DC X (.builtin "isinstance") (oIsP K a cls d) where
  run := fun {ds M P} h {vs B L Z H} S rs {Q} q => by
    subst hK
    unfold oIsP at h
    split at h
    · obtain ⟨⟨rfl, rfl⟩, C, b, rfl, T, hk, hP⟩ := h
      obtain ⟨v, w, rfl, r1, r2⟩ := two_v rs
      cases rv_ref.mp r2
      obtain ⟨rfl, hd⟩ := xcp_dict S r1
      exact callS (call_isP hp hz hf) ⟨_, _, C, b, rfl, rfl, T, hd, fun u r => r, hk, q.here S hP (rv_bl.mpr rfl)⟩
    · exact h.elim
/-- isinstance(e, T), T a built-in class -/
def tIsPT (K : PySem.W.Frag) (a : Addr) (cls : Value) (d : Option Addr) (T : String) (fe : ET) : ET := fun ρ M P x => fe ρ M (fun v M1 => match v with
  | .d (.xcp a' d' _ _) => (a' = a ∧ d' = d) ∧ ∃ C b, cls = .ref C ∧ ExcC K C ∧ PySem.W.kitOne K (.ref C) (.type T) = some b ∧ P (.d (.bl b)) M1
  | _ => False) x
theorem de_isPT {e : Expr} {fe : ET} {pos q1 q2 : Pos} (K : PySem.W.Frag) (T : String) {x1 : Str} (hp : (a, oe) ∈ X.pn) (hz : Zc cls d oe) (hf : ∃ vs, oe.data = .fields vs) (hm : X.mg "isinstance" = none) (h1 : X.mg x1 = none) (v1 : bootBuiltins x1 = some (.type T)) (he : DE X e fe)
    (hg : Gl X "isinstance" := by rfl) (g1 : Gl X x1 := by rfl) (n1 : x1 ≠ "__name__" := by decide) (d1 : (x1 == ("__debug__" : Str)) = false := by decide)
    (hs : starEach (e :: [.Name x1 q2]) X.env = (false, eval e X.env) :: starEach [.Name x1 q2] X.env := by rfl) (hpl : (backTo pos (starEach [.Name x1 q2] X.env)).any (·.1) = false := by rfl)
    (hs2 : starEach [.Name x1 q2] X.env = (false, eval (.Name x1 q2) X.env) :: starEach [] X.env := by rfl) (hK : X.K = K := by rfl) : DE X (.Call (.Name "isinstance" q1) [e, .Name x1 q2] [] pos) (tIsPT K a cls d T fe) where
  run := fun {ρ M P x} h {σ H B L Z} S E xk {Q} q => by
    subst hK
    refine PE.s (pe_callB (call_isP hp hz hf) hg hm PyProof.Rows.boot_isinstance (pa_cons pe_s (pa_cons (pe_bltn (v := .ty T) g1 h1 v1 rfl n1 d1) pa_nil hs2) hs) (by decide) (by decide) hs hpl) ?_
    refine he.run h S E xk fun v M1 u B1 L1 H1 h1 e1 S1 r1 => ?_
    dsimp only at h1
    split at h1
    · obtain ⟨⟨rfl, rfl⟩, C, b, rfl, T, hk, hP⟩ := h1
      obtain ⟨rfl, hd⟩ := xcp_dict S1 r1
      exact ⟨_, _, C, b, rfl, rfl, T, hd, fun u r => r, hk, q _ _ _ _ _ _ hP e1 S1 (rv_bl.mpr rfl)⟩
    · exact h1.elim
/-- e.f of the exception that is pinned -/
def tXfP (K : PySem.W.Frag) (a : Addr) (cls : Value) (d : Option Addr) (f : Str) (fe : ET) : ET := fun ρ M P x => fe ρ M (fun v M1 => match v with
  | .d (.xcp a' d' ns fs) => (a' = a ∧ d' = d) ∧ ∃ C, cls = .ref C ∧ XfC K C ∧ PySem.W.findIn K (.ref C) f = some none ∧ (match (ns.zip fs).lookup f with
    | some y => P (.d y) M1
    | none => False)
  | _ => False) x
theorem de_xfP {e : Expr} {fe : ET} {pos : Pos} {f : Str} (K : PySem.W.Frag) (hp : (a, oe) ∈ X.pn) (hz : Zc cls d oe) (hf : ∃ vs, oe.data = .fields vs) (he : DE X e fe) (hb : attributeBase e f X.env (eval e X.env) = eval e X.env := by rfl) (hK : X.K = K := by rfl) : DE X (.Attribute e f pos) (tXfP K a cls d f fe) where
  run := fun {ρ M P x} h {σ H B L Z} S E x1 {Q} q => by
    subst hK
    intro pins s I
    refine attr_of hb (thn (he.run h S E x1 (Q := fun u H1 => ∃ C dd gs y, u = .ref a ∧ cls = .ref C ∧ XfC X.K C ∧ PySem.W.findIn X.K (.ref C) f = some none ∧ d = some dd ∧ H1 dd = some (.xd gs) ∧ gs.lookup f = some y ∧ Q y H1) (fun v M1 u B1 L1 H1 h1 e1 S1 r1 => ?_) pins s I) fun u s1 hh => ?_)
    · dsimp only at h1
      split at h1
      · obtain ⟨⟨rfl, rfl⟩, C, rfl, T, hno, h2⟩ := h1
        split at h2
        · rename_i y hy
          unfold RepV Rep at r1
          obtain ⟨rfl, r1 | ⟨dd, gs, g1, g2, g3, g4⟩⟩ := r1
          · obtain ⟨_, rfl, rfl⟩ := r1
            simp at hy
          · obtain ⟨v, l1, l2⟩ := lookup_rel g3 g4 hy
            exact ⟨C, dd, gs, v, rfl, rfl, T, hno, g1, S1.sub.eq g2, l1, q _ _ _ _ _ _ h2 e1 S1 l2⟩
        · exact h2.elim
      · exact h1.elim
    · obtain ⟨x, H1, I1, rx, C, dd, gs, y, rfl, rfl, T, hno, rfl, ea, l, qq⟩ := hh
      cases (show u = Value.ref a from rx)
      obtain ⟨h1, h2⟩ := hz
      obtain ⟨vs, h3⟩ := hf
      have hx : ObjOk X.prog X.w H1 s1.heap dd (.xd gs) := I1.hok dd _ ea
      obtain ⟨mA, hns, hr⟩ := hx
      obtain ⟨od, ho, hl⟩ := lookIn_ns hns
      obtain ⟨u, hu, ru⟩ := RelO.some_of (v := y) (o := mA f) (by rw [← l]; exact hr f)
      have J : PySem.W.InstAt s1.heap a oe C (some od) := ⟨(I1.pin (a, oe) (List.mem_append_left _ hp)).1, h1, by unfold PySem.W.notCls; rw [h3] <;> rfl, by rw [h2]; exact ho⟩
      exact HandSPX.exc_get I1.kIn J T.ga T.gg T.exC (PySem.W.findObj_own T.hdC hno rfl (by rw [hl, hu])) (handed_of ru) ⟨y, H1, I1.tok _, ru, qq⟩
end
/-! ### defs called while it is handled -/
section
variable (P : Program) (w : World) (K : PySem.W.Frag) (mg : Str → Option Value) (base : Heap)
def UpH (K : PySem.W.Frag) (dsp : DSp) (vs : List V) (H : Hp) (Q : VK) : Prop := ∃ B L Z ds M P x, StM K B L Z M H ∧ RepVs K B L ds vs ∧ dsp ds M P x ∧ ∀ d M' v B' L' H', P d M' → Ext B L B' L' → StM K B' L' Z M' H' → RepV K B' L' d v → Q v H'
structure FnP (k : Nat) (f : Addr) (fd : FuncData) (ps : List Str) (dsp : Addr → Value → Option Addr → DSp) : Prop where
  len : ∀ a cls d ds M P x, dsp a cls d ds M P x → ds.length = ps.length
  run : ∀ (A : Around) (outer : List PySem.Env) (s : Shared) (H : Hp) (args : Args) (us : List Value) (vs : List V) (Q : VK) (p : Addr × Obj), L2H.RoomH k A → L2H.Hot1 A p → L2H.PinOk outer H s p → Env0 P w K mg base A outer s H → BindsTo s fd args (ps.zip us) → Vals vs us →
    UpH K (dsp p.1 p.2.cls p.2.dict) vs H Q → codeAny (model P w) A (.call (.ref f) args) (CR (L2.CX P w) outer P w H s Q (fun _ _ _ => False)) s
structure CalleeH (x : Str) (k : Nat) (ps : List Str) (dsp : Addr → Value → Option Addr → DSp) : Prop where
  ex : ∃ f fd, mg x = some (.ref f) ∧ PySem.W.keepIn K (.ref f) = true ∧ Binds K fd ps [] ∧ FnP P w K mg base k f fd ps dsp
end
section
variable {P : Program} {w : World} {K : PySem.W.Frag} {mg : Str → Option Value} {base : Heap}
theorem calleeH_dl {x : Str} {st : Stmt} {N ps : List Str} {k : Nat} {dsp : Addr → Value → Option Addr → DSp} (F : FunG K mg x st ps) (S : FnScope N ps (defScope st)) (len : ∀ a cls d ds M P x, dsp a cls d ds M P x → ds.length = ps.length)
    (hbody : ∀ (f : Addr) (cdv : Value) (A : Around) (outer : List PySem.Env) (s : Shared) (H : Hp) (E : XK) (p : Addr × Obj), L2H.Hot1 A p → L2H.RoomH k (A.deeper (envOfC x (defScope st) s.heap.objs.size f cdv)) →
      ∃ t, DSs (L2H.cxH (L2.CX P w) P w K mg base N x (defScope st) f cdv A outer s H E p) (defBody st) t ∧ ∀ ds M P x, dsp p.1 p.2.cls p.2.dict ds M P x → t (ends P (fun _ _ _ => False)) (startD N ds) M) : CalleeH P w K mg base x (k + 1) ps dsp := by
  obtain ⟨f, fd, F, hm, hb⟩ := F.ex
  refine ⟨f, fd, hm, F.kp, hb, ?_⟩
  obtain ⟨oc, od, kV, doc, pm, an, cdv, ct, osl, rfl, lk, hcd⟩ := F.ex
  refine ⟨len, fun A outer s H args us vs Q p hr hot hpin e0 hbd r hsp => ?_⟩
  have kin : K.In s.heap := e0.mod.kin.keeps fun b o e => (e0.bs b o e).1
  have lim : s.heap.NoLimit := e0.mod.nolimit.keeps fun b o e => (e0.bs b o e).1
  have vl : vs.length = ps.length := by
    obtain ⟨B, L, Z, ds, M, P', x', _, r1, h1, _⟩ := hsp
    rw [← r1.len]
    exact len _ _ _ _ _ _ _ h1
  have kinds : ∀ y ∈ ps.zip us, (defScope st).names.lookup y.1 = some .local ∨ ((defScope st).names.lookup y.1 = some .cell ∧ ((cellsFrom (s.heap.objs.size + 1) (defScope st).names []).lookup y.1).isSome = true) := fun y hy => by
    obtain ⟨n, v⟩ := y
    refine (S.par n (List.of_mem_zip hy).1).imp id fun q => ⟨q, PySem.W.cellsFrom_some _ _ _ (.inl q)⟩
  refine codeAny_call_function hr.depth (kin _ _ lk) rfl S.co S.gen rfl (PySem.W.codeRec_of kin hcd) (hbd _ _ _ _ ?_)
  refine wpAny_newFunctionEnv_cells S.kind kinds fun env he s1 start => ?_
  subst he
  refine ⟨lim.keeps start.toInCall.keep, codeAny_func ?_⟩
  obtain ⟨t, ht, hd⟩ := hbody f cdv A outer s H (fun _ _ _ => False) p hot (hr.deeper _)
  have I : Inv (L2H.cxH (L2.CX P w) P w K mg base N x (defScope st) f cdv A outer s H (fun _ _ _ => False) p) [] (L2.start N vs) H s1 := L2H.inv_startH S hpin e0 vl r start
  obtain ⟨B, L, Z, ds, M, P', x', S1, r1, h1, hP⟩ := hsp
  have ran : sSs (L2H.cxH (L2.CX P w) P w K mg base N x (defScope st) f cdv A outer s H (fun _ _ _ => False) p) (defBody st) { nx := fun _ H' => Q .non H', rt := Q } (L2.start N vs) H :=
    ht.run (hd _ _ _ _ h1) S1 (start_env r1) ⟨fun ρ' M' B' L' σ' H' a b c d => hP _ _ _ _ _ _ a b c (by simp only [RepV, Rep]), hP, fun _ _ _ _ _ _ a => a.elim, fun _ _ _ _ _ _ a => a.elim, ⟨_, takes0, fun _ _ _ _ _ _ _ _ _ z => z.elim⟩⟩
  refine wpAny_mono (ran [] s1 I) (fun fl s' out => ?_) fun e s' out => out
  match fl, out with
  | .brk, ⟨_, _, _, q⟩ => exact q.elim
  | .cont, ⟨_, _, _, q⟩ => exact q.elim
  | .next, ⟨σ', H', J, q⟩ => exact ⟨.non, H', J.os, J.bare, J.base, J.hok, rfl, q⟩
  | .ret u, ⟨v, σ', H', J, rv, q⟩ => exact ⟨v, H', J.os, J.bare, J.base, J.hok, rv, q⟩
end
section
variable {X : Cx} {x : Str} {q1 pos : Pos} {e : Expr} {es : List Expr} {fas : AT} {k : Nat} {ps : List Str} {dsp : Addr → Value → Option Addr → DSp} {a : Addr} {oe : Obj} {cls : Value} {d : Option Addr}
theorem de_callH (C : CalleeH X.prog X.w X.K X.mg X.base x k ps dsp) (hr : L2H.RoomH k X.A) (hp : (a, oe) ∈ X.pn) (hz : Zc cls d oe) (hot : L2H.Hot1 X.A (a, oe)) (ha : DA X (e :: es) fas) (hg : Gl X x := by rfl) (hdb : (x == ("__debug__" : Str)) = false := by decide)
    (he : starEach (e :: es) X.env = (false, eval e X.env) :: starEach es X.env := by rfl) (hpl : (backTo pos (starEach es X.env)).any (·.1) = false := by rfl) : DE X (.Call (.Name x q1) (e :: es) [] pos) (tCallN (dsp a cls d) fas) where
  run := fun {ρ M P x'} h {σ H B L Z} S E x1 {Q} q => by
    obtain ⟨f, fd, hm, hk, hb, Fn⟩ := C.ex
    obtain ⟨rfl, rfl⟩ := hz
    intro pins s I
    refine wpAny_Call_Name_kw (ld_glob I hg hm ?_ hdb)
    refine PySem.W.callWith_K (h₀ := X.base) I.ok.mod.kin hk (thn (pa_s.run pos pins s σ H (fun vs H1 => UpH X.K (dsp a oe.cls oe.dict) vs H1 Q) I (ha.run h S E x1 fun xs M1 vs B1 L1 H1 h1 e1 S1 r1 => ?_)) fun us s1 ⟨vs, H1, I1, r, hsp⟩ => ⟨I1.kIn, ?_⟩) he hpl
    · exact ⟨B1, L1, Z, xs, M1, P, x', S1, r1, h1, fun d M' v B' L' H' a b c r => q _ _ _ _ _ _ a (e1.trans b) c r⟩
    · have hl : us.length = ps.length := by
        obtain ⟨B, L, Z, ds, M, P', x'', _, r1, h1, _⟩ := hsp
        rw [← r.length, ← r1.len]
        exact Fn.len _ _ _ _ _ _ _ h1
      have b := hb s1 us I1.kIn (by rw [List.append_nil]; exact hl)
      rw [List.append_nil] at b
      have pin := I1.pin (a, oe) (List.mem_append_left _ hp)
      have pok : L2H.PinOk X.stack H1 s1 (a, oe) := ⟨pin.1, pin.2.1, fun hm => (List.mem_cons.mp (I1.stkSub a hm)).elim pin.2.2.1 pin.2.2.2.1, pin.2.2.2.2⟩
      refine wpAny_call (codeAny_mono (Fn.run X.A X.stack s1 H1 ⟨us, []⟩ us vs Q (a, oe) hr hot pok I1.env0 b r hsp) fun out s' got => ?_)
      match out, got with
      | .ok (.ret u), got => exact I1.after got
      | .ok .next, got => exact got.elim
      | .ok .brk, got => exact got.elim
      | .ok .cont, got => exact got.elim
      | .error _, got =>
        obtain ⟨_, _, _, _, _, _, _, _, _, _, _, _, z⟩ := got
        exact z.elim
end
/-! ### a list comprehension while it is handled -/
section
variable {X : Cx}
/-- the same with one more pin in the context -/
abbrev pnd (Y : Cx) (p : Addr × Obj) : Cx := { Y with pn := [p] }
theorem to_pnd {Y : Cx} {p : Addr × Obj} {ps : List (Addr × Obj)} {σ : L2.St} {H : Hp} {s : Shared} (e : Y.pn = []) (I : Inv Y (p :: ps) σ H s) : Inv (pnd Y p) ps σ H s :=
  ⟨⟨I.ok.mod, I.ok.kind, I.ok.glob, I.ok.blt, I.ok.above, I.ok.inj, I.ok.has, I.ok.cab, I.ok.hd, I.ok.frames, I.ok.stk, I.ok.exf, I.ok.bs, I.ok.bsz, I.ok.noex, I.ok.exfs, I.ok.funs, I.ok.frf⟩, I.os, I.bare, I.base, I.loc, I.cell, I.free, I.freeC, fun q hq => I.pin q (by rw [e]; exact hq), I.hok, I.len⟩
theorem of_pnd {Y : Cx} {p : Addr × Obj} {ps : List (Addr × Obj)} {σ : L2.St} {H : Hp} {s : Shared} (e : Y.pn = []) (I : Inv (pnd Y p) ps σ H s) : Inv Y (p :: ps) σ H s :=
  ⟨⟨I.ok.mod, I.ok.kind, I.ok.glob, I.ok.blt, I.ok.above, I.ok.inj, I.ok.has, I.ok.cab, I.ok.hd, I.ok.frames, I.ok.stk, I.ok.exf, I.ok.bs, I.ok.bsz, I.ok.noex, I.ok.exfs, I.ok.funs, I.ok.frf⟩, I.os, I.bare, I.base, I.loc, I.cell, I.free, I.freeC, fun q hq => I.pin q (by rw [e] at hq; exact hq), I.hok, I.len⟩
theorem lcH_core {pins : List (Addr × Obj)} {s : Shared} {σ : L2.St} {H : Hp} {Q : VK} {elt tg iter : Expr} {ifs : List Expr} {scope : Scope} {own : List (Str × Nat)} {pos pos' : Pos} {wi : L2.TI} {g : L2.TG} {tt : L2.TT} {te : L2.TE}
    {use : Option (Value → Sem Unit)} {Qf : Value → Shared → Prop} {p : Addr × Obj} (hp : p ∈ X.pn) (hot : L2H.Hot1 X.A p) (hN : X.N.Nodup) (I : Inv X pins σ H s) (hi : L2H.PIH X tg iter wi) (ok : BlkOk X.N X.env.scope scope own)
    (hg : ∀ s H C cl fp, PG (X.blk s H scope (compEnvC scope cl C X.env) fp) tg g) (ht : ∀ s H C cl fp, PTs (X.blk s H scope (compEnvC scope cl C X.env) fp) ifs tt) (he : ∀ s H C cl fp, PE (X.blk s H scope (compEnvC scope cl C X.env) fp) elt te)
    (hs : ∀ x, foldedSetIterable iter X.env x = pure x) (h : L2.tLc wi g tt te (own.map (·.2)) σ H Q)
    (hRR : ∀ D C s' m H', Inv X pins σ H' s' → Q (.ref D) H' → s'.heap.Ns C m → FpOk X pins H' C → compPost (model X.prog X.w) X.A X.xe use Qf (.ref D) C (.ok .next) s') :
    wpAny (model X.prog X.w) X.A (comprehension (.ListComp elt [⟨tg, iter, ifs, 0⟩] scope pos) scope X.env pos' (newList []) false (eval iter X.env) use) Qf X.xe s := by
  have fre : ∀ y ∈ scope.names, y.2 = .free → ∃ c, X.env.cells.lookup y.1 = some c := fun y hy e => (ok.free y hy e).elim (fun k => I.ok.has _ (.inl k)) fun k => I.ok.has _ (.inr k)
  refine wpAny_comprehension_free (use := use) rfl hs (closure_ok fre) ok.kind (fun y hy e => by rw [ok.uniq y hy, e]) ?_
  refine thn (hi.run pins s σ H _ I h) fun xv s1 hx => thn hx fun itv s2 h2 => ?_
  obtain ⟨it, fp, tn, J, H2, rfl, I2, T, st2, f2, q⟩ := h2
  refine wpAny_newObj_type (newEnv_comp ?_) (by show 0 ≤ sizeLine; decide)
  generalize hD : s2.heap.objs.size = D
  obtain ⟨Wt, ⟨m0, w0⟩, turn⟩ := q D (I2.hok.fresh (Nat.le_of_eq hD))
  generalize hs3 : ({ s2 with heap := s2.heap.push { cls := .type "list", data := .seq ([] : List Value).toArray } } : Shared) = s3
  have h3 : s3.heap = s2.heap.push { cls := .type "list", data := .seq ([] : List Value).toArray } := by rw [← hs3]
  have I3 : Inv X pins σ (upd H2 D (.lst [])) s3 := by
    rw [← hs3]
    refine I2.laid (t' := s2.toks) (fun b o e => Heap.get?_push_of_some _ e) (Nat.le_of_eq hD) ⟨Nat.zero_le _, [], 0, .nil, ?_⟩
    rw [← hD]
    exact Heap.get?_push_size _ rfl
  have lt2 : ∀ b ∈ fp, b < s2.heap.objs.size := fun b hb => by
    obtain ⟨o, e, _⟩ := T.obj _ _ st2 b hb
    exact Heap.lt_size e
  have f3 : ∀ b ∈ fp, FpOk X pins (upd H2 D (.lst [])) b ∧ b < s3.heap.objs.size := fun b hb => by
    have h1 := lt2 b hb
    have h2 : b ≠ D := by
      rw [← hD]
      exact Nat.ne_of_lt h1
    refine ⟨⟨by rw [upd_ne h2]; exact (f2 b hb).1, (f2 b hb).2⟩, ?_⟩
    rw [h3, Heap.size_push]
    exact Nat.lt_succ_of_lt h1
  have st3 : tn 0 s3.heap := T.keep _ _ _ st2 fun b _ o e => by
    rw [h3]
    exact Heap.get?_push_of_some _ e
  have I4 := block_start I3 ok hN f3
  generalize hcl : cellsFrom (s3.heap.objs.size + 1) scope.names (cloFrom X.env.cells scope.names []) = cl at I4 ⊢
  show codeAny _ _ (.compStart (.ListComp elt [⟨tg, iter, ifs, 0⟩] scope pos) 0 (.ref it) (.ref D) (compEnvC scope cl s3.heap.objs.size X.env)) (compPost (model X.prog X.w) X.A X.xe use Qf (.ref D) s3.heap.objs.size) { s3 with heap := pushCells (s3.heap.push { cls := .type "dict", data := .dict #[] }) scope.names }
  generalize hH3 : upd H2 D (.lst []) = H3 at I3 I4 w0 f3
  have kept4 : ∀ b o, s3.heap.get? b = some o → (pushCells (s3.heap.push { cls := .type "dict", data := .dict #[] }) scope.names).get? b = some o := fun b o e => pushCells_keeps _ _ _ _ (Heap.get?_push_of_some _ e)
  generalize hs4 : ({ s3 with heap := pushCells (s3.heap.push { cls := .type "dict", data := .dict #[] }) scope.names } : Shared) = s4 at I4 ⊢
  have kept4 : ∀ b o, s3.heap.get? b = some o → s4.heap.get? b = some o := fun b o e => by
    rw [← hs4]
    exact kept4 b o e
  have pg := hg s3 H3 s3.heap.objs.size cl fp
  have pt := ht s3 H3 s3.heap.objs.size cl fp
  have pe := he s3 H3 s3.heap.objs.size cl fp
  have st4 : tn 0 s4.heap := T.keep _ _ _ st3 fun b _ o e => kept4 b o e
  have cL : (compEnvC scope cl s3.heap.objs.size X.env).locals = s3.heap.objs.size := rfl
  generalize hce : compEnvC scope cl s3.heap.objs.size X.env = ce at I4 pg pt pe cL ⊢
  -- the handled exception stays pinned
  have pin3 := I3.pin p (List.mem_append_left _ hp)
  have I4p : Inv (pnd (X.blk s3 H3 scope ce fp) p) [] (wipe σ (own.map (·.2))) H3 s4 := by
    refine to_pnd rfl ⟨I4.ok, I4.os, I4.bare, I4.base, I4.loc, I4.cell, I4.free, I4.freeC, fun q hq => ?_, I4.hok, I4.len⟩
    rw [List.mem_singleton.mp hq]
    refine ⟨kept4 _ _ pin3.1, pin3.2.1, ?_, fun hm => ?_, pin3.2.2.2.2⟩
    · show p.1 ≠ ce.locals
      rw [cL]
      exact Nat.ne_of_lt (Heap.lt_size pin3.1)
    · rcases List.mem_cons.mp (I3.stkSub p.1 hm) with z | z
      · exact pin3.2.2.1 z
      · exact pin3.2.2.2.1 z
  have hotB : L2H.HotC (pnd (X.blk s3 H3 scope ce fp) p) := ⟨p, hot, List.mem_singleton.mpr rfl⟩
  have still : ∀ {σ' : L2.St} {H' : Hp} {s' : Shared}, Inv (pnd (X.blk s3 H3 scope ce fp) p) [] σ' H' s' → (∀ b ∈ fp, H' b = none) → ∀ b ∈ fp, FpOk (pnd (X.blk s3 H3 scope ce fp) p) [] H' b := fun I' hn b hb =>
    ⟨hn b hb, (I'.ok.exf b hb).1, I'.ok.exfs b hb, .inl hb, fun x c e => (I'.ok.exf b hb).2 x c e, fun q hq => by
      have e : q = p := List.mem_singleton.mp hq
      rw [e]
      exact (f3 b hb).1.2.2.2.2.2 p (List.mem_append_left _ hp)⟩
  refine codeAny_compStart_list ?_ (T.self X.A 0 _ _ _ st4 ?_) <;>
  · refine compLoop_any (fun n s' => ∃ i H', Inv (pnd (X.blk s3 H3 scope ce fp) p) [] (wipe σ (own.map (·.2))) H' s' ∧ tn i s'.heap ∧ (∀ b ∈ fp, H' b = none) ∧ Wt i n H') ?_ m0 ⟨0, H3, I4p, st4, fun b hb => (f3 b hb).1.1, w0⟩
    rintro n s5 ⟨i, H5, I5, st5, n5, w5⟩
    rcases turn i n H5 w5 with ⟨stop, qq⟩ | ⟨go, Nx, hNx, step⟩
    · have td := T.done (pnd (X.blk s3 H3 scope ce fp) p) rfl rfl rfl hotB i [] s5 _ H5 (fun _ _ => False) I5 (still I5 n5) st5 stop
      refine noE td fun r s6 ⟨hr, I6⟩ => ?_
      subst hr
      have I7 : Inv X pins σ H5 s6 := I3.call' (ch := fp) I6.os I6.base I6.hok I6.bare fun b hb => ⟨(f3 b hb).1.2.2.2.1, (f3 b hb).1.2.1, (f3 b hb).1.2.2.2.2.1, (f3 b hb).1.2.2.2.2.2⟩
      have nC : H5 s3.heap.objs.size = none := by
        rw [← cL]
        exact I6.free
      obtain ⟨m, hn, _⟩ := I6.loc
      have hn : s6.heap.Ns ce.locals m := hn
      show compPost _ _ _ use Qf (.ref D) s3.heap.objs.size (.ok .next) s6
      rw [cL] at hn
      exact hRR D s3.heap.objs.size s6 m H5 I7 qq hn (I3.fpOk (Nat.le_refl _) nC)
    · have ti := T.item (pnd (X.blk s3 H3 scope ce fp) p) rfl rfl rfl hotB i [] s5 _ H5 (fun _ _ => False) I5 (still I5 n5) st5 go
      refine noE ti fun r s6 ⟨u, hr, h6⟩ => ?_
      subst hr
      refine noE h6 fun _ s7 ⟨x, H7, I7, r7, y7, st7, n7⟩ => ?_
      have J7 := of_pnd rfl (I7.pinned (still I7 n7) (T.obj _ _ st7))
      refine noE (pg.run _ s7 _ H7 x u _ J7 r7 (step x H7 y7)) fun _ s8 ⟨σ8, H8, I8, hw8, q8⟩ => ?_
      refine noE (pt.run _ s8 σ8 H8 _ I8 q8) fun b s9 ⟨H9, I9, q9⟩ => ?_
      have fin : ∀ {s' : Shared} {H' : Hp}, Inv (X.blk s3 H3 scope ce fp) (p :: ([] ++ pinsAt fp s7.heap)) σ8 H' s' → Nx H' → ∃ m, m < n ∧ ∃ i H', Inv (pnd (X.blk s3 H3 scope ce fp) p) [] (wipe σ (own.map (·.2))) H' s' ∧ tn i s'.heap ∧ (∀ b ∈ fp, H' b = none) ∧ Wt i m H' := fun {s' H'} I' nx => by
        obtain ⟨m', hm, w'⟩ := hNx H' nx
        have I' := to_pnd rfl I'
        have pin' : ∀ b ∈ fp, ∀ o, s7.heap.get? b = some o → s'.heap.get? b = some o ∧ H' b = none := fun b hb o e => by
          have z := I'.pin (b, o) (List.mem_append_right _ (List.mem_append_right _ (mem_pinsAt hb e)))
          exact ⟨z.1, z.2.1⟩
        have hl : (wipe σ (own.map (·.2))).length = σ8.length := by rw [← hw8, wipe_length]
        refine ⟨m', hm, i + 1, H', (I'.unpinned (pins := [])).weak hl (fun j v e => ?_), T.keep _ _ _ st7 fun b hb o e => (pin' b hb o e).1, fun b hb => ?_, w'⟩
        · rw [← hw8] at e
          exact (wipe_some e).1
        · obtain ⟨o, e, _⟩ := T.obj _ _ st7 b hb
          exact (pin' b hb o e).2
      cases b with
      | false =>
        simp only [Bool.false_eq_true, if_false] at q9 ⊢
        exact fin I9 q9
      | true =>
        simp only [if_true] at q9 ⊢
        refine noE (pe.run _ s9 σ8 H9 _ I9 q9) fun z s10 ⟨yv, H10, I10, r10, acc, hD10, hz10, nx⟩ => ?_
        exact app_ok (X := X.blk s3 H3 scope ce fp) I10 hD10 hz10 r10 fun s11 I11 => fin I11 nx
end
section
variable {X : Cx} {elt tg iter : Expr} {ifs : List Expr} {scope : Scope} {own : List (Str × Nat)} {pos : Pos} {fi : IT} {g : GT} {tt : TT} {fe : ET} {p : Addr × Obj}
/-- lc_reading for any way to walk -/
theorem lcW_reading {wi : L2.TI} (hi : ∀ {ρ M R x}, fi ρ M R x → ∀ {σ H B L Z}, StM X.K B L Z M H → EnvR X.K B L σ ρ → XOk X B L Z σ x → ∀ {RR : It → Hp → Prop},
      (∀ xs still M' B' L' H' J, R xs still M' → Ext B L B' L' → StM X.K B' L' Z M' H' → Itd X Z J xs still B' L' → RR J H') → wi σ H RR)
    (hg : ∀ (s : Shared) (H : Hp) (C : Addr) (cl : List (Str × Addr)) (fp : List Addr), DGw (X.blk s H scope (compEnvC scope cl C X.env) fp) tg (own.map (·.2)) g) (ht : ∀ (s : Shared) (H : Hp) (C : Addr) (cl : List (Str × Addr)) (fp : List Addr), DTs (X.blk s H scope (compEnvC scope cl C X.env) fp) ifs tt)
    (he : ∀ (s : Shared) (H : Hp) (C : Addr) (cl : List (Str × Addr)) (fp : List Addr), DE (X.blk s H scope (compEnvC scope cl C X.env) fp) elt fe)
    {ρ : Rh} {M : Mem} {x : XPost} {Fin : List DV → Mem → Prop} (h : tLcG fi g tt fe (own.map (·.2)) Fin ρ M x) {σ : L2.St} {H B : Hp} {L : List Addr} {Z : Zs} (S : StM X.K B L Z M H) (V : EnvR X.K B L σ ρ) (x1 : XOk X B L Z σ x) {Q : VK}
    (q : ∀ acc M' D accV B' L' H', Fin acc M' → Ext B L B' L' → StM X.K B' L' ((D, .lst accV) :: Z) M' H' → (∀ q ∈ Z, q.1 ≠ D) → RepVs X.K B' L' acc accV → Q (.ref D) H') :
    L2.tLc wi (blkG X scope tg) (blkT X scope ifs) (blkE X scope elt) (own.map (·.2)) σ H Q := by
  have nox : ∀ s0 H0 C cl fp B L Z σ, XOk (X.blk s0 H0 scope (compEnvC scope cl C X.env) fp) B L Z σ (fun _ _ _ => False) := fun _ _ _ _ _ _ _ _ _ => ⟨fun _ _ _ _ => False, takes0, fun _ _ _ _ _ _ _ h => h.elim⟩
  refine hi h S V x1 fun xs still M1 B1 L1 H1 J hR e1 S1 it => ?_
  obtain ⟨I, h0, hs, hd⟩ := hR
  intro D hD
  have hZ := S1.zne hD
  refine ⟨fun i m H' => i + m = xs.length ∧ ∃ acc accV M' B' L', I i acc M' ∧ Ext B1 L1 B' L' ∧ StM X.K B' L' ((D, .lst accV) :: Z) M' H' ∧ RepVs X.K B' L' acc accV, ⟨xs.length, by omega, [], [], M1, B1, L1, h0, Ext.refl _ _, S1.newZ hD, trivial⟩, ?_⟩
  rintro i m H' ⟨hm, acc, accV, M', B', L', hI, e2, S2, r2⟩
  by_cases hl : i < xs.length
  · obtain ⟨y, hy⟩ : ∃ y, xs[i]? = some y := ⟨xs[i], List.getElem?_eq_getElem hl⟩
    obtain ⟨st, hg'⟩ := hs i y acc M' hy hI
    obtain ⟨go, yl⟩ := it.go i y M' B' L' [(D, .lst accV)] H' hy st e2 S2
    refine .inr ⟨go, fun H2 => ∃ m', m' < m ∧ (i + 1) + m' = xs.length ∧ ∃ acc accV M' B' L', I (i + 1) acc M' ∧ Ext B1 L1 B' L' ∧ StM X.K B' L' ((D, .lst accV) :: Z) M' H2 ∧ RepVs X.K B' L' acc accV, fun _ ⟨m', a, b⟩ => ⟨m', a, b⟩, fun v H'' hy' s0 H0 C cl fp => ?_⟩
    obtain ⟨B'', e3, S3, r3⟩ := yl v H'' hy'
    refine (hg s0 H0 C cl fp).run hg' S3 ((V.mono ((e1.trans e2).trans e3)).wipe _) r3 fun ρ2 M2 B2 L2 σ2 H2 h2 e4 S4 V4 w4 => ?_
    refine ⟨w4.trans (wipe_idem _ _), fun s0 H0 C cl fp => ?_⟩
    refine (ht s0 H0 C cl fp).run h2 S4 V4 (nox ..) fun b M3 B3 L3 H3 h3 e5 S5 => ?_
    cases b with
    | false => exact ⟨m - 1, by omega, by omega, acc, accV, M3, B3, L3, (h3.2 rfl), ((e2.trans e3).trans e4).trans e5, S5, r2.mono ((e3.trans e4).trans e5)⟩
    | true =>
      intro s0 H0 C cl fp
      refine (he s0 H0 C cl fp).run (h3.1 rfl) S5 (V4.mono e5) (nox ..) fun d M4 v4 B4 L4 H4 h4 e6 S6 r6 => ?_
      have r7 := (r2.mono (((e3.trans e4).trans e5).trans e6))
      refine ⟨accV, S6.zAt, by rw [← r2.len]; exact size_lt h4.1, m - 1, by omega, by omega, acc ++ [d], accV ++ [v4], M4, B4, L4, h4.2, (((e2.trans e3).trans e4).trans e5).trans e6, S6.putZ rfl hZ, r7.app ⟨r6, trivial⟩⟩
  · have hi' : i = xs.length := by omega
    subst hi'
    obtain ⟨st, hf⟩ := hd acc M' hI
    exact .inl ⟨it.stop _ M' B' L' [(D, .lst accV)] H' (Nat.le_refl _) st e2 S2, q acc M' D accV B' L' H' hf (e1.trans e2) S2 hZ r2⟩
def sIH (X : Cx) (tg iter : Expr) : L2.TI := fun σ H R => ∀ pins s, Inv X pins σ H s → wpAny (model X.prog X.w) X.A (eval iter X.env) (fun v s1 => wpAny (model X.prog X.w) X.A (pyIter v) (L2H.PIEH X pins σ tg R) X.xe s1) X.xe s
theorem pih_s : L2H.PIH X tg iter (sIH X tg iter) := ⟨fun pins s _ _ _ I h => h pins s I⟩
structure DIH (X : Cx) (tg iter : Expr) (fi : IT) : Prop where
  run : ∀ {ρ M R x}, fi ρ M R x → ∀ {σ H B L Z}, StM X.K B L Z M H → EnvR X.K B L σ ρ → XOk X B L Z σ x → ∀ {RR : It → Hp → Prop},
    (∀ xs still M' B' L' H' J, R xs still M' → Ext B L B' L' → StM X.K B' L' Z M' H' → Itd X Z J xs still B' L' → RR J H') → sIH X tg iter σ H RR
theorem diH_range1 {a : Expr} {fas : AT} {q1 : Pos} (hg : Gl X "range") (hm : X.mg "range" = none) (ha : DA X [a] fas) (hs : starEach [a] X.env = [(false, eval a X.env)] := by rfl) : DIH X tg (.Call (.Name "range" q1) [a] [] pos) (iRng1 fas) where
  run := fun {ρ M R x} h {σ H B L Z} S V x1 {RR} q pins s I => by
    refine (L2H.pi_range1H hg hm pa_s hs).run pins s σ H RR I ?_
    refine ha.run h S V x1 fun ds M1 vs B1 L1 H1 h1 e1 S1 r1 => ?_
    dsimp only at h1
    split at h1
    · rename_i j
      match vs, r1 with
      | [v], r1 =>
        have : v = .int j := by simpa only [RepV, Rep] using r1.1
        subst this
        exact ⟨j, rfl, h1.1.1, h1.1.2, q _ _ _ _ _ _ _ h1.2 e1 S1 (itd_range 0 _)⟩
    · exact h1.elim
theorem de_lcH (hp : p ∈ X.pn) (hot : L2H.Hot1 X.A p) (hN : X.N.Nodup) (hi : DIH X tg iter fi) (ok : BlkOk X.N X.env.scope scope own)
    (hg : ∀ (s : Shared) (H : Hp) (C : Addr) (cl : List (Str × Addr)) (fp : List Addr), DGw (X.blk s H scope (compEnvC scope cl C X.env) fp) tg (own.map (·.2)) g) (ht : ∀ (s : Shared) (H : Hp) (C : Addr) (cl : List (Str × Addr)) (fp : List Addr), DTs (X.blk s H scope (compEnvC scope cl C X.env) fp) ifs tt)
    (he : ∀ (s : Shared) (H : Hp) (C : Addr) (cl : List (Str × Addr)) (fp : List Addr), DE (X.blk s H scope (compEnvC scope cl C X.env) fp) elt fe) (hs : ∀ x, foldedSetIterable iter X.env x = pure x := by intro _; rfl) :
    DE X (.ListComp elt [⟨tg, iter, ifs, 0⟩] scope pos) (tLc fi g tt fe (own.map (·.2))) where
  run := fun {ρ M P x} h {σ H B L Z} S V x1 {Q} q => by
    intro pins s I
    rw [eval_ListComp]
    refine lcH_core (te := blkE X scope elt) (g := blkG X scope tg) (tt := blkT X scope ifs) hp hot hN I pih_s ok (fun s0 H0 C cl fp => ⟨fun pins s σ H v u Q I r h => h s0 H0 C cl fp pins s u I r⟩) (fun s0 H0 C cl fp => ⟨fun pins s σ H Q I h => h s0 H0 C cl fp pins s I⟩)
      (fun s0 H0 C cl fp => ⟨fun pins s σ H Q I h => h s0 H0 C cl fp pins s I⟩) hs (lcW_reading hi.run hg ht he h S V x1 (fin_data q)) fun D C s' m H' I' q' hn f => ⟨m, hn, fun h'' sb => ?_⟩
    exact ⟨.ref D, H', I'.turned (t' := s'.toks) (fun b o hb e => (sb.2 b hb).trans e) f.1 f.2.1 f.2.2.2.1 f.2.2.2.2.1 f.2.2.2.2.2, rfl, q'⟩
end
end DL

namespace LW
open PySem PySem.Spec PyProof.Rows L2 DL
variable [Csts]
def top (i : Nat) : Stmt := PySem.Challenge.pw_shelfsums_k18_errors_apart.main.body.getD i (.Pass ⟨0, 0, 0, 0⟩)
theorem br_t {b : Bool} {A B : Prop} (h : b = true) (a : A) : (b = true → A) ∧ (b = false → B) := ⟨fun _ => a, fun q => by rw [h] at q; cases q⟩
theorem br_f {b : Bool} {A B : Prop} (h : b = false) (a : B) : (b = true → A) ∧ (b = false → B) := ⟨fun q => (by rw [h] at q; cases q), fun _ => a⟩
local macro_rules | `(tactic| walk_at "br") => `(tactic| first | (refine br_t rfl ?_) | (refine br_f rfl ?_))
local macro_rules | `(tactic| walk_at "a1") => `(tactic| first
  | (refine br_t rfl ?_)
  | (refine br_f rfl ?_)
  | (refine And.intro ⟨rfl, rfl⟩ ?_)
  | (refine And.intro rfl ?_)
  | (refine And.intro (by first | decide | omega | (simp; done) | (simp; omega)) ?_))
local macro_rules | `(tactic| walk_at "st") => `(tactic| first | (walk_at "a1") | ((conv => whnf); (walk_at "a1")))
local macro_rules | `(tactic| walk_at "run") => `(tactic| (repeat (walk_at "st")))
local macro_rules | `(tactic| walk_at "go") => `(tactic| (repeat (refine ⟨(by first | decide | omega | (simp; done) | (simp; omega) | trivial), ?_⟩)))
local macro_rules | `(tactic| walk_at "side") => `(tactic| first | exact trivial | exact ⟨trivial, rfl⟩ | omega | (simp; done) | (simp; omega))
local macro_rules | `(tactic| walk_at "sd") => `(tactic| first | (refine br_t rfl ?_) | (refine br_f rfl ?_) | (refine And.intro (by walk_at "side") ?_) | (refine fun (_ : (_ : Bool) = _) => ?_))
local macro_rules | `(tactic| walk_at "contra") => `(tactic| (intro hq; first | (cases hq; done) | (simp at hq; done) | (simp at hq; omega)))
local macro_rules | `(tactic| walk_at "sd2") => `(tactic| first
  | (with_reducible (refine br_t (by with_unfolding_all rfl) ?_))
  | (with_reducible (refine br_f (by with_unfolding_all rfl) ?_))
  | (with_reducible (refine br_n (by walk_at "contra") ?_))
  | (with_reducible (refine br_y (by walk_at "contra") ?_))
  | ((fail_if_success (with_reducible (refine br_any ?_ ?_))); (with_reducible (refine And.intro ?_ ?_)); (focus (with_unfolding_all (walk_at "side")))))
/-! ### what is known of the module -/
structure Blt (mg : Str → Option Value) : Prop where
  isinstance : mg "isinstance" = none
  int : mg "int" = none
  bool : mg "bool" = none
  str : mg "str" = none
  tuple : mg "tuple" = none
  list : mg "list" = none
  dict : mg "dict" = none
  len : mg "len" = none
  all : mg "all" = none
  any : mg "any" = none
  sum : mg "sum" = none
  max : mg "max" = none
  min : mg "min" = none
  range : mg "range" = none
  enumerate : mg "enumerate" = none
  sorted : mg "sorted" = none
def ptsD : List (Key × D) := [(.inr "amid", .tup [.str "pushes", .str "refused"]), (.inr "closes", .tup [.str "along", .str "stays"]), (.inr "puts", .tup [.str "first", .str "next", .str "roomiest"])]
/-! ### == of numbers' lists -/
theorem toPyL_map {α : Type} (f : α → D) : ∀ l : List α, toPyL (l.map f) = l.map fun x => toPy (f x)
  | [] => rfl
  | x :: r => by
    show toPy (f x) :: toPyL (r.map f) = _
    rw [toPyL_map f r]
    rfl
theorem isPyL_map {α : Type} (f : α → D) : ∀ l : List α, (∀ x ∈ l, isPy (f x) = true) → isPyL (l.map f) = true
  | [], _ => rfl
  | x :: r, h => by
    show (isPy (f x) && isPyL (r.map f)) = true
    rw [h x (List.mem_cons_self ..), isPyL_map f r fun y hy => h y (List.mem_cons_of_mem _ hy)]
    rfl
theorem eqvAll_map {α : Type} [DecidableEq α] (f : α → PyData) (hf : ∀ x y, PyData.eqv (f x) (f y) = decide (x = y)) : ∀ l m : List α, PyData.eqvAll (l.map f) (m.map f) = decide (l = m)
  | [], [] => by rw [PyData.eqvAll.eq_def]; rfl
  | [], y :: m => by rw [PyData.eqvAll.eq_def]; rfl
  | x :: l, [] => by rw [PyData.eqvAll.eq_def]; rfl
  | x :: l, y :: m => by
    show PyData.eqvAll (f x :: l.map f) (f y :: m.map f) = _
    rw [PyData.eqvAll.eq_def]
    show (PyData.eqv (f x) (f y) && PyData.eqvAll (l.map f) (m.map f)) = _
    rw [hf, eqvAll_map f hf l m]
    simp
theorem canLay_map {α : Type} (f : α → PyData) : ∀ l : List α, (∀ x ∈ l, PyData.canLay0 (f x) = true) → PyData.canLayAll0 (l.map f) = true
  | [], _ => rfl
  | x :: r, h => by
    show (PyData.canLay0 (f x) && PyData.canLayAll0 (r.map f)) = true
    rw [h x (List.mem_cons_self ..), canLay_map f r fun y hy => h y (List.mem_cons_of_mem _ hy)]
    rfl
theorem depth_map {α : Type} (f : α → PyData) (n : Nat) : ∀ l : List α, (∀ x ∈ l, PyData.depth (f x) ≤ n) → PyData.depthAll (l.map f) ≤ n
  | [], _ => Nat.zero_le _
  | x :: r, h => by
    show max (PyData.depth (f x)) (PyData.depthAll (r.map f)) ≤ n
    exact Nat.max_le.mpr ⟨h x (List.mem_cons_self ..), depth_map f n r fun y hy => h y (List.mem_cons_of_mem _ hy)⟩
/-- a list (or tuple) of things of one kind -/
theorem shaped_lst {α : Type} (f : α → D) (n : Nat) (l : List α) (h1 : ∀ x ∈ l, isPy (f x) = true) (h2 : ∀ x ∈ l, PyData.canLay0 (toPy (f x)) = true) (h3 : ∀ x ∈ l, PyData.depth (toPy (f x)) ≤ n) (hn : n < 64) : shapedD (.lst (l.map f)) = true ∧ shapedD (.tup (l.map f)) = true := by
  have a : isPyL (l.map f) = true := isPyL_map f l h1
  have b : PyData.canLayAll0 (toPyL (l.map f)) = true := by
    rw [toPyL_map]
    exact canLay_map _ l h2
  have c : PyData.depthAll (toPyL (l.map f)) ≤ n := by
    rw [toPyL_map]
    exact depth_map _ n l h3
  constructor
  · show (isPyL (l.map f) && (PyData.canLayAll0 (toPyL (l.map f)) && decide (PyData.depthAll (toPyL (l.map f)) + 1 ≤ 64))) = true
    rw [a, b, decide_eq_true (by omega)]
    rfl
  · show (isPyL (l.map f) && (PyData.canLayAll0 (toPyL (l.map f)) && decide (PyData.depthAll (toPyL (l.map f)) + 1 ≤ 64))) = true
    rw [a, b, decide_eq_true (by omega)]
    rfl
theorem shaped_ints (l : List Int) : shapedD (.lst (l.map D.int)) = true ∧ shapedD (.tup (l.map D.int)) = true := shaped_lst D.int 0 l (fun _ _ => rfl) (fun _ _ => rfl) (fun _ _ => Nat.le_refl _) (by omega)
theorem eqv_int (x y : Int) : PyData.eqv (toPy (.int x)) (toPy (.int y)) = decide (x = y) := by
  show PyData.eqv (.int x) (.int y) = _
  rw [PyData.eqv.eq_def]
  show (x == y) = _
  by_cases h : x = y
  · subst h
    simp
  · simp [h]
theorem eqD_ints (l m : List Int) : eqD (.lst (l.map D.int)) (.lst (m.map D.int)) = decide (l = m) := by
  show PyData.eqv (.list (toPyL (l.map D.int))) (.list (toPyL (m.map D.int))) = _
  rw [PyData.eqv.eq_def]
  show PyData.eqvAll (toPyL (l.map D.int)) (toPyL (m.map D.int)) = _
  rw [toPyL_map, toPyL_map]
  exact eqvAll_map _ eqv_int l m
theorem eqD_intsT (l m : List Int) : eqD (.tup (l.map D.int)) (.tup (m.map D.int)) = decide (l = m) := by
  show PyData.eqv (.tuple (toPyL (l.map D.int))) (.tuple (toPyL (m.map D.int))) = _
  rw [PyData.eqv.eq_def]
  show PyData.eqvAll (toPyL (l.map D.int)) (toPyL (m.map D.int)) = _
  rw [toPyL_map, toPyL_map]
  exact eqvAll_map _ eqv_int l m
/-- rows as a tuple of tuples -/
def rowsT (rows : List (List Int)) : D := .tup (rows.map fun r => .tup (r.map D.int))
theorem shaped_rowsT (rows : List (List Int)) : shapedD (rowsT rows) = true := (shaped_lst (fun r : List Int => D.tup (r.map D.int)) 1 rows (fun r _ => isPyL_map D.int r fun _ _ => rfl) (fun r _ => by
    show PyData.canLayAll0 (toPyL (r.map D.int)) = true
    rw [toPyL_map]
    exact canLay_map _ r fun _ _ => rfl) (fun r _ => by
    show PyData.depthAll (toPyL (r.map D.int)) + 1 ≤ 1
    have := depth_map (fun x : Int => toPy (.int x)) 0 r fun _ _ => Nat.le_refl _
    rw [toPyL_map]
    omega) (by omega)).2
theorem eqD_rowsT (l m : List (List Int)) : eqD (rowsT l) (rowsT m) = decide (l = m) := by
  show PyData.eqv (.tuple (toPyL (l.map fun r => D.tup (r.map D.int)))) (.tuple (toPyL (m.map fun r => D.tup (r.map D.int)))) = _
  rw [PyData.eqv.eq_def]
  show PyData.eqvAll (toPyL (l.map fun r => D.tup (r.map D.int))) (toPyL (m.map fun r => D.tup (r.map D.int))) = _
  rw [toPyL_map, toPyL_map]
  exact eqvAll_map _ (fun x y => eqD_intsT x y) l m
theorem eqD_nil (l : List Int) : eqD (.lst (l.map D.int)) (.lst []) = decide (l = []) := eqD_ints l []
/-! ### the law's source of draws -/
def mixF (seed : Int) (ns : List Int) : Int := ns.foldl (fun s c => (s * 48271 + c % 2147483629 + 1) % 2147483647) seed
def hM (st idx : Int) (cs : List Int) : Mem := [.lst (cs.map fun c => .d (.int c)), .lst [.d (.int st), .m 0, .d (.int idx), .d (.int 14)]]
/-- the source stands in the first two cells; R: the rest -/
def IsH (M R : Mem) : Prop := ∃ st idx cs, (0 ≤ st ∧ st < 2147483647) ∧ 0 ≤ idx ∧ cs.length ≤ 63 ∧ M = hM st idx cs ++ R
abbrev sMix : Stmt := top 13
abbrev nMix : List Str := ["_law_script", "_law_seed", "_law_state", "_law_cell"]
abbrev pMix : List Str := ["_law_script", "_law_seed"]
theorem scMix : FnScope nMix pMix (defScope sMix) := ⟨rfl, rfl, rfl, by decide +kernel, rfl, by decide +kernel, by decide +kernel⟩
abbrev sNext : Stmt := top 14
abbrev nNext : List Str := ["_law_h", "_law_bound", "_law_cell"]
abbrev pNext : List Str := ["_law_h", "_law_bound"]
theorem scNext : FnScope nNext pNext (defScope sNext) := ⟨rfl, rfl, rfl, by decide +kernel, rfl, by decide +kernel, by decide +kernel⟩
section
variable {P : Program} {w : World} {K : PySem.W.Frag} {mg : Str → Option Value} {base : Heap}
def spMix : DSp := fun ds M P _ => ∃ (ns : List Int) (seed : Int), ds = [.d (.frl (ns.map D.int)), .d (.int seed)] ∧ (0 ≤ seed ∧ seed < 1000) ∧ ns.length ≤ 63 ∧ M = [] ∧ ∀ M', IsH M' [] → P (.m 1) M'
theorem ok_mix (N : Blt mg) (F : FunG K mg "_law_mix" sMix pMix) : Callee P w K mg base "_law_mix" 1 pMix spMix := by
  refine callee_dl F scMix (fun ds M P x h => ?_) (fun f cdv A outer s H E hr => ?_)
  · obtain ⟨ns, seed, rfl, _⟩ := h
    rfl
  · have hu := hr.units
    refine ⟨_, (dss_cons (ds_set 2 scMix.nd (de_var 1))
    (dss_cons (ds_for (di_seq (de_var 0)) (dg_name 3 scMix.nd) (dss_one (ds_set 2 scMix.nd (de_bin do_mod (de_callTy dc_int rfl N.int boot_int (da_cons (de_bin do_add (de_bin do_add (de_bin do_mul (de_var 2) de_int) (de_bin do_mod (de_callTy dc_int rfl N.int boot_int (da_cons (de_var 3) da_nil)) de_int)) de_int) da_nil)) de_int))))
    (dss_one (ds_ret (de_lstM (da_cons (de_var 2) (da_cons (de_callTy dc_listM rfl N.list boot_list (da_cons (de_var 0) da_nil)) (da_cons de_int (da_cons de_int da_nil))))))))), fun ds M P x h => ?_⟩
    obtain ⟨ns, seed, rfl, hs, hl, rfl, hP⟩ := h
    refine ⟨fun i ρ M => ∃ st v, (0 ≤ st ∧ st < 2147483647) ∧ M = [] ∧ ρ = [some (.d (.frl (ns.map D.int))), some (.d (.int seed)), some (.d (.int st)), v], ⟨seed, none, by omega, rfl, rfl⟩, ?_, ?_⟩
    · rintro i y ρ' M' hy ⟨st, v, hst, rfl, rfl⟩
      obtain ⟨c, rfl⟩ : ∃ c : Int, y = .d (.int c) := by
        have := List.mem_of_getElem? hy
        simp at this
        obtain ⟨c, _, h⟩ := this
        exact ⟨c, h.symm⟩
      refine ⟨rfl, ?_⟩
      refine ⟨.inr ⟨by decide, by decide⟩, ?_⟩
      refine ⟨by decide, ?_⟩
      refine ⟨by decide, ?_⟩
      exact ⟨_, _, ⟨Int.emod_nonneg _ (by decide), Int.emod_lt_of_pos _ (by decide)⟩, rfl, rfl⟩
    · rintro ρ' M' ⟨st, v, hst, rfl, rfl⟩
      refine ⟨rfl, ?_⟩
      refine ⟨by simp, ?_⟩
      exact hP _ ⟨st, 0, ns, hst, by decide, hl, by simp [hM]⟩

theorem allD_cells (cs : List Int) : allD (cs.map fun c => .d (.int c)) = some (cs.map D.int) := by
  have := allD_map (cs.map D.int)
  rwa [List.map_map] at this
theorem ix_cell (cs : List Int) (idx : Int) (h : 0 ≤ idx) : ∃ c : Int, (c ≠ 0 → 0 < cs.length) ∧ atI ((cs ++ [0]).map fun c => DV.d (D.int c)) (idx % (if ((cs.map fun c => DV.d (D.int c)).length : Int) > 1 then ((cs.map fun c => DV.d (D.int c)).length : Int) else 1)) = some (.d (.int c)) := by
  rw [List.length_map]
  have key : ∀ j : Int, 0 ≤ j → j < (cs.length : Int) + 1 → (cs.length = 0 → j = 0) → ∃ c : Int, (c ≠ 0 → 0 < cs.length) ∧ atI ((cs ++ [0]).map fun c => DV.d (D.int c)) j = some (.d (.int c)) := fun j h0 h1 h2 => by
    have hl : j.toNat < (cs ++ [0]).length := by simp; omega
    refine ⟨(cs ++ [0])[j.toNat], fun hne => ?_, ?_⟩
    · cases cs with
      | nil =>
        have : j.toNat = 0 := by rw [h2 rfl]; rfl
        simp at hne
      | cons a r => simp
    · have := atI_nat (xs := (cs ++ [0]).map fun c => DV.d (D.int c)) (j := j.toNat) (v := .d (.int (cs ++ [0])[j.toNat])) (by rw [List.getElem?_map, List.getElem?_eq_getElem hl]; rfl)
      rwa [Int.toNat_of_nonneg h0] at this
  by_cases q : (cs.length : Int) > 1
  · rw [if_pos q]
    exact key _ (Int.emod_nonneg _ (by omega)) (by have := Int.emod_lt_of_pos idx (show (0 : Int) < cs.length by omega); omega) (by omega)
  · rw [if_neg q, Int.emod_one]
    exact key 0 (by omega) (by omega) (fun _ => rfl)
def spNext : DSp := fun ds M P _ => ∃ (R : Mem) (b : Int), ds = [.m 1, .d (.int b)] ∧ IsH M R ∧ (0 < b ∧ b ≤ 1000) ∧ ∀ r M', 0 ≤ r → r < b → IsH M' R → P (.d (.int r)) M'
theorem ok_next (N : Blt mg) (F : FunG K mg "_law_next" sNext pNext) : Callee P w K mg base "_law_next" 1 pNext spNext := by
  refine callee_dl F scNext (fun ds M P x h => ?_) (fun f cdv A outer s H E hr => ?_)
  · obtain ⟨R, b, rfl, _⟩ := h
    rfl
  · have hu := hr.units
    refine ⟨_, (dss_cons (ds_set 2 scNext.nd (de_ix hu (de_bin do_add (de_ix hu (de_var 0) de_int) (de_lst (da_cons de_int da_nil))) (de_bin do_mod (de_callTy dc_int rfl N.int boot_int (da_cons (de_ix hu (de_var 0) de_int) da_nil)) (de_callB (dc_max2 rfl) rfl N.max boot_max (da_cons de_int (da_cons (de_callB dc_lenA rfl N.len boot_len (da_cons (de_ix hu (de_var 0) de_int) da_nil)) da_nil))))))
    (dss_cons (ds_if (dt_cmp do_ge (de_var 2) (de_bin do_pow de_int de_int)) (dss_cons (ds_asg (de_bin do_fdiv (de_var 2) (de_var 1)) (dg_sub (de_ix hu (de_var 0) de_int) (de_bin do_mod (de_callTy dc_int rfl N.int boot_int (da_cons (de_ix hu (de_var 0) de_int) da_nil)) (de_callB dc_lenA rfl N.len boot_len (da_cons (de_ix hu (de_var 0) de_int) da_nil)))))
    (dss_one (ds_ret (de_bin do_mod (de_callTy dc_int rfl N.int boot_int (da_cons (de_var 2) da_nil)) (de_var 1))))) dss_nil)
    (dss_cons (ds_asg (de_bin do_mod (de_callTy dc_int rfl N.int boot_int (da_cons (de_bin do_add (de_bin do_add (de_bin do_mul (de_ix hu (de_var 0) de_int) de_int) (de_bin do_mul (de_var 2) de_int)) de_int) da_nil)) de_int) (dg_sub (de_var 0) de_int))
    (dss_cons (ds_asg (de_bin do_add (de_ix hu (de_var 0) de_int) de_int) (dg_sub (de_var 0) de_int))
    (dss_one (ds_ret (de_bin do_mod (de_callTy dc_int rfl N.int boot_int (da_cons (de_bin do_fdiv (de_ix hu (de_var 0) de_int) de_int) da_nil)) (de_var 1)))))))), fun ds M P x h => ?_⟩
    obtain ⟨R, b, rfl, ⟨st, idx, cs, hst, hidx, hcs, rfl⟩, hb, hP⟩ := h
    walk_at "go"
    conv => whnf
    rw [allD_cells]
    walk_at "go"
    conv => whnf
    rw [show (List.map DV.d (List.map D.int cs ++ [D.int 0])) = (cs ++ [0]).map fun c => DV.d (D.int c) by simp]
    obtain ⟨c, hpos, hc⟩ := ix_cell cs idx hidx
    conv => whnf
    rw [hc]
    conv => whnf
    walk_at "go"
    refine ⟨fun hk => ?_, fun _ => ?_⟩
    · have hk : (10 : Int) ^ 18 ≤ c := of_decide_eq_true hk
      have hn : 0 < cs.length := hpos (by omega)
      refine ⟨⟨hb.1, by omega⟩, ?_⟩
      conv => whnf
      refine ⟨by simp; omega, ?_⟩
      obtain ⟨j, hj⟩ : ∃ j : Nat, ixN (cs.map fun c => DV.d (D.int c)).length (idx % ((cs.map fun c => DV.d (D.int c)).length : Int)) = some j := by
        rw [List.length_map]
        have h1 := Int.emod_nonneg idx (show (cs.length : Int) ≠ 0 by omega)
        have h2 := Int.emod_lt_of_pos idx (show (0 : Int) < cs.length by omega)
        exact ⟨(idx % (cs.length : Int)).toNat, by unfold ixN; rw [if_pos h1, if_pos h2]⟩
      conv => whnf
      rw [hj]
      walk_at "go"
      refine hP _ _ (Int.emod_nonneg _ (by omega)) (Int.emod_lt_of_pos _ hb.1) ⟨st, idx, cs.set j (c / b), hst, hidx, by rw [List.length_set]; exact hcs, ?_⟩
      simp [hM, List.map_set]
    · walk_at "go"
      refine ⟨.inr ⟨by decide, by decide⟩, ?_⟩
      refine ⟨.inr ⟨by decide, by decide⟩, ?_⟩
      walk_at "go"
      refine hP _ _ (Int.emod_nonneg _ (by omega)) (Int.emod_lt_of_pos _ hb.1) ⟨(st * 48271 + c * 69621 + 11) % 2147483647, idx + 1, cs, ⟨Int.emod_nonneg _ (by decide), Int.emod_lt_of_pos _ (by decide)⟩, by omega, hcs, rfl⟩
end
/-! ### all errors -/
abbrev sRuleInit : Stmt := inClass (top 3) 0
abbrev nRuleInit : List Str := ["self", "point"]
abbrev pRuleInit : List Str := ["self", "point"]
theorem scRuleInit : FnScope nRuleInit pRuleInit (defScope sRuleInit) := ⟨rfl, rfl, rfl, by decide +kernel, rfl, by decide +kernel, by decide +kernel⟩
abbrev sDeedInit : Stmt := inClass (top 5) 0
abbrev nDeedInit : List Str := ["self", "index"]
abbrev pDeedInit : List Str := ["self", "index"]
theorem scDeedInit : FnScope nDeedInit pDeedInit (defScope sDeedInit) := ⟨rfl, rfl, rfl, by decide +kernel, rfl, by decide +kernel, by decide +kernel⟩
abbrev sTextInit : Stmt := inClass (top 11) 0
abbrev nTextInit : List Str := ["self", "line", "word"]
abbrev pTextInit : List Str := ["self", "line", "word"]
theorem scTextInit : FnScope nTextInit pTextInit (defScope sTextInit) := ⟨rfl, rfl, rfl, by decide +kernel, rfl, by decide +kernel, by decide +kernel⟩
abbrev sBare : Stmt := top 15
abbrev nBare : List Str := ["_law_k"]
abbrev pBare : List Str := ["_law_k"]
theorem scBare : FnScope nBare pBare (defScope sBare) := ⟨rfl, rfl, rfl, by decide +kernel, rfl, by decide +kernel, by decide +kernel⟩
abbrev sThrown : Stmt := top 16
abbrev nThrown : List Str := ["_law_k", "_law_one", "_law_two"]
abbrev pThrown : List Str := ["_law_k", "_law_one", "_law_two"]
theorem scThrown : FnScope nThrown pThrown (defScope sThrown) := ⟨rfl, rfl, rfl, by decide +kernel, rfl, by decide +kernel, by decide +kernel⟩
abbrev sClasses : Stmt := top 17
abbrev nClasses : List Str := ["_law_e", "_law_found"]
abbrev pClasses : List Str := ["_law_e"]
theorem scClasses : FnScope nClasses pClasses (defScope sClasses) := ⟨rfl, rfl, rfl, by decide +kernel, rfl, by decide +kernel, by decide +kernel⟩
abbrev sParts : Stmt := top 18
abbrev nParts : List Str := ["_law_k", "_law_e"]
abbrev pParts : List Str := ["_law_k", "_law_e"]
theorem scParts : FnScope nParts pParts (defScope sParts) := ⟨rfl, rfl, rfl, by decide +kernel, rfl, by decide +kernel, by decide +kernel⟩
abbrev sRight : Stmt := top 19
abbrev nRight : List Str := ["_law_k", "_law_one", "_law_two", "_law_good", "_law_due", "_law_other", "_law_e"]
abbrev pRight : List Str := ["_law_k", "_law_one", "_law_two"]
theorem scRight : FnScope nRight pRight (defScope sRight) := ⟨rfl, rfl, rfl, by decide +kernel, rfl, by decide +kernel, by decide +kernel⟩
theorem hotS {A : Around} {a : Addr} {oe : Obj} {cls : Value} {d : Option Addr} (hz : L2N.Zn cls d oe) (hf : ∃ vs, oe.data = .fields vs) : L2H.Hot1 (A.mark (some (.ref a))) (a, oe) := ⟨rfl, hf.elim fun vs e => ⟨vs, e, hz.2.2 vs e⟩⟩
theorem roomH_u {k : Nat} {A : Around} (h : L2H.RoomH k A) : A.units + 64 < cLine := by
  have := h.un
  omega
structure KAll (K : PySem.W.Frag) (mg : Str → Option Value) where
  c : Nat → Addr
  cSE : Addr
  e0 : ErrC K mg "InvalidSize" (c 0)
  e1 : ErrC K mg "InvalidSample" (c 1)
  e2 : ErrC K mg "InvalidWish" (c 2)
  e3 : ErrC K mg "InvalidBooks" (c 3)
  e4 : ErrC K mg "InvalidLimit" (c 4)
  e5 : ErrC K mg "NotComparable" (c 5)
  e6 : ErrC K mg "Unfit" (c 6)
  f7 : FunE K mg "InvalidRule" "InvalidRule.__init__" (c 7) sRuleInit pRuleInit
  f8 : FunE K mg "InvalidDeed" "InvalidDeed.__init__" (c 8) sDeedInit pDeedInit
  f9 : FunE K mg "InvalidText" "InvalidText.__init__" (c 9) sTextInit pTextInit
  n7 : PySem.W.findIn K (.ref (c 7)) "point" = some none
  n8 : PySem.W.findIn K (.ref (c 8)) "index" = some none
  n9 : PySem.W.findIn K (.ref (c 9)) "line" = some none
  n10 : PySem.W.findIn K (.ref (c 9)) "word" = some none
  x7 : XfC K (c 7)
  x8 : XfC K (c 8)
  x9 : XfC K (c 9)
  ex : ∀ i, i < 10 → ExcC K (c i)
  kit : ∀ i j, i < 10 → j < 10 → PySem.W.kitOne K (.ref (c i)) (.ref (c j)) = some (decide (i = j))
  kve : ∀ i, i < 10 → PySem.W.kitOne K (.ref (c i)) (.type "ValueError") = some true
  exm : ∀ i, i < 10 → PySem.W.exmOne K (.ref (c i)) (.ref cSE) = some true
  gSE : mg "ShelfError" = some (.ref cSE)
  mVE : mg "ValueError" = none
section
variable {P : Program} {w : World} {K : PySem.W.Frag} {mg : Str → Option Value} {base : Heap}
theorem FunE.one {x qual : Str} {C : Addr} {st : Stmt} {N ps : List Str} {n : Str} {p1 p2 p3 p4 : Pos} (E : FunE K mg x qual C st ps) (S : FnScope N ps (defScope st)) (hl : ps.length = 2) (hno : PySem.W.findIn K (.ref C) n = some none) (hb : defBody st = [.Assign [.Attribute (.Name "self" p1) n p2] (.Name n p3) p4]) : True := trivial
theorem KAll.rule (A : KAll K mg) : CalleeX P w K mg base "InvalidRule" (A.c 7) pRuleInit ["point"] := A.f7.callee scRuleInit rfl (by decide) (by simp) (fun n hn => by
  rw [List.mem_singleton.mp hn]
  exact A.n7) fun f cdv A' outer s H vs Q E2 h => by
  obtain ⟨a, C, ws, rfl, hl, T, hno, ha, hq⟩ := h
  match ws, hl with
  | [y], _ => exact ⟨_, pss_one (ps_ost (pe_var (i := 0) rfl (.inl rfl)) (pe_var (i := 1) rfl (.inl rfl))), y, rfl, .ref a, rfl, a, C, rfl, T, hno _ (List.mem_singleton.mpr rfl), .inl ⟨ha, fun dx h1 h2 => hq dx h1 h2⟩⟩
theorem KAll.deed (A : KAll K mg) : CalleeX P w K mg base "InvalidDeed" (A.c 8) pDeedInit ["index"] := A.f8.callee scDeedInit rfl (by decide) (by simp) (fun n hn => by
  rw [List.mem_singleton.mp hn]
  exact A.n8) fun f cdv A' outer s H vs Q E2 h => by
  obtain ⟨a, C, ws, rfl, hl, T, hno, ha, hq⟩ := h
  match ws, hl with
  | [y], _ => exact ⟨_, pss_one (ps_ost (pe_var (i := 0) rfl (.inl rfl)) (pe_var (i := 1) rfl (.inl rfl))), y, rfl, .ref a, rfl, a, C, rfl, T, hno _ (List.mem_singleton.mpr rfl), .inl ⟨ha, fun dx h1 h2 => hq dx h1 h2⟩⟩
theorem KAll.text (A : KAll K mg) : CalleeX P w K mg base "InvalidText" (A.c 9) pTextInit ["line", "word"] := A.f9.callee scTextInit rfl (by decide) (by simp) (fun n hn => by
  simp only [List.mem_cons, List.not_mem_nil, or_false] at hn
  rcases hn with rfl | rfl
  · exact A.n9
  · exact A.n10) fun f cdv A' outer s H vs Q E2 h => by
  obtain ⟨a, C, ws, rfl, hl, T, hno, ha, hq⟩ := h
  match ws, hl with
  | [y, z], _ =>
    refine ⟨_, pss_cons (ps_ost (pe_var (i := 0) rfl (.inl rfl)) (pe_var (i := 1) rfl (.inl rfl))) (pss_one (ps_ost (pe_var (i := 0) rfl (.inl rfl)) (pe_var (i := 2) rfl (.inl rfl)))), ?_⟩
    have n1 := hno "line" (by simp)
    have n2 := hno "word" (by simp)
    refine ⟨y, rfl, .ref a, rfl, a, C, rfl, T, n1, .inl ⟨ha, fun dx h1 h2 => ?_⟩⟩
    refine ⟨z, rfl, .ref a, rfl, a, C, rfl, T, n2, .inr ⟨dx, [("line", y)], upd_same, ?_, by show 1 ≤ 900; decide, ?_⟩⟩
    · rw [upd_ne h2, upd_same]
    · have e : upd (upd (upd H dx (exd dx [("line", y)])) a (exo a C (some dx))) dx (exd dx [("word", z), ("line", y)]) = upd (upd H dx (exd dx [("word", z), ("line", y)])) a (exo a C (some dx)) := by
        funext b
        by_cases q1 : b = dx
        · subst q1
          rw [upd_same, upd_ne h2, upd_same]
        · rw [upd_ne q1]
          by_cases q2 : b = a
          · subst q2
            rw [upd_same, upd_same]
          · rw [upd_ne q2, upd_ne q2, upd_ne q1, upd_ne q1]
      rw [e]
      exact hq dx h1 h2
def spBare (c : Nat → Addr) : DSp := fun ds M P x => ∃ k : Nat, ds = [.d (.int (k : Int))] ∧ k < 7 ∧ x (.ref (c k)) [] M
theorem ok_bare (A : KAll K mg) (F : FunG K mg "_law_bare" sBare pBare) : CalleeN P w K mg base "_law_bare" 1 pBare (spBare A.c) := by
  refine calleeN_dl F scBare (fun ds M P x h => ?_) (fun f cdv A' outer s H E hr => ?_)
  · obtain ⟨k, rfl, _⟩ := h
    rfl
  · have hu := hr.units
    refine ⟨_, (dssN_cons (dsN_if (dt_cmp (do_eq hu) (de_var 0) de_int) (dssN_one (dsN_raise rfl (dmkN0 A.e0))) dssN_nil)
    (dssN_cons (dsN_if (dt_cmp (do_eq hu) (de_var 0) de_int) (dssN_one (dsN_raise rfl (dmkN0 A.e1))) dssN_nil)
    (dssN_cons (dsN_if (dt_cmp (do_eq hu) (de_var 0) de_int) (dssN_one (dsN_raise rfl (dmkN0 A.e2))) dssN_nil)
    (dssN_cons (dsN_if (dt_cmp (do_eq hu) (de_var 0) de_int) (dssN_one (dsN_raise rfl (dmkN0 A.e3))) dssN_nil)
    (dssN_cons (dsN_if (dt_cmp (do_eq hu) (de_var 0) de_int) (dssN_one (dsN_raise rfl (dmkN0 A.e4))) dssN_nil)
    (dssN_cons (dsN_if (dt_cmp (do_eq hu) (de_var 0) de_int) (dssN_one (dsN_raise rfl (dmkN0 A.e5))) dssN_nil)
    (dssN_one (dsN_raise rfl (dmkN0 A.e6))))))))), fun ds M P x h => ?_⟩
    obtain ⟨k, rfl, hk, hx⟩ := h
    match k, hk, hx with
    | 0, _, hx =>
      refine br_t rfl ?_
      exact hx
    | 1, _, hx =>
      refine br_f rfl (br_t rfl ?_)
      exact hx
    | 2, _, hx =>
      refine br_f rfl (br_f rfl (br_t rfl ?_))
      exact hx
    | 3, _, hx =>
      refine br_f rfl (br_f rfl (br_f rfl (br_t rfl ?_)))
      exact hx
    | 4, _, hx =>
      refine br_f rfl (br_f rfl (br_f rfl (br_f rfl (br_t rfl ?_))))
      exact hx
    | 5, _, hx =>
      refine br_f rfl (br_f rfl (br_f rfl (br_f rfl (br_f rfl (br_t rfl ?_)))))
      exact hx
    | 6, _, hx =>
      refine br_f rfl (br_f rfl (br_f rfl (br_f rfl (br_f rfl (br_f rfl ?_)))))
      exact hx
/-- the fields of the k-th error -/
def fldsK (k : Nat) (one two : D) : List (Str × D) := match k with
  | 7 => [("point", one)]
  | 8 => [("index", one)]
  | 9 => [("word", two), ("line", one)]
  | _ => []
def spThrown (c : Nat → Addr) : DSp := fun ds M P x => ∃ (k : Nat) (one two : D), ds = [.d (.int (k : Int)), .d one, .d two] ∧ k < 10 ∧ ∀ M', x (.ref (c k)) (fldsK k one two) M'
theorem ok_thrown (A : KAll K mg) (G_law_bare : CalleeN P w K mg base "_law_bare" 1 pBare (spBare A.c)) (F : FunG K mg "_law_thrown" sThrown pThrown) : CalleeN P w K mg base "_law_thrown" 4 pThrown (spThrown A.c) := by
  refine calleeN_dl F scThrown (fun ds M P x h => ?_) (fun f cdv A' outer s H E hr => ?_)
  · obtain ⟨k, one, two, rfl, _⟩ := h
    rfl
  · have hu := hr.units
    refine ⟨_, (dssN_cons (dsN_if (dt_cmp do_lt (de_var 0) de_int) (dssN_one (dsN_call G_law_bare (hr.mono (by decide)) (da_cons (de_var 0) da_nil))) dssN_nil)
    (dssN_cons (dsN_if (dt_cmp (do_eq hu) (de_var 0) de_int) (dssN_one (dsN_raise rfl (dmkNF A.rule (hr.mono (by decide)) (da_cons (de_var 1) da_nil)))) dssN_nil)
    (dssN_cons (dsN_if (dt_cmp (do_eq hu) (de_var 0) de_int) (dssN_one (dsN_raise rfl (dmkNF A.deed (hr.mono (by decide)) (da_cons (de_var 1) da_nil)))) dssN_nil)
    (dssN_one (dsN_raise rfl (dmkNF A.text (hr.mono (by decide)) (da_cons (de_var 1) (da_cons (de_var 2) da_nil)))))))), fun ds M P x h => ?_⟩
    obtain ⟨k, one, two, rfl, hk, hx⟩ := h
    match k, hk, hx with
    | 0, _, hx => exact br_t rfl ⟨0, rfl, by decide, hx _⟩
    | 1, _, hx => exact br_t rfl ⟨1, rfl, by decide, hx _⟩
    | 2, _, hx => exact br_t rfl ⟨2, rfl, by decide, hx _⟩
    | 3, _, hx => exact br_t rfl ⟨3, rfl, by decide, hx _⟩
    | 4, _, hx => exact br_t rfl ⟨4, rfl, by decide, hx _⟩
    | 5, _, hx => exact br_t rfl ⟨5, rfl, by decide, hx _⟩
    | 6, _, hx => exact br_t rfl ⟨6, rfl, by decide, hx _⟩
    | 7, _, hx => exact br_f rfl (br_t rfl ⟨rfl, hx _⟩)
    | 8, _, hx => exact br_f rfl (br_f rfl (br_t rfl ⟨rfl, hx _⟩))
    | 9, _, hx => exact br_f rfl (br_f rfl (br_f rfl ⟨rfl, hx _⟩))
/-- which of the ten -/
def onesK (k : Nat) : D := .lst ((List.range 10).map fun i => .bl (decide (k = i)))
def spClasses (c : Nat → Addr) (a : Addr) (cls : Value) (d : Option Addr) : DSp := fun ds M P _ => ∃ (k : Nat) (ns : List Str) (fs : List D), ds = [.d (.xcp a d ns fs)] ∧ k < 10 ∧ cls = .ref (c k) ∧ P (.d (onesK k)) M
theorem ok_classes (N : Blt mg) (A : KAll K mg) (F : FunG K mg "_law_classes" sClasses pClasses) : CalleeH P w K mg base "_law_classes" 1 pClasses (spClasses A.c) := by
  refine calleeH_dl F scClasses (fun a cls d ds M P x h => ?_) (fun f cdv A' outer s H E p hot hr => ?_)
  · obtain ⟨k, ns, fs, rfl, _⟩ := h
    rfl
  · have hu := roomH_u hr
    have hpP : (p.1, p.2) ∈ [p] := List.mem_singleton.mpr rfl
    have hzP : Zc p.2.cls p.2.dict p.2 := ⟨rfl, rfl⟩
    have hfP : ∃ vs, p.2.data = .fields vs := hot.2.imp fun _ h => h.1
    refine ⟨_, (dss_cons (ds_set 1 scClasses.nd (de_lst (da_cons (de_callB (dc_isP K hpP hzP hfP) rfl N.isinstance boot_isinstance (da_cons (de_var 0) (da_cons (de_gref A.e0.mg_) da_nil))) (da_cons (de_callB (dc_isP K hpP hzP hfP) rfl N.isinstance boot_isinstance (da_cons (de_var 0) (da_cons (de_gref A.e1.mg_) da_nil))) (da_cons (de_callB (dc_isP K hpP hzP hfP) rfl N.isinstance boot_isinstance (da_cons (de_var 0) (da_cons (de_gref A.e2.mg_) da_nil))) da_nil)))))
    (dss_cons (ds_set 1 scClasses.nd (de_bin do_add (de_var 1) (de_lst (da_cons (de_callB (dc_isP K hpP hzP hfP) rfl N.isinstance boot_isinstance (da_cons (de_var 0) (da_cons (de_gref A.e3.mg_) da_nil))) (da_cons (de_callB (dc_isP K hpP hzP hfP) rfl N.isinstance boot_isinstance (da_cons (de_var 0) (da_cons (de_gref A.e4.mg_) da_nil))) (da_cons (de_callB (dc_isP K hpP hzP hfP) rfl N.isinstance boot_isinstance (da_cons (de_var 0) (da_cons (de_gref A.e5.mg_) da_nil))) da_nil))))))
    (dss_cons (ds_set 1 scClasses.nd (de_bin do_add (de_var 1) (de_lst (da_cons (de_callB (dc_isP K hpP hzP hfP) rfl N.isinstance boot_isinstance (da_cons (de_var 0) (da_cons (de_gref A.e6.mg_) da_nil))) (da_cons (de_callB (dc_isP K hpP hzP hfP) rfl N.isinstance boot_isinstance (da_cons (de_var 0) (da_cons (de_gref A.f7.mg_) da_nil))) (da_cons (de_callB (dc_isP K hpP hzP hfP) rfl N.isinstance boot_isinstance (da_cons (de_var 0) (da_cons (de_gref A.f8.mg_) da_nil))) da_nil))))))
    (dss_one (ds_ret (de_bin do_add (de_var 1) (de_lst (da_cons (de_callB (dc_isP K hpP hzP hfP) rfl N.isinstance boot_isinstance (da_cons (de_var 0) (da_cons (de_gref A.f9.mg_) da_nil))) da_nil)))))))), fun ds M P x h => ?_⟩
    obtain ⟨k, ns, fs, rfl, hk, hc, hP⟩ := h
    conv => whnf
    refine ⟨⟨rfl, rfl⟩, _, _, hc, A.ex k hk, A.kit k 0 hk (by decide), ?_⟩
    conv => whnf
    refine ⟨⟨rfl, rfl⟩, _, _, hc, A.ex k hk, A.kit k 1 hk (by decide), ?_⟩
    conv => whnf
    refine ⟨⟨rfl, rfl⟩, _, _, hc, A.ex k hk, A.kit k 2 hk (by decide), ?_⟩
    conv => whnf
    refine ⟨by show 3 ≤ 100000; decide, ?_⟩
    conv => whnf
    refine ⟨⟨rfl, rfl⟩, _, _, hc, A.ex k hk, A.kit k 3 hk (by decide), ?_⟩
    conv => whnf
    refine ⟨⟨rfl, rfl⟩, _, _, hc, A.ex k hk, A.kit k 4 hk (by decide), ?_⟩
    conv => whnf
    refine ⟨⟨rfl, rfl⟩, _, _, hc, A.ex k hk, A.kit k 5 hk (by decide), ?_⟩
    conv => whnf
    refine ⟨by show 3 ≤ 100000; decide, ?_⟩
    conv => whnf
    refine ⟨by show 3 + 3 ≤ 100000; decide, ?_⟩
    conv => whnf
    refine ⟨⟨rfl, rfl⟩, _, _, hc, A.ex k hk, A.kit k 6 hk (by decide), ?_⟩
    conv => whnf
    refine ⟨⟨rfl, rfl⟩, _, _, hc, A.ex k hk, A.kit k 7 hk (by decide), ?_⟩
    conv => whnf
    refine ⟨⟨rfl, rfl⟩, _, _, hc, A.ex k hk, A.kit k 8 hk (by decide), ?_⟩
    conv => whnf
    refine ⟨by show 3 ≤ 100000; decide, ?_⟩
    conv => whnf
    refine ⟨by show 6 + 3 ≤ 100000; decide, ?_⟩
    conv => whnf
    refine ⟨⟨rfl, rfl⟩, _, _, hc, A.ex k hk, A.kit k 9 hk (by decide), ?_⟩
    conv => whnf
    refine ⟨by show 1 ≤ 100000; decide, ?_⟩
    conv => whnf
    refine ⟨by show 9 + 1 ≤ 100000; decide, ?_⟩
    exact hP
/-- what is read of it -/
def partsK (k : Nat) (one two : D) : List D := match k with
  | 7 => [one]
  | 8 => [one]
  | 9 => [one, two]
  | _ => []
def spParts (c : Nat → Addr) (a : Addr) (cls : Value) (d : Option Addr) : DSp := fun ds M P _ => ∃ (k : Nat) (one two : D), ds = [.d (.int (k : Int)), .d (.xcp a d ((fldsK k one two).map (·.1)) ((fldsK k one two).map (·.2)))] ∧ k < 10 ∧ cls = .ref (c k) ∧ P (.d (.lst (partsK k one two))) M
theorem ok_parts (N : Blt mg) (A : KAll K mg) (F : FunG K mg "_law_parts" sParts pParts) : CalleeH P w K mg base "_law_parts" 1 pParts (spParts A.c) := by
  refine calleeH_dl F scParts (fun a cls d ds M P x h => ?_) (fun f cdv A' outer s H E p hot hr => ?_)
  · obtain ⟨k, one, two, rfl, _⟩ := h
    rfl
  · have hu := roomH_u hr
    have hpP : (p.1, p.2) ∈ [p] := List.mem_singleton.mpr rfl
    have hzP : Zc p.2.cls p.2.dict p.2 := ⟨rfl, rfl⟩
    have hfP : ∃ vs, p.2.data = .fields vs := hot.2.imp fun _ h => h.1
    refine ⟨_, (dss_cons (ds_if (dt_cmp do_lt (de_var 0) de_int) (dss_one (ds_ret (de_lst da_nil))) dss_nil)
    (dss_cons (ds_if (dt_cmp (do_eq hu) (de_var 0) de_int) (dss_one (ds_ret (de_lst (da_cons (de_xfP K hpP hzP hfP (de_var 1)) da_nil)))) dss_nil)
    (dss_one (ds_ret (de_if (dt_cmp (do_eq hu) (de_var 0) de_int) (de_lst (da_cons (de_xfP K hpP hzP hfP (de_var 1)) da_nil)) (de_lst (da_cons (de_xfP K hpP hzP hfP (de_var 1)) (da_cons (de_xfP K hpP hzP hfP (de_var 1)) da_nil)))))))), fun ds M P x h => ?_⟩
    obtain ⟨k, one, two, rfl, hk, hc, hP⟩ := h
    match k, hk, hc, hP with
    | 0, _, hc, hP => exact br_t rfl ⟨Nat.zero_le _, hP⟩
    | 1, _, hc, hP => exact br_t rfl ⟨Nat.zero_le _, hP⟩
    | 2, _, hc, hP => exact br_t rfl ⟨Nat.zero_le _, hP⟩
    | 3, _, hc, hP => exact br_t rfl ⟨Nat.zero_le _, hP⟩
    | 4, _, hc, hP => exact br_t rfl ⟨Nat.zero_le _, hP⟩
    | 5, _, hc, hP => exact br_t rfl ⟨Nat.zero_le _, hP⟩
    | 6, _, hc, hP => exact br_t rfl ⟨Nat.zero_le _, hP⟩
    | 7, _, hc, hP =>
      refine br_f rfl (br_t rfl ?_)
      refine ⟨⟨rfl, rfl⟩, _, hc, A.x7, A.n7, ?_⟩
      exact ⟨by show 1 ≤ 100000; decide, hP⟩
    | 8, _, hc, hP =>
      refine br_f rfl (br_f rfl (br_t rfl ?_))
      refine ⟨⟨rfl, rfl⟩, _, hc, A.x8, A.n8, ?_⟩
      exact ⟨by show 1 ≤ 100000; decide, hP⟩
    | 9, _, hc, hP =>
      refine br_f rfl (br_f rfl (br_f rfl ?_))
      refine ⟨⟨rfl, rfl⟩, _, hc, A.x9, A.n9, ?_⟩
      conv => whnf
      refine ⟨⟨rfl, rfl⟩, _, hc, A.x9, A.n10, ?_⟩
      exact ⟨by show 2 ≤ 100000; decide, hP⟩
theorem eqD_same {a : D} (h : shapedD a = true) : eqD a a = true := by
  unfold shapedD at h
  rw [Bool.and_eq_true] at h
  exact SeqAt.eqv_refl _ (SeqAt.canLay_of_shaped h.2)
def onesD : List D := [.str "a", .str "", .int 7, .tup [.str "put", .int 0], .non]
def twosD : List D := [.tup [], .str "kind", .int 0, .non]
theorem parts_shaped (k : Nat) {one two : D} (h1 : one ∈ onesD) (h2 : two ∈ twosD) : shapedD (.lst (partsK k one two)) = true := by
  have a1 : onesD.all (fun x => shapedD (.lst [x])) = true := by decide +kernel
  have a2 : onesD.all (fun x => twosD.all fun y => shapedD (.lst [x, y])) = true := by decide +kernel
  have b1 := List.all_eq_true.mp a1 one h1
  have b2 := List.all_eq_true.mp (List.all_eq_true.mp a2 one h1) two h2
  unfold partsK
  split
  · exact b1
  · exact b1
  · exact b2
  · decide +kernel
def spRight : DSp := fun ds M P _ => ∃ (k : Nat) (one two : D), ds = [.d (.int (k : Int)), .d one, .d two] ∧ k < 10 ∧ one ∈ onesD ∧ two ∈ twosD ∧ ∀ M', P (.d (.bl true)) M'
theorem ok_right (N : Blt mg) (A : KAll K mg) (G_law_thrown : CalleeN P w K mg base "_law_thrown" 4 pThrown (spThrown A.c)) (H_law_classes : CalleeH P w K mg base "_law_classes" 1 pClasses (spClasses A.c)) (H_law_parts : CalleeH P w K mg base "_law_parts" 1 pParts (spParts A.c))
    (F : FunG K mg "_law_right" sRight pRight) : Callee P w K mg base "_law_right" 6 pRight spRight := by
  refine callee_dl F scRight (fun ds M P x h => ?_) (fun f cdv A' outer s H E hr => ?_)
  · obtain ⟨k, one, two, rfl, _⟩ := h
    rfl
  · have hu := hr.units
    refine ⟨_, (dss_cons (ds_set 3 scRight.nd de_bl)
    (dss_cons (ds_set 4 scRight.nd (de_bin do_add (de_sl (de_lst (da_cons (de_var 1) da_nil)) dp_none (dp_some (de_callTy dc_int rfl N.int boot_int (da_cons (de_cmp do_gt (de_var 0) de_int) da_nil)))) (de_sl (de_lst (da_cons (de_var 2) da_nil)) dp_none (dp_some (de_callTy dc_int rfl N.int boot_int (da_cons (de_cmp do_gt (de_var 0) de_int) da_nil))))))
    (dss_cons (ds_tryN rfl rfl scRight.nd ⟨rfl, by decide, .inl A.gSE⟩ (i := 6) rfl rfl (fun pn xe ps => (dssN_one (dsN_call G_law_thrown (hr.mono (by decide)) (da_cons (de_var 0) (da_cons (de_var 1) (da_cons (de_var 2) da_nil)))))) (fun a oe cls d pn hz hf => (dss_cons (ds_set 3 scRight.nd (de_and (de_isPT K "ValueError" (List.mem_cons_self ..) hz.zc hf N.isinstance A.mVE PyProof.Rows.Boot.«ValueError» (de_var 6)) (de_one (de_cmp (do_eq hu) (de_callH H_law_classes (L2H.roomH_mark (hr.mono (by decide)) _) (List.mem_cons_self ..) hz.zc (hotS hz hf) (da_cons (de_var 6) da_nil)) (de_lcH (p := (a, oe)) (List.mem_cons_self ..) (hotS hz hf) scRight.nd (diH_range1 rfl N.range (da_cons de_int da_nil)) (blkOk_by (own := [("_law_other", 5)]) (N := nRight) rfl) (fun _ _ _ _ _ => (dgw_name 5 (by decide) scRight.nd)) (fun _ _ _ _ _ => dts_nil) (fun _ _ _ _ _ => (de_cmp (do_eq hu) (de_var 5) (de_var 0))))))))
    (dss_one (ds_set 3 scRight.nd (de_and (de_var 3) (de_one (de_cmp (do_eq hu) (de_callH H_law_parts (L2H.roomH_mark (hr.mono (by decide)) _) (List.mem_cons_self ..) hz.zc (hotS hz hf) (da_cons (de_var 0) (da_cons (de_var 6) da_nil))) (de_var 4)))))))))
    (dss_one (ds_ret (de_var 3)))))), fun ds M P x h => ?_⟩
    obtain ⟨k, one, two, rfl, hk, h1, h2, hP⟩ := h
    -- what is due
    have due : DL.cutD [one] none (some (if decide (6 < (k : Int)) = true then 1 else 0)) ++ DL.cutD [two] none (some (if decide (8 < (k : Int)) = true then 1 else 0)) = partsK k one two := by
      match k, hk with
      | 0, _ => rfl
      | 1, _ => rfl
      | 2, _ => rfl
      | 3, _ => rfl
      | 4, _ => rfl
      | 5, _ => rfl
      | 6, _ => rfl
      | 7, _ => rfl
      | 8, _ => rfl
      | 9, _ => rfl
    have few : (partsK k one two).length ≤ 100000 := by
      unfold partsK
      split <;> simp
    refine ⟨by show 1 ≤ 100000; decide, ?_⟩
    conv => whnf
    refine ⟨by show 1 ≤ 100000; decide, ?_⟩
    conv => whnf
    refine ⟨by rw [← List.length_append, due]; exact few, ?_⟩
    rw [due]
    refine ⟨k, one, two, rfl, hk, fun M1 => ?_⟩
    refine ⟨A.exm k hk, fun a d hd => ?_⟩
    conv => whnf
    refine ⟨⟨rfl, rfl⟩, _, _, rfl, A.ex k hk, A.kve k hk, ?_⟩
    refine br_t rfl ?_
    refine ⟨k, _, _, rfl, hk, rfl, ?_⟩
    refine ⟨by decide, ?_⟩
    have hb : ∀ i : Nat, (false ^^ decide ((0 : Int) + (i : Int) = (k : Int))) = decide (k = i) := fun i => by
      rw [Bool.false_xor]
      refine decide_eq_decide.mpr ?_
      omega
    refine ⟨fun i acc _ => acc = (List.range i).map fun j => DV.d (.bl (decide (k = j))), rfl, ?_, ?_⟩
    · rintro i y acc M2 hy rfl
      obtain ⟨hi, rfl⟩ := rangeL_get.mp hy
      have hi : i < 10 := hi
      refine ⟨trivial, br_t rfl ?_⟩
      conv => whnf
      rw [hb]
      refine ⟨by simp; omega, ?_⟩
      show _ = _
      rw [List.range_succ, List.map_append]
      rfl
    rintro acc M2 rfl
    refine ⟨trivial, ?_⟩
    rw [show (rangeL 0 (Int.toNat 10)).length = 10 from rfl]
    have s1 : shapedD (onesK k) = true := (shaped_lst (fun i => D.bl (decide (k = i))) 0 (List.range 10) (fun _ _ => rfl) (fun _ _ => rfl) (fun _ _ => Nat.le_refl _) (by omega)).1
    have q1 := eqD_same s1
    conv => whnf
    refine ⟨⟨s1, s1⟩, ?_⟩
    refine br_t (by show (false ^^ eqD (onesK k) (onesK k)) = true; rw [q1]; rfl) ?_
    refine ⟨k, one, two, rfl, hk, rfl, ?_⟩
    have s2 := parts_shaped k h1 h2
    have q2 := eqD_same s2
    conv => whnf
    refine ⟨⟨s2, s2⟩, ?_⟩
    have := hP M2
    rwa [show (true : Bool) = (false ^^ eqD (.lst (partsK k one two)) (.lst (partsK k one two))) from by rw [q2]; rfl] at this
end
abbrev sLaw : Stmt := top 20
abbrev nLaw : List Str := ["_law_script", "_law_h", "_law_one", "_law_two", "_law_k"]
abbrev pLaw : List Str := ["_law_script"]
theorem scLaw : FnScope nLaw pLaw (defScope sLaw) := ⟨rfl, rfl, rfl, by decide +kernel, rfl, by decide +kernel, by decide +kernel⟩
section
variable {P : Program} {w : World} {K : PySem.W.Frag} {mg : Str → Option Value} {base : Heap}
theorem pickD {xs : List D} {r : Int} (r0 : 0 ≤ r) (r1 : r < xs.length) : ∃ x, x ∈ xs ∧ atI (xs.map DV.d) r = some (.d x) := by
  have hl : r.toNat < xs.length := by omega
  refine ⟨xs[r.toNat], List.getElem_mem hl, ?_⟩
  have := atI_nat (xs := xs.map DV.d) (j := r.toNat) (v := .d xs[r.toNat]) (by rw [List.getElem?_map, List.getElem?_eq_getElem hl]; rfl)
  rwa [Int.toNat_of_nonneg r0] at this
def spLaw : DSp := fun ds M P _ => ∃ ns : List Int, ds = [.d (.frl (ns.map D.int))] ∧ ns.length ≤ 63 ∧ M = [] ∧ ∀ M', P (.d (.bl true)) M'
theorem ok_law (N : Blt mg) (G_law_mix : Callee P w K mg base "_law_mix" 1 pMix spMix) (G_law_next : Callee P w K mg base "_law_next" 1 pNext spNext) (G_law_right : Callee P w K mg base "_law_right" 6 pRight spRight) (F : FunG K mg "law" sLaw pLaw) : Callee P w K mg base "law" 10 pLaw spLaw := by
  refine callee_dl F scLaw (fun ds M P x h => ?_) (fun f cdv A' outer s H E hr => ?_)
  · obtain ⟨ns, rfl, _⟩ := h
    rfl
  · have hu := hr.units
    refine ⟨_, (dss_cons (ds_set 1 scLaw.nd (de_callN G_law_mix (hr.mono (by decide)) (da_cons (de_var 0) (da_cons de_int da_nil))))
    (dss_cons (ds_set 2 scLaw.nd (de_ix hu (de_lst (da_cons de_str (da_cons de_str (da_cons de_int (da_cons (de_tup (da_cons de_str (da_cons de_int da_nil))) (da_cons de_non da_nil)))))) (de_callN G_law_next (hr.mono (by decide)) (da_cons (de_var 1) (da_cons de_int da_nil)))))
    (dss_cons (ds_set 3 scLaw.nd (de_ix hu (de_lst (da_cons (de_tup da_nil) (da_cons de_str (da_cons de_int (da_cons de_non da_nil))))) (de_callN G_law_next (hr.mono (by decide)) (da_cons (de_var 1) (da_cons de_int da_nil)))))
    (dss_one (ds_ret (de_callB (dc_all rfl) rfl N.all boot_all (da_cons (de_lc rfl scLaw.nd (di_range1 rfl N.range (da_cons de_int da_nil)) (blkOk_by (own := [("_law_k", 4)]) (N := nLaw) rfl) (fun _ _ _ _ _ => (dgw_name 4 (by decide) scLaw.nd)) (fun _ _ _ _ _ => dts_nil) (fun _ _ _ _ _ => (de_callN G_law_right (hr.mono (by decide)) (da_cons (de_var 4) (da_cons (de_var 2) (da_cons (de_var 3) da_nil)))))) da_nil))))))), fun ds M P x h => ?_⟩
    obtain ⟨ns, rfl, hn, rfl, hP⟩ := h
    refine ⟨ns, 18, rfl, ⟨by decide, by decide⟩, hn, rfl, fun M1 hM1 => ?_⟩
    conv => whnf
    refine ⟨by show 2 ≤ 100000; decide, ?_⟩
    conv => whnf
    refine ⟨by show 5 ≤ 100000; decide, ?_⟩
    refine ⟨[], 5, rfl, hM1, ⟨by decide, by decide⟩, fun r M2 r0 r1 hM2 => ?_⟩
    obtain ⟨one, h1, hat⟩ := pickD (xs := onesD) r0 (show r < 5 from r1)
    conv => whnf
    rw [show atI (List.map DV.d [D.str (Str.ofString "a"), D.str (Str.ofString ""), D.int 7, D.tup [D.str (Str.ofString "put"), D.int 0], D.non]) r = some (.d one) from hat]
    conv => whnf
    refine ⟨by show 0 ≤ 100000; decide, ?_⟩
    conv => whnf
    refine ⟨by show 4 ≤ 100000; decide, ?_⟩
    refine ⟨[], 4, rfl, hM2, ⟨by decide, by decide⟩, fun q M3 q0 q1 hM3 => ?_⟩
    obtain ⟨two, h2, hat2⟩ := pickD (xs := twosD) q0 (show q < 4 from q1)
    conv => whnf
    rw [show atI (List.map DV.d [D.tup [], D.str (Str.ofString "kind"), D.int 0, D.non]) q = some (.d two) from hat2]
    conv => whnf
    refine ⟨by decide, ?_⟩
    refine ⟨fun i acc _ => acc = List.replicate i (DV.d (.bl true)), rfl, ?_, ?_⟩
    · rintro i y acc M4 hy rfl
      obtain ⟨hi, rfl⟩ := rangeL_get.mp hy
      have hi : i < 10 := hi
      refine ⟨trivial, br_t rfl ?_⟩
      refine ⟨i, one, two, by rw [Int.zero_add]; try rfl, hi, h1, h2, fun M5 => ?_⟩
      refine ⟨by simp; omega, ?_⟩
      show _ = _
      rw [List.replicate_succ']
    rintro acc M4 rfl
    refine ⟨trivial, ?_⟩
    rw [show (rangeL 0 (Int.toNat 10)).length = 10 from rfl]
    exact ⟨_, rfl, hP M4⟩
end
/-! ### what the classes say -/
def xnm : Nat → Str
  | 0 => "InvalidSize"
  | 1 => "InvalidSample"
  | 2 => "InvalidWish"
  | 3 => "InvalidBooks"
  | 4 => "InvalidLimit"
  | 5 => "NotComparable"
  | 6 => "Unfit"
  | 7 => "InvalidRule"
  | 8 => "InvalidDeed"
  | _ => "InvalidText"
def kitRow (i : Nat) (K : PySem.W.Frag) : Bool := (List.range 10).all fun j => decide (PySem.W.kitOne K (.ref (He.ga K (xnm i))) (.ref (He.ga K (xnm j))) = some (decide (i = j)))
def kveB (K : PySem.W.Frag) : Bool := (List.range 10).all fun i => decide (PySem.W.kitOne K (.ref (He.ga K (xnm i))) (.type "ValueError") = some true)
theorem kitRow_ok {i : Nat} {K : PySem.W.Frag} (h : kitRow i K = true) {j : Nat} (hj : j < 10) : PySem.W.kitOne K (.ref (He.ga K (xnm i))) (.ref (He.ga K (xnm j))) = some (decide (i = j)) := of_decide_eq_true (List.all_eq_true.mp h j (List.mem_range.mpr hj))
theorem kveB_ok {K : PySem.W.Frag} (h : kveB K = true) {i : Nat} (hi : i < 10) : PySem.W.kitOne K (.ref (He.ga K (xnm i))) (.type "ValueError") = some true := of_decide_eq_true (List.all_eq_true.mp h i (List.mem_range.mpr hi))
end LW

/-! a law's head: what is known behind the top, the known dicts apart -/
namespace DL
open PySem PySem.Spec PyProof.Rows L2
/-! ### defs by where they stand -/
structure DefA where
  ad : PySem.W.Frag → Addr
  name : Str
  qual : Str
  st : Stmt
def fnA (K : PySem.W.Frag) (a : Addr) : He.FnW := match K.lookup a with
  | some ⟨_, _, .func fd, _⟩ => some (fd.name, fd.qualname, fd.params, fd.body, fd.scope, fd.globals, fd.closure, fd.builtins)
  | _ => none
def DefA.val (d : DefA) : He.FnW := some (d.name, d.qual, defArgs d.st, .stmts (defBody d.st), defScope d.st, mainGlobals, [], builtinsNs)
def noDfl : Value → Bool
  | .none => true
  | _ => false
def DefA.ok (K : PySem.W.Frag) (d : DefA) : Bool := PySem.W.keepIn K (.ref (d.ad K)) && (match K.lookup (d.ad K) with
  | some ⟨_, _, .func fd, _⟩ => PySem.W.codeIn K fd.code d.qual && noDfl fd.defaults
  | _ => false)
theorem bb {a b : Bool} (h : (a && b) = true) : a = true ∧ b = true := Bool.and_eq_true_iff.mp h
theorem DefA.fun_ {K : PySem.W.Frag} {d : DefA} (e : fnA K (d.ad K) = d.val) (c : d.ok K = true) : ∃ fd, Fun K d.name d.qual d.st (d.ad K) fd := by
  obtain ⟨kp, c2⟩ := bb c
  unfold fnA at e
  cases q : K.lookup (d.ad K) with
  | none =>
    rw [q] at c2
    cases c2
  | some o =>
    obtain ⟨oc, od, dt, osl⟩ := o
    rw [q] at c2 e
    cases dt with
    | func fd =>
      obtain ⟨n1, n2, n3, n4, n5, n6, n7, n8, n9, n10, n11, n12, n13, n14, n15⟩ := fd
      have e2 : (some (n1, n2, n3, n4, n5, n6, n7, n15) : He.FnW) = some (d.name, d.qual, defArgs d.st, .stmts (defBody d.st), defScope d.st, mainGlobals, [], builtinsNs) := e
      simp only [Option.some.injEq, Prod.mk.injEq] at e2
      obtain ⟨h1, h2, h3, h4, h5, h6, h7, h8⟩ := e2
      subst h1 h2 h3 h4 h5 h6 h7 h8
      obtain ⟨k1, k2⟩ := bb (show (PySem.W.codeIn K n13 d.qual && noDfl n8) = true from c2)
      have k3 : n8 = .none := by
        cases n8 with
        | none => rfl
        | _ => cases k2
      subst k3
      exact ⟨_, ⟨oc, od, n9, n10, n11, n12, n13, n14, osl, rfl, q, k1⟩, kp⟩
    | _ => cases c2
/-- where a property's getter stands -/
def getA (x m : Str) (K : PySem.W.Frag) : Addr := match PySem.W.recIn K (He.ma K (He.ga K x) m) "property" with
  | some (.ref g :: _) => g
  | _ => 0
/-! ### known dicts -/
inductive CV where
  | int (i : Int) | tx (xs : List Str)
def CV.d : CV → D
  | .int i => .int i
  | .tx xs => .tup (xs.map D.str)
def CV.v : CV → Value → V
  | .int i, _ => .int i
  | .tx _, .ref a => .ref a
  | .tx _, _ => .non
def CV.ok (K : PySem.W.Frag) : CV → Value → Bool
  | .int i, .int j _ => decide (i = j)
  | .tx xs, .ref a => (match K.lookup a with
    | some ⟨.type c, _, .seq its _, _⟩ => decide (c = "tuple") && (decide (its.size ≤ sizeLine) && He.relAll (xs.map V.str) its.toList)
    | _ => false)
  | _, _ => false
theorem CV.rel {K : PySem.W.Frag} {c : CV} {v : Value} (h : c.ok K v = true) : RelV (c.v v) v := by
  cases c with
  | int i =>
    cases v with
    | int j t =>
      have e : i = j := of_decide_eq_true h
      exact ⟨t, by rw [e]⟩
    | _ => cases h
  | tx xs =>
    cases v with
    | ref a => rfl
    | _ => cases h
theorem repL_txtsH {K : PySem.W.Frag} {B : Hp} : ∀ xs : List Str, RepL K B (xs.map D.str) (xs.map V.str)
  | [] => by unfold RepL; trivial
  | x :: xs => by
    unfold RepL
    exact ⟨by simp only [Rep], repL_txtsH xs⟩
theorem CV.rep {K : PySem.W.Frag} {c : CV} {v : Value} (h : c.ok K v = true) (B : Hp) : Rep K B c.d (c.v v) := by
  cases c with
  | int i => simp only [CV.d, CV.v, Rep]
  | tx xs =>
    cases v with
    | ref a =>
      have h1 : (match K.lookup a with
        | some ⟨.type c, _, .seq its _, _⟩ => decide (c = "tuple") && (decide (its.size ≤ sizeLine) && He.relAll (xs.map V.str) its.toList)
        | _ => false) = true := h
      cases q : K.lookup a with
      | none =>
        rw [q] at h1
        cases h1
      | some o =>
        obtain ⟨oc, od, dt, osl⟩ := o
        rw [q] at h1
        cases oc with
        | type c =>
          cases dt with
          | seq its n =>
            obtain ⟨h2, h3⟩ := bb h1
            obtain ⟨h4, h5⟩ := bb h3
            unfold CV.d Rep
            exact ⟨a, xs.map V.str, rfl, .inr ⟨_, its, n, q, congrArg Value.type (of_decide_eq_true h2), rfl, of_decide_eq_true h4, He.relAll_ok h5⟩, repL_txtsH xs⟩
          | _ => cases h1
        | _ => cases dt <;> cases h1
    | _ => cases h
structure TabD where
  name : Str
  kvs : List (Str × CV)
def valsA (K : PySem.W.Frag) : List DictEntry → List (Str × CV) → Bool
  | [], [] => true
  | e :: es, kv :: kvs => kv.2.ok K e.val && valsA K es kvs
  | _, _ => false
def tabA (g : Addr → Option Obj) (K : PySem.W.Frag) (t : TabD) : Bool := match g (He.ga K t.name) with
  | some ⟨.type c, none, .dict es _, sl⟩ => decide (c = "dict") && (sl.isEmpty && (Nat.blt 3 (He.ga K t.name) && (valsA K es.toList t.kvs && decide (t.kvs.map (·.1)).Nodup)))
  | _ => false
def keysA (g : Addr → Option Obj) (K : PySem.W.Frag) (t : TabD) : Option (List (Option (Str × Int))) := match g (He.ga K t.name) with
  | some ⟨_, _, .dict es _, _⟩ => some (es.toList.map He.keyOf)
  | _ => none
/-- the pairs of a known dict -/
def wsOf (es : List DictEntry) (kvs : List (Str × CV)) : List (Key × V) := (es.zip kvs).map fun q => (.inr q.2.1, q.2.2.v q.1.val)
def vsOf (es : List DictEntry) (kvs : List (Str × CV)) : List (Key × Value) := (es.zip kvs).map fun q => (.inr q.2.1, q.1.val)
theorem ws_rep {K : PySem.W.Frag} (B : Hp) : ∀ {es : List DictEntry} {kvs : List (Str × CV)}, valsA K es kvs = true → RepK K B (kvs.map fun q => (.inr q.1, q.2.d)) (wsOf es kvs)
  | [], [], _ => by
    show RepK K B [] []
    unfold RepK
    trivial
  | e :: es, kv :: kvs, h => by
    obtain ⟨h1, h2⟩ := bb h
    show RepK K B ((.inr kv.1, kv.2.d) :: kvs.map fun q => (.inr q.1, q.2.d)) ((.inr kv.1, kv.2.v e.val) :: wsOf es kvs)
    unfold RepK
    exact ⟨rfl, CV.rep h1 B, ws_rep B h2⟩
  | [], _ :: _, h => by cases h
  | _ :: _, [], h => by cases h
theorem ws_kv {K : PySem.W.Frag} : ∀ {es : List DictEntry} {kvs : List (Str × CV)}, valsA K es kvs = true → KV (wsOf es kvs) (vsOf es kvs)
  | [], [], _ => .nil
  | e :: es, kv :: kvs, h => by
    obtain ⟨h1, h2⟩ := bb h
    exact .cons ⟨rfl, CV.rel h1⟩ (ws_kv h2)
  | [], _ :: _, h => by cases h
  | _ :: _, [], h => by cases h
theorem vs_pairs {P : Program} {w : World} {K : PySem.W.Frag} : ∀ {es : List DictEntry} {kvs : List (Str × CV)}, valsA K es kvs = true → es.map He.keyOf = He.keysIn w.params (kvs.map (·.1)) → Pairs (mixKind P w) es (vsOf es kvs)
  | [], [], _, _ => .nil
  | e :: es, kv :: kvs, h, g => by
    obtain ⟨h1, h2⟩ := bb h
    have g1 : He.keyOf e :: es.map He.keyOf = some (kv.1, PyData.keyHash w.params kv.1) :: He.keysIn w.params (kvs.map (·.1)) := g
    injection g1 with g2 g3
    refine .cons ?_ rfl (vs_pairs h2 g3)
    unfold He.keyOf at g2
    split at g2
    · rename_i x t q
      obtain ⟨g4, g5⟩ := Prod.mk.inj (Option.some.inj g2)
      rw [q, g4]
      exact keyIs_str kv.1 t
    · cases g2
  | [], _ :: _, h, _ => by cases h
  | _ :: _, [], h, _ => by cases h
theorem vs_keys : ∀ {es : List DictEntry} {kvs : List (Str × CV)}, es.length = kvs.length → (vsOf es kvs).map (·.1) = kvs.map fun q => (.inr q.1 : Key)
  | [], [], _ => rfl
  | e :: es, kv :: kvs, h => by
    show Sum.inr kv.1 :: (vsOf es kvs).map (·.1) = Sum.inr kv.1 :: _
    rw [vs_keys (by simpa using h)]
  | [], _ :: _, h => by cases h
  | _ :: _, [], h => by cases h
theorem valsA_len {K : PySem.W.Frag} : ∀ {es : List DictEntry} {kvs : List (Str × CV)}, valsA K es kvs = true → es.length = kvs.length
  | [], [], _ => rfl
  | e :: es, kv :: kvs, h => by
    obtain ⟨h1, h2⟩ := bb h
    simp [valsA_len h2]
  | [], _ :: _, h => by cases h
  | _ :: _, [], h => by cases h
theorem keys_of {P : Program} {w : World} {es : List DictEntry} {ks : List Str} (g : es.map He.keyOf = He.keysIn w.params ks) : ∀ e ∈ es, ∃ k, (mixKind P w).is k e.key = true ∧ e.hash = (mixKind P w).hash k := by
  intro e he
  have hm : He.keyOf e ∈ He.keysIn w.params ks := by
    rw [← g]
    exact List.mem_map.mpr ⟨e, he, rfl⟩
  obtain ⟨x, _, hx⟩ := List.mem_map.mp hm
  unfold He.keyOf at hx
  split at hx
  · rename_i y t q
    obtain ⟨g4, g5⟩ := Prod.mk.inj (Option.some.inj hx)
    exact ⟨.inr y, by rw [q]; exact keyIs_str y t, by rw [← g5, g4]; rfl⟩
  · cases hx
/-- a known dict as it stands -/
structure TabOk (w : World) (h : Heap) (K : PySem.W.Frag) (t : TabD) : Prop where
  ex : ∃ es n, h.get? (He.ga K t.name) = some ⟨.type "dict", none, .dict es n, #[]⟩ ∧ valsA K es.toList t.kvs = true ∧ es.toList.map He.keyOf = He.keysIn w.params (t.kvs.map (·.1))
  low : 3 < He.ga K t.name
  nod : (t.kvs.map (·.1)).Nodup
theorem tab_ok {w : World} {h : Heap} {K : PySem.W.Frag} {t : TabD} (a : tabA h.get? K t = true) (b : keysA h.get? K t = some (He.keysIn w.params (t.kvs.map (·.1)))) : TabOk w h K t := by
  unfold tabA at a
  unfold keysA at b
  cases q : h.get? (He.ga K t.name) with
  | none =>
    rw [q] at a
    cases a
  | some o =>
    obtain ⟨oc, od, dt, osl⟩ := o
    rw [q] at a b
    cases oc with
    | type c =>
      cases od with
      | none =>
        cases dt with
        | dict es n =>
          obtain ⟨a1, a2⟩ := bb (show (decide (c = "dict") && (osl.isEmpty && (Nat.blt 3 (He.ga K t.name) && (valsA K es.toList t.kvs && decide (t.kvs.map (·.1)).Nodup)))) = true from a)
          obtain ⟨a3, a4⟩ := bb a2
          obtain ⟨a5, a6⟩ := bb a4
          obtain ⟨a7, a8⟩ := bb a6
          have e1 : c = "dict" := of_decide_eq_true a1
          have e2 : osl = #[] := Array.isEmpty_iff.mp a3
          subst e1 e2
          exact ⟨⟨es, n, q, a7, Option.some.inj b⟩, Nat.le_of_ble_eq_true a5, of_decide_eq_true a8⟩
        | _ => cases a
      | some d => cases dt <;> cases a
    | _ => cases od <;> cases dt <;> cases a
theorem TabOk.obj {P : Program} {w : World} {h : Heap} {K : PySem.W.Frag} {t : TabD} (T : TabOk w h K t) (hl : t.kvs.length ≤ 1000) : ∃ o ws, (∀ H, ObjOk P w H h (He.ga K t.name) (.frz o (.dK ws))) ∧ (∀ B, RepK K B (t.kvs.map fun q => (.inr q.1, q.2.d)) ws) ∧ h.get? (He.ga K t.name) = some o ∧ ∃ es ep, o.data = .dict es ep := by
  obtain ⟨es, n, e, hv, hk⟩ := T.ex
  refine ⟨_, wsOf es.toList t.kvs, fun H => ⟨e, ?_, ?_, vsOf es.toList t.kvs, ws_kv hv, ?_⟩, fun B => ws_rep B hv, e, es, n, rfl⟩
  · unfold wsOf
    rw [List.length_map, List.length_zip]
    exact Nat.le_trans (Nat.min_le_right _ _) (Nat.le_trans hl (by decide))
  · have := T.low
    exact beq_eq_false_iff_ne.mpr (fun z => by rw [z] at this; exact absurd this (by decide))
  · refine ⟨_, es, n, e, ⟨rfl, rfl, rfl⟩, rfl, fun e he => keys_of hk e (by simpa using he), vs_pairs hv hk, ?_⟩
    rw [vs_keys (valsA_len hv)]
    have : (t.kvs.map fun q => (.inr q.1 : Key)) = (t.kvs.map (·.1)).map Sum.inr := by rw [List.map_map]; rfl
    rw [this]
    exact List.Pairwise.map (f := Sum.inr) (fun a b hne z => hne (Sum.inr.inj z)) T.nod
/-! ### the Hook -/
def cutK (ts : List TabD) (F : PySem.W.Frag) : PySem.W.Frag := F.filter fun q => ts.all fun t => !(q.1 == He.ga F t.name)
abbrev AlA : Type := List He.FnW × List (Option (List (Option (Str × Int)))) × Bool
def obsA (n : Nat) (fn : List DefA) (ts : List TabD) (ex : List (PySem.W.Frag → Bool)) (g : Addr → Option Obj) : AlA :=
  (fn.map fun d => fnA (cutK ts (He.frG g (He.asD g n))) (d.ad (cutK ts (He.frG g (He.asD g n)))), ts.map fun t => keysA g (cutK ts (He.frG g (He.asD g n))) t,
    (fn.all fun d => d.ok (cutK ts (He.frG g (He.asD g n)))) && ((ts.all fun t => tabA g (cutK ts (He.frG g (He.asD g n))) t && decide (He.ga (cutK ts (He.frG g (He.asD g n))) t.name = He.ga (He.frG g (He.asD g n)) t.name)) && ex.all fun f => f (cutK ts (He.frG g (He.asD g n)))))
def valA (fn : List DefA) (ts : List TabD) (w : World) : AlA := (fn.map DefA.val, ts.map fun t => some (He.keysIn w.params (t.kvs.map (·.1))), true)
structure SaysA (fn : List DefA) (ts : List TabD) (ex : List (PySem.W.Frag → Bool)) (w : World) (h : Heap) (K : PySem.W.Frag) : Prop where
  kin : K.In h
  defs : ∀ d ∈ fn, ∃ fd, Fun K d.name d.qual d.st (d.ad K) fd
  tabs : ∀ t ∈ ts, TabOk w h K t ∧ K.lookup (He.ga K t.name) = none
  facts : ∀ f ∈ ex, f K = true
theorem lookup_memA {a : Addr} {o : Obj} : ∀ {l : List (Addr × Obj)}, l.lookup a = some o → (a, o) ∈ l
  | [], h => by cases h
  | (b, u) :: r, h => by
    have h2 : (match a == b with | true => some u | false => r.lookup a) = some o := h
    cases q : (a == b) with
    | true =>
      rw [q] at h2
      have e : u = o := Option.some.inj h2
      rw [beq_iff_eq.mp q, e]
      exact List.mem_cons_self
    | false =>
      rw [q] at h2
      exact List.mem_cons_of_mem _ (lookup_memA h2)
theorem frG_memA {g : Addr → Option Obj} {as : List Addr} {a : Addr} {o : Obj} (h : (a, o) ∈ He.frG g as) : g a = some o := by
  obtain ⟨b, _, e⟩ := List.mem_filterMap.mp h
  cases hb : g b with
  | none =>
    rw [hb] at e
    cases e
  | some u =>
    rw [hb] at e
    have e2 : (b, u) = (a, o) := Option.some.inj e
    injection e2 with e3 e4
    rw [← e3, ← e4]
    exact hb
theorem map_at {α β : Type} {f g : α → β} : ∀ {l : List α}, l.map f = l.map g → ∀ x ∈ l, f x = g x
  | [], _, _, hx => by cases hx
  | a :: l, h, x, hx => by
    injection h with h1 h2
    rcases List.mem_cons.mp hx with rfl | hx
    · exact h1
    · exact map_at h2 x hx
theorem says_of {n : Nat} {fn : List DefA} {ts : List TabD} {ex : List (PySem.W.Frag → Bool)} {w : World} {h : Heap} (e : obsA n fn ts ex h.get? = valA fn ts w) : SaysA fn ts ex w h (cutK ts (He.frG h.get? (He.asD h.get? n))) := by
  have e1 : fn.map (fun d => fnA (cutK ts (He.frG h.get? (He.asD h.get? n))) (d.ad (cutK ts (He.frG h.get? (He.asD h.get? n))))) = fn.map DefA.val := congrArg (fun z : AlA => z.1) e
  have e2 : (ts.map fun t => keysA h.get? (cutK ts (He.frG h.get? (He.asD h.get? n))) t) = ts.map fun t => some (He.keysIn w.params (t.kvs.map (·.1))) := congrArg (fun z : AlA => z.2.1) e
  have e3 : ((fn.all fun d => d.ok (cutK ts (He.frG h.get? (He.asD h.get? n)))) && ((ts.all fun t => tabA h.get? (cutK ts (He.frG h.get? (He.asD h.get? n))) t && decide (He.ga (cutK ts (He.frG h.get? (He.asD h.get? n))) t.name = He.ga (He.frG h.get? (He.asD h.get? n)) t.name)) && ex.all fun f => f (cutK ts (He.frG h.get? (He.asD h.get? n))))) = true := congrArg (fun z : AlA => z.2.2) e
  obtain ⟨a1, a2⟩ := bb e3
  obtain ⟨a3, a4⟩ := bb a2
  refine ⟨fun a o hl => ?_, fun d hd => DefA.fun_ (map_at e1 d hd) (List.all_eq_true.mp a1 d hd), fun t ht => ?_, fun f hf => List.all_eq_true.mp a4 f hf⟩
  · exact frG_memA (List.mem_filter.mp (lookup_memA hl)).1
  · obtain ⟨b1, b2⟩ := bb (List.all_eq_true.mp a3 t ht)
    refine ⟨tab_ok b1 (map_at e2 t ht), ?_⟩
    have b3 := of_decide_eq_true b2
    cases q : (cutK ts (He.frG h.get? (He.asD h.get? n))).lookup (He.ga (cutK ts (He.frG h.get? (He.asD h.get? n))) t.name) with
    | none => rfl
    | some o =>
      have := (List.mem_filter.mp (lookup_memA q)).2
      have := List.all_eq_true.mp this t ht
      rw [b3] at this
      simp at this
def hookA (n : Nat) (fn : List DefA) (ts : List TabD) (ex : List (PySem.W.Frag → Bool)) : PySem.W.Hook where
  α := AlA
  obs := fun s => obsA n fn ts ex s.heap.get?
  val := fun w => valA fn ts w
  says := fun w h => ∃ K : PySem.W.Frag, SaysA fn ts ex w h K
  of := fun _ _ e => ⟨_, says_of e⟩
  keeps := fun _ _ _ ⟨K, c⟩ k => ⟨K, PySem.W.Frag.In.keeps c.kin k, c.defs, fun t ht => ⟨⟨let ⟨es, n, e, r⟩ := (c.tabs t ht).1.ex; ⟨es, n, k _ _ e, r⟩, (c.tabs t ht).1.low, (c.tabs t ht).1.nod⟩, (c.tabs t ht).2⟩, c.facts⟩
theorem obsA_eq {n : Nat} {fn : List DefA} {ts : List TabD} {ex : List (PySem.W.Frag → Bool)} {g : Addr → Option Obj} {s : Shared} (h : ∀ a, g a = s.heap.get? a) : obsA n fn ts ex g = (hookA n fn ts ex).obs s := by
  have e : g = s.heap.get? := funext h
  rw [e] <;> rfl
/-! ### the call of the law -/
theorem law_callC {P : Program} {w : World} {K : PySem.W.Frag} {mg mb : Str → Option Value} {CX : CXT} {k : Nat} {fa a : Addr} {fd : FuncData} {x : Str} {sp : Sp} {s₁ : Shared} {vs : List Value} {ns : List Int} {cs : List (Addr × HO)}
    (KX : K.In s₁.heap) (hns : s₁.heap.Ns mainGlobals mg) (hb : s₁.heap.Ns builtinsNs mb) (hbb : ∀ x : Str, x ≠ "__name__" → mb x = bootBuiltins x) (hlim : s₁.heap.NoLimit) (hg : s₁.gens = #[])
    (ha : s₁.heap.get? a = some { cls := .type "list", data := .seq vs.toArray }) (hi : IntsAre vs ns) (hl : ns.length ≤ sizeLine) (hr : Room k callerA)
    (hcs : ∀ p ∈ cs, ∃ o ws, p.2 = .frz o (.dK ws) ∧ (∀ H, ObjOk P w H s₁.heap p.1 (.frz o (.dK ws))) ∧ 3 < p.1 ∧ K.lookup p.1 = none ∧ s₁.heap.get? p.1 = some o ∧ ∃ es ep, o.data = .dict es ep) (hnd : (cs.map (·.1)).Nodup)
    (F : ∀ base : Heap, K.In base → base.Ns mainGlobals mg → FnOk P w K mg base CX k fa fd [x] sp) (hbind : ∀ (s : Shared) (u : Value), BindsTo s fd ⟨[u], []⟩ [(x, u)])
    (hsp : ∀ H : Hp, (∀ p ∈ cs, H p.1 = some p.2) → SqL K H a (ns.map V.int) → sp [.ref a] H (fun v _ => v = .bl true) fun _ _ _ => False)
    (hCX : ∀ H e s', CX [] H s₁ (fun _ _ _ => False) e s' → False) :
    codeAny (model P w) callerA (.call (.ref fa) ⟨[.ref a], []⟩) (fun r s' => r = .ok (.ret (.bool true)) ∧ OldK s₁.heap s'.heap ∧ s'.os = s₁.os ∧ AllBare s'.gens) s₁ := by
  have rv := vals_ints hi
  have lenV := hi.length
  have nca : ∀ p ∈ cs, p.1 ≠ a := fun p hp z => by
    obtain ⟨o, ws, _, _, _, _, e, es, ep, d⟩ := hcs p hp
    rw [z, ha] at e
    cases e
    have d' : Data.seq vs.toArray _ = Data.dict es ep := d
    cases d'
  have core : ∀ H : Hp, (∀ b u, H b = some u → ∃ ob v, u = .frz ob v) → SqL K H a (ns.map V.int) → HOk P w H s₁.heap → (∀ b, H b ≠ none → b = a ∨ 3 < b) → (∀ b, H b ≠ none → K.lookup b = none) → (∀ p ∈ cs, H p.1 = some p.2) →
      codeAny (model P w) callerA (.call (.ref fa) ⟨[.ref a], []⟩) (fun r s' => r = .ok (.ret (.bool true)) ∧ OldK s₁.heap s'.heap ∧ s'.os = s₁.os ∧ AllBare s'.gens) s₁ := by
    intro H hO hS hok hA hK hC
    have base_of : ∀ {b : Addr} {o : Obj}, s₁.heap.get? b = some o → H b = none → (hidT s₁.heap H).get? b = some o := fun e n => hidT_get e n
    have noA : ∀ {b : Addr} {o : Obj} {es : Array DictEntry} {ep : Nat}, b ≤ 3 → s₁.heap.get? b = some o → o.data = .dict es ep → H b = none := fun {b o es ep} h3 e d => by
      cases q : H b with
      | none => rfl
      | some u =>
        rcases hA b (by rw [q]; simp) with e' | e'
        · subst e'
          rw [ha] at e; cases e
          have d' : Data.seq vs.toArray _ = Data.dict es ep := d
          cases d'
        · exact absurd e' (Nat.not_lt.mpr h3)
    have nsK : ∀ {b : Addr} {m : Str → Option Value}, b ≤ 3 → s₁.heap.Ns b m → (hidT s₁.heap H).Ns b m := fun {b m} h3 ⟨o, es, ep, e, d, r⟩ => ⟨o, es, ep, base_of e (noA h3 e d), d, r⟩
    have hKb : K.In (hidT s₁.heap H) := fun b o e => base_of (KX b o e) (by
      cases q : H b with
      | none => rfl
      | some u =>
        rw [hK b (by rw [q]; simp)] at e; cases e)
    have hM : Mod K mg (hidT s₁.heap H) := ⟨hKb, nsK (by decide) hns, ⟨mb, nsK (by decide) hb, hbb⟩, let ⟨mc, h1, h2⟩ := hlim; ⟨mc, nsK (by decide) h1, h2⟩⟩
    have e0 : Env0 P w K mg (hidT s₁.heap H) callerA [] s₁ H := ⟨rfl, hM, fun b o e => of_hidT e, Nat.le_of_eq (hidT_size _ _), trivial, fun b hb => absurd (show b ∈ ([] : List Addr) from hb) (by simp), hok, .of_eq hg⟩
    refine codeAny_mono ((F _ hKb (nsK (by decide) hns)).run callerA [] s₁ H ⟨[.ref a], []⟩ [.ref a] [.ref a] _ _ hr e0 (hbind s₁ (.ref a)) (.cons rfl .nil) (hsp H hC hS)) fun r s' h => ?_
    cases r with
    | error e => exact (hCX H e s' h).elim
    | ok fl =>
      cases fl with
      | next => exact False.elim h
      | brk => exact False.elim h
      | cont => exact False.elim h
      | ret u =>
        obtain ⟨v, H', os, bare, un, hok', r', q⟩ := h
        have q' : v = .bl true := q
        subst q'
        obtain rfl : u = Value.bool true := r'
        refine ⟨rfl, OldK.of_keep fun b o e => ?_, os, bare⟩
        cases q : H b with
        | none => exact un.keep b o e q (by intro z; exact absurd (show b ∈ ([] : List Addr) from z) (by simp)) (by simp)
        | some u =>
          obtain ⟨ob, v, z⟩ := hO b u q
          subst z
          have z2 := un.frzs b ob _ q
          obtain ⟨e1, _⟩ := hok b _ q
          obtain ⟨e2, _⟩ := hok' b _ z2
          rw [e] at e1; cases e1
          exact e2
  have memcs : ∀ {b : Addr} {u : HO}, cs.lookup b = some u → (b, u) ∈ cs := fun {b u} => by
    have key : ∀ l : List (Addr × HO), l.lookup b = some u → (b, u) ∈ l := fun l => by
      induction l with
      | nil => intro h; cases h
      | cons c r ih =>
        intro h
        obtain ⟨c1, c2⟩ := c
        have h2 : (match b == c1 with | true => some c2 | false => r.lookup b) = some u := h
        cases q : (b == c1) with
        | true =>
          rw [q] at h2
          rw [beq_iff_eq.mp q, Option.some.inj h2]
          exact List.mem_cons_self
        | false =>
          rw [q] at h2
          exact List.mem_cons_of_mem _ (ih h2)
    exact key cs
  have lookcs : ∀ p ∈ cs, cs.lookup p.1 = some p.2 := by
    have key : ∀ l : List (Addr × HO), (l.map (·.1)).Nodup → ∀ p ∈ l, l.lookup p.1 = some p.2 := fun l => by
      induction l with
      | nil => intro _ p hp; cases hp
      | cons c r ih =>
        intro hn p hp
        obtain ⟨c1, c2⟩ := c
        show (match p.1 == c1 with | true => some c2 | false => r.lookup p.1) = some p.2
        rw [List.map_cons, List.nodup_cons] at hn
        rcases List.mem_cons.mp hp with rfl | hp
        · simp
        · have : p.1 ≠ c1 := fun z => hn.1 (z ▸ List.mem_map.mpr ⟨p, hp, rfl⟩)
          rw [beq_eq_false_iff_ne.mpr this]
          exact ih hn.2 p hp
    exact key cs hnd
  have csH : ∀ (H : Hp) {b : Addr} {u : HO}, cs.lookup b = some u → ObjOk P w H s₁.heap b u := fun H {b u} h => by
    obtain ⟨o, ws, e, ho, _⟩ := hcs _ (memcs h)
    rw [show u = _ from e]
    exact ho H
  have csF : ∀ {b : Addr} {u : HO}, cs.lookup b = some u → ∃ ob v, u = .frz ob v := fun {b u} h => by
    obtain ⟨o, ws, e, _⟩ := hcs _ (memcs h)
    exact ⟨_, _, e⟩
  have cs3 : ∀ {b : Addr}, cs.lookup b ≠ none → 3 < b ∧ K.lookup b = none := fun {b} h => by
    cases q : cs.lookup b with
    | none => exact absurd q h
    | some u =>
      obtain ⟨o, ws, _, _, h3, h4, _⟩ := hcs _ (memcs q)
      exact ⟨h3, h4⟩
  cases hk : K.lookup a with
  | some o =>
    have e := KX a o hk
    rw [ha] at e
    cases e
    exact core (fun b => cs.lookup b) (fun b u h => csF h) (.inr ⟨_, vs.toArray, _, hk, rfl, rfl, rfl, by rw [List.size_toArray, lenV]; exact hl, by simpa using rv⟩) (fun b u z => csH _ z) (fun b z => .inr (cs3 z).1) (fun b z => (cs3 z).2) lookcs
  | none =>
    refine core (fun b => if b = a then some (.frz { cls := .type "list", data := .seq vs.toArray } (.lst (ns.map V.int))) else cs.lookup b) (fun b u h => ?_) (.inl (.inr ⟨{ cls := .type "list", data := .seq vs.toArray }, if_pos rfl⟩)) (fun b u z => ?_) (fun b z => ?_) (fun b z => ?_) fun p hp => ?_
    · by_cases hb : b = a
      · have h' := (if_pos hb).symm.trans h
        cases h'
        exact ⟨_, _, rfl⟩
      · exact csF ((if_neg hb).symm.trans h)
    · by_cases hb : b = a
      · have z' := (if_pos hb).symm.trans z
        cases z'
        subst hb
        exact ⟨ha, by rw [List.length_map]; exact hl, vs, _, rv, ha⟩
      · exact csH _ ((if_neg hb).symm.trans z)
    · by_cases hb : b = a
      · exact .inl hb
      · exact .inr (cs3 fun q => z ((if_neg hb).trans q)).1
    · by_cases hb : b = a
      · rw [hb]
        exact hk
      · exact (cs3 fun q => z ((if_neg hb).trans q)).2
    · exact (if_neg (nca p hp)).trans (lookcs p hp)
theorem walk_ofC {l : PySem.W.OpenLaw} {n k : Nat} {q : Program} {loose : List Str} {XP : (Str → Option Value) → Heap → Prop} {YP : World → Heap → Prop} {d : DefRec} {CX : World → CXT} {x : Str}
    (hn : l.most = some n) (hn2 : n ≤ sizeLine) (hdf : d.params.defaults = []) (hr : Room k callerA)
    (F : ∀ (w : World) (mg : Str → Option Value) (fa : Addr) (h : Heap), YP w h → h.Ns mainGlobals mg → mg d.name = some (.ref fa) →
      ∃ (K : PySem.W.Frag) (fd : FuncData) (sp : Sp) (cs : List (Addr × HO)), K.In h ∧ (∀ (s : Shared) (u : Value), BindsTo s fd ⟨[u], []⟩ [(x, u)]) ∧
        (∀ p ∈ cs, ∃ o ws, p.2 = .frz o (.dK ws) ∧ (∀ H, ObjOk l.prog w H h p.1 (.frz o (.dK ws))) ∧ 3 < p.1 ∧ K.lookup p.1 = none ∧ h.get? p.1 = some o ∧ ∃ es ep, o.data = .dict es ep) ∧ (cs.map (·.1)).Nodup ∧
        (∀ (H : Hp) (a : Addr) (ns : List Int), ns.length ≤ n → (∀ p ∈ cs, H p.1 = some p.2) → SqL K H a (ns.map V.int) → sp [.ref a] H (fun v _ => v = .bl true) fun _ _ _ => False) ∧
        ∀ base : Heap, K.In base → base.Ns mainGlobals mg → FnOk l.prog w K mg base (CX w) k fa fd [x] sp)
    (hCX : ∀ (w : World) (H : Hp) (s : Shared) (e : Value) (s' : Shared), CX w [] H s (fun _ _ _ => False) e s' → False) :
    PySem.W.WalkO q loose XP YP l.row.toRowW d [] (fun f vs => PySem.call f vs) := by
  refine Att.attach_call hn hdf fun w s₀ s₁ mg mb fa o pm cd doc a vs ns G Y ho hd hcd hmg hobj hints hlen hg => ?_
  obtain ⟨K, fd, sp, cs, KX, hb, hcs, hnd, hsp, hF⟩ := F w mg fa _ Y G.T.g hmg
  exact law_callC KX G.T.g G.T.b G.T.builtins G.T.nolimit hg hobj hints (Nat.le_trans hlen hn2) hr hcs hnd hF hb (fun H hc hS => hsp H a ns hlen hc hS) fun H e s' => hCX w H s₁ e s'
/-! ### facts as looks -/
section
variable {K : PySem.W.Frag} {fn : List DefA} {ts : List TabD} {ex : List (PySem.W.Frag → Bool)} {w : World} {h : Heap}
theorem SaysA.fact (c : SaysA fn ts ex w h K) (i : Nat) {f : PySem.W.Frag → Bool} (e : ex[i]? = some f) : f K = true := c.facts f (List.mem_of_getElem? e)
theorem SaysA.def_ (c : SaysA fn ts ex w h K) (i : Nat) {d : DefA} (e : fn[i]? = some d) : ∃ fd, Fun K d.name d.qual d.st (d.ad K) fd := c.defs d (List.mem_of_getElem? e)
theorem SaysA.tab (c : SaysA fn ts ex w h K) (i : Nat) {t : TabD} (e : ts[i]? = some t) : TabOk w h K t ∧ K.lookup (He.ga K t.name) = none := c.tabs t (List.mem_of_getElem? e)
def propB (x m : Str) (K : PySem.W.Frag) : Bool := He.eqO (PySem.W.findIn K (.ref (He.ga K x)) m) (some (some (.ref (He.ma K (He.ga K x) m)))) && (He.eqO (PySem.W.specialIn K (.ref (He.ma K (He.ga K x) m)) "__get__") (some (some (.builtin "property.__get__"))) && (decide (PySem.W.takesIn K (.ref (He.ma K (He.ga K x) m)) = some true) &&
  (match PySem.W.recIn K (He.ma K (He.ga K x) m) "property" with
  | some (.ref _ :: _) => true
  | _ => false)))
theorem prop_ok {x m : Str} (c : propB x m K = true) : PropOf K (He.ga K x) m (He.ma K (He.ga K x) m) (getA x m K) := by
  obtain ⟨c1, c2⟩ := bb c
  obtain ⟨c3, c4⟩ := bb c2
  obtain ⟨c5, c6⟩ := bb c4
  refine ⟨He.eqO_ok c1, He.eqO_ok c3, of_decide_eq_true c5, ?_⟩
  unfold getA
  split at c6
  · rename_i a r q
    rw [q]
    exact ⟨r, rfl⟩
  · cases c6
def sclsB (x : Str) (K : PySem.W.Frag) : Bool := PySem.W.plainGet K (He.ga K x) Str.empty && (PySem.W.isClsIn K (He.ga K x) && (PySem.W.plainOver K (He.ga K x) && He.eqO (PySem.W.findIn K (.ref (He.ga K x)) "__setattr__") (some (some (.builtin "object.__setattr__")))))
theorem scls_ok {x : Str} (c : sclsB x K = true) : SlX.SCls K (He.ga K x) := by
  obtain ⟨c1, c2⟩ := bb c
  obtain ⟨c3, c4⟩ := bb c2
  obtain ⟨c5, c6⟩ := bb c4
  exact ⟨c1, c3, c5, He.eqO_ok c6⟩
def slotB (x f : Str) (i : Nat) (K : PySem.W.Frag) : Bool := He.eqO (PySem.W.findIn K (.ref (He.ga K x)) f) (some (some (.ref (He.ma K (He.ga K x) f)))) && (He.eqO (PySem.W.specialIn K (.ref (He.ma K (He.ga K x) f)) "__get__") (some (some (.builtin "member_descriptor.__get__"))) && (decide (PySem.W.takesIn K (.ref (He.ma K (He.ga K x) f)) = some true) &&
  (decide (PySem.W.typeIn K (.ref (He.ma K (He.ga K x) f)) = some (.type "member_descriptor")) && decide (PySem.W.slotIn K (He.ma K (He.ga K x) f) (He.ga K x) = some i))))
theorem slot_ok {x f : Str} {i : Nat} (c : slotB x f i K = true) (hl : i < 1000) : SlX.Slot1 K (He.ga K x) f (He.ma K (He.ga K x) f) i := by
  obtain ⟨c1, c2⟩ := bb c
  obtain ⟨c3, c4⟩ := bb c2
  obtain ⟨c5, c6⟩ := bb c4
  obtain ⟨c7, c8⟩ := bb c6
  exact ⟨He.eqO_ok c1, He.eqO_ok c3, of_decide_eq_true c5, of_decide_eq_true c7, of_decide_eq_true c8, hl⟩
def allTy : List TyN := [.int, .bool, .str, .tuple, .list, .dict, .non]
theorem allTy_mem (t : TyN) : t ∈ allTy := by cases t <;> simp [allTy]
def isiK (x : Str) (K : PySem.W.Frag) : Bool := He.eqO (PySem.W.findIn K (.ref (He.ga K x)) "__class__") (some (some (.builtin "object.__class__"))) && (He.eqO (PySem.W.specialIn K (.builtin "object.__class__") "__get__") (some (some (.builtin "getset_descriptor.__get__"))) && (decide (PySem.W.takesIn K (.builtin "object.__class__") = some true) &&
  (decide (PySem.W.mroIn K (He.ga K x) (.type "object") = some true) && (PySem.W.plainGet K (He.ga K x) "__class__" && (PySem.W.isClsIn K (He.ga K x) && allTy.all fun t => decide (PySem.W.kitOne K (.type t.nm) (.ref (He.ga K x)) = some false))))))
theorem isiK_ok {x : Str} {L : List Str} (c : isiK x K = true) : IsiOk K ⟨He.ga K x, L⟩ := by
  obtain ⟨c1, c2⟩ := bb c
  obtain ⟨c3, c4⟩ := bb c2
  obtain ⟨c5, c6⟩ := bb c4
  obtain ⟨c7, c8⟩ := bb c6
  obtain ⟨c9, d1⟩ := bb c8
  obtain ⟨d2, d3⟩ := bb d1
  exact ⟨He.eqO_ok c1, He.eqO_ok c3, of_decide_eq_true c5, of_decide_eq_true c7, c9, d2, fun t => of_decide_eq_true (List.all_eq_true.mp d3 t (allTy_mem t))⟩
/-- what the head looks at of an exception class -/
def errB (x : Str) (K : PySem.W.Frag) : Bool := (He.Fa.exc x).ok K
theorem err_ok {mg : Str → Option Value} {x : Str} (c : errB x K = true) (g : mg x = some (.ref (He.ga K x))) : ErrC K mg x (He.ga K x) := by
  obtain ⟨h1, h2, h3, h4⟩ := He.exc_ok c
  exact ⟨g, h1, h2, h3, h4⟩
def isTypeV : Value → Bool
  | .type t => decide (t = "type")
  | _ => false
def oexB (x : Str) (K : PySem.W.Frag) : Bool := (match K.lookup (He.ga K x) with
  | some ⟨oc, _, .cls cd, sl⟩ => isTypeV oc && (match cd.mro, sl.toList with
    | .ref C' :: bm, [_, _, _, _, some (.builtin n), _] => decide (C' = He.ga K x) && (decide (n = "ValueError.__new__") && (!cd.hasDel && (cd.hasDict && PySem.HandSPX.refsVE bm)))
    | _, _ => false)
  | _ => false) && (He.eqO (PySem.W.findIn K (.ref (He.ga K x)) "__setattr__") (some (some (.builtin "object.__setattr__"))) && (decide (PySem.W.subIn K (.ref (He.ga K x)) (.type "BaseException") = some true) &&
    (decide (PySem.W.typeIn K (.ref (He.ga K x)) = some (.type "type")) && PySem.W.keepIn K (.ref (He.ga K x)))))
theorem oex_ok {x : Str} (c : oexB x K = true) : OexC K (He.ga K x) := by
  obtain ⟨c1, c2⟩ := bb c
  obtain ⟨c3, c4⟩ := bb c2
  obtain ⟨c5, c6⟩ := bb c4
  obtain ⟨c7, c8⟩ := bb c6
  refine ⟨?_, He.eqO_ok c3, of_decide_eq_true c5, of_decide_eq_true c7, c8⟩
  split at c1
  · rename_i oc dd cd sl hl
    obtain ⟨d1, d2⟩ := bb c1
    split at d2
    · rename_i C' bm k0 k1 k2 k3 n k5 hm hs
      obtain ⟨e1, e2⟩ := bb d2
      obtain ⟨e3, e4⟩ := bb e2
      obtain ⟨e5, e6⟩ := bb e4
      obtain ⟨e7, e8⟩ := bb e6
      have eo : oc = .type "type" := by
        unfold isTypeV at d1
        split at d1
        · rw [of_decide_eq_true d1]
        · cases d1
      have ec := of_decide_eq_true e1
      have en := of_decide_eq_true e3
      obtain ⟨nm, bs, mro, nsA, qn, hd, sn, sub, ab, col, del⟩ := cd
      dsimp only at hm e5 e7
      have edel : del = false := by cases del <;> first | rfl | cases e5
      subst eo ec en hm edel e7
      have hsl : sl = #[k0, k1, k2, k3, some (.builtin "ValueError.__new__"), k5] := by
        obtain ⟨l⟩ := sl
        simp only at hs
        rw [hs]
      subst hsl
      exact ⟨nm, qn, nsA, bs, bm, sn, sub, ab, col, dd, k0, k1, k2, k3, k5, hl, e8⟩
    · cases d2
  · cases c1
def initB (x : Str) (K : PySem.W.Frag) : Bool := He.eqO (PySem.W.findIn K (.ref (He.ga K x)) "__init__") (some (some (.ref (He.ma K (He.ga K x) "__init__")))) && decide (PySem.W.typeIn K (.ref (He.ma K (He.ga K x) "__init__")) = some (.type "function"))
theorem init_ok {x : Str} (c : initB x K = true) : PySem.W.findIn K (.ref (He.ga K x)) "__init__" = some (some (.ref (He.ma K (He.ga K x) "__init__"))) ∧ PySem.W.typeIn K (.ref (He.ma K (He.ga K x) "__init__")) = some (.type "function") := by
  obtain ⟨c1, c2⟩ := bb c
  exact ⟨He.eqO_ok c1, of_decide_eq_true c2⟩
def excCB (x : Str) (K : PySem.W.Frag) : Bool := L2.xfB K (He.ga K x) && (He.eqO (PySem.W.findIn K (.ref (He.ga K x)) "__class__") (some (some (.builtin "object.__class__"))) && (He.eqO (PySem.W.specialIn K (.builtin "object.__class__") "__get__") (some (some (.builtin "getset_descriptor.__get__"))) &&
  (decide (PySem.W.takesIn K (.builtin "object.__class__") = some true) && decide (PySem.W.mroIn K (He.ga K x) (.type "object") = some true))))
theorem excC_ok {x : Str} (c : excCB x K = true) : ExcC K (He.ga K x) := by
  obtain ⟨c1, c2⟩ := bb c
  obtain ⟨c3, c4⟩ := bb c2
  obtain ⟨c5, c6⟩ := bb c4
  obtain ⟨c7, c8⟩ := bb c6
  obtain ⟨d1, d2, d3, d4⟩ := xfB_ok c1
  exact ⟨d1, d2, d3, d4, He.eqO_ok c3, He.eqO_ok c5, of_decide_eq_true c7, of_decide_eq_true c8⟩
def eqClsB (x : Str) (K : PySem.W.Frag) : Bool := (PySem.W.clsIn K (He.ga K x)).isSome && allTy.all fun t => PySem.W.notFirst K (He.ga K x) (.type t.nm)
end
/-- how the law's def binds -/
theorem Fun.bindsA {K : PySem.W.Frag} {x qual : Str} {st : Stmt} {f : Addr} {fd : FuncData} {ps : List Str} (F : Fun K x qual st f fd)
    (h : ∀ (kV doc pm : Value) (an : Option Addr) (cdv ct : Value) (us : List Value), us.length = ps.length → bindArgs (PySem.W.fnOf x qual (defArgs st) (defBody st) (defScope st) .none kV doc pm an cdv ct) ⟨us, []⟩ = pure (ps.zip us)) (s : Shared) (us : List Value) (hl : us.length = ps.length) : BindsTo s fd ⟨us, []⟩ (ps.zip us) := by
  obtain ⟨oc, od, kV, doc, pm, an, cdv, ct, osl, rfl, lk, hcd⟩ := F.ex
  exact .of_eq (h kV doc pm an cdv ct us hl)
/-- the promise of the def that stands there, over every base -/
theorem Callee.fnOk [Csts] {P : Program} {w : World} {K : PySem.W.Frag} {mg : Str → Option Value} {base : Heap} {x qual : Str} {k : Nat} {ps : List Str} {dsp : DSp} {st : Stmt} {f : Addr} {fd : FuncData} (C : Callee P w K mg base x k ps dsp) (F : Fun K x qual st f fd) (hm : mg x = some (.ref f)) :
    FnOk P w K mg base (L2.CX P w) k f fd ps (Up K dsp) := by
  obtain ⟨g, gd, h1, h2, h3, G⟩ := C.ex
  rw [hm] at h1
  cases h1
  obtain ⟨oc, od, osl, l1⟩ := h3.is
  obtain ⟨oc2, od2, osl2, l2⟩ := Fun.isF F
  rw [l1] at l2
  cases l2
  exact G
/-- a law's entry -/
theorem law_entry {K : PySem.W.Frag} {cs : List (Addr × HO)} {H : Hp} {a : Addr} {ns : List Int} (hl : ∀ p ∈ cs, isLock p.2 = true) (hc : ∀ p ∈ cs, H p.1 = some p.2) (hS : SqL K H a (ns.map V.int)) {dsp : DSp} (hd : dsp [.d (.frl (ns.map D.int))] [] (fun d _ => d = .d (.bl true)) fun _ _ _ => False) :
    @Up ⟨cs⟩ K dsp [.ref a] H (fun v _ => v = .bl true) fun _ _ _ => False := by
  letI : Csts := ⟨cs⟩
  have hr : ∀ l : List Int, RepL K H (l.map D.int) (l.map V.int) := fun l => by
    induction l with
    | nil => unfold RepL; trivial
    | cons x r ih =>
      unfold RepL
      exact ⟨by simp only [Rep], ih⟩
  refine ⟨H, [], [], [.d (.frl (ns.map D.int))], [], _, _, ⟨Sub.refl H, fun p hp => (by cases hp), rfl, List.nodup_nil, fun i a o h => (by simp at h), fun i a o h => (by simp at h), fun i a h => (by simp at h), fun p hp => ⟨hc p hp, hl p hp⟩⟩, ⟨?_, trivial⟩, hd, fun d M' v B' L' H' h _ _ r => ?_, fun _ _ _ _ _ _ _ h => h.elim⟩
  · show Rep K H (.frl (ns.map D.int)) (.ref a)
    unfold Rep
    exact ⟨a, _, rfl, hS, hr ns⟩
  · subst h
    exact rv_bl.mp r
end DL

namespace LW
open PySem PySem.Spec PyProof.Rows L2 DL
variable [Csts]
/-! ### the head -/
def fnL0 : List DefA := [⟨fun K => He.ga K "_law_mix", "_law_mix", "_law_mix", sMix⟩,
  ⟨fun K => He.ga K "_law_next", "_law_next", "_law_next", sNext⟩,
  ⟨fun K => He.ma K (He.ga K "InvalidRule") "__init__", "__init__", "InvalidRule.__init__", sRuleInit⟩,
  ⟨fun K => He.ma K (He.ga K "InvalidDeed") "__init__", "__init__", "InvalidDeed.__init__", sDeedInit⟩,
  ⟨fun K => He.ma K (He.ga K "InvalidText") "__init__", "__init__", "InvalidText.__init__", sTextInit⟩,
  ⟨fun K => He.ga K "_law_bare", "_law_bare", "_law_bare", sBare⟩,
  ⟨fun K => He.ga K "_law_thrown", "_law_thrown", "_law_thrown", sThrown⟩,
  ⟨fun K => He.ga K "_law_classes", "_law_classes", "_law_classes", sClasses⟩,
  ⟨fun K => He.ga K "_law_parts", "_law_parts", "_law_parts", sParts⟩,
  ⟨fun K => He.ga K "_law_right", "_law_right", "_law_right", sRight⟩,
  ⟨fun K => He.ga K "law", "law", "law", sLaw⟩]
def fnL : List DefA := fnL0
def tsL : List TabD := []
def exL0 : List (PySem.W.Frag → Bool) := [(He.Fa.glo "_law_mix").ok,
  (He.Fa.glo "_law_next").ok,
  oexB "InvalidRule",
  (He.Fa.glo "InvalidRule").ok,
  initB "InvalidRule",
  oexB "InvalidDeed",
  (He.Fa.glo "InvalidDeed").ok,
  initB "InvalidDeed",
  oexB "InvalidText",
  (He.Fa.glo "InvalidText").ok,
  initB "InvalidText",
  (He.Fa.glo "_law_bare").ok,
  (He.Fa.glo "_law_thrown").ok,
  (He.Fa.glo "_law_classes").ok,
  (He.Fa.glo "_law_parts").ok,
  (He.Fa.glo "_law_right").ok,
  (He.Fa.glo "law").ok,
  (He.Fa.free "isinstance").ok,
  (He.Fa.free "int").ok,
  (He.Fa.free "bool").ok,
  (He.Fa.free "str").ok,
  (He.Fa.free "tuple").ok,
  (He.Fa.free "list").ok,
  (He.Fa.free "dict").ok,
  (He.Fa.free "len").ok,
  (He.Fa.free "all").ok,
  (He.Fa.free "any").ok,
  (He.Fa.free "sum").ok,
  (He.Fa.free "max").ok,
  (He.Fa.free "min").ok]
def exL1 : List (PySem.W.Frag → Bool) := [(He.Fa.free "range").ok,
  (He.Fa.free "enumerate").ok,
  (He.Fa.free "sorted").ok,
  (He.Fa.glo "ShelfError").ok,
  errB "InvalidSize",
  (He.Fa.glo "InvalidSize").ok,
  errB "InvalidSample",
  (He.Fa.glo "InvalidSample").ok,
  errB "InvalidWish",
  (He.Fa.glo "InvalidWish").ok,
  errB "InvalidBooks",
  (He.Fa.glo "InvalidBooks").ok,
  errB "InvalidLimit",
  (He.Fa.glo "InvalidLimit").ok,
  errB "NotComparable",
  (He.Fa.glo "NotComparable").ok,
  errB "Unfit",
  (He.Fa.glo "Unfit").ok,
  excCB "InvalidSize",
  excCB "InvalidSample",
  excCB "InvalidWish",
  excCB "InvalidBooks",
  excCB "InvalidLimit",
  excCB "NotComparable",
  excCB "Unfit",
  excCB "InvalidRule",
  excCB "InvalidDeed",
  excCB "InvalidText",
  (fun K => L2.xfB K (He.ga K "InvalidRule")),
  (fun K => L2.xfB K (He.ga K "InvalidDeed"))]
def exL2 : List (PySem.W.Frag → Bool) := [(fun K => L2.xfB K (He.ga K "InvalidText")),
  (He.Fa.noat "InvalidRule" "point").ok,
  (He.Fa.noat "InvalidDeed" "index").ok,
  (He.Fa.noat "InvalidText" "line").ok,
  (He.Fa.noat "InvalidText" "word").ok,
  (He.Fa.exm "InvalidSize" "ShelfError" true).ok,
  (He.Fa.exm "InvalidSample" "ShelfError" true).ok,
  (He.Fa.exm "InvalidWish" "ShelfError" true).ok,
  (He.Fa.exm "InvalidBooks" "ShelfError" true).ok,
  (He.Fa.exm "InvalidLimit" "ShelfError" true).ok,
  (He.Fa.exm "NotComparable" "ShelfError" true).ok,
  (He.Fa.exm "Unfit" "ShelfError" true).ok,
  (He.Fa.exm "InvalidRule" "ShelfError" true).ok,
  (He.Fa.exm "InvalidDeed" "ShelfError" true).ok,
  (He.Fa.exm "InvalidText" "ShelfError" true).ok,
  (He.Fa.free "ValueError").ok,
  kveB,
  kitRow 0,
  kitRow 1,
  kitRow 2,
  kitRow 3,
  kitRow 4,
  kitRow 5,
  kitRow 6,
  kitRow 7,
  kitRow 8,
  kitRow 9]
def exL : List (PySem.W.Frag → Bool) := exL0 ++ exL1 ++ exL2
abbrev Says (w : World) (h : Heap) (K : PySem.W.Frag) : Prop := SaysA fnL tsL exL w h K
section
variable {w : World} {h : Heap} {K : PySem.W.Frag} {mg : Str → Option Value}
theorem F_Mix (c : Says w h K) (G : h.Ns mainGlobals mg) : FunG K mg "_law_mix" sMix pMix := by
  obtain ⟨fd, F⟩ := c.def_ 0 rfl
  exact ⟨_, fd, F, He.glo_ok c.kin G (c.fact 0 rfl), (F.binds fun _ _ _ _ _ _ us hl => match us, hl with | [_, _], _ => rfl)⟩
theorem F_Next (c : Says w h K) (G : h.Ns mainGlobals mg) : FunG K mg "_law_next" sNext pNext := by
  obtain ⟨fd, F⟩ := c.def_ 1 rfl
  exact ⟨_, fd, F, He.glo_ok c.kin G (c.fact 1 rfl), (F.binds fun _ _ _ _ _ _ us hl => match us, hl with | [_, _], _ => rfl)⟩
theorem F_RuleInit (c : Says w h K) (G : h.Ns mainGlobals mg) : FunE K mg "InvalidRule" "InvalidRule.__init__" (He.ga K "InvalidRule") sRuleInit pRuleInit := by
  obtain ⟨fd, F⟩ := c.def_ 2 rfl
  exact ⟨He.glo_ok c.kin G (c.fact 3 rfl), oex_ok (c.fact 2 rfl), _, fd, F, (init_ok (c.fact 4 rfl)).1, (init_ok (c.fact 4 rfl)).2, (F.binds fun _ _ _ _ _ _ us hl => match us, hl with | [_, _], _ => rfl)⟩
theorem F_DeedInit (c : Says w h K) (G : h.Ns mainGlobals mg) : FunE K mg "InvalidDeed" "InvalidDeed.__init__" (He.ga K "InvalidDeed") sDeedInit pDeedInit := by
  obtain ⟨fd, F⟩ := c.def_ 3 rfl
  exact ⟨He.glo_ok c.kin G (c.fact 6 rfl), oex_ok (c.fact 5 rfl), _, fd, F, (init_ok (c.fact 7 rfl)).1, (init_ok (c.fact 7 rfl)).2, (F.binds fun _ _ _ _ _ _ us hl => match us, hl with | [_, _], _ => rfl)⟩
theorem F_TextInit (c : Says w h K) (G : h.Ns mainGlobals mg) : FunE K mg "InvalidText" "InvalidText.__init__" (He.ga K "InvalidText") sTextInit pTextInit := by
  obtain ⟨fd, F⟩ := c.def_ 4 rfl
  exact ⟨He.glo_ok c.kin G (c.fact 9 rfl), oex_ok (c.fact 8 rfl), _, fd, F, (init_ok (c.fact 10 rfl)).1, (init_ok (c.fact 10 rfl)).2, (F.binds fun _ _ _ _ _ _ us hl => match us, hl with | [_, _, _], _ => rfl)⟩
theorem F_Bare (c : Says w h K) (G : h.Ns mainGlobals mg) : FunG K mg "_law_bare" sBare pBare := by
  obtain ⟨fd, F⟩ := c.def_ 5 rfl
  exact ⟨_, fd, F, He.glo_ok c.kin G (c.fact 11 rfl), (F.binds fun _ _ _ _ _ _ us hl => match us, hl with | [_], _ => rfl)⟩
theorem F_Thrown (c : Says w h K) (G : h.Ns mainGlobals mg) : FunG K mg "_law_thrown" sThrown pThrown := by
  obtain ⟨fd, F⟩ := c.def_ 6 rfl
  exact ⟨_, fd, F, He.glo_ok c.kin G (c.fact 12 rfl), (F.binds fun _ _ _ _ _ _ us hl => match us, hl with | [_, _, _], _ => rfl)⟩
theorem F_Classes (c : Says w h K) (G : h.Ns mainGlobals mg) : FunG K mg "_law_classes" sClasses pClasses := by
  obtain ⟨fd, F⟩ := c.def_ 7 rfl
  exact ⟨_, fd, F, He.glo_ok c.kin G (c.fact 13 rfl), (F.binds fun _ _ _ _ _ _ us hl => match us, hl with | [_], _ => rfl)⟩
theorem F_Parts (c : Says w h K) (G : h.Ns mainGlobals mg) : FunG K mg "_law_parts" sParts pParts := by
  obtain ⟨fd, F⟩ := c.def_ 8 rfl
  exact ⟨_, fd, F, He.glo_ok c.kin G (c.fact 14 rfl), (F.binds fun _ _ _ _ _ _ us hl => match us, hl with | [_, _], _ => rfl)⟩
theorem F_Right (c : Says w h K) (G : h.Ns mainGlobals mg) : FunG K mg "_law_right" sRight pRight := by
  obtain ⟨fd, F⟩ := c.def_ 9 rfl
  exact ⟨_, fd, F, He.glo_ok c.kin G (c.fact 15 rfl), (F.binds fun _ _ _ _ _ _ us hl => match us, hl with | [_, _, _], _ => rfl)⟩
theorem F_Law (c : Says w h K) (G : h.Ns mainGlobals mg) : FunG K mg "law" sLaw pLaw := by
  obtain ⟨fd, F⟩ := c.def_ 10 rfl
  exact ⟨_, fd, F, He.glo_ok c.kin G (c.fact 16 rfl), (F.binds fun _ _ _ _ _ _ us hl => match us, hl with | [_], _ => rfl)⟩
theorem C_blt (c : Says w h K) (G : h.Ns mainGlobals mg) : Blt mg := ⟨He.free_ok c.kin G (c.fact 17 rfl), He.free_ok c.kin G (c.fact 18 rfl), He.free_ok c.kin G (c.fact 19 rfl), He.free_ok c.kin G (c.fact 20 rfl), He.free_ok c.kin G (c.fact 21 rfl), He.free_ok c.kin G (c.fact 22 rfl), He.free_ok c.kin G (c.fact 23 rfl), He.free_ok c.kin G (c.fact 24 rfl), He.free_ok c.kin G (c.fact 25 rfl), He.free_ok c.kin G (c.fact 26 rfl), He.free_ok c.kin G (c.fact 27 rfl), He.free_ok c.kin G (c.fact 28 rfl), He.free_ok c.kin G (c.fact 29 rfl), He.free_ok c.kin G (c.fact 30 rfl), He.free_ok c.kin G (c.fact 31 rfl), He.free_ok c.kin G (c.fact 32 rfl)⟩
theorem GL_ShelfError (c : Says w h K) (G : h.Ns mainGlobals mg) : mg "ShelfError" = some (.ref (He.ga K "ShelfError")) := He.glo_ok c.kin G (c.fact 33 rfl)
theorem E_InvalidSize (c : Says w h K) (G : h.Ns mainGlobals mg) : ErrC K mg "InvalidSize" (He.ga K "InvalidSize") := err_ok (c.fact 34 rfl) (He.glo_ok c.kin G (c.fact 35 rfl))
theorem E_InvalidSample (c : Says w h K) (G : h.Ns mainGlobals mg) : ErrC K mg "InvalidSample" (He.ga K "InvalidSample") := err_ok (c.fact 36 rfl) (He.glo_ok c.kin G (c.fact 37 rfl))
theorem E_InvalidWish (c : Says w h K) (G : h.Ns mainGlobals mg) : ErrC K mg "InvalidWish" (He.ga K "InvalidWish") := err_ok (c.fact 38 rfl) (He.glo_ok c.kin G (c.fact 39 rfl))
theorem E_InvalidBooks (c : Says w h K) (G : h.Ns mainGlobals mg) : ErrC K mg "InvalidBooks" (He.ga K "InvalidBooks") := err_ok (c.fact 40 rfl) (He.glo_ok c.kin G (c.fact 41 rfl))
theorem E_InvalidLimit (c : Says w h K) (G : h.Ns mainGlobals mg) : ErrC K mg "InvalidLimit" (He.ga K "InvalidLimit") := err_ok (c.fact 42 rfl) (He.glo_ok c.kin G (c.fact 43 rfl))
theorem E_NotComparable (c : Says w h K) (G : h.Ns mainGlobals mg) : ErrC K mg "NotComparable" (He.ga K "NotComparable") := err_ok (c.fact 44 rfl) (He.glo_ok c.kin G (c.fact 45 rfl))
theorem E_Unfit (c : Says w h K) (G : h.Ns mainGlobals mg) : ErrC K mg "Unfit" (He.ga K "Unfit") := err_ok (c.fact 46 rfl) (He.glo_ok c.kin G (c.fact 47 rfl))
theorem X_InvalidSize (c : Says w h K) : ExcC K (He.ga K "InvalidSize") := excC_ok (c.fact 48 rfl)
theorem X_InvalidSample (c : Says w h K) : ExcC K (He.ga K "InvalidSample") := excC_ok (c.fact 49 rfl)
theorem X_InvalidWish (c : Says w h K) : ExcC K (He.ga K "InvalidWish") := excC_ok (c.fact 50 rfl)
theorem X_InvalidBooks (c : Says w h K) : ExcC K (He.ga K "InvalidBooks") := excC_ok (c.fact 51 rfl)
theorem X_InvalidLimit (c : Says w h K) : ExcC K (He.ga K "InvalidLimit") := excC_ok (c.fact 52 rfl)
theorem X_NotComparable (c : Says w h K) : ExcC K (He.ga K "NotComparable") := excC_ok (c.fact 53 rfl)
theorem X_Unfit (c : Says w h K) : ExcC K (He.ga K "Unfit") := excC_ok (c.fact 54 rfl)
theorem X_InvalidRule (c : Says w h K) : ExcC K (He.ga K "InvalidRule") := excC_ok (c.fact 55 rfl)
theorem X_InvalidDeed (c : Says w h K) : ExcC K (He.ga K "InvalidDeed") := excC_ok (c.fact 56 rfl)
theorem X_InvalidText (c : Says w h K) : ExcC K (He.ga K "InvalidText") := excC_ok (c.fact 57 rfl)
theorem XF_InvalidRule (c : Says w h K) : L2.XfC K (He.ga K "InvalidRule") := L2.xfB_ok (c.fact 58 rfl)
theorem XF_InvalidDeed (c : Says w h K) : L2.XfC K (He.ga K "InvalidDeed") := L2.xfB_ok (c.fact 59 rfl)
theorem XF_InvalidText (c : Says w h K) : L2.XfC K (He.ga K "InvalidText") := L2.xfB_ok (c.fact 60 rfl)
theorem NA_InvalidRule_point (c : Says w h K) : PySem.W.findIn K (.ref (He.ga K "InvalidRule")) "point" = some none := He.noat_ok (c.fact 61 rfl)
theorem NA_InvalidDeed_index (c : Says w h K) : PySem.W.findIn K (.ref (He.ga K "InvalidDeed")) "index" = some none := He.noat_ok (c.fact 62 rfl)
theorem NA_InvalidText_line (c : Says w h K) : PySem.W.findIn K (.ref (He.ga K "InvalidText")) "line" = some none := He.noat_ok (c.fact 63 rfl)
theorem NA_InvalidText_word (c : Says w h K) : PySem.W.findIn K (.ref (He.ga K "InvalidText")) "word" = some none := He.noat_ok (c.fact 64 rfl)
theorem XM_InvalidSize_ShelfError (c : Says w h K) : PySem.W.exmOne K (.ref (He.ga K "InvalidSize")) (.ref (He.ga K "ShelfError")) = some true := He.exm_ok (c.fact 65 rfl)
theorem XM_InvalidSample_ShelfError (c : Says w h K) : PySem.W.exmOne K (.ref (He.ga K "InvalidSample")) (.ref (He.ga K "ShelfError")) = some true := He.exm_ok (c.fact 66 rfl)
theorem XM_InvalidWish_ShelfError (c : Says w h K) : PySem.W.exmOne K (.ref (He.ga K "InvalidWish")) (.ref (He.ga K "ShelfError")) = some true := He.exm_ok (c.fact 67 rfl)
theorem XM_InvalidBooks_ShelfError (c : Says w h K) : PySem.W.exmOne K (.ref (He.ga K "InvalidBooks")) (.ref (He.ga K "ShelfError")) = some true := He.exm_ok (c.fact 68 rfl)
theorem XM_InvalidLimit_ShelfError (c : Says w h K) : PySem.W.exmOne K (.ref (He.ga K "InvalidLimit")) (.ref (He.ga K "ShelfError")) = some true := He.exm_ok (c.fact 69 rfl)
theorem XM_NotComparable_ShelfError (c : Says w h K) : PySem.W.exmOne K (.ref (He.ga K "NotComparable")) (.ref (He.ga K "ShelfError")) = some true := He.exm_ok (c.fact 70 rfl)
theorem XM_Unfit_ShelfError (c : Says w h K) : PySem.W.exmOne K (.ref (He.ga K "Unfit")) (.ref (He.ga K "ShelfError")) = some true := He.exm_ok (c.fact 71 rfl)
theorem XM_InvalidRule_ShelfError (c : Says w h K) : PySem.W.exmOne K (.ref (He.ga K "InvalidRule")) (.ref (He.ga K "ShelfError")) = some true := He.exm_ok (c.fact 72 rfl)
theorem XM_InvalidDeed_ShelfError (c : Says w h K) : PySem.W.exmOne K (.ref (He.ga K "InvalidDeed")) (.ref (He.ga K "ShelfError")) = some true := He.exm_ok (c.fact 73 rfl)
theorem XM_InvalidText_ShelfError (c : Says w h K) : PySem.W.exmOne K (.ref (He.ga K "InvalidText")) (.ref (He.ga K "ShelfError")) = some true := He.exm_ok (c.fact 74 rfl)
theorem FR_ValueError (c : Says w h K) (G : h.Ns mainGlobals mg) : mg "ValueError" = none := He.free_ok c.kin G (c.fact 75 rfl)
theorem BF_0 (c : Says w h K) : kveB K = true := c.fact 76 rfl
theorem BF_1 (c : Says w h K) : kitRow 0 K = true := c.fact 77 rfl
theorem BF_2 (c : Says w h K) : kitRow 1 K = true := c.fact 78 rfl
theorem BF_3 (c : Says w h K) : kitRow 2 K = true := c.fact 79 rfl
theorem BF_4 (c : Says w h K) : kitRow 3 K = true := c.fact 80 rfl
theorem BF_5 (c : Says w h K) : kitRow 4 K = true := c.fact 81 rfl
theorem BF_6 (c : Says w h K) : kitRow 5 K = true := c.fact 82 rfl
theorem BF_7 (c : Says w h K) : kitRow 6 K = true := c.fact 83 rfl
theorem BF_8 (c : Says w h K) : kitRow 7 K = true := c.fact 84 rfl
theorem BF_9 (c : Says w h K) : kitRow 8 K = true := c.fact 85 rfl
theorem BF_10 (c : Says w h K) : kitRow 9 K = true := c.fact 86 rfl
end
abbrev RR : PySem.W.OpenRow := PySem.W.OpenLaw.row PySem.Challenge.rw_shelfsums_k18_errors_apart
abbrev hk : PySem.W.Hook := hookA 6 fnL tsL exL
def ob (s : PySem.W.SharedT) : AlA := obsA 6 fnL tsL exL (HandSHeadRun.getT s)
theorem ob_eq (s : PySem.W.SharedT) : ob s = hk.obs s.abs := obsA_eq (HandSHeadRun.getT_eq s)
def names : List Str := ([("ShelfError" : Str), ("InvalidSize" : Str), ("InvalidRule" : Str), ("InvalidSample" : Str), ("InvalidDeed" : Str), ("InvalidWish" : Str), ("InvalidBooks" : Str), ("InvalidLimit" : Str), ("NotComparable" : Str), ("Unfit" : Str), ("InvalidText" : Str), ("_law_mix" : Str), ("_law_next" : Str), ("_law_bare" : Str), ("_law_thrown" : Str), ("_law_classes" : Str), ("_law_parts" : Str), ("_law_right" : Str)] : List Str)
def lawAt : Nat := 20
abbrev lawD : Nat := 10
def lawDef : DefA := ⟨fun K => He.ga K "law", "law", "law", sLaw⟩
def lawX : Str := "_law_script"
abbrev lawK : Nat := 10
theorem lawGlo {w : World} {h : Heap} {K : PySem.W.Frag} {mg : Str → Option Value} (c : Says w h K) (G : h.Ns mainGlobals mg) : mg "law" = some (.ref (lawDef.ad K)) := He.glo_ok c.kin G (c.fact 16 rfl)
section
variable {P : Program} {w : World} {K : PySem.W.Frag} {mg : Str → Option Value} {h : Heap}
/-- the law's promise from what is known behind the top -/
theorem lawC (c : Says w h K) (G : h.Ns mainGlobals mg) : ∃ cs : List (Addr × HO), (∀ p ∈ cs, ∃ o ws, p.2 = .frz o (.dK ws) ∧ (∀ H, ObjOk P w H h p.1 (.frz o (.dK ws))) ∧ 3 < p.1 ∧ K.lookup p.1 = none ∧ h.get? p.1 = some o ∧ ∃ es ep, o.data = .dict es ep) ∧ (cs.map (·.1)).Nodup ∧
    ∀ base, @Callee ⟨cs⟩ P w K mg base "law" 10 pLaw spLaw := by
  refine ⟨[], fun p hp => (by cases hp), .nil, fun base => ?_⟩
  letI : Csts := ⟨[]⟩
  have N := C_blt c G
  let A : KAll K mg := {
    c := fun i => He.ga K (xnm i)
    cSE := He.ga K "ShelfError"
    e0 := E_InvalidSize c G
    e1 := E_InvalidSample c G
    e2 := E_InvalidWish c G
    e3 := E_InvalidBooks c G
    e4 := E_InvalidLimit c G
    e5 := E_NotComparable c G
    e6 := E_Unfit c G
    f7 := F_RuleInit c G
    f8 := F_DeedInit c G
    f9 := F_TextInit c G
    n7 := NA_InvalidRule_point c
    n8 := NA_InvalidDeed_index c
    n9 := NA_InvalidText_line c
    n10 := NA_InvalidText_word c
    x7 := XF_InvalidRule c
    x8 := XF_InvalidDeed c
    x9 := XF_InvalidText c
    ex := fun i hi => match i, hi with
    | 0, _ => X_InvalidSize c
    | 1, _ => X_InvalidSample c
    | 2, _ => X_InvalidWish c
    | 3, _ => X_InvalidBooks c
    | 4, _ => X_InvalidLimit c
    | 5, _ => X_NotComparable c
    | 6, _ => X_Unfit c
    | 7, _ => X_InvalidRule c
    | 8, _ => X_InvalidDeed c
    | 9, _ => X_InvalidText c
    kit := fun i j hi hj => match i, hi with
    | 0, _ => kitRow_ok (BF_1 c) hj
    | 1, _ => kitRow_ok (BF_2 c) hj
    | 2, _ => kitRow_ok (BF_3 c) hj
    | 3, _ => kitRow_ok (BF_4 c) hj
    | 4, _ => kitRow_ok (BF_5 c) hj
    | 5, _ => kitRow_ok (BF_6 c) hj
    | 6, _ => kitRow_ok (BF_7 c) hj
    | 7, _ => kitRow_ok (BF_8 c) hj
    | 8, _ => kitRow_ok (BF_9 c) hj
    | 9, _ => kitRow_ok (BF_10 c) hj
    kve := fun i hi => kveB_ok (BF_0 c) hi
    exm := fun i hi => match i, hi with
    | 0, _ => XM_InvalidSize_ShelfError c
    | 1, _ => XM_InvalidSample_ShelfError c
    | 2, _ => XM_InvalidWish_ShelfError c
    | 3, _ => XM_InvalidBooks_ShelfError c
    | 4, _ => XM_InvalidLimit_ShelfError c
    | 5, _ => XM_NotComparable_ShelfError c
    | 6, _ => XM_Unfit_ShelfError c
    | 7, _ => XM_InvalidRule_ShelfError c
    | 8, _ => XM_InvalidDeed_ShelfError c
    | 9, _ => XM_InvalidText_ShelfError c
    gSE := GL_ShelfError c G
    mVE := FR_ValueError c G }
  have b1 := ok_bare (P := P) (w := w) (base := base) A (F_Bare c G)
  have b2 := ok_thrown A b1 (F_Thrown c G)
  have b3 := ok_classes (P := P) (w := w) (base := base) N A (F_Classes c G)
  have b4 := ok_parts (P := P) (w := w) (base := base) N A (F_Parts c G)
  have b5 := ok_right N A b2 b3 b4 (F_Right c G)
  have n1 := ok_mix (P := P) (w := w) (base := base) N (F_Mix c G)
  have n2 := ok_next (P := P) (w := w) (base := base) N (F_Next c G)
  exact ok_law N n1 n2 b5 (F_Law c G)
end
end LW

namespace LW
open PySem PySem.Spec PyProof.Rows L2 DL
theorem runF (w : World) : HandSHeadRun.RunEq RR (PySem.W.view RR.prog [lawAt]) hk ob 5000 names (w.withFollow "special-get-raises" false) := by intro os; kernel_rfl
theorem runT (w : World) : HandSHeadRun.RunEq RR (PySem.W.view RR.prog [lawAt]) hk ob 5000 names (w.withFollow "special-get-raises" true) := by intro os; kernel_rfl
theorem run (w : World) : HandSHeadRun.RunEq RR (PySem.W.view RR.prog [lawAt]) hk ob 5000 names w :=
  PySem.W.byRow2 "special-get-raises" (P := fun w => HandSHeadRun.RunEq RR (PySem.W.view RR.prog [lawAt]) hk ob 5000 names w) runF runT w
end LW
open PySem PySem.W PySem.Calls PyProof.Rows
theorem PySem.Challenge.cw_shelfsums_k18_errors_apart_holds : PySem.Challenge.rw_shelfsums_k18_errors_apart.Holds := by
  w_on; o_law
  haveI c0 : DL.Csts := ⟨[]⟩
  refine HandSHeadRun.head_any (r := OpenLaw.row PySem.Challenge.rw_shelfsums_k18_errors_apart) (q := view (OpenLaw.row PySem.Challenge.rw_shelfsums_k18_errors_apart).prog [LW.lawAt]) (H := LW.hk) (ob := LW.ob) (M := 5000) (loose := LW.names) (d := HandSHeadRun.topDef (OpenLaw.row PySem.Challenge.rw_shelfsums_k18_errors_apart).prog LW.lawAt) (kwd := []) LW.ob_eq
    (by kernel_rfl) (fun s => by kernel_rfl) LW.run (by kernel_rfl) (by kernel_rfl) (by kernel_rfl) (by rfl) (by first | assumption | decide +kernel) (by decide +kernel) ⟨rfl, rfl, rfl, rfl, rfl, by decide +kernel⟩ ?hw ?hc
  case hw => w_witness2
  case hc =>
    refine DL.walk_ofC (l := PySem.Challenge.rw_shelfsums_k18_errors_apart) (n := 63) (k := LW.lawK) (x := LW.lawX) (CX := fun w => L2.CX (PySem.Challenge.rw_shelfsums_k18_errors_apart).prog w) rfl (by decide) (by kernel_rfl) ⟨rfl, by decide, by decide⟩ ?F (fun _ _ _ _ _ z => DL.noCX z)
    intro w mg fa h Y G hmg0
    obtain ⟨K, c⟩ := Y
    have hmg : mg ("law" : PySem.Str) = some (.ref fa) := by
      have e : (HandSHeadRun.topDef (OpenLaw.row PySem.Challenge.rw_shelfsums_k18_errors_apart).prog LW.lawAt).name = ("law" : PySem.Str) := by kernel_rfl
      rw [← e]
      exact hmg0
    obtain ⟨cs, hcs, hnd, hF⟩ := LW.lawC (P := (PySem.Challenge.rw_shelfsums_k18_errors_apart).prog) c G
    obtain ⟨fd, F⟩ := c.def_ LW.lawD (d := LW.lawDef) rfl
    have hf : mg ("law" : PySem.Str) = some (.ref (LW.lawDef.ad K)) := LW.lawGlo c G
    have ef : fa = LW.lawDef.ad K := by
      rw [hmg] at hf
      exact Value.ref.inj (Option.some.inj hf)
    subst ef
    refine ⟨K, fd, @DL.Up ⟨cs⟩ K LW.spLaw, cs, c.kin, fun s u => ?_, hcs, hnd, fun H a ns hn hc hS => ?_, fun base _ _ => ?_⟩
    · exact DL.Fun.bindsA (ps := LW.pLaw) F (fun _ _ _ _ _ _ us hl => match us, hl with | [_], _ => rfl) s [u] rfl
    · refine DL.law_entry (fun p hp => ?_) hc hS ⟨ns, rfl, hn, rfl, fun _ => rfl⟩
      obtain ⟨o, ws, e, _⟩ := hcs p hp
      rw [e]
      rfl
    · exact @DL.Callee.fnOk ⟨cs⟩ _ _ _ _ _ _ _ _ _ _ _ _ _ (hF base) F hf

