import PyProof.Rows.All
import Wide.All
import OpenK.AllK
import Wide.FinOn
import KE.KStateDown
import HandS.ForMost
import HandS.ForExc
import HandS.Defaults
import HandS.IsInst
import HandS.Slots
import HandS.SlotsOwn
import HandS.ExcInit
import HandS.ExcIs
import HandS.ExcField
import HandS.TryMany
import HandS.Star
import HandS.Conv
import HandS.DictComp
import HandS.ListItems
import HandS.TupMul
import HandS.TupAny
import HandS.Flow
import HandS.TupSets
import HandS.Property
import HandS.CallSlots
import HandS.Head0
import HandS.Head1
import HandS.Head2
import HandS.HeadEnd
import HandS.HeadHook1
import HandS.HeadHook2
import HandS.HeadHook3
import KE.GoesEnum
import HandS.SetFor
import HandS.Small
import HandS.Style
import HandS.Finally
import HandS.DictEq
import PyProof.StrOps2
import HandS.RaiseMore
import HandS.Comp
import PySem.Challenge.RW_shelfsums_k13_whole_texts_refused
set_option Elab.async false
set_option linter.all false
set_option maxRecDepth 100000
set_option maxHeartbeats 4000000
namespace DL
open PySem PySem.Spec PyProof.Rows L2
/-! ### data -/
structure ClsT where
  C : Addr
  ns : List Str
inductive TyN where
  | int | bool | str | tuple | list | dict | non
  deriving DecidableEq
def TyN.nm : TyN → String
  | .int => "int" | .bool => "bool" | .str => "str" | .tuple => "tuple" | .list => "list" | .dict => "dict" | .non => "NoneType"
inductive D where
  | non | bl (b : Bool) | int (i : Int) | str (s : Str) | ref (a : Addr) | ty (n : TyN)
  | lst (xs : List D) | frl (xs : List D) | tup (xs : List D)
  | dic (kvs : List (Key × D))
  | obj (T : ClsT) (fs : List D)
  | slo (T : ClsT) (fs : List D)
  | xcp (a : Addr) (d : Option Addr) (ns : List Str) (fs : List D)
inductive DV where
  | d (x : D) | m (i : Nat) | pr (x : D) (k : Nat)
inductive MO where
  | lst (xs : List DV) | dic (kvs : List (Key × D)) | ins (T : ClsT) (fs : List DV) | gone
abbrev Rh := List (Option DV)
abbrev Mem := List MO

section
variable (K : PySem.W.Frag) (B : Hp)
mutual
def Rep : D → V → Prop
  | .non, v => v = .non
  | .bl b, v => v = .bl b
  | .int i, v => v = .int i
  | .str s, v => v = .str s
  | .ref a, v => v = .ref a
  | .ty n, v => v = .ty n.nm
  | .lst xs, v => ∃ a vs, v = .ref a ∧ B a = some (.lst vs) ∧ RepL xs vs
  | .frl xs, v => ∃ a vs, v = .ref a ∧ SqL K B a vs ∧ RepL xs vs
  | .tup xs, v => ∃ a vs, v = .ref a ∧ SqT K B a vs ∧ RepL xs vs
  | .dic kvs, v => ∃ a ws, v = .ref a ∧ Rd B a (.dK ws) ∧ RepK kvs ws
  | .obj T fs, v => ∃ a dx gs, v = .ref a ∧ B a = some (.ins T.C dx gs) ∧ gs.map (·.1) = T.ns ∧ RepL fs (gs.map (·.2))
  | .slo T fs, v => ∃ a dx vs, v = .ref a ∧ B a = some (SlX.SlO a T.C dx (vs.map some)) ∧ B dx = some (.xd []) ∧ RepL fs vs
  | .xcp a d ns fs, v => v = .ref a ∧ (d = none ∧ fs = [] ∧ ns = [] ∨ ∃ dd gs, d = some dd ∧ B dd = some (.xd gs) ∧ gs.map (·.1) = ns ∧ RepL fs (gs.map (·.2)))
def RepL : List D → List V → Prop
  | [], [] => True
  | x :: xs, v :: vs => Rep x v ∧ RepL xs vs
  | [], _ :: _ => False
  | _ :: _, [] => False
def RepK : List (Key × D) → List (Key × V) → Prop
  | [], [] => True
  | (k, x) :: xs, (j, v) :: vs => k = j ∧ Rep x v ∧ RepK xs vs
  | [], _ :: _ => False
  | _ :: _, [] => False
end
end
/-- what a lock hides -/
def core : HO → HO
  | .frz _ (.dK ws) => .dK ws
  | .frz _ (.dT ws) => .dT ws
  | o => o
def isLock : HO → Bool
  | .frz _ _ => true
  | _ => false
/-- more stands there; a dict may have been locked -/
def Sub (B B' : Hp) : Prop := ∀ a o, B a = some o → ∃ o', B' a = some o' ∧ core o' = core o ∧ (isLock o = true → o' = o)
theorem core_eq {o o' : HO} (h : core o' = core o) (hd : ∀ ws, core o ≠ .dK ws) (ht : ∀ ws, core o ≠ .dT ws) : o' = o := by
  have k : ∀ u : HO, (∀ ws, core u ≠ .dK ws) → (∀ ws, core u ≠ .dT ws) → core u = u := by
    intro u h1 h2
    cases u with
    | frz od v =>
      cases v with
      | dK ws => exact absurd rfl (h1 ws)
      | dT ws => exact absurd rfl (h2 ws)
      | _ => rfl
    | _ => rfl
  rw [← k o hd ht, ← h]
  exact (k o' (h ▸ hd) (h ▸ ht)).symm
theorem Sub.eq {B B' : Hp} (e : Sub B B') {a : Addr} {o : HO} (h : B a = some o) (hd : ∀ ws, core o ≠ .dK ws := by intro ws q; cases q) (ht : ∀ ws, core o ≠ .dT ws := by intro ws q; cases q) : B' a = some o := by
  obtain ⟨o', h1, h2, _⟩ := e a o h
  rw [h1, core_eq h2 hd ht]
theorem Sub.rdK {B B' : Hp} (e : Sub B B') {a : Addr} {ws : List (Key × V)} (h : Rd B a (.dK ws)) : Rd B' a (.dK ws) := by
  have k : ∀ o, core o = .dK ws → o = .dK ws ∨ ∃ od, o = .frz od (.dK ws) := by
    intro o h
    cases o with
    | frz od v =>
      cases v with
      | dK w2 => right; exact ⟨od, by rw [show core (.frz od (.dK w2)) = .dK w2 from rfl] at h; rw [h]⟩
      | dT w2 => cases h
      | _ => cases h
    | _ => first | exact .inl h | cases h
  have : ∃ o, B a = some o ∧ core o = .dK ws := by
    rcases h with h | ⟨od, h⟩
    · exact ⟨_, h, rfl⟩
    · exact ⟨_, h, rfl⟩
  obtain ⟨o, h1, h2⟩ := this
  obtain ⟨o', h3, h4, _⟩ := e a o h1
  rcases k o' (h4.trans h2) with rfl | ⟨od, rfl⟩
  · exact .inl h3
  · exact .inr ⟨od, h3⟩
theorem Sub.rdL {B B' : Hp} (e : Sub B B') {a : Addr} {xs : List V} (h : Rd B a (.lst xs)) : Rd B' a (.lst xs) := by
  rcases h with h | ⟨o, h⟩
  · exact .inl (e.eq h)
  · exact .inr ⟨o, e.eq h⟩
theorem Sub.rdT {B B' : Hp} (e : Sub B B') {a : Addr} {xs : List V} (h : Rd B a (.tup xs)) : Rd B' a (.tup xs) := by
  rcases h with h | ⟨o, h⟩
  · exact .inl (e.eq h)
  · exact .inr ⟨o, e.eq h⟩
theorem Sub.l {K : PySem.W.Frag} {B B' : Hp} (e : Sub B B') {a : Addr} {xs : List V} (h : SqL K B a xs) : SqL K B' a xs := by
  rcases h with h | h
  · exact .inl (e.rdL h)
  · exact .inr h
theorem Sub.t {K : PySem.W.Frag} {B B' : Hp} (e : Sub B B') {a : Addr} {xs : List V} (h : SqT K B a xs) : SqT K B' a xs := by
  rcases h with h | h
  · exact .inl (e.rdT h)
  · exact .inr h
theorem Sub.refl (B : Hp) : Sub B B := fun _ o h => ⟨o, h, rfl, fun _ => rfl⟩
theorem Sub.trans {B B1 B2 : Hp} (a : Sub B B1) (b : Sub B1 B2) : Sub B B2 := fun x o h => by
  obtain ⟨o1, h1, e1, l1⟩ := a x o h
  obtain ⟨o2, h2, e2, l2⟩ := b x o1 h1
  exact ⟨o2, h2, e2.trans e1, fun z => by
    have q := l1 z
    subst q
    exact l2 z⟩
section
variable {K : PySem.W.Frag} {B B' : Hp} (e : Sub B B')
include e
mutual
theorem Rep.mono : ∀ (d : D) (v : V), Rep K B d v → Rep K B' d v
  | .non, _, h => h
  | .bl _, _, h => h
  | .int _, _, h => h
  | .str _, _, h => h
  | .ref _, _, h => h
  | .ty _, _, h => h
  | .lst xs, _, h => by
    unfold Rep at h ⊢
    obtain ⟨a, vs, h1, h2, h3⟩ := h
    exact ⟨a, vs, h1, e.eq h2, RepL.mono xs vs h3⟩
  | .frl xs, _, h => by
    unfold Rep at h ⊢
    obtain ⟨a, vs, h1, h2, h3⟩ := h
    exact ⟨a, vs, h1, e.l h2, RepL.mono xs vs h3⟩
  | .tup xs, _, h => by
    unfold Rep at h ⊢
    obtain ⟨a, vs, h1, h2, h3⟩ := h
    exact ⟨a, vs, h1, e.t h2, RepL.mono xs vs h3⟩
  | .dic kvs, _, h => by
    unfold Rep at h ⊢
    obtain ⟨a, vs, h1, h2, h3⟩ := h
    exact ⟨a, vs, h1, e.rdK h2, RepK.mono kvs vs h3⟩
  | .obj T fs, _, h => by
    unfold Rep at h ⊢
    obtain ⟨a, dx, gs, h1, h2, h3, h4⟩ := h
    exact ⟨a, dx, gs, h1, e.eq h2, h3, RepL.mono fs _ h4⟩
  | .slo T fs, _, h => by
    unfold Rep at h ⊢
    obtain ⟨a, dx, vs, h1, h2, h3, h4⟩ := h
    exact ⟨a, dx, vs, h1, e.eq h2, e.eq h3, RepL.mono fs _ h4⟩
  | .xcp a d ns fs, _, h => by
    unfold Rep at h ⊢
    obtain ⟨h1, h2 | ⟨dd, gs, h2, h3, h4, h5⟩⟩ := h
    · exact ⟨h1, .inl h2⟩
    · exact ⟨h1, .inr ⟨dd, gs, h2, e.eq h3, h4, RepL.mono fs _ h5⟩⟩
theorem RepL.mono : ∀ (xs : List D) (vs : List V), RepL K B xs vs → RepL K B' xs vs
  | [], [], _ => by unfold RepL; trivial
  | x :: xs, v :: vs, h => by
    unfold RepL at h ⊢
    exact ⟨Rep.mono x v h.1, RepL.mono xs vs h.2⟩
  | [], _ :: _, h => by unfold RepL at h; exact h.elim
  | _ :: _, [], h => by unfold RepL at h; exact h.elim
theorem RepK.mono : ∀ (xs : List (Key × D)) (vs : List (Key × V)), RepK K B xs vs → RepK K B' xs vs
  | [], [], _ => by unfold RepK; trivial
  | (k, x) :: xs, (j, v) :: vs, h => by
    unfold RepK at h ⊢
    exact ⟨h.1, Rep.mono x v h.2.1, RepK.mono xs vs h.2.2⟩
  | [], _ :: _, h => by unfold RepK at h; exact h.elim
  | (_, _) :: _, [], h => by unfold RepK at h; exact h.elim
end
end
end DL

namespace DL
open PySem PySem.Spec PyProof.Rows L2
section
variable (K : PySem.W.Frag) (B : Hp) (L : List Addr)
def RepV : DV → V → Prop
  | .d x, v => Rep K B x v
  | .m i, v => ∃ a, v = .ref a ∧ L[i]? = some a
  | .pr x k, v => ∃ a u b, v = .ref a ∧ SqT K B a [u, .ref b] ∧ Rep K B x u ∧ L[k]? = some b
def RepVs : List DV → List V → Prop
  | [], [] => True
  | x :: xs, v :: vs => RepV K B L x v ∧ RepVs xs vs
  | [], _ :: _ => False
  | _ :: _, [] => False
end
/-- what an extension of the ground is -/
structure Ext (B : Hp) (L : List Addr) (B' : Hp) (L' : List Addr) : Prop where
  sub : Sub B B'
  pre : ∃ L2, L' = L ++ L2
theorem Ext.refl (B : Hp) (L : List Addr) : Ext B L B L := ⟨Sub.refl B, [], by simp⟩
theorem Ext.trans {B B1 B2 : Hp} {L L1 L2 : List Addr} (a : Ext B L B1 L1) (b : Ext B1 L1 B2 L2) : Ext B L B2 L2 := by
  obtain ⟨x, rfl⟩ := a.pre
  obtain ⟨y, rfl⟩ := b.pre
  exact ⟨a.sub.trans b.sub, x ++ y, by simp⟩
theorem Ext.get {B B' : Hp} {L L' : List Addr} (e : Ext B L B' L') {i : Nat} {a : Addr} (h : L[i]? = some a) : L'[i]? = some a := by
  obtain ⟨x, rfl⟩ := e.pre
  have hl := (List.getElem?_eq_some_iff.mp h).1
  rw [List.getElem?_append_left hl]
  exact h
section
variable {K : PySem.W.Frag} {B B' : Hp} {L L' : List Addr}
theorem RepV.mono (e : Ext B L B' L') : ∀ {x : DV} {v : V}, RepV K B L x v → RepV K B' L' x v
  | .d _, _, h => Rep.mono e.sub _ _ h
  | .m _, _, h => by
    obtain ⟨a, h1, h2⟩ := h
    exact ⟨a, h1, e.get h2⟩
  | .pr x k, _, h => by
    obtain ⟨a, u, b, h1, h2, h3, h4⟩ := h
    exact ⟨a, u, b, h1, e.sub.t h2, Rep.mono e.sub _ _ h3, e.get h4⟩
theorem RepVs.mono (e : Ext B L B' L') : ∀ {xs : List DV} {vs : List V}, RepVs K B L xs vs → RepVs K B' L' xs vs
  | [], [], h => h
  | _ :: _, _ :: _, h => ⟨h.1.mono e, RepVs.mono e h.2⟩
  | [], _ :: _, h => h.elim
  | _ :: _, [], h => h.elim
theorem RepVs.len : ∀ {xs : List DV} {vs : List V}, RepVs K B L xs vs → xs.length = vs.length
  | [], [], _ => rfl
  | _ :: _, _ :: _, h => by simp [RepVs.len h.2]
  | [], _ :: _, h => h.elim
  | _ :: _, [], h => h.elim
theorem RepVs.get : ∀ {xs : List DV} {vs : List V} {i : Nat} {x : DV}, RepVs K B L xs vs → xs[i]? = some x → ∃ v, vs[i]? = some v ∧ RepV K B L x v
  | [], _, _, _, _, e => by simp at e
  | _ :: _, [], _, _, h, _ => h.elim
  | x :: xs, v :: vs, 0, y, h, e => by
    simp at e
    subst e
    exact ⟨v, rfl, h.1⟩
  | x :: xs, v :: vs, i + 1, y, h, e => by
    obtain ⟨u, h1, h2⟩ := RepVs.get (i := i) h.2 (by simpa using e)
    exact ⟨u, by simpa using h1, h2⟩
theorem RepVs.app : ∀ {xs ys : List DV} {vs ws : List V}, RepVs K B L xs vs → RepVs K B L ys ws → RepVs K B L (xs ++ ys) (vs ++ ws)
  | [], _, [], _, _, h => h
  | _ :: _, _, _ :: _, _, h, g => ⟨h.1, RepVs.app h.2 g⟩
  | [], _, _ :: _, _, h, _ => h.elim
  | _ :: _, _, [], _, h, _ => h.elim
theorem RepVs.set {y : DV} {u : V} (r : RepV K B L y u) : ∀ {xs : List DV} {vs : List V} (i : Nat), RepVs K B L xs vs → RepVs K B L (xs.set i y) (vs.set i u)
  | [], [], _, h => h
  | _ :: _, _ :: _, 0, h => ⟨r, h.2⟩
  | _ :: _, _ :: _, i + 1, h => ⟨h.1, RepVs.set r i h.2⟩
  | [], _ :: _, _, h => h.elim
  | _ :: _, [], _, h => h.elim
theorem RepVs.take : ∀ {xs : List DV} {vs : List V} (n : Nat), RepVs K B L xs vs → RepVs K B L (xs.take n) (vs.take n)
  | _, _, 0, _ => trivial
  | [], [], _ + 1, h => h
  | _ :: _, _ :: _, n + 1, h => ⟨h.1, RepVs.take n h.2⟩
  | [], _ :: _, _ + 1, h => h.elim
  | _ :: _, [], _ + 1, h => h.elim
theorem RepVs.drop : ∀ {xs : List DV} {vs : List V} (n : Nat), RepVs K B L xs vs → RepVs K B L (xs.drop n) (vs.drop n)
  | _, _, 0, h => h
  | [], [], _ + 1, h => h
  | _ :: _, _ :: _, n + 1, h => RepVs.drop n h.2
  | [], _ :: _, _ + 1, h => h.elim
  | _ :: _, [], _ + 1, h => h.elim
theorem RepVs.eraseIdx : ∀ {xs : List DV} {vs : List V} (n : Nat), RepVs K B L xs vs → RepVs K B L (xs.eraseIdx n) (vs.eraseIdx n)
  | [], [], _, h => h
  | _ :: _, _ :: _, 0, h => h.2
  | _ :: _, _ :: _, n + 1, h => ⟨h.1, RepVs.eraseIdx n h.2⟩
  | [], _ :: _, _, h => h.elim
  | _ :: _, [], _, h => h.elim
/-- all data -/
theorem RepL.vs : ∀ {xs : List D} {vs : List V}, RepL K B xs vs → RepVs K B L (xs.map DV.d) vs
  | [], [], _ => trivial
  | x :: xs, v :: vs, h => by
    unfold RepL at h
    exact ⟨h.1, RepL.vs h.2⟩
  | [], _ :: _, h => by unfold RepL at h; exact h.elim
  | _ :: _, [], h => by unfold RepL at h; exact h.elim
theorem RepVs.toL : ∀ {xs : List D} {vs : List V}, RepVs K B L (xs.map DV.d) vs → RepL K B xs vs
  | [], [], _ => by unfold RepL; trivial
  | x :: xs, v :: vs, h => by
    unfold RepL
    exact ⟨h.1, RepVs.toL h.2⟩
  | [], _ :: _, h => h.elim
  | _ :: _, [], h => h.elim
theorem RepL.len : ∀ {xs : List D} {vs : List V}, RepL K B xs vs → xs.length = vs.length := fun {xs} {vs} h => by
  have := (RepL.vs (L := []) h).len
  simpa using this
end
/-! ### the state -/
def CellOk (K : PySem.W.Frag) (B : Hp) (L : List Addr) (H : Hp) (a : Addr) : MO → Prop
  | .lst xs => ∃ vs, H a = some (.lst vs) ∧ RepVs K B L xs vs
  | .dic kvs => ∃ ws, H a = some (.dK ws) ∧ RepK K B kvs ws
  | .ins T fs => ∃ dx gs, H a = some (.ins T.C dx gs) ∧ gs.map (·.1) = T.ns.take fs.length ∧ fs.length ≤ T.ns.length ∧ RepVs K B L fs (gs.map (·.2))
  | .gone => True
def MO.gone? : MO → Bool
  | .gone => true
  | _ => false
/-- the constants of the text that are tracked: known dicts -/
class Csts where
  cs : List (Addr × HO)
variable [Csts]
structure StM (K : PySem.W.Frag) (B : Hp) (L : List Addr) (Z : List (Addr × HO)) (M : Mem) (H : Hp) : Prop where
  sub : Sub B H
  zh : ∀ p ∈ Z, H p.1 = Option.some p.2 ∧ p.1 ∉ L ∧ (isLock p.2 = false → B p.1 = none)
  len : L.length = M.length
  nod : L.Nodup
  out : ∀ (i : Nat) (a : Addr) (o : MO), L[i]? = some a → M[i]? = some o → o.gone? = false → B a = none
  cell : ∀ (i : Nat) (a : Addr) (o : MO), L[i]? = some a → M[i]? = some o → CellOk K B L H a o
  live : ∀ (i : Nat) (a : Addr), L[i]? = some a → H a ≠ none
  cst : ∀ p ∈ Csts.cs, B p.1 = Option.some p.2 ∧ isLock p.2 = true
structure EnvR (K : PySem.W.Frag) (B : Hp) (L : List Addr) (σ : L2.St) (ρ : Rh) : Prop where
  len : ρ.length = σ.length
  at_ : ∀ (i : Nat) (x : DV), ρ[i]? = some (some x) → ∃ v, σ[i]? = some (some v) ∧ RepV K B L x v
section
variable {K : PySem.W.Frag} {B B' : Hp} {L L' : List Addr} {M M' : Mem} {H H' : Hp} {σ : L2.St} {ρ : Rh}
theorem EnvR.mono (e : Ext B L B' L') (h : EnvR K B L σ ρ) : EnvR K B' L' σ ρ :=
  ⟨h.len, fun i x hx => by
    obtain ⟨v, h1, h2⟩ := h.at_ i x hx
    exact ⟨v, h1, h2.mono e⟩⟩
theorem EnvR.set (h : EnvR K B L σ ρ) {x : DV} {v : V} (r : RepV K B L x v) (i : Nat) : EnvR K B L (σ.set i (some v)) (ρ.set i (some x)) := by
  refine ⟨by simp [h.len], fun j y hy => ?_⟩
  rw [List.getElem?_set] at hy ⊢
  by_cases hij : i = j
  · subst hij
    rw [if_pos rfl] at hy ⊢
    by_cases hl : i < ρ.length
    · rw [if_pos hl] at hy
      rw [if_pos (by rw [← h.len]; exact hl)]
      cases hy
      exact ⟨v, rfl, r⟩
    · rw [if_neg hl] at hy
      cases hy
  · rw [if_neg hij] at hy ⊢
    exact h.at_ j y hy
theorem EnvR.forget (h : EnvR K B L σ ρ) (i : Nat) (o : Option V) : EnvR K B L (σ.set i o) (ρ.set i none) := by
  refine ⟨by simp [h.len], fun j y hy => ?_⟩
  rw [List.getElem?_set] at hy ⊢
  by_cases hij : i = j
  · subst hij
    rw [if_pos rfl] at hy
    split at hy <;> cases hy
  · rw [if_neg hij] at hy ⊢
    exact h.at_ j y hy
end
theorem CellOk.mono {K : PySem.W.Frag} {B B' : Hp} {L L' : List Addr} {H H' : Hp} {a : Addr} (e : Ext B L B' L') (h : H' a = H a) : ∀ {o : MO}, CellOk K B L H a o → CellOk K B' L' H' a o
  | .lst xs, c => by
    obtain ⟨vs, h1, h2⟩ := c
    exact ⟨vs, h.trans h1, h2.mono e⟩
  | .dic xs, c => by
    obtain ⟨vs, h1, h2⟩ := c
    exact ⟨vs, h.trans h1, RepK.mono e.sub _ _ h2⟩
  | .ins T fs, c => by
    obtain ⟨dx, gs, h1, h2, h3, h4⟩ := c
    exact ⟨dx, gs, h.trans h1, h2, h3, h4.mono e⟩
  | .gone, _ => trivial
section
variable {K : PySem.W.Frag} {B : Hp} {L : List Addr} {Z : List (Addr × HO)} {M : Mem} {H : Hp} {p : Addr} {o : HO} {i : Nat} {a : Addr} {m : MO}
theorem StM.fresh (S : StM K B L Z M H) (hp : H p = none) : B p = none := by
  cases h : B p with
  | none => rfl
  | some o =>
    obtain ⟨o', h1, _, _⟩ := S.sub _ _ h
    rw [h1] at hp
    cases hp
theorem StM.notL (S : StM K B L Z M H) (hp : H p = none) : p ∉ L := fun h => by
  obtain ⟨i, hi⟩ := List.getElem?_of_mem h
  exact S.live i p hi hp
theorem upd_sub {B : Hp} (h : B p = none) : Sub B (upd B p o) := fun x u hx => ⟨u, by rw [upd_ne (ne_of_none hx h)]; exact hx, rfl, fun _ => rfl⟩
/-- new data -/
theorem StM.newD (S : StM K B L Z M H) (hp : H p = none) : StM K (upd B p o) L Z M (upd H p o) ∧ Ext B L (upd B p o) L := by
  have hB := S.fresh hp
  have hL := S.notL hp
  have E : Ext B L (upd B p o) L := ⟨upd_sub hB, [], by simp⟩
  have ne : ∀ i a, L[i]? = some a → a ≠ p := fun i a h q => hL (q ▸ List.mem_of_getElem? h)
  refine ⟨⟨fun x u hx => ?_, fun q hq => ?_, S.len, S.nod, fun i a o h ho hg => ?_, fun i a m h hm => ?_, fun i a h => ?_, fun q hq => by rw [upd_ne (ne_of_none (S.cst q hq).1 hB)]; exact S.cst q hq⟩, E⟩
  · by_cases q : x = p
    · subst q
      rw [upd_same] at hx ⊢
      exact ⟨_, hx, rfl, fun _ => rfl⟩
    · rw [upd_ne q] at hx ⊢
      exact S.sub _ _ hx
  · obtain ⟨h1, h2, h3⟩ := S.zh q hq
    exact ⟨by rw [upd_ne (ne_of_none h1 hp)]; exact h1, h2, fun z => by rw [upd_ne (ne_of_none h1 hp)]; exact h3 z⟩
  · rw [upd_ne (ne i a h)]
    exact S.out i a o h ho hg
  · exact (S.cell i a m h hm).mono E (upd_ne (ne i a h))
  · rw [upd_ne (ne i a h)]
    exact S.live i a h
/-- a new cell -/
theorem StM.newM (S : StM K B L Z M H) (hp : H p = none) (c : CellOk K B (L ++ [p]) (upd H p o) p m) : StM K B (L ++ [p]) Z (M ++ [m]) (upd H p o) ∧ Ext B L B (L ++ [p]) := by
  have hB := S.fresh hp
  have hL := S.notL hp
  have E : Ext B L B (L ++ [p]) := ⟨Sub.refl B, [p], rfl⟩
  have ne : ∀ i a, L[i]? = some a → a ≠ p := fun i a h q => hL (q ▸ List.mem_of_getElem? h)
  have split : ∀ i a, (L ++ [p])[i]? = some a → (L[i]? = some a) ∨ (i = L.length ∧ a = p) := fun i a h => by
    by_cases hi : i < L.length
    · rw [List.getElem?_append_left hi] at h
      exact .inl h
    · rw [List.getElem?_append_right (by omega)] at h
      right
      have : i - L.length = 0 := by
        by_cases z : i - L.length = 0
        · exact z
        · rw [List.getElem?_eq_none (by simp; omega)] at h
          cases h
      rw [this] at h
      simp at h
      exact ⟨by omega, h.symm⟩
  refine ⟨⟨fun x u hx => ?_, fun q hq => ?_, by simp [S.len], ?_, fun i a o h ho hg => ?_, fun i a m' h hm => ?_, fun i a h => ?_, S.cst⟩, E⟩
  · rw [upd_ne (ne_of_none hx hB)]
    exact S.sub _ _ hx
  · obtain ⟨h1, h2, h3⟩ := S.zh q hq
    refine ⟨by rw [upd_ne (ne_of_none h1 hp)]; exact h1, fun h => ?_, h3⟩
    rcases List.mem_append.mp h with h | h
    · exact h2 h
    · simp at h
      rw [h, hp] at h1
      cases h1
  · rw [List.nodup_append]
    refine ⟨S.nod, by simp, fun x hx y hy => ?_⟩
    simp at hy
    subst hy
    exact fun q => hL (q ▸ hx)
  · rcases split i a h with h | ⟨_, rfl⟩
    · have hi : i < M.length := by
        rw [← S.len]
        exact (List.getElem?_eq_some_iff.mp h).1
      rw [List.getElem?_append_left hi] at ho
      exact S.out i a o h ho hg
    · exact hB
  · rcases split i a h with h1 | ⟨rfl, rfl⟩
    · have hi : i < M.length := by
        rw [← S.len]
        exact (List.getElem?_eq_some_iff.mp h1).1
      rw [List.getElem?_append_left hi] at hm
      exact (S.cell i a m' h1 hm).mono E (upd_ne (ne i a h1))
    · rw [S.len, List.getElem?_append_right (Nat.le_refl _)] at hm
      simp at hm
      subst hm
      exact c
  · rcases split i a h with h1 | ⟨_, rfl⟩
    · rw [upd_ne (ne i a h1)]
      exact S.live i a h1
    · rw [upd_same]
      simp
/-- a cell is written -/
theorem StM.put {m0 : MO} (S : StM K B L Z M H) (hi : L[i]? = some a) (h0 : M[i]? = some m0) (hg : m0.gone? = false) (c : CellOk K B L (upd H a o) a m) : StM K B L Z (M.set i m) (upd H a o) := by
  have inj : ∀ j b, L[j]? = some b → j ≠ i → b ≠ a := fun j b hj n q => by
    subst q
    have h1 := (List.getElem?_eq_some_iff.mp hi).1
    have h2 := (List.getElem?_eq_some_iff.mp hj).1
    exact n ((List.getElem?_inj h2 S.nod).mp (hj.trans hi.symm))
  refine ⟨fun x u hx => ?_, fun q hq => ?_, by simp [S.len], S.nod, fun j b o hj ho hg' => ?_, fun j b m' hj hm => ?_, fun j b hj => ?_, S.cst⟩
  · have : x ≠ a := fun q => by
      subst q
      rw [S.out i x m0 hi h0 hg] at hx
      cases hx
    rw [upd_ne this]
    exact S.sub _ _ hx
  · obtain ⟨h1, h2, h3⟩ := S.zh q hq
    have : q.1 ≠ a := fun z => h2 (z ▸ List.mem_of_getElem? hi)
    exact ⟨by rw [upd_ne this]; exact h1, h2, h3⟩
  · rw [List.getElem?_set] at ho
    by_cases q : i = j
    · subst q
      have : a = b := Option.some.inj (hi.symm.trans hj)
      subst this
      exact S.out i a m0 hi h0 hg
    · rw [if_neg q] at ho
      exact S.out j b o hj ho hg'
  · rw [List.getElem?_set] at hm
    by_cases q : i = j
    · subst q
      rw [if_pos rfl] at hm
      have hl : i < M.length := by
        rw [← S.len]
        exact (List.getElem?_eq_some_iff.mp hi).1
      rw [if_pos hl] at hm
      cases hm
      have : a = b := Option.some.inj (hi.symm.trans hj)
      subst this
      exact c
    · rw [if_neg q] at hm
      exact (S.cell j b m' hj hm).mono (Ext.refl B L) (upd_ne (inj j b hj (Ne.symm q)))
  · by_cases q : b = a
    · subst q
      rw [upd_same]
      simp
    · rw [upd_ne q]
      exact S.live j b hj
theorem StM.at_ (S : StM K B L Z M H) (h : M[i]? = some m) : ∃ a, L[i]? = some a ∧ CellOk K B L H a m := by
  have hl : i < L.length := by
    rw [S.len]
    exact (List.getElem?_eq_some_iff.mp h).1
  exact ⟨L[i], List.getElem?_eq_getElem hl, S.cell i _ m (List.getElem?_eq_getElem hl) h⟩
end
end DL

namespace DL
open PySem PySem.Spec PyProof.Rows L2
variable [Csts]
abbrev Post := DV → Mem → Prop
abbrev XPost := Value → List (Str × D) → Mem → Prop
abbrev ET := Rh → Mem → Post → XPost → Prop
abbrev TT := Rh → Mem → (Bool → Mem → Prop) → XPost → Prop
abbrev AT := Rh → Mem → (List DV → Mem → Prop) → XPost → Prop
abbrev Zs := List (Addr × HO)
/-! ### the weakest wants -/
section
variable (X : Cx)
def sE (e : Expr) : L2.TE := fun σ H Q => ∀ pins s, Inv X pins σ H s → wpAny (model X.prog X.w) X.A (eval e X.env) (EP X pins σ Q) X.xe s
def sT (e : Expr) : L2.TT := fun σ H Q => ∀ pins s, Inv X pins σ H s → wpAny (model X.prog X.w) X.A (isTrue e X.env (eval e X.env)) (TP X pins σ Q) X.xe s
def sA (es : List Expr) : L2.TA := fun σ H Q => ∀ pos pins s, Inv X pins σ H s → wpAny (model X.prog X.w) X.A (spliced (backTo pos (starEach es X.env))) (AP X pins σ Q) X.xe s
def sS (st : Stmt) : L2.TS := fun F σ H => ∀ pins s, Inv X pins σ H s → wpAny (model X.prog X.w) X.A (exec st X.env) (SP X pins F) X.xe s
def sSs (st : List Stmt) : L2.TS := fun F σ H => ∀ pins s, Inv X pins σ H s → wpAny (model X.prog X.w) X.A (execs st X.env) (SP X pins F) X.xe s
def sO (f : Value → Value → Sem Value) (x y : V) (H : Hp) (Q : VK) : Prop := ∀ pins s σ v u, Inv X pins σ H s → RelV x v → RelV y u → wpAny (model X.prog X.w) X.A (f v u) (EP X pins σ Q) X.xe s
def sU (f : Value → Sem Value) (x : V) (H : Hp) (Q : VK) : Prop := ∀ pins s σ v, Inv X pins σ H s → RelV x v → wpAny (model X.prog X.w) X.A (f v) (EP X pins σ Q) X.xe s
def sC (f : Value) (xs : List V) (H : Hp) (Q : VK) : Prop := ∀ pins s σ us, Inv X pins σ H s → Vals xs us → wpAny (model X.prog X.w) X.A (call f us) (EP X pins σ Q) X.xe s
def sTr (x : V) (H : Hp) (Q : Bool → Hp → Prop) : Prop := ∀ pins s σ v, Inv X pins σ H s → RelV x v → wpAny (model X.prog X.w) X.A (truthy v) (TP X pins σ Q) X.xe s
def sG (tg : Expr) : L2.TG := fun x σ H Q => ∀ pins s u, Inv X pins σ H s → RelV x u → wpAny (model X.prog X.w) X.A (assign tg X.env u) (fun _ s' => ∃ σ' H', Inv X pins σ' H' s' ∧ Q σ' H') X.xe s
def sI (tg iter : Expr) : L2.TI := fun σ H R => ∀ pins s, Inv X pins σ H s → wpAny (model X.prog X.w) X.A (eval iter X.env) (fun v s1 => wpAny (model X.prog X.w) X.A (pyIter v) (PIE X pins σ tg R) X.xe s1) X.xe s
end
section
variable {X : Cx} {e : Expr} {es : List Expr} {st : Stmt} {sts : List Stmt} {σ : L2.St} {H : Hp}
theorem pe_s : PE X e (sE X e) := ⟨fun pins s _ _ _ I h => h pins s I⟩
theorem pt_s : PT X e (sT X e) := ⟨fun pins s _ _ _ I h => h pins s I⟩
theorem pa_s : PA X es (sA X es) := ⟨fun pos pins s _ _ _ I h => h pos pins s I⟩
theorem ps_s : PS X st (sS X st) := ⟨fun pins s _ _ _ I h => h pins s I⟩
theorem pss_s : PSs X sts (sSs X sts) := ⟨fun pins s _ _ _ I h => h pins s I⟩
theorem pg_s : PG X e (sG X e) := ⟨fun pins s _ _ _ u _ I r h => h pins s u I r⟩
theorem op_s {f : Value → Value → Sem Value} : OpR X f (sO X f) := fun pins s σ _ _ _ v u _ I r q h => h pins s σ v u I r q
theorem un_s {f : Value → Sem Value} : UnR X f (sU X f) := fun pins s σ _ _ v _ I r h => h pins s σ v I r
theorem call_s {f : Value} : CallR X f (sC X f) := fun pins s σ _ _ us _ I r h => h pins s σ us I r
theorem PE.s {t : L2.TE} (h : PE X e t) {Q : VK} (q : t σ H Q) : sE X e σ H Q := fun pins s I => h.run pins s σ H Q I q
theorem PT.s {t : L2.TT} (h : PT X e t) {Q : Bool → Hp → Prop} (q : t σ H Q) : sT X e σ H Q := fun pins s I => h.run pins s σ H Q I q
theorem PA.s {t : L2.TA} (h : PA X es t) {Q : List V → Hp → Prop} (q : t σ H Q) : sA X es σ H Q := fun pos pins s I => h.run pos pins s σ H Q I q
theorem PS.s {t : L2.TS} (h : PS X st t) {D : Ends} (q : t D σ H) : sS X st D σ H := fun pins s I => h.run pins s σ H D I q
theorem PSs.s {t : L2.TS} (h : PSs X sts t) {D : Ends} (q : t D σ H) : sSs X sts D σ H := fun pins s I => h.run pins s σ H D I q
theorem PG.s {t : L2.TG} (h : PG X e t) {x : V} {Q : L2.St → Hp → Prop} (q : t x σ H Q) : sG X e x σ H Q := fun pins s u I r => h.run pins s σ H x u Q I r q
theorem opS {f : Value → Value → Sem Value} {r : R2} (h : OpR X f r) {x y : V} {Q : VK} (q : r x y H Q) : sO X f x y H Q := fun pins s σ v u I rx ry => h pins s σ H x y v u Q I rx ry q
theorem unS {f : Value → Sem Value} {r : V → Hp → VK → Prop} (h : UnR X f r) {x : V} {Q : VK} (q : r x H Q) : sU X f x H Q := fun pins s σ v I rx => h pins s σ H x v Q I rx q
theorem callS {f : Value} {r : List V → Hp → VK → Prop} (h : CallR X f r) {xs : List V} {Q : VK} (q : r xs H Q) : sC X f xs H Q := fun pins s σ us I rx => h pins s σ H xs us Q I rx q
theorem PI.s {tg iter : Expr} {w : L2.TI} (h : PI X tg iter w) {R : It → Hp → Prop} (q : w σ H R) : sI X tg iter σ H R := fun pins s I => h.run pins s σ H R I q
theorem pi_s {tg iter : Expr} : PI X tg iter (sI X tg iter) := ⟨fun pins s _ _ _ I h => h pins s I⟩
end
/-! ### links -/
def XRep (K : PySem.W.Frag) (B : Hp) : Option Addr → List (Str × D) → Prop
  | none, fs => fs = []
  | some dd, fs => fs ≠ [] ∧ ∃ gs, B dd = some (.xd gs) ∧ gs.map (·.1) = fs.map (·.1) ∧ RepL K B (fs.map (·.2)) (gs.map (·.2))
def XOk (X : Cx) (B : Hp) (L : List Addr) (Z : Zs) (σ : L2.St) (x : XPost) : Prop :=
  ∃ W, Takes X W ∧ ∀ cls fs M' d B' L' H', x cls fs M' → Ext B L B' L' → StM X.K B' L' Z M' H' → XRep X.K B' d fs → W cls d σ H'
def POk (X : Cx) (B : Hp) (L : List Addr) (Z : Zs) (P : Post) (Q : VK) : Prop :=
  ∀ d M' v B' L' H', P d M' → Ext B L B' L' → StM X.K B' L' Z M' H' → RepV X.K B' L' d v → Q v H'
def TOk (X : Cx) (B : Hp) (L : List Addr) (Z : Zs) (P : Bool → Mem → Prop) (Q : Bool → Hp → Prop) : Prop :=
  ∀ b M' B' L' H', P b M' → Ext B L B' L' → StM X.K B' L' Z M' H' → Q b H'
def AOk (X : Cx) (B : Hp) (L : List Addr) (Z : Zs) (P : List DV → Mem → Prop) (Q : List V → Hp → Prop) : Prop :=
  ∀ ds M' vs B' L' H', P ds M' → Ext B L B' L' → StM X.K B' L' Z M' H' → RepVs X.K B' L' ds vs → Q vs H'
section
variable {X : Cx} {B B' : Hp} {L L' : List Addr} {Z : Zs} {σ : L2.St} {x : XPost} {P : Post} {Q : VK}
theorem XOk.mono (h : XOk X B L Z σ x) (e : Ext B L B' L') : XOk X B' L' Z σ x := by
  obtain ⟨W, h1, h2⟩ := h
  exact ⟨W, h1, fun cls fs M' d B2 L2 H' a b => h2 cls fs M' d B2 L2 H' a (e.trans b)⟩
theorem POk.mono (h : POk X B L Z P Q) (e : Ext B L B' L') : POk X B' L' Z P Q := fun d M' v B2 L2 H' a b => h d M' v B2 L2 H' a (e.trans b)
end
structure DE (X : Cx) (e : Expr) (f : ET) : Prop where
  run : ∀ {ρ M P x}, f ρ M P x → ∀ {σ H B L Z}, StM X.K B L Z M H → EnvR X.K B L σ ρ → XOk X B L Z σ x → ∀ {Q : VK}, POk X B L Z P Q → sE X e σ H Q
structure DT (X : Cx) (e : Expr) (f : TT) : Prop where
  run : ∀ {ρ M P x}, f ρ M P x → ∀ {σ H B L Z}, StM X.K B L Z M H → EnvR X.K B L σ ρ → XOk X B L Z σ x → ∀ {Q : Bool → Hp → Prop}, TOk X B L Z P Q → sT X e σ H Q
structure DA (X : Cx) (es : List Expr) (f : AT) : Prop where
  run : ∀ {ρ M P x}, f ρ M P x → ∀ {σ H B L Z}, StM X.K B L Z M H → EnvR X.K B L σ ρ → XOk X B L Z σ x → ∀ {Q : List V → Hp → Prop}, AOk X B L Z P Q → sA X es σ H Q
/-- operations on values -/
abbrev O2 := DV → DV → Mem → Post → Prop
structure DO (X : Cx) (f : Value → Value → Sem Value) (o : O2) : Prop where
  run : ∀ {a b M P}, o a b M P → ∀ {u v : V} {B L Z H}, StM X.K B L Z M H → RepV X.K B L a u → RepV X.K B L b v → ∀ {Q : VK}, POk X B L Z P Q → sO X f u v H Q
abbrev CT := List DV → Mem → Post → Prop
structure DC (X : Cx) (f : Value) (o : CT) : Prop where
  run : ∀ {a M P}, o a M P → ∀ {vs : List V} {B L Z H}, StM X.K B L Z M H → RepVs X.K B L a vs → ∀ {Q : VK}, POk X B L Z P Q → sC X f vs H Q
/-! ### expressions -/
section
variable {X : Cx} {a b c e : Expr} {es : List Expr} {fa fb fc fe : ET} {ft : TT} {fas : AT} {pos : Pos}
/-- nothing of the memory changes: a value is there -/
theorem POk.here {B : Hp} {L : List Addr} {Z : Zs} {P : Post} {Q : VK} {M : Mem} {H : Hp} (q : POk X B L Z P Q) (S : StM X.K B L Z M H) {d : DV} (h : P d M) {v : V} (r : RepV X.K B L d v) : Q v H := q d M v B L H h (Ext.refl B L) S r
def tVar (i : Nat) : ET := fun ρ M P _ => match ρ[i]? with
  | some (some d) => P d M
  | _ => False
theorem de_var (i : Nat) {x : Str} (hN : X.N[i]? = some x := by rfl) (hv : Vis X.env.scope x := by first | exact Or.inl rfl | exact Or.inr (Or.inl rfl) | exact Or.inr (Or.inr rfl)) (hd : (x == ("__debug__" : Str)) = false := by decide)
    (hcd : (x == ("__classdict__" : Str)) = false := by decide) : DE X (.Name x pos) (tVar i) where
  run := fun {ρ M P x'} h {σ H B L Z} S E _ {Q} q => by
    refine PE.s (pe_var (i := i) hN hv hd hcd) ?_
    unfold tVar at h
    split at h
    · rename_i d hd
      obtain ⟨v, h1, h2⟩ := E.at_ i d hd
      exact ⟨v, h1, q.here S h h2⟩
    · exact h.elim
def tC (d : D) : ET := fun _ M P _ => P (.d d) M
theorem de_pe {v : V} {d : D} (h : PE X e (L2.tC v)) (r : ∀ B, Rep X.K B d v) : DE X e (tC d) where
  run := fun {ρ M P x} h' {σ H B L Z} S E _ {Q} q => PE.s h (q.here S h' (r B))
theorem de_int {i j} : DE X (.Constant (.int i) j pos) (tC (.int i)) := de_pe pe_int fun _ => by simp only [Rep]
theorem de_bl {i j} : DE X (.Constant (.bool i) j pos) (tC (.bl i)) := de_pe pe_bl fun _ => by simp only [Rep]
theorem de_non {j} : DE X (.Constant .none j pos) (tC .non) := de_pe pe_non fun _ => by simp only [Rep]
theorem de_str {i j} : DE X (.Constant (.str i) j pos) (tC (.str i)) := de_pe pe_str fun _ => by simp only [Rep]
/-- a module's name whose value is known -/
theorem de_glob {x : Str} {v : V} {u : Value} {d : D} (hg : Gl X x) (hm : X.mg x = some u) (r : RelV v u) (rd : ∀ B, Rep X.K B d v) (hd : (x == ("__debug__" : Str)) = false := by decide) : DE X (.Name x pos) (tC d) :=
  de_pe (pe_glob hg hm r hd) rd
def tBin (o : O2) (fa fb : ET) : ET := fun ρ M P x => fa ρ M (fun d M1 => fb ρ M1 (fun d2 M2 => o d d2 M2 P) x) x
theorem de_bin {op : Operator} {o : O2} (ho : DO X (binaryOp op) o) (ha : DE X a fa) (hb : DE X b fb) : DE X (.BinOp a op b pos) (tBin o fa fb) where
  run := fun {ρ M P x} h {σ H B L Z} S E x1 {Q} q => by
    refine PE.s (pe_op op_s pe_s pe_s) ?_
    refine ha.run h S E x1 fun d M1 v B1 L1 H1 h1 e1 S1 r1 => ?_
    refine hb.run h1 S1 (E.mono e1) (x1.mono e1) fun d2 M2 v2 B2 L2 H2 h2 e2 S2 r2 => ?_
    exact ho.run h2 S2 (r1.mono e2) r2 (q.mono (e1.trans e2))
theorem de_cmp {op : CmpOp} {o : O2} (ho : DO X (compareOp op) o) (ha : DE X a fa) (hb : DE X b fb) (hm : behindInMarks op b = false := by first | exact nomark _ | rfl | with_unfolding_all rfl) : DE X (.Compare a [op] [b] pos) (tBin o fa fb) where
  run := fun {ρ M P x} h {σ H B L Z} S E x1 {Q} q => by
    refine PE.s (pe_cmpR op_s pe_s pe_s hm) ?_
    refine ha.run h S E x1 fun d M1 v B1 L1 H1 h1 e1 S1 r1 => ?_
    refine hb.run h1 S1 (E.mono e1) (x1.mono e1) fun d2 M2 v2 B2 L2 H2 h2 e2 S2 r2 => ?_
    exact ho.run h2 S2 (r1.mono e2) r2 (q.mono (e1.trans e2))
/-- the value is a bool -/
def isB (d : DV) (P : Bool → Prop) : Prop := match d with
  | .d (.bl b) => P b
  | _ => False
theorem isB.of {d : DV} {P : Bool → Prop} (h : isB d P) : ∃ b, d = .d (.bl b) ∧ P b := by
  unfold isB at h
  split at h
  · exact ⟨_, rfl, h⟩
  · exact h.elim
def tB (f : ET) : TT := fun ρ M P x => f ρ M (fun d M1 => isB d fun b => P b M1) x
theorem dt_val (h : DE X e fe) (he : ∀ whole, isTrue e X.env whole = (do let v ← whole; standAt e.pos; holding [v] (truthy v)) := by intro _; rfl) : DT X e (tB fe) where
  run := fun {ρ M P x} h' {σ H B L Z} S E x1 {Q} q => by
    refine PT.s (pt_val pe_s he) ?_
    refine h.run h' S E x1 fun d M1 v B1 L1 H1 h1 e1 S1 r1 => ?_
    obtain ⟨b, rfl, h2⟩ := h1.of
    have r1 : v = .bl b := by simpa only [RepV, Rep] using r1
    exact ⟨b, r1, q b M1 B1 L1 H1 h2 e1 S1⟩
theorem dt_cmp {op : CmpOp} {o : O2} (ho : DO X (compareOp op) o) (ha : DE X a fa) (hb : DE X b fb) (hm : behindInMarks op b = false := by first | exact nomark _ | rfl | with_unfolding_all rfl) : DT X (.Compare a [op] [b] pos) (tB (tBin o fa fb)) where
  run := fun {ρ M P x} h {σ H B L Z} S E x1 {Q} q => by
    refine PT.s (pt_cmpR op_s pe_s pe_s hm) ?_
    refine ha.run h S E x1 fun d M1 v B1 L1 H1 h1 e1 S1 r1 => ?_
    refine hb.run h1 S1 (E.mono e1) (x1.mono e1) fun d2 M2 v2 B2 L2 H2 h2 e2 S2 r2 => ?_
    refine ho.run h2 S2 (r1.mono e2) r2 fun d3 M3 v3 B3 L3 H3 h3 e3 S3 r3 => ?_
    obtain ⟨k, rfl, h4⟩ := h3.of
    have r3 : v3 = .bl k := by simpa only [RepV, Rep] using r3
    exact ⟨k, r3, q k M3 B3 L3 H3 h4 ((e1.trans e2).trans e3) S3⟩
/-- truth of a value -/
abbrev T1 := DV → Mem → (Bool → Mem → Prop) → Prop
structure DTr (X : Cx) (o : T1) : Prop where
  run : ∀ {a M P}, o a M P → ∀ {u : V} {B L Z H}, StM X.K B L Z M H → RepV X.K B L a u → ∀ {Q : Bool → Hp → Prop}, TOk X B L Z P Q → ∃ k, TruV X.K u H k ∧ Q k H
def tTr (o : T1) (f : ET) : TT := fun ρ M P x => f ρ M (fun d M1 => o d M1 P) x
theorem dt_truth {o : T1} (ho : DTr X o) (h : DE X e fe) (he : ∀ whole, isTrue e X.env whole = (do let v ← whole; standAt e.pos; holding [v] (truthy v)) := by intro _; rfl) : DT X e (tTr o fe) where
  run := fun {ρ M P x} h' {σ H B L Z} S E x1 {Q} q => by
    refine PT.s (pt_truth pe_s he) ?_
    refine h.run h' S E x1 fun d M1 v B1 L1 H1 h1 e1 S1 r1 => ?_
    exact ho.run h1 S1 r1 fun b M' B' L' H' p e s => q b M' B' L' H' p (e1.trans e) s
/-! ### and, or, not, if -/
variable {rest : List Expr} {ta tb : TT}
def tAnd (ta tb : TT) : TT := fun ρ M P x => ta ρ M (fun k M1 => (k = true → tb ρ M1 P x) ∧ (k = false → P false M1)) x
def tOr (ta tb : TT) : TT := fun ρ M P x => ta ρ M (fun k M1 => (k = true → P true M1) ∧ (k = false → tb ρ M1 P x)) x
def tNot (ta : TT) : TT := fun ρ M P x => ta ρ M (fun k M1 => P (!k) M1) x
/-- a chain of tests, whatever its 'whole' -/
structure DW (X : Cx) (e : Expr) (f : TT) : Prop where
  run : ∀ {ρ M P x}, f ρ M P x → ∀ {σ H B L Z}, StM X.K B L Z M H → EnvR X.K B L σ ρ → XOk X B L Z σ x → ∀ {Q : Bool → Hp → Prop}, TOk X B L Z P Q →
    ∀ whole pins s, Inv X pins σ H s → wpAny (model X.prog X.w) X.A (isTrue e X.env whole) (TP X pins σ Q) X.xe s
def sW (X : Cx) (e : Expr) : L2.TT := fun σ H Q => ∀ whole pins s, Inv X pins σ H s → wpAny (model X.prog X.w) X.A (isTrue e X.env whole) (TP X pins σ Q) X.xe s
theorem pw_s : PW X e (sW X e) := ⟨fun whole pins s _ _ _ I h => h whole pins s I⟩
theorem dw_and1 (ha : DT X a ta) : DW X (.BoolOp .And [a] pos) ta where
  run := fun {ρ M P x} h {σ H B L Z} S E x1 {Q} q whole pins s I => (pw_and1 pt_s).run whole pins s σ H Q I (ha.run h S E x1 q)
theorem dw_or1 (ha : DT X a ta) : DW X (.BoolOp .Or [a] pos) ta where
  run := fun {ρ M P x} h {σ H B L Z} S E x1 {Q} q whole pins s I => (pw_or1 pt_s).run whole pins s σ H Q I (ha.run h S E x1 q)
theorem dw_and (ha : DT X a ta) (hb : DW X (.BoolOp .And (b :: rest) pos) tb) : DW X (.BoolOp .And (a :: b :: rest) pos) (tAnd ta tb) where
  run := fun {ρ M P x} h {σ H B L Z} S E x1 {Q} q whole pins s I => by
    refine (pw_and pt_s (pw_s (e := .BoolOp .And (b :: rest) pos))).run whole pins s σ H Q I ?_
    refine ha.run h S E x1 fun k M1 B1 L1 H1 h1 e1 S1 => ?_
    cases k with
    | false => exact q false M1 B1 L1 H1 (h1.2 rfl) e1 S1
    | true => exact fun whole pins s I => hb.run (h1.1 rfl) S1 (E.mono e1) (x1.mono e1) (fun b M' B' L' H' p e s => q b M' B' L' H' p (e1.trans e) s) whole pins s I
theorem dw_or (ha : DT X a ta) (hb : DW X (.BoolOp .Or (b :: rest) pos) tb) : DW X (.BoolOp .Or (a :: b :: rest) pos) (tOr ta tb) where
  run := fun {ρ M P x} h {σ H B L Z} S E x1 {Q} q whole pins s I => by
    refine (pw_or pt_s (pw_s (e := .BoolOp .Or (b :: rest) pos))).run whole pins s σ H Q I ?_
    refine ha.run h S E x1 fun k M1 B1 L1 H1 h1 e1 S1 => ?_
    cases k with
    | true => exact q true M1 B1 L1 H1 (h1.1 rfl) e1 S1
    | false => exact fun whole pins s I => hb.run (h1.2 rfl) S1 (E.mono e1) (x1.mono e1) (fun b M' B' L' H' p e s => q b M' B' L' H' p (e1.trans e) s) whole pins s I
theorem DW.dt (h : DW X e ta) : DT X e ta where
  run := fun {ρ M P x} h' {σ H B L Z} S E x1 {Q} q pins s I => h.run h' S E x1 q _ pins s I
theorem dt_not (ha : DT X a ta) : DT X (.UnaryOp .Not a pos) (tNot ta) where
  run := fun {ρ M P x} h {σ H B L Z} S E x1 {Q} q => by
    refine PT.s (pt_not pt_s) ?_
    refine ha.run h S E x1 fun k M1 B1 L1 H1 h1 e1 S1 => ?_
    exact q _ M1 B1 L1 H1 h1 e1 S1
def tAndV (fa fb : ET) : ET := fun ρ M P x => fa ρ M (fun d M1 => isB d fun k => (k = true → fb ρ M1 P x) ∧ (k = false → P (.d (.bl false)) M1)) x
def tOrV (fa fb : ET) : ET := fun ρ M P x => fa ρ M (fun d M1 => isB d fun k => (k = true → P (.d (.bl true)) M1) ∧ (k = false → fb ρ M1 P x)) x
def tNotV (fa : ET) : ET := fun ρ M P x => fa ρ M (fun d M1 => isB d fun k => P (.d (.bl (!k))) M1) x
theorem de_one {op} (h : DE X a fa) : DE X (.BoolOp op [a] pos) fa where
  run := fun {ρ M P x} h' {σ H B L Z} S E x1 {Q} q => PE.s (pe_one pe_s) (h.run h' S E x1 q)
theorem de_and (ha : DE X a fa) (hb : DE X (.BoolOp .And (b :: rest) pos) fb) : DE X (.BoolOp .And (a :: b :: rest) pos) (tAndV fa fb) where
  run := fun {ρ M P x} h {σ H B L Z} S E x1 {Q} q => by
    refine PE.s (pe_and pe_s (pe_s (e := .BoolOp .And (b :: rest) pos))) ?_
    refine ha.run h S E x1 fun d M1 v B1 L1 H1 h1 e1 S1 r1 => ?_
    obtain ⟨k, rfl, h2⟩ := h1.of
    have r1 : v = .bl k := by simpa only [RepV, Rep] using r1
    refine ⟨k, r1, ?_⟩
    cases k with
    | false => exact q _ M1 _ B1 L1 H1 (h2.2 rfl) e1 S1 (by simp only [RepV, Rep])
    | true => exact hb.run (h2.1 rfl) S1 (E.mono e1) (x1.mono e1) (q.mono e1)
theorem de_or (ha : DE X a fa) (hb : DE X (.BoolOp .Or (b :: rest) pos) fb) : DE X (.BoolOp .Or (a :: b :: rest) pos) (tOrV fa fb) where
  run := fun {ρ M P x} h {σ H B L Z} S E x1 {Q} q => by
    refine PE.s (pe_or pe_s (pe_s (e := .BoolOp .Or (b :: rest) pos))) ?_
    refine ha.run h S E x1 fun d M1 v B1 L1 H1 h1 e1 S1 r1 => ?_
    obtain ⟨k, rfl, h2⟩ := h1.of
    have r1 : v = .bl k := by simpa only [RepV, Rep] using r1
    refine ⟨k, r1, ?_⟩
    cases k with
    | true => exact q _ M1 _ B1 L1 H1 (h2.1 rfl) e1 S1 (by simp only [RepV, Rep])
    | false => exact hb.run (h2.2 rfl) S1 (E.mono e1) (x1.mono e1) (q.mono e1)
theorem de_not (ha : DE X a fa) : DE X (.UnaryOp .Not a pos) (tNotV fa) where
  run := fun {ρ M P x} h {σ H B L Z} S E x1 {Q} q => by
    refine PE.s (pe_not pe_s) ?_
    refine ha.run h S E x1 fun d M1 v B1 L1 H1 h1 e1 S1 r1 => ?_
    obtain ⟨k, rfl, h2⟩ := h1.of
    have r1 : v = .bl k := by simpa only [RepV, Rep] using r1
    exact ⟨k, r1, q _ M1 _ B1 L1 H1 h2 e1 S1 (by simp only [RepV, Rep])⟩
def tIf (ft : TT) (fa fb : ET) : ET := fun ρ M P x => ft ρ M (fun k M1 => (k = true → fa ρ M1 P x) ∧ (k = false → fb ρ M1 P x)) x
theorem de_if (hc : DT X c ft) (ha : DE X a fa) (hb : DE X b fb) : DE X (.IfExp c a b pos) (tIf ft fa fb) where
  run := fun {ρ M P x} h {σ H B L Z} S E x1 {Q} q => by
    refine PE.s (pe_ifExp pt_s pe_s pe_s) ?_
    refine hc.run h S E x1 fun k M1 B1 L1 H1 h1 e1 S1 => ?_
    cases k with
    | true => exact ha.run (h1.1 rfl) S1 (E.mono e1) (x1.mono e1) (q.mono e1)
    | false => exact hb.run (h1.2 rfl) S1 (E.mono e1) (x1.mono e1) (q.mono e1)
/-- a op1 b op2 c -/
def tChain (o o' : O2) (fa fb fc : ET) : ET := fun ρ M P x => fa ρ M (fun d1 M1 => fb ρ M1 (fun d2 M2 => o d1 d2 M2 fun k M3 => isB k fun k => (k = true → fc ρ M3 (fun d3 M4 => o' d2 d3 M4 P) x) ∧ (k = false → P (.d (.bl false)) M3)) x) x
theorem de_chain {op op' : CmpOp} {o o' : O2} (ho : DO X (compareOp op) o) (ho' : DO X (compareOp op') o') (ha : DE X a fa) (hb : DE X b fb) (hc : DE X c fc)
    (hm : lastMarks [op, op'] [b, c] = false := by with_unfolding_all rfl) : DE X (.Compare a [op, op'] [b, c] pos) (tChain o o' fa fb fc) where
  run := fun {ρ M P x} h {σ H B L Z} S E x1 {Q} q => by
    refine PE.s (pe_chain op_s op_s pe_s pe_s pe_s hm) ?_
    refine ha.run h S E x1 fun d1 M1 v1 B1 L1 H1 h1 e1 S1 r1 => ?_
    refine hb.run h1 S1 (E.mono e1) (x1.mono e1) fun d2 M2 v2 B2 L2 H2 h2 e2 S2 r2 => ?_
    refine ho.run h2 S2 (r1.mono e2) r2 fun d3 M3 v3 B3 L3 H3 h3 e3 S3 r3 => ?_
    obtain ⟨k, rfl, h4⟩ := h3.of
    have r3 : v3 = .bl k := by simpa only [RepV, Rep] using r3
    refine ⟨k, r3, ?_⟩
    have e := (e1.trans e2).trans e3
    cases k with
    | false => exact q _ M3 _ B3 L3 H3 (h4.2 rfl) e S3 (by simp only [RepV, Rep])
    | true =>
      refine hc.run (h4.1 rfl) S3 (E.mono e) (x1.mono e) fun d5 M5 v5 B5 L5 H5 h5 e5 S5 r5 => ?_
      exact ho'.run h5 S5 (r2.mono (e3.trans e5)) r5 (q.mono (e.trans e5))
/-! ### arguments -/
def tNil : AT := fun _ M P _ => P [] M
def tCons (fe : ET) (fas : AT) : AT := fun ρ M P x => fe ρ M (fun d M1 => fas ρ M1 (fun ds M2 => P (d :: ds) M2) x) x
theorem da_nil : DA X [] tNil where
  run := fun {ρ M P x} h {σ H B L Z} S E x1 {Q} q => PA.s pa_nil (q [] M [] B L H h (Ext.refl B L) S trivial)
theorem da_cons (he : DE X e fe) (hr : DA X es fas) (hs : starEach (e :: es) X.env = (false, eval e X.env) :: starEach es X.env := by rfl) : DA X (e :: es) (tCons fe fas) where
  run := fun {ρ M P x} h {σ H B L Z} S E x1 {Q} q => by
    refine PA.s (pa_cons pe_s pa_s hs) ?_
    refine he.run h S E x1 fun d M1 v B1 L1 H1 h1 e1 S1 r1 => ?_
    refine hr.run h1 S1 (E.mono e1) (x1.mono e1) fun ds M2 vs B2 L2 H2 h2 e2 S2 r2 => ?_
    exact q (d :: ds) M2 (v :: vs) B2 L2 H2 h2 (e1.trans e2) S2 ⟨r1.mono e2, r2⟩
end
/-! ### calls by value -/
section
variable {X : Cx} {x : Str} {p pos : Pos} {e : Expr} {es : List Expr} {fas : AT} {id T : String} {o : CT}
def tCB (o : CT) (fas : AT) : ET := fun ρ M P x => fas ρ M (fun ds M1 => o ds M1 P) x
theorem de_callB (ho : DC X (.builtin id) o) (hg : Gl X x) (hm : X.mg x = none) (hv : bootBuiltins x = some (.builtin id)) (ha : DA X (e :: es) fas) (hn : x ≠ "__name__" := by decide) (hdb : (x == ("__debug__" : Str)) = false := by decide)
    (he : starEach (e :: es) X.env = (false, eval e X.env) :: starEach es X.env := by rfl) (hpl : (backTo pos (starEach es X.env)).any (·.1) = false := by rfl) : DE X (.Call (.Name x p) (e :: es) [] pos) (tCB o fas) where
  run := fun {ρ M P x} h {σ H B L Z} S E x1 {Q} q => by
    refine PE.s (pe_callB call_s hg hm hv pa_s hn hdb he hpl) ?_
    refine ha.run h S E x1 fun ds M1 vs B1 L1 H1 h1 e1 S1 r1 => ?_
    exact ho.run h1 S1 r1 (q.mono e1)
theorem de_callTy (ho : DC X (.type T) o) (hg : Gl X x) (hm : X.mg x = none) (hv : bootBuiltins x = some (.type T)) (ha : DA X (e :: es) fas) (hn : x ≠ "__name__" := by decide) (hdb : (x == ("__debug__" : Str)) = false := by decide)
    (he : starEach (e :: es) X.env = (false, eval e X.env) :: starEach es X.env := by rfl) (hpl : (backTo pos (starEach es X.env)).any (·.1) = false := by rfl) : DE X (.Call (.Name x p) (e :: es) [] pos) (tCB o fas) where
  run := fun {ρ M P x} h {σ H B L Z} S E x1 {Q} q => by
    refine PE.s (pe_callTy call_s hg hm hv pa_s hn hdb he hpl) ?_
    refine ha.run h S E x1 fun ds M1 vs B1 L1 H1 h1 e1 S1 r1 => ?_
    exact ho.run h1 S1 r1 (q.mono e1)
end
end DL

namespace DL
open PySem PySem.Spec PyProof.Rows L2
variable [Csts]
/-! ### statements -/
structure DEnds where
  nx : Rh → Mem → Prop
  rt : Post
  ex : Value → List (Str × D) → Rh → Mem → Prop
  bk : Rh → Mem → Prop := fun _ _ => False
  ct : Rh → Mem → Prop := fun _ _ => False
abbrev ST := DEnds → Rh → Mem → Prop
def NOk (X : Cx) (B : Hp) (L : List Addr) (Z : Zs) (N : Rh → Mem → Prop) (N' : L2.St → Hp → Prop) : Prop :=
  ∀ ρ' M' B' L' σ' H', N ρ' M' → Ext B L B' L' → StM X.K B' L' Z M' H' → EnvR X.K B' L' σ' ρ' → N' σ' H'
def XOkS (X : Cx) (B : Hp) (L : List Addr) (Z : Zs) (x : Value → List (Str × D) → Rh → Mem → Prop) : Prop :=
  ∃ W, Takes X W ∧ ∀ cls fs ρ' M' d B' L' σ' H', x cls fs ρ' M' → Ext B L B' L' → StM X.K B' L' Z M' H' → EnvR X.K B' L' σ' ρ' → XRep X.K B' d fs → W cls d σ' H'
structure Lk (X : Cx) (B : Hp) (L : List Addr) (Z : Zs) (E : DEnds) (F : Ends) : Prop where
  nx : NOk X B L Z E.nx F.nx
  rt : POk X B L Z E.rt F.rt
  bk : NOk X B L Z E.bk F.bk
  ct : NOk X B L Z E.ct F.ct
  ex : XOkS X B L Z E.ex
structure DS (X : Cx) (st : Stmt) (t : ST) : Prop where
  run : ∀ {E ρ M}, t E ρ M → ∀ {σ H B L Z}, StM X.K B L Z M H → EnvR X.K B L σ ρ → ∀ {F}, Lk X B L Z E F → sS X st F σ H
structure DSs (X : Cx) (st : List Stmt) (t : ST) : Prop where
  run : ∀ {E ρ M}, t E ρ M → ∀ {σ H B L Z}, StM X.K B L Z M H → EnvR X.K B L σ ρ → ∀ {F}, Lk X B L Z E F → sSs X st F σ H
section
variable {X : Cx} {B B' : Hp} {L L' : List Addr} {Z : Zs}
theorem NOk.mono {N : Rh → Mem → Prop} {N' : L2.St → Hp → Prop} (h : NOk X B L Z N N') (e : Ext B L B' L') : NOk X B' L' Z N N' := fun ρ M B2 L2 σ H a b => h ρ M B2 L2 σ H a (e.trans b)
theorem XOkS.mono {x} (h : XOkS X B L Z x) (e : Ext B L B' L') : XOkS X B' L' Z x := by
  obtain ⟨W, h1, h2⟩ := h
  exact ⟨W, h1, fun cls fs ρ M d B2 L2 σ H a b => h2 cls fs ρ M d B2 L2 σ H a (e.trans b)⟩
theorem XOkS.at_ {x} (h : XOkS X B L Z x) {ρ : Rh} {σ : L2.St} (E : EnvR X.K B L σ ρ) : XOk X B L Z σ (fun c fs M => x c fs ρ M) := by
  obtain ⟨W, h1, h2⟩ := h
  exact ⟨W, h1, fun cls fs M d B2 L2 H a b c r => h2 cls fs ρ M d B2 L2 σ H a b c (E.mono b) r⟩
theorem Lk.mono {E : DEnds} {F : Ends} (h : Lk X B L Z E F) (e : Ext B L B' L') : Lk X B' L' Z E F := ⟨h.nx.mono e, h.rt.mono e, h.bk.mono e, h.ct.mono e, h.ex.mono e⟩
/-- no exception -/
theorem XOk.none (σ : L2.St) : XOk X.nox B L Z σ (fun _ _ _ => False) := ⟨fun _ _ _ _ => False, takes0, fun _ _ _ _ _ _ _ h => h.elim⟩
end
/-- an expression's exceptions as a statement's -/
abbrev xS (E : DEnds) (ρ : Rh) : XPost := fun c fs M => E.ex c fs ρ M
section
variable {X : Cx} {st : Stmt} {rest : List Stmt} {t u : ST} {e : Expr} {fe : ET} {pos : Pos}
def tNext : ST := fun E ρ M => E.nx ρ M
def tSeq (t u : ST) : ST := fun E ρ M => t { E with nx := u E } ρ M
theorem dss_nil : DSs X [] tNext where
  run := fun h _ _ _ _ _ S V _ l => PSs.s pss_nil (l.nx _ _ _ _ _ _ h (Ext.refl _ _) S V)
theorem dss_cons (h1 : DS X st t) (h2 : DSs X rest u) : DSs X (st :: rest) (tSeq t u) where
  run := fun {E ρ M} h {σ H B L Z} S V {F} l => by
    refine PSs.s (pss_cons ps_s pss_s) ?_
    exact h1.run h S V (F := { F with nx := sSs X rest F }) ⟨fun ρ' M' B' L' σ' H' a b c d => h2.run a c d (l.mono b), l.rt, l.bk, l.ct, l.ex⟩
theorem dss_one (h1 : DS X st t) : DSs X [st] t where
  run := fun {E ρ M} h {σ H B L Z} S V {F} l => PSs.s (pss_one ps_s) (h1.run h S V l)
theorem ds_pass : DS X (.Pass pos) tNext where
  run := fun h _ _ _ _ _ S V _ l => PS.s ps_pass (l.nx _ _ _ _ _ _ h (Ext.refl _ _) S V)
def tBreak : ST := fun E ρ M => E.bk ρ M
def tCont : ST := fun E ρ M => E.ct ρ M
theorem ds_break : DS X (.Break pos) tBreak where
  run := fun h _ _ _ _ _ S V _ l => PS.s ps_break (l.bk _ _ _ _ _ _ h (Ext.refl _ _) S V)
theorem ds_cont : DS X (.Continue pos) tCont where
  run := fun h _ _ _ _ _ S V _ l => PS.s ps_continue (l.ct _ _ _ _ _ _ h (Ext.refl _ _) S V)
theorem ds_doc {x j pos'} : DS X (.Expr (.Constant (.str x) j pos) pos') tNext where
  run := fun h _ _ _ _ _ S V _ l => PS.s ps_doc (l.nx _ _ _ _ _ _ h (Ext.refl _ _) S V)
def tNever : ST := fun _ _ _ => False
theorem ds_never : DS X st tNever where
  run := fun h => h.elim
theorem dss_never {sts : List Stmt} : DSs X sts tNever where
  run := fun h => h.elim
def tDrop (fe : ET) : ST := fun E ρ M => fe ρ M (fun _ M1 => E.nx ρ M1) (xS E ρ)
theorem ds_expr (he : DE X e fe) (hs : swapsWith e none pos.line X.env = pure false := by rfl) : DS X (.Expr e pos) (tDrop fe) where
  run := fun {E ρ M} h {σ H B L Z} S V {F} l => by
    refine PS.s (ps_expr pe_s hs) ?_
    exact he.run h S V (l.ex.at_ V) fun d M1 v B1 L1 H1 h1 e1 S1 r1 => l.nx _ _ _ _ _ _ h1 e1 S1 (V.mono e1)
def tRet (fe : ET) : ST := fun E ρ M => fe ρ M E.rt (xS E ρ)
theorem ds_ret (he : DE X e fe) : DS X (.Return (some e) pos) (tRet fe) where
  run := fun {E ρ M} h {σ H B L Z} S V {F} l => PS.s (ps_ret pe_s) (he.run h S V (l.ex.at_ V) l.rt)
def tRetN : ST := fun E _ M => E.rt (.d .non) M
theorem ds_retN : DS X (.Return none pos) tRetN where
  run := fun {E ρ M} h {σ H B L Z} S V {F} l => PS.s ps_retN (l.rt _ _ _ _ _ _ h (Ext.refl _ _) S (by simp only [RepV, Rep]))
def tIfS (c : TT) (t u : ST) : ST := fun E ρ M => c ρ M (fun b M1 => (b = true → t E ρ M1) ∧ (b = false → u E ρ M1)) (xS E ρ)
theorem ds_if {c : Expr} {a b : List Stmt} {tc : TT} (hc : DT X c tc) (ha : DSs X a t) (hb : DSs X b u) : DS X (.If c a b pos) (tIfS tc t u) where
  run := fun {E ρ M} h {σ H B L Z} S V {F} l => by
    refine PS.s (ps_if pt_s pss_s pss_s) ?_
    refine hc.run h S V (l.ex.at_ V) fun k M1 B1 L1 H1 h1 e1 S1 => ?_
    cases k with
    | true => exact ha.run (h1.1 rfl) S1 (V.mono e1) (l.mono e1)
    | false => exact hb.run (h1.2 rfl) S1 (V.mono e1) (l.mono e1)
end
/-! ### targets -/
abbrev GT := DV → Rh → Mem → (Rh → Mem → Prop) → Prop
structure DG (X : Cx) (tg : Expr) (g : GT) : Prop where
  run : ∀ {x ρ M N}, g x ρ M N → ∀ {v σ H B L Z}, StM X.K B L Z M H → EnvR X.K B L σ ρ → RepV X.K B L x v → ∀ {N' : L2.St → Hp → Prop}, NOk X B L Z N N' → sG X tg v σ H N'
section
variable {X : Cx} {pos : Pos}
def gName (i : Nat) : GT := fun x ρ M N => N (ρ.set i (some x)) M
theorem dg_name (i : Nat) {x : Str} (hN : X.N.Nodup) (hi : X.N[i]? = some x := by rfl) (hx : Loc X.env.scope x := by first | exact Or.inl rfl | exact Or.inr rfl) (hf : X.fn x = true ∨ X.env.scope.names.lookup x = some .local := by first | exact .inl rfl | exact .inr rfl) : DG X (.Name x pos) (gName i) where
  run := fun {x ρ M N} h {v σ H B L Z} S V r {N'} l => PG.s (pg_name hN hi hx hf) (l _ _ _ _ _ _ h (Ext.refl _ _) S (V.set r i))
/-- a tuple of targets -/
abbrev GTs := List DV → Rh → Mem → (Rh → Mem → Prop) → Prop
def sGs (X : Cx) (ts : List Expr) : L2.TGs := fun xs σ H Q => ∀ pins s us, Inv X pins σ H s → Vals xs us → wpAny (model X.prog X.w) X.A (assignInOrder ((assignEach ts X.env).map (·.2)) us) (fun _ s' => ∃ σ' H', Inv X pins σ' H' s' ∧ Q σ' H') X.xe s
theorem pgs_s {ts : List Expr} : PGs X ts (sGs X ts) := ⟨fun pins s _ _ _ us _ I r h => h pins s us I r⟩
structure DGs (X : Cx) (ts : List Expr) (g : GTs) : Prop where
  run : ∀ {xs ρ M N}, g xs ρ M N → ∀ {vs σ H B L Z}, StM X.K B L Z M H → EnvR X.K B L σ ρ → RepVs X.K B L xs vs → ∀ {N' : L2.St → Hp → Prop}, NOk X B L Z N N' → sGs X ts vs σ H N'
def gNil : GTs := fun xs ρ M N => match xs with
  | [] => N ρ M
  | _ :: _ => False
def gCons (g : GT) (gs : GTs) : GTs := fun xs ρ M N => match xs with
  | x :: r => g x ρ M fun ρ' M' => gs r ρ' M' N
  | [] => False
theorem dgs_nil : DGs X [] gNil where
  run := fun {xs ρ M N} h {vs σ H B L Z} S V r {N'} l => by
    cases xs with
    | cons _ _ => exact h.elim
    | nil =>
      cases vs with
      | cons _ _ => exact r.elim
      | nil => exact fun pins s us I rv => pgs_nil.run pins s σ H [] us N' I rv ⟨rfl, l _ _ _ _ _ _ h (Ext.refl _ _) S V⟩
theorem dgs_cons {e : Expr} {es : List Expr} {g : GT} {gs : GTs} (h1 : DG X e g) (h2 : DGs X es gs)
    (hs : (assignEach (e :: es) X.env).map (·.2) = assign e X.env :: (assignEach es X.env).map (·.2) := by rfl) : DGs X (e :: es) (gCons g gs) where
  run := fun {xs ρ M N} h {vs σ H B L Z} S V r {N'} l => by
    cases xs with
    | nil => exact h.elim
    | cons x xs =>
      cases vs with
      | nil => exact r.elim
      | cons v vs =>
        intro pins s us I rv
        refine (pgs_cons pg_s pgs_s hs).run pins s σ H (v :: vs) us N' I rv ⟨v, vs, rfl, ?_⟩
        refine h1.run h S V r.1 fun ρ' M' B' L' σ' H' a b c d => ?_
        exact h2.run a c d (r.2.mono b) (l.mono b)
def gTup (n : Nat) (gs : GTs) : GT := fun x ρ M N => match x with
  | .d (.tup xs) => xs.length = n ∧ gs (xs.map DV.d) ρ M N
  | .pr x k => n = 2 ∧ gs [.d x, .m k] ρ M N
  | _ => False
theorem dg_tup {es : List Expr} {k : Nat} {g : GTs} {n : Nat} (hc : X.calm = true) (h : DGs X es g)
    (hn : (assignEach es X.env).length = n := by rfl) (hst : (assignEach es X.env).findIdx? (·.1) = none := by rfl) : DG X (.Tuple es k pos) (gTup n g) where
  run := fun {x ρ M N} h' {v σ H B L Z} S V r {N'} l => by
    refine PG.s (pg_tup hc pgs_s hn hst) ?_
    unfold gTup at h'
    split at h'
    · rename_i xs
      unfold RepV Rep at r
      obtain ⟨a, vs, rfl, h2, h3⟩ := r
      exact ⟨a, vs, rfl, S.sub.t h2, by rw [← h3.len]; exact h'.1, h.run h'.2 S V h3.vs l⟩
    · obtain ⟨a, u, b, rfl, h2, h3, h4⟩ := r
      exact ⟨a, _, rfl, S.sub.t h2, h'.1.symm, h.run (xs := [.d _, .m _]) (vs := [u, .ref b]) h'.2 S V ⟨h3, ⟨b, rfl, h4⟩, trivial⟩ l⟩
    · exact h'.elim
def tAsg (fe : ET) (g : GT) : ST := fun E ρ M => fe ρ M (fun d M1 => g d ρ M1 E.nx) (xS E ρ)
theorem ds_asg {tg e : Expr} {fe : ET} {g : GT} (he : DE X e fe) (hg : DG X tg g) (hs : swapsWithSole [tg] e pos.line X.env = pure false := by rfl) (hw : swappedStores [tg] e X.env = pure none := by rfl)
    (h1 : (assignEach [tg] X.env).map (·.2) = [assign tg X.env] := by rfl) : DS X (.Assign [tg] e pos) (tAsg fe g) where
  run := fun {E ρ M} h {σ H B L Z} S V {F} l => by
    refine PS.s (ps_asg pe_s pg_s hs hw h1) ?_
    exact he.run h S V (l.ex.at_ V) fun d M1 v B1 L1 H1 h1 e1 S1 r1 => hg.run h1 S1 (V.mono e1) r1 (l.nx.mono e1)
/-- name = e -/
theorem ds_set (i : Nat) {x : Str} {e : Expr} {fe : ET} {pos' : Pos} (hN : X.N.Nodup) (he : DE X e fe) (hi : X.N[i]? = some x := by rfl) (hx : Loc X.env.scope x := by first | exact Or.inl rfl | exact Or.inr rfl)
    (hs : swapsWith e (some (.Name x pos')) pos.line X.env = pure false := by rfl) (hf : X.fn x = true ∨ X.env.scope.names.lookup x = some .local := by first | exact .inl rfl | exact .inr rfl) :
    DS X (.Assign [.Name x pos'] e pos) (tAsg fe (gName i)) where
  run := fun {E ρ M} h {σ H B L Z} S V {F} l => by
    refine PS.s (ps_set hN hi hx pe_s hs hf) ?_
    exact he.run h S V (l.ex.at_ V) fun d M1 v B1 L1 H1 h1 e1 S1 r1 => l.nx _ _ _ _ _ _ h1 e1 S1 ((V.mono e1).set r1 i)
/-- a, b = x, y with plain names -/
def tPar (i j : Nat) (fas : AT) : ST := fun E ρ M => fas ρ M (fun ds M1 => match ds with
  | [x, y] => E.nx ((ρ.set i (some x)).set j (some y)) M1
  | _ => False) (xS E ρ)
theorem ds_par (i j : Nat) {x y : Str} {a b : Expr} {fas : AT} {px py pt : Pos} {kt k2 pt2} (hc : X.calm = true) (hN : X.N.Nodup) (ha : DA X [a, b] fas) (hi : X.N[i]? = some x := by rfl) (hj : X.N[j]? = some y := by rfl) (hij : i ≠ j := by decide)
    (hx : X.env.scope.names.lookup x = some .local := by rfl) (hy : X.env.scope.names.lookup y = some .local := by rfl)
    (hw : swappedStores [.Tuple [.Name x px, .Name y py] kt pt] (.Tuple [a, b] k2 pt2) X.env = pure (some [x, y]) := by rfl)
    (hs : swapsWithSole [.Tuple [.Name x px, .Name y py] kt pt] (.Tuple [a, b] k2 pt2) pos.line X.env = pure false := by rfl) :
    DS X (.Assign [.Tuple [.Name x px, .Name y py] kt pt] (.Tuple [a, b] k2 pt2) pos) (tPar i j fas) where
  run := fun {E ρ M} h {σ H B L Z} S V {F} l => by
    refine PS.s (ps_par hc hN hi hj hij hx hy pa_s hw hs) ?_
    refine ha.run h S V (l.ex.at_ V) fun ds M1 vs B1 L1 H1 h1 e1 S1 r1 => ?_
    match ds, vs, h1, r1 with
    | [x, y], [u, w], h1, r1 => exact ⟨u, w, rfl, l.nx _ _ _ _ _ _ h1 e1 S1 (((V.mono e1).set r1.1 i).set r1.2.1 j)⟩
/-- name op= e -/
def tAug (i : Nat) (o : O2) (fe : ET) : ST := fun E ρ M => match ρ[i]? with
  | some (some x) => fe ρ M (fun d M1 => o x d M1 fun z M2 => E.nx (ρ.set i (some z)) M2) (xS E ρ)
  | _ => False
theorem ds_aug (i : Nat) {x : Str} {e : Expr} {fe : ET} {op : Operator} {o : O2} {pos' : Pos} (hN : X.N.Nodup) (ho : DO X (inplaceOp op) o) (he : DE X e fe) (hi : X.N[i]? = some x := by rfl) (hx : Loc X.env.scope x := by first | exact Or.inl rfl | exact Or.inr rfl)
    (hf : X.fn x = true ∨ X.env.scope.names.lookup x = some .local := by first | exact .inl rfl | exact .inr rfl) : DS X (.AugAssign (.Name x pos') op e pos) (tAug i o fe) where
  run := fun {E ρ M} h {σ H B L Z} S V {F} l => by
    have hp : PIp X op (sO X (inplaceOp op)) := fun pins s σ _ _ _ v u _ I r q h => h pins s σ v u I r q
    refine PS.s (ps_aug hN hi hx pe_s hp hf) ?_
    unfold tAug at h
    split at h
    · rename_i d hd
      obtain ⟨v, h1, h2⟩ := V.at_ i d hd
      refine ⟨v, h1, ?_⟩
      refine he.run h S V (l.ex.at_ V) fun d2 M2 v2 B2 L2 H2 h2' e2 S2 r2 => ?_
      refine ho.run h2' S2 (h2.mono e2) r2 fun d3 M3 v3 B3 L3 H3 h3 e3 S3 r3 => ?_
      exact l.nx _ _ _ _ _ _ h3 (e2.trans e3) S3 ((V.mono (e2.trans e3)).set r3 i)
    · exact h.elim
end
/-! ### functions -/
abbrev DSp := List DV → Mem → Post → XPost → Prop
def Up (K : PySem.W.Frag) (dsp : DSp) : Sp := fun vs H Q E => ∃ B L Z ds M P x, StM K B L Z M H ∧ RepVs K B L ds vs ∧ dsp ds M P x ∧
  (∀ d M' v B' L' H', P d M' → Ext B L B' L' → StM K B' L' Z M' H' → RepV K B' L' d v → Q v H') ∧
  (∀ cls fs M' d B' L' H', x cls fs M' → Ext B L B' L' → StM K B' L' Z M' H' → XRep K B' d fs → E cls d H')
def startD (N : List Str) (ds : List DV) : Rh := ds.map some ++ List.replicate (N.length - ds.length) none
/-- the wants of a body -/
def ends (P : Post) (x : XPost) : DEnds := { nx := fun _ M => P (.d .non) M, rt := P, ex := fun c fs _ M => x c fs M }
theorem start_env {K : PySem.W.Frag} {B : Hp} {L : List Addr} {N : List Str} {ds : List DV} {vs : List V} (r : RepVs K B L ds vs) : EnvR K B L (L2.start N vs) (startD N ds) := by
  refine ⟨by simp [L2.start, startD, r.len], fun i x h => ?_⟩
  unfold startD at h
  by_cases hi : i < ds.length
  · rw [List.getElem?_append_left (by simpa using hi)] at h
    rw [List.getElem?_map] at h
    cases e : ds[i]? with
    | none =>
      rw [e] at h
      cases h
    | some y =>
      rw [e] at h
      simp at h
      subst h
      obtain ⟨v, h1, h2⟩ := r.get e
      refine ⟨v, ?_, h2⟩
      unfold L2.start
      rw [List.getElem?_append_left (by simpa [← r.len] using hi), List.getElem?_map, h1]
      rfl
  · rw [List.getElem?_append_right (by simpa using hi), List.getElem?_replicate] at h
    split at h <;> cases h
section
variable {P : Program} {w : World} {K : PySem.W.Frag} {mg : Str → Option Value} {base : Heap}
theorem fn_dl {x qual : Str} {st : Stmt} {f : Addr} {fd : FuncData} {N ps : List Str} {k : Nat} {dsp : DSp} (F : Fun K x qual st f fd) (S : FnScope N ps (defScope st)) (len : ∀ ds M P x, dsp ds M P x → ds.length = ps.length)
    (hbody : ∀ (cdv : Value) (A : Around) (outer : List PySem.Env) (s : Shared) (H : Hp) (E : XK), Room k (A.deeper (envOfC qual (defScope st) s.heap.objs.size f cdv)) →
      ∃ t, DSs (cxOf (L2.CX P w) P w K mg base N qual (defScope st) f cdv A outer s H E) (defBody st) t ∧ ∀ ds M P x, dsp ds M P x → t (ends P x) (startD N ds) M) : FnOk P w K mg base (L2.CX P w) (k + 1) f fd ps (Up K dsp) := by
  refine F.okX S (fun vs H Q E h => ?_) (fun cdv A outer s H vs Q E hr h => ?_)
  · obtain ⟨B, L, Z, ds, M, P, x, _, r, hd, _⟩ := h
    rw [← r.len]
    exact len _ _ _ _ hd
  · obtain ⟨t, ht, hd⟩ := hbody cdv A outer s H E hr
    refine ⟨sSs (cxOf (L2.CX P w) P w K mg base N qual (defScope st) f cdv A outer s H E) (defBody st), pss_s, ?_⟩
    obtain ⟨B, L, Z, ds, M, P', x, S1, r, h1, hP, hX⟩ := h
    refine ht.run (hd _ _ _ _ h1) S1 (start_env r) ⟨fun ρ' M' B' L' σ' H' a b c d => hP _ _ _ _ _ _ a b c (by simp only [RepV, Rep]), hP, fun _ _ _ _ _ _ a => a.elim, fun _ _ _ _ _ _ a => a.elim, ?_⟩
    exact ⟨fun cls d _ H => E cls d H, takes_of rfl rfl rfl rfl, fun cls fs ρ' M' d B' L' σ' H' a b c _ r => hX cls fs M' d B' L' H' a b c r⟩
end
section
variable {X : Cx} {k : Nat} {f C : Addr} {fd : FuncData} {ps : List Str} {dsp : DSp} {dvs : List V} {dds : List D} {ds : List Value} {x m : Str} {p pos apos : Pos} {e o : Expr} {es : List Expr} {fas : AT} {fo : ET}
def tCall (dsp : DSp) (dds : List D) (fas : AT) : ET := fun ρ M P x => fas ρ M (fun vs M1 => dsp (vs ++ dds.map DV.d) M1 P x) x
theorem callOk {B : Hp} {L : List Addr} {Z : Zs} {M : Mem} {H : Hp} {σ : L2.St} {xs : List DV} {vs : List V} {P : Post} {x : XPost} {Q : VK} {W : WX} (S : StM X.K B L Z M H) (r : RepVs X.K B L xs vs) (h : dsp xs M P x) (q : POk X B L Z P Q)
    (hW : ∀ cls fs M' d B' L' H', x cls fs M' → Ext B L B' L' → StM X.K B' L' Z M' H' → XRep X.K B' d fs → W cls d σ H') : Up X.K dsp vs H Q (WE W σ) := ⟨B, L, Z, xs, M, P, x, S, r, h, q, hW⟩
theorem de_call (F : FnOk X.prog X.w X.K X.mg X.base (L2.CX X.prog X.w) k f fd ps (Up X.K dsp)) (hr : Room k X.A) (hg : Gl X x) (hm : X.mg x = some (.ref f)) (hk : PySem.W.keepIn X.K (.ref f) = true) (hb : Binds X.K fd ps ds) (hd : Vals dvs ds) (hdd : RepL X.K (fun _ => none) dds dvs)
    (ha : DA X (e :: es) fas) (hdb : (x == ("__debug__" : Str)) = false := by decide) (he : starEach (e :: es) X.env = (false, eval e X.env) :: starEach es X.env := by rfl) (hpl : (backTo pos (starEach es X.env)).any (·.1) = false := by rfl) :
    DE X (.Call (.Name x p) (e :: es) [] pos) (tCall dsp dds fas) where
  run := fun {ρ M P x} h {σ H B L Z} S E x1 {Q} q => by
    obtain ⟨W, tk, hW⟩ := x1
    refine PE.s (pe_callSD F hr hg hm hk hb hd (E := WE W) (fun σ => passAt tk σ) pa_s hdb he hpl) ?_
    refine ha.run h S E ⟨W, tk, hW⟩ fun xs M1 vs B1 L1 H1 h1 e1 S1 r1 => ?_
    have rd : RepVs X.K B1 L1 (dds.map DV.d) dvs := (RepL.mono (fun a o z => by cases z) _ _ hdd).vs
    exact callOk S1 (r1.app rd) h1 (q.mono e1) fun cls fs M' d B' L' H' a b => hW cls fs M' d B' L' H' a (e1.trans b)
end
end DL

namespace DL
open PySem PySem.Spec PyProof.Rows L2
variable [Csts]
/-! ### held objects -/
section
variable {K : PySem.W.Frag} {B : Hp} {L : List Addr} {Z : Zs} {M : Mem} {H : Hp} {p : Addr} {o u : HO}
theorem StM.z {q : Addr × HO} (S : StM K B L (q :: Z) M H) : StM K B L Z M H := ⟨S.sub, fun q hq => S.zh q (List.mem_cons_of_mem _ hq), S.len, S.nod, S.out, S.cell, S.live, S.cst⟩
theorem StM.zAt {o : HO} (S : StM K B L ((p, o) :: Z) M H) : H p = some o := (S.zh (p, o) (List.mem_cons_self ..)).1
/-- a new held object -/
theorem StM.newZ (S : StM K B L Z M H) (hp : H p = none) : StM K B L ((p, o) :: Z) M (upd H p o) := by
  have hL := S.notL hp
  have ne : ∀ i a, L[i]? = some a → a ≠ p := fun i a h q => hL (q ▸ List.mem_of_getElem? h)
  refine ⟨fun x u hx => ?_, fun q hq => ?_, S.len, S.nod, S.out, fun i a m h hm => ?_, fun i a h => ?_, S.cst⟩
  · obtain ⟨o', h1, h2, h3⟩ := S.sub _ _ hx
    exact ⟨o', by rw [upd_ne (ne_of_none h1 hp)]; exact h1, h2, h3⟩
  · rcases List.mem_cons.mp hq with rfl | hq
    · exact ⟨upd_same, hL, fun _ => S.fresh hp⟩
    · obtain ⟨h1, h2, h3⟩ := S.zh q hq
      exact ⟨by rw [upd_ne (ne_of_none h1 hp)]; exact h1, h2, h3⟩
  · exact (S.cell i a m h hm).mono (Ext.refl B L) (upd_ne (ne i a h))
  · rw [upd_ne (ne i a h)]
    exact S.live i a h
/-- it changes; those held beneath are others -/
theorem StM.putZ (S : StM K B L ((p, o) :: Z) M H) (ho : isLock o = false) (hZ : ∀ q ∈ Z, q.1 ≠ p) : StM K B L ((p, u) :: Z) M (upd H p u) := by
  obtain ⟨_, hL, hB⟩ := S.zh (p, o) (List.mem_cons_self ..)
  have hB : B p = none := hB ho
  have ne : ∀ i a, L[i]? = some a → a ≠ p := fun i a h q => hL (q ▸ List.mem_of_getElem? h)
  refine ⟨fun x u hx => ?_, fun q hq => ?_, S.len, S.nod, S.out, fun i a m h hm => ?_, fun i a h => ?_, S.cst⟩
  · obtain ⟨o', h1, h2, h3⟩ := S.sub _ _ hx
    exact ⟨o', by rw [upd_ne (ne_of_none hx hB)]; exact h1, h2, h3⟩
  · rcases List.mem_cons.mp hq with rfl | hq
    · exact ⟨upd_same, hL, fun _ => hB⟩
    · obtain ⟨h1, h2, h3⟩ := S.zh q (List.mem_cons_of_mem _ hq)
      exact ⟨by rw [upd_ne (hZ q hq)]; exact h1, h2, h3⟩
  · exact (S.cell i a m h hm).mono (Ext.refl B L) (upd_ne (ne i a h))
  · rw [upd_ne (ne i a h)]
    exact S.live i a h
/-- it becomes data -/
theorem StM.unZ (S : StM K B L ((p, o) :: Z) M H) (ho : isLock o = false) (hZ : ∀ q ∈ Z, q.1 ≠ p) : StM K (upd B p o) L Z M H ∧ Ext B L (upd B p o) L := by
  obtain ⟨_, hL, hB⟩ := S.zh (p, o) (List.mem_cons_self ..)
  have hB : B p = none := hB ho
  have E : Ext B L (upd B p o) L := ⟨upd_sub hB, [], by simp⟩
  have ne : ∀ i a, L[i]? = some a → a ≠ p := fun i a h q => hL (q ▸ List.mem_of_getElem? h)
  refine ⟨⟨fun x u hx => ?_, fun q hq => ?_, S.len, S.nod, fun i a o h ho hg => ?_, fun i a m h hm => ?_, S.live, fun q hq => by rw [upd_ne (ne_of_none (S.cst q hq).1 hB)]; exact S.cst q hq⟩, E⟩
  · by_cases q : x = p
    · subst q
      rw [upd_same] at hx
      cases hx
      exact ⟨_, S.zAt, rfl, fun _ => rfl⟩
    · rw [upd_ne q] at hx
      exact S.sub _ _ hx
  · obtain ⟨h1, h2, h3⟩ := S.zh q (List.mem_cons_of_mem _ hq)
    exact ⟨h1, h2, fun z => by rw [upd_ne (hZ q hq)]; exact h3 z⟩
  · rw [upd_ne (ne i a h)]
    exact S.out i a o h ho hg
  · exact (S.cell i a m h hm).mono E rfl
/-- it becomes a cell -/
theorem StM.cellZ {m : MO} (S : StM K B L ((p, o) :: Z) M H) (ho : isLock o = false) (hZ : ∀ q ∈ Z, q.1 ≠ p) (c : CellOk K B (L ++ [p]) H p m) : StM K B (L ++ [p]) Z (M ++ [m]) H ∧ Ext B L B (L ++ [p]) := by
  obtain ⟨_, hL, hB⟩ := S.zh (p, o) (List.mem_cons_self ..)
  have hB : B p = none := hB ho
  have E : Ext B L B (L ++ [p]) := ⟨Sub.refl B, [p], rfl⟩
  have split : ∀ i a, (L ++ [p])[i]? = some a → (L[i]? = some a) ∨ (i = L.length ∧ a = p) := fun i a h => by
    by_cases hi : i < L.length
    · rw [List.getElem?_append_left hi] at h
      exact .inl h
    · rw [List.getElem?_append_right (by omega)] at h
      right
      have : i - L.length = 0 := by
        by_cases z : i - L.length = 0
        · exact z
        · rw [List.getElem?_eq_none (by simp; omega)] at h
          cases h
      rw [this] at h
      simp at h
      exact ⟨by omega, h.symm⟩
  refine ⟨⟨S.sub, fun q hq => ?_, by simp [S.len], ?_, fun i a o h ho hg => ?_, fun i a m' h hm => ?_, fun i a h => ?_, S.cst⟩, E⟩
  · obtain ⟨h1, h2, h3⟩ := S.zh q (List.mem_cons_of_mem _ hq)
    refine ⟨h1, fun h => ?_, h3⟩
    rcases List.mem_append.mp h with h | h
    · exact h2 h
    · simp at h
      exact hZ q hq h
  · rw [List.nodup_append]
    refine ⟨S.nod, by simp, fun x hx y hy => ?_⟩
    simp at hy
    subst hy
    exact fun q => hL (q ▸ hx)
  · rcases split i a h with h | ⟨_, rfl⟩
    · have hi : i < M.length := by
        rw [← S.len]
        exact (List.getElem?_eq_some_iff.mp h).1
      rw [List.getElem?_append_left hi] at ho
      exact S.out i a o h ho hg
    · exact hB
  · rcases split i a h with h1 | ⟨rfl, rfl⟩
    · have hi : i < M.length := by
        rw [← S.len]
        exact (List.getElem?_eq_some_iff.mp h1).1
      rw [List.getElem?_append_left hi] at hm
      exact (S.cell i a m' h1 hm).mono E rfl
    · rw [S.len, List.getElem?_append_right (Nat.le_refl _)] at hm
      simp at hm
      subst hm
      exact c
  · rcases split i a h with h1 | ⟨_, rfl⟩
    · exact S.live i a h1
    · rw [S.zAt]
      simp
theorem StM.zne (S : StM K B L Z M H) (hp : H p = none) : ∀ q ∈ Z, q.1 ≠ p := fun q hq z => by
  have := (S.zh q hq).1
  rw [z, hp] at this
  cases this
end
/-! ### what a value is read as -/
def seqOf (M : Mem) : DV → Option (List DV)
  | .d (.lst ys) => some (ys.map .d)
  | .d (.frl ys) => some (ys.map .d)
  | .d (.tup ys) => some (ys.map .d)
  | .m k => match M[k]? with
    | some (.lst xs) => some xs
    | _ => none
  | _ => none
theorem StM.seq {K : PySem.W.Frag} {B : Hp} {L : List Addr} {Z : Zs} {M : Mem} {H : Hp} (S : StM K B L Z M H) {d : DV} {v : V} {xs : List DV} (r : RepV K B L d v) (h : seqOf M d = some xs) :
    ∃ p vs, v = .ref p ∧ (SqT K H p vs ∨ SqL K H p vs) ∧ RepVs K B L xs vs := by
  unfold seqOf at h
  split at h
  · cases h
    unfold RepV Rep at r
    obtain ⟨a, vs, h1, h2, h3⟩ := r
    exact ⟨a, vs, h1, .inr (S.sub.l (.inl (.inl h2))), h3.vs⟩
  · cases h
    unfold RepV Rep at r
    obtain ⟨a, vs, h1, h2, h3⟩ := r
    exact ⟨a, vs, h1, .inr (S.sub.l h2), h3.vs⟩
  · cases h
    unfold RepV Rep at r
    obtain ⟨a, vs, h1, h2, h3⟩ := r
    exact ⟨a, vs, h1, .inl (S.sub.t h2), h3.vs⟩
  · split at h
    · rename_i k xs' hk
      cases h
      obtain ⟨a, h1, h2⟩ := r
      obtain ⟨a', h3, c⟩ := S.at_ hk
      have : a' = a := Option.some.inj (h3.symm.trans h2)
      subst this
      obtain ⟨vs, h4, h5⟩ := c
      exact ⟨a', vs, h1, .inr (.inl (.inl h4)), h5⟩
    · cases h
  · cases h
/-- all are data -/
def allD : List DV → Option (List D)
  | [] => some []
  | .d x :: r => match allD r with
    | some xs => some (x :: xs)
    | none => none
  | .m _ :: _ => none
  | .pr _ _ :: _ => none
theorem allD_eq : ∀ {ds : List DV} {xs : List D}, allD ds = some xs → ds = xs.map .d
  | [], _, h => by cases h; rfl
  | .d x :: r, _, h => by
    unfold allD at h
    split at h
    · rename_i xs hx
      cases h
      rw [allD_eq hx]
      rfl
    · cases h
  | .m _ :: _, _, h => by cases h
  | .pr _ _ :: _, _, h => by cases h
theorem allD_map : ∀ (xs : List D), allD (xs.map .d) = some xs
  | [] => rfl
  | x :: xs => by
    show (match allD (xs.map .d) with | some ys => some (x :: ys) | none => none) = _
    rw [allD_map xs]
theorem allD_append {as bs : List DV} {xs ys : List D} (h1 : allD as = some xs) (h2 : allD bs = some ys) : allD (as ++ bs) = some (xs ++ ys) := by
  rw [allD_eq h1, allD_eq h2, ← List.map_append]
  exact allD_map _
section
variable {X : Cx} {es : List Expr} {e : Expr} {fas : AT} {fe : ET} {pos : Pos}
/-- a display that is data -/
def tLst (fas : AT) : ET := fun ρ M P x => fas ρ M (fun ds M1 => match allD ds with
  | some xs => xs.length ≤ 100000 ∧ P (.d (.lst xs)) M1
  | none => False) x
def tTup (fas : AT) : ET := fun ρ M P x => fas ρ M (fun ds M1 => match allD ds with
  | some xs => xs.length ≤ 100000 ∧ P (.d (.tup xs)) M1
  | none => False) x
/-- a list that will change -/
def tLstM (fas : AT) : ET := fun ρ M P x => fas ρ M (fun ds M1 => ds.length ≤ 100000 ∧ P (.m M1.length) (M1 ++ [.lst ds])) x
theorem size100 {n : Nat} (h : n ≤ 100000) : n ≤ sizeLine := Nat.le_trans h (by decide)
theorem de_lst (ha : DA X es fas) : DE X (.List es pos) (tLst fas) where
  run := fun {ρ M P x} h {σ H B L Z} S E x1 {Q} q => by
    refine PE.s (pe_lst pa_s) ?_
    refine ha.run h S E x1 fun ds M1 vs B1 L1 H1 h1 e1 S1 r1 => ?_
    dsimp only at h1
    split at h1
    · rename_i xs hx
      have := allD_eq hx
      subst this
      have rl : RepL X.K B1 xs vs := r1.toL
      refine ⟨by rw [← rl.len]; exact size100 h1.1, fun p hp => ?_⟩
      obtain ⟨S2, e2⟩ := S1.newD (o := .lst vs) hp
      refine q _ M1 _ _ _ _ h1.2 (e1.trans e2) S2 ?_
      unfold RepV Rep
      exact ⟨p, vs, rfl, upd_same, RepL.mono e2.sub _ _ rl⟩
    · exact h1.elim
theorem de_tup {k : Nat} (ha : DA X es fas) : DE X (.Tuple es k pos) (tTup fas) where
  run := fun {ρ M P x} h {σ H B L Z} S E x1 {Q} q => by
    refine PE.s (pe_tup pa_s) ?_
    refine ha.run h S E x1 fun ds M1 vs B1 L1 H1 h1 e1 S1 r1 => ?_
    dsimp only at h1
    split at h1
    · rename_i xs hx
      have := allD_eq hx
      subst this
      have rl : RepL X.K B1 xs vs := r1.toL
      refine ⟨by rw [← rl.len]; exact size100 h1.1, fun p hp => ?_⟩
      obtain ⟨S2, e2⟩ := S1.newD (o := .tup vs) hp
      refine q _ M1 _ _ _ _ h1.2 (e1.trans e2) S2 ?_
      unfold RepV Rep
      exact ⟨p, vs, rfl, .inl (.inl upd_same), RepL.mono e2.sub _ _ rl⟩
    · exact h1.elim
theorem de_lstM (ha : DA X es fas) : DE X (.List es pos) (tLstM fas) where
  run := fun {ρ M P x} h {σ H B L Z} S E x1 {Q} q => by
    refine PE.s (pe_lst pa_s) ?_
    refine ha.run h S E x1 fun ds M1 vs B1 L1 H1 h1 e1 S1 r1 => ?_
    refine ⟨by rw [← r1.len]; exact size100 h1.1, fun p hp => ?_⟩
    have E1 : Ext B1 L1 B1 (L1 ++ [p]) := ⟨Sub.refl B1, [p], rfl⟩
    obtain ⟨S2, e2⟩ := S1.newM (o := .lst vs) (m := .lst ds) hp ⟨vs, upd_same, r1.mono E1⟩
    refine q _ _ _ _ _ _ h1.2 (e1.trans e2) S2 ⟨p, rfl, ?_⟩
    rw [← S1.len]
    simp
/-- *e among the arguments or items -/
def tStar (fe : ET) (fas : AT) : AT := fun ρ M P x => fe ρ M (fun d M1 => match seqOf M1 d with
  | some xs => fas ρ M1 (fun ds M2 => P (xs ++ ds) M2) x
  | none => False) x
theorem da_star {p : Pos} (he : DE X e fe) (hr : DA X es fas) (hs : starEach (.Starred e p :: es) X.env = (true, eval e X.env) :: starEach es X.env := by rfl) : DA X (.Starred e p :: es) (tStar fe fas) where
  run := fun {ρ M P x} h {σ H B L Z} S E x1 {Q} q => by
    refine PA.s (StX.pa_star pe_s pa_s hs) ?_
    refine he.run h S E x1 fun d M1 v B1 L1 H1 h1 e1 S1 r1 => ?_
    dsimp only at h1
    split at h1
    · rename_i xs hx
      obtain ⟨a, vs, rfl, h2, h3⟩ := S1.seq r1 hx
      refine ⟨a, vs, rfl, h2, ?_⟩
      refine hr.run h1 S1 (E.mono e1) (x1.mono e1) fun ds M2 ws B2 L2 H2 h4 e2 S2 r2 => ?_
      exact q _ M2 _ B2 L2 H2 h4 (e1.trans e2) S2 ((h3.mono e2).app r2)
    · exact h1.elim
end
/-! ### for, while -/
abbrev RT := List DV → (Mem → Prop) → Mem → Prop
abbrev IT := Rh → Mem → RT → XPost → Prop
structure Itd (X : Cx) (Z : Zs) (J : It) (xs : List DV) (still : Mem → Prop) (B0 : Hp) (L0 : List Addr) : Prop where
  go : ∀ i y M' B' L' Z' H', xs[i]? = some y → still M' → Ext B0 L0 B' L' → StM X.K B' L' (Z' ++ Z) M' H' → J.go i H' ∧ ∀ v H'', J.yld i H' v H'' → ∃ B'', Ext B' L' B'' L' ∧ StM X.K B'' L' (Z' ++ Z) M' H'' ∧ RepV X.K B'' L' y v
  stop : ∀ i M' B' L' Z' H', xs.length ≤ i → still M' → Ext B0 L0 B' L' → StM X.K B' L' (Z' ++ Z) M' H' → J.stop i H'
structure DI (X : Cx) (tg iter : Expr) (fi : IT) : Prop where
  run : ∀ {ρ M R x}, fi ρ M R x → ∀ {σ H B L Z}, StM X.K B L Z M H → EnvR X.K B L σ ρ → XOk X B L Z σ x → ∀ {RR : It → Hp → Prop},
    (∀ xs still M' B' L' H' J, R xs still M' → Ext B L B' L' → StM X.K B' L' Z M' H' → Itd X Z J xs still B' L' → RR J H') → sI X tg iter σ H RR
section
variable {X : Cx} {tg iter c : Expr} {body : List Stmt} {fi : IT} {g : GT} {tb : ST} {tc : TT} {pos : Pos}
def tFor (fi : IT) (g : GT) (tb : ST) : ST := fun E ρ M => fi ρ M (fun xs still M1 => ∃ I : Nat → Rh → Mem → Prop, I 0 ρ M1 ∧
  (∀ i y ρ' M', xs[i]? = some y → I i ρ' M' → still M' ∧ g y ρ' M' fun ρ2 M2 => tb { E with nx := I (i + 1), ct := I (i + 1), bk := E.nx } ρ2 M2) ∧
  ∀ ρ' M', I xs.length ρ' M' → still M' ∧ E.nx ρ' M') (xS E ρ)
theorem ds_for (hi : DI X tg iter fi) (hg : DG X tg g) (hb : DSs X body tb) (hc : X.calm = true := by rfl) (hp : PassesOwn (model X.prog X.w) X.A X.env X.xe := by first | exact passes_of rfl | assumption)
    (hs : ∀ x, foldedSetIterable iter X.env x = pure x := by intro _; rfl) : DS X (.For tg iter body [] pos) (tFor fi g tb) where
  run := fun {E ρ M} h {σ H B L Z} S V {F} l => by
    refine PS.s (ps_for hp hc pi_s pg_s pss_s hs) ?_
    refine hi.run h S V (l.ex.at_ V) fun xs still M1 B1 L1 H1 J hR e1 S1 it => ?_
    obtain ⟨I, h0, hs, hd⟩ := hR
    refine ⟨fun i m σ' H' => i + m = xs.length ∧ ∃ ρ' M' B' L', I i ρ' M' ∧ Ext B1 L1 B' L' ∧ StM X.K B' L' Z M' H' ∧ EnvR X.K B' L' σ' ρ', ⟨xs.length, by omega, ρ, M1, B1, L1, h0, Ext.refl _ _, S1, V.mono e1⟩, ?_⟩
    rintro i m σ' H' ⟨hm, ρ', M', B', L', hI, e2, S2, V2⟩
    by_cases hl : i < xs.length
    · obtain ⟨y, hy⟩ : ∃ y, xs[i]? = some y := ⟨xs[i], List.getElem?_eq_getElem hl⟩
      obtain ⟨st, hg'⟩ := hs i y ρ' M' hy hI
      obtain ⟨go, yl⟩ := it.go i y M' B' L' [] H' hy st e2 S2
      refine .inr ⟨go, fun σ2 H2 => ∃ m', m' < m ∧ (i + 1) + m' = xs.length ∧ ∃ ρ' M' B' L', I (i + 1) ρ' M' ∧ Ext B1 L1 B' L' ∧ StM X.K B' L' Z M' H2 ∧ EnvR X.K B' L' σ2 ρ', fun _ _ ⟨m', a, b⟩ => ⟨m', a, b⟩, fun v H'' hy' => ?_⟩
      obtain ⟨B'', e3, S3, r3⟩ := yl v H'' hy'
      refine hg.run hg' S3 (V2.mono e3) r3 fun ρ2 M2 B2 L2 σ2 H2 h2 e4 S4 V4 => ?_
      have e := ((e1.trans e2).trans e3).trans e4
      refine hb.run h2 S4 V4 ⟨fun ρ5 M5 B5 L5 σ5 H5 h5 e5 S5 V5 => ?_, l.rt.mono e, l.nx.mono e, fun ρ5 M5 B5 L5 σ5 H5 h5 e5 S5 V5 => ?_, l.ex.mono e⟩
      · exact ⟨m - 1, by omega, by omega, ρ5, M5, B5, L5, h5, ((e2.trans e3).trans e4).trans e5, S5, V5⟩
      · exact ⟨m - 1, by omega, by omega, ρ5, M5, B5, L5, h5, ((e2.trans e3).trans e4).trans e5, S5, V5⟩
    · have hi' : i = xs.length := by omega
      subst hi'
      obtain ⟨st, hn⟩ := hd ρ' M' hI
      exact .inl ⟨it.stop _ M' B' L' [] H' (Nat.le_refl _) st e2 S2, l.nx _ _ _ _ _ _ hn (e1.trans e2) S2 V2⟩
def tWhile (c : TT) (tb : ST) : ST := fun E ρ M => ∃ I : Nat → Rh → Mem → Prop, (∃ m, I m ρ M) ∧ ∀ m ρ' M', I m ρ' M' →
  c ρ' M' (fun b M1 => (b = true → tb { E with nx := fun ρ2 M2 => ∃ m', m' < m ∧ I m' ρ2 M2, ct := fun ρ2 M2 => ∃ m', m' < m ∧ I m' ρ2 M2, bk := E.nx } ρ' M1) ∧ (b = false → E.nx ρ' M1)) (xS E ρ')
theorem ds_while (hc : DT X c tc) (hb : DSs X body tb) (hp : PassesOwn (model X.prog X.w) X.A X.env X.xe := by first | exact passes_of rfl | assumption) : DS X (.While c body [] pos) (tWhile tc tb) where
  run := fun {E ρ M} h {σ H B L Z} S V {F} l => by
    refine PS.s (ps_while hp pt_s pss_s) ?_
    obtain ⟨I, ⟨m0, h0⟩, hs⟩ := h
    refine ⟨fun m σ' H' => ∃ ρ' M' B' L', I m ρ' M' ∧ Ext B L B' L' ∧ StM X.K B' L' Z M' H' ∧ EnvR X.K B' L' σ' ρ', ⟨m0, ρ, M, B, L, h0, Ext.refl _ _, S, V⟩, ?_⟩
    rintro m σ' H' ⟨ρ', M', B', L', hI, e2, S2, V2⟩
    have l2 := l.mono e2
    refine hc.run (hs m ρ' M' hI) S2 V2 (l2.ex.at_ V2) fun b M1 B1 L1 H1 h1 e1 S1 => ?_
    cases b with
    | false => exact l2.nx _ _ _ _ _ _ (h1.2 rfl) e1 S1 (V2.mono e1)
    | true =>
      refine ⟨fun σ3 H3 => ∃ m', m' < m ∧ ∃ ρ' M' B' L', I m' ρ' M' ∧ Ext B L B' L' ∧ StM X.K B' L' Z M' H3 ∧ EnvR X.K B' L' σ3 ρ', fun _ _ x => x, ?_⟩
      have l3 := l2.mono e1
      refine hb.run (h1.1 rfl) S1 (V2.mono e1) ⟨fun ρ5 M5 B5 L5 σ5 H5 h5 e5 S5 V5 => ?_, l3.rt, l3.nx, fun ρ5 M5 B5 L5 σ5 H5 h5 e5 S5 V5 => ?_, l3.ex⟩
      · obtain ⟨m', a, b⟩ := h5
        exact ⟨m', a, ρ5, M5, B5, L5, b, (e2.trans e1).trans e5, S5, V5⟩
      · obtain ⟨m', a, b⟩ := h5
        exact ⟨m', a, ρ5, M5, B5, L5, b, (e2.trans e1).trans e5, S5, V5⟩
end
/-! ### what is walked -/
section
variable {X : Cx} {tg : Expr} {e : Expr} {fe : ET}
theorem StM.zz {K : PySem.W.Frag} {B : Hp} {L : List Addr} {Z : Zs} {M : Mem} {H : Hp} : ∀ {Z' : Zs}, StM K B L (Z' ++ Z) M H → StM K B L Z M H
  | [], S => S
  | _ :: _, S => StM.zz (StM.z S)
/-- a list (data, read only, a cell) or a tuple -/
def iSeq (fe : ET) : IT := fun ρ M R x => fe ρ M (fun d M1 => match seqOf M1 d with
  | some xs => R xs (fun M' => seqOf M' d = some xs) M1
  | none => False) x
theorem itd_list {B0 : Hp} {L0 : List Addr} {Z : Zs} {a : Addr} {d : DV} {xs : List DV} (r : RepV X.K B0 L0 d (.ref a)) (hl : ∀ K B L H M v, StM K B L [] M H → RepV K B L d v → seqOf M d = some xs → ∃ p vs, v = .ref p ∧ SqL K H p vs ∧ RepVs K B L xs vs) : Itd X Z (Itl X.K a) xs (fun M' => seqOf M' d = some xs) B0 L0 where
  go := fun i y M' B' L' Z' H' hy st e S => by
    have S0 : StM X.K B' L' [] M' H' := StM.zz (Z := []) (Z' := Z' ++ Z) (by simpa using S)
    obtain ⟨p, vs, h1, h2, h3⟩ := hl _ _ _ _ _ _ S0 (r.mono e) st
    cases h1
    obtain ⟨v, h4, h5⟩ := h3.get hy
    refine ⟨⟨vs, v, h2, h4⟩, fun w H'' hw => ?_⟩
    obtain ⟨rfl, hw⟩ := hw
    have : w = v := Option.some.inj ((hw vs h2).symm.trans h4)
    subst this
    exact ⟨B', Ext.refl _ _, S, h5⟩
  stop := fun i M' B' L' Z' H' hi st e S => by
    have S0 : StM X.K B' L' [] M' H' := StM.zz (Z := []) (Z' := Z' ++ Z) (by simpa using S)
    obtain ⟨p, vs, h1, h2, h3⟩ := hl _ _ _ _ _ _ S0 (r.mono e) st
    cases h1
    exact ⟨vs, h2, by rw [← h3.len]; exact hi⟩
theorem itd_tup {B0 : Hp} {L0 : List Addr} {Z : Zs} {a : Addr} {ys : List D} (r : RepV X.K B0 L0 (.d (.tup ys)) (.ref a)) : Itd X Z (Itt X.K a) (ys.map DV.d) (fun M' => seqOf M' (.d (.tup ys)) = some (ys.map DV.d)) B0 L0 where
  go := fun i y M' B' L' Z' H' hy st e S => by
    have r := r.mono e
    unfold RepV Rep at r
    obtain ⟨p, vs, h1, h2, h3⟩ := r
    cases h1
    obtain ⟨v, h4, h5⟩ := (h3.vs (L := L')).get hy
    have h2 := S.sub.t h2
    refine ⟨⟨vs, v, h2, h4⟩, fun w H'' hw => ?_⟩
    obtain ⟨rfl, hw⟩ := hw
    have : w = v := Option.some.inj ((hw vs h2).symm.trans h4)
    subst this
    exact ⟨B', Ext.refl _ _, S, h5⟩
  stop := fun i M' B' L' Z' H' hi st e S => by
    have r := r.mono e
    unfold RepV Rep at r
    obtain ⟨p, vs, h1, h2, h3⟩ := r
    cases h1
    exact ⟨vs, S.sub.t h2, by rw [← h3.len]; simpa using hi⟩
theorem PI.or {tg iter : Expr} {w1 w2 : L2.TI} (h1 : PI X tg iter w1) (h2 : PI X tg iter w2) : PI X tg iter (fun σ H R => w1 σ H R ∨ w2 σ H R) :=
  ⟨fun pins s σ H R I h => h.elim (fun h => h1.run pins s σ H R I h) (fun h => h2.run pins s σ H R I h)⟩
/-- the two walks of a value in one -/
theorem pi_seq (he : PE X e (sE X e)) : PI X tg e (fun σ H R => sE X e σ H fun x H1 => ∃ a, x = .ref a ∧ (((∃ xs, SqL X.K H1 a xs) ∧ R (Itl X.K a) H1) ∨ ((∃ xs, SqT X.K H1 a xs) ∧ R (Itt X.K a) H1))) := by
  refine ⟨fun pins s σ H R I h => ?_⟩
  refine thn (h pins s I) fun u s1 hh => ?_
  obtain ⟨v, H1, I1, rv, a, ev, q⟩ := hh
  subst ev
  obtain rfl : u = Value.ref a := rv
  rcases q with ⟨⟨xs, hx⟩, q⟩ | ⟨⟨xs, hx⟩, q⟩
  · obtain ⟨its, rv, p, hz⟩ := I1.list hx
    refine wpAny_pyIter_list p.isList ?_
    refine ⟨s1.heap.objs.size, [s1.heap.objs.size], _, _, H1, rfl, I1.kept (t' := s1.toks) fun b o e => Heap.get?_push_of_some _ e, turn_list a _, ⟨_, Heap.get?_push_size _ rfl, rfl, rfl⟩, fun b hb => ?_, q⟩
    have e : b = s1.heap.objs.size := by simpa using hb
    subst e
    exact I1.fpOk (Nat.le_refl _) (I1.hok.fresh (Nat.le_refl _))
  · obtain ⟨its, rv, p, hz⟩ := I1.tuple hx
    refine wpAny_pyIter_tuple (show s1.heap.IsTuple a its.toArray from p) ?_
    refine ⟨s1.heap.objs.size, [s1.heap.objs.size], _, _, H1, rfl, I1.kept (t' := s1.toks) fun b o e => Heap.get?_push_of_some _ e, turn_tuple a _, ⟨_, Heap.get?_push_size _ rfl, rfl, rfl⟩, fun b hb => ?_, q⟩
    have e : b = s1.heap.objs.size := by simpa using hb
    subst e
    exact I1.fpOk (Nat.le_refl _) (I1.hok.fresh (Nat.le_refl _))
theorem di_seq (he : DE X e fe) : DI X tg e (iSeq fe) where
  run := fun {ρ M R x} h {σ H B L Z} S V x1 {RR} q => by
    refine PI.s (pi_seq pe_s) ?_
    refine he.run h S V x1 fun d M1 v B1 L1 H1 h1 e1 S1 r1 => ?_
    dsimp only at h1
    split at h1
    · rename_i xs hx
      obtain ⟨p, vs, rfl, h2, h3⟩ := S1.seq r1 hx
      refine ⟨p, rfl, ?_⟩
      have tup : ∀ ys, d = .d (.tup ys) → (∃ xs, SqT X.K H1 p xs) ∧ RR (Itt X.K p) H1 := fun ys e => by
        subst e
        have : xs = ys.map DV.d := by
          unfold seqOf at hx
          exact (Option.some.inj hx).symm
        subst this
        have r2 := r1
        unfold RepV Rep at r2
        obtain ⟨a, ws, ea, h4, _⟩ := r2
        cases ea
        exact ⟨⟨ws, S1.sub.t h4⟩, q _ _ _ _ _ _ _ h1 e1 S1 (itd_tup r1)⟩
      have lst : (∀ ys, d ≠ .d (.tup ys)) → (∃ xs, SqL X.K H1 p xs) ∧ RR (Itl X.K p) H1 := fun hn => by
        have hl : ∀ K B L H M v, StM K B L [] M H → RepV K B L d v → seqOf M d = some xs → ∃ p vs, v = .ref p ∧ SqL K H p vs ∧ RepVs K B L xs vs := fun K B L H M v S r hs => by
          unfold seqOf at hs
          split at hs
          · cases hs
            unfold RepV Rep at r
            obtain ⟨a, vs, h1, h2, h3⟩ := r
            exact ⟨a, vs, h1, S.sub.l (.inl (.inl h2)), h3.vs⟩
          · cases hs
            unfold RepV Rep at r
            obtain ⟨a, vs, h1, h2, h3⟩ := r
            exact ⟨a, vs, h1, S.sub.l h2, h3.vs⟩
          · exact absurd rfl (hn _)
          · split at hs
            · rename_i k xs' hk
              cases hs
              obtain ⟨a, h1, h2⟩ := r
              obtain ⟨a', h3, c⟩ := S.at_ hk
              have : a' = a := Option.some.inj (h3.symm.trans h2)
              subst this
              obtain ⟨vs, h4, h5⟩ := c
              exact ⟨a', vs, h1, .inl (.inl h4), h5⟩
            · cases hs
          · cases hs
        have S0 : StM X.K B1 L1 [] M1 H1 := StM.zz (Z := []) (Z' := Z) (by simpa using S1)
        obtain ⟨p2, vs2, ep, h4, _⟩ := hl _ _ _ _ _ _ S0 r1 hx
        cases ep
        exact ⟨⟨vs2, h4⟩, q _ _ _ _ _ _ _ h1 e1 S1 (itd_list r1 hl)⟩
      by_cases c : ∃ ys, d = .d (.tup ys)
      · obtain ⟨ys, c⟩ := c
        exact .inr (tup ys c)
      · exact .inl (lst fun ys e => c ⟨ys, e⟩)
    · exact h1.elim
end
end DL

namespace DL
open PySem PySem.Spec PyProof.Rows L2
variable [Csts]
/-! ### comprehensions -/
def wipeD (ρ : Rh) : List Nat → Rh
  | [] => ρ
  | v :: vs => (wipeD ρ vs).set v none
theorem EnvR.wipe {K : PySem.W.Frag} {B : Hp} {L : List Addr} {σ : L2.St} {ρ : Rh} (h : EnvR K B L σ ρ) : ∀ vs, EnvR K B L (L2.wipe σ vs) (wipeD ρ vs)
  | [] => h
  | v :: vs => (EnvR.wipe h vs).forget v none
theorem wipe_get (σ : L2.St) (i : Nat) : ∀ vs : List Nat, (L2.wipe σ vs)[i]? = if i ∈ vs then (σ[i]?).map (fun _ => none) else σ[i]?
  | [] => by simp [L2.wipe]
  | v :: vs => by
    show ((L2.wipe σ vs).set v none)[i]? = _
    rw [List.getElem?_set, wipe_get σ i vs]
    have hl : (L2.wipe σ vs).length = σ.length := wipe_length σ vs
    by_cases h1 : v = i
    · subst h1
      rw [if_pos rfl]
      simp only [List.mem_cons, true_or, if_true]
      by_cases h2 : v < σ.length
      · rw [if_pos (by omega), List.getElem?_eq_getElem h2]
        rfl
      · rw [if_neg (by omega), List.getElem?_eq_none (by omega)]
        rfl
    · rw [if_neg h1]
      have h2 : i ≠ v := fun h => h1 h.symm
      simp only [List.mem_cons, h2, false_or]
theorem wipe_set {σ : L2.St} {vs : List Nat} {i : Nat} (hi : i ∈ vs) (o : Option V) : L2.wipe (σ.set i o) vs = L2.wipe σ vs := by
  refine List.ext_getElem? fun j => ?_
  rw [wipe_get, wipe_get]
  by_cases h : j ∈ vs
  · rw [if_pos h, if_pos h, List.getElem?_set]
    by_cases q : i = j
    · subst q
      rw [if_pos rfl]
      by_cases hl : i < σ.length
      · rw [if_pos hl, List.getElem?_eq_getElem hl]
        rfl
      · rw [if_neg hl, List.getElem?_eq_none (by omega)]
    · rw [if_neg q]
  · rw [if_neg h, if_neg h, List.getElem?_set, if_neg (fun q : i = j => h (q ▸ hi))]
theorem wipe_idem (σ : L2.St) (vs : List Nat) : L2.wipe (L2.wipe σ vs) vs = L2.wipe σ vs := by
  refine List.ext_getElem? fun j => ?_
  rw [wipe_get, wipe_get]
  by_cases h : j ∈ vs
  · rw [if_pos h, if_pos h]
    cases σ[j]? <;> rfl
  · rw [if_neg h, if_neg h]
structure DGw (X : Cx) (tg : Expr) (vs : List Nat) (g : GT) : Prop where
  run : ∀ {x ρ M N}, g x ρ M N → ∀ {v σ H B L Z}, StM X.K B L Z M H → EnvR X.K B L σ ρ → RepV X.K B L x v → ∀ {N' : L2.St → Hp → Prop},
    (∀ ρ' M' B' L' σ' H', N ρ' M' → Ext B L B' L' → StM X.K B' L' Z M' H' → EnvR X.K B' L' σ' ρ' → L2.wipe σ' vs = L2.wipe σ vs → N' σ' H') → sG X tg v σ H N'
structure DGsw (X : Cx) (ts : List Expr) (vs : List Nat) (g : GTs) : Prop where
  run : ∀ {xs ρ M N}, g xs ρ M N → ∀ {ws σ H B L Z}, StM X.K B L Z M H → EnvR X.K B L σ ρ → RepVs X.K B L xs ws → ∀ {N' : L2.St → Hp → Prop},
    (∀ ρ' M' B' L' σ' H', N ρ' M' → Ext B L B' L' → StM X.K B' L' Z M' H' → EnvR X.K B' L' σ' ρ' → L2.wipe σ' vs = L2.wipe σ vs → N' σ' H') → sGs X ts ws σ H N'
section
variable {X : Cx} {pos : Pos} {vs : List Nat}
theorem dgw_name (i : Nat) {x : Str} (hi : i ∈ vs) (hN : X.N.Nodup) (hx' : X.N[i]? = some x := by rfl) (hx : Loc X.env.scope x := by first | exact Or.inl rfl | exact Or.inr rfl) (hf : X.fn x = true ∨ X.env.scope.names.lookup x = some .local := by first | exact .inl rfl | exact .inr rfl) : DGw X (.Name x pos) vs (gName i) where
  run := fun {x ρ M N} h {v σ H B L Z} S V r {N'} l => PG.s (pg_name hN hx' hx hf) (l _ _ _ _ _ _ h (Ext.refl _ _) S (V.set r i) (wipe_set hi _))
theorem dgsw_nil : DGsw X [] vs gNil where
  run := fun {xs ρ M N} h {ws σ H B L Z} S V r {N'} l => by
    cases xs with
    | cons _ _ => exact h.elim
    | nil =>
      cases ws with
      | cons _ _ => exact r.elim
      | nil => exact fun pins s us I rv => pgs_nil.run pins s σ H [] us N' I rv ⟨rfl, l _ _ _ _ _ _ h (Ext.refl _ _) S V rfl⟩
theorem dgsw_cons {e : Expr} {es : List Expr} {g : GT} {gs : GTs} (h1 : DGw X e vs g) (h2 : DGsw X es vs gs)
    (hs : (assignEach (e :: es) X.env).map (·.2) = assign e X.env :: (assignEach es X.env).map (·.2) := by rfl) : DGsw X (e :: es) vs (gCons g gs) where
  run := fun {xs ρ M N} h {ws σ H B L Z} S V r {N'} l => by
    cases xs with
    | nil => exact h.elim
    | cons x xs =>
      cases ws with
      | nil => exact r.elim
      | cons v ws =>
        intro pins s us I rv
        refine (pgs_cons pg_s pgs_s hs).run pins s σ H (v :: ws) us N' I rv ⟨v, ws, rfl, ?_⟩
        refine h1.run h S V r.1 fun ρ' M' B' L' σ' H' a b c d w => ?_
        exact h2.run a c d (r.2.mono b) fun ρ2 M2 B2 L2 σ2 H2 a2 b2 c2 d2 w2 => l ρ2 M2 B2 L2 σ2 H2 a2 (b.trans b2) c2 d2 (w2.trans w)
theorem dgw_tup {es : List Expr} {k : Nat} {g : GTs} {n : Nat} (hc : X.calm = true) (h : DGsw X es vs g)
    (hn : (assignEach es X.env).length = n := by rfl) (hst : (assignEach es X.env).findIdx? (·.1) = none := by rfl) : DGw X (.Tuple es k pos) vs (gTup n g) where
  run := fun {x ρ M N} h' {v σ H B L Z} S V r {N'} l => by
    refine PG.s (pg_tup hc pgs_s hn hst) ?_
    unfold gTup at h'
    split at h'
    · rename_i xs
      unfold RepV Rep at r
      obtain ⟨a, ws, rfl, h2, h3⟩ := r
      exact ⟨a, ws, rfl, S.sub.t h2, by rw [← h3.len]; exact h'.1, h.run h'.2 S V h3.vs l⟩
    · obtain ⟨a, u, b, rfl, h2, h3, h4⟩ := r
      exact ⟨a, _, rfl, S.sub.t h2, h'.1.symm, h.run (xs := [.d _, .m _]) (ws := [u, .ref b]) h'.2 S V ⟨h3, ⟨b, rfl, h4⟩, trivial⟩ l⟩
    · exact h'.elim
end
/-- a clause's tests -/
def sTs (X : Cx) (ifs : List Expr) : L2.TT := fun σ H Q => ∀ pins s, Inv X pins σ H s →
  wpAny (model X.prog X.w) X.A (forIn ifs true fun c r => if r = true then do let ok ← isTrue c X.env (eval c X.env); pure (ForInStep.yield ok) else pure (ForInStep.yield r)) (TP X pins σ Q) X.xe s
structure DTs (X : Cx) (ifs : List Expr) (f : TT) : Prop where
  run : ∀ {ρ M P x}, f ρ M P x → ∀ {σ H B L Z}, StM X.K B L Z M H → EnvR X.K B L σ ρ → XOk X B L Z σ x → ∀ {Q : Bool → Hp → Prop}, TOk X B L Z P Q → sTs X ifs σ H Q
def tYes : TT := fun _ M P _ => P true M
section
variable {X : Cx}
theorem dts_nil : DTs X [] tYes where
  run := fun {ρ M P x} h {σ H B L Z} S V x1 {Q} q pins s I => pts_nil.run pins s σ H Q I (q _ _ _ _ _ h (Ext.refl _ _) S)
theorem dts_one {c : Expr} {f : TT} (h : DT X c f) : DTs X [c] f where
  run := fun {ρ M P x} h' {σ H B L Z} S V x1 {Q} q pins s I => (pts_one pt_s).run pins s σ H Q I (h.run h' S V x1 q)
/-- [elt for tg in iter if ..]: Fin, what is wanted of all items -/
def tLcG (fi : IT) (g : GT) (tt : TT) (fe : ET) (vs : List Nat) (Fin : List DV → Mem → Prop) (ρ : Rh) (M : Mem) (x : XPost) : Prop := fi ρ M (fun xs still M1 => ∃ I : Nat → List DV → Mem → Prop, I 0 [] M1 ∧
  (∀ i y acc M', xs[i]? = some y → I i acc M' → still M' ∧ g y (wipeD ρ vs) M' fun ρ2 M2 => tt ρ2 M2 (fun b M3 => (b = true → fe ρ2 M3 (fun d M4 => acc.length < 100000 ∧ I (i + 1) (acc ++ [d]) M4) (fun _ _ _ => False)) ∧ (b = false → I (i + 1) acc M3)) fun _ _ _ => False) ∧
  ∀ acc M', I xs.length acc M' → still M' ∧ Fin acc M') x
/-- as data -/
def tLc (fi : IT) (g : GT) (tt : TT) (fe : ET) (vs : List Nat) : ET := fun ρ M P x => tLcG fi g tt fe vs (fun acc M' => match allD acc with
  | some zs => P (.d (.lst zs)) M'
  | none => False) ρ M x
/-- as a list that will change -/
def tLcM (fi : IT) (g : GT) (tt : TT) (fe : ET) (vs : List Nat) : ET := fun ρ M P x => tLcG fi g tt fe vs (fun acc M' => P (.m M'.length) (M' ++ [.lst acc])) ρ M x
variable {elt tg iter : Expr} {ifs : List Expr} {scope : Scope} {own : List (Str × Nat)} {pos : Pos} {fi : IT} {g : GT} {tt : TT} {fe : ET}
theorem size_lt {n : Nat} (h : n < 100000) : n < sizeLine := Nat.lt_of_lt_of_le h (by decide)
abbrev blkG (X : Cx) (scope : Scope) (tg : Expr) : L2.TG := fun y σ H Q => ∀ s0 H0 C cl fp, sG (X.blk s0 H0 scope (compEnvC scope cl C X.env) fp) tg y σ H Q
abbrev blkT (X : Cx) (scope : Scope) (ifs : List Expr) : L2.TT := fun σ H Q => ∀ s0 H0 C cl fp, sTs (X.blk s0 H0 scope (compEnvC scope cl C X.env) fp) ifs σ H Q
abbrev blkE (X : Cx) (scope : Scope) (elt : Expr) : L2.TE := fun σ H Q => ∀ s0 H0 C cl fp, sE (X.blk s0 H0 scope (compEnvC scope cl C X.env) fp) elt σ H Q
/-- the reading behind all -/
theorem lc_reading (hi : DI X tg iter fi)
    (hg : ∀ (s : Shared) (H : Hp) (C : Addr) (cl : List (Str × Addr)) (fp : List Addr), DGw (X.blk s H scope (compEnvC scope cl C X.env) fp) tg (own.map (·.2)) g) (ht : ∀ (s : Shared) (H : Hp) (C : Addr) (cl : List (Str × Addr)) (fp : List Addr), DTs (X.blk s H scope (compEnvC scope cl C X.env) fp) ifs tt)
    (he : ∀ (s : Shared) (H : Hp) (C : Addr) (cl : List (Str × Addr)) (fp : List Addr), DE (X.blk s H scope (compEnvC scope cl C X.env) fp) elt fe)
    {ρ : Rh} {M : Mem} {x : XPost} {Fin : List DV → Mem → Prop} (h : tLcG fi g tt fe (own.map (·.2)) Fin ρ M x) {σ : L2.St} {H B : Hp} {L : List Addr} {Z : Zs} (S : StM X.K B L Z M H) (V : EnvR X.K B L σ ρ) (x1 : XOk X B L Z σ x) {Q : VK}
    (q : ∀ acc M' D accV B' L' H', Fin acc M' → Ext B L B' L' → StM X.K B' L' ((D, .lst accV) :: Z) M' H' → (∀ q ∈ Z, q.1 ≠ D) → RepVs X.K B' L' acc accV → Q (.ref D) H') :
    L2.tLc (sI X tg iter) (blkG X scope tg) (blkT X scope ifs) (blkE X scope elt) (own.map (·.2)) σ H Q := by
  have nox : ∀ s0 H0 C cl fp B L Z σ, XOk (X.blk s0 H0 scope (compEnvC scope cl C X.env) fp) B L Z σ (fun _ _ _ => False) := fun _ _ _ _ _ _ _ _ _ => ⟨fun _ _ _ _ => False, takes0, fun _ _ _ _ _ _ _ h => h.elim⟩
  refine hi.run h S V x1 fun xs still M1 B1 L1 H1 J hR e1 S1 it => ?_
  obtain ⟨I, h0, hs, hd⟩ := hR
  intro D hD
  have hZ := S1.zne hD
  refine ⟨fun i m H' => i + m = xs.length ∧ ∃ acc accV M' B' L', I i acc M' ∧ Ext B1 L1 B' L' ∧ StM X.K B' L' ((D, .lst accV) :: Z) M' H' ∧ RepVs X.K B' L' acc accV, ⟨xs.length, by omega, [], [], M1, B1, L1, h0, Ext.refl _ _, S1.newZ hD, trivial⟩, ?_⟩
  rintro i m H' ⟨hm, acc, accV, M', B', L', hI, e2, S2, r2⟩
  by_cases hl : i < xs.length
  · obtain ⟨y, hy⟩ : ∃ y, xs[i]? = some y := ⟨xs[i], List.getElem?_eq_getElem hl⟩
    obtain ⟨st, hg'⟩ := hs i y acc M' hy hI
    obtain ⟨go, yl⟩ := it.go i y M' B' L' [(D, .lst accV)] H' hy st e2 S2
    refine .inr ⟨go, fun H2 => ∃ m', m' < m ∧ (i + 1) + m' = xs.length ∧ ∃ acc accV M' B' L', I (i + 1) acc M' ∧ Ext B1 L1 B' L' ∧ StM X.K B' L' ((D, .lst accV) :: Z) M' H2 ∧ RepVs X.K B' L' acc accV, fun _ ⟨m', a, b⟩ => ⟨m', a, b⟩, fun v H'' hy' s0 H0 C cl fp => ?_⟩
    obtain ⟨B'', e3, S3, r3⟩ := yl v H'' hy'
    refine (hg s0 H0 C cl fp).run hg' S3 ((V.mono ((e1.trans e2).trans e3)).wipe _) r3 fun ρ2 M2 B2 L2 σ2 H2 h2 e4 S4 V4 w4 => ?_
    refine ⟨w4.trans (wipe_idem _ _), fun s0 H0 C cl fp => ?_⟩
    refine (ht s0 H0 C cl fp).run h2 S4 V4 (nox ..) fun b M3 B3 L3 H3 h3 e5 S5 => ?_
    cases b with
    | false => exact ⟨m - 1, by omega, by omega, acc, accV, M3, B3, L3, (h3.2 rfl), ((e2.trans e3).trans e4).trans e5, S5, r2.mono ((e3.trans e4).trans e5)⟩
    | true =>
      intro s0 H0 C cl fp
      refine (he s0 H0 C cl fp).run (h3.1 rfl) S5 (V4.mono e5) (nox ..) fun d M4 v4 B4 L4 H4 h4 e6 S6 r6 => ?_
      have r7 := (r2.mono (((e3.trans e4).trans e5).trans e6))
      refine ⟨accV, S6.zAt, by rw [← r2.len]; exact size_lt h4.1, m - 1, by omega, by omega, acc ++ [d], accV ++ [v4], M4, B4, L4, h4.2, (((e2.trans e3).trans e4).trans e5).trans e6, S6.putZ rfl hZ, r7.app ⟨r6, trivial⟩⟩
  · have hi' : i = xs.length := by omega
    subst hi'
    obtain ⟨st, hf⟩ := hd acc M' hI
    exact .inl ⟨it.stop _ M' B' L' [(D, .lst accV)] H' (Nat.le_refl _) st e2 S2, q acc M' D accV B' L' H' hf (e1.trans e2) S2 hZ r2⟩
theorem lc_blk (hc : X.calm = true) (hN : X.N.Nodup) (ok : BlkOk X.N X.env.scope scope own) (hs : ∀ x, foldedSetIterable iter X.env x = pure x) :
    PE X (.ListComp elt [⟨tg, iter, ifs, 0⟩] scope pos) (L2.tLc (sI X tg iter) (blkG X scope tg) (blkT X scope ifs) (blkE X scope elt) (own.map (·.2))) :=
  pe_lc hc hN pi_s ok (fun s0 H0 C cl fp => ⟨fun pins s σ H v u Q I r h => h s0 H0 C cl fp pins s u I r⟩) (fun s0 H0 C cl fp => ⟨fun pins s σ H Q I h => h s0 H0 C cl fp pins s I⟩) (fun s0 H0 C cl fp => ⟨fun pins s σ H Q I h => h s0 H0 C cl fp pins s I⟩) hs
theorem fin_data {B : Hp} {L : List Addr} {Z : Zs} {P : Post} {Q : VK} (q : POk X B L Z P Q) : ∀ acc M' D accV B' L' H', (match allD acc with
  | some zs => P (.d (.lst zs)) M'
  | none => False) → Ext B L B' L' → StM X.K B' L' ((D, .lst accV) :: Z) M' H' → (∀ q ∈ Z, q.1 ≠ D) → RepVs X.K B' L' acc accV → Q (.ref D) H' := fun acc M' D accV B' L' H' h e S hZ r => by
  split at h
  · rename_i zs hz
    have := allD_eq hz
    subst this
    obtain ⟨S2, e2⟩ := S.unZ rfl hZ
    refine q _ M' _ _ _ _ h (e.trans e2) S2 ?_
    unfold RepV Rep
    exact ⟨D, accV, rfl, upd_same, RepL.mono e2.sub _ _ r.toL⟩
  · exact h.elim
theorem fin_cell {B : Hp} {L : List Addr} {Z : Zs} {P : Post} {Q : VK} (q : POk X B L Z P Q) : ∀ acc M' D accV B' L' H', P (.m M'.length) (M' ++ [.lst acc]) → Ext B L B' L' → StM X.K B' L' ((D, .lst accV) :: Z) M' H' → (∀ q ∈ Z, q.1 ≠ D) → RepVs X.K B' L' acc accV → Q (.ref D) H' := fun acc M' D accV B' L' H' h e S hZ r => by
  have E1 : Ext B' L' B' (L' ++ [D]) := ⟨Sub.refl B', [D], rfl⟩
  obtain ⟨S2, e2⟩ := S.cellZ (m := .lst acc) rfl hZ ⟨accV, S.zAt, r.mono E1⟩
  refine q _ _ _ _ _ _ h (e.trans e2) S2 ⟨D, rfl, ?_⟩
  rw [← S.len]
  simp
theorem de_lc (hc : X.calm = true) (hN : X.N.Nodup) (hi : DI X tg iter fi) (ok : BlkOk X.N X.env.scope scope own)
    (hg : ∀ (s : Shared) (H : Hp) (C : Addr) (cl : List (Str × Addr)) (fp : List Addr), DGw (X.blk s H scope (compEnvC scope cl C X.env) fp) tg (own.map (·.2)) g) (ht : ∀ (s : Shared) (H : Hp) (C : Addr) (cl : List (Str × Addr)) (fp : List Addr), DTs (X.blk s H scope (compEnvC scope cl C X.env) fp) ifs tt)
    (he : ∀ (s : Shared) (H : Hp) (C : Addr) (cl : List (Str × Addr)) (fp : List Addr), DE (X.blk s H scope (compEnvC scope cl C X.env) fp) elt fe) (hs : ∀ x, foldedSetIterable iter X.env x = pure x := by intro _; rfl) :
    DE X (.ListComp elt [⟨tg, iter, ifs, 0⟩] scope pos) (tLc fi g tt fe (own.map (·.2))) where
  run := fun {ρ M P x} h {σ H B L Z} S V x1 {Q} q => PE.s (lc_blk hc hN ok hs) (lc_reading hi hg ht he h S V x1 (fin_data q))
theorem de_lcM (hc : X.calm = true) (hN : X.N.Nodup) (hi : DI X tg iter fi) (ok : BlkOk X.N X.env.scope scope own)
    (hg : ∀ (s : Shared) (H : Hp) (C : Addr) (cl : List (Str × Addr)) (fp : List Addr), DGw (X.blk s H scope (compEnvC scope cl C X.env) fp) tg (own.map (·.2)) g) (ht : ∀ (s : Shared) (H : Hp) (C : Addr) (cl : List (Str × Addr)) (fp : List Addr), DTs (X.blk s H scope (compEnvC scope cl C X.env) fp) ifs tt)
    (he : ∀ (s : Shared) (H : Hp) (C : Addr) (cl : List (Str × Addr)) (fp : List Addr), DE (X.blk s H scope (compEnvC scope cl C X.env) fp) elt fe) (hs : ∀ x, foldedSetIterable iter X.env x = pure x := by intro _; rfl) :
    DE X (.ListComp elt [⟨tg, iter, ifs, 0⟩] scope pos) (tLcM fi g tt fe (own.map (·.2))) where
  run := fun {ρ M P x} h {σ H B L Z} S V x1 {Q} q => PE.s (lc_blk hc hN ok hs) (lc_reading hi hg ht he h S V x1 (fin_cell q))
/-- y = [..] on one line -/
theorem ds_setLc (i : Nat) {y : Str} {py spos : Pos} (hc : X.calm = true) (hN : X.N.Nodup) (hi : DI X tg iter fi) (ok : BlkOk X.N X.env.scope scope own)
    (hg : ∀ (s : Shared) (H : Hp) (C : Addr) (cl : List (Str × Addr)) (fp : List Addr), DGw (X.blk s H scope (compEnvC scope cl C X.env) fp) tg (own.map (·.2)) g) (ht : ∀ (s : Shared) (H : Hp) (C : Addr) (cl : List (Str × Addr)) (fp : List Addr), DTs (X.blk s H scope (compEnvC scope cl C X.env) fp) ifs tt)
    (he : ∀ (s : Shared) (H : Hp) (C : Addr) (cl : List (Str × Addr)) (fp : List Addr), DE (X.blk s H scope (compEnvC scope cl C X.env) fp) elt fe) (hy : X.N[i]? = some y := by rfl) (hyl : X.env.scope.names.lookup y = some .local := by rfl)
    (hsw : swapsWith (.ListComp elt [⟨tg, iter, ifs, 0⟩] scope pos) (some (.Name y py)) spos.line X.env = pure true := by exact sw_true rfl rfl rfl (by decide +kernel)) (hs : ∀ x, foldedSetIterable iter X.env x = pure x := by intro _; rfl) :
    DS X (.Assign [.Name y py] (.ListComp elt [⟨tg, iter, ifs, 0⟩] scope pos) spos) (tAsg (tLc fi g tt fe (own.map (·.2))) (gName i)) where
  run := fun {E ρ M} h {σ H B L Z} S V {F} l => by
    refine PS.s (ps_setLc (i := i) hc hN hy hyl hsw pi_s ok (fun s0 H0 C cl fp => ⟨fun pins s σ H v u Q I r h => h s0 H0 C cl fp pins s u I r⟩) (fun s0 H0 C cl fp => ⟨fun pins s σ H Q I h => h s0 H0 C cl fp pins s I⟩) (fun s0 H0 C cl fp => ⟨fun pins s σ H Q I h => h s0 H0 C cl fp pins s I⟩) hs (g := blkG X scope tg) (tt := blkT X scope ifs) (te := blkE X scope elt)) ?_
    exact lc_reading hi hg ht he h S V (l.ex.at_ V) (fin_data (P := fun d M1 => gName i d ρ M1 E.nx) fun d M' v B' L' H' a b c r => l.nx _ _ _ _ _ _ a b c ((V.mono b).set r i))
theorem ds_setLcM (i : Nat) {y : Str} {py spos : Pos} (hc : X.calm = true) (hN : X.N.Nodup) (hi : DI X tg iter fi) (ok : BlkOk X.N X.env.scope scope own)
    (hg : ∀ (s : Shared) (H : Hp) (C : Addr) (cl : List (Str × Addr)) (fp : List Addr), DGw (X.blk s H scope (compEnvC scope cl C X.env) fp) tg (own.map (·.2)) g) (ht : ∀ (s : Shared) (H : Hp) (C : Addr) (cl : List (Str × Addr)) (fp : List Addr), DTs (X.blk s H scope (compEnvC scope cl C X.env) fp) ifs tt)
    (he : ∀ (s : Shared) (H : Hp) (C : Addr) (cl : List (Str × Addr)) (fp : List Addr), DE (X.blk s H scope (compEnvC scope cl C X.env) fp) elt fe) (hy : X.N[i]? = some y := by rfl) (hyl : X.env.scope.names.lookup y = some .local := by rfl)
    (hsw : swapsWith (.ListComp elt [⟨tg, iter, ifs, 0⟩] scope pos) (some (.Name y py)) spos.line X.env = pure true := by exact sw_true rfl rfl rfl (by decide +kernel)) (hs : ∀ x, foldedSetIterable iter X.env x = pure x := by intro _; rfl) :
    DS X (.Assign [.Name y py] (.ListComp elt [⟨tg, iter, ifs, 0⟩] scope pos) spos) (tAsg (tLcM fi g tt fe (own.map (·.2))) (gName i)) where
  run := fun {E ρ M} h {σ H B L Z} S V {F} l => by
    refine PS.s (ps_setLc (i := i) hc hN hy hyl hsw pi_s ok (fun s0 H0 C cl fp => ⟨fun pins s σ H v u Q I r h => h s0 H0 C cl fp pins s u I r⟩) (fun s0 H0 C cl fp => ⟨fun pins s σ H Q I h => h s0 H0 C cl fp pins s I⟩) (fun s0 H0 C cl fp => ⟨fun pins s σ H Q I h => h s0 H0 C cl fp pins s I⟩) hs (g := blkG X scope tg) (tt := blkT X scope ifs) (te := blkE X scope elt)) ?_
    exact lc_reading hi hg ht he h S V (l.ex.at_ V) (fin_cell (P := fun d M1 => gName i d ρ M1 E.nx) fun d M' v B' L' H' a b c r => l.nx _ _ _ _ _ _ a b c ((V.mono b).set r i))
end
/-! ### ranges -/
section
variable {X : Cx} {tg a b : Expr} {fas : AT} {p pos : Pos}
def rangeL (lo : Int) (n : Nat) : List DV := (List.range n).map fun (i : Nat) => .d (.int (lo + (i : Int)))
theorem rangeL_get {lo : Int} {n i : Nat} {y : DV} : (rangeL lo n)[i]? = some y ↔ i < n ∧ y = .d (.int (lo + (i : Int))) := by
  unfold rangeL
  rw [List.getElem?_map]
  by_cases h : i < n
  · rw [List.getElem?_range h]
    simp [h, eq_comm]
  · rw [List.getElem?_eq_none (by simp; omega)]
    simp [h]
theorem rangeL_len (lo : Int) (n : Nat) : (rangeL lo n).length = n := by simp [rangeL]
theorem itd_range {B0 : Hp} {L0 : List Addr} {Z : Zs} (lo : Int) (n : Nat) : Itd X Z (Itr lo n) (rangeL lo n) (fun _ => True) B0 L0 where
  go := fun i y M' B' L' Z' H' hy st e S => by
    obtain ⟨h1, rfl⟩ := rangeL_get.mp hy
    exact ⟨h1, fun v H'' ⟨h2, h3⟩ => ⟨B', Ext.refl _ _, h2 ▸ S, by rw [h3]; simp only [RepV, Rep]⟩⟩
  stop := fun i M' B' L' Z' H' hi st e S => by
    rw [rangeL_len] at hi
    exact hi
def iRng1 (fas : AT) : IT := fun ρ M R x => fas ρ M (fun ds M1 => match ds with
  | [.d (.int j)] => (-(2 ^ 62) ≤ j ∧ j < 2 ^ 62) ∧ R (rangeL 0 j.toNat) (fun _ => True) M1
  | _ => False) x
def iRng2 (fas : AT) : IT := fun ρ M R x => fas ρ M (fun ds M1 => match ds with
  | [.d (.int i), .d (.int j)] => (-(2 ^ 62) ≤ i ∧ i < 2 ^ 62 ∧ -(2 ^ 62) ≤ j ∧ j < 2 ^ 62) ∧ R (rangeL i (j - i).toNat) (fun _ => True) M1
  | _ => False) x
theorem di_range1 (hg : Gl X "range") (hm : X.mg "range" = none) (ha : DA X [a] fas) (hs : starEach [a] X.env = [(false, eval a X.env)] := by rfl) : DI X tg (.Call (.Name "range" p) [a] [] pos) (iRng1 fas) where
  run := fun {ρ M R x} h {σ H B L Z} S V x1 {RR} q => by
    refine PI.s (pi_range1 hg hm pa_s hs) ?_
    refine ha.run h S V x1 fun ds M1 vs B1 L1 H1 h1 e1 S1 r1 => ?_
    dsimp only at h1
    split at h1
    · rename_i j
      match vs, r1 with
      | [v], r1 =>
        have : v = .int j := by simpa only [RepV, Rep] using r1.1
        subst this
        exact ⟨j, rfl, h1.1.1, h1.1.2, q _ _ _ _ _ _ _ h1.2 e1 S1 (itd_range 0 _)⟩
    · exact h1.elim
theorem di_range2 (hg : Gl X "range") (hm : X.mg "range" = none) (ha : DA X [a, b] fas) (hs : starEach [a, b] X.env = [(false, eval a X.env), (false, eval b X.env)] := by rfl) (hs2 : starEach [b] X.env = [(false, eval b X.env)] := by rfl) : DI X tg (.Call (.Name "range" p) [a, b] [] pos) (iRng2 fas) where
  run := fun {ρ M R x} h {σ H B L Z} S V x1 {RR} q => by
    refine PI.s (pi_range2 hg hm pa_s hs hs2) ?_
    refine ha.run h S V x1 fun ds M1 vs B1 L1 H1 h1 e1 S1 r1 => ?_
    dsimp only at h1
    split at h1
    · rename_i i j
      match vs, r1 with
      | [v, w], r1 =>
        have hv : v = .int i := by simpa only [RepV, Rep] using r1.1
        have hw : w = .int j := by simpa only [RepV, Rep] using r1.2.1
        subst hv
        subst hw
        exact ⟨i, j, rfl, h1.1, q _ _ _ _ _ _ _ h1.2 e1 S1 (itd_range i _)⟩
    · exact h1.elim
end
end DL

namespace DL
open PySem PySem.Spec PyProof.Rows L2
variable [Csts]
/-! ### operations on values -/
section
variable {X : Cx}
theorem rv_int {K : PySem.W.Frag} {B : Hp} {L : List Addr} {i : Int} {v : V} : RepV K B L (.d (.int i)) v ↔ v = .int i := by simp only [RepV, Rep]
theorem rv_str {K : PySem.W.Frag} {B : Hp} {L : List Addr} {i : Str} {v : V} : RepV K B L (.d (.str i)) v ↔ v = .str i := by simp only [RepV, Rep]
theorem rv_bl {K : PySem.W.Frag} {B : Hp} {L : List Addr} {i : Bool} {v : V} : RepV K B L (.d (.bl i)) v ↔ v = .bl i := by simp only [RepV, Rep]
theorem rv_non {K : PySem.W.Frag} {B : Hp} {L : List Addr} {v : V} : RepV K B L (.d .non) v ↔ v = .non := by simp only [RepV, Rep]
theorem rv_ref {K : PySem.W.Frag} {B : Hp} {L : List Addr} {a : Addr} {v : V} : RepV K B L (.d (.ref a)) v ↔ v = .ref a := by simp only [RepV, Rep]
theorem rv_ty {K : PySem.W.Frag} {B : Hp} {L : List Addr} {a : TyN} {v : V} : RepV K B L (.d (.ty a)) v ↔ v = .ty a.nm := by simp only [RepV, Rep]
/-- two ints -/
def o2I (f : Int → Int → Mem → Post → Prop) : O2 := fun a b M P => match a, b with
  | .d (.int i), .d (.int j) => f i j M P
  | _, _ => False
theorem o2I_of {f : Int → Int → Mem → Post → Prop} {a b : DV} {M : Mem} {P : Post} (h : o2I f a b M P) : ∃ i j, a = .d (.int i) ∧ b = .d (.int j) ∧ f i j M P := by
  unfold o2I at h
  split at h
  · exact ⟨_, _, rfl, rfl, h⟩
  · exact h.elim
theorem do_int {f : Value → Value → Sem Value} {C : Int → Int → Prop} {g : Int → Int → V} {gd : Int → Int → D} (h : OpR X f (rI C g)) (hg : ∀ i j B, Rep X.K B (gd i j) (g i j)) : DO X f (o2I fun i j M P => C i j ∧ P (.d (gd i j)) M) where
  run := fun {a b M P} h' {u v B L Z H} S r1 r2 {Q} q => by
    obtain ⟨i, j, rfl, rfl, hc, hp⟩ := o2I_of h'
    exact opS h ⟨i, j, rv_int.mp r1, rv_int.mp r2, hc, q.here S hp (hg i j B)⟩
theorem do_int0 {f : Value → Value → Sem Value} {g : Int → Int → V} {gd : Int → Int → D} (h : OpR X f (rI0 g)) (hg : ∀ i j B, Rep X.K B (gd i j) (g i j)) : DO X f (o2I fun i j M P => P (.d (gd i j)) M) where
  run := fun {a b M P} h' {u v B L Z H} S r1 r2 {Q} q => by
    obtain ⟨i, j, rfl, rfl, hp⟩ := o2I_of h'
    exact opS h ⟨i, j, rv_int.mp r1, rv_int.mp r2, q.here S hp (hg i j B)⟩
theorem do_sub : DO X (binaryOp .Sub) (o2I fun i j M P => P (.d (.int (i - j))) M) := do_int0 (gd := fun i j => .int (i - j)) op_sub fun _ _ _ => by simp only [Rep]
theorem do_isub : DO X (inplaceOp .Sub) (o2I fun i j M P => P (.d (.int (i - j))) M) := do_int0 (gd := fun i j => .int (i - j)) iop_sub fun _ _ _ => by simp only [Rep]
theorem do_iadd : DO X (inplaceOp .Add) (o2I fun i j M P => P (.d (.int (i + j))) M) := do_int0 (gd := fun i j => .int (i + j)) iop_add fun _ _ _ => by simp only [Rep]
theorem do_mod : DO X (binaryOp .Mod) (o2I fun i j M P => 0 < j ∧ P (.d (.int (i % j))) M) := do_int (gd := fun i j => .int (i % j)) op_mod fun _ _ _ => by simp only [Rep]
theorem do_fdiv : DO X (binaryOp .FloorDiv) (o2I fun i j M P => CDiv i j ∧ P (.d (.int (i / j))) M) := do_int (gd := fun i j => .int (i / j)) op_fdiv fun _ _ _ => by simp only [Rep]
theorem do_pow : DO X (binaryOp .Pow) (o2I fun i j M P => CPow i j ∧ P (.d (.int (i ^ j.toNat))) M) := do_int (gd := fun i j => .int (i ^ j.toNat)) op_pow fun _ _ _ => by simp only [Rep]
theorem do_lt : DO X (compareOp .Lt) (o2I fun i j M P => P (.d (.bl (decide (i < j)))) M) := do_int0 (gd := fun i j => .bl (decide (i < j))) op_lt fun _ _ _ => by simp only [Rep]
theorem do_le : DO X (compareOp .LtE) (o2I fun i j M P => P (.d (.bl (decide (i ≤ j)))) M) := do_int0 (gd := fun i j => .bl (decide (i ≤ j))) op_le fun _ _ _ => by simp only [Rep]
theorem do_gt : DO X (compareOp .Gt) (o2I fun i j M P => P (.d (.bl (decide (j < i)))) M) := do_int0 (gd := fun i j => .bl (decide (j < i))) op_gt fun _ _ _ => by simp only [Rep]
theorem do_ge : DO X (compareOp .GtE) (o2I fun i j M P => P (.d (.bl (decide (j ≤ i)))) M) := do_int0 (gd := fun i j => .bl (decide (j ≤ i))) op_ge fun _ _ _ => by simp only [Rep]
/-! + -/
def lstOf (M : Mem) (d : DV) (xs : List DV) : Prop := match d with
  | .d (.lst ys) => xs = ys.map .d
  | .m k => M[k]? = some (.lst xs)
  | _ => False
theorem StM.lst {K : PySem.W.Frag} {B : Hp} {L : List Addr} {Z : Zs} {M : Mem} {H : Hp} (S : StM K B L Z M H) {d : DV} {v : V} {xs : List DV} (r : RepV K B L d v) (h : lstOf M d xs) : ∃ p vs, v = .ref p ∧ H p = some (.lst vs) ∧ RepVs K B L xs vs := by
  unfold lstOf at h
  split at h
  · subst h
    unfold RepV Rep at r
    obtain ⟨a, vs, h1, h2, h3⟩ := r
    exact ⟨a, vs, h1, S.sub.eq h2, h3.vs⟩
  · obtain ⟨a, h1, h2⟩ := r
    obtain ⟨a', h3, c⟩ := S.at_ h
    have : a' = a := Option.some.inj (h3.symm.trans h2)
    subst this
    obtain ⟨vs, h4, h5⟩ := c
    exact ⟨a', vs, h1, h4, h5⟩
  · exact h.elim
def oAdd : O2 := fun a b M P => match a, b with
  | .d (.int i), .d (.int j) => P (.d (.int (i + j))) M
  | .d (.str i), .d (.str j) => i.length + j.length ≤ 100000 ∧ P (.d (.str (i ++ j))) M
  | .d (.tup xs), .d (.tup ys) => xs.length + ys.length ≤ 100000 ∧ P (.d (.tup (xs ++ ys))) M
  | .d (.lst xs), .d (.lst ys) => xs.length + ys.length ≤ 100000 ∧ P (.d (.lst (xs ++ ys))) M
  | .m k, .d (.lst ys) => match M[k]? with
    | some (.lst xs) => (match allD xs with
      | some zs => zs.length + ys.length ≤ 100000 ∧ P (.d (.lst (zs ++ ys))) M
      | none => False)
    | _ => False
  | .d (.lst ys), .m k => match M[k]? with
    | some (.lst xs) => (match allD xs with
      | some zs => ys.length + zs.length ≤ 100000 ∧ P (.d (.lst (ys ++ zs))) M
      | none => False)
    | _ => False
  | _, _ => False
theorem RepL.app {K : PySem.W.Frag} {B : Hp} {xs ys : List D} {vs ws : List V} (h : RepL K B xs vs) (g : RepL K B ys ws) : RepL K B (xs ++ ys) (vs ++ ws) := by
  have a := (RepL.vs (L := []) h).app (RepL.vs g)
  rw [← List.map_append] at a
  exact a.toL
theorem add_lists {B : Hp} {L : List Addr} {Z : Zs} {M : Mem} {H : Hp} {P : Post} {Q : VK} {a b : DV} {u v : V} {xs ys : List D} (S : StM X.K B L Z M H) (r1 : RepV X.K B L a u) (r2 : RepV X.K B L b v) (h1 : lstOf M a (xs.map .d)) (h2 : lstOf M b (ys.map .d)) (hl : xs.length + ys.length ≤ 100000) (h : P (.d (.lst (xs ++ ys))) M) (q : POk X B L Z P Q) : sO X (binaryOp .Add) u v H Q := by
  obtain ⟨p, vs, rfl, e1, g1⟩ := S.lst r1 h1
  obtain ⟨p2, ws, rfl, e2, g2⟩ := S.lst r2 h2
  have l1 := g1.len
  have l2 := g2.len
  simp at l1 l2
  refine opS op_cat ⟨p, p2, vs, ws, rfl, rfl, e1, e2, size100 (by omega), fun z hz => ?_⟩
  obtain ⟨S2, e⟩ := S.newD (o := .lst (vs ++ ws)) hz
  refine q _ M _ _ _ _ h e S2 ?_
  unfold RepV Rep
  exact ⟨z, vs ++ ws, rfl, upd_same, RepL.mono e.sub _ _ (g1.toL.app g2.toL)⟩
/-- a tuple is laid -/
theorem new_tup {B : Hp} {L : List Addr} {Z : Zs} {M : Mem} {H : Hp} {P : Post} {Q : VK} {xs : List D} {vs : List V} (S : StM X.K B L Z M H) (r : RepL X.K B xs vs) (h : P (.d (.tup xs)) M) (q : POk X B L Z P Q) {z : Addr} (hz : H z = none) : Q (.ref z) (upd H z (.tup vs)) := by
  obtain ⟨S2, e⟩ := S.newD (o := .tup vs) hz
  refine q _ M _ _ _ _ h e S2 ?_
  unfold RepV Rep
  exact ⟨z, vs, rfl, .inl (.inl upd_same), RepL.mono e.sub _ _ r⟩
theorem new_lst {B : Hp} {L : List Addr} {Z : Zs} {M : Mem} {H : Hp} {P : Post} {Q : VK} {xs : List D} {vs : List V} (S : StM X.K B L Z M H) (r : RepL X.K B xs vs) (h : P (.d (.lst xs)) M) (q : POk X B L Z P Q) {z : Addr} (hz : H z = none) : Q (.ref z) (upd H z (.lst vs)) := by
  obtain ⟨S2, e⟩ := S.newD (o := .lst vs) hz
  refine q _ M _ _ _ _ h e S2 ?_
  unfold RepV Rep
  exact ⟨z, vs, rfl, upd_same, RepL.mono e.sub _ _ r⟩
theorem RepL.nil_iff {K : PySem.W.Frag} {B : Hp} {xs : List D} {vs : List V} (h : RepL K B xs vs) : vs = [] ↔ xs = [] := by
  have := h.len
  constructor
  · intro e
    rw [e] at this
    exact List.length_eq_zero_iff.mp this
  · intro e
    rw [e] at this
    exact List.length_eq_zero_iff.mp this.symm
theorem do_add : DO X (binaryOp .Add) oAdd where
  run := fun {a b M P} h {u v B L Z H} S r1 r2 {Q} q => by
    unfold oAdd at h
    split at h
    · exact opS op_add ⟨_, _, rv_int.mp r1, rv_int.mp r2, q.here S h (rv_int.mpr rfl)⟩
    · exact opS op_add_str ⟨_, _, rv_str.mp r1, rv_str.mp r2, size100 h.1, q.here S h.2 (rv_str.mpr rfl)⟩
    · rename_i xs ys
      have r1' := r1
      have r2' := r2
      unfold RepV Rep at r1 r2
      obtain ⟨p, vs, rfl, h1, h2⟩ := r1
      obtain ⟨p2, ws, rfl, h3, h4⟩ := r2
      have l1 := h2.len
      have l2 := h4.len
      refine opS op_catA ⟨p, p2, vs, ws, rfl, rfl, S.sub.t h1, S.sub.t h3, size100 (by omega), fun e => ?_, fun _ e => ?_, fun _ _ z hz => new_tup S (h2.app h4) h.2 q hz⟩
      · have : xs = [] := (h2.nil_iff).mp e
        subst this
        exact q.here S h.2 (by simpa using r2')
      · have : ys = [] := (h4.nil_iff).mp e
        subst this
        exact q.here S h.2 (by simpa using r1')
    · exact add_lists S r1 r2 rfl rfl h.1 h.2 q
    · split at h
      · rename_i xs hk
        split at h
        · rename_i zs hz
          have := allD_eq hz
          subst this
          exact add_lists S r1 r2 hk rfl h.1 h.2 q
        · exact h.elim
      · exact h.elim
    · split at h
      · rename_i xs hk
        split at h
        · rename_i zs hz
          have := allD_eq hz
          subst this
          exact add_lists S r1 r2 rfl hk h.1 h.2 q
        · exact h.elim
      · exact h.elim
    · exact h.elim
/-! * -/
def oMul : O2 := fun a b M P => match a, b with
  | .d (.int i), .d (.int j) => CMul i j ∧ P (.d (.int (i * j))) M
  | .d (.lst xs), .d (.int k) => (-(2 ^ 63) ≤ k ∧ k < 2 ^ 63 ∧ xs.length * k.toNat ≤ 100000) ∧ P (.d (.lst (List.replicate k.toNat xs).flatten)) M
  | .d (.tup xs), .d (.int k) => (xs ≠ [] ∧ 2 ≤ k ∧ k ≤ 1000 ∧ xs.length ≤ 1000) ∧ P (.d (.tup (List.replicate k.toNat xs).flatten)) M
  | _, _ => False
theorem RepL.rep {K : PySem.W.Frag} {B : Hp} {xs : List D} {vs : List V} (h : RepL K B xs vs) : ∀ n : Nat, RepL K B (List.replicate n xs).flatten (List.replicate n vs).flatten
  | 0 => by simp only [List.replicate, List.flatten_nil]; unfold RepL; trivial
  | n + 1 => by
    rw [List.replicate_succ, List.replicate_succ, List.flatten_cons, List.flatten_cons]
    exact h.app (RepL.rep h n)
/-! == -/
mutual
def isPy : D → Bool
  | .non | .bl _ | .int _ | .str _ => true
  | .lst xs | .frl xs | .tup xs => isPyL xs
  | _ => false
def isPyL : List D → Bool
  | [] => true
  | x :: xs => isPy x && isPyL xs
end
mutual
def toPy : D → PyData
  | .bl b => .bool b
  | .int i => .int i
  | .str s => .str s
  | .lst xs | .frl xs => .list (toPyL xs)
  | .tup xs => .tuple (toPyL xs)
  | _ => .none
def toPyL : List D → List PyData
  | [] => []
  | x :: xs => toPy x :: toPyL xs
end
mutual
theorem Rep.dp {K : PySem.W.Frag} {B H : Hp} (e : Sub B H) : ∀ (d : D) (v : V), isPy d = true → Rep K B d v → Dp K H v (toPy d)
  | .non, _, _, h => by
    unfold Rep at h
    subst h
    exact .non
  | .bl _, _, _, h => by
    unfold Rep at h
    subst h
    exact .bl _
  | .int _, _, _, h => by
    unfold Rep at h
    subst h
    exact .int _
  | .str _, _, _, h => by
    unfold Rep at h
    subst h
    exact .str _
  | .lst xs, _, p, h => by
    unfold Rep at h
    unfold isPy at p
    obtain ⟨a, vs, rfl, h2, h3⟩ := h
    exact .lst (e.l (.inl (.inl h2))) (RepL.dp e xs vs p h3)
  | .frl xs, _, p, h => by
    unfold Rep at h
    unfold isPy at p
    obtain ⟨a, vs, rfl, h2, h3⟩ := h
    exact .lst (e.l h2) (RepL.dp e xs vs p h3)
  | .tup xs, _, p, h => by
    unfold Rep at h
    unfold isPy at p
    obtain ⟨a, vs, rfl, h2, h3⟩ := h
    exact .tup (e.t h2) (RepL.dp e xs vs p h3)
  | .ref _, _, p, _ => by simp [isPy] at p
  | .ty _, _, p, _ => by simp [isPy] at p
  | .dic _, _, p, _ => by simp [isPy] at p
  | .obj _ _, _, p, _ => by simp [isPy] at p
  | .slo _ _, _, p, _ => by simp [isPy] at p
theorem RepL.dp {K : PySem.W.Frag} {B H : Hp} (e : Sub B H) : ∀ (xs : List D) (vs : List V), isPyL xs = true → RepL K B xs vs → DpAll K H vs (toPyL xs)
  | [], [], _, _ => .nil
  | x :: xs, v :: vs, p, h => by
    unfold RepL at h
    unfold isPyL at p
    rw [Bool.and_eq_true] at p
    exact .cons (Rep.dp e x v p.1 h.1) (RepL.dp e xs vs p.2 h.2)
  | [], _ :: _, _, h => by unfold RepL at h; exact h.elim
  | _ :: _, [], _, h => by unfold RepL at h; exact h.elim
end
def eqD (a b : D) : Bool := PyData.eqv (toPy a) (toPy b)
def shapedD (a : D) : Bool := isPy a && SeqAt.shaped (toPy a)
/-- what a value is as data, for == -/
def datOf (M : Mem) : DV → Option D
  | .d x => some x
  | .m k => match M[k]? with
    | some (.lst xs) => (match allD xs with
      | some zs => some (.lst zs)
      | none => none)
    | _ => none
  | .pr _ _ => none
theorem StM.dp {K : PySem.W.Frag} {B : Hp} {L : List Addr} {Z : Zs} {M : Mem} {H : Hp} (S : StM K B L Z M H) {d : DV} {v : V} {x : D} (r : RepV K B L d v) (h : datOf M d = some x) (p : isPy x = true) : Dp K H v (toPy x) := by
  unfold datOf at h
  split at h
  · cases h
    exact Rep.dp S.sub _ _ p r
  · split at h
    · rename_i xs hk
      split at h
      · rename_i zs hz
        cases h
        have := allD_eq hz
        subst this
        obtain ⟨q, vs, rfl, h2, h3⟩ := S.lst r hk
        unfold isPy at p
        exact .lst (.inl (.inl h2)) (RepL.dp S.sub _ _ p h3.toL)
      · cases h
    · cases h
  · cases h
/-- == with its answer turned by n -/
def oEqN (n : Bool) : O2 := fun a b M P => match a, b with
  | .d (.int i), .d (.int j) => P (.d (.bl (n ^^ decide (i = j)))) M
  | .d (.str i), .d (.str j) => P (.d (.bl (n ^^ decide (i = j)))) M
  | .d (.bl i), .d (.bl j) => P (.d (.bl (n ^^ decide (i = j)))) M
  | a, b => match datOf M a, datOf M b with
    | some x, some y => (shapedD x = true ∧ shapedD y = true) ∧ P (.d (.bl (n ^^ eqD x y))) M
    | _, _ => False
theorem do_eqN {n : Bool} {op : CmpOp} {f : Value → Value → Sem Value} (hs : OpR X f (fun x y H Q => scal x y = true ∧ Q (.bl (n ^^ decide (x = y))) H)) (hd : OpR X f (fun x y H Q => ∃ d e, Dp X.K H x d ∧ Dp X.K H y e ∧ SeqAt.shaped d = true ∧ SeqAt.shaped e = true ∧ Q (.bl (n ^^ PyData.eqv d e)) H)) : DO X f (oEqN n) where
  run := fun {a b M P} h {u v B L Z H} S r1 r2 {Q} q => by
    unfold oEqN at h
    split at h
    · have e1 := rv_int.mp r1
      have e2 := rv_int.mp r2
      subst e1
      subst e2
      refine opS hs ⟨rfl, ?_⟩
      refine q.here S h (rv_bl.mpr ?_)
      simp
    · have e1 := rv_str.mp r1
      have e2 := rv_str.mp r2
      subst e1
      subst e2
      refine opS hs ⟨rfl, ?_⟩
      refine q.here S h (rv_bl.mpr ?_)
      simp
    · have e1 := rv_bl.mp r1
      have e2 := rv_bl.mp r2
      subst e1
      subst e2
      refine opS hs ⟨rfl, ?_⟩
      refine q.here S h (rv_bl.mpr ?_)
      simp
    · split at h
      · rename_i x y hx hy
        obtain ⟨⟨h1, h2⟩, hp⟩ := h
        unfold shapedD at h1 h2
        rw [Bool.and_eq_true] at h1 h2
        exact opS hd ⟨_, _, S.dp r1 hx h1.1, S.dp r2 hy h2.1, h1.2, h2.2, q.here S hp (rv_bl.mpr rfl)⟩
      · exact h.elim
theorem do_eq (hu : X.A.units + 64 < cLine) : DO X (compareOp .Eq) (oEqN false) :=
  do_eqN (op := .Eq) (fun pins s σ H x y v u Q I rx ry h => op_eq pins s σ H x y v u Q I rx ry ⟨h.1, by simpa using h.2⟩) (fun pins s σ H x y v u Q I rx ry h => by
    obtain ⟨d, e, a1, a2, a3, a4, a5⟩ := h
    exact op_eqD hu pins s σ H x y v u Q I rx ry ⟨d, e, a1, a2, a3, a4, by simpa using a5⟩)
theorem do_ne (hu : X.A.units + 64 < cLine) : DO X (compareOp .NotEq) (oEqN true) :=
  do_eqN (op := .NotEq) (fun pins s σ H x y v u Q I rx ry h => op_ne pins s σ H x y v u Q I rx ry ⟨h.1, by simpa using h.2⟩) (fun pins s σ H x y v u Q I rx ry h => by
    obtain ⟨d, e, a1, a2, a3, a4, a5⟩ := h
    exact op_neD hu pins s σ H x y v u Q I rx ry ⟨d, e, a1, a2, a3, a4, by simpa using a5⟩)
/-! is None -/
def isNonD : DV → Bool
  | .d .non => true
  | _ => false
theorem isNon_rep {K : PySem.W.Frag} {B : Hp} {L : List Addr} {d : DV} {v : V} (r : RepV K B L d v) : decide (v = .non) = isNonD d := by
  cases d with
  | m i =>
    obtain ⟨a, rfl, _⟩ := r
    rfl
  | pr x k =>
    obtain ⟨a, u, b, rfl, _⟩ := r
    rfl
  | d x =>
    cases x <;> unfold RepV Rep at r
    all_goals first
      | (subst r; rfl)
      | (obtain ⟨a, vs, rfl, _⟩ := r; rfl)
      | (obtain ⟨a, dx, gs, rfl, _⟩ := r; rfl)
      | (obtain ⟨e, _⟩ := r; rw [e]; rfl)
def oIs (n : Bool) : O2 := fun a b M P => match b with
  | .d .non => P (.d (.bl (n ^^ isNonD a))) M
  | _ => False
theorem do_is : DO X (compareOp .Is) (oIs false) where
  run := fun {a b M P} h {u v B L Z H} S r1 r2 {Q} q => by
    unfold oIs at h
    split at h
    · refine opS op_isN ⟨rv_non.mp r2, ?_⟩
      rw [isNon_rep r1]
      exact q.here S h (rv_bl.mpr (by simp))
    · exact h.elim
theorem do_isNot : DO X (compareOp .IsNot) (oIs true) where
  run := fun {a b M P} h {u v B L Z H} S r1 r2 {Q} q => by
    unfold oIs at h
    split at h
    · refine opS op_notN ⟨rv_non.mp r2, ?_⟩
      rw [isNon_rep r1]
      exact q.here S h (rv_bl.mpr (by simp))
    · exact h.elim
/-! in -/
def flatD : D → Bool
  | .non | .bl _ | .int _ | .str _ => true
  | _ => false
def eqF : D → D → Bool
  | .non, .non => true
  | .bl a, .bl b => a == b
  | .bl a, .int b => (if a then 1 else 0) == b
  | .int a, .bl b => a == (if b then 1 else 0)
  | .int a, .int b => a == b
  | .str a, .str b => a == b
  | _, _ => false
theorem flat_v {K : PySem.W.Frag} {B : Hp} {d : D} {v : V} (r : Rep K B d v) (f : flatD d = true) : flatV v = true := by
  cases d <;> simp [flatD] at f <;> (unfold Rep at r; subst r; rfl)
theorem eqF_v {K : PySem.W.Frag} {B : Hp} {d e : D} {v u : V} (r : Rep K B d v) (q : Rep K B e u) (f : flatD d = true) (g : flatD e = true) : eqV v u = eqF d e := by
  cases d <;> simp [flatD] at f <;> (unfold Rep at r; subst r) <;> cases e <;> simp [flatD] at g <;> (unfold Rep at q; subst q; rfl)
def inF (x : D) (xs : List D) : Bool := xs.any fun y => eqF y x
theorem flat_vs {K : PySem.W.Frag} {B : Hp} : ∀ {xs : List D} {vs : List V}, RepL K B xs vs → xs.all flatD = true → vs.all flatV = true
  | [], [], _, _ => rfl
  | x :: xs, v :: vs, h, f => by
    unfold RepL at h
    rw [List.all_cons, Bool.and_eq_true] at f ⊢
    exact ⟨flat_v h.1 f.1, flat_vs h.2 f.2⟩
  | [], _ :: _, h, _ => by unfold RepL at h; exact h.elim
  | _ :: _, [], h, _ => by unfold RepL at h; exact h.elim
theorem inF_v {K : PySem.W.Frag} {B : Hp} {x : D} {v : V} (r : Rep K B x v) (f : flatD x = true) : ∀ {xs : List D} {vs : List V}, RepL K B xs vs → xs.all flatD = true → inV v vs = inF x xs
  | [], [], _, _ => rfl
  | y :: xs, u :: vs, h, g => by
    unfold RepL at h
    rw [List.all_cons, Bool.and_eq_true] at g
    unfold inV inF
    rw [List.any_cons, List.any_cons, eqF_v h.1 r g.1 f]
    have := inF_v r f h.2 g.2
    unfold inV inF at this
    rw [this]
  | [], _ :: _, h, _ => by unfold RepL at h; exact h.elim
  | _ :: _, [], h, _ => by unfold RepL at h; exact h.elim
def lookD (kvs : List (Key × D)) (k : Key) : Option D := (kvs.find? fun kv => decide (kv.1 = k)).map (·.2)
def keyD : DV → Option Key
  | .d (.int i) => some (.inl i)
  | .d (.str s) => some (.inr s)
  | _ => none
def keysFlat : DV → Bool
  | .d x => flatD x
  | _ => false
def oIn (n : Bool) : O2 := fun a b M P => match b with
  | .d (.dic kvs) => (match keyD a with
    | some k => P (.d (.bl (n ^^ (lookD kvs k).isSome))) M
    | none => False)
  | b => match a, seqOf M b with
    | .d x, some ys => (match allD ys with
      | some zs => (flatD x = true ∧ zs.all flatD = true) ∧ P (.d (.bl (n ^^ inF x zs))) M
      | none => False)
    | _, _ => False
theorem RepK.val {K : PySem.W.Frag} {B : Hp} (k : Key) : ∀ {kvs : List (Key × D)} {ws : List (Key × V)}, RepK K B kvs ws → (lookD kvs k = none ∧ valV ws k = none) ∨ ∃ d v, lookD kvs k = some d ∧ valV ws k = some v ∧ Rep K B d v
  | [], [], _ => .inl ⟨rfl, rfl⟩
  | (a, x) :: kvs, (b, v) :: ws, h => by
    unfold RepK at h
    obtain ⟨rfl, h1, h2⟩ := h
    by_cases e : a = k
    · right
      refine ⟨x, v, ?_, ?_, h1⟩
      · unfold lookD
        rw [List.find?_cons, decide_eq_true e]
        rfl
      · exact valV_pos (p := (a, v)) e
    · have h3 : lookD ((a, x) :: kvs) k = lookD kvs k := by
        unfold lookD
        rw [List.find?_cons, decide_eq_false e]
      have h4 : valV ((a, v) :: ws) k = valV ws k := valV_neg (p := (a, v)) e
      rw [h3, h4]
      exact RepK.val k h2
  | [], _ :: _, h => by unfold RepK at h; exact h.elim
  | (_, _) :: _, [], h => by unfold RepK at h; exact h.elim
theorem keyD_v {K : PySem.W.Frag} {B : Hp} {L : List Addr} {d : DV} {v : V} {k : Key} (r : RepV K B L d v) (h : keyD d = some k) : v = kV k := by
  unfold keyD at h
  split at h
  · cases h
    exact rv_int.mp r
  · cases h
    exact rv_str.mp r
  · cases h
theorem do_inN {n : Bool} {f : Value → Value → Sem Value} (h1 : OpR X f (fun x y H Q => ∃ p xs, y = .ref p ∧ (SqL X.K H p xs ∨ SqT X.K H p xs) ∧ flatV x = true ∧ xs.all flatV = true ∧ Q (.bl (n ^^ inV x xs)) H))
    (h2 : OpR X f (fun y x H Q => ∃ a o, x = .ref a ∧ DGet H a y o ∧ Q (.bl (n ^^ o.isSome)) H)) : DO X f (oIn n) where
  run := fun {a b M P} h {u v B L Z H} S r1 r2 {Q} q => by
    unfold oIn at h
    split at h
    · rename_i kvs
      split at h
      · rename_i k hk
        unfold RepV Rep at r2
        obtain ⟨p, ws, rfl, e1, e2⟩ := r2
        refine opS h2 ⟨p, valV ws k, rfl, .inl ⟨ws, k, S.sub.rdK e1, keyD_v r1 hk, rfl⟩, ?_⟩
        have : (valV ws k).isSome = (lookD kvs k).isSome := by
          rcases e2.val k with ⟨h3, h4⟩ | ⟨d, w, h3, h4, _⟩ <;> rw [h3, h4] <;> rfl
        rw [this]
        exact q.here S h (rv_bl.mpr rfl)
      · exact h.elim
    · split at h
      · rename_i x ys hs
        split at h
        · rename_i zs hz
          have := allD_eq hz
          subst this
          obtain ⟨p, vs, rfl, g1, g2⟩ := S.seq r2 hs
          obtain ⟨⟨f1, f2⟩, hp⟩ := h
          refine opS h1 ⟨p, vs, rfl, g1.symm, flat_v r1 f1, flat_vs g2.toL f2, ?_⟩
          rw [inF_v r1 f1 g2.toL f2]
          exact q.here S hp (rv_bl.mpr rfl)
        · exact h.elim
      · exact h.elim
theorem do_in (hu : X.A.units + 64 < cLine) : DO X (compareOp .In) (oIn false) :=
  do_inN (fun pins s σ H x y v u Q I rx ry h => by
    obtain ⟨p, xs, a1, a2, a3, a4, a5⟩ := h
    exact op_in_seq pins s σ H x y v u Q I rx ry ⟨p, xs, a1, a2, a3, a4, by simpa using a5⟩) (fun pins s σ H x y v u Q I rx ry h => by
    obtain ⟨a, o, rfl, g, h⟩ := h
    obtain rfl : u = Value.ref a := ry
    exact d_in (by omega) I g rx fun s' I' => ⟨.bl o.isSome, H, I', rfl, by simpa using h⟩)
theorem do_notIn (hu : X.A.units + 64 < cLine) : DO X (compareOp .NotIn) (oIn true) :=
  do_inN (fun pins s σ H x y v u Q I rx ry h => by
    obtain ⟨p, xs, a1, a2, a3, a4, a5⟩ := h
    exact op_notIn_seq pins s σ H x y v u Q I rx ry ⟨p, xs, a1, a2, a3, a4, by simpa using a5⟩) (fun pins s σ H x y v u Q I rx ry h => by
    obtain ⟨a, o, rfl, g, h⟩ := h
    obtain rfl : u = Value.ref a := ry
    exact d_notIn (by omega) I g rx fun s' I' => ⟨.bl (!o.isSome), H, I', rfl, by simpa using h⟩)
end
end DL

namespace DL
open PySem PySem.Spec PyProof.Rows L2
variable [Csts]
/-! ### subscripts -/
section
variable {X : Cx} {a b e o : Expr} {fa fb fe fo : ET} {pos : Pos}
/-- a dict's item, as a subscript rule -/
theorem ix_dict (hu : X.A.units + 1 < cLine) : IxR X (fun x y H Q => ∃ d v, x = .ref d ∧ DGet H d y (some v) ∧ Q v H) := by
  intro value slice pins s σ H x y v u Q I rx ry h hs
  obtain ⟨d, z, rfl, g, q⟩ := h
  cases rx
  exact tail_any (dict_typeIs I g) PySem.F.slot_dict_getitem.lookup (d_getItem hu I g ry fun w s' I' r => ⟨z, H, I', r, q⟩) hs
def sIx (X : Cx) (x y : V) (H : Hp) (Q : VK) : Prop := ∀ (value slice : Expr) pins s σ v u, Inv X pins σ H s → RelV x v → RelV y u → subscripted slice false v u = operate [v, u] (getItem v u) → wpAny (model X.prog X.w) X.A (subscriptTail value slice v u) (EP X pins σ Q) X.xe s
theorem ix_s : IxR X (sIx X) := fun value slice pins s σ _ _ _ v u _ I rx ry h hs => h value slice pins s σ v u I rx ry hs
theorem ixS {r : R2} (h : IxR X r) {x y : V} {H : Hp} {Q : VK} (q : r x y H Q) : sIx X x y H Q := fun value slice pins s σ v u I rx ry hs => h value slice pins s σ H x y v u Q I rx ry q hs
/-- a constant dict of the written part: its pairs, by text keys -/
structure KTab (K : PySem.W.Frag) (w : World) (a : Addr) (kvs : List (Str × D)) : Prop where
  at_ : ∀ k d, (k, d) ∈ kvs → ∃ v, KDct K w a k v ∧ ∀ B, Rep K B d v
def oIx : O2 := fun a b M P => match a, b with
  | .d (.dic kvs), k => (match keyD k with
    | some k => (match lookD kvs k with
      | some d => P (.d d) M
      | none => False)
    | none => False)
  | .d (.str s), .d (.int i) => s.length ≤ 100000 ∧ ∃ c, atI s.cps.toList i = some c ∧ P (.d (.str ⟨#[c]⟩)) M
  | a, .d (.int i) => (match seqOf M a with
    | some xs => (match atI xs i with
      | some y => P y M
      | none => False)
    | none => False)
  | .m n, .d (.str s) => (match M[n]? with
    | some (.dic kvs) => (match lookD kvs (.inr s) with
      | some d => P (.d d) M
      | none => False)
    | _ => False)
  | _, _ => False
theorem RepVs.atI {K : PySem.W.Frag} {B : Hp} {L : List Addr} {xs : List DV} {vs : List V} (h : RepVs K B L xs vs) {i : Int} {y : DV} (e : L2.atI xs i = some y) : ∃ v, L2.atI vs i = some v ∧ RepV K B L y v := by
  unfold L2.atI at e ⊢
  rw [← h.len]
  cases q : ixN xs.length i with
  | none =>
    rw [q] at e
    cases e
  | some j =>
    rw [q] at e
    exact h.get e
theorem ix_of {B : Hp} {L : List Addr} {Z : Zs} {M : Mem} {H : Hp} {P : Post} {Q : VK} {d : DV} {i : Int} {u : V} {xs : List DV} {y : DV} (S : StM X.K B L Z M H) (r : RepV X.K B L d u) (hx : seqOf M d = some xs) (hy : L2.atI xs i = some y) (h : P y M) (q : POk X B L Z P Q) : sIx X u (.int i) H Q := by
  obtain ⟨p, vs, rfl, g1, g2⟩ := S.seq r hx
  obtain ⟨v, h1, h2⟩ := g2.atI hy
  refine ixS ix_seq ?_
  rcases g1 with g1 | g1
  · exact .inr (.inl ⟨p, vs, i, v, rfl, rfl, g1, h1, q.here S h h2⟩)
  · exact .inl ⟨p, vs, i, v, rfl, rfl, g1, h1, q.here S h h2⟩
theorem ix_run (hu : X.A.units + 1 < cLine) {d k : DV} {M : Mem} {P : Post} (h : oIx d k M P) {u v : V} {B : Hp} {L : List Addr} {Z : Zs} {H : Hp} (S : StM X.K B L Z M H) (r1 : RepV X.K B L d u) (r2 : RepV X.K B L k v) {Q : VK} (q : POk X B L Z P Q) : sIx X u v H Q := by
  unfold oIx at h
  split at h
  · rename_i kvs k
    split at h
    · rename_i k' hk
      split at h
      · rename_i x hx
        unfold RepV Rep at r1
        obtain ⟨p, ws, rfl, g1, g2⟩ := r1
        rcases g2.val k' with ⟨h3, h4⟩ | ⟨d, w, h3, h4, h5⟩
        · rw [h3] at hx
          cases hx
        · rw [h3] at hx
          cases hx
          exact ixS (ix_dict hu) ⟨p, w, rfl, .inl ⟨ws, k', S.sub.rdK g1, keyD_v r2 hk, h4.symm⟩, q.here S h h5⟩
      · exact h.elim
    · exact h.elim
  · obtain ⟨h1, c, h2, h3⟩ := h
    have e1 := rv_str.mp r1
    have e2 := rv_int.mp r2
    subst e1
    subst e2
    exact ixS ix_str ⟨_, _, c, rfl, rfl, size100 h1, h2, q.here S h3 (rv_str.mpr rfl)⟩
  · split at h
    · rename_i xs hx
      split at h
      · rename_i y hy
        have e2 := rv_int.mp r2
        subst e2
        exact ix_of S r1 hx hy h q
      · exact h.elim
    · exact h.elim
  · split at h
    · rename_i n s _ kvs hk
      split at h
      · rename_i x hx
        have e2 := rv_str.mp r2
        subst e2
        obtain ⟨a, rfl, h2⟩ := r1
        obtain ⟨a', h3, c⟩ := S.at_ hk
        have : a' = a := Option.some.inj (h3.symm.trans h2)
        subst this
        obtain ⟨ws, g1, g2⟩ := c
        rcases g2.val (.inr s) with ⟨h3, h4⟩ | ⟨d, w, h3, h4, h5⟩
        · rw [h3] at hx
          cases hx
        · rw [h3] at hx
          cases hx
          exact ixS (ix_dict hu) ⟨a', w, rfl, .inl ⟨ws, .inr s, .inl g1, rfl, h4.symm⟩, q.here S h h5⟩
      · exact h.elim
    · exact h.elim
  · exact h.elim
def tIx (fa fb : ET) : ET := tBin oIx fa fb
theorem de_ix (hu : X.A.units + 64 < cLine) (ha : DE X a fa) (hb : DE X b fb) (hs : PlainIx b := by exact fun _ _ => rfl) : DE X (.Subscript a b pos) (tBin oIx fa fb) where
  run := fun {ρ M P x} h {σ H B L Z} S E x1 {Q} q => by
    refine PE.s (pe_ix ix_s pe_s pe_s hs) ?_
    refine ha.run h S E x1 fun d M1 v B1 L1 H1 h1 e1 S1 r1 => ?_
    refine hb.run h1 S1 (E.mono e1) (x1.mono e1) fun d2 M2 v2 B2 L2 H2 h2 e2 S2 r2 => ?_
    exact ix_run (by omega) h2 S2 (r1.mono e2) r2 (q.mono (e1.trans e2))
/-- an item of a constant dict -/
def tKd (kvs : List (Str × D)) (fb : ET) : ET := fun ρ M P x => fb ρ M (fun d M1 => match d with
  | .d (.str s) => ∃ z, (s, z) ∈ kvs ∧ P (.d z) M1
  | _ => False) x
theorem de_kd {x : Str} {p : Pos} {ad : Addr} {kvs : List (Str × D)} (T : KTab X.K X.w ad kvs) (hg : Gl X x) (hm : X.mg x = some (.ref ad)) (hb : DE X b fb) (hs : PlainIx b := by exact fun _ _ => rfl) (hd : (x == ("__debug__" : Str)) = false := by decide) : DE X (.Subscript (.Name x p) b pos) (tKd kvs fb) where
  run := fun {ρ M P x} h {σ H B L Z} S E x1 {Q} q => by
    refine PE.s (pe_ix (X := X) ix_s (pe_glob (v := .ref ad) hg hm rfl hd) pe_s hs) ?_
    refine hb.run h S E x1 fun d M1 v B1 L1 H1 h1 e1 S1 r1 => ?_
    dsimp only at h1
    split at h1
    · rename_i s
      obtain ⟨z, hz, hp⟩ := h1
      obtain ⟨v', k1, k2⟩ := T.at_ _ _ hz
      exact ixS ix_kdict ⟨ad, s, v', rfl, rv_str.mp r1, k1, (q.mono e1).here S1 hp (k2 B1)⟩
    · exact h1.elim
/-! ### slices -/
def partOf (d : Option DV) (P : Option Int → Prop) : Prop := match d with
  | none => P none
  | some (.d (.int i)) => P (some i)
  | _ => False
abbrev OT := Rh → Mem → (Option Int → Mem → Prop) → XPost → Prop
def sPO (X : Cx) (e : Option Expr) : L2.TO := fun σ H Q => ∀ pins s, Inv X pins σ H s → wpAny (model X.prog X.w) X.A (evalPart e X.env) (fun u s' => ∃ o H', Inv X pins σ H' s' ∧ IsPart u o ∧ Q o H') X.xe s
theorem po_s {e : Option Expr} : PO X e (sPO X e) := ⟨fun pins s _ _ _ I h => h pins s I⟩
structure DP (X : Cx) (e : Option Expr) (f : OT) : Prop where
  run : ∀ {ρ M P x}, f ρ M P x → ∀ {σ H B L Z}, StM X.K B L Z M H → EnvR X.K B L σ ρ → XOk X B L Z σ x → ∀ {Q : Option Int → Hp → Prop},
    (∀ o M' B' L' H', P o M' → Ext B L B' L' → StM X.K B' L' Z M' H' → Q o H') → sPO X e σ H Q
def tNoP : OT := fun _ M P _ => P none M
def tP (fe : ET) : OT := fun ρ M P x => fe ρ M (fun d M1 => match d with
  | .d (.int i) => P (some i) M1
  | _ => False) x
theorem dp_none : DP X none tNoP where
  run := fun {ρ M P x} h {σ H B L Z} S E x1 {Q} q pins s I => po_none.run pins s σ H Q I (q _ _ _ _ _ h (Ext.refl _ _) S)
theorem dp_some (he : DE X e fe) : DP X (some e) (tP fe) where
  run := fun {ρ M P x} h {σ H B L Z} S E x1 {Q} q pins s I => by
    refine (po_some pe_s).run pins s σ H Q I ?_
    refine he.run h S E x1 fun d M1 v B1 L1 H1 h1 e1 S1 r1 => ?_
    dsimp only at h1
    split at h1
    · exact ⟨_, rv_int.mp r1, q _ _ _ _ _ h1 e1 S1⟩
    · exact h1.elim
/-- the items of a slice -/
def cutD (xs : List D) (lo hi : Option Int) : List D := (xs.drop (HT.sIx xs.length 0 lo)).take (HT.sIx xs.length xs.length hi - HT.sIx xs.length 0 lo)
def oSl (a : DV) (lo hi : Option Int) (M : Mem) (P : Post) : Prop := match a with
  | .d (.tup xs) => P (.d (.tup (cutD xs lo hi))) M
  | .d (.lst xs) => P (.d (.lst (cutD xs lo hi))) M
  | .d (.frl xs) => P (.d (.lst (cutD xs lo hi))) M
  | .m k => (match M[k]? with
    | some (.lst xs) => (match allD xs with
      | some zs => P (.d (.lst (cutD zs lo hi))) M
      | none => False)
    | _ => False)
  | _ => False
def sSl (X : Cx) (x : V) (lo hi : Option Int) (H : Hp) (Q : VK) : Prop := ∀ pins s σ v vl vu sl, Inv X pins σ H s → RelV x v → s.heap.IsSliceOf sl vl vu .none → IsPart vl lo → IsPart vu hi →
  ∃ T id, typeLookup (.type T) "__getitem__" = pure (some (.builtin id)) ∧ s.TypeIs v T ∧ wpAny (model X.prog X.w) X.A (getItem v (.ref sl)) (EP X pins σ Q) X.xe s
theorem sl_s : L2.SlR X (sSl X) := fun pins s σ _ _ v vl vu _ _ sl _ I rx hs pl pu h => h pins s σ v vl vu sl I rx hs pl pu
theorem slS {r : V → Option Int → Option Int → Hp → VK → Prop} (h : L2.SlR X r) {x : V} {lo hi : Option Int} {H : Hp} {Q : VK} (q : r x lo hi H Q) : sSl X x lo hi H Q := fun pins s σ v vl vu sl I rx hs pl pu => h pins s σ H x v vl vu lo hi sl Q I rx hs pl pu q
theorem RepL.take {K : PySem.W.Frag} {B : Hp} {xs : List D} {vs : List V} (h : RepL K B xs vs) (n : Nat) : RepL K B (xs.take n) (vs.take n) := by
  have := (RepL.vs (L := []) h).take n
  rw [← List.map_take] at this
  exact this.toL
theorem RepL.drop {K : PySem.W.Frag} {B : Hp} {xs : List D} {vs : List V} (h : RepL K B xs vs) (n : Nat) : RepL K B (xs.drop n) (vs.drop n) := by
  have := (RepL.vs (L := []) h).drop n
  rw [← List.map_drop] at this
  exact this.toL
theorem RepL.cut {K : PySem.W.Frag} {B : Hp} {xs : List D} {vs : List V} (h : RepL K B xs vs) (lo hi : Option Int) : RepL K B (cutD xs lo hi) (cutV vs lo hi) := by
  unfold cutD cutV
  rw [← h.len]
  exact (h.drop _).take _
def tSl (fe : ET) (fl fh : OT) : ET := fun ρ M P x => fe ρ M (fun d M1 => fl ρ M1 (fun lo M2 => fh ρ M2 (fun hi M3 => oSl d lo hi M3 P) x) x) x
theorem sl_list_of {B : Hp} {L : List Addr} {Z : Zs} {M : Mem} {H : Hp} {P : Post} {Q : VK} {p : Addr} {vs : List V} {xs : List D} {lo hi : Option Int} (S : StM X.K B L Z M H) (g : SqL X.K H p vs) (r : RepL X.K B xs vs) (h : P (.d (.lst (cutD xs lo hi))) M) (q : POk X B L Z P Q) : sSl X (.ref p) lo hi H Q :=
  slS sl_list ⟨p, vs, rfl, g, fun z hz => new_lst S (r.cut lo hi) h q hz⟩
theorem cut_whole {xs : List D} {vs : List V} {K : PySem.W.Frag} {B : Hp} (r : RepL K B xs vs) {lo hi : Option Int} (h : HT.sIx vs.length 0 lo = 0 ∧ HT.sIx vs.length vs.length hi = vs.length) : cutD xs lo hi = xs := by
  unfold cutD
  rw [r.len, h.1, h.2]
  simp only [List.drop_zero, Nat.sub_zero]
  rw [← r.len]
  exact List.take_length
theorem de_sl {lo hi : Option Expr} {fl fh : OT} {p2 : Pos} (he : DE X e fe) (hl : DP X lo fl) (hh : DP X hi fh) : DE X (.Subscript e (.Slice lo hi none p2) pos) (tSl fe fl fh) where
  run := fun {ρ M P x} h {σ H B L Z} S E x1 {Q} q => by
    refine PE.s (pe_slice sl_s pe_s po_s po_s) ?_
    refine he.run h S E x1 fun d M1 v B1 L1 H1 h1 e1 S1 r1 => ?_
    refine hl.run h1 S1 (E.mono e1) (x1.mono e1) fun lo' M2 B2 L2 H2 h2 e2 S2 => ?_
    refine hh.run h2 S2 (E.mono (e1.trans e2)) (x1.mono (e1.trans e2)) fun hi' M3 B3 L3 H3 h3 e3 S3 => ?_
    have r3 := r1.mono (e2.trans e3)
    have q3 := q.mono ((e1.trans e2).trans e3)
    unfold oSl at h3
    split at h3
    · rename_i xs
      have r4 := r3
      unfold RepV Rep at r3
      obtain ⟨p, vs, rfl, g1, g2⟩ := r3
      refine slS sl_tupA ⟨p, vs, rfl, S3.sub.t g1, fun hw => ?_, fun _ z hz => new_tup S3 (g2.cut lo' hi') h3 q3 hz⟩
      rw [cut_whole g2 hw] at h3
      exact q3.here S3 h3 r4
    · unfold RepV Rep at r3
      obtain ⟨p, vs, rfl, g1, g2⟩ := r3
      exact sl_list_of S3 (S3.sub.l (.inl (.inl g1))) g2 h3 q3
    · unfold RepV Rep at r3
      obtain ⟨p, vs, rfl, g1, g2⟩ := r3
      exact sl_list_of S3 (S3.sub.l g1) g2 h3 q3
    · split at h3
      · rename_i k xs hk
        split at h3
        · rename_i zs hz
          have := allD_eq hz
          subst this
          obtain ⟨p, vs, rfl, g1, g2⟩ := S3.lst r3 hk
          exact sl_list_of S3 (.inl (.inl g1)) g2.toL h3 q3
        · exact h3.elim
      · exact h3.elim
    · exact h3.elim
/-! ### o[i] = v -/
def gSub (fo fi : ET) : GT := fun v ρ M N => fo ρ M (fun o M1 => fi ρ M1 (fun i M2 => match o, i with
  | .m k, .d (.int i) => (match M2[k]? with
    | some (.lst xs) => (match ixN xs.length i with
      | some j => N ρ (M2.set k (.lst (xs.set j v)))
      | none => False)
    | _ => False)
  | _, _ => False) (fun _ _ _ => False)) (fun _ _ _ => False)
theorem StM.putL {K : PySem.W.Frag} {B : Hp} {L : List Addr} {Z : Zs} {M : Mem} {H : Hp} (S : StM K B L Z M H) {k : Nat} {a : Addr} {xs : List DV} {vs : List V} (hk : L[k]? = some a) {ys : List DV} (h0 : M[k]? = some (.lst ys)) (r : RepVs K B L xs vs) : StM K B L Z (M.set k (.lst xs)) (upd H a (.lst vs)) :=
  S.put hk h0 rfl ⟨vs, upd_same, r⟩
theorem dg_sub {i : Expr} {fi : ET} (ho : DE X o fo) (hi : DE X i fi) (hn : ∃ W, Takes X W := by first | exact ⟨_, takes_of rfl rfl rfl rfl⟩ | exact ⟨_, by assumption⟩ | exact ⟨_, takes0⟩) (ha : ∀ v, assign (.Subscript o i pos) X.env v = (do
      let ov ← holding [v] (eval o X.env)
      let iv ← holding [v, ov] (eval i X.env)
      standAt pos
      holding [v, ov, iv] (setItem ov iv v)
      release [v, ov, iv] []) := by intro _; rfl) : DG X (.Subscript o i pos) (gSub fo fi) where
  run := fun {x ρ M N} h {v σ H B L Z} S V r {N'} l => by
    obtain ⟨W, tk⟩ := hn
    have nx : ∀ {B L}, XOk X B L Z σ (fun _ _ _ => False) := ⟨W, tk, fun _ _ _ _ _ _ _ h => h.elim⟩
    refine PG.s (pg_sub pe_s pe_s set_list ha) ?_
    refine ho.run h S V nx fun d M1 v1 B1 L1 H1 h1 e1 S1 r1 => ?_
    refine hi.run h1 S1 (V.mono e1) nx fun d2 M2 v2 B2 L2 H2 h2 e2 S2 r2 => ?_
    dsimp only at h2
    split at h2
    · rename_i k i
      split at h2
      · rename_i xs hk
        split at h2
        · rename_i j hj
          have e := rv_int.mp r2
          subst e
          obtain ⟨a, rfl, h3⟩ := r1.mono e2
          obtain ⟨a', h4, c⟩ := S2.at_ hk
          have : a' = a := Option.some.inj (h4.symm.trans h3)
          subst this
          obtain ⟨vs, g1, g2⟩ := c
          refine ⟨a', vs, i, j, rfl, rfl, g1, by rw [← g2.len]; exact hj, ?_⟩
          have e12 := e1.trans e2
          exact l _ _ _ _ _ _ h2 e12 (S2.putL h4 hk (g2.set (r.mono e12) j)) (V.mono e12)
        · exact h2.elim
      · exact h2.elim
    · exact h2.elim
/-! ### dicts -/
def putD (kvs : List (Key × D)) (k : Key) (v : D) : List (Key × D) :=
  if (kvs.any fun kv => decide (kv.1 = k)) = true then kvs.map (fun kv => if kv.1 = k then (kv.1, v) else kv) else kvs ++ [(k, v)]
theorem RepK.any {K : PySem.W.Frag} {B : Hp} (k : Key) : ∀ {kvs : List (Key × D)} {ws : List (Key × V)}, RepK K B kvs ws → (kvs.any fun kv => decide (kv.1 = k)) = (ws.any fun kv => decide (kv.1 = k))
  | [], [], _ => rfl
  | (a, x) :: kvs, (b, v) :: ws, h => by
    unfold RepK at h
    rw [List.any_cons, List.any_cons, RepK.any k h.2.2, h.1]
  | [], _ :: _, h => by unfold RepK at h; exact h.elim
  | (_, _) :: _, [], h => by unfold RepK at h; exact h.elim
theorem RepK.repl {K : PySem.W.Frag} {B : Hp} (k : Key) {d : D} {u : V} (r : Rep K B d u) : ∀ {kvs : List (Key × D)} {ws : List (Key × V)}, RepK K B kvs ws → RepK K B (kvs.map fun kv => if kv.1 = k then (kv.1, d) else kv) (ws.map fun kv => if kv.1 = k then (kv.1, u) else kv)
  | [], [], _ => by simp only [List.map_nil]; unfold RepK; trivial
  | (a, x) :: kvs, (b, v) :: ws, h => by
    unfold RepK at h
    obtain ⟨rfl, h1, h2⟩ := h
    simp only [List.map_cons]
    by_cases e : a = k
    · rw [if_pos e, if_pos e]
      unfold RepK
      exact ⟨rfl, r, RepK.repl k r h2⟩
    · rw [if_neg e, if_neg e]
      unfold RepK
      exact ⟨rfl, h1, RepK.repl k r h2⟩
  | [], _ :: _, h => by unfold RepK at h; exact h.elim
  | (_, _) :: _, [], h => by unfold RepK at h; exact h.elim
theorem RepK.snoc {K : PySem.W.Frag} {B : Hp} (k : Key) {d : D} {u : V} (r : Rep K B d u) : ∀ {kvs : List (Key × D)} {ws : List (Key × V)}, RepK K B kvs ws → RepK K B (kvs ++ [(k, d)]) (ws ++ [(k, u)])
  | [], [], _ => by simp only [List.nil_append]; unfold RepK; exact ⟨rfl, r, by unfold RepK; trivial⟩
  | (a, x) :: kvs, (b, v) :: ws, h => by
    unfold RepK at h
    simp only [List.cons_append]
    unfold RepK
    exact ⟨h.1, h.2.1, RepK.snoc k r h.2.2⟩
  | [], _ :: _, h => by unfold RepK at h; exact h.elim
  | (_, _) :: _, [], h => by unfold RepK at h; exact h.elim
theorem RepK.put {K : PySem.W.Frag} {B : Hp} (k : Key) {d : D} {u : V} (r : Rep K B d u) {kvs : List (Key × D)} {ws : List (Key × V)} (h : RepK K B kvs ws) : RepK K B (putD kvs k d) (putK ws k u) := by
  unfold putD putK
  rw [h.any k]
  split
  · exact h.repl k r
  · exact h.snoc k r
theorem RepK.len {K : PySem.W.Frag} {B : Hp} : ∀ {kvs : List (Key × D)} {ws : List (Key × V)}, RepK K B kvs ws → kvs.length = ws.length
  | [], [], _ => rfl
  | (_, _) :: _, (_, _) :: _, h => by
    unfold RepK at h
    simp [RepK.len h.2.2]
  | [], _ :: _, h => by unfold RepK at h; exact h.elim
  | (_, _) :: _, [], h => by unfold RepK at h; exact h.elim
/-- d[k] = v -/
def sDput (fo fi fv : ET) : ST := fun E ρ M => fv ρ M (fun v M1 => fo ρ M1 (fun o M2 => fi ρ M2 (fun i M3 => match o, keyD i, v with
  | .m n, some k, .d z => (match M3[n]? with
    | some (.dic kvs) => kvs.length < 100000 ∧ E.nx ρ (M3.set n (.dic (putD kvs k z)))
    | _ => False)
  | _, _, _ => False) (xS E ρ)) (xS E ρ)) (xS E ρ)
theorem ds_dput {i value : Expr} {fi fv : ET} {pos' : Pos} (hu : X.A.units + 64 < cLine) (ho : DE X o fo) (hi : DE X i fi) (hv : DE X value fv) (hs : swapsWith value (some (.Subscript o i pos')) pos.line X.env = pure false := by rfl)
    (hn : NoSl i := by exact fun _ _ => rfl) : DS X (.Assign [.Subscript o i pos'] value pos) (sDput fo fi fv) where
  run := fun {E ρ M} h {σ H B L Z} S V {F} l => by
    refine PS.s (ps_dput (by omega) pe_s pe_s pe_s hs) ?_
    refine hv.run h S V (l.ex.at_ V) fun v M1 vv B1 L1 H1 h1 e1 S1 r1 => ?_
    refine ho.run h1 S1 (V.mono e1) ((l.mono e1).ex.at_ (V.mono e1)) fun d M2 vo B2 L2 H2 h2 e2 S2 r2 => ?_
    refine hi.run h2 S2 (V.mono (e1.trans e2)) ((l.mono (e1.trans e2)).ex.at_ (V.mono (e1.trans e2))) fun d3 M3 vi B3 L3 H3 h3 e3 S3 r3 => ?_
    dsimp only at h3
    split at h3
    · rename_i n k z hk
      split at h3
      · rename_i kvs hn
        obtain ⟨a, rfl, g3⟩ := r2.mono e3
        obtain ⟨a', g4, c⟩ := S3.at_ hn
        have : a' = a := Option.some.inj (g4.symm.trans g3)
        subst this
        obtain ⟨ws, g1, g2⟩ := c
        have e := (e1.trans e2).trans e3
        have rz : Rep X.K B3 z vv := (r1.mono (e2.trans e3) : RepV X.K B3 L3 (.d z) vv)
        refine ⟨a', _, rfl, .inl ⟨ws, k, g1, keyD_v r3 hk, by rw [← g2.len]; exact size_lt h3.1, rfl⟩, ?_⟩
        exact l.nx _ _ _ _ _ _ h3.2 e (S3.put g4 hn rfl ⟨_, upd_same, g2.put k rz⟩) (V.mono e)
      · exact h3.elim
    · exact h3.elim
/-- {} that will change; as data -/
def tDnewM : ET := fun _ M P _ => P (.m M.length) (M ++ [.dic []])
theorem de_dnewM : DE X (.Dict [] [] pos) tDnewM where
  run := fun {ρ M P x} h {σ H B L Z} S E x1 {Q} q => by
    refine PE.s pe_dnewK fun p hp => ?_
    obtain ⟨S2, e2⟩ := S.newM (o := .dK []) (m := .dic []) hp ⟨[], upd_same, by unfold RepK; trivial⟩
    refine q _ _ _ _ _ _ h e2 S2 ⟨p, rfl, ?_⟩
    rw [← S.len]
    simp
def tDnew : ET := fun _ M P _ => P (.d (.dic [])) M
theorem de_dnew : DE X (.Dict [] [] pos) tDnew where
  run := fun {ρ M P x} h {σ H B L Z} S E x1 {Q} q => by
    refine PE.s pe_dnewK fun p hp => ?_
    obtain ⟨S2, e2⟩ := S.newD (o := .dK []) hp
    refine q _ _ _ _ _ _ h e2 S2 ?_
    unfold RepV Rep
    exact ⟨p, [], rfl, .inl upd_same, by unfold RepK; trivial⟩
end
end DL

namespace DL
open PySem PySem.Spec PyProof.Rows L2
variable [Csts]
/-! ### attributes -/
section
variable {X : Cx} {e o value : Expr} {fe fo fv : ET} {f : Str} {pos pos' : Pos}
/-- what a class's layout must have -/
structure ClsOk (K : PySem.W.Frag) (T : ClsT) : Prop where
  cls : Cls K T.C
  nd : T.ns.Nodup
  no : ∀ f ∈ T.ns, NoAttr K T.C f
def fldD (T : ClsT) (j : Nat) (d : DV) (M : Mem) (P : Post) : Prop := match d with
  | .d (.obj T' fs) => T' = T ∧ (match fs[j]? with
    | some y => P (.d y) M
    | none => False)
  | .m k => (match M[k]? with
    | some (.ins T' fs) => T' = T ∧ (match fs[j]? with
      | some y => P y M
      | none => False)
    | _ => False)
  | _ => False
theorem lookup_at : ∀ {gs : List (Str × V)} {j : Nat} {f : Str} {v : V}, (gs.map (·.1))[j]? = some f → (gs.map (·.2))[j]? = some v → (gs.map (·.1)).Nodup → gs.lookup f = some v
  | [], _, _, _, h, _, _ => by simp at h
  | (g, x) :: r, 0, f, v, h1, h2, _ => by
    simp at h1 h2
    subst h1
    subst h2
    simp [List.lookup]
  | (g, x) :: r, j + 1, f, v, h1, h2, nd => by
    simp only [List.map_cons, List.getElem?_cons_succ] at h1 h2
    rw [List.map_cons, List.nodup_cons] at nd
    have hne : ¬ f = g := fun q => nd.1 (q ▸ List.mem_of_getElem? h1)
    have : (f == g) = false := by simpa using hne
    simp only [List.lookup, this]
    exact lookup_at h1 h2 nd.2
theorem take_get {α : Type} {l : List α} {n j : Nat} {f : α} (h : l[j]? = some f) (hj : j < n) : (l.take n)[j]? = some f := by
  rw [List.getElem?_take, if_pos hj]
  exact h
theorem fld_run {T : ClsT} {j : Nat} (c : ClsOk X.K T) (hf : T.ns[j]? = some f) {d : DV} {M : Mem} {P : Post} (h : fldD T j d M P) {v : V} {B : Hp} {L : List Addr} {Z : Zs} {H : Hp} (S : StM X.K B L Z M H) (r : RepV X.K B L d v) {Q : VK} (q : POk X B L Z P Q) :
    ∃ a C dx fs w, v = .ref a ∧ H a = some (.ins C dx fs) ∧ Cls X.K C ∧ NoAttr X.K C f ∧ fs.lookup f = some w ∧ Q w H := by
  have hm : f ∈ T.ns := List.mem_of_getElem? hf
  unfold fldD at h
  split at h
  · obtain ⟨rfl, h⟩ := h
    split at h
    · rename_i y hy
      unfold RepV Rep at r
      obtain ⟨a, dx, gs, rfl, g1, g2, g3⟩ := r
      obtain ⟨w, h1, h2⟩ := (g3.vs (L := L)).get (i := j) (x := .d y) (by rw [List.getElem?_map, hy]; rfl)
      exact ⟨a, _, dx, gs, w, rfl, S.sub.eq g1, c.cls, c.no f hm, lookup_at (j := j) (by rw [g2]; exact hf) h1 (by rw [g2]; exact c.nd), q.here S h h2⟩
    · exact h.elim
  · split at h
    · rename_i k T' fs hk
      obtain ⟨rfl, h⟩ := h
      split at h
      · rename_i y hy
        obtain ⟨a, rfl, h2⟩ := r
        obtain ⟨a', h3, cell⟩ := S.at_ hk
        have : a' = a := Option.some.inj (h3.symm.trans h2)
        subst this
        obtain ⟨dx, gs, g1, g2, g3, g4⟩ := cell
        obtain ⟨w, h4, h5⟩ := g4.get hy
        have hj : j < fs.length := (List.getElem?_eq_some_iff.mp hy).1
        refine ⟨a', _, dx, gs, w, rfl, g1, c.cls, c.no f hm, lookup_at (j := j) (by rw [g2]; exact take_get hf hj) h4 ?_, q.here S h h5⟩
        rw [g2]
        exact c.nd.sublist (List.take_sublist _ _)
      · exact h.elim
    · exact h.elim
  · exact h.elim
def tFld (T : ClsT) (j : Nat) (fe : ET) : ET := fun ρ M P x => fe ρ M (fun d M1 => fldD T j d M1 P) x
theorem de_fld (T : ClsT) (j : Nat) (c : ClsOk X.K T) (he : DE X e fe) (hf : T.ns[j]? = some f := by rfl) (hb : attributeBase e f X.env (eval e X.env) = eval e X.env := by rfl) : DE X (.Attribute e f pos) (tFld T j fe) where
  run := fun {ρ M P x} h {σ H B L Z} S E x1 {Q} q => by
    refine PE.s (pe_fld pe_s hb) ?_
    refine he.run h S E x1 fun d M1 v B1 L1 H1 h1 e1 S1 r1 => ?_
    exact fld_run c hf h1 S1 r1 (q.mono e1)
theorem putF_at (y : V) : ∀ {gs : List (Str × V)} {j : Nat} {f : Str}, (gs.map (·.1))[j]? = some f → (gs.map (·.1)).Nodup → putF f y gs = gs.set j (f, y)
  | [], _, _, h, _ => by simp at h
  | (g, x) :: r, 0, f, h, _ => by
    simp at h
    subst h
    simp [putF]
  | (g, x) :: r, j + 1, f, h, nd => by
    simp only [List.map_cons, List.getElem?_cons_succ] at h
    rw [List.map_cons, List.nodup_cons] at nd
    have hne : ¬ g = f := fun q => nd.1 (q ▸ List.mem_of_getElem? h)
    unfold putF
    rw [if_neg hne, putF_at y h nd.2]
    rfl
theorem putF_new (y : V) : ∀ {gs : List (Str × V)} {f : Str}, f ∉ gs.map (·.1) → putF f y gs = gs ++ [(f, y)]
  | [], _, _ => rfl
  | (g, x) :: r, f, h => by
    simp only [List.map_cons, List.mem_cons, not_or] at h
    unfold putF
    rw [if_neg (fun q : g = f => h.1 q.symm), putF_new y h.2]
    rfl
theorem set_self {α : Type} : ∀ {l : List α} {j : Nat} {x : α}, l[j]? = some x → l.set j x = l
  | [], _, _, h => by simp at h
  | y :: r, 0, x, h => by
    simp at h
    subst h
    rfl
  | y :: r, j + 1, x, h => by
    simp only [List.getElem?_cons_succ] at h
    rw [List.set_cons_succ, set_self h]
/-- the fields behind a store -/
def setF (fs : List DV) (j : Nat) (y : DV) : Option (List DV) := if j < fs.length then some (fs.set j y) else if j = fs.length then some (fs ++ [y]) else none
def sFldD (T : ClsT) (j : Nat) (fo fv : ET) : ST := fun E ρ M => fv ρ M (fun y M1 => fo ρ M1 (fun d M2 => match d with
  | .m k => (match M2[k]? with
    | some (.ins T' fs) => T' = T ∧ (match setF fs j y with
      | some gs => E.nx ρ (M2.set k (.ins T gs))
      | none => False)
    | _ => False)
  | _ => False) (xS E ρ)) (xS E ρ)
theorem RepVs.snoc {K : PySem.W.Frag} {B : Hp} {L : List Addr} {xs : List DV} {vs : List V} {y : DV} {u : V} (h : RepVs K B L xs vs) (r : RepV K B L y u) : RepVs K B L (xs ++ [y]) (vs ++ [u]) := h.app ⟨r, trivial⟩
theorem ds_fld (T : ClsT) (j : Nat) (c : ClsOk X.K T) (ho : DE X o fo) (hv : DE X value fv) (hf : T.ns[j]? = some f := by rfl) (hl : T.ns.length < 900 := by first | decide | exact of_decide_eq_true rfl) (hs : swapsWith value (some (.Attribute o f pos')) pos.line X.env = pure false := by rfl) : DS X (.Assign [.Attribute o f pos'] value pos) (sFldD T j fo fv) where
  run := fun {E ρ M} h {σ H B L Z} S V {F} l => by
    refine PS.s (ps_fld pe_s pe_s hs) ?_
    refine hv.run h S V (l.ex.at_ V) fun y M1 u B1 L1 H1 h1 e1 S1 r1 => ?_
    refine ho.run h1 S1 (V.mono e1) ((l.mono e1).ex.at_ (V.mono e1)) fun d M2 v B2 L2 H2 h2 e2 S2 r2 => ?_
    dsimp only at h2
    split at h2
    · rename_i k
      split at h2
      · rename_i T' fs hk
        obtain ⟨rfl, h2⟩ := h2
        obtain ⟨a, rfl, h3⟩ := r2
        obtain ⟨a', h4, cell⟩ := S2.at_ hk
        have : a' = a := Option.some.inj (h4.symm.trans h3)
        subst this
        obtain ⟨dx, gs, g1, g2, g3, g4⟩ := cell
        have hlen := g4.len
        simp at hlen
        have e := e1.trans e2
        refine ⟨a', _, dx, gs, rfl, g1, c.cls, c.no f (List.mem_of_getElem? hf), by omega, ?_⟩
        split at h2
        · rename_i ys hy
          refine l.nx _ _ _ _ _ _ h2 e (S2.put h4 hk rfl ?_) (V.mono e)
          have ry := r1.mono e2
          unfold setF at hy
          split at hy
          · rename_i hj
            cases hy
            have hg : (gs.map (·.1))[j]? = some f := by rw [g2]; exact take_get hf hj
            have hnd : (gs.map (·.1)).Nodup := by rw [g2]; exact c.nd.sublist (List.take_sublist _ _)
            rw [putF_at u hg hnd]
            refine ⟨dx, _, upd_same, ?_, by simpa using g3, ?_⟩
            · rw [List.map_set, List.length_set, ← g2]
              exact set_self hg
            · rw [List.map_set]
              exact g4.set ry j
          · split at hy
            · rename_i hj hj2
              subst hj2
              cases hy
              have hlt : fs.length < T'.ns.length := (List.getElem?_eq_some_iff.mp hf).1
              have hnew : f ∉ gs.map (·.1) := by
                rw [g2]
                intro hm
                obtain ⟨i, hi⟩ := List.getElem?_of_mem hm
                rw [List.getElem?_take] at hi
                split at hi
                · rename_i hi2
                  have h1 := (List.getElem?_inj (by omega : i < T'.ns.length) c.nd).mp (hi.trans hf.symm)
                  omega
                · cases hi
              rw [putF_new u hnew]
              refine ⟨dx, _, upd_same, ?_, by rw [List.length_append]; exact hlt, ?_⟩
              · rw [List.map_append, g2, List.length_append]
                show _ = List.take (fs.length + 1) T'.ns
                rw [List.take_add_one, hf]
                rfl
              · rw [List.map_append]
                exact g4.snoc ry
            · cases hy
        · exact h2.elim
      · exact h2.elim
    · exact h2.elim

/-! ### methods of the text's classes -/
/-- an object of the class -/
def isObjD (T : ClsT) (d : DV) (M : Mem) : Prop := match d with
  | .d (.obj T' _) => T' = T
  | .m k => (match M[k]? with
    | some (.ins T' _) => T' = T
    | _ => False)
  | _ => False
theorem lookup_out : ∀ {gs : List (Str × V)} {m : Str}, m ∉ gs.map (·.1) → gs.lookup m = none
  | [], _, _ => rfl
  | (g, x) :: r, m, h => by
    simp only [List.map_cons, List.mem_cons, not_or] at h
    have : (m == g) = false := by simpa using h.1
    simp only [List.lookup, this]
    exact lookup_out h.2
theorem isObj_run {T : ClsT} {d : DV} {M : Mem} (h : isObjD T d M) {m : Str} (hm : m ∉ T.ns) {v : V} {B : Hp} {L : List Addr} {Z : Zs} {H : Hp} (S : StM X.K B L Z M H) (r : RepV X.K B L d v) : ∃ a dx fs, v = .ref a ∧ H a = some (.ins T.C dx fs) ∧ fs.lookup m = none := by
  unfold isObjD at h
  split at h
  · subst h
    unfold RepV Rep at r
    obtain ⟨a, dx, gs, rfl, g1, g2, g3⟩ := r
    exact ⟨a, dx, gs, rfl, S.sub.eq g1, lookup_out (by rw [g2]; exact hm)⟩
  · split at h
    · rename_i k T' fs hk
      subst h
      obtain ⟨a, rfl, h2⟩ := r
      obtain ⟨a', h3, cell⟩ := S.at_ hk
      have : a' = a := Option.some.inj (h3.symm.trans h2)
      subst this
      obtain ⟨dx, gs, g1, g2, g3, g4⟩ := cell
      exact ⟨a', dx, gs, rfl, g1, lookup_out (by rw [g2]; exact fun q => hm (List.mem_of_mem_take q))⟩
    · exact h.elim
  · exact h.elim
variable {k : Nat} {g : Addr} {fd : FuncData} {ps : List Str} {dsp : DSp} {m : Str} {apos : Pos} {es : List Expr} {fas : AT}
def tMeth (T : ClsT) (dsp : DSp) (fo : ET) (fas : AT) : ET := fun ρ M P x => fo ρ M (fun d M1 => isObjD T d M1 ∧ fas ρ M1 (fun ds M2 => dsp (d :: ds) M2 P x) x) x
theorem de_meth (T : ClsT) {pl : Sem Bool} (ho : DE X o fo) (c : Cls X.K T.C) (hm : Meth X.K T.C m g) (F : FnOk X.prog X.w X.K X.mg X.base (L2.CX X.prog X.w) k g fd ps (Up X.K dsp)) (hr : Room k X.A) (hb : Binds X.K fd ps []) (ha : DA X (e :: es) fas) (hnm : m ∉ T.ns := by first | decide | exact of_decide_eq_true rfl)
    (hst : starEach (e :: es) X.env = (false, eval e X.env) :: starEach es X.env := by rfl) (hpl : (backTo pos (starEach es X.env)).any (·.1) = false := by rfl)
    (ht : eval (.Call (.Attribute o m apos) (e :: es) [] pos) X.env = (do
      let ov ← eval o X.env
      standAt apos.atName
      let (f, first) ← holding [ov] (getMethod ov m pl)
      callWith pos f first (backTo pos (starEach (e :: es) X.env)) (backToKw pos (keywordEach [] X.env))) := by rfl) : DE X (.Call (.Attribute o m apos) (e :: es) [] pos) (tMeth T dsp fo fas) where
  run := fun {ρ M P x} h {σ H B L Z} S E x1 {Q} q => by
    obtain ⟨W, tk, hW⟩ := x1
    intro pins s I
    refine PySem.W.methodCall_KW (pl := pl) (thn (ho.run h S E ⟨W, tk, hW⟩ (Q := fun x H1 => ∃ a dx fs, x = .ref a ∧ H1 a = some (.ins T.C dx fs) ∧ fs.lookup m = none ∧ sA X (e :: es) σ H1 fun vs H2 => Up X.K dsp (.ref a :: vs) H2 Q (WE W σ)) ?_ pins s I) fun u s1 hh => ?_) ht
    · intro d M1 v B1 L1 H1 h1 e1 S1 r1
      obtain ⟨a, dx, fs, rfl, g1, g2⟩ := isObj_run h1.1 hnm S1 r1
      refine ⟨a, dx, fs, rfl, g1, g2, ?_⟩
      refine ha.run h1.2 S1 (E.mono e1) ⟨W, tk, fun cls fs M' d B' L' H' a b => hW cls fs M' d B' L' H' a (e1.trans b)⟩ fun ds M2 vs B2 L2 H2 h2 e2 S2 r2 => ?_
      exact callOk S2 (show RepVs X.K B2 L2 (d :: ds) (.ref a :: vs) from ⟨r1.mono e2, r2⟩) h2 (q.mono (e1.trans e2)) fun cls fs M' d B' L' H' a b => hW cls fs M' d B' L' H' a ((e1.trans e2).trans b)
    · obtain ⟨v, H1, I1, rv, a, dx, fs, ev, g1, g2, q2⟩ := hh
      subst ev
      cases rv
      refine getmeth_ok I1 g1 c hm g2 ?_
      refine PySem.W.callWith_K (first := [.ref a]) (h₀ := X.base) I.ok.mod.kin hm.kp (thn (q2 pos pins s1 I1) fun us s2 h2 => ?_) hst hpl
      obtain ⟨vs, H2, I2, rs, q3⟩ := h2
      exact ⟨I2.kIn, run_fnSD (us := .ref a :: us) (vs := .ref a :: vs) (dvs := []) (ds := []) (E := WE W) F hr hb .nil (passAt tk σ) I2 (.cons rfl rs) (by simpa using q3)⟩
theorem de_meth0 (T : ClsT) {pl : Sem Bool} (ho : DE X o fo) (c : Cls X.K T.C) (hm : Meth X.K T.C m g) (F : FnOk X.prog X.w X.K X.mg X.base (L2.CX X.prog X.w) k g fd ps (Up X.K dsp)) (hr : Room k X.A) (hb : Binds X.K fd ps []) (hnm : m ∉ T.ns := by first | decide | exact of_decide_eq_true rfl)
    (ht : eval (.Call (.Attribute o m apos) [] [] pos) X.env = (do
      let ov ← eval o X.env
      standAt apos.atName
      let (f, first) ← holding [ov] (getMethod ov m pl)
      callWith pos f first (backTo pos (starEach [] X.env)) (backToKw pos (keywordEach [] X.env))) := by rfl) : DE X (.Call (.Attribute o m apos) [] [] pos) (tMeth T dsp fo tNil) where
  run := fun {ρ M P x} h {σ H B L Z} S E x1 {Q} q => by
    obtain ⟨W, tk, hW⟩ := x1
    intro pins s I
    refine PySem.W.methodCall_KW (pl := pl) (thn (ho.run h S E ⟨W, tk, hW⟩ (Q := fun x H1 => ∃ a dx fs, x = .ref a ∧ H1 a = some (.ins T.C dx fs) ∧ fs.lookup m = none ∧ Up X.K dsp [.ref a] H1 Q (WE W σ)) ?_ pins s I) fun u s1 hh => ?_) ht
    · intro d M1 v B1 L1 H1 h1 e1 S1 r1
      obtain ⟨a, dx, fs, rfl, g1, g2⟩ := isObj_run h1.1 hnm S1 r1
      refine ⟨a, dx, fs, rfl, g1, g2, ?_⟩
      exact callOk S1 (show RepVs X.K B1 L1 [d] [.ref a] from ⟨r1, trivial⟩) h1.2 (q.mono e1) fun cls fs M' d B' L' H' a b => hW cls fs M' d B' L' H' a (e1.trans b)
    · obtain ⟨v, H1, I1, rv, a, dx, fs, ev, g1, g2, q2⟩ := hh
      subst ev
      cases rv
      refine getmeth_ok I1 g1 c hm g2 ?_
      refine PySem.W.callWith_K0 (first := [.ref a]) I1.kIn hm.kp ?_
      exact run_fnSD (us := [.ref a]) (vs := [.ref a]) (dvs := []) (ds := []) (E := WE W) F hr hb .nil (passAt tk σ) I1 (.cons rfl .nil) (by simpa using q2)
/-! ### C(e, ..) -/
variable {x : Str} {p : Pos}
theorem madeS {T : ClsT} {B : Hp} {L : List Addr} {Z : Zs} {M : Mem} {H : Hp} (S : StM X.K B L Z M H) {a dx : Addr} (ha : H a = none) (hd : H dx = none) (hne : dx ≠ a) : StM X.K B (L ++ [a]) Z (M ++ [.ins T []]) (upd (upd H dx (.own a)) a (.ins T.C dx [])) ∧ Ext B L B (L ++ [a]) := by
  have S1 : StM X.K B L ((dx, .own a) :: Z) M (upd H dx (.own a)) := S.newZ hd
  exact (StM.newM (m := .ins T []) S1 (by rw [upd_ne hne.symm]; exact ha) ⟨dx, [], upd_same, by simp, by simp, trivial⟩).imp (fun x => x.z) id
theorem make_at {T : ClsT} {fI : Addr} {W : WX} {pins : List (Addr × Obj)} {σ : L2.St} {H : Hp} {s : Shared} {Q : VK} {us : List Value} {vs : List V} {sp : Sp} (N : Mk X.K T.C fI) (F : FnOk X.prog X.w X.K X.mg X.base (L2.CX X.prog X.w) k fI fd ps sp) (hr : Room (k + 1) X.A) (hb : Binds X.K fd ps [])
    (tk : Takes X W) (I : Inv X pins σ H s) (r : Vals vs us)
    (h : ∀ a dx, H a = none → H dx = none → dx ≠ a → sp (.ref a :: vs) (upd (upd H dx (.own a)) a (.ins T.C dx [])) (fun v H2 => v = .non ∧ Q (.ref a) H2) (WE W σ)) : wpAny (model X.prog X.w) X.A (call (.ref T.C) us) (EP X pins σ Q) X.xe s := by
  have hq := h _ _ (I.hok.fresh (Nat.le_succ _)) (I.hok.fresh (Nat.le_refl _)) (Nat.ne_of_lt (Nat.lt_succ_self _))
  have J := Inv.made (C := T.C) I
  have rr : Vals (V.ref (s.heap.objs.size + 1) :: vs) (Value.ref (s.heap.objs.size + 1) :: us) := .cons rfl r
  have hl : (Value.ref (s.heap.objs.size + 1) :: us ++ []).length = ps.length := by
    rw [List.append_nil, ← rr.length]
    exact F.len _ _ _ _ hq
  have hbind := hb _ (Value.ref (s.heap.objs.size + 1) :: us) J.kIn hl
  rw [List.append_nil] at hbind
  refine wpAny_call (make_map (f := fI) I.kIn N.makes N.init (beq_iff_eq.mp N.fn) (codeAny_mono (F.run _ X.stack _ _ _ _ _ _ _ (hr.make T.C us []) (J.env0.make T.C us []) hbind rr hq) fun res s' hres => ?_))
  match res, hres with
  | .error e, hres => exact tk e s' (XE.of_call J (fun _ _ _ z => z) hres)
  | .ok (.ret u), hres =>
    obtain ⟨v, H', J3, rv, ev, q3⟩ := J.after hres
    subst ev
    exact ⟨rv, ⟨.ref (s.heap.objs.size + 1), H', J3, rfl, q3⟩⟩
def tMake (T : ClsT) (dsp : DSp) (fas : AT) : ET := fun ρ M P x => fas ρ M (fun ds M1 => dsp (.m M1.length :: ds) (M1 ++ [.ins T []]) (fun d M2 => isNonD d = true ∧ P (.m M1.length) M2) (fun c fs M2 => x c fs M2)) x
theorem de_make (T : ClsT) {fI : Addr} (N : Mk X.K T.C fI) (F : FnOk X.prog X.w X.K X.mg X.base (L2.CX X.prog X.w) k fI fd ps (Up X.K dsp)) (hr : Room (k + 1) X.A) (hg : Gl X x) (hm : X.mg x = some (.ref T.C)) (hb : Binds X.K fd ps []) (ha : DA X (e :: es) fas)
    (hdb : (x == ("__debug__" : Str)) = false := by decide) (he : starEach (e :: es) X.env = (false, eval e X.env) :: starEach es X.env := by rfl) (hpl : (backTo pos (starEach es X.env)).any (·.1) = false := by rfl) : DE X (.Call (.Name x p) (e :: es) [] pos) (tMake T dsp fas) where
  run := fun {ρ M P x} h {σ H B L Z} S E x1 {Q} q => by
    obtain ⟨W, tk, hW⟩ := x1
    intro pins s I
    refine wpAny_Call_Name_kw (ld_glob I hg hm ?_ hdb)
    refine PySem.W.callWith_K (h₀ := X.base) I.ok.mod.kin N.kp (thn (ha.run h S E ⟨W, tk, hW⟩ (Q := fun vs H1 => ∀ a dx, H1 a = none → H1 dx = none → dx ≠ a → Up X.K dsp (.ref a :: vs) (upd (upd H1 dx (.own a)) a (.ins T.C dx [])) (fun v H2 => v = .non ∧ Q (.ref a) H2) (WE W σ)) ?_ pos pins s I) fun us s1 hh => ?_) he hpl
    · intro ds M1 vs B1 L1 H1 h1 e1 S1 r1 a dx ha hd hne
      obtain ⟨S2, e2⟩ := madeS (T := T) S1 ha hd hne
      have e12 := e1.trans e2
      have hself : (L1 ++ [a])[M1.length]? = some a := by
        rw [← S1.len]
        simp
      refine callOk S2 (show RepVs X.K B1 (L1 ++ [a]) (.m M1.length :: ds) (.ref a :: vs) from ⟨⟨a, rfl, hself⟩, r1.mono e2⟩) h1 (fun d M3 v B3 L3 H3 h3 e3 S3 r3 => ?_) fun cls fs M' d B' L' H' a b => hW cls fs M' d B' L' H' a (e12.trans b)
      refine ⟨by have := isNon_rep r3; rw [h3.1] at this; exact of_decide_eq_true this, ?_⟩
      exact q _ _ _ _ _ _ h3.2 (e12.trans e3) S3 ⟨a, rfl, e3.get hself⟩
    · obtain ⟨vs, H1, I1, rv, hq⟩ := hh
      exact ⟨I1.kIn, make_at N F hr hb tk I1 rv hq⟩
end
end DL

namespace DL
open PySem PySem.Spec PyProof.Rows L2
variable [Csts]
/-! ### methods of built-in types -/
abbrev MT := DV → List DV → Mem → Post → Prop
def sM (X : Cx) (id : String) (x : V) (xs : List V) (H : Hp) (Q : VK) : Prop := ∀ pins s σ v us, Inv X pins σ H s → RelV x v → Vals xs us → wpAny (model X.prog X.w) X.A (call (.builtin id) (v :: us)) (EP X pins σ Q) X.xe s
section
variable {X : Cx}
theorem mt_s {id : String} : MtR X id (sM X id) := fun pins s σ _ _ _ v us _ I r rs h => h pins s σ v us I r rs
theorem mtS {id : String} {r : V → List V → Hp → VK → Prop} (h : MtR X id r) {x : V} {xs : List V} {H : Hp} {Q : VK} (q : r x xs H Q) : sM X id x xs H Q := fun pins s σ v us I rx rs => h pins s σ H x xs v us Q I rx rs q
structure DM (X : Cx) (id : String) (o : MT) : Prop where
  run : ∀ {a ds M P}, o a ds M P → ∀ {u : V} {vs : List V} {B L Z H}, StM X.K B L Z M H → RepV X.K B L a u → RepVs X.K B L ds vs → ∀ {Q : VK}, POk X B L Z P Q → sM X id u vs H Q
/-- the receiver's type -/
def tyD (t : TyN) (d : DV) (M : Mem) : Bool := match t, d with
  | .list, .d (.lst _) => true
  | .list, .d (.frl _) => true
  | .list, .m k => (match M[k]? with
    | some (.lst _) => true
    | _ => false)
  | .dict, .d (.dic _) => true
  | .dict, .m k => (match M[k]? with
    | some (.dic _) => true
    | _ => false)
  | .str, .d (.str _) => true
  | _, _ => false
theorem tyD_v {t : TyN} {d : DV} {M : Mem} (h : tyD t d M = true) {v : V} {B : Hp} {L : List Addr} {Z : Zs} {H : Hp} (S : StM X.K B L Z M H) (r : RepV X.K B L d v) (hd : ∀ kvs, d ≠ .d (.dic kvs)) : tyV X.K t.nm v H := by
  unfold tyD at h
  split at h
  · unfold RepV Rep at r
    obtain ⟨a, vs, rfl, h2, h3⟩ := r
    exact .inl ⟨rfl, vs, S.sub.l (.inl (.inl h2))⟩
  · unfold RepV Rep at r
    obtain ⟨a, vs, rfl, h2, h3⟩ := r
    exact .inl ⟨rfl, vs, S.sub.l h2⟩
  · split at h
    · rename_i xs hk
      obtain ⟨p, vs, rfl, h2, h3⟩ := S.lst r hk
      exact .inl ⟨rfl, vs, .inl (.inl h2)⟩
    · cases h
  · exact absurd rfl (hd _)
  · split at h
    · rename_i kvs hk
      obtain ⟨a, rfl, h2⟩ := r
      obtain ⟨a', h3, cell⟩ := S.at_ hk
      have : a' = a := Option.some.inj (h3.symm.trans h2)
      subst this
      obtain ⟨ws, g1, g2⟩ := cell
      exact .inr (.inr (.inl ⟨rfl, .inl ⟨ws, g1⟩⟩))
    · cases h
  · have := rv_str.mp r
    subst this
    rfl
  · cases h
variable {o e : Expr} {es : List Expr} {fo : ET} {fas : AT} {om : MT} {name : Str} {apos cpos : Pos} {T id : String} {t : TyN}
def notDic : DV → Prop
  | .d (.dic _) => False
  | _ => True
def tBM (t : TyN) (om : MT) (fo : ET) (fas : AT) : ET := fun ρ M P x => fo ρ M (fun d M1 => (notDic d ∧ tyD t d M1 = true) ∧ fas ρ M1 (fun ds M2 => om d ds M2 P) x) x
theorem de_bm (t : TyN) (pa : PlainAttrs t.nm) (slot : Slot t.nm name id) (hty : typeOf (.builtin id) = pure (.type "method_descriptor")) (hm : DM X id om) (ho : DE X o fo) (ha : DA X (e :: es) fas)
    (hbase : attributeBase o name X.env (eval o X.env) = eval o X.env := by rfl)
    (hfew : ((backTo cpos (starEach (e :: es) X.env)).all (fun x => !x.1) && (backToKw cpos (keywordEach [] X.env)).all (fun x => x.1.isSome)
      && decide ((e :: es).length + ([] : List Keyword).length + (if ([] : List Keyword).isEmpty then 0 else 1) < 30)) = true := by rfl)
    (hline : (apos.endLine == cpos.line) = true := by rfl) (hs : starEach (e :: es) X.env = (false, eval e X.env) :: starEach es X.env := by rfl) (hplain : (backTo cpos (starEach es X.env)).any (·.1) = false := by rfl) :
    DE X (.Call (.Attribute o name apos) (e :: es) [] cpos) (tBM t om fo fas) where
  run := fun {ρ M P x} h {σ H B L Z} S E x1 {Q} q => by
    refine PE.s (pe_bm pa slot hty mt_s pe_s pa_s hbase hfew hline hs hplain) ?_
    refine ho.run h S E x1 fun d M1 v B1 L1 H1 h1 e1 S1 r1 => ?_
    refine ⟨tyD_v h1.1.2 S1 r1 fun kvs z => by subst z; exact h1.1.1, ?_⟩
    refine ha.run h1.2 S1 (E.mono e1) (x1.mono e1) fun ds M2 vs B2 L2 H2 h2 e2 S2 r2 => ?_
    exact hm.run h2 S2 (r1.mono e2) r2 (q.mono (e1.trans e2))
theorem de_bm0 (t : TyN) (pa : PlainAttrs t.nm) (slot : Slot t.nm name id) (hty : typeOf (.builtin id) = pure (.type "method_descriptor")) (hm : DM X id om) (ho : DE X o fo)
    (hbase : attributeBase o name X.env (eval o X.env) = eval o X.env := by rfl) (hline : (apos.endLine == cpos.line) = true := by rfl) : DE X (.Call (.Attribute o name apos) [] [] cpos) (tBM t om fo tNil) where
  run := fun {ρ M P x} h {σ H B L Z} S E x1 {Q} q => by
    refine PE.s (pe_bm0 pa slot hty mt_s pe_s hbase hline) ?_
    refine ho.run h S E x1 fun d M1 v B1 L1 H1 h1 e1 S1 r1 => ?_
    exact ⟨tyD_v h1.1.2 S1 r1 fun kvs z => by subst z; exact h1.1.1, hm.run h1.2 S1 r1 (show RepVs X.K B1 L1 [] [] from trivial) (q.mono e1)⟩
/-! lists that change -/
theorem cell_of {k : Nat} {xs : List DV} {v : V} {B : Hp} {L : List Addr} {Z : Zs} {M : Mem} {H : Hp} (S : StM X.K B L Z M H) (hk : M[k]? = some (.lst xs)) (r : RepV X.K B L (.m k) v) : ∃ a vs, v = .ref a ∧ L[k]? = some a ∧ H a = some (.lst vs) ∧ RepVs X.K B L xs vs := by
  obtain ⟨a, rfl, h2⟩ := r
  obtain ⟨a', h3, cell⟩ := S.at_ hk
  have : a' = a := Option.some.inj (h3.symm.trans h2)
  subst this
  obtain ⟨vs, g1, g2⟩ := cell
  exact ⟨a', vs, rfl, h3, g1, g2⟩
def onL (d : DV) (M : Mem) (P : Nat → List DV → Prop) : Prop := match d with
  | .m k => (match M[k]? with
    | some (.lst xs) => P k xs
    | _ => False)
  | _ => False
theorem onL_of {d : DV} {M : Mem} {P : Nat → List DV → Prop} (h : onL d M P) : ∃ k xs, d = .m k ∧ M[k]? = some (.lst xs) ∧ P k xs := by
  cases d with
  | d x => exact h.elim
  | pr _ _ => exact h.elim
  | m k =>
    unfold onL at h
    dsimp only at h
    split at h
    · rename_i xs hk
      exact ⟨k, xs, rfl, hk, h⟩
    · exact h.elim
def oAppend : MT := fun d ds M P => onL d M fun k xs => match ds with
  | [y] => xs.length < 100000 ∧ P (.d .non) (M.set k (.lst (xs ++ [y])))
  | _ => False
theorem dm_append : DM X "list.append" oAppend where
  run := fun {a ds M P} h {u vs B L Z H} S r rs {Q} q => by
    obtain ⟨k, xs, rfl, hk, h⟩ := onL_of h
    obtain ⟨p, ws, rfl, g1, g2, g3⟩ := cell_of S hk r
    match ds, vs, h, rs with
    | [y], [v], h, rs =>
      exact mtS mt_append ⟨p, ws, v, rfl, rfl, g2, by rw [← g3.len]; exact size_lt h.1, q _ _ _ _ _ _ h.2 (Ext.refl _ _) (S.putL g1 hk (g3.snoc rs.1)) (rv_non.mpr rfl)⟩
def oInsert : MT := fun d ds M P => onL d M fun k xs => match ds with
  | [.d (.int i), y] => (xs.length < 100000 ∧ 0 ≤ i ∧ i < 2 ^ 63) ∧ P (.d .non) (M.set k (.lst (xs.take i.toNat ++ [y] ++ xs.drop i.toNat)))
  | _ => False
theorem dm_insert : DM X "list.insert" oInsert where
  run := fun {a ds M P} h {u vs B L Z H} S r rs {Q} q => by
    obtain ⟨k, xs, rfl, hk, h⟩ := onL_of h
    obtain ⟨p, ws, rfl, g1, g2, g3⟩ := cell_of S hk r
    match ds, vs, rs, h with
      | [.d (.int i), y], [v, w], rs, h =>
        have := rv_int.mp rs.1
        subst this
        exact mtS mt_insert ⟨p, ws, i, w, rfl, rfl, g2, by rw [← g3.len]; exact size_lt h.1.1, h.1.2.1, h.1.2.2, q _ _ _ _ _ _ h.2 (Ext.refl _ _) (S.putL g1 hk (((g3.take _).snoc rs.2.1).app (g3.drop _))) (rv_non.mpr rfl)⟩
def oPop : MT := fun d ds M P => onL d M fun k xs => match ds with
  | [] => (match xs[xs.length - 1]? with
    | some y => P y (M.set k (.lst xs.dropLast))
    | none => False)
  | [.d (.int 0)] => (match xs with
    | y :: ys => P y (M.set k (.lst ys))
    | [] => False)
  | _ => False
theorem RepVs.dropLast {K : PySem.W.Frag} {B : Hp} {L : List Addr} {xs : List DV} {vs : List V} (h : RepVs K B L xs vs) : RepVs K B L xs.dropLast vs.dropLast := by
  rw [List.dropLast_eq_take, List.dropLast_eq_take, ← h.len]
  exact h.take _
theorem dm_pop : DM X "list.pop" oPop where
  run := fun {a ds M P} h {u vs B L Z H} S r rs {Q} q => by
    obtain ⟨k, xs, rfl, hk, h⟩ := onL_of h
    obtain ⟨p, ws, rfl, g1, g2, g3⟩ := cell_of S hk r
    split at h
    · split at h
      · rename_i y hy
        obtain ⟨w, h1, h2⟩ := g3.get hy
        match vs, rs with
        | [], _ => exact mtS mt_pop ⟨p, ws, w, rfl, rfl, g2, by rw [← g3.len]; exact h1, q _ _ _ _ _ _ h (Ext.refl _ _) (S.putL g1 hk g3.dropLast) h2⟩
      · exact h.elim
    · split at h
      · rename_i y ys
        match vs, rs, ws, g3 with
        | [v], rs, w :: ws, g3 =>
          have := rv_int.mp rs.1
          subst this
          exact mtS mt_popAt ⟨p, w :: ws, 0, 0, w, rfl, rfl, g2, by decide, by decide, by simp [seqIndex?], rfl, q _ _ _ _ _ _ h (Ext.refl _ _) (S.putL g1 hk g3.2) g3.1⟩
      · exact h.elim
    · exact h.elim
def oClear : MT := fun d ds M P => onL d M fun k xs => match ds with
  | [] => P (.d .non) (M.set k (.lst []))
  | _ => False
theorem dm_clear : DM X "list.clear" oClear where
  run := fun {a ds M P} h {u vs B L Z H} S r rs {Q} q => by
    obtain ⟨k, xs, rfl, hk, h⟩ := onL_of h
    obtain ⟨p, ws, rfl, g1, g2, g3⟩ := cell_of S hk r
    match ds, vs, h, rs with
    | [], [], h, rs => exact mtS mt_clear ⟨p, ws, rfl, rfl, g2, q _ _ _ _ _ _ h (Ext.refl _ _) (S.putL g1 hk trivial) (rv_non.mpr rfl)⟩
/-- a cell or a list of ints, as ints -/
def intsOf : List DV → Option (List Int)
  | [] => some []
  | .d (.int i) :: r => (match intsOf r with
    | some is => some (i :: is)
    | none => none)
  | _ :: _ => none
theorem intsOf_eq : ∀ {xs : List DV} {is : List Int}, intsOf xs = some is → xs = is.map fun i => .d (.int i)
  | [], _, h => by cases h; rfl
  | .d (.int i) :: r, _, h => by
    unfold intsOf at h
    split at h
    · rename_i is hi
      cases h
      rw [intsOf_eq hi]
      rfl
    · cases h
  | .m _ :: _, _, h => by cases h
  | .pr _ _ :: _, _, h => by cases h
  | .d .non :: _, _, h => by cases h
  | .d (.bl _) :: _, _, h => by cases h
  | .d (.str _) :: _, _, h => by cases h
  | .d (.ref _) :: _, _, h => by cases h
  | .d (.ty _) :: _, _, h => by cases h
  | .d (.lst _) :: _, _, h => by cases h
  | .d (.frl _) :: _, _, h => by cases h
  | .d (.tup _) :: _, _, h => by cases h
  | .d (.dic _) :: _, _, h => by cases h
  | .d (.obj _ _) :: _, _, h => by cases h
  | .d (.slo _ _) :: _, _, h => by cases h
  | .d (.xcp _ _ _ _) :: _, _, h => by cases h
theorem intsOf_map : ∀ (is : List Int), intsOf (is.map fun i => .d (.int i)) = some is
  | [] => rfl
  | i :: is => by
    show (match intsOf (is.map fun i => .d (.int i)) with | some js => some (i :: js) | none => none) = _
    rw [intsOf_map is]
theorem ints_v {K : PySem.W.Frag} {B : Hp} {L : List Addr} : ∀ {is : List Int} {vs : List V}, RepVs K B L (is.map fun i => .d (.int i)) vs → vs = is.map V.int
  | [], [], _ => rfl
  | i :: is, v :: vs, h => by
    rw [List.map_cons, ← rv_int.mp h.1, ← ints_v h.2]
  | [], _ :: _, h => h.elim
  | _ :: _, [], h => h.elim
end
/-! ### built-in functions -/
section
variable {X : Cx}
def oLen : CT := fun ds M P => match ds with
  | [.d (.str s)] => s.length ≤ 100000 ∧ P (.d (.int s.length)) M
  | [d] => (match seqOf M d with
    | some xs => P (.d (.int xs.length)) M
    | none => False)
  | _ => False
theorem one_v {K : PySem.W.Frag} {B : Hp} {L : List Addr} {d : DV} {vs : List V} (h : RepVs K B L [d] vs) : ∃ v, vs = [v] ∧ RepV K B L d v := by
  match vs, h with
  | [v], h => exact ⟨v, rfl, h.1⟩
theorem two_v {K : PySem.W.Frag} {B : Hp} {L : List Addr} {d e : DV} {vs : List V} (h : RepVs K B L [d, e] vs) : ∃ v w, vs = [v, w] ∧ RepV K B L d v ∧ RepV K B L e w := by
  match vs, h with
  | [v, w], h => exact ⟨v, w, rfl, h.1, h.2.1⟩
theorem dc_len : DC X (.builtin "len") oLen where
  run := fun {ds M P} h {vs B L Z H} S rs {Q} q => by
    unfold oLen at h
    split at h
    · obtain ⟨v, rfl, r⟩ := one_v rs
      have := rv_str.mp r
      subst this
      exact callS call_len ⟨_, _, rfl, ⟨size100 h.1, rfl⟩, q.here S h.2 (rv_int.mpr rfl)⟩
    · split at h
      · rename_i d _ xs hx
        obtain ⟨v, rfl, r⟩ := one_v rs
        obtain ⟨p, vs, rfl, g1, g2⟩ := S.seq r hx
        refine callS call_len ⟨_, vs.length, rfl, ?_, q.here S h (rv_int.mpr (by rw [g2.len]))⟩
        rcases g1 with g1 | g1
        · exact .inr ⟨vs, g1, rfl⟩
        · exact .inl ⟨vs, g1, rfl⟩
      · exact h.elim
    · exact h.elim
def oInt : CT := fun ds M P => match ds with
  | [.d (.int i)] => P (.d (.int i)) M
  | [.d (.bl b)] => P (.d (.int (if b = true then 1 else 0))) M
  | _ => False
theorem dc_int : DC X (.type "int") oInt where
  run := fun {ds M P} h {vs B L Z H} S rs {Q} q => by
    unfold oInt at h
    split at h
    · obtain ⟨v, rfl, r⟩ := one_v rs
      have := rv_int.mp r
      subst this
      exact callS call_int1 (.inl ⟨_, rfl, q.here S h (rv_int.mpr rfl)⟩)
    · obtain ⟨v, rfl, r⟩ := one_v rs
      have := rv_bl.mp r
      subst this
      exact callS call_int1 (.inr ⟨_, rfl, q.here S h (rv_int.mpr rfl)⟩)
    · exact h.elim
def oMax2 : CT := fun ds M P => match ds with
  | [.d (.int i), .d (.int j)] => P (.d (.int (if j > i then j else i))) M
  | _ => False
theorem dc_max2 (hc : X.calm = true) : DC X (.builtin "max") oMax2 where
  run := fun {ds M P} h {vs B L Z H} S rs {Q} q => by
    unfold oMax2 at h
    split at h
    · obtain ⟨v, w, rfl, r1, r2⟩ := two_v rs
      have e1 := rv_int.mp r1
      have e2 := rv_int.mp r2
      subst e1
      subst e2
      exact callS (call_max2 hc) ⟨_, _, rfl, q.here S h (rv_int.mpr rfl)⟩
    · exact h.elim
def oMin2 : CT := fun ds M P => match ds with
  | [.d (.int i), .d (.int j)] => P (.d (.int (if j < i then j else i))) M
  | _ => False
theorem dc_min2 (hc : X.calm = true) : DC X (.builtin "min") oMin2 where
  run := fun {ds M P} h {vs B L Z H} S rs {Q} q => by
    unfold oMin2 at h
    split at h
    · obtain ⟨v, w, rfl, r1, r2⟩ := two_v rs
      have e1 := rv_int.mp r1
      have e2 := rv_int.mp r2
      subst e1
      subst e2
      exact callS (call_min2 hc) ⟨_, _, rfl, q.here S h (rv_int.mpr rfl)⟩
    · exact h.elim
/-- one sequence of ints -/
def onInts (ds : List DV) (M : Mem) (P : List Int → Prop) : Prop := match ds with
  | [.d (.lst xs)] => ∃ is, intsOf (xs.map .d) = some is ∧ P is
  | [.m k] => (match M[k]? with
    | some (.lst xs) => ∃ is, intsOf xs = some is ∧ P is
    | _ => False)
  | _ => False
theorem onInts_of {ds : List DV} {M : Mem} {P : List Int → Prop} (h : onInts ds M P) {vs : List V} {B : Hp} {L : List Addr} {Z : Zs} {H : Hp} (S : StM X.K B L Z M H) (rs : RepVs X.K B L ds vs) : ∃ a is, vs = [.ref a] ∧ SqL X.K H a (is.map V.int) ∧ P is := by
  unfold onInts at h
  split at h
  · rename_i xs
    obtain ⟨is, h1, h2⟩ := h
    obtain ⟨v, rfl, r⟩ := one_v rs
    obtain ⟨p, ws, rfl, g1, g2⟩ := S.lst (xs := xs.map .d) r rfl
    rw [intsOf_eq h1] at g2
    exact ⟨p, is, rfl, by rw [← ints_v g2]; exact .inl (.inl g1), h2⟩
  · split at h
    · rename_i k xs hk
      obtain ⟨is, h1, h2⟩ := h
      obtain ⟨v, rfl, r⟩ := one_v rs
      obtain ⟨p, ws, rfl, g1, g2⟩ := S.lst r hk
      rw [intsOf_eq h1] at g2
      exact ⟨p, is, rfl, by rw [← ints_v g2]; exact .inl (.inl g1), h2⟩
    · exact h.elim
  · exact h.elim
def oSum : CT := fun ds M P => onInts ds M fun is => P (.d (.int is.sum)) M
theorem dc_sum (hc : X.calm = true) : DC X (.builtin "sum") oSum where
  run := fun {ds M P} h {vs B L Z H} S rs {Q} q => by
    obtain ⟨a, is, rfl, g, h⟩ := onInts_of h S rs
    exact callS (cr_sum hc) ⟨a, is, rfl, g, q.here S h (rv_int.mpr rfl)⟩
def oMin : CT := fun ds M P => onInts ds M fun is => 0 < is.length ∧ ∀ m, m ∈ is → (∀ y, y ∈ is → m ≤ y) → P (.d (.int m)) M
theorem dc_min (hc : X.calm = true) : DC X (.builtin "min") oMin where
  run := fun {ds M P} h {vs B L Z H} S rs {Q} q => by
    obtain ⟨a, is, rfl, g, h⟩ := onInts_of h S rs
    exact callS (cr_min hc) ⟨a, is, rfl, g, h.1, fun m h1 h2 => q.here S (h.2 m h1 h2) (rv_int.mpr rfl)⟩
def oMax : CT := fun ds M P => onInts ds M fun is => 0 < is.length ∧ ∀ m, m ∈ is → (∀ y, y ∈ is → y ≤ m) → P (.d (.int m)) M
theorem dc_max (hc : X.calm = true) : DC X (.builtin "max") oMax where
  run := fun {ds M P} h {vs B L Z H} S rs {Q} q => by
    obtain ⟨a, is, rfl, g, h⟩ := onInts_of h S rs
    exact callS (cr_max hc) ⟨a, is, rfl, g, h.1, fun m h1 h2 => q.here S (h.2 m h1 h2) (rv_int.mpr rfl)⟩
/-- a list of bools -/
def bls : List D → Option (List Bool)
  | [] => some []
  | .bl b :: r => (match bls r with
    | some bs => some (b :: bs)
    | none => none)
  | _ :: _ => none
theorem bls_eq : ∀ {xs : List D} {bs : List Bool}, bls xs = some bs → xs = bs.map .bl
  | [], _, h => by cases h; rfl
  | .bl b :: r, _, h => by
    unfold bls at h
    split at h
    · rename_i bs hb
      cases h
      rw [bls_eq hb]
      rfl
    · cases h
  | .non :: _, _, h => by cases h
  | .int _ :: _, _, h => by cases h
  | .str _ :: _, _, h => by cases h
  | .ref _ :: _, _, h => by cases h
  | .ty _ :: _, _, h => by cases h
  | .lst _ :: _, _, h => by cases h
  | .frl _ :: _, _, h => by cases h
  | .tup _ :: _, _, h => by cases h
  | .dic _ :: _, _, h => by cases h
  | .obj _ _ :: _, _, h => by cases h
  | .slo _ _ :: _, _, h => by cases h
theorem bls_map : ∀ (bs : List Bool), bls (bs.map .bl) = some bs
  | [] => rfl
  | b :: bs => by
    show (match bls (bs.map .bl) with | some cs => some (b :: cs) | none => none) = _
    rw [bls_map bs]
theorem bls_v {K : PySem.W.Frag} {B : Hp} : ∀ {bs : List Bool} {vs : List V}, RepL K B (bs.map .bl) vs → vs = bs.map V.bl
  | [], [], _ => rfl
  | b :: bs, v :: vs, h => by
    simp only [List.map_cons] at h
    unfold RepL Rep at h
    rw [List.map_cons, ← h.1, ← bls_v h.2]
  | [], _ :: _, h => by unfold RepL at h; exact h.elim
  | _ :: _, [], h => by unfold RepL at h; exact h.elim
def onBls (ds : List DV) (P : List Bool → Prop) : Prop := match ds with
  | [.d (.lst xs)] => ∃ bs, bls xs = some bs ∧ P bs
  | _ => False
theorem onBls_of {ds : List DV} {M : Mem} {P : List Bool → Prop} (h : onBls ds P) {vs : List V} {B : Hp} {L : List Addr} {Z : Zs} {H : Hp} (S : StM X.K B L Z M H) (rs : RepVs X.K B L ds vs) : ∃ a bs, vs = [.ref a] ∧ SqL X.K H a (bs.map V.bl) ∧ P bs := by
  unfold onBls at h
  split at h
  · rename_i xs
    obtain ⟨bs, h1, h2⟩ := h
    have := bls_eq h1
    subst this
    obtain ⟨v, rfl, r⟩ := one_v rs
    unfold RepV Rep at r
    obtain ⟨p, ws, rfl, g1, g2⟩ := r
    exact ⟨p, bs, rfl, by rw [← bls_v g2]; exact S.sub.l (.inl (.inl g1)), h2⟩
  · exact h.elim
def oAll : CT := fun ds M P => onBls ds fun bs => P (.d (.bl (bs.all id))) M
theorem dc_all (hc : X.calm = true) : DC X (.builtin "all") oAll where
  run := fun {ds M P} h {vs B L Z H} S rs {Q} q => by
    obtain ⟨a, bs, rfl, g, h⟩ := onBls_of h S rs
    exact callS (cr_all hc) ⟨a, bs, rfl, g, q.here S h (rv_bl.mpr rfl)⟩
def oAny : CT := fun ds M P => onBls ds fun bs => P (.d (.bl (bs.any id))) M
theorem dc_any (hc : X.calm = true) : DC X (.builtin "any") oAny where
  run := fun {ds M P} h {vs B L Z H} S rs {Q} q => by
    obtain ⟨a, bs, rfl, g, h⟩ := onBls_of h S rs
    exact callS (cr_any hc) ⟨a, bs, rfl, g, q.here S h (rv_bl.mpr rfl)⟩
/-- list(e), as data; as a cell -/
def oList : CT := fun ds M P => match ds with
  | [d] => (match seqOf M d with
    | some xs => (match allD xs with
      | some zs => P (.d (.lst zs)) M
      | none => False)
    | none => False)
  | _ => False
theorem dc_list : DC X (.type "list") oList where
  run := fun {ds M P} h {vs B L Z H} S rs {Q} q => by
    unfold oList at h
    split at h
    · split at h
      · rename_i d xs hx
        split at h
        · rename_i zs hz
          have := allD_eq hz
          subst this
          obtain ⟨v, rfl, r⟩ := one_v rs
          obtain ⟨p, ws, rfl, g1, g2⟩ := S.seq r hx
          exact callS call_list_of ⟨p, ws, rfl, g1.symm, fun l hl => new_lst S g2.toL h q hl⟩
        · exact h.elim
      · exact h.elim
    · exact h.elim
def oListM : CT := fun ds M P => match ds with
  | [d] => (match seqOf M d with
    | some xs => P (.m M.length) (M ++ [.lst xs])
    | none => False)
  | _ => False
theorem dc_listM : DC X (.type "list") oListM where
  run := fun {ds M P} h {vs B L Z H} S rs {Q} q => by
    unfold oListM at h
    split at h
    · split at h
      · rename_i d xs hx
        obtain ⟨v, rfl, r⟩ := one_v rs
        obtain ⟨p, ws, rfl, g1, g2⟩ := S.seq r hx
        refine callS call_list_of ⟨p, ws, rfl, g1.symm, fun l hl => ?_⟩
        have E1 : Ext B L B (L ++ [l]) := ⟨Sub.refl B, [l], rfl⟩
        obtain ⟨S2, e2⟩ := S.newM (o := .lst ws) (m := .lst xs) hl ⟨ws, upd_same, g2.mono E1⟩
        refine q _ _ _ _ _ _ h e2 S2 ⟨l, rfl, ?_⟩
        rw [← S.len]
        simp
      · exact h.elim
    · exact h.elim
def oTuple : CT := fun ds M P => match ds with
  | [d] => (match seqOf M d with
    | some xs => (match allD xs with
      | some zs => P (.d (.tup zs)) M
      | none => False)
    | none => False)
  | _ => False
theorem dc_tuple : DC X (.type "tuple") oTuple where
  run := fun {ds M P} h {vs B L Z H} S rs {Q} q => by
    unfold oTuple at h
    split at h
    · split at h
      · rename_i d _ xs hx
        split at h
        · rename_i zs hz
          have := allD_eq hz
          subst this
          obtain ⟨v, rfl, r⟩ := one_v rs
          by_cases c : ∃ ys, d = .d (.tup ys)
          · obtain ⟨ys, rfl⟩ := c
            have e : zs = ys := by
              have h1 : ys.map DV.d = zs.map DV.d := Option.some.inj hx
              have h2 := allD_map ys
              rw [h1, allD_map] at h2
              exact Option.some.inj h2
            subst e
            have r' := r
            unfold RepV Rep at r
            obtain ⟨p, ws, rfl, g1, g2⟩ := r
            exact callS call_tuple_of ⟨p, ws, rfl, .inr ⟨S.sub.t g1, q.here S h r'⟩⟩
          · have g : ∃ p ws, v = .ref p ∧ SqL X.K H p ws ∧ RepVs X.K B L (List.map DV.d zs) ws := by
              unfold seqOf at hx
              split at hx
              · rename_i ys
                have e2 : List.map DV.d ys = List.map DV.d zs := Option.some.inj hx
                obtain ⟨p, ws, e, g1, g2⟩ := S.lst (xs := List.map DV.d ys) r rfl
                exact ⟨p, ws, e, .inl (.inl g1), e2 ▸ g2⟩
              · rename_i ys
                have e2 : List.map DV.d ys = List.map DV.d zs := Option.some.inj hx
                unfold RepV Rep at r
                obtain ⟨p, ws, e, g1, g2⟩ := r
                exact ⟨p, ws, e, S.sub.l g1, e2 ▸ g2.vs⟩
              · exact absurd ⟨_, rfl⟩ c
              · split at hx
                · rename_i k xs' hk
                  cases hx
                  obtain ⟨p, ws, e, g1, g2⟩ := S.lst r hk
                  exact ⟨p, ws, e, .inl (.inl g1), g2⟩
                · cases hx
              · cases hx
            obtain ⟨p, ws, rfl, g1, g2⟩ := g
            exact callS call_tuple_of ⟨p, ws, rfl, .inl ⟨g1, fun l hl => new_tup S g2.toL h q hl⟩⟩
        · exact h.elim
      · exact h.elim
    · exact h.elim
end
end DL

namespace DL
open PySem PySem.Spec PyProof.Rows L2
variable [Csts]
section
variable {X : Cx} {e : Expr} {fe : ET} {pos : Pos}
theorem do_mul : DO X (binaryOp .Mult) oMul where
  run := fun {a b M P} h {u v B L Z H} S r1 r2 {Q} q => by
    unfold oMul at h
    split at h
    · exact opS op_mul ⟨_, _, rv_int.mp r1, rv_int.mp r2, h.1, q.here S h.2 (rv_int.mpr rfl)⟩
    · rename_i xs k
      obtain ⟨p, vs, rfl, g1, g2⟩ := S.lst (xs := xs.map .d) r1 rfl
      have e := rv_int.mp r2
      subst e
      have rl := g2.toL
      exact opS op_rep ⟨p, k, vs, rfl, rfl, g1, h.1.1, h.1.2.1, size100 (by rw [← rl.len]; exact h.1.2.2), fun z hz => new_lst S (rl.rep _) h.2 q hz⟩
    · rename_i xs k
      have e := rv_int.mp r2
      subst e
      have r1' := r1
      unfold RepV Rep at r1
      obtain ⟨p, vs, rfl, g1, g2⟩ := r1
      obtain ⟨h1, h2, h3, h4⟩ := h.1
      · exact opS op_repT ⟨p, k, vs, rfl, rfl, S.sub.t g1, fun z => h1 (g2.nil_iff.mp z), h2, h3, by rw [← g2.len]; exact h4, fun z hz => new_tup S (g2.rep _) h.2 q hz⟩
    · exact h.elim
def tNeg (fe : ET) : ET := fun ρ M P x => fe ρ M (fun d M1 => match d with
  | .d (.int i) => P (.d (.int (-i))) M1
  | _ => False) x
theorem de_neg (he : DE X e fe) : DE X (.UnaryOp .USub e pos) (tNeg fe) where
  run := fun {ρ M P x} h {σ H B L Z} S E x1 {Q} q => by
    refine PE.s (pe_un un_neg pe_s) ?_
    refine he.run h S E x1 fun d M1 v B1 L1 H1 h1 e1 S1 r1 => ?_
    dsimp only at h1
    split at h1
    · exact ⟨_, rv_int.mp r1, (q.mono e1).here S1 h1 (rv_int.mpr rfl)⟩
    · exact h1.elim
/-- a module's int -/
theorem de_gint {x : Str} {i : Int} (hm : ∃ t, X.mg x = some (.int i t)) (hg : Gl X x := by rfl) (hd : (x == ("__debug__" : Str)) = false := by decide) : DE X (.Name x pos) (tC (.int i)) := by
  obtain ⟨t, hm⟩ := hm
  exact de_glob (v := .int i) hg hm ⟨t, rfl⟩ (fun _ => by simp only [Rep]) hd
/-- a class, a def of the module as a value -/
theorem de_gref {x : Str} {a : Addr} (hm : X.mg x = some (.ref a)) (hg : Gl X x := by rfl) (hd : (x == ("__debug__" : Str)) = false := by decide) : DE X (.Name x pos) (tC (.ref a)) :=
  de_glob (v := .ref a) hg hm rfl (fun _ => by simp only [Rep]) hd
/-- a built-in class as a value -/
theorem de_ty (t : TyN) {x : Str} (hm : X.mg x = none) (hv : bootBuiltins x = some (.type t.nm)) (hg : Gl X x := by rfl) (hn : x ≠ "__name__" := by decide) (hd : (x == ("__debug__" : Str)) = false := by decide) : DE X (.Name x pos) (tC (.ty t)) :=
  de_pe (v := .ty t.nm) (pe_bltn hg hm hv rfl hn hd) fun _ => by simp only [Rep]
end
/-! ### what is known of a def, a method, a class -/
section
variable (P : Program) (w : World) (K : PySem.W.Frag) (mg : Str → Option Value) (base : Heap)
structure FunG (x : Str) (st : Stmt) (ps : List Str) : Prop where
  ex : ∃ f fd, Fun K x x st f fd ∧ mg x = some (.ref f) ∧ Binds K fd ps []
structure FunM (T : ClsT) (m qual : Str) (st : Stmt) (ps : List Str) : Prop where
  ex : ∃ f fd, Fun K m qual st f fd ∧ Meth K T.C m f ∧ Binds K fd ps []
structure FunI (T : ClsT) (x qual : Str) (st : Stmt) (ps : List Str) : Prop where
  ex : ∃ f fd, Fun K "__init__" qual st f fd ∧ Mk K T.C f ∧ mg x = some (.ref T.C) ∧ Binds K fd ps []
structure BindsF (f : Addr) (fd : FuncData) (ps : List Str) : Prop where
  b : Binds K fd ps []
  is : ∃ (oc : Value) (od : Option Addr) (osl : Array (Option Value)), K.lookup f = some ⟨oc, od, .func fd, osl⟩
structure Callee (x : Str) (k : Nat) (ps : List Str) (dsp : DSp) : Prop where
  ex : ∃ f fd, mg x = some (.ref f) ∧ PySem.W.keepIn K (.ref f) = true ∧ BindsF K f fd ps ∧ FnOk P w K mg base (L2.CX P w) k f fd ps (Up K dsp)
structure CalleeM (T : ClsT) (m : Str) (k : Nat) (ps : List Str) (dsp : DSp) : Prop where
  ex : ∃ f fd, Meth K T.C m f ∧ Binds K fd ps [] ∧ FnOk P w K mg base (L2.CX P w) k f fd ps (Up K dsp)
structure CalleeI (T : ClsT) (x : Str) (k : Nat) (ps : List Str) (dsp : DSp) : Prop where
  ex : ∃ f fd, Mk K T.C f ∧ mg x = some (.ref T.C) ∧ Binds K fd ps [] ∧ FnOk P w K mg base (L2.CX P w) k f fd ps (Up K dsp)
end
section
variable {P : Program} {w : World} {K : PySem.W.Frag} {mg : Str → Option Value} {base : Heap} {x m qual : Str} {st : Stmt} {N ps : List Str} {k : Nat} {dsp : DSp} {T : ClsT}
theorem Fun.isF {K : PySem.W.Frag} {x qual : Str} {st : Stmt} {f : Addr} {fd : FuncData} (F : Fun K x qual st f fd) : ∃ (oc : Value) (od : Option Addr) (osl : Array (Option Value)), K.lookup f = some ⟨oc, od, .func fd, osl⟩ := by
  obtain ⟨oc, od, kV, doc, pm, an, cdv, ct, osl, h, lk, hcd⟩ := F.ex
  exact ⟨oc, od, osl, lk⟩
theorem callee_dl (F : FunG K mg x st ps) (S : FnScope N ps (defScope st)) (len : ∀ ds M P x, dsp ds M P x → ds.length = ps.length)
    (hbody : ∀ (f : Addr) (cdv : Value) (A : Around) (outer : List PySem.Env) (s : Shared) (H : Hp) (E : XK), Room k (A.deeper (envOfC x (defScope st) s.heap.objs.size f cdv)) →
      ∃ t, DSs (cxOf (L2.CX P w) P w K mg base N x (defScope st) f cdv A outer s H E) (defBody st) t ∧ ∀ ds M P x, dsp ds M P x → t (ends P x) (startD N ds) M) : Callee P w K mg base x (k + 1) ps dsp := by
  obtain ⟨f, fd, F, hm, hb⟩ := F.ex
  exact ⟨f, fd, hm, F.kp, ⟨hb, Fun.isF F⟩, fn_dl F S len (hbody f)⟩
theorem calleeM_dl (F : FunM K T m qual st ps) (S : FnScope N ps (defScope st)) (len : ∀ ds M P x, dsp ds M P x → ds.length = ps.length)
    (hbody : ∀ (f : Addr) (cdv : Value) (A : Around) (outer : List PySem.Env) (s : Shared) (H : Hp) (E : XK), Room k (A.deeper (envOfC qual (defScope st) s.heap.objs.size f cdv)) →
      ∃ t, DSs (cxOf (L2.CX P w) P w K mg base N qual (defScope st) f cdv A outer s H E) (defBody st) t ∧ ∀ ds M P x, dsp ds M P x → t (ends P x) (startD N ds) M) : CalleeM P w K mg base T m (k + 1) ps dsp := by
  obtain ⟨f, fd, F, hm, hb⟩ := F.ex
  exact ⟨f, fd, hm, hb, fn_dl F S len (hbody f)⟩
theorem calleeI_dl (F : FunI K mg T x qual st ps) (S : FnScope N ps (defScope st)) (len : ∀ ds M P x, dsp ds M P x → ds.length = ps.length)
    (hbody : ∀ (f : Addr) (cdv : Value) (A : Around) (outer : List PySem.Env) (s : Shared) (H : Hp) (E : XK), Room k (A.deeper (envOfC qual (defScope st) s.heap.objs.size f cdv)) →
      ∃ t, DSs (cxOf (L2.CX P w) P w K mg base N qual (defScope st) f cdv A outer s H E) (defBody st) t ∧ ∀ ds M P x, dsp ds M P x → t (ends P x) (startD N ds) M) : CalleeI P w K mg base T x (k + 1) ps dsp := by
  obtain ⟨f, fd, F, h1, h2, hb⟩ := F.ex
  exact ⟨f, fd, h1, h2, hb, fn_dl F S len (hbody f)⟩
end
section
variable {X : Cx} {x m : Str} {p pos apos : Pos} {e o : Expr} {es : List Expr} {fas : AT} {fo : ET} {k : Nat} {ps : List Str} {dsp : DSp} {T : ClsT}
def tCallN (dsp : DSp) (fas : AT) : ET := fun ρ M P x => fas ρ M (fun vs M1 => dsp vs M1 P x) x
theorem de_callN (C : Callee X.prog X.w X.K X.mg X.base x k ps dsp) (hr : Room k X.A) (ha : DA X (e :: es) fas) (hg : Gl X x := by rfl) (hdb : (x == ("__debug__" : Str)) = false := by decide) (he : starEach (e :: es) X.env = (false, eval e X.env) :: starEach es X.env := by rfl)
    (hpl : (backTo pos (starEach es X.env)).any (·.1) = false := by rfl) : DE X (.Call (.Name x p) (e :: es) [] pos) (tCallN dsp fas) where
  run := fun {ρ M P x} h {σ H B L Z} S E x1 {Q} q => by
    obtain ⟨f, fd, hm, hk, hb, F⟩ := C.ex
    refine (de_call F hr hg hm hk hb.b (dds := []) .nil (by unfold RepL; trivial) ha hdb he hpl).run (x := x) (P := P) (M := M) (ρ := ρ) ?_ S E x1 q
    unfold tCall
    simp only [List.map_nil, List.append_nil]
    exact h
theorem de_call0 (C : Callee X.prog X.w X.K X.mg X.base x k ps dsp) (hr : Room k X.A) (hg : Gl X x := by rfl) (hdb : (x == ("__debug__" : Str)) = false := by decide) : DE X (.Call (.Name x p) [] [] pos) (tCallN dsp tNil) where
  run := fun {ρ M P x} h {σ H B L Z} S E x1 {Q} q => by
    obtain ⟨f, fd, hm, hk, hb, F⟩ := C.ex
    obtain ⟨W, tk, hW⟩ := x1
    intro pins s I
    refine wpAny_Call_Name_kw (ld_glob I hg hm ?_ hdb)
    refine PySem.W.callWith_K0 I.kIn hk ?_
    exact run_fnSD (us := []) (vs := []) (dvs := []) (ds := []) (E := WE W) F hr hb.b .nil (passAt tk σ) I .nil (callOk S (show RepVs X.K B L [] [] from trivial) h q hW)
theorem de_methN {pl : Sem Bool} (C : CalleeM X.prog X.w X.K X.mg X.base T m k ps dsp) (hr : Room k X.A) (c : Cls X.K T.C) (ho : DE X o fo) (ha : DA X (e :: es) fas) (hnm : m ∉ T.ns := by first | decide | exact of_decide_eq_true rfl)
    (hst : starEach (e :: es) X.env = (false, eval e X.env) :: starEach es X.env := by rfl) (hpl : (backTo pos (starEach es X.env)).any (·.1) = false := by rfl)
    (ht : eval (.Call (.Attribute o m apos) (e :: es) [] pos) X.env = (do
      let ov ← eval o X.env
      standAt apos.atName
      let (f, first) ← holding [ov] (getMethod ov m pl)
      callWith pos f first (backTo pos (starEach (e :: es) X.env)) (backToKw pos (keywordEach [] X.env))) := by rfl) : DE X (.Call (.Attribute o m apos) (e :: es) [] pos) (tMeth T dsp fo fas) := by
  obtain ⟨f, fd, hm, hb, F⟩ := C.ex
  exact de_meth T ho c hm F hr hb ha hnm hst hpl ht
theorem de_methN0 {pl : Sem Bool} (C : CalleeM X.prog X.w X.K X.mg X.base T m k ps dsp) (hr : Room k X.A) (c : Cls X.K T.C) (ho : DE X o fo) (hnm : m ∉ T.ns := by first | decide | exact of_decide_eq_true rfl)
    (ht : eval (.Call (.Attribute o m apos) [] [] pos) X.env = (do
      let ov ← eval o X.env
      standAt apos.atName
      let (f, first) ← holding [ov] (getMethod ov m pl)
      callWith pos f first (backTo pos (starEach [] X.env)) (backToKw pos (keywordEach [] X.env))) := by rfl) : DE X (.Call (.Attribute o m apos) [] [] pos) (tMeth T dsp fo tNil) := by
  obtain ⟨f, fd, hm, hb, F⟩ := C.ex
  exact de_meth0 T ho c hm F hr hb hnm ht
theorem de_makeN (C : CalleeI X.prog X.w X.K X.mg X.base T x k ps dsp) (hr : Room (k + 1) X.A) (ha : DA X (e :: es) fas) (hg : Gl X x := by rfl) (hdb : (x == ("__debug__" : Str)) = false := by decide) (he : starEach (e :: es) X.env = (false, eval e X.env) :: starEach es X.env := by rfl)
    (hpl : (backTo pos (starEach es X.env)).any (·.1) = false := by rfl) : DE X (.Call (.Name x p) (e :: es) [] pos) (tMake T dsp fas) := by
  obtain ⟨f, fd, h1, h2, hb, F⟩ := C.ex
  exact de_make T h1 F hr hg h2 hb ha hdb he hpl
end
end DL

namespace DL
open PySem PySem.Spec PyProof.Rows L2
variable [Csts]
/-! ### a cell becomes data -/
section
variable {K : PySem.W.Frag} {B : Hp} {L : List Addr} {Z : Zs} {M : Mem} {H : Hp}
theorem StM.gone (S : StM K B L Z M H) {k : Nat} {a : Addr} {m : MO} {o : HO} (hk : L[k]? = some a) (h0 : M[k]? = some m) (hg : m.gone? = false) (hH : H a = some o) : StM K (upd B a o) L Z (M.set k .gone) H ∧ Ext B L (upd B a o) L := by
  have hB := S.out k a m hk h0 hg
  have E : Ext B L (upd B a o) L := ⟨upd_sub hB, [], by simp⟩
  have inj : ∀ j b, L[j]? = some b → j ≠ k → b ≠ a := fun j b hj n q => by
    subst q
    have h1 := (List.getElem?_eq_some_iff.mp hk).1
    have h2 := (List.getElem?_eq_some_iff.mp hj).1
    exact n ((List.getElem?_inj h2 S.nod).mp (hj.trans hk.symm))
  refine ⟨⟨fun x u hx => ?_, fun q hq => ?_, by simp [S.len], S.nod, fun j b o' hj ho hg' => ?_, fun j b m' hj hm => ?_, S.live, fun q hq => by rw [upd_ne (ne_of_none (S.cst q hq).1 hB)]; exact S.cst q hq⟩, E⟩
  · by_cases q : x = a
    · subst q
      rw [upd_same] at hx
      cases hx
      exact ⟨o, hH, rfl, fun _ => rfl⟩
    · rw [upd_ne q] at hx
      exact S.sub _ _ hx
  · obtain ⟨h1, h2, h3⟩ := S.zh q hq
    have : q.1 ≠ a := fun z => h2 (z ▸ List.mem_of_getElem? hk)
    exact ⟨h1, h2, fun z => by rw [upd_ne this]; exact h3 z⟩
  · rw [List.getElem?_set] at ho
    by_cases q : k = j
    · subst q
      have hl : k < M.length := (List.getElem?_eq_some_iff.mp h0).1
      rw [if_pos rfl, if_pos hl] at ho
      cases ho
      cases hg'
    · rw [if_neg q] at ho
      rw [upd_ne (inj j b hj (Ne.symm q))]
      exact S.out j b o' hj ho hg'
  · rw [List.getElem?_set] at hm
    by_cases q : k = j
    · subst q
      have hl : k < M.length := (List.getElem?_eq_some_iff.mp h0).1
      rw [if_pos rfl, if_pos hl] at hm
      cases hm
      trivial
    · rw [if_neg q] at hm
      exact (S.cell j b m' hj hm).mono E rfl
/-- what a cell is as data -/
def cellD : MO → Option D
  | .lst xs => (match allD xs with
    | some zs => some (.lst zs)
    | none => none)
  | .dic kvs => some (.dic kvs)
  | .ins T fs => (match allD fs with
    | some zs => if zs.length = T.ns.length then some (.obj T zs) else none
    | none => none)
  | .gone => none
theorem StM.frz (S : StM K B L Z M H) {k : Nat} {a : Addr} {m : MO} {x : D} (hk : L[k]? = some a) (h0 : M[k]? = some m) (hx : cellD m = some x) : ∃ B', StM K B' L Z (M.set k .gone) H ∧ Ext B L B' L ∧ Rep K B' x (.ref a) := by
  have c := S.cell k a m hk h0
  cases m with
  | lst xs =>
    unfold cellD at hx
    dsimp only at hx
    split at hx
    · rename_i zs hz
      cases hx
      have := allD_eq hz
      subst this
      obtain ⟨vs, g1, g2⟩ := c
      obtain ⟨S2, e2⟩ := S.gone hk h0 rfl g1
      refine ⟨_, S2, e2, ?_⟩
      unfold Rep
      exact ⟨a, vs, rfl, upd_same, RepL.mono e2.sub _ _ g2.toL⟩
    · cases hx
  | dic kvs =>
    cases hx
    obtain ⟨ws, g1, g2⟩ := c
    obtain ⟨S2, e2⟩ := S.gone hk h0 rfl g1
    refine ⟨_, S2, e2, ?_⟩
    unfold Rep
    exact ⟨a, ws, rfl, .inl upd_same, RepK.mono e2.sub _ _ g2⟩
  | ins T fs =>
    unfold cellD at hx
    dsimp only at hx
    split at hx
    · rename_i zs hz
      split at hx
      · rename_i hl
        cases hx
        have := allD_eq hz
        subst this
        obtain ⟨dx, gs, g1, g2, g3, g4⟩ := c
        obtain ⟨S2, e2⟩ := S.gone hk h0 rfl g1
        refine ⟨_, S2, e2, ?_⟩
        unfold Rep
        refine ⟨a, dx, gs, rfl, upd_same, ?_, RepL.mono e2.sub _ _ g4.toL⟩
        rw [g2, List.length_map, hl]
        exact List.take_length
      · cases hx
    · cases hx
  | gone => cases hx
end
def frzV (d : DV) (M : Mem) (P : Post) : Prop := match d with
  | .d x => P (.d x) M
  | .m k => (match M[k]? with
    | some m => (match cellD m with
      | some x => P (.d x) (M.set k .gone)
      | none => False)
    | none => False)
  | .pr _ _ => False
section
variable {X : Cx} {e : Expr} {fe : ET} {sts : List Stmt} {t : ST}
/-- the same expression; what it gives is frozen -/
def tFz (fe : ET) : ET := fun ρ M P x => fe ρ M (fun d M1 => frzV d M1 P) x
theorem de_fz (he : DE X e fe) : DE X e (tFz fe) where
  run := fun {ρ M P x} h {σ H B L Z} S E x1 {Q} q => by
    refine he.run h S E x1 fun d M1 v B1 L1 H1 h1 e1 S1 r1 => ?_
    unfold frzV at h1
    dsimp only at h1
    split at h1
    · exact q _ _ _ _ _ _ h1 e1 S1 r1
    · rename_i k
      split at h1
      · rename_i m hm
        split at h1
        · rename_i x hx
          obtain ⟨a, rfl, h2⟩ := r1
          obtain ⟨B2, S2, e2, r2⟩ := S1.frz h2 hm hx
          exact q _ _ _ _ _ _ h1 (e1.trans e2) S2 r2
        · exact h1.elim
      · exact h1.elim
    · exact h1.elim
/-- ahead of a block: the cell that the slot i holds is frozen -/
def tFrz (i : Nat) (t : ST) : ST := fun E ρ M => match ρ[i]? with
  | some (some d) => frzV d M fun d' M' => t E (ρ.set i (some d')) M'
  | _ => False
theorem dss_frz (i : Nat) (h : DSs X sts t) : DSs X sts (tFrz i t) where
  run := fun {E ρ M} h' {σ H B L Z} S V {F} l => by
    unfold tFrz at h'
    split at h'
    · rename_i d hd
      obtain ⟨v, h1, h2⟩ := V.at_ i d hd
      have set_same : σ.set i (some v) = σ := set_self h1
      unfold frzV at h'
      split at h'
      · have V2 := V.set h2 i
        rw [set_same] at V2
        exact h.run h' S V2 l
      · rename_i k
        split at h'
        · rename_i m hm
          split at h'
          · rename_i x hx
            obtain ⟨a, rfl, h3⟩ := h2
            obtain ⟨B2, S2, e2, r2⟩ := S.frz h3 hm hx
            have V2 := (V.mono e2).set (x := .d x) r2 i
            rw [set_same] at V2
            exact h.run h' S2 V2 (l.mono e2)
          · exact h'.elim
        · exact h'.elim
      · exact h'.elim
    · exact h'.elim
end
/-! ### functions of data -/
abbrev DSp0 := List D → (D → Prop) → (Value → List (Str × D) → Prop) → Prop
def Up0 (K : PySem.W.Frag) (dsp : DSp0) : Sp := fun vs H Q E => ∃ B Z ds P x, StM K B [] Z [] H ∧ RepL K B ds vs ∧ dsp ds P x ∧
  (∀ d v B' H', P d → Sub B B' → StM K B' [] Z [] H' → Rep K B' d v → Q v H') ∧
  (∀ cls fs d B' H', x cls fs → Sub B B' → StM K B' [] Z [] H' → XRep K B' d fs → E cls d H')
/-- the cells dropped -/
theorem StM.drop {K : PySem.W.Frag} {B : Hp} {L : List Addr} {Z : Zs} {M : Mem} {H : Hp} (S : StM K B L Z M H) : StM K B [] Z [] H :=
  ⟨S.sub, fun q hq => ⟨(S.zh q hq).1, by simp, (S.zh q hq).2.2⟩, rfl, List.nodup_nil, fun i a o h => by simp at h, fun i a o h => by simp at h, fun i a h => by simp at h, S.cst⟩
/-- the cells held beside -/
def heldZ (B H : Hp) : List Addr → Zs
  | [] => []
  | a :: r => match B a, H a with
    | none, some o => (a, o) :: heldZ B H r
    | _, _ => heldZ B H r
theorem mem_heldZ {B H : Hp} {q : Addr × HO} : ∀ {L : List Addr}, q ∈ heldZ B H L ↔ q.1 ∈ L ∧ B q.1 = none ∧ H q.1 = some q.2
  | [] => by simp [heldZ]
  | a :: r => by
    unfold heldZ
    split
    · rename_i h1 h2
      rw [List.mem_cons, mem_heldZ, List.mem_cons]
      constructor
      · rintro (rfl | ⟨h3, h4⟩)
        · exact ⟨.inl rfl, h1, h2⟩
        · exact ⟨.inr h3, h4⟩
      · rintro ⟨h3 | h3, h4, h5⟩
        · left
          obtain ⟨b, u⟩ := q
          simp at h3
          subst h3
          rw [h2] at h5
          cases h5
          rfl
        · exact .inr ⟨h3, h4, h5⟩
    · rename_i hne
      rw [mem_heldZ, List.mem_cons]
      constructor
      · rintro ⟨h3, h4⟩
        exact ⟨.inr h3, h4⟩
      · rintro ⟨h3 | h3, h4, h5⟩
        · subst h3
          exact absurd h5 (hne _ h4)
        · exact ⟨h3, h4, h5⟩
theorem StM.toPure {K : PySem.W.Frag} {B : Hp} {L : List Addr} {Z : Zs} {M : Mem} {H : Hp} (S : StM K B L Z M H) : StM K B [] (heldZ B H L ++ Z) [] H :=
  ⟨S.sub, fun q hq => by
    rcases List.mem_append.mp hq with h | h
    · obtain ⟨h1, h2, h3⟩ := mem_heldZ.mp h
      exact ⟨h3, by simp, fun _ => h2⟩
    · exact ⟨(S.zh q h).1, by simp, (S.zh q h).2.2⟩, rfl, List.nodup_nil, fun i a o h => by simp at h, fun i a o h => by simp at h, fun i a h => by simp at h, S.cst⟩
theorem cell_lock {K : PySem.W.Frag} {B : Hp} {L : List Addr} {H : Hp} {a : Addr} : ∀ {m : MO}, CellOk K B L H a m → m.gone? = false → ∀ u, H a = some u → isLock u = false
  | .lst _, c, _, u, h => by
    obtain ⟨vs, g, _⟩ := c
    rw [g] at h
    cases h
    rfl
  | .dic _, c, _, u, h => by
    obtain ⟨vs, g, _⟩ := c
    rw [g] at h
    cases h
    rfl
  | .ins _ _, c, _, u, h => by
    obtain ⟨dx, gs, g, _⟩ := c
    rw [g] at h
    cases h
    rfl
  | .gone, _, g, _, _ => by cases g
theorem StM.ofPure {K : PySem.W.Frag} {B B' : Hp} {L : List Addr} {Z : Zs} {M : Mem} {H H' : Hp} (S : StM K B L Z M H) (e : Sub B B') (S' : StM K B' [] (heldZ B H L ++ Z) [] H') : StM K B' L Z M H' := by
  have key : ∀ i a, L[i]? = some a → B a = none → H' a = H a := fun i a h hb => by
    cases hH : H a with
    | none => exact absurd hH (S.live i a h)
    | some o => exact (S'.zh (a, o) (List.mem_append_left _ (mem_heldZ.mpr ⟨List.mem_of_getElem? h, hb, hH⟩))).1
  refine ⟨S'.sub, fun q hq => ⟨(S'.zh q (List.mem_append_right _ hq)).1, (S.zh q hq).2.1, (S'.zh q (List.mem_append_right _ hq)).2.2⟩, S.len, S.nod, fun i a o h ho hg => ?_, fun i a m h hm => ?_, fun i a h => ?_, S'.cst⟩
  · have hb := S.out i a o h ho hg
    cases hH : H a with
    | none => exact absurd hH (S.live i a h)
    | some u => exact (S'.zh (a, u) (List.mem_append_left _ (mem_heldZ.mpr ⟨List.mem_of_getElem? h, hb, hH⟩))).2.2 (cell_lock (S.cell i a o h ho) hg u hH)
  · cases m with
    | gone => trivial
    | lst xs => exact (S.cell i a _ h hm).mono ⟨e, [], by simp⟩ (key i a h (S.out i a _ h hm rfl))
    | dic xs => exact (S.cell i a _ h hm).mono ⟨e, [], by simp⟩ (key i a h (S.out i a _ h hm rfl))
    | ins T xs => exact (S.cell i a _ h hm).mono ⟨e, [], by simp⟩ (key i a h (S.out i a _ h hm rfl))
  · cases hb : B a with
    | none => rw [key i a h hb]; exact S.live i a h
    | some o =>
      obtain ⟨o', h1, _, _⟩ := e a o hb
      obtain ⟨o2, h2, _, _⟩ := S'.sub a o' h1
      rw [h2]
      simp

/-- the wants of a body of data: only data goes out -/
def ret0 (P : D → Prop) : Post := fun d _ => match d with
  | .d z => P z
  | _ => False
def ends0 (P : D → Prop) (x : Value → List (Str × D) → Prop) : DEnds := { nx := fun _ _ => P .non, rt := ret0 P, ex := fun c fs _ _ => x c fs }
section
variable (P : Program) (w : World) (K : PySem.W.Frag) (mg : Str → Option Value) (base : Heap)
structure Callee0 (x : Str) (k : Nat) (ps : List Str) (dsp : DSp0) : Prop where
  ex : ∃ f fd, mg x = some (.ref f) ∧ PySem.W.keepIn K (.ref f) = true ∧ BindsF K f fd ps ∧ FnOk P w K mg base (L2.CX P w) k f fd ps (Up0 K dsp)
structure CalleeM0 (T : ClsT) (m : Str) (k : Nat) (ps : List Str) (dsp : DSp0) : Prop where
  ex : ∃ f fd, Meth K T.C m f ∧ Binds K fd ps [] ∧ FnOk P w K mg base (L2.CX P w) k f fd ps (Up0 K dsp)
end
section
variable {P : Program} {w : World} {K : PySem.W.Frag} {mg : Str → Option Value} {base : Heap} {x m qual : Str} {st : Stmt} {N ps : List Str} {k : Nat} {dsp : DSp0} {T : ClsT} {f : Addr} {fd : FuncData}
theorem fn_dl0 (F : Fun K x qual st f fd) (S : FnScope N ps (defScope st)) (len : ∀ ds P x, dsp ds P x → ds.length = ps.length)
    (hbody : ∀ (cdv : Value) (A : Around) (outer : List PySem.Env) (s : Shared) (H : Hp) (E : XK), Room k (A.deeper (envOfC qual (defScope st) s.heap.objs.size f cdv)) →
      ∃ t, DSs (cxOf (L2.CX P w) P w K mg base N qual (defScope st) f cdv A outer s H E) (defBody st) t ∧ ∀ ds P x, dsp ds P x → t (ends0 P x) (startD N (ds.map DV.d)) []) : FnOk P w K mg base (L2.CX P w) (k + 1) f fd ps (Up0 K dsp) := by
  refine F.okX S (fun vs H Q E h => ?_) (fun cdv A outer s H vs Q E hr h => ?_)
  · obtain ⟨B, Z, ds, P, x, _, r, hd, _⟩ := h
    rw [← r.len]
    exact len _ _ _ hd
  · obtain ⟨t, ht, hd⟩ := hbody cdv A outer s H E hr
    refine ⟨sSs (cxOf (L2.CX P w) P w K mg base N qual (defScope st) f cdv A outer s H E) (defBody st), pss_s, ?_⟩
    obtain ⟨B, Z, ds, P', x, S1, r, h1, hP, hX⟩ := h
    refine ht.run (hd _ _ _ h1) S1 (start_env (r.vs (L := []))) ⟨fun ρ' M' B' L' σ' H' a b c d => hP _ _ _ _ a b.sub c.drop (by simp only [Rep]), fun d M' v B' L' H' a b c r => ?_, fun _ _ _ _ _ _ a => a.elim, fun _ _ _ _ _ _ a => a.elim, ?_⟩
    · match d, a, r with
      | .d z, a, r => exact hP _ _ _ _ a b.sub c.drop r
    · exact ⟨fun cls d _ H => E cls d H, takes_of rfl rfl rfl rfl, fun cls fs ρ' M' d B' L' σ' H' a b c _ r => hX cls fs d B' H' a b.sub c.drop r⟩
theorem callee_dl0 (F : FunG K mg x st ps) (S : FnScope N ps (defScope st)) (len : ∀ ds P x, dsp ds P x → ds.length = ps.length)
    (hbody : ∀ (f : Addr) (cdv : Value) (A : Around) (outer : List PySem.Env) (s : Shared) (H : Hp) (E : XK), Room k (A.deeper (envOfC x (defScope st) s.heap.objs.size f cdv)) →
      ∃ t, DSs (cxOf (L2.CX P w) P w K mg base N x (defScope st) f cdv A outer s H E) (defBody st) t ∧ ∀ ds P x, dsp ds P x → t (ends0 P x) (startD N (ds.map DV.d)) []) : Callee0 P w K mg base x (k + 1) ps dsp := by
  obtain ⟨f, fd, F, hm, hb⟩ := F.ex
  exact ⟨f, fd, hm, F.kp, ⟨hb, Fun.isF F⟩, fn_dl0 F S len (hbody f)⟩
theorem calleeM_dl0 (F : FunM K T m qual st ps) (S : FnScope N ps (defScope st)) (len : ∀ ds P x, dsp ds P x → ds.length = ps.length)
    (hbody : ∀ (f : Addr) (cdv : Value) (A : Around) (outer : List PySem.Env) (s : Shared) (H : Hp) (E : XK), Room k (A.deeper (envOfC qual (defScope st) s.heap.objs.size f cdv)) →
      ∃ t, DSs (cxOf (L2.CX P w) P w K mg base N qual (defScope st) f cdv A outer s H E) (defBody st) t ∧ ∀ ds P x, dsp ds P x → t (ends0 P x) (startD N (ds.map DV.d)) []) : CalleeM0 P w K mg base T m (k + 1) ps dsp := by
  obtain ⟨f, fd, F, hm, hb⟩ := F.ex
  exact ⟨f, fd, hm, hb, fn_dl0 F S len (hbody f)⟩
/-- a function of data, called in any memory with data or frozen cells -/
theorem up_of0 : ∀ vs H Q E, Up K (fun ds M P x => match allD ds with
    | some xs => dsp xs (fun z => P (.d z) M) (fun c fs => x c fs M)
    | none => False) vs H Q E → Up0 K dsp vs H Q E := fun vs H Q E h => by
  obtain ⟨B, L, Z, ds, M, P, x, S, r, hd, hP, hX⟩ := h
  split at hd
  · rename_i xs hx
    have := allD_eq hx
    subst this
    exact ⟨B, heldZ B H L ++ Z, xs, _, _, S.toPure, r.toL, hd, fun d v B' H' a b c r => hP _ _ _ _ _ _ a ⟨b, [], by simp⟩ (S.ofPure b c) r, fun cls fs d B' H' a b c r => hX _ _ _ _ _ _ _ a ⟨b, [], by simp⟩ (S.ofPure b c) r⟩
  · exact hd.elim
def lift0 (dsp : DSp0) : DSp := fun ds M P x => match allD ds with
  | some xs => dsp xs (fun z => P (.d z) M) (fun c fs => x c fs M)
  | none => False
theorem Callee0.up (C : Callee0 P w K mg base x k ps dsp) : Callee P w K mg base x k ps (lift0 dsp) := by
  obtain ⟨f, fd, h1, h2, h3, F⟩ := C.ex
  exact ⟨f, fd, h1, h2, h3, F.imp up_of0⟩
theorem CalleeM0.up (C : CalleeM0 P w K mg base T m k ps dsp) : CalleeM P w K mg base T m k ps (lift0 dsp) := by
  obtain ⟨f, fd, h1, h3, F⟩ := C.ex
  exact ⟨f, fd, h1, h3, F.imp up_of0⟩
theorem Callee.mono {j : Nat} {dsp : DSp} (C : Callee P w K mg base x k ps dsp) (h : k ≤ j) : Callee P w K mg base x j ps dsp := by
  obtain ⟨f, fd, h1, h2, h3, F⟩ := C.ex
  exact ⟨f, fd, h1, h2, h3, F.mono h⟩
/-- one promise for all of a family -/
theorem Callee.all {ι : Type} {dsp : ι → DSp} (i0 : ι) (C : ∀ i, Callee P w K mg base x k ps (dsp i)) : Callee P w K mg base x k ps (fun ds M P' x' => ∃ i, dsp i ds M P' x') := by
  obtain ⟨f, fd, h1, h2, h3, F⟩ := (C i0).ex
  have key : ∀ i, FnOk P w K mg base (L2.CX P w) k f fd ps (Up K (dsp i)) := fun i => by
    obtain ⟨g, gd, g1, g2, g3, G⟩ := (C i).ex
    rw [h1] at g1
    cases g1
    obtain ⟨oc, od, osl, l1⟩ := h3.is
    obtain ⟨oc2, od2, osl2, l2⟩ := g3.is
    rw [l1] at l2
    cases l2
    exact G
  refine ⟨f, fd, h1, h2, h3, ⟨fun vs H Q E h => ?_, fun A outer s H args us vs Q E hr he hb hv hs => ?_⟩⟩
  · obtain ⟨B, L, Z, ds, M, P', x', h0, h1', ⟨i, h2'⟩, h3', h4⟩ := h
    exact (key i).len vs H Q E ⟨B, L, Z, ds, M, P', x', h0, h1', h2', h3', h4⟩
  · obtain ⟨B, L, Z, ds, M, P', x', h0, h1', ⟨i, h2'⟩, h3', h4⟩ := hs
    exact (key i).run A outer s H args us vs Q E hr he hb hv ⟨B, L, Z, ds, M, P', x', h0, h1', h2', h3', h4⟩
end
end DL

namespace DL
open PySem PySem.Spec PyProof.Rows L2
variable [Csts]
/-! ### isinstance -/
def tyOf : D → Option TyN
  | .non => some .non
  | .bl _ => some .bool
  | .int _ => some .int
  | .str _ => some .str
  | .lst _ => some .list
  | .frl _ => some .list
  | .tup _ => some .tuple
  | .dic _ => some .dict
  | _ => none
def tyOfV (M : Mem) : DV → Option TyN
  | .d x => tyOf x
  | .m k => match M[k]? with
    | some (.lst _) => some .list
    | some (.dic _) => some .dict
    | _ => none
  | .pr _ _ => none
def isiB (t n : TyN) : Bool := match t, n with
  | .int, .int => true
  | .bool, .bool => true
  | .bool, .int => true
  | .str, .str => true
  | .tuple, .tuple => true
  | .list, .list => true
  | .dict, .dict => true
  | .non, .non => true
  | _, _ => false
theorem isi_ok (t n : TyN) : kitB t.nm n.nm = some (isiB t n) := by
  cases t <;> cases n <;> decide +kernel
section
variable {X : Cx}
theorem ty_v {K : PySem.W.Frag} {B : Hp} {L : List Addr} {Z : Zs} {M : Mem} {H : Hp} (S : StM K B L Z M H) {d : DV} {v : V} {t : TyN} (r : RepV K B L d v) (h : tyOfV M d = some t) : TyX K H v (.type t.nm) := by
  cases d with
  | pr _ _ => cases h
  | m k =>
    unfold tyOfV at h
    dsimp only at h
    split at h
    · rename_i xs hk
      cases h
      obtain ⟨p, vs, rfl, g1, g2⟩ := S.lst r hk
      exact .base (.lst g1)
    · rename_i kvs hk
      cases h
      obtain ⟨a, rfl, h2⟩ := r
      obtain ⟨a', h3, cell⟩ := S.at_ hk
      have : a' = a := Option.some.inj (h3.symm.trans h2)
      subst this
      obtain ⟨ws, g1, g2⟩ := cell
      exact .base (.dK g1)
    · cases h
  | d x =>
    cases x <;> (unfold tyOfV tyOf at h) <;> first
      | (cases h; done)
      | skip
    · cases h
      have := rv_non.mp r
      subst this
      exact .base .non
    · cases h
      have := rv_bl.mp r
      subst this
      exact .base (.bl _)
    · cases h
      have := rv_int.mp r
      subst this
      exact .base (.int _)
    · cases h
      have := rv_str.mp r
      subst this
      exact .base (.str _)
    · cases h
      obtain ⟨p, vs, rfl, g1, g2⟩ := S.lst (xs := _) r rfl
      exact .base (.lst g1)
    · cases h
      unfold RepV Rep at r
      obtain ⟨a, vs, rfl, g1, g2⟩ := r
      rcases S.sub.l g1 with (g1 | ⟨o, g1⟩) | ⟨o, its, n, g1, g2, _⟩
      · exact .base (.lst g1)
      · exact .base (.frz g1)
      · exact .kList g1 g2
    · cases h
      unfold RepV Rep at r
      obtain ⟨a, vs, rfl, g1, g2⟩ := r
      rcases S.sub.t g1 with (g1 | ⟨o, g1⟩) | ⟨o, its, n, g1, g2, _⟩
      · exact .base (.tup g1)
      · exact .fTuple g1
      · exact .kTuple g1 g2
    · cases h
      unfold RepV Rep at r
      obtain ⟨a, vs, rfl, g1, g2⟩ := r
      rcases S.sub.rdK g1 with g1 | ⟨o, g1⟩
      · exact .base (.dK g1)
      · exact .fDict g1
def oIsi : CT := fun ds M P => match ds with
  | [d, .d (.ty n)] => (match tyOfV M d with
    | some t => P (.d (.bl (isiB t n))) M
    | none => False)
  | _ => False
theorem dc_isi : DC X (.builtin "isinstance") oIsi where
  run := fun {ds M P} h {vs B L Z H} S rs {Q} q => by
    unfold oIsi at h
    split at h
    · rename_i d n
      split at h
      · rename_i t ht
        obtain ⟨v, w, rfl, r1, r2⟩ := two_v rs
        have := rv_ty.mp r2
        subst this
        exact callS call_isi ⟨v, _, _, _, _, rfl, .ty _, ty_v S r1 ht, kit_ty (isi_ok t n), q.here S h (rv_bl.mpr rfl)⟩
      · exact h.elim
    · exact h.elim
-- isinstance(e, (T1, T2))
variable {e : Expr} {fe : ET} {pos p p1 p2 p3 : Pos} {x1 x2 : Str} {k : Nat}
def tIsi2 (t1 t2 : TyN) (fe : ET) : ET := fun ρ M P x => fe ρ M (fun d M1 => match tyOfV M1 d with
  | some t => P (.d (.bl (isiB t t1 || isiB t t2))) M1
  | none => False) x
theorem de_isi2 (t1 t2 : TyN) (hm : X.mg "isinstance" = none) (h1 : X.mg x1 = none) (h2 : X.mg x2 = none) (v1 : bootBuiltins x1 = some (.type t1.nm)) (v2 : bootBuiltins x2 = some (.type t2.nm)) (he : DE X e fe) (hg : Gl X "isinstance" := by rfl) (g1 : Gl X x1 := by rfl) (g2 : Gl X x2 := by rfl)
    (n1 : x1 ≠ "__name__" := by decide) (n2 : x2 ≠ "__name__" := by decide) (d1 : (x1 == ("__debug__" : Str)) = false := by decide) (d2 : (x2 == ("__debug__" : Str)) = false := by decide)
    (hs : starEach (e :: [.Tuple [.Name x1 p1, .Name x2 p2] k p3]) X.env = (false, eval e X.env) :: starEach [.Tuple [.Name x1 p1, .Name x2 p2] k p3] X.env := by rfl)
    (hpl : (backTo pos (starEach [.Tuple [.Name x1 p1, .Name x2 p2] k p3] X.env)).any (·.1) = false := by rfl)
    (hs2 : starEach [.Tuple [.Name x1 p1, .Name x2 p2] k p3] X.env = (false, eval (.Tuple [.Name x1 p1, .Name x2 p2] k p3) X.env) :: starEach [] X.env := by rfl)
    (hs3 : starEach [.Name x1 p1, .Name x2 p2] X.env = (false, eval (.Name x1 p1) X.env) :: starEach [.Name x2 p2] X.env := by rfl) (hs4 : starEach [.Name x2 p2] X.env = (false, eval (.Name x2 p2) X.env) :: starEach [] X.env := by rfl) :
    DE X (.Call (.Name "isinstance" p) [e, .Tuple [.Name x1 p1, .Name x2 p2] k p3] [] pos) (tIsi2 t1 t2 fe) where
  run := fun {ρ M P x} h {σ H B L Z} S E xk {Q} q => by
    refine PE.s (pe_callB call_isiT hg hm PyProof.Rows.boot_isinstance (pa_cons pe_s (pa_cons (pe_tup (pa_cons (pe_bltn (v := .ty t1.nm) g1 h1 v1 rfl n1 d1) (pa_cons (pe_bltn (v := .ty t2.nm) g2 h2 v2 rfl n2 d2) pa_nil hs4) hs3)) pa_nil hs2) hs) (by decide) (by decide) hs hpl) ?_
    refine he.run h S E xk fun d M1 v B1 L1 H1 h1 e1 S1 r1 => ?_
    dsimp only at h1
    split at h1
    · rename_i t ht
      refine ⟨by show 2 ≤ sizeLine; decide, fun z hz => ?_⟩
      obtain ⟨S2, e2⟩ := S1.newD (o := .tup [.ty t1.nm, .ty t2.nm]) hz
      refine ⟨v, z, _, _, [.type t1.nm, .type t2.nm], isiB t t1 || isiB t t2, rfl, upd_same, .cons (.ty _) (.cons (.ty _) .nil), ty_v S2 (r1.mono e2) ht, ?_, q _ _ _ _ _ _ h1 (e1.trans e2) S2 (rv_bl.mpr rfl)⟩
      exact kitAny_cons (kit_ty (isi_ok t t1)) (fun hf => by rw [hf, Bool.false_or]; exact kitAny_cons (kit_ty (isi_ok t t2)) (fun hf2 => by rw [hf2]; exact kitAny_nil) (fun ht2 => ht2)) (fun htr => by rw [htr]; rfl)
    · exact h1.elim
/-! ### slots -/
variable {o value : Expr} {fo : ET} {f : Str}
structure SloOk (K : PySem.W.Frag) (T : ClsT) : Prop where
  cls : SlX.SCls K T.C
  slot : ∀ j f, T.ns[j]? = some f → ∃ p, SlX.Slot1 K T.C f p j
def tSlo (T : ClsT) (j : Nat) (fe : ET) : ET := fun ρ M P x => fe ρ M (fun d M1 => match d with
  | .d (.slo T' fs) => T' = T ∧ (match fs[j]? with
    | some y => P (.d y) M1
    | none => False)
  | _ => False) x
theorem de_slo (T : ClsT) (j : Nat) (c : SloOk X.K T) (he : DE X e fe) (hf : T.ns[j]? = some f := by rfl) (hb : attributeBase e f X.env (eval e X.env) = eval e X.env := by rfl) : DE X (.Attribute e f pos) (tSlo T j fe) where
  run := fun {ρ M P x} h {σ H B L Z} S E x1 {Q} q => by
    refine PE.s (SlX.pe_sl pe_s hb) ?_
    refine he.run h S E x1 fun d M1 v B1 L1 H1 h1 e1 S1 r1 => ?_
    dsimp only at h1
    split at h1
    · rename_i T' fs
      obtain ⟨rfl, h1⟩ := h1
      split at h1
      · rename_i y hy
        unfold RepV Rep at r1
        obtain ⟨a, dx, vs, rfl, g1, g2, g3⟩ := r1
        obtain ⟨w, h3, h4⟩ := (g3.vs (L := L1)).get (i := j) (x := .d y) (by rw [List.getElem?_map, hy]; rfl)
        obtain ⟨ps, hp⟩ := c.slot j f hf
        refine ⟨a, T'.C, dx, ps, vs.map some, j, w, rfl, .inr ⟨S1.sub.eq g1, S1.sub.eq g2⟩, c.cls, hp, by rw [List.getElem?_map, h3]; rfl, (q.mono e1).here S1 h1 h4⟩
      · exact h1.elim
    · exact h1.elim
end
end DL

namespace DL
open PySem PySem.Spec PyProof.Rows L2
variable [Csts]
/-! ### enumerate(a tuple) -/
theorem new_enumT (tt : Addr) (vals : Array Value) : Meets (Builtin.«enumerate.__new__» ⟨[.type "enumerate", .ref tt], []⟩)
    (fun _ R st => st.heap.IsTuple tt vals ∧ R (.ok (.ret (.ref (st.heap.push { cls := .type "tuple_iterator", data := .fields #[.ref tt, .int 0 0] }).objs.size)))
      { st with heap := (st.heap.push { cls := .type "tuple_iterator", data := .fields #[.ref tt, .int 0 0] }).push { cls := .type "enumerate", data := .fields #[.none, .bool false, .ref st.heap.objs.size, rawInt 0, .none, .none] } }) :=
  .of_wp fun prog w A R st hh => by
    obtain ⟨hp0, gs0, dr0, tk0, os0⟩ := st
    obtain ⟨ht0, hh⟩ := hh
    have hsub0 := sub_enumerate
    have walk : ∀ {A' : Around} {E : Value → Shared → Prop} {Q : Value → Shared → Prop}, Q (.ref hp0.objs.size) ⟨hp0.push { cls := .type "tuple_iterator", data := .fields #[.ref tt, .int 0 0] }, gs0, dr0, tk0, os0⟩ → wpAny (model prog w) A' (pyIter (.ref tt)) Q E ⟨hp0, gs0, dr0, tk0, os0⟩ :=
      fun q => (begins_tuple tt vals).iter prog w _ _ ⟨hp0, gs0, dr0, tk0, os0⟩ _ ht0 q
    obtain ⟨ob0, hob0, hcl0, n0, hda0⟩ := id ht0
    wp_walk using walk, PySem.AutoSeq1.wpAny_loadPart' hob0
    refine wpAny_stack_any fun _ => wpAny_pure ?_
    split
    · rename_i c0 _ _ _ _ _
      cases (c0 == Value.type "enumerate") <;>
      · wp_walk using walk, PySem.AutoSeq1.wpAny_loadPart' hob0
        exact ⟨_, rfl, hh⟩
    · wp_walk using walk, PySem.AutoSeq1.wpAny_loadPart' hob0
      exact ⟨_, rfl, hh⟩
theorem call_enumT {prog : Program} {w : World} {A : Around} {E : Value → Shared → Prop} {st : Shared} {tt : Addr} {vals : Array Value} {Q : Value → Shared → Prop} (ht : st.heap.IsTuple tt vals)
    (k : ∀ h2, IsEnum h2 (st.heap.objs.size + 1) st.heap.objs.size 0 .none → h2.IsTupleIter st.heap.objs.size tt 0 → (∀ b o, st.heap.get? b = some o → h2.get? b = some o) → Q (.ref (st.heap.objs.size + 1)) { st with heap := h2 }) :
    wpAny (model prog w) A (call (.type "enumerate") [.ref tt]) Q E st := by
  refine callType_new F.called_enumerate (by decide) (F.typeCall_enumerate_1 _) (F.newCall_enumerate_1 _) (fun obj => F.args_object_init_2 obj _) F.entry_enumerate_new (new_enumT tt vals) ⟨ht, ?_⟩
  let it0 : Obj := { cls := .type "tuple_iterator", data := .fields #[.ref tt, .int 0 0] }
  have sz0 : (st.heap.push it0).objs.size = st.heap.objs.size + 1 := Heap.size_push ..
  show _ ∧ _
  rw [sz0]
  have en0 : IsEnum ((st.heap.push it0).push { cls := .type "enumerate", data := .fields #[.none, .bool false, .ref st.heap.objs.size, rawInt 0, .none, .none] }) (st.heap.objs.size + 1) st.heap.objs.size 0 .none := by
    have q0 := Heap.get?_push_size (st.heap.push it0) (o := { cls := .type "enumerate", data := .fields #[.none, .bool false, .ref st.heap.objs.size, rawInt 0, .none, .none] }) rfl
    rw [sz0] at q0
    exact q0
  exact ⟨⟨_, en0, rfl⟩, k _ en0 ⟨_, Heap.get?_push_of_some _ (Heap.get?_push_size _ rfl), rfl, rfl⟩ fun b o x => Heap.get?_push_of_some _ (Heap.get?_push_of_some _ x)⟩
def Iet (K : PySem.W.Frag) (a : Addr) : It :=
  ⟨fun i H => ∃ (zs : List V) (z : V), SqT K H a zs ∧ zs[i]? = some z, fun i H v H' => ∃ T z, v = .ref T ∧ H T = none ∧ H' = upd H T (.tup [.int (i : Nat), z]) ∧ ∀ zs, SqT K H a zs → zs[i]? = some z, fun i H => ∃ zs : List V, SqT K H a zs ∧ zs.length ≤ i⟩
theorem turn_enumT {P : Program} {w : World} {K : PySem.W.Frag} {elts : List Expr} {kk : Nat} {tpos : Pos} (a en it : Addr) :
    Turn P w K (.Tuple elts kk tpos) (Iet K a) [en, it] en (fun i h => (∃ old, IsEnum h en it ((i : Nat) : Int) old) ∧ h.IsTupleIter it a i ∧ en ≠ it) where
  mem := by simp
  obj := fun i h st b hb => by
    obtain ⟨⟨old, h1⟩, ⟨o, h2, _, h3⟩, _⟩ := st
    rcases (by simpa using hb : b = en ∨ b = it) with rfl | rfl
    · exact ⟨_, h1, fun v q => nomatch q⟩
    · exact ⟨o, h2, fun v q => by rw [h3] at q; cases q⟩
  keep := fun i h h' st k => ⟨st.1.imp fun old e => k en (by simp) _ e, st.2.1.at fun o q => k it (by simp) o q, st.2.2⟩
  item := by
    intro X hP hw hK hc i pins s σ H E I hf st hg
    subst hP hw hK
    obtain ⟨⟨old, h1⟩, h2, hne⟩ := st
    obtain ⟨zs, z, hq, hz⟩ := hg
    obtain ⟨its, rv, tp, _⟩ := I.tuple hq
    obtain ⟨u, hu, ru⟩ := rv.get hz
    have tp' : s.heap.IsTuple a its.toArray := tp
    have nait : a ≠ it := fun q => by
      obtain ⟨o, e1, e2, _⟩ := tp'
      obtain ⟨o', e3, e4, _⟩ := id h2
      rw [q, e3] at e1
      cases e1
      rw [e4] at e2
      exact absurd (Value.type.inj e2) (by decide)
    have naen : a ≠ en := fun q => by
      obtain ⟨o, e1, e2, _⟩ := tp'
      rw [q, (show s.heap.get? en = some _ from h1)] at e1
      cases e1
      exact absurd (Value.type.inj (show Value.type "enumerate" = Value.type "tuple" from e2)) (by decide)
    have lt1 : en < s.heap.objs.size := Heap.lt_size h1
    have lt2 : it < s.heap.objs.size := by
      obtain ⟨o, e, _⟩ := id h2
      exact Heap.lt_size e
    have dr := Draws.tuple (prog := X.prog) (w := X.w) (A := X.A.in1) (I.ok.hd hc) it a nait its.toArray
    have hi : i < its.toArray.size := by
      have := (List.getElem?_eq_some_iff.mp hu).1
      simpa using this
    refine wpAny_pyNext_enum_itemD dr h1 ⟨h2, tp'⟩ hi hne (by simp [hne, Ne.symm naen]) fun x h2' tk hx ho hst hT _ hk => ?_
    have ex : x = u := by
      have e2 : its.toArray[i]? = some x := hx
      rw [show its.toArray[i]? = its[i]? by simp, hu] at e2
      exact (Option.some.inj e2).symm
    subst ex
    refine ⟨_, rfl, wpAny_letOwnedTupleGo_enum (s := { s with heap := h2', toks := tk + 1 }) ho fun h3 he sb => ?_⟩
    have hT3 : h3.get? s.heap.objs.size = some { cls := .type "tuple", data := .seq #[.int i tk, x] } := (sb.2 _ (Nat.ne_of_gt lt1)).trans hT
    have nw : ObjOk X.prog X.w (upd H s.heap.objs.size (.tup [.int (i : Nat), z])) h3 s.heap.objs.size (.tup [.int (i : Nat), z]) :=
      ⟨by show 2 ≤ sizeLine; decide, [.int i tk, x], .cons ⟨_, rfl⟩ (.cons ru .nil), ⟨_, hT3, rfl, _, rfl⟩⟩
    have J : Inv X pins σ (upd H s.heap.objs.size (.tup [.int (i : Nat), z])) { s with heap := h3, toks := tk + 1 } :=
      I.turnedNew (ch := [en, it]) (fun b ob hb q => (sb.2 b (fun y => hb (by simp [y]))).trans (hk b ob (fun y => hb (by simp [y])) (fun y => hb (by simp [y])) q)) hf (Nat.le_refl _) nw
    refine ⟨.ref s.heap.objs.size, _, J, rfl, ⟨_, z, rfl, I.hok.fresh (Nat.le_refl _), rfl, fun ys hy => by rw [I.tuple_inj hy hq]; exact hz⟩, ⟨⟨x, ?_⟩, hst.1.at fun o q => (sb.2 it (Ne.symm hne)).trans q, hne⟩, fun b hb => ?_⟩
    · rw [show ((i + 1 : Nat) : Int) = (i : Int) + 1 by omega]
      exact he
    · have lt : b < s.heap.objs.size := by
        rcases (by simpa using hb : b = en ∨ b = it) with rfl | rfl
        · exact lt1
        · exact lt2
      rw [upd_ne (Nat.ne_of_lt lt)]
      exact (hf b hb).1
  done := by
    intro X hP hw hK hc i pins s σ H E I hf st hg
    subst hP hw hK
    obtain ⟨⟨old, h1⟩, h2, hne⟩ := st
    obtain ⟨zs, hq, hz⟩ := hg
    obtain ⟨its, rv, tp, _⟩ := I.tuple hq
    have tp' : s.heap.IsTuple a its.toArray := tp
    have nait : a ≠ it := fun q => by
      obtain ⟨o, e1, e2, _⟩ := tp'
      obtain ⟨o', e3, e4, _⟩ := id h2
      rw [q, e3] at e1
      cases e1
      rw [e4] at e2
      exact absurd (Value.type.inj e2) (by decide)
    have hT : s.TypeIs (.ref en) "enumerate" := ⟨_, h1, rfl⟩
    obtain ⟨f0, f1, f2, f3, f4, f5⟩ := hf it (by simp)
    have hl := rv.length
    unfold pyNext
    refine wpAny_bind (wpAny_attempt (wpAny_callSpecial?_slot (name := Str.ofString "__next__") hT F.slot_enumerate_next (wpAny_call_entry F.slot_enumerate_next hT F.entry_enumerate_next ?_ (F.args_enumerate_next_1 _))))
    show wpAny _ _ (field (.ref en) 2 >>= _) _ _ _
    refine wpAny_bind (wpAny_field h1 rfl (x := .ref it) rfl ?_)
    refine wpAny_bind (wpAny_nextOf_tuple_end (I.ok.hd hc) h2 tp' (by simp; omega) fun h3 x he hx => ?_)
    obtain ⟨o, ho, hcl⟩ := hx
    refine wpAny_bind (wpAny_isInstance (T := "StopIteration") (b := true) ⟨o, ho, hcl⟩ isSubtype_stop ?_)
    exact wpAny_pure ⟨rfl, I.turned (t' := s.toks) (fun b o hb q => he b o hb q) f0 f1 f3 f4 f5⟩
  self := fun A i s Q E st h => wpAny_pyIter_enum st.1.choose_spec h
/-- enumerate(a list or a tuple) -/
def iEnum2 (K : PySem.W.Frag) (ta : L2.TA) : L2.TI := fun σ H R => ta σ H fun vs H1 => ∃ a, vs = [.ref a] ∧ ((∃ zs, SqL K H1 a zs ∧ R (Ite K a) H1) ∨ (∃ zs, SqT K H1 a zs ∧ R (Iet K a) H1))
theorem pi_enum2 {X : Cx} {e : Expr} {ta : L2.TA} {p pos tpos : Pos} {elts : List Expr} {kk : Nat} (hg : Gl X "enumerate") (hm : X.mg "enumerate" = none) (ha : PA X [e] ta) (hs : starEach [e] X.env = [(false, eval e X.env)] := by rfl) :
    PI X (.Tuple elts kk tpos) (.Call (.Name "enumerate" p) [e] [] pos) (iEnum2 X.K ta) := by
  refine ⟨fun pins s σ H R I h => Call_ (ld_blt I hg hm boot_enumerate (PyProof.Rows.callWith_type1 (thn (ha.run pos pins s σ H _ I h) fun us s1 ⟨vs, H1, I1, r1, a, ex, q⟩ => ?_) hs rfl))⟩
  subst ex
  cases r1 with
  | cons r rr =>
    cases rr
    cases r
    have below : ∀ b ∈ [s1.heap.objs.size + 1, s1.heap.objs.size], s1.heap.objs.size ≤ b := fun b hb => by
      rcases (by simpa using hb : b = s1.heap.objs.size + 1 ∨ b = s1.heap.objs.size) with y | y
      · rw [y]; exact Nat.le_add_right _ _
      · rw [y]; exact Nat.le_refl _
    rcases q with ⟨zs, hq, q⟩ | ⟨zs, hq, q⟩
    · obtain ⟨its, rv, tp, hz⟩ := I1.list hq
      refine call_enumerate_list tp.isList fun h2 he hit _ hk => wpAny_pyIter_enum he ?_
      have I2 : Inv X pins σ H1 { s1 with heap := h2 } := I1.kept (t' := s1.toks) hk
      exact ⟨_, _, _, _, H1, rfl, I2, turn_enum a _ _, ⟨⟨.none, he⟩, hit, Nat.succ_ne_self _⟩, fun b hb => I1.fpOk (below b hb) (I1.hok.fresh (below b hb)), q⟩
    · obtain ⟨its, rv, tp, hz⟩ := I1.tuple hq
      refine call_enumT (show s1.heap.IsTuple a its.toArray from tp) fun h2 he hit hk => wpAny_pyIter_enum he ?_
      have I2 : Inv X pins σ H1 { s1 with heap := h2 } := I1.kept (t' := s1.toks) hk
      exact ⟨_, _, _, _, H1, rfl, I2, turn_enumT a _ _, ⟨⟨.none, he⟩, hit, Nat.succ_ne_self _⟩, fun b hb => I1.fpOk (below b hb) (I1.hok.fresh (below b hb)), q⟩
end DL

namespace DL
open PySem PySem.Spec PyProof.Rows L2
variable [Csts]
/-! ### enumerate -/
def pairV (i : Nat) : DV → DV
  | .d x => .d (.tup [.int (i : Int), x])
  | .m k => .pr (.int (i : Int)) k
  | .pr _ _ => .d .non
def noPr : DV → Bool
  | .pr _ _ => false
  | _ => true
def enumV (xs : List DV) : List DV := (List.range xs.length).map fun i => pairV i (xs.getD i (.d .non))
theorem enumV_len (xs : List DV) : (enumV xs).length = xs.length := by simp [enumV]
theorem enumV_get {xs : List DV} {i : Nat} {y : DV} (h : (enumV xs)[i]? = some y) : ∃ x, xs[i]? = some x ∧ y = pairV i x := by
  unfold enumV at h
  rw [List.getElem?_map] at h
  by_cases hi : i < xs.length
  · rw [List.getElem?_range hi] at h
    refine ⟨xs[i], List.getElem?_eq_getElem hi, ?_⟩
    simp at h
    rw [← h, List.getElem?_eq_getElem hi]
    rfl
  · rw [List.getElem?_eq_none (by simp; omega)] at h
    cases h
section
variable {X : Cx} {e tg : Expr} {fe : ET} {fas : AT} {p pos tpos : Pos} {elts : List Expr} {kk : Nat}
def iEnumV (fas : AT) : IT := fun ρ M R x => fas ρ M (fun ds M1 => match ds with
  | [d] => (match seqOf M1 d with
    | some xs => xs.all noPr = true ∧ R (enumV xs) (fun M' => seqOf M' d = some xs) M1
    | none => False)
  | _ => False) x
/-- the pair just made -/
theorem pair_new {K : PySem.W.Frag} {B : Hp} {L : List Addr} {Z : Zs} {M : Mem} {H : Hp} (S : StM K B L Z M H) {x : DV} {v : V} (r : RepV K B L x v) (hn : noPr x = true) (i : Nat) {T : Addr} (hT : H T = none) :
    ∃ B', Ext B L B' L ∧ StM K B' L Z M (upd H T (.tup [.int (i : Nat), v])) ∧ RepV K B' L (pairV i x) (.ref T) := by
  obtain ⟨S2, e2⟩ := S.newD (o := .tup [.int (i : Nat), v]) hT
  refine ⟨_, e2, S2, ?_⟩
  cases x with
  | pr _ _ => cases hn
  | d x =>
    show RepV K _ L (.d (.tup [.int (i : Int), x])) _
    unfold RepV Rep
    refine ⟨T, _, rfl, .inl (.inl upd_same), ?_⟩
    unfold RepL Rep
    refine ⟨rfl, ?_⟩
    unfold RepL
    exact ⟨Rep.mono e2.sub _ _ r, by unfold RepL; trivial⟩
  | m k =>
    obtain ⟨a, rfl, hk⟩ := r
    exact ⟨T, _, a, rfl, .inl (.inl upd_same), by simp only [Rep], hk⟩
theorem itd_enumV {B0 : Hp} {L0 : List Addr} {Z : Zs} {a : Addr} {xs : List DV} {d : DV} (r : RepV X.K B0 L0 d (.ref a)) (hn : xs.all noPr = true)
    (hl : ∀ B L M H, StM X.K B L [] M H → RepV X.K B L d (.ref a) → seqOf M d = some xs → ∃ vs, SqL X.K H a vs ∧ RepVs X.K B L xs vs) : Itd X Z (Ite X.K a) (enumV xs) (fun M' => seqOf M' d = some xs) B0 L0 where
  go := fun i y M' B' L' Z' H' hy st e S => by
    obtain ⟨x, hx, rfl⟩ := enumV_get hy
    obtain ⟨vs, g1, g2⟩ := hl B' L' M' H' (StM.zz (Z := []) (Z' := Z' ++ Z) (by simpa using S)) (r.mono e) st
    obtain ⟨v, h1, h2⟩ := g2.get hx
    refine ⟨⟨vs, v, g1, h1⟩, fun w H'' hw => ?_⟩
    obtain ⟨T, z, rfl, hT, rfl, hz⟩ := hw
    have : z = v := Option.some.inj ((hz vs g1).symm.trans h1)
    subst this
    exact pair_new S h2 (List.all_eq_true.mp hn x (List.mem_of_getElem? hx)) i hT
  stop := fun i M' B' L' Z' H' hi st e S => by
    obtain ⟨vs, g1, g2⟩ := hl B' L' M' H' (StM.zz (Z := []) (Z' := Z' ++ Z) (by simpa using S)) (r.mono e) st
    rw [enumV_len] at hi
    exact ⟨vs, g1, by rw [← g2.len]; exact hi⟩
theorem itd_enumT {B0 : Hp} {L0 : List Addr} {Z : Zs} {a : Addr} {ys : List D} (r : RepV X.K B0 L0 (.d (.tup ys)) (.ref a)) : Itd X Z (Iet X.K a) (enumV (ys.map DV.d)) (fun M' => seqOf M' (.d (.tup ys)) = some (ys.map DV.d)) B0 L0 where
  go := fun i y M' B' L' Z' H' hy st e S => by
    obtain ⟨x, hx, rfl⟩ := enumV_get hy
    have r2 := r.mono e
    unfold RepV Rep at r2
    obtain ⟨a2, vs, ea, g1, g2⟩ := r2
    cases ea
    obtain ⟨v, h1, h2⟩ := (g2.vs (L := L')).get hx
    refine ⟨⟨vs, v, S.sub.t g1, h1⟩, fun w H'' hw => ?_⟩
    obtain ⟨T, z, rfl, hT, rfl, hz⟩ := hw
    have : z = v := Option.some.inj ((hz vs (S.sub.t g1)).symm.trans h1)
    subst this
    have hn : noPr x = true := by
      rw [List.getElem?_map] at hx
      cases q : ys[i]? with
      | none => rw [q] at hx; cases hx
      | some z => rw [q] at hx; cases hx; rfl
    exact pair_new S h2 hn i hT
  stop := fun i M' B' L' Z' H' hi st e S => by
    have r2 := r.mono e
    unfold RepV Rep at r2
    obtain ⟨a2, vs, ea, g1, g2⟩ := r2
    cases ea
    rw [enumV_len] at hi
    exact ⟨vs, S.sub.t g1, by rw [← g2.len]; simpa using hi⟩
theorem di_enum (hg : Gl X "enumerate") (hm : X.mg "enumerate" = none) (ha : DA X [e] fas) (hs : starEach [e] X.env = [(false, eval e X.env)] := by rfl) : DI X (.Tuple elts kk tpos) (.Call (.Name "enumerate" p) [e] [] pos) (iEnumV fas) where
  run := fun {ρ M R x} h {σ H B L Z} S V x1 {RR} q => by
    refine PI.s (pi_enum2 hg hm pa_s hs) ?_
    refine ha.run h S V x1 fun ds M1 vs B1 L1 H1 h1 e1 S1 r1 => ?_
    dsimp only at h1
    split at h1
    · rename_i d
      split at h1
      · rename_i xs hx
        obtain ⟨v, rfl, r⟩ := one_v r1
        obtain ⟨hn, h1⟩ := h1
        by_cases ht : ∃ ys, d = .d (.tup ys)
        · obtain ⟨ys, rfl⟩ := ht
          have e : ys.map DV.d = xs := Option.some.inj hx
          subst e
          have r' := r
          unfold RepV Rep at r
          obtain ⟨a, ws, rfl, g1, g2⟩ := r
          exact ⟨a, rfl, .inr ⟨ws, S1.sub.t g1, q _ _ _ _ _ _ _ h1 e1 S1 (itd_enumT r')⟩⟩
        · have hl : ∀ B L M H v, StM X.K B L [] M H → RepV X.K B L d v → seqOf M d = some xs → ∃ a vs, v = .ref a ∧ SqL X.K H a vs ∧ RepVs X.K B L xs vs := by
            intro B L M H v S r hx
            cases d with
            | pr _ _ => cases hx
            | m k =>
              obtain ⟨p, vs, rfl, g1, g2⟩ := S.lst (xs := xs) r (by
                unfold seqOf at hx
                dsimp only at hx
                split at hx
                · rename_i ys hk
                  cases hx
                  exact hk
                · cases hx)
              exact ⟨p, vs, rfl, .inl (.inl g1), g2⟩
            | d x =>
              cases x with
              | lst ys =>
                have e : ys.map DV.d = xs := Option.some.inj hx
                subst e
                obtain ⟨p, vs, rfl, g1, g2⟩ := S.lst (xs := ys.map DV.d) r rfl
                exact ⟨p, vs, rfl, .inl (.inl g1), g2⟩
              | frl ys =>
                have e : ys.map DV.d = xs := Option.some.inj hx
                subst e
                unfold RepV Rep at r
                obtain ⟨p, vs, rfl, g1, g2⟩ := r
                exact ⟨p, vs, rfl, S.sub.l g1, g2.vs⟩
              | tup ys => exact absurd ⟨ys, rfl⟩ ht
              | non => cases hx
              | bl _ => cases hx
              | int _ => cases hx
              | str _ => cases hx
              | ref _ => cases hx
              | ty _ => cases hx
              | dic _ => cases hx
              | obj _ _ => cases hx
              | slo _ _ => cases hx
              | xcp _ _ _ _ => cases hx
          obtain ⟨a, ws, rfl, g1, g2⟩ := hl _ _ _ _ _ (StM.zz (Z := []) (Z' := Z) (by simpa using S1)) r hx
          refine ⟨a, rfl, .inl ⟨ws, g1, q _ _ _ _ _ _ _ h1 e1 S1 (itd_enumV r hn fun B L M H S r hx => ?_)⟩⟩
          obtain ⟨a2, us, ea, k1, k2⟩ := hl _ _ _ _ _ S r hx
          cases ea
          exact ⟨us, k1, k2⟩
      · exact h1.elim
    · exact h1.elim
end
end DL

namespace DL
open PySem PySem.Spec PyProof.Rows L2
variable [Csts]
/-! ### a dict that is walked is locked for good -/
theorem pe_lockAfter {X : Cx} {e : Expr} {te : L2.TE} (h : PE X e te) : PE X e (fun σ H Q => te σ H fun x H1 => Q x H1 ∨ ∃ d u, H1 d = some u ∧ Mut (some u) ∧ ∀ od, Q x (upd H1 d (.frz od u))) := by
  refine ⟨fun pins s σ H Q I hw => thn (h.run pins s σ H _ I hw) fun v s1 ⟨x, H1, I1, r, q⟩ => ?_⟩
  rcases q with q | ⟨d, u, hd, mu, q⟩
  · exact ⟨x, H1, I1, r, q⟩
  · obtain ⟨od, I2⟩ := I1.lock hd mu
    exact ⟨x, _, I2, r, q od⟩
theorem core_dK {o : HO} {ws : List (Key × V)} (h : core o = .dK ws) : o = .dK ws ∨ ∃ od, o = .frz od (.dK ws) := by
  cases o with
  | frz od v =>
    cases v with
    | dK w2 => right; exact ⟨od, by rw [show core (.frz od (.dK w2)) = .dK w2 from rfl] at h; rw [h]⟩
    | dT w2 => cases h
    | _ => cases h
  | _ => first | exact .inl h | cases h
theorem core_lock {o u : HO} (h1 : core o = core u) (h2 : ∃ ws, core u = .dK ws) : ∃ ws, core o = .dK ws := by
  obtain ⟨ws, e⟩ := h2
  exact ⟨ws, h1.trans e⟩
theorem lock_sub {B : Hp} {d : Addr} {ws : List (Key × V)} {od : Obj} (h : B d = some (.dK ws)) : Sub B (upd B d (.frz od (.dK ws))) := fun x u hx => by
  by_cases q : x = d
  · subst q
    rw [h] at hx
    cases hx
    exact ⟨_, upd_same, rfl, fun z => by cases z⟩
  · exact ⟨u, by rw [upd_ne q]; exact hx, rfl, fun _ => rfl⟩
section
variable {K : PySem.W.Frag} {B : Hp} {L : List Addr} {Z : Zs} {M : Mem} {H : Hp} {d : Addr} {ws : List (Key × V)}
theorem StM.lockB (S : StM K B L Z M H) (hB : B d = some (.dK ws)) {od : Obj} {H' : Hp} (hH : ∀ b, b ≠ d → H' b = H b) (hd : H' d = some (.frz od (.dK ws))) (hz : ∀ q ∈ Z, q.1 = d → H' q.1 = some q.2) :
    StM K (upd B d (.frz od (.dK ws))) L Z M H' ∧ Ext B L (upd B d (.frz od (.dK ws))) L := by
  have E : Ext B L (upd B d (.frz od (.dK ws))) L := ⟨lock_sub hB, [], by simp⟩
  refine ⟨⟨fun x u hx => ?_, fun q hq => ?_, S.len, S.nod, fun i a o h ho hg => ?_, fun i a m h hm => ?_, fun i a h => ?_, fun q hq => ?_⟩, E⟩
  · by_cases q : x = d
    · subst q
      rw [upd_same] at hx
      cases hx
      exact ⟨_, hd, rfl, fun _ => rfl⟩
    · rw [upd_ne q] at hx
      rw [hH x q]
      exact S.sub _ _ hx
  · obtain ⟨h1, h2, h3⟩ := S.zh q hq
    by_cases e : q.1 = d
    · have := hz q hq e
      rw [e, hd] at this
      refine ⟨by rw [e, hd]; exact this, h2, fun z => ?_⟩
      rw [← Option.some.inj this] at z
      cases z
    · exact ⟨by rw [hH _ e]; exact h1, h2, fun z => by rw [upd_ne e]; exact h3 z⟩
  · have h1 := S.out i a o h ho hg
    have : a ≠ d := fun z => by rw [z, hB] at h1; cases h1
    rw [upd_ne this]
    exact h1
  · by_cases g : m.gone? = true
    · cases m with
      | gone => trivial
      | _ => cases g
    · have h1 := S.out i a m h hm (by cases z : m.gone? <;> simp_all)
      have : a ≠ d := fun z => by rw [z, hB] at h1; cases h1
      exact (S.cell i a m h hm).mono E (hH a this)
  · by_cases e : a = d
    · rw [e, hd]
      simp
    · rw [hH a e]
      exact S.live i a h
  · obtain ⟨h1, h2⟩ := S.cst q hq
    have : q.1 ≠ d := fun z => by
      rw [z, hB] at h1
      rw [← Option.some.inj h1] at h2
      cases h2
    exact ⟨by rw [upd_ne this]; exact h1, h2⟩
/-- a dict of the data is locked, or can be -/
theorem StM.lockD (S : StM K B L Z M H) (h : Rd B d (.dK ws)) : (∃ o B', H d = some (.frz o (.dK ws)) ∧ B' d = some (.frz o (.dK ws)) ∧ StM K B' L Z M H ∧ Ext B L B' L) ∨
    (H d = some (.dK ws) ∧ ∀ o, ∃ B', B' d = some (.frz o (.dK ws)) ∧ StM K B' L Z M (upd H d (.frz o (.dK ws))) ∧ Ext B L B' L) := by
  rcases h with h | ⟨o, h⟩
  · obtain ⟨u, h1, h2, _⟩ := S.sub _ _ h
    rcases core_dK (h2.trans (show core (.dK ws) = .dK ws from rfl)) with rfl | ⟨od, rfl⟩
    · refine .inr ⟨h1, fun o => ⟨_, upd_same, S.lockB h (fun b hb => upd_ne hb) upd_same fun q hq e => ?_⟩⟩
      obtain ⟨g1, g2, g3⟩ := S.zh q hq
      rw [e, h1] at g1
      have g1 := Option.some.inj g1
      rw [← g1, e, h] at g3
      cases g3 rfl
    · refine .inl ⟨od, _, h1, upd_same, S.lockB h (fun b hb => rfl) h1 fun q hq e => (S.zh q hq).1⟩
  · obtain ⟨u, h1, h2, h3⟩ := S.sub _ _ h
    have := h3 rfl
    subst this
    exact .inl ⟨o, B, h1, h, S, Ext.refl B L⟩
end
/-! ### for k in d -/
def kD : Key → D
  | .inl i => .int i
  | .inr s => .str s
def keysOf (kvs : List (Key × D)) : List DV := kvs.map fun kv => .d (kD kv.1)
theorem kD_rep {K : PySem.W.Frag} {B : Hp} (k : Key) : Rep K B (kD k) (kV k) := by
  cases k <;> simp only [kD, kV, Rep]
theorem RepK.at_ {K : PySem.W.Frag} {B : Hp} : ∀ {kvs : List (Key × D)} {ws : List (Key × V)} {i : Nat} {k : Key} {v : V}, RepK K B kvs ws → ws[i]? = some (k, v) → ∃ x, kvs[i]? = some (k, x) ∧ Rep K B x v
  | [], [], _, _, _, _, e => by simp at e
  | (a, x) :: kvs, (b, u) :: ws, 0, k, v, h, e => by
    unfold RepK at h
    simp at e
    obtain ⟨rfl, rfl⟩ := e
    exact ⟨x, by simp [h.1], h.2.1⟩
  | (a, x) :: kvs, (b, u) :: ws, i + 1, k, v, h, e => by
    unfold RepK at h
    obtain ⟨y, h1, h2⟩ := RepK.at_ (i := i) h.2.2 (by simpa using e)
    exact ⟨y, by simpa using h1, h2⟩
  | [], _ :: _, _, _, _, h, _ => by unfold RepK at h; exact h.elim
  | (_, _) :: _, [], _, _, _, h, _ => by unfold RepK at h; exact h.elim
section
variable {X : Cx} {tg e : Expr} {fe : ET} {pos : Pos}
def iKeysD (fe : ET) : IT := fun ρ M R x => fe ρ M (fun d M1 => match d with
  | .d (.dic kvs) => R (keysOf kvs) (fun _ => True) M1
  | _ => False) x
theorem itd_keys {B0 : Hp} {L0 : List Addr} {Z : Zs} {d : Addr} {o : Obj} {kvs : List (Key × D)} {ws : List (Key × V)} (hB : B0 d = some (.frz o (.dK ws))) (r : RepK X.K B0 kvs ws) : Itd X Z (Itk d o ws) (keysOf kvs) (fun _ => True) B0 L0 where
  go := fun i y M' B' L' Z' H' hy st e S => by
    obtain ⟨u, h1, _, h2⟩ := e.sub _ _ hB
    have := h2 rfl
    subst this
    obtain ⟨u, h3, _, h4⟩ := S.sub _ _ h1
    have := h4 rfl
    subst this
    have hi : i < ws.length := by
      have := (List.getElem?_eq_some_iff.mp hy).1
      rw [← r.len]
      simpa [keysOf] using this
    refine ⟨⟨h3, hi⟩, fun w H'' hw => ?_⟩
    obtain ⟨rfl, k, v, hk, rfl⟩ := hw
    refine ⟨B', Ext.refl _ _, S, ?_⟩
    obtain ⟨x, hx, _⟩ := r.at_ hk
    unfold keysOf at hy
    rw [List.getElem?_map, hx] at hy
    cases hy
    exact kD_rep k
  stop := fun i M' B' L' Z' H' hi st e S => by
    obtain ⟨u, h1, _, h2⟩ := e.sub _ _ hB
    have := h2 rfl
    subst this
    obtain ⟨u, h3, _, h4⟩ := S.sub _ _ h1
    have := h4 rfl
    subst this
    refine ⟨h3, ?_⟩
    rw [← r.len]
    simpa [keysOf] using hi
theorem di_keys (he : DE X e fe) : DI X tg e (iKeysD fe) where
  run := fun {ρ M R x} h {σ H B L Z} S V x1 {RR} q => by
    refine PI.s (pi_keys (pe_lockAfter pe_s)) ?_
    refine he.run h S V x1 fun d M1 v B1 L1 H1 h1 e1 S1 r1 => ?_
    dsimp only at h1
    split at h1
    · rename_i kvs
      unfold RepV Rep at r1
      obtain ⟨a, ws, rfl, g1, g2⟩ := r1
      rcases S1.lockD g1 with ⟨o, B2, k1, k2, S2, e2⟩ | ⟨k1, k2⟩
      · exact .inl ⟨a, o, rfl, .inl ⟨ws, k1, q _ _ _ _ _ _ _ h1 (e1.trans e2) S2 (itd_keys k2 (RepK.mono e2.sub _ _ g2))⟩⟩
      · refine .inr ⟨a, _, k1, trivial, fun od => ⟨a, od, rfl, .inl ⟨ws, upd_same, ?_⟩⟩⟩
        obtain ⟨B2, k3, S2, e2⟩ := k2 od
        exact q _ _ _ _ _ _ _ h1 (e1.trans e2) S2 (itd_keys k3 (RepK.mono e2.sub _ _ g2))
    · exact h1.elim
/-! ### a known dict of the text -/
theorem de_cst {x : Str} {a : Addr} {o : Obj} {ws : List (Key × V)} {kvs : List (Key × D)} (hc : (a, HO.frz o (.dK ws)) ∈ Csts.cs) (r : ∀ B, RepK X.K B kvs ws) (hm : X.mg x = some (.ref a)) (hg : Gl X x := by rfl) (hd : (x == ("__debug__" : Str)) = false := by decide) :
    DE X (.Name x pos) (tC (.dic kvs)) where
  run := fun {ρ M P xx} h' {σ H B L Z} S E _ {Q} q => by
    refine PE.s (pe_glob (v := .ref a) hg hm rfl hd) ?_
    refine q.here S h' (v := .ref a) ?_
    unfold RepV Rep
    exact ⟨a, ws, rfl, .inr ⟨o, (S.cst _ hc).1⟩, r B⟩
/-! ### d.get(k, x) -/
variable {o f : Expr} {fo ff : ET} {apos cpos : Pos}
def tDgetD (fo fe ff : ET) : ET := fun ρ M P x => fo ρ M (fun d M1 => match d with
  | .d (.dic kvs) => fe ρ M1 (fun k M2 => ff ρ M2 (fun z M3 => match keyD k with
    | some k => P (match lookD kvs k with
      | some y => .d y
      | none => z) M3
    | none => False) x) x
  | _ => False) x
theorem de_dget2 (hu : X.A.units + 64 < cLine) (ho : DE X o fo) (he : DE X e fe) (hf : DE X f ff) (m : M2 X o "get" apos e f cpos := by exact ⟨rfl, rfl, rfl, rfl⟩) : DE X (.Call (.Attribute o "get" apos) [e, f] [] cpos) (tDgetD fo fe ff) where
  run := fun {ρ M P x} h {σ H B L Z} S V x1 {Q} q => by
    refine PE.s (pe_dget2 (by omega) pe_s pe_s pe_s m) ?_
    refine ho.run h S V x1 fun d M1 v B1 L1 H1 h1 e1 S1 r1 => ?_
    dsimp only at h1
    split at h1
    · rename_i kvs
      have r1' := r1
      unfold RepV Rep at r1
      obtain ⟨a, ws, rfl, g1, g2⟩ := r1
      refine ⟨a, rfl, .inl ⟨ws, S1.sub.rdK g1⟩, ?_⟩
      refine he.run h1 S1 (V.mono e1) (x1.mono e1) fun k M2 vk B2 L2 H2 h2 e2 S2 r2 => ?_
      refine hf.run h2 S2 (V.mono (e1.trans e2)) (x1.mono (e1.trans e2)) fun z M3 vz B3 L3 H3 h3 e3 S3 r3 => ?_
      dsimp only at h3
      split at h3
      · rename_i kk hk
        have g1' := e3.sub.rdK (e2.sub.rdK g1)
        have g2' := RepK.mono e3.sub _ _ (RepK.mono e2.sub _ _ g2)
        refine ⟨valV ws kk, .inl ⟨ws, kk, S3.sub.rdK g1', keyD_v r2 hk, rfl⟩, ?_⟩
        rcases g2'.val kk with ⟨y1, y2⟩ | ⟨y, w, y1, y2, y3⟩
        · rw [y2]
          rw [y1] at h3
          exact q _ _ _ _ _ _ h3 ((e1.trans e2).trans e3) S3 r3
        · rw [y2]
          rw [y1] at h3
          exact q _ _ _ _ _ _ h3 ((e1.trans e2).trans e3) S3 y3
      · exact h3.elim
    · exact h1.elim
/-! ### len -/
def oLenA : CT := fun ds M P => match ds with
  | [.d (.dic kvs)] => P (.d (.int kvs.length)) M
  | ds => oLen ds M P
theorem dc_lenA : DC X (.builtin "len") oLenA where
  run := fun {ds M P} h {vs B L Z H} S rs {Q} q => by
    unfold oLenA at h
    split at h
    · rename_i kvs
      obtain ⟨v, rfl, r⟩ := one_v rs
      unfold RepV Rep at r
      obtain ⟨a, ws, rfl, g1, g2⟩ := r
      intro pins s σ us I rv
      obtain ⟨u, rfl, ru⟩ := rv.one
      cases (show u = Value.ref a from ru)
      refine d_len I (S.sub.rdK g1) fun t s' I' => ⟨.int ws.length, H, I', ⟨t, rfl⟩, ?_⟩
      exact q.here S h (rv_int.mpr (by rw [g2.len]))
    · exact dc_len.run h S rs q
end
/-! ### {k: v, ..} -/
abbrev PrT := Rh → Mem → (List (Key × D) → Mem → Prop) → XPost → Prop
def sPr (X : Cx) : List (Option Expr) → List Expr → List (L2.TE × L2.TE)
  | some k :: ks, v :: vs => (sE X k, sE X v) :: sPr X ks vs
  | _, _ => []
structure DPr (X : Cx) (ks : List (Option Expr)) (vs : List Expr) (f : PrT) : Prop where
  run : ∀ {ρ M P x}, f ρ M P x → ∀ {σ H B L Z}, StM X.K B L Z M H → EnvR X.K B L σ ρ → XOk X B L Z σ x → ∀ {Q : List (V × V) → Hp → Prop},
    (∀ ps M' ws B' L' H', P ps M' → Ext B L B' L' → StM X.K B' L' Z M' H' → RepK X.K B' ps ws → Q (ws.map fun kv => (kV kv.1, kv.2)) H') → L2.tPairs (sPr X ks vs) σ H Q
def prNil : PrT := fun _ M P _ => P [] M
def prCons (fk fv : ET) (fr : PrT) : PrT := fun ρ M P x => fk ρ M (fun k M1 => match keyD k with
  | some kk => fv ρ M1 (fun v M2 => match v with
    | .d z => fr ρ M2 (fun ps M3 => P ((kk, z) :: ps) M3) x
    | _ => False) x
  | none => False) x
section
variable {X : Cx} {k v : Expr} {ks : List (Option Expr)} {vs : List Expr} {fk fv : ET} {fr : PrT} {pos : Pos}
theorem dpr_nil : DPr X [] [] prNil where
  run := fun {ρ M P x} h {σ H B L Z} S V x1 {Q} q => q [] M [] B L H h (Ext.refl B L) S (by unfold RepK; trivial)
theorem dpr_cons (hk : DE X k fk) (hv : DE X v fv) (hr : DPr X ks vs fr) : DPr X (some k :: ks) (v :: vs) (prCons fk fv fr) where
  run := fun {ρ M P x} h {σ H B L Z} S V x1 {Q} q => by
    show sE X k σ H _
    refine hk.run h S V x1 fun d M1 u B1 L1 H1 h1 e1 S1 r1 => ?_
    dsimp only at h1
    split at h1
    · rename_i kk hkk
      show sE X v σ H1 _
      refine hv.run h1 S1 (V.mono e1) (x1.mono e1) fun d2 M2 w B2 L2 H2 h2 e2 S2 r2 => ?_
      dsimp only at h2
      split at h2
      · rename_i z
        refine hr.run h2 S2 (V.mono (e1.trans e2)) (x1.mono (e1.trans e2)) fun ps M3 ws B3 L3 H3 h3 e3 S3 r3 => ?_
        have := keyD_v r1 hkk
        subst this
        exact q ((kk, z) :: ps) M3 ((kk, w) :: ws) B3 L3 H3 h3 ((e1.trans e2).trans e3) S3 (by unfold RepK; exact ⟨rfl, Rep.mono e3.sub _ _ r2, r3⟩)
      · exact h2.elim
    · exact h1.elim
def mergeD (kvs more : List (Key × D)) : List (Key × D) := more.foldl (fun acc kv => putD acc kv.1 kv.2) kvs
theorem RepK.merge {K : PySem.W.Frag} {B : Hp} : ∀ {more : List (Key × D)} {ws : List (Key × V)} {kvs : List (Key × D)} {us : List (Key × V)}, RepK K B more ws → RepK K B kvs us → RepK K B (mergeD kvs more) (mergeK us ws)
  | [], [], _, _, _, h => h
  | (a, x) :: more, (b, v) :: ws, kvs, us, h, g => by
    unfold RepK at h
    obtain ⟨rfl, h1, h2⟩ := h
    show RepK K B (mergeD (putD kvs a x) more) (mergeK (putK us a v) ws)
    exact RepK.merge h2 (RepK.put a h1 g)
  | [], _ :: _, _, _, h, _ => by unfold RepK at h; exact h.elim
  | (_, _) :: _, [], _, _, h, _ => by unfold RepK at h; exact h.elim
def tDispM (fr : PrT) : ET := fun ρ M P x => fr ρ M (fun ps M1 => ps.length ≤ 15 ∧ P (.m M1.length) (M1 ++ [.dic (mergeD [] ps)])) x
theorem pps_of (X : Cx) (pos : Pos) : ∀ {ks : List (Option Expr)} {vs : List Expr}, ks.length = vs.length → ks.all (·.isSome) = true → PPs X pos ks vs (sPr X ks vs)
  | [], [], _, _ => pps_nil
  | some k :: ks, v :: vs, h, a => pps_cons pe_s pe_s (pps_of X pos (by simpa using h) (by simpa using a))
  | none :: _, _, _, a => by simp at a
  | [], _ :: _, h, _ => by simp at h
  | _ :: _, [], h, _ => by simp at h
theorem de_dispM (hr : DPr X ks vs fr) (hall : ks.all (·.isSome) = true := by rfl) (hl : ks.length = vs.length := by rfl) (h0 : ks ≠ [] := by exact List.cons_ne_nil _ _) (h15 : ks.length ≤ 15 := by decide) : DE X (.Dict ks vs pos) (tDispM fr) where
  run := fun {ρ M P x} h {σ H B L Z} S V x1 {Q} q => by
    refine PE.s (pe_disp (pps_of X pos hl hall) hall hl h0 h15) ?_
    intro p hp
    have S0 := S.newZ (o := .dK []) hp
    have x2 : XOk X B L ((p, .dK []) :: Z) σ x := by
      obtain ⟨W, t1, t2⟩ := x1
      exact ⟨W, t1, fun cls fs M' d B' L' H' a b c e => t2 cls fs M' d B' L' H' a b c.z e⟩
    refine hr.run h S0 V x2 fun ps M1 ws B1 L1 H1 h1 e1 S1 r1 => ?_
    refine ⟨S1.zAt, ws, rfl, by rw [← r1.len]; exact h1.1, ?_⟩
    have hZ : ∀ q ∈ Z, q.1 ≠ p := S.zne hp
    have S2 := S1.putZ (u := .dK (mergeK [] ws)) rfl hZ
    obtain ⟨S3, e3⟩ := S2.cellZ (m := .dic (mergeD [] ps)) rfl hZ ⟨mergeK [] ws, upd_same, RepK.merge r1 (by unfold RepK; trivial)⟩
    refine q _ _ _ _ _ _ h1.2 (e1.trans e3) S3 ⟨p, rfl, ?_⟩
    rw [← S1.len]
    simp
end
end DL

namespace DL
open PySem PySem.Spec PyProof.Rows L2
variable [Csts]
/-! ### attributes as targets -/
section
variable {K : PySem.W.Frag} {B : Hp} {L : List Addr} {Z : Zs} {M : Mem} {H : Hp} {T : ClsT} {f : Str} {j k : Nat} {a : Addr} {fs ys : List DV} {y : DV} {u : V}
theorem StM.putFld (c : ClsOk K T) (hf : T.ns[j]? = some f) (S : StM K B L Z M H) (hk : M[k]? = some (.ins T fs)) (hL : L[k]? = some a) (hy : setF fs j y = some ys) (r : RepV K B L y u) :
    ∃ dx gs, H a = some (.ins T.C dx gs) ∧ gs.length ≤ T.ns.length ∧ StM K B L Z (M.set k (.ins T ys)) (upd H a (.ins T.C dx (putF f u gs))) := by
  obtain ⟨a', h4, cell⟩ := S.at_ hk
  have : a' = a := Option.some.inj (h4.symm.trans hL)
  subst this
  obtain ⟨dx, gs, g1, g2, g3, g4⟩ := cell
  have hlen := g4.len
  simp at hlen
  refine ⟨dx, gs, g1, by omega, S.put hL hk rfl ?_⟩
  unfold setF at hy
  split at hy
  · rename_i hj
    cases hy
    have hg : (gs.map (·.1))[j]? = some f := by rw [g2]; exact take_get hf hj
    have hnd : (gs.map (·.1)).Nodup := by rw [g2]; exact c.nd.sublist (List.take_sublist _ _)
    rw [putF_at u hg hnd]
    refine ⟨dx, _, upd_same, ?_, by simpa using g3, ?_⟩
    · rw [List.map_set, List.length_set, ← g2]
      exact set_self hg
    · rw [List.map_set]
      exact g4.set r j
  · split at hy
    · rename_i hj hj2
      subst hj2
      cases hy
      have hlt : fs.length < T.ns.length := (List.getElem?_eq_some_iff.mp hf).1
      have hnew : f ∉ gs.map (·.1) := by
        rw [g2]
        intro hm
        obtain ⟨i, hi⟩ := List.getElem?_of_mem hm
        rw [List.getElem?_take] at hi
        split at hi
        · rename_i hi2
          have h1 := (List.getElem?_inj (by omega : i < T.ns.length) c.nd).mp (hi.trans hf.symm)
          omega
        · cases hi
      rw [putF_new u hnew]
      refine ⟨dx, _, upd_same, ?_, by rw [List.length_append]; exact hlt, ?_⟩
      · rw [List.map_append, g2, List.length_append]
        show _ = List.take (fs.length + 1) T.ns
        rw [List.take_add_one, hf]
        rfl
      · rw [List.map_append]
        exact g4.snoc r
    · cases hy
end
section
variable {X : Cx} {o e : Expr} {fo fe : ET} {f : Str} {pos : Pos}
theorem pg_attr {te : L2.TE} (ho : PE X o te) (ha : ∀ v, assign (.Attribute o f pos) X.env v = (do
      let ov ← holding [v] (eval o X.env)
      standAt pos.atName
      holding [v, ov] (setAttr ov f v)
      release [v, ov] []) := by intro _; rfl) :
    PG X (.Attribute o f pos) (fun v σ H Q => te σ H fun x H1 => ∃ a C dx fs, x = .ref a ∧ H1 a = some (.ins C dx fs) ∧ Cls X.K C ∧ NoAttr X.K C f ∧ fs.length < 1000 ∧ Q σ (upd H1 a (.ins C dx (putF f v fs)))) := by
  refine ⟨fun pins s σ H v u Q I r h => ?_⟩
  rw [ha]
  refine wpAny_bind (wpAny_holding (thn (ho.run pins s σ H _ I h) fun ov s1 ⟨x, H1, I1, r1, a, C, dx, fs, ex, h1, c, n, hl, q⟩ => ?_))
  subst ex
  obtain rfl : ov = Value.ref a := r1
  refine wpAny_bind (wpAny_standAt (wpAny_bind (wpAny_holding (setattr_ok I1 h1 c n hl r fun s2 I2 => wpAny_release ⟨σ, _, I2, q⟩))))
def gFld (T : ClsT) (j : Nat) (fo : ET) : GT := fun v ρ M N => fo ρ M (fun d M1 => match d with
  | .m k => (match M1[k]? with
    | some (.ins T' fs) => T' = T ∧ (match setF fs j v with
      | some ys => N ρ (M1.set k (.ins T ys))
      | none => False)
    | _ => False)
  | _ => False) (fun _ _ _ => False)
theorem dg_fld (T : ClsT) (j : Nat) (c : ClsOk X.K T) (ho : DE X o fo) (hn : ∃ W, Takes X W := by first | exact ⟨_, takes_of rfl rfl rfl rfl⟩ | exact ⟨_, by assumption⟩ | exact ⟨_, takes0⟩) (hf : T.ns[j]? = some f := by rfl) (hl : T.ns.length < 900 := by first | decide | exact of_decide_eq_true rfl)
    (ha : ∀ v, assign (.Attribute o f pos) X.env v = (do
      let ov ← holding [v] (eval o X.env)
      standAt pos.atName
      holding [v, ov] (setAttr ov f v)
      release [v, ov] []) := by intro _; rfl) : DG X (.Attribute o f pos) (gFld T j fo) where
  run := fun {x ρ M N} h {v σ H B L Z} S V r {N'} l => by
    refine PG.s (pg_attr pe_s ha) ?_
    obtain ⟨W, tk⟩ := hn
    refine ho.run h S V ⟨W, tk, fun _ _ _ _ _ _ _ h => h.elim⟩ fun d M1 u B1 L1 H1 h1 e1 S1 r1 => ?_
    dsimp only at h1
    split at h1
    · rename_i k
      split at h1
      · rename_i T' fs hk
        obtain ⟨rfl, h1⟩ := h1
        obtain ⟨a, rfl, hL⟩ := r1
        split at h1
        · rename_i ys hy
          obtain ⟨dx, gs, g1, g2, S2⟩ := StM.putFld c hf S1 hk hL hy (r.mono e1)
          exact ⟨a, _, dx, gs, rfl, g1, c.cls, c.no f (List.mem_of_getElem? hf), by omega, l _ _ _ _ _ _ h1 e1 S2 (V.mono e1)⟩
        · exact h1.elim
      · exact h1.elim
    · exact h1.elim
/-! ### list.index, list.remove, of ints -/
/-- the items of a list -/
def lsOf (M : Mem) : DV → Option (List DV)
  | .d (.lst xs) => some (xs.map .d)
  | .m k => (match M[k]? with
    | some (.lst xs) => some xs
    | _ => none)
  | _ => none
theorem lsOf_ok {M : Mem} {d : DV} {xs : List DV} (h : lsOf M d = some xs) : lstOf M d xs := by
  unfold lsOf at h
  split at h
  · cases h
    rfl
  · split at h
    · rename_i hk
      cases h
      exact hk
    · cases h
  · cases h
def oIndex : MT := fun d ds M P => match lsOf M d, ds with
  | some xs, [.d (.int k)] => (match intsOf xs with
    | some is => k ∈ is ∧ P (.d (.int (is.idxOf k : Nat))) M
    | none => False)
  | _, _ => False
theorem flat_ints (is : List Int) : (is.map V.int).all flatV = true := by
  rw [List.all_eq_true]
  intro x hx
  obtain ⟨i, _, rfl⟩ := List.mem_map.mp hx
  rfl
theorem idx_get {is : List Int} {k : Int} (h : k ∈ is) : is[is.idxOf k]? = some k := by
  have hl := List.idxOf_lt_length_of_mem h
  rw [List.getElem?_eq_getElem hl, List.getElem_idxOf]
theorem idx_before {k : Int} : ∀ {is : List Int} {m : Nat} {z : Int}, m < is.idxOf k → is[m]? = some z → z ≠ k
  | [], _, _, h, _ => by simp at h
  | a :: r, m, z, h, e => by
    rw [List.idxOf_cons] at h
    cases q : (a == k) with
    | true =>
      rw [q] at h
      simp at h
    | false =>
      rw [q] at h
      cases m with
      | zero =>
        simp at e
        subst e
        exact fun z => by rw [z] at q; simp at q
      | succ m => exact idx_before (m := m) (by simp at h; omega) (by simpa using e)
theorem dm_index : DM X "list.index" oIndex where
  run := fun {a ds M P} h {u vs B L Z H} S r rs {Q} q => by
    unfold oIndex at h
    split at h
    · rename_i xs k hx
      split at h
      · rename_i is hi
        obtain ⟨w, rfl, rw'⟩ := one_v rs
        have := rv_int.mp rw'
        subst this
        have e := intsOf_eq hi
        subst e
        obtain ⟨p, vs, rfl, g1, g2⟩ := S.lst r (lsOf_ok hx)
        have ev := ints_v g2
        subst ev
        refine mtS mt_index ⟨p, _, _, is.idxOf k, .int k, rfl, rfl, .inl (.inl g1), rfl, flat_ints is, by rw [List.getElem?_map, idx_get h.1]; rfl, by simp [eqV], fun m z hm hz => ?_, q.here S h.2 (rv_int.mpr rfl)⟩
        rw [List.getElem?_map] at hz
        cases e : is[m]? with
        | none => rw [e] at hz; cases hz
        | some y =>
          rw [e] at hz
          cases hz
          have := idx_before hm e
          simp [eqV, this]
      · exact h.elim
    · exact h.elim
theorem ints_rep {K : PySem.W.Frag} {B : Hp} {L : List Addr} : ∀ (is : List Int), RepVs K B L (is.map fun i => .d (.int i)) (is.map V.int)
  | [] => trivial
  | i :: is => ⟨rv_int.mpr rfl, ints_rep is⟩
def oRemove : MT := fun d ds M P => onL d M fun k xs => match ds with
  | [.d (.int i)] => (match intsOf xs with
    | some is => i ∈ is ∧ P (.d .non) (M.set k (.lst ((is.erase i).map fun i => .d (.int i))))
    | none => False)
  | _ => False
theorem dm_remove : DM X "list.remove" oRemove where
  run := fun {a ds M P} h {u vs B L Z H} S r rs {Q} q => by
    obtain ⟨k, xs, rfl, hk, h⟩ := onL_of h
    split at h
    · rename_i i _
      split at h
      · rename_i is hi
        obtain ⟨w, rfl, rw'⟩ := one_v rs
        have := rv_int.mp rw'
        subst this
        have e := intsOf_eq hi
        subst e
        obtain ⟨p, vs, rfl, hL, g1, g2⟩ := cell_of S hk r
        have ev := ints_v g2
        subst ev
        intro pins s σ v us I rv rvs
        refine mt_remove pins s σ H _ _ v us _ I rv rvs ⟨p, is, i, is.idxOf i, rfl, rfl, g1, idx_get h.1, fun m hm z => idx_before hm z rfl, ?_⟩
        have ee : is.eraseIdx (is.idxOf i) = is.erase i := (List.erase_eq_eraseIdx_of_idxOf (i := is.idxOf i) rfl).symm
        rw [ee]
        exact q _ _ _ _ _ _ h.2 (Ext.refl _ _) (S.putL hL hk (ints_rep _)) (rv_non.mpr rfl)
      · exact h.elim
    · exact h.elim
end
end DL

namespace DL
open PySem PySem.Spec PyProof.Rows L2
variable [Csts]
/-! ### own specials: a def of a class, by its promise -/
def FnS (P : Program) (w : World) (K : PySem.W.Frag) (mg : Str → Option Value) (base : Heap) (k : Nat) (f : Addr) (dsp : DSp) : Prop := FnR P w K mg base (L2.CX P w) k f (Up K dsp)
section
variable (P : Program) (w : World) (K : PySem.W.Frag) (mg : Str → Option Value) (base : Heap)
/-- a special of the class (== , len) -/
structure CalleeS (T : ClsT) (m : Str) (k : Nat) (dsp : DSp) : Prop where
  ex : ∃ f, PySem.W.findIn K (.ref T.C) m = some (some (.ref f)) ∧ PySem.W.isFn K (.ref f) = true ∧ FnS P w K mg base k f dsp
/-- a property -/
structure CalleeP (T : ClsT) (m : Str) (k : Nat) (dsp : DSp) : Prop where
  ex : ∃ p f, PropOf K T.C m p f ∧ FnS P w K mg base k f dsp
end
theorem CalleeM.toS {P : Program} {w : World} {K : PySem.W.Frag} {mg : Str → Option Value} {base : Heap} {T : ClsT} {m : Str} {k : Nat} {ps : List Str} {dsp : DSp} (c : CalleeM P w K mg base T m k ps dsp) : CalleeS P w K mg base T m k dsp := by
  obtain ⟨f, fd, hm, hb, F⟩ := c.ex
  refine ⟨f, hm.at_, hm.fn, ?_⟩
  exact FnR.imp (F.raw hb .nil) fun vs H Q E h => by rw [List.append_nil]; exact h
/-- an instance of T (whatever it is made of) -/
def isInst (T : ClsT) (d : DV) (M : Mem) : Prop := match d with
  | .d (.obj T' _) => T' = T
  | .d (.slo T' _) => T' = T
  | .m k => (match M[k]? with
    | some (.ins T' _) => T' = T
    | _ => False)
  | _ => False
section
variable {X : Cx} {T : ClsT} {pins : List (Addr × Obj)} {σ : L2.St} {s : Shared}
theorem inst_at {d : DV} {M : Mem} (h : isInst T d M) {v : V} {B : Hp} {L : List Addr} {Z : Zs} {H : Hp} (S : StM X.K B L Z M H) (r : RepV X.K B L d v) (I : Inv X pins σ H s) : ∃ a ox od, v = .ref a ∧ PySem.W.InstAt s.heap a ox T.C (some od) ∧
    ((∃ dx fs, H a = some (.ins T.C dx fs)) ∨ ∃ dx vs, SlX.Slt H a T.C dx vs) := by
  have plain : ∀ a dx fs, H a = some (.ins T.C dx fs) → ∃ ox od, PySem.W.InstAt s.heap a ox T.C (some od) := fun a dx fs e => by
    obtain ⟨mA, O, _⟩ := ins_get I.hok e
    obtain ⟨od, J, _⟩ := O.look
    exact ⟨_, od, J⟩
  cases d with
  | pr _ _ => exact h.elim
  | m k =>
    unfold isInst at h
    dsimp only at h
    split at h
    · rename_i T' fs hk
      subst h
      obtain ⟨a, rfl, h2⟩ := r
      obtain ⟨a', h3, cell⟩ := S.at_ hk
      have : a' = a := Option.some.inj (h3.symm.trans h2)
      subst this
      obtain ⟨dx, gs, g1, _⟩ := cell
      obtain ⟨ox, od, J⟩ := plain a' dx gs g1
      exact ⟨a', ox, od, rfl, J, .inl ⟨dx, gs, g1⟩⟩
    · exact h.elim
  | d x =>
    cases x with
    | obj T' fs =>
      have e : T' = T := h
      subst e
      unfold RepV Rep at r
      obtain ⟨a, dx, gs, rfl, g1, _⟩ := r
      obtain ⟨ox, od, J⟩ := plain a dx gs (S.sub.eq g1)
      exact ⟨a, ox, od, rfl, J, .inl ⟨dx, gs, S.sub.eq g1⟩⟩
    | slo T' fs =>
      have e : T' = T := h
      subst e
      unfold RepV Rep at r
      obtain ⟨a, dx, vs, rfl, g1, g2, _⟩ := r
      have sl : SlX.Slt H a T'.C dx (vs.map some) := .inr ⟨S.sub.eq g1, S.sub.eq g2⟩
      obtain ⟨_, od, _, J, _⟩ := SlX.slt_inst I sl
      exact ⟨a, _, od, rfl, J, .inr ⟨dx, _, sl⟩⟩
    | _ => exact h.elim
variable {k : Nat} {dsp : DSp} {m f : Str} {o e : Expr} {fo fe : ET} {pos : Pos} {fas : AT}
/-- len(x), an own __len__ -/
def oLenOwn (T : ClsT) (dsp : DSp) : CT := fun ds M P => match ds with
  | [d] => isInst T d M ∧ dsp [d] M (fun r M' => match r with
    | .d (.int n) => (0 ≤ n ∧ n < 2 ^ 63) ∧ P (.d (.int n)) M'
    | _ => False) (fun _ _ _ => False)
  | _ => False
theorem dc_lenOwn (C : CalleeS X.prog X.w X.K X.mg X.base T "__len__" k dsp) (hr : Room (k + 1) X.A) : DC X (.builtin "len") (oLenOwn T dsp) where
  run := fun {ds M P} h {vs B L Z H} S rs {Q} q => by
    unfold oLenOwn at h
    split at h
    · rename_i d
      obtain ⟨v, rfl, r⟩ := one_v rs
      intro pins s σ us I rv
      obtain ⟨u, rfl, ru⟩ := rv.one
      obtain ⟨a, ox, od, rfl, J, _⟩ := inst_at h.1 S r I
      cases (show u = Value.ref a from ru)
      obtain ⟨g, hs, hf, F⟩ := C.ex
      obtain ⟨m, hF⟩ := I.fr
      have sp : Up X.K dsp [V.ref a] H (fun z H' => ∃ n : Int, z = .int n ∧ (0 ≤ n ∧ n < 2 ^ 63) ∧ Q (.int n) H') E0 := by
        refine ⟨B, L, Z, [d], M, _, _, S, ⟨r, trivial⟩, h.2, fun d' M' v' B' L' H' hp e S' r' => ?_, fun _ _ _ _ _ _ _ h => h.elim⟩
        split at hp
        · rename_i n
          have := rv_int.mp r'
          subst this
          exact ⟨n, rfl, hp.1, q _ _ _ _ _ _ hp.2 e S' (rv_int.mpr rfl)⟩
        · exact hp.elim
      refine PySem.W.len_K hF I.ok.mod.kin J hs hf (wpAny_mono (wpAny_call (SlX.run_at (us := [.ref a]) (ws := [.ref a]) F hr.in1 I.env0.in1 passL I (.cons rfl .nil) sp)) (fun w' s' z => ?_) fun _ _ x => x)
      obtain ⟨z, H', I', rz, n, ez, hn, qn⟩ := z
      subst ez
      obtain ⟨t, rfl⟩ := (show ∃ t, w' = Value.int n t from rz)
      exact ⟨hn, .int n, H', I'.tok _, ⟨_, rfl⟩, qn⟩
    · exact h.elim
/-- x == y, an own __eq__; y an instance of the same class, or of a built-in type -/
def tyOk (T : ClsT) (d : DV) (M : Mem) : Prop := isInst T d M ∨ ∃ t, tyOfV M d = some t
def oEqOwn (T : ClsT) (dsp : DSp) : O2 := fun a b M P => isInst T a M ∧ tyOk T b M ∧ dsp [a, b] M (fun r M' => isB (r) fun k => P (.d (.bl k)) M') (fun _ _ _ => False)
theorem tb_of {d : DV} {M : Mem} (h : tyOk T d M) (hn : ∀ t : TyN, PySem.W.notFirst X.K T.C (.type t.nm) = true) {v : V} {u : Value} {B : Hp} {L : List Addr} {Z : Zs} {H : Hp} (S : StM X.K B L Z M H) (r : RepV X.K B L d v) (I : Inv X pins σ H s) (ru : RelV v u) :
    ∃ tb, PySem.W.Looks (model X.prog X.w) s.heap (typeOf u) tb ∧ PySem.W.notFirst X.K T.C tb = true := by
  rcases h with h | ⟨t, h⟩
  · obtain ⟨a, ox, od, rfl, J, _⟩ := inst_at h S r I
    cases (show u = Value.ref a from ru)
    exact ⟨_, J.type, by simp [PySem.W.notFirst]⟩
  · obtain ⟨P, kx, hP, _⟩ := kit_of I ru (ty_v S r h)
    exact ⟨_, kx.ty _ _ I.kIn hP, hn t⟩
theorem do_eqOwn (C : CalleeS X.prog X.w X.K X.mg X.base T "__eq__" k dsp) (hr : Room k X.A) (hn : ∀ t : TyN, PySem.W.notFirst X.K T.C (.type t.nm) = true) : DO X (compareOp .Eq) (oEqOwn T dsp) where
  run := fun {a b M P} h {u v B L Z H} S r1 r2 {Q} q => by
    obtain ⟨h1, h2, h3⟩ := h
    intro pins s σ ua ub I ru rv
    obtain ⟨x, ox, od, rfl, J, _⟩ := inst_at h1 S r1 I
    cases (show ua = Value.ref x from ru)
    obtain ⟨tb, hb, hnb⟩ := tb_of h2 hn S r2 I rv
    obtain ⟨g, hs, hf, F⟩ := C.ex
    obtain ⟨m, hF⟩ := I.fr
    have sp : Up X.K dsp [V.ref x, v] H (fun z H' => ∃ k : Bool, z = .bl k ∧ Q (.bl k) H') E0 := by
      refine ⟨B, L, Z, [a, b], M, _, _, S, ⟨r1, r2, trivial⟩, h3, fun d' M' v' B' L' H' hp e S' r' => ?_, fun _ _ _ _ _ _ _ h => h.elim⟩
      obtain ⟨k, rfl, hp⟩ := hp.of
      have := rv_bl.mp r'
      subst this
      exact ⟨k, rfl, q _ _ _ _ _ _ hp e S' (rv_bl.mpr rfl)⟩
    show wpAny _ _ (richCompare .Eq (.ref x) ub) _ _ _
    refine PySem.W.cmp_K (op := .Eq) (tb := tb) hr.units0 hF I.ok.mod.kin J hb hnb hs hf (wpAny_mono (wpAny_call (run_fnR (us := [.ref x, ub]) (vs := [.ref x, v]) F hr passL I (.cons rfl (.cons rv .nil)) sp)) (fun w' s' z => ?_) fun _ _ x => x)
    obtain ⟨z, H', I', rz, k, ez, qk⟩ := z
    subst ez
    cases (show w' = Value.bool k from rz)
    exact ⟨.bl k, H', I', rfl, qk⟩
/-- x.f, a property of a plain instance -/
def tPropD (T : ClsT) (dsp : DSp) (fo : ET) : ET := fun ρ M P x => fo ρ M (fun d M1 => isInst T d M1 ∧ dsp [d] M1 P (fun _ _ _ => False)) x
theorem noCX {P : Program} {w : World} {outer : List Env} {H : Hp} {s s' : Shared} {u : Value} (c : L2.CX P w outer H s E0 u s') : False := by
  obtain ⟨a, B, H', cls, d, _, _, _, _, _, _, _, h⟩ := c
  exact h
theorem de_prop (C : CalleeP X.prog X.w X.K X.mg X.base T f k dsp) (hr : Room (k + 1) X.A) (c : PySem.W.plainGet X.K T.C f = true) (ci : (PySem.W.clsIn X.K T.C).isSome = true) (ho : DE X o fo) (hab : attributeBase o f X.env (eval o X.env) = eval o X.env := by rfl) : DE X (.Attribute o f pos) (tPropD T dsp fo) where
  run := fun {ρ M P x} h {σ H B L Z} S V x1 {Q} q => by
    intro pins s I
    have step := ho.run h S V x1 (Q := fun v H1 => ∃ d M1 B1 L1, (isInst T d M1 ∧ dsp [d] M1 P (fun _ _ _ => False)) ∧ Ext B L B1 L1 ∧ StM X.K B1 L1 Z M1 H1 ∧ RepV X.K B1 L1 d v) (fun d M1 v B1 L1 H1 h1 e1 S1 r1 => ⟨d, M1, B1, L1, h1, e1, S1, r1⟩)
    refine attr_of hab (thn (step pins s I) fun ov s1 ⟨v, H1, I1, rv, d, M1, B1, L1, h1, e1, S1, r1⟩ => ?_)
    obtain ⟨a, ox, od, rfl, J, _⟩ := inst_at h1.1 S1 r1 I1
    cases (show ov = Value.ref a from rv)
    obtain ⟨p, g, hp, F⟩ := C.ex
    obtain ⟨rest, hrec⟩ := hp.rec_
    have I2 : Inv X pins σ H1 { s1 with toks := s1.toks + 1 } := I1.tok (s1.toks + 1)
    have sp : Up X.K dsp [L2.V.ref a] H1 Q E0 := ⟨B1, L1, Z, [d], M1, _, _, S1, ⟨r1, trivial⟩, h1.2, q.mono e1, fun _ _ _ _ _ _ _ h => h.elim⟩
    refine PySem.W.get_bind I1.kIn J (PySem.W.plainGet_of c).1 (PySem.W.findObj_data ci hp.at_ hp.get hp.tak) (PySem.W.plainGet_of c).2 (wpAny_call (PySem.W.prop_get (s := { s1 with toks := s1.toks + 1 }) I1.kIn hrec ?_))
    refine codeAny_mono (F X.A.in1 X.stack { s1 with toks := s1.toks + 1 } H1 [.ref a] [.ref a] Q E0 hr.in1 I2.env0.in1 (.cons rfl .nil) sp) fun r s' hq => ?_
    cases r with
    | error e => exact (noCX hq).elim
    | ok fl =>
      cases fl with
      | ret u =>
        obtain ⟨z, H', I3, rz, qz⟩ := I2.after hq
        exact wpAny_of_eq (PySem.W.handedOut_of (handed_of rz)) ⟨z, H', I3, rz, qz⟩
      | next => exact False.elim hq
      | brk => exact False.elim hq
      | cont => exact False.elim hq
/-! ### isinstance(x, C), C an own class -/
structure IsiOk (K : PySem.W.Frag) (T : ClsT) : Prop where
  ca : PySem.W.findIn K (.ref T.C) "__class__" = some (some (.builtin "object.__class__"))
  cn : PySem.W.specialIn K (.builtin "object.__class__") "__get__" = some (some (.builtin "getset_descriptor.__get__"))
  ct : PySem.W.takesIn K (.builtin "object.__class__") = some true
  cm : PySem.W.mroIn K T.C (.type "object") = some true
  pg : PySem.W.plainGet K T.C "__class__" = true
  ic : PySem.W.isClsIn K T.C = true
  no : ∀ t : TyN, PySem.W.kitOne K (.type t.nm) (.ref T.C) = some false
def oIsiC (T : ClsT) : CT := fun ds M P => match ds with
  | [d, .d (.ref C)] => C = T.C ∧ (match d with
    | .d (.obj T' _) => T' = T ∧ P (.d (.bl true)) M
    | .d (.slo T' _) => T' = T ∧ P (.d (.bl true)) M
    | .m k => (match M[k]? with
      | some (.ins T' _) => T' = T ∧ P (.d (.bl true)) M
      | _ => (match tyOfV M (.m k) with
        | some _ => P (.d (.bl false)) M
        | none => False))
    | d => (match tyOfV M d with
      | some _ => P (.d (.bl false)) M
      | none => False))
  | _ => False
theorem oIsiC_cases {d : DV} {C : Addr} {M : Mem} {P : Post} (h : oIsiC T [d, .d (.ref C)] M P) : C = T.C ∧ ((isInst T d M ∧ P (.d (.bl true)) M) ∨ ∃ t, tyOfV M d = some t ∧ P (.d (.bl false)) M) := by
  obtain ⟨e, h⟩ := h
  refine ⟨e, ?_⟩
  split at h
  · exact .inl ⟨h.1, h.2⟩
  · exact .inl ⟨h.1, h.2⟩
  · rename_i k
    split at h
    · rename_i T' fs hk
      refine .inl ⟨?_, h.2⟩
      show (match M[k]? with
        | some (.ins T' _) => T' = T
        | _ => False)
      rw [hk]
      exact h.1
    · split at h
      · rename_i t ht
        exact .inr ⟨t, ht, h⟩
      · exact h.elim
  · split at h
    · rename_i t ht
      exact .inr ⟨t, ht, h⟩
    · exact h.elim
theorem dc_isiC (C : IsiOk X.K T) : DC X (.builtin "isinstance") (oIsiC T) where
  run := fun {ds M P} h {vs B L Z H} S rs {Q} q => by
    match ds, rs, h with
    | [d, .d (.ref c)], rs, h =>
      obtain ⟨rfl, hcs⟩ := oIsiC_cases h
      obtain ⟨v, w, rfl, r1, r2⟩ := two_v rs
      have ew : w = .ref T.C := by
        unfold RepV Rep at r2
        exact r2
      subst ew
      rcases hcs with ⟨hi, hp⟩ | ⟨t, ht, hp⟩
      · intro pins s σ us I rv
        obtain ⟨u1, u2, rfl, ru1, ru2⟩ := rv.two
        cases (show u2 = Value.ref T.C from ru2)
        obtain ⟨a, ox, od, rfl, J, _⟩ := inst_at hi S r1 I
        cases (show u1 = Value.ref a from ru1)
        have k1 : PySem.W.kitOne X.K (.ref T.C) (.ref T.C) = some true := by simp [PySem.W.kitOne]
        exact PySem.W.kia_one (OwX.kitx_slt C.ic C.pg C.ca C.cn C.ct C.cm) I.kIn J k1 (fun z => nomatch z) fun tk => ⟨.bl true, H, I.tok _, rfl, q.here S hp (rv_bl.mpr rfl)⟩
      · exact callS call_isi ⟨v, _, _, _, _, rfl, .own _, ty_v S r1 ht, C.no t, q.here S hp (rv_bl.mpr rfl)⟩
end
end DL

namespace DL
open PySem PySem.Spec PyProof.Rows L2
variable [Csts]
/-! ### {k: v for .. in ..} -/
def tDcD (fi : IT) (g : GT) (tt : TT) (fk fv : ET) (vs : List Nat) : ET := fun ρ M P x => fi ρ M (fun xs still M1 => ∃ I : Nat → List (Key × D) → Mem → Prop, I 0 [] M1 ∧
  (∀ i y acc M', xs[i]? = some y → I i acc M' → still M' ∧ g y (wipeD ρ vs) M' fun ρ2 M2 => tt ρ2 M2 (fun b M3 => (b = true → fk ρ2 M3 (fun d M4 => match keyD d with
    | some k => fv ρ2 M4 (fun z M5 => match z with
      | .d z => acc.length < 100000 ∧ I (i + 1) (putD acc k z) M5
      | _ => False) (fun _ _ _ => False)
    | none => False) (fun _ _ _ => False)) ∧ (b = false → I (i + 1) acc M3)) fun _ _ _ => False) ∧
  ∀ acc M', I xs.length acc M' → still M' ∧ P (.d (.dic acc)) M') x
section
variable {X : Cx} {kx vx tg iter : Expr} {ifs : List Expr} {scope : Scope} {own : List (Str × Nat)} {pos : Pos} {fi : IT} {g : GT} {tt : TT} {fk fv : ET}
theorem dc_reading (hi : DI X tg iter fi)
    (hg : ∀ (s : Shared) (H : Hp) (C : Addr) (cl : List (Str × Addr)) (fp : List Addr), DGw (X.blk s H scope (compEnvC scope cl C X.env) fp) tg (own.map (·.2)) g) (ht : ∀ (s : Shared) (H : Hp) (C : Addr) (cl : List (Str × Addr)) (fp : List Addr), DTs (X.blk s H scope (compEnvC scope cl C X.env) fp) ifs tt)
    (hk : ∀ (s : Shared) (H : Hp) (C : Addr) (cl : List (Str × Addr)) (fp : List Addr), DE (X.blk s H scope (compEnvC scope cl C X.env) fp) kx fk)
    (he : ∀ (s : Shared) (H : Hp) (C : Addr) (cl : List (Str × Addr)) (fp : List Addr), DE (X.blk s H scope (compEnvC scope cl C X.env) fp) vx fv)
    {ρ : Rh} {M : Mem} {P : Post} {x : XPost} (h : tDcD fi g tt fk fv (own.map (·.2)) ρ M P x) {σ : L2.St} {H B : Hp} {L : List Addr} {Z : Zs} (S : StM X.K B L Z M H) (V : EnvR X.K B L σ ρ) (x1 : XOk X B L Z σ x) {Q : VK} (q : POk X B L Z P Q) :
    L2.tDc (sI X tg iter) (blkG X scope tg) (blkT X scope ifs) (blkE X scope kx) (blkE X scope vx) (own.map (·.2)) σ H Q := by
  have nox : ∀ s0 H0 C cl fp B L Z σ, XOk (X.blk s0 H0 scope (compEnvC scope cl C X.env) fp) B L Z σ (fun _ _ _ => False) := fun _ _ _ _ _ _ _ _ _ => ⟨fun _ _ _ _ => False, takes0, fun _ _ _ _ _ _ _ h => h.elim⟩
  refine hi.run h S V x1 fun xs still M1 B1 L1 H1 J hR e1 S1 it => ?_
  obtain ⟨I, h0, hs, hd⟩ := hR
  intro D hD
  have hZ := S1.zne hD
  refine ⟨fun i m H' => i + m = xs.length ∧ ∃ acc ws M' B' L', I i acc M' ∧ Ext B1 L1 B' L' ∧ StM X.K B' L' ((D, .dK ws) :: Z) M' H' ∧ RepK X.K B' acc ws, ⟨xs.length, by omega, [], [], M1, B1, L1, h0, Ext.refl _ _, S1.newZ hD, by unfold RepK; trivial⟩, ?_⟩
  rintro i m H' ⟨hm, acc, ws, M', B', L', hI, e2, S2, r2⟩
  by_cases hl : i < xs.length
  · obtain ⟨y, hy⟩ : ∃ y, xs[i]? = some y := ⟨xs[i], List.getElem?_eq_getElem hl⟩
    obtain ⟨st, hg'⟩ := hs i y acc M' hy hI
    obtain ⟨go, yl⟩ := it.go i y M' B' L' [(D, .dK ws)] H' hy st e2 S2
    refine .inr ⟨go, fun H2 => ∃ m', m' < m ∧ (i + 1) + m' = xs.length ∧ ∃ acc ws M' B' L', I (i + 1) acc M' ∧ Ext B1 L1 B' L' ∧ StM X.K B' L' ((D, .dK ws) :: Z) M' H2 ∧ RepK X.K B' acc ws, fun _ ⟨m', a, b⟩ => ⟨m', a, b⟩, fun v H'' hy' s0 H0 C cl fp => ?_⟩
    obtain ⟨B'', e3, S3, r3⟩ := yl v H'' hy'
    refine (hg s0 H0 C cl fp).run hg' S3 ((V.mono ((e1.trans e2).trans e3)).wipe _) r3 fun ρ2 M2 B2 L2 σ2 H2 h2 e4 S4 V4 w4 => ?_
    refine ⟨w4.trans (wipe_idem _ _), fun s0 H0 C cl fp => ?_⟩
    refine (ht s0 H0 C cl fp).run h2 S4 V4 (nox ..) fun b M3 B3 L3 H3 h3 e5 S5 => ?_
    cases b with
    | false => exact ⟨m - 1, by omega, by omega, acc, ws, M3, B3, L3, (h3.2 rfl), ((e2.trans e3).trans e4).trans e5, S5, RepK.mono ((e3.trans e4).trans e5).sub _ _ r2⟩
    | true =>
      intro s0 H0 C cl fp
      refine (hk s0 H0 C cl fp).run (h3.1 rfl) S5 (V4.mono e5) (nox ..) fun d M4 v4 B4 L4 H4 h4 e6 S6 r6 => ?_
      dsimp only at h4
      split at h4
      · rename_i k hk
        intro s0 H0 C cl fp
        refine (he s0 H0 C cl fp).run h4 S6 (V4.mono (e5.trans e6)) (nox ..) fun z M5 v5 B5 L5 H5 h5 e7 S7 r7 => ?_
        dsimp only at h5
        split at h5
        · rename_i z
          have r8 := RepK.mono ((((e3.trans e4).trans e5).trans e6).trans e7).sub _ _ r2
          refine ⟨ws, k, keyD_v r6 hk, S7.zAt, by rw [← r2.len]; exact size_lt h5.1, m - 1, by omega, by omega, putD acc k z, putK ws k v5, M5, B5, L5, h5.2, ((((e2.trans e3).trans e4).trans e5).trans e6).trans e7, S7.putZ rfl hZ, RepK.put k r7 r8⟩
        · exact h5.elim
      · exact h4.elim
  · have hi' : i = xs.length := by omega
    subst hi'
    obtain ⟨st, hf⟩ := hd acc M' hI
    refine .inl ⟨it.stop _ M' B' L' [(D, .dK ws)] H' (Nat.le_refl _) st e2 S2, ?_⟩
    obtain ⟨S3, e3⟩ := S2.unZ rfl hZ
    refine q _ M' _ _ _ _ hf ((e1.trans e2).trans e3) S3 ?_
    unfold RepV Rep
    exact ⟨D, ws, rfl, .inl upd_same, RepK.mono e3.sub _ _ r2⟩
theorem de_dc (hc : X.calm = true) (hN : X.N.Nodup) (hi : DI X tg iter fi) (ok : BlkOk X.N X.env.scope scope own)
    (hg : ∀ (s : Shared) (H : Hp) (C : Addr) (cl : List (Str × Addr)) (fp : List Addr), DGw (X.blk s H scope (compEnvC scope cl C X.env) fp) tg (own.map (·.2)) g) (ht : ∀ (s : Shared) (H : Hp) (C : Addr) (cl : List (Str × Addr)) (fp : List Addr), DTs (X.blk s H scope (compEnvC scope cl C X.env) fp) ifs tt)
    (hk : ∀ (s : Shared) (H : Hp) (C : Addr) (cl : List (Str × Addr)) (fp : List Addr), DE (X.blk s H scope (compEnvC scope cl C X.env) fp) kx fk)
    (he : ∀ (s : Shared) (H : Hp) (C : Addr) (cl : List (Str × Addr)) (fp : List Addr), DE (X.blk s H scope (compEnvC scope cl C X.env) fp) vx fv) (hs : ∀ x, foldedSetIterable iter X.env x = pure x := by intro _; rfl) :
    DE X (.DictComp kx vx [⟨tg, iter, ifs, 0⟩] scope pos) (tDcD fi g tt fk fv (own.map (·.2))) where
  run := fun {ρ M P x} h {σ H B L Z} S V x1 {Q} q => PE.s (pe_dc hc hN pi_s ok (fun s0 H0 C cl fp => ⟨fun pins s σ H v u Q I r h => h s0 H0 C cl fp pins s u I r⟩) (fun s0 H0 C cl fp => ⟨fun pins s σ H Q I h => h s0 H0 C cl fp pins s I⟩) (fun s0 H0 C cl fp => ⟨fun pins s σ H Q I h => h s0 H0 C cl fp pins s I⟩) (fun s0 H0 C cl fp => ⟨fun pins s σ H Q I h => h s0 H0 C cl fp pins s I⟩) hs) (dc_reading hi hg ht hk he h S V x1 q)
end
/-! ### a class with slots, made -/
section
variable {K : PySem.W.Frag} {B : Hp} {L : List Addr} {Z Z' : Zs} {M : Mem} {H : Hp}
theorem StM.perm (S : StM K B L Z M H) (h : ∀ q ∈ Z', q ∈ Z) : StM K B L Z' M H := ⟨S.sub, fun q hq => S.zh q (h q hq), S.len, S.nod, S.out, S.cell, S.live, S.cst⟩
theorem StM.put2 {a dx : Addr} {o1 o2 u1 u2 : HO} (S : StM K B L ((a, o1) :: (dx, o2) :: Z) M H) (h1 : isLock o1 = false) (h2 : isLock o2 = false) (hne : dx ≠ a) (hz : ∀ q ∈ Z, q.1 ≠ a ∧ q.1 ≠ dx) :
    StM K B L ((a, u1) :: (dx, u2) :: Z) M (upd (upd H dx u2) a u1) := by
  have S1 : StM K B L ((dx, o2) :: (a, o1) :: Z) M H := S.perm fun q hq => by
    simp only [List.mem_cons] at hq ⊢
    rcases hq with h | h | h
    · exact .inr (.inl h)
    · exact .inl h
    · exact .inr (.inr h)
  have S2 := S1.putZ (u := u2) h2 fun q hq => by
    rcases List.mem_cons.mp hq with rfl | hq
    · exact Ne.symm hne
    · exact (hz q hq).2
  have S3 : StM K B L ((a, o1) :: (dx, u2) :: Z) M (upd H dx u2) := S2.perm fun q hq => by
    simp only [List.mem_cons] at hq ⊢
    rcases hq with h | h | h
    · exact .inr (.inl h)
    · exact .inl h
    · exact .inr (.inr h)
  exact S3.putZ (u := u1) h1 fun q hq => by
    rcases List.mem_cons.mp hq with rfl | hq
    · exact hne
    · exact (hz q hq).1
end
/-- what an own __init__ of a slotted class promises: what goes into the slots -/
abbrev DSpI := List DV → Mem → (List D → Mem → Prop) → XPost → Prop
def UpI (K : PySem.W.Frag) (T : ClsT) (dsp : DSpI) : Sp := fun vs H Q E => ∃ a dx ws B L Z ds M P x, vs = V.ref a :: ws ∧ dx ≠ a ∧ (∀ q ∈ Z, q.1 ≠ a ∧ q.1 ≠ dx) ∧ StM K B L ((a, .ins T.C dx []) :: (dx, .own a) :: Z) M H ∧ RepVs K B L ds ws ∧ dsp ds M P x ∧
  (∀ fs M' us B' L' H', P fs M' → Ext B L B' L' → StM K B' L' ((a, SlX.SlO a T.C dx (us.map some)) :: (dx, .xd []) :: Z) M' H' → RepL K B' fs us → Q .non H') ∧
  (∀ cls fs M' d B' L' H', x cls fs M' → Ext B L B' L' → StM K B' L' Z M' H' → XRep K B' d fs → E cls d H')
section
variable (P : Program) (w : World) (K : PySem.W.Frag) (mg : Str → Option Value) (base : Heap)
structure CalleeSl (T : ClsT) (x : Str) (k : Nat) (ps : List Str) (dsp : DSpI) : Prop where
  ex : ∃ f fd, Mk K T.C f ∧ mg x = some (.ref T.C) ∧ Binds K fd ps [] ∧ FnOk P w K mg base (L2.CX P w) k f fd ps (UpI K T dsp)
end
def tMakeSl (T : ClsT) (dsp : DSpI) (fas : AT) : ET := fun ρ M P x => fas ρ M (fun ds M1 => dsp ds M1 (fun fs M2 => P (.d (.slo T fs)) M2) x) x
section
variable {X : Cx} {x : Str} {p pos : Pos} {e : Expr} {es : List Expr} {fas : AT} {k : Nat} {ps : List Str} {dsp : DSpI} {T : ClsT}
theorem de_makeSl (C : CalleeSl X.prog X.w X.K X.mg X.base T x k ps dsp) (hr : Room (k + 1) X.A) (ha : DA X (e :: es) fas) (hg : Gl X x := by rfl) (hdb : (x == ("__debug__" : Str)) = false := by decide) (he : starEach (e :: es) X.env = (false, eval e X.env) :: starEach es X.env := by rfl)
    (hpl : (backTo pos (starEach es X.env)).any (·.1) = false := by rfl) : DE X (.Call (.Name x p) (e :: es) [] pos) (tMakeSl T dsp fas) where
  run := fun {ρ M P xx} h {σ H B L Z} S V x1 {Q} q => by
    obtain ⟨fI, fd, N, hm, hb, F⟩ := C.ex
    obtain ⟨W, tk, hW⟩ := x1
    intro pins s I
    refine wpAny_Call_Name_kw (ld_glob I hg hm ?_ hdb)
    refine PySem.W.callWith_K (h₀ := X.base) I.ok.mod.kin N.kp (thn (ha.run h S V ⟨W, tk, hW⟩ (Q := fun vs H1 => ∀ a dx, H1 a = none → H1 dx = none → dx ≠ a → UpI X.K T dsp (.ref a :: vs) (upd (upd H1 dx (.own a)) a (.ins T.C dx [])) (fun v H2 => v = .non ∧ Q (.ref a) H2) (WE W σ)) ?_ pos pins s I) fun us s1 hh => ?_) he hpl
    · intro ds M1 vs B1 L1 H1 h1 e1 S1 r1 a dx ha hd hne
      have S2 : StM X.K B1 L1 ((a, .ins T.C dx []) :: (dx, .own a) :: Z) M1 (upd (upd H1 dx (.own a)) a (.ins T.C dx [])) := (S1.newZ (o := .own a) hd).newZ (by rw [upd_ne (Ne.symm hne)]; exact ha)
      refine ⟨a, dx, vs, B1, L1, Z, ds, M1, _, _, rfl, hne, fun z hz => ⟨S1.zne ha z hz, S1.zne hd z hz⟩, S2, r1, h1, fun fs M' us B' L' H' hp e' S' r => ⟨rfl, ?_⟩, fun cls fs M' d B' L' H' a b c r => hW cls fs M' d B' L' H' a (e1.trans b) c r⟩
      obtain ⟨S3, e3⟩ := S'.unZ rfl fun z hz => by
        rcases List.mem_cons.mp hz with rfl | hz
        · exact hne
        · exact S1.zne ha z hz
      obtain ⟨S4, e4⟩ := S3.unZ rfl fun z hz => S1.zne hd z hz
      refine q _ _ _ _ _ _ hp (((e1.trans e').trans e3).trans e4) S4 ?_
      unfold RepV Rep
      exact ⟨a, dx, us, rfl, by rw [upd_ne (Ne.symm hne), upd_same], upd_same, RepL.mono (e3.trans e4).sub _ _ r⟩
    · obtain ⟨vs, H1, I1, rv, hq⟩ := hh
      exact ⟨I1.kIn, make_at N F hr hb tk I1 rv hq⟩
/-- self.f = e, of the instance that is being made -/
theorem ss_slot {f : Str} {o value : Expr} {fv : ET} {pos' : Pos} {B : Hp} {L : List Addr} {Z : Zs} {M : Mem} {H : Hp} {σ : L2.St} {ρ : Rh} {a dx : Addr} {us : List V} {o1 o2 : HO} {F : Ends} {xx : XPost} (c : SlX.SCls X.K T.C) (hs : ∃ p, SlX.Slot1 X.K T.C f p us.length)
    (hv : DE X value fv) (ho : ∀ H', sE X o σ H' (fun v H2 => v = .ref a ∧ H2 = H')) (h1 : isLock o1 = false) (h2 : isLock o2 = false) (hne : dx ≠ a) (hz : ∀ q ∈ Z, q.1 ≠ a ∧ q.1 ≠ dx) (S : StM X.K B L ((a, o1) :: (dx, o2) :: Z) M H) (V : EnvR X.K B L σ ρ) (x1 : XOk X B L ((a, o1) :: (dx, o2) :: Z) σ xx)
    (hsl : ∀ H', H' a = some o1 → H' dx = some o2 → SlX.Slt H' a T.C dx (us.map some)) {P : Post} (h : fv ρ M P xx)
    (q : ∀ y M' v B' L' H', P y M' → Ext B L B' L' → RepV X.K B' L' y v → StM X.K B' L' ((a, SlX.SlO a T.C dx ((us ++ [v]).map some)) :: (dx, .xd []) :: Z) M' H' → EnvR X.K B' L' σ ρ → F.nx σ H')
    (hsw : swapsWith value (some (.Attribute o f pos')) pos.line X.env = pure false := by rfl) : sS X (.Assign [.Attribute o f pos'] value pos) F σ H := by
  refine PS.s (SlX.ps_sl pe_s pe_s hsw) ?_
  refine hv.run h S V x1 fun y M1 v B1 L1 H1 hp e1 S1 r1 => ?_
  obtain ⟨p, hp1⟩ := hs
  have hq : ∀ u H2, (u = L2.V.ref a ∧ H2 = H1) → ∃ a C dx p vs i, u = L2.V.ref a ∧ SlX.Slt H2 a C dx vs ∧ SlX.SCls X.K C ∧ SlX.Slot1 X.K C f p i ∧ F.nx σ (SlX.slH H2 a C dx (SlX.putS i v vs)) := by
    rintro u H2 ⟨rfl, rfl⟩
    refine ⟨a, T.C, dx, p, us.map some, us.length, rfl, hsl _ S1.zAt (S1.z.zAt), c, hp1, ?_⟩
    have e : SlX.putS us.length v (us.map some) = (us ++ [v]).map some := by
      unfold SlX.putS
      rw [List.length_map]
      have : us.length + 1 - us.length = 1 := by omega
      rw [this]
      simp
    rw [e]
    exact q y M1 v B1 L1 _ hp e1 r1 (S1.put2 h1 h2 hne hz) (V.mono e1)
  exact fun pins s I => thn (ho H1 pins s I) fun u s' ⟨vv, H2, I2, rv, hh⟩ => ⟨vv, H2, I2, rv, hq vv H2 hh⟩
end
end DL

namespace DL
open PySem PySem.Spec PyProof.Rows L2
variable [Csts]
/-! ### properties of plain classes -/
structure FunP (K : PySem.W.Frag) (T : ClsT) (m qual : Str) (st : Stmt) (ps : List Str) : Prop where
  ex : ∃ p f fd, Fun K m qual st f fd ∧ PropOf K T.C m p f ∧ Binds K fd ps []
section
variable {P : Program} {w : World} {K : PySem.W.Frag} {mg : Str → Option Value} {base : Heap} {m qual : Str} {st : Stmt} {N ps : List Str} {k : Nat} {dsp : DSp} {T : ClsT}
theorem calleeP_dl (F : FunP K T m qual st ps) (S : FnScope N ps (defScope st)) (len : ∀ ds M P x, dsp ds M P x → ds.length = ps.length)
    (hbody : ∀ (f : Addr) (cdv : Value) (A : Around) (outer : List PySem.Env) (s : Shared) (H : Hp) (E : XK), Room k (A.deeper (envOfC qual (defScope st) s.heap.objs.size f cdv)) →
      ∃ t, DSs (cxOf (L2.CX P w) P w K mg base N qual (defScope st) f cdv A outer s H E) (defBody st) t ∧ ∀ ds M P x, dsp ds M P x → t (ends P x) (startD N ds) M) : CalleeP P w K mg base T m (k + 1) dsp := by
  obtain ⟨p, f, fd, F, hm, hb⟩ := F.ex
  exact ⟨p, f, hm, FnR.imp ((fn_dl F S len (hbody f)).raw hb .nil) fun vs H Q E h => by rw [List.append_nil]; exact h⟩
end
end DL

namespace DL
open PySem PySem.Spec PyProof.Rows L2
/-! ### a try with several named clauses -/
section
/-- what a clause's suite wants: its name goes behind it -/
def goneE (D : Ends) (i : Nat) : Ends := { nx := fun σ H => D.nx (σ.set i none) H, rt := D.rt, bk := fun σ H => D.bk (σ.set i none) H, ct := fun σ H => D.ct (σ.set i none) H }
abbrev ClauseT : Type := Value × Nat × (Addr → Value → Option Addr → L2.TS)
def wCl (K : PySem.W.Frag) (Wout : WX) (D : Ends) : List ClauseT → WX
  | [] => Wout
  | q :: r => fun cls d σ H => ∃ b, PySem.W.exmOne K cls q.1 = some b ∧ (b = true → ∀ a, H a = none → q.2.2 a cls d (goneE D q.2.1) (σ.set q.2.1 (some (.ref a))) H) ∧ (b = false → wCl K Wout D r cls d σ H)
inductive ClausesOk (X : Cx) : List ExceptHandler → List ClauseT → Prop
  | none : ClausesOk X [] []
  | more {x n : Str} {c : Value} {i : Nat} {ts : Addr → Value → Option Addr → L2.TS} {st : Stmt} {sts : List Stmt} {p1 p2 : Pos} {hds : List ExceptHandler} {l : List ClauseT} (nm : Names X x c) (at_ : X.N[i]? = some n) (lc : X.env.kindOf n = some .local)
      (su : ∀ (a : Addr) (oe : Obj) (cls : Value) (d : Option Addr) (pn : List (Addr × Obj)), Zc cls d oe → (∃ vs, oe.data = .fields vs) → PSs (X.suite a ((a, oe) :: pn)) (st :: sts) (ts a cls d)) (r : ClausesOk X hds l) :
      ClausesOk X (.ExceptHandler (some (.Name x p1)) (some n) (st :: sts) p2 :: hds) ((c, i, ts) :: l)
variable {X : Cx} {body : List Stmt} {h0 : ExceptHandler} {hds : List ExceptHandler} {l : List ClauseT} {pos : Pos} {tb : WX → L2.TS} {Wout : WX}
theorem ps_try_named (est : X.stack = X.env :: X.outer) (efr : X.env.frame = some X.env.locals) (eN : X.N.Nodup) (tk : Takes X Wout)
    (eb : ∀ (W : WX) (pn : List (Addr × Obj)) (xe : Value → Shared → Prop), Takes (X.tr pn xe) W → PassesOwn (model X.prog X.w) X.A X.env xe → PSs (X.tr pn xe) body (tb W))
    (eh : ClausesOk X (h0 :: hds) l) : PS X (.Try body (h0 :: hds) [] [] pos) (fun D σ H => tb (wCl X.K Wout D l) D σ H) where
  run := fun pins s σ H D J want => by
    have good := J.ok
    have frm : X.A.frames = some (X.env :: X.outer) := good.frames.trans (by rw [est])
    apply wpAny_Try_except
    refine wpAny_mono ((eb (wCl X.K Wout D l) (X.pn ++ pins) _ (fun u s2 air => ?_) PassesOwn.looking).run [] s σ H D (J.toTry _) want) (fun fl s2 done => ?_) (fun _ _ z => z)
    · obtain ⟨a, G, sI, pins2, τ, H2, cls, d, rfl, J0, nb, up, sky, na, eos, ag, wc⟩ := air
      have J1 : Inv X pins τ H2 sI := J0.ofTry good
      have sky1 : Sky G (X.env :: X.outer) a (Zc cls d) X.env.locals s2.heap := by
        rw [← est]
        exact sky
      show wpAny (model X.prog X.w) X.A (noteFrame (.ref a) X.env) _ _ _
      refine Sky.land Zc.steady frm efr sky1 fun hp fly up2 => ?_
      obtain ⟨ob, fv, eob, zob, dob⟩ := fly.there
      have J2 : Inv X pins τ H2 { s2 with heap := hp } := J1.landed nb fly.1 (up.trans up2) eos ag
      have apart : a ∉ frs (X.env :: X.outer) := fun hm => by
        obtain ⟨_, o2, e2, nf⟩ := fly.2.2.1.mem hm
        rw [eob] at e2
        cases e2
        exact nf _ dob
      have noL : a ≠ X.env.locals := fun z => apart (List.mem_filterMap.mpr ⟨X.env, List.mem_cons_self, efr.trans (by rw [z])⟩)
      have noF : a ∉ X.fs := fun hm => by
        obtain ⟨en, hen, qen⟩ := List.mem_filterMap.mp hm
        exact apart (List.mem_filterMap.mpr ⟨en, List.mem_cons_of_mem _ hen, qen⟩)
      have J3 := J2.suite eob dob na noL noF
      have walk : ∀ {hs2 : List ExceptHandler} {l2 : List ClauseT}, ClausesOk X hs2 l2 → wCl X.K Wout D l2 cls d τ H2 → wpAny (model X.prog X.w) X.A (handleBy (.ref a) X.env hs2) (SP X pins D) X.xe { s2 with heap := hp } := fun {hs2 l2} ck => by
        induction ck with
        | none =>
          intro wout
          apply wpAny_handleBy_nil
          obtain ⟨_, _, _, o4, f4, T4, _, _, g1, _, g3, g4, _⟩ := id fly
          unfold PySem.passOn
          refine wpAny_bind (wpAny_field g1 g3 g4 ?_)
          rw [if_neg (show ¬ ((Value.ref T4 == Value.none) = true) by simp)]
          have last : wpAny (model X.prog X.w) X.A (setFlight (.ref a) X.env.frame) (fun _ s4 => wpAny (model X.prog X.w) X.A (throw (.ref a) : Sem Flow) (SP X pins D) X.xe s4) X.xe { s2 with heap := hp } := by
            rw [efr]
            exact HandSPX.setFlight_upZ fly fun h4 held up4 => wpAny_throw (tk _ _ ⟨a, G, sI, pins, τ, H2, cls, d, rfl, J1, nb, (up.trans up2).trans up4, .inr (.inr (by rw [est]; exact held)), na, eos, ag, wout⟩)
          first
            | exact wpAny_bind (wpAny_pure (wpAny_bind last))
            | exact wpAny_bind last
        | @more x n c i ts st sts p1 p2 hs3 l3 nm at_ lc su r ih =>
          rintro ⟨b, eb1, yes, no⟩
          refine wpAny_handleBy_cons (codeAny_handlers_test ?_) (fun q => by cases q)
          have look : PySem.W.Looks (model X.prog X.w) hp (typeOf (.ref a)) cls := fun A Q E s k q => wpAny_typeOf_ref (k _ _ eob) (by rw [zob.1]; exact q)
          have hit := PySem.W.exm_one (M := model X.prog X.w) J2.kIn look eb1
          have named : ∀ {Q : Value → Shared → Prop} {E : Value → Shared → Prop}, Q c { s2 with heap := hp } → wpAny (model X.prog X.w) (X.A.mark (some (.ref a))) (eval (.Name x p1) X.env) Q E { s2 with heap := hp } := fun {Q E} qc => by
            obtain ⟨n1, n2, n3⟩ := nm
            rcases n3 with n3 | ⟨n3, n4, n5⟩
            · exact ld_glob (X := X.suite a ((a, ob) :: (X.pn ++ pins))) J3 n1 n3 qc n2
            · exact ld_blt (X := X.suite a ((a, ob) :: (X.pn ++ pins))) J3 n1 n3 n4 qc n5 n2
          refine named (hit.here ?_)
          cases b with
          | false =>
            show wpAny _ X.A (handleBy (.ref a) X.env hs3) _ _ _
            exact ih (no rfl)
          | true =>
            apply codeAny_handlers_suite_as
            refine HandSPX.lands_againZ fly fun h4 fly4 up4 => ?_
            obtain ⟨ob4, fv4, eob4, zob4, dob4⟩ := fly4.there
            have J4 : Inv X pins τ H2 { s2 with heap := h4 } := J1.landed nb fly4.1 ((up.trans up2).trans up4) eos ag
            refine store_ok (X := X.suite a ((a, ob4) :: (X.pn ++ pins))) (v := .ref a) (J4.suite eob4 dob4 na noL noF) eN at_ (.inl lc) rfl (fun s5 J5 => ?_) (.inr lc)
            refine wpAny_mono ((su a ob4 cls d (X.pn ++ pins) zob4 ⟨_, dob4⟩).run [] s5 _ H2 _ J5 (yes rfl a na)) (fun fl s6 out => ?_) (fun _ _ z => False.elim z)
            have behind : ∀ {τ6 : L2.St} {H6 : Hp} {Q : Shared → Prop}, Inv (X.suite a ((a, ob4) :: (X.pn ++ pins))) [] τ6 H6 s6 → (∀ s7, Inv X pins (τ6.set i none) H6 s7 → Q s7) →
                wpAny (model X.prog X.w) X.A (do bindName X.env n .none; unbindBehindTheSuite X.env n p2) (fun _ s7 => Q s7) X.xe s6 := fun {τ6 H6 Q} J6 qq => gone_ok (J6.unsuite good) eN at_ lc qq
            cases fl with
            | ret u =>
              obtain ⟨v6, τ6, H6, J6, r6, q6⟩ := out
              exact behind J6 fun s7 J7 => ⟨_, _, _, J7, r6, q6⟩
            | next =>
              obtain ⟨τ6, H6, J6, q6⟩ := out
              exact behind J6 fun s7 J7 => ⟨_, _, J7, q6⟩
            | brk =>
              obtain ⟨τ6, H6, J6, q6⟩ := out
              exact behind J6 fun s7 J7 => ⟨_, _, J7, q6⟩
            | cont =>
              obtain ⟨τ6, H6, J6, q6⟩ := out
              exact behind J6 fun s7 J7 => ⟨_, _, J7, q6⟩
      exact walk eh wc
    · cases fl with
      | ret u =>
        obtain ⟨v, τ, H2, J0, r, q⟩ := done
        exact ⟨v, τ, H2, J0.ofTry good, r, q⟩
      | next =>
        obtain ⟨τ, H2, J0, q⟩ := done
        exact wpAny_execs_nil ⟨τ, H2, J0.ofTry good, q⟩
      | brk =>
        obtain ⟨τ, H2, J0, q⟩ := done
        exact ⟨τ, H2, J0.ofTry good, q⟩
      | cont =>
        obtain ⟨τ, H2, J0, q⟩ := done
        exact ⟨τ, H2, J0.ofTry good, q⟩
end
variable [Csts]
/-! ### raise -/
abbrev MkT := Rh → Mem → XPost → XPost → Prop
def sMk (X : Cx) (e : Expr) : L2.St → Hp → XK → Prop := fun σ H Q => ∀ pins s, Inv X pins σ H s → wpAny (model X.prog X.w) X.A (eval e X.env) (MkP X pins σ Q) X.xe s
theorem pmk_s {X : Cx} {e : Expr} : PMk X e (sMk X e) := fun pins s _ _ _ I h => h pins s I
structure DMk (X : Cx) (e : Expr) (f : MkT) : Prop where
  run : ∀ {ρ M P x}, f ρ M P x → ∀ {σ H B L Z}, StM X.K B L Z M H → EnvR X.K B L σ ρ → XOk X B L Z σ x → ∀ {Q : XK}, (∀ cls fs M' d B' L' H', P cls fs M' → Ext B L B' L' → StM X.K B' L' Z M' H' → XRep X.K B' d fs → Q cls d H') → sMk X e σ H Q
def tRaise (f : MkT) : ST := fun E ρ M => f ρ M (xS E ρ) (xS E ρ)
theorem ds_raise {X : Cx} {e : Expr} {f : MkT} {pos : Pos} (hc : X.calm = true) (he : DMk X e f) : DS X (.Raise (some e) none pos) (tRaise f) where
  run := fun {E ρ M} h {σ H B L Z} S V {F} l => by
    obtain ⟨W, tk, hW⟩ := l.ex
    refine PS.s (ps_raise hc tk pmk_s) ?_
    exact he.run h S V (l.ex.at_ V) fun cls fs M' d B' L' H' a b c r => hW cls fs ρ M' d B' L' σ H' a b c (V.mono b) r
/-- an own exception class without own __init__ -/
structure ErrC (K : PySem.W.Frag) (mg : Str → Option Value) (x : Str) (C : Addr) : Prop where
  mg_ : mg x = some (.ref C)
  ve : PySem.W.excIn K C He.veBase "ValueError.__new__" = true
  kp : PySem.W.keepIn K (.ref C) = true
  sub : PySem.W.subIn K (.ref C) (.type "BaseException") = some true
  ty : PySem.W.typeIn K (.ref C) = some (.type "type")
theorem ErrC.raises {X : Cx} {x : Str} {C : Addr} (e : ErrC X.K X.mg x C) : Raises X (.ref C) := raises_own e.sub e.ty
def tMk0 (C : Addr) : MkT := fun _ M P _ => P (.ref C) [] M
theorem dmk0 {X : Cx} {x : Str} {C : Addr} {p pos : Pos} (T : ErrC X.K X.mg x C) (hg : Gl X x := by rfl) (hdb : (x == ("__debug__" : Str)) = false := by decide) : DMk X (.Call (.Name x p) [] [] pos) (tMk0 C) where
  run := fun {ρ M P x} h {σ H B L Z} S V x1 {Q} q pins s I => by
    refine wpAny_Call_Name_kw (ld_glob I hg T.mg_ ?_ hdb)
    refine PySem.W.callWith_K0 I.kIn T.kp ?_
    obtain ⟨hp, g, dr, tk, os⟩ := s
    obtain ⟨bm, N, nm, qn, bs, hd, sn, sub, ab, col, dd, k0, k1, k2, k3, k5, mN, hC, hN, hni, own⟩ := exc_obj I.kIn T.ve
    refine wpAny_call_exc_subT PySem.F.excBase_ValueError own hC hN hni (fun h' e mk => ?_) (Nat.zero_le _)
    exact mk_of I mk T.raises (q _ _ _ none B L H h (Ext.refl _ _) S rfl) (I.hok.gone mk.new)
/-! ### .. with fields -/
/-- what an exception's own __init__ promises: its fields -/
def InitSp (K : PySem.W.Frag) (ns : List Str) : Sp := fun vs H Q _ => ∃ a C ws, vs = V.ref a :: ws ∧ ws.length = ns.length ∧ OexC K C ∧ (∀ n ∈ ns, PySem.W.findIn K (.ref C) n = some none) ∧ H a = some (exo a C none) ∧
  ∀ dx, H dx = none → dx ≠ a → Q .non (upd (upd H dx (exd dx (ns.zip ws).reverse)) a (exo a C (some dx)))
structure CalleeX (P : Program) (w : World) (K : PySem.W.Frag) (mg : Str → Option Value) (base : Heap) (x : Str) (C : Addr) (ps ns : List Str) : Prop where
  mg_ : mg x = some (.ref C)
  oex : OexC K C
  no : ∀ n ∈ ns, PySem.W.findIn K (.ref C) n = some none
  few : ns.length ≤ 10
  one : ns ≠ []
  ex : ∃ fI fd, PySem.W.findIn K (.ref C) "__init__" = some (some (.ref fI)) ∧ PySem.W.typeIn K (.ref fI) = some (.type "function") ∧ Binds K fd ps [] ∧ FnOk P w K mg base (L2.CX P w) 1 fI fd ps (InitSp K ns)
def tMkF (C : Addr) (ns : List Str) (fas : AT) : MkT := fun ρ M P x => fas ρ M (fun ds M1 => match allD ds with
  | some xs => xs.length = ns.length ∧ P (.ref C) (ns.zip xs).reverse M1
  | none => False) x
theorem repL_rev {K : PySem.W.Frag} {B : Hp} : ∀ {xs ys : List D} {vs ws : List V}, RepL K B xs vs → RepL K B ys ws → RepL K B (xs.reverse ++ ys) (vs.reverse ++ ws)
  | [], _, [], _, _, h => h
  | x :: xs, _, v :: vs, _, g, h => by
    unfold RepL at g
    rw [List.reverse_cons, List.reverse_cons, List.append_assoc, List.append_assoc]
    refine repL_rev g.2 ?_
    show RepL K B (x :: _) (v :: _)
    unfold RepL
    exact ⟨g.1, h⟩
  | [], _, _ :: _, _, g, _ => by unfold RepL at g; exact g.elim
  | _ :: _, _, [], _, g, _ => by unfold RepL at g; exact g.elim
theorem zip_fst {α β : Type} : ∀ {l : List α} {m : List β}, m.length = l.length → (l.zip m).map (·.1) = l
  | [], [], _ => rfl
  | a :: l, b :: m, h => by
    rw [List.zip_cons_cons, List.map_cons, zip_fst (by simpa using h)]
  | [], _ :: _, h => by cases h
  | _ :: _, [], h => by cases h
theorem zip_snd {α β : Type} : ∀ {l : List α} {m : List β}, m.length = l.length → (l.zip m).map (·.2) = m
  | [], [], _ => rfl
  | a :: l, b :: m, h => by
    rw [List.zip_cons_cons, List.map_cons, zip_snd (by simpa using h)]
  | [], _ :: _, h => by cases h
  | _ :: _, [], h => by cases h
theorem dmkF {X : Cx} {x : Str} {C : Addr} {p pos : Pos} {e : Expr} {es : List Expr} {fas : AT} {ps ns : List Str} (T : CalleeX X.prog X.w X.K X.mg X.base x C ps ns) (hr : Room 2 X.A) (ha : DA X (e :: es) fas) (hg : Gl X x := by rfl) (hdb : (x == ("__debug__" : Str)) = false := by decide)
    (he : starEach (e :: es) X.env = (false, eval e X.env) :: starEach es X.env := by rfl) (hpl : (backTo pos (starEach es X.env)).any (·.1) = false := by rfl) : DMk X (.Call (.Name x p) (e :: es) [] pos) (tMkF C ns fas) where
  run := fun {ρ M P x'} h {σ H B L Z} S V x1 {Q} q pins s I => by
    obtain ⟨fI, fd, hi, ht, hb, F⟩ := T.ex
    refine pmk_oex (dvs := []) (ds := []) T.oex hi ht F hr hb .nil passL hg T.mg_ pa_s hdb he hpl pins s σ H Q I ?_
    refine ha.run h S V x1 fun ds M1 vs B1 L1 H1 h1 e1 S1 r1 => ?_
    dsimp only at h1
    split at h1
    · rename_i xs hx
      have := allD_eq hx
      subst this
      have rl : RepL X.K B1 xs vs := r1.toL
      have hlen : vs.length = ns.length := rl.len.symm.trans h1.1
      refine ⟨by rw [hlen]; exact Nat.le_trans T.few (by decide), fun a na => ⟨a, C, vs, by rw [List.append_nil], hlen, T.oex, T.no, upd_same, fun dx hdx hne => ⟨rfl, dx, (ns.zip vs).reverse, upd_same, ?_, ?_, ?_⟩⟩⟩
      · rw [upd_ne hne, upd_same]
      · rw [upd_ne hne] at hdx
        exact hdx
      · rw [upd_ne hne] at hdx
        have eH : upd (del (upd (upd (upd H1 a (exo a C none)) dx (exd dx (ns.zip vs).reverse)) a (exo a C (some dx))) a) dx (.xd (ns.zip vs).reverse) = upd H1 dx (.xd (ns.zip vs).reverse) := by
          funext b
          by_cases h1 : b = dx
          · subst h1
            rw [upd_same, upd_same]
          · rw [upd_ne h1, upd_ne h1]
            by_cases h2 : b = a
            · subst h2
              rw [del_same, na]
            · rw [del_ne h2, upd_ne h2, upd_ne h1, upd_ne h2]
        rw [eH]
        obtain ⟨S2, e2⟩ := S1.newD (o := .xd (ns.zip vs).reverse) hdx
        refine q _ _ M1 (some dx) _ _ _ h1.2 (e1.trans e2) S2 ⟨?_, (ns.zip vs).reverse, upd_same, ?_, ?_⟩
        · intro z
          have := congrArg List.length z
          rw [List.length_reverse, List.length_zip, h1.1, Nat.min_self] at this
          exact T.one (List.eq_nil_of_length_eq_zero this)
        · rw [List.map_reverse, List.map_reverse, zip_fst hlen, zip_fst h1.1]
        · rw [List.map_reverse, List.map_reverse, zip_snd hlen, zip_snd h1.1]
          have := repL_rev (RepL.mono e2.sub _ _ rl) (show RepL X.K (upd B1 dx (.xd (ns.zip vs).reverse)) [] [] by unfold RepL; trivial)
          rwa [List.append_nil, List.append_nil] at this
    · exact h1.elim
/-! ### try -/
def goneD (E : DEnds) (i : Nat) : DEnds := { nx := fun ρ M => E.nx (ρ.set i none) M, rt := E.rt, ex := fun _ _ _ _ => False, bk := fun ρ M => E.bk (ρ.set i none) M, ct := fun ρ M => E.ct (ρ.set i none) M }
abbrev ClT : Type := Value × Nat × (Addr → Value → Option Addr → ST)
def xClauses (K : PySem.W.Frag) (E : DEnds) : List ClT → Value → List (Str × D) → Rh → Mem → Prop
  | [] => E.ex
  | q :: r => fun cls fs ρ M => ∃ b, PySem.W.exmOne K cls q.1 = some b ∧ (b = true → ∀ a d, (d = none ↔ fs = []) → q.2.2 a cls d (goneD E q.2.1) (ρ.set q.2.1 (some (.d (.xcp a d (fs.map (·.1)) (fs.map (·.2)))))) M) ∧ (b = false → xClauses K E r cls fs ρ M)
def tTry (K : PySem.W.Frag) (tb : ST) (l : List ClT) : ST := fun E ρ M => tb { E with ex := xClauses K E l } ρ M
inductive DCls (X : Cx) : List ExceptHandler → List ClT → Prop
  | none : DCls X [] []
  | more {x n : Str} {c : Value} {i : Nat} {ts : Addr → Value → Option Addr → ST} {st : Stmt} {sts : List Stmt} {p1 p2 : Pos} {hds : List ExceptHandler} {l : List ClT} (nm : Names X x c) (at_ : X.N[i]? = some n) (lc : X.env.kindOf n = some .local)
      (su : ∀ (a : Addr) (oe : Obj) (cls : Value) (d : Option Addr) (pn : List (Addr × Obj)), Zc cls d oe → (∃ vs, oe.data = .fields vs) → DSs (X.suite a ((a, oe) :: pn)) (st :: sts) (ts a cls d)) (r : DCls X hds l) :
      DCls X (.ExceptHandler (some (.Name x p1)) (some n) (st :: sts) p2 :: hds) ((c, i, ts) :: l)
def ups (X : Cx) : List ExceptHandler → List ClT → List ClauseT
  | .ExceptHandler _ _ sts _ :: hds, q :: l => (q.1, q.2.1, fun a cls d => fun F σ H => ∀ oe pn, Zc cls d oe → (∃ vs, oe.data = .fields vs) → sSs (X.suite a ((a, oe) :: pn)) sts F σ H) :: ups X hds l
  | _, _ => []
theorem ups_ok {X : Cx} : ∀ {hds : List ExceptHandler} {l : List ClT}, DCls X hds l → ClausesOk X hds (ups X hds l) := fun {hds l} k => by
  induction k with
  | none => exact .none
  | more nm at_ lc su r ih =>
    refine .more nm at_ lc (fun a oe cls d pn hz hf => ?_) ih
    exact ⟨fun pins s σ H D I h => h oe pn hz hf pins s I⟩
theorem ds_try {X : Cx} {body : List Stmt} {h0 : ExceptHandler} {hds : List ExceptHandler} {l : List ClT} {pos : Pos} {tb : ST} (est : X.stack = X.env :: X.outer) (efr : X.env.frame = some X.env.locals) (eN : X.N.Nodup)
    (eb : ∀ (pn : List (Addr × Obj)) (xe : Value → Shared → Prop), (∃ W, Takes (X.tr pn xe) W) → PassesOwn (model X.prog X.w) X.A X.env xe → DSs (X.tr pn xe) body tb) (eh : DCls X (h0 :: hds) l) : DS X (.Try body (h0 :: hds) [] [] pos) (tTry X.K tb l) where
  run := fun {E ρ M} h {σ H B L Z} S V {F} lk => by
    obtain ⟨Wout, tk, hW⟩ := lk.ex
    refine PS.s (ps_try_named (tb := fun W => fun D σ H => ∀ pn xe, Takes (X.tr pn xe) W → PassesOwn (model X.prog X.w) X.A X.env xe → sSs (X.tr pn xe) body D σ H) est efr eN tk (fun W pn xe t p => ⟨fun pins s σ H D I q => q pn xe t p pins s I⟩) (ups_ok eh)) ?_
    intro pn xe t p
    refine (eb pn xe ⟨_, t⟩ p).run h S V ⟨lk.nx, lk.rt, lk.bk, lk.ct, ⟨_, t, ?_⟩⟩
    have key : ∀ {hs2 : List ExceptHandler} {l2 : List ClT}, DCls X hs2 l2 → ∀ cls fs ρ' M' d B' L' σ' H', xClauses X.K E l2 cls fs ρ' M' → Ext B L B' L' → StM X.K B' L' Z M' H' → EnvR X.K B' L' σ' ρ' → XRep X.K B' d fs → wCl X.K Wout F (ups X hs2 l2) cls d σ' H' := fun {hs2 l2} k => by
      induction k with
      | none => exact fun cls fs ρ' M' d B' L' σ' H' a b c v r => hW cls fs ρ' M' d B' L' σ' H' a b c v r
      | @more x n c i ts st sts p1 p2 hs3 l3 nm at_ lc su r ih =>
        rintro cls fs ρ' M' d B' L' σ' H' ⟨b, eb1, yes, no⟩ e' S' V' xr
        refine ⟨b, eb1, fun hb a na oe pn2 hz hf => ?_, fun hb => ih _ _ _ _ _ _ _ _ _ (no hb) e' S' V' xr⟩
        have rx : RepV X.K B' L' (.d (.xcp a d (fs.map (·.1)) (fs.map (·.2)))) (.ref a) := by
          show Rep X.K B' _ _
          unfold Rep
          refine ⟨rfl, ?_⟩
          cases d with
          | none => 
            have : fs = [] := xr
            subst this
            exact .inl ⟨rfl, rfl, rfl⟩
          | some dd =>
            obtain ⟨_, gs, g1, g2, g3⟩ := xr
            exact .inr ⟨dd, gs, rfl, g1, g2, g3⟩
        have lk2 := lk.mono e'
        refine (su a oe cls d pn2 hz hf).run (yes hb a d ?_) S' (V'.set rx i) ⟨fun ρ2 M2 B2 L2 σ2 H2 a1 b1 c1 d1 => lk2.nx _ _ _ _ _ _ a1 b1 c1 (d1.forget i none), lk2.rt, fun ρ2 M2 B2 L2 σ2 H2 a1 b1 c1 d1 => lk2.bk _ _ _ _ _ _ a1 b1 c1 (d1.forget i none), fun ρ2 M2 B2 L2 σ2 H2 a1 b1 c1 d1 => lk2.ct _ _ _ _ _ _ a1 b1 c1 (d1.forget i none), ⟨_, takes0, fun _ _ _ _ _ _ _ _ _ z => z.elim⟩⟩
        cases d with
        | none => exact ⟨fun _ => xr, fun _ => rfl⟩
        | some dd => exact ⟨fun z => (by cases z), fun z => absurd z xr.1⟩
    exact key eh
/-! ### in a suite -/
section
variable {X : Cx} {a : Addr} {oe : Obj} {cls : Value} {d : Option Addr} {pn : List (Addr × Obj)} {e : Expr} {fe : ET} {pos : Pos} {f : Str}
/-- e.f of the caught exception -/
def tXfD (a : Addr) (cls : Value) (d : Option Addr) (C : Addr) (f : Str) (fe : ET) : ET := fun ρ M P x => fe ρ M (fun v M1 => match v with
  | .d (.xcp a' d' ns fs) => (a' = a ∧ d' = d ∧ cls = .ref C) ∧ (match (ns.zip fs).lookup f with
    | some y => P (.d y) M1
    | none => False)
  | _ => False) x
theorem lookup_rel {K : PySem.W.Frag} {B : Hp} : ∀ {fs : List D} {gs : List (Str × V)} {ns : List Str} {y : D}, gs.map (·.1) = ns → RepL K B fs (gs.map (·.2)) → (ns.zip fs).lookup f = some y → ∃ v, gs.lookup f = some v ∧ Rep K B y v
  | _, [], _, _, h, _, e => by
    subst h
    simp at e
  | [], _ :: _, _, _, _, r, _ => by
    unfold RepL at r
    exact r.elim
  | x :: xs, (n, v) :: gs, _, y, h, r, e => by
    subst h
    change RepL K B (x :: xs) (v :: gs.map (·.2)) at r
    unfold RepL at r
    change (match f == n with | true => some x | false => ((gs.map (·.1)).zip xs).lookup f) = some y at e
    show ∃ u, (match f == n with | true => some v | false => gs.lookup f) = some u ∧ _
    cases q : (f == n) with
    | true =>
      rw [q] at e
      cases e
      exact ⟨v, rfl, r.1⟩
    | false =>
      rw [q] at e
      exact lookup_rel rfl r.2 e
theorem de_xf {C : Addr} (T : XfC X.K C) (hno : PySem.W.findIn X.K (.ref C) f = some none) (hz : Zc cls d oe) (hf : ∃ vs, oe.data = .fields vs) (he : DE (X.suite a ((a, oe) :: pn)) e fe) (hb : attributeBase e f X.env (eval e X.env) = eval e X.env := by rfl) :
    DE (X.suite a ((a, oe) :: pn)) (.Attribute e f pos) (tXfD a cls d C f fe) where
  run := fun {ρ M P x} h {σ H B L Z} S E x1 {Q} q => by
    refine PE.s (pe_xf T hno hz hf pe_s hb) ?_
    refine he.run h S E x1 fun v M1 u B1 L1 H1 h1 e1 S1 r1 => ?_
    dsimp only at h1
    split at h1
    · rename_i a' d' ns fs
      obtain ⟨⟨rfl, rfl, ec⟩, h2⟩ := h1
      split at h2
      · rename_i y hy
        unfold RepV Rep at r1
        obtain ⟨rfl, r1 | ⟨dd, gs, g1, g2, g3, g4⟩⟩ := r1
        · obtain ⟨_, rfl, rfl⟩ := r1
          simp at hy
        · obtain ⟨v, l1, l2⟩ := lookup_rel g3 g4 hy
          exact ⟨rfl, ec, dd, gs, v, g1, S1.sub.eq g2, l1, q _ _ _ _ _ _ h2 e1 S1 l2⟩
      · exact h2.elim
    · exact h1.elim
/-- isinstance of the caught exception, which has no fields -/
def oIsE (K : PySem.W.Frag) (a : Addr) (cls : Value) (d : Option Addr) : CT := fun ds M P => match ds with
  | [.d (.xcp a' _ _ _), .d (.ref c)] => (a' = a ∧ d = none) ∧ ∃ C b, cls = .ref C ∧ ExcC K C ∧ PySem.W.kitOne K (.ref C) (.ref c) = some b ∧ P (.d (.bl b)) M
  | _ => False
theorem dc_isE (hz : Zc cls d oe) (hf : ∃ vs, oe.data = .fields vs) : DC (X.suite a ((a, oe) :: pn)) (.builtin "isinstance") (oIsE X.K a cls d) where
  run := fun {ds M P} h {vs B L Z H} S rs {Q} q => by
    unfold oIsE at h
    split at h
    · obtain ⟨⟨rfl, rfl⟩, C, b, rfl, T, hk, hP⟩ := h
      obtain ⟨v, w, rfl, r1, r2⟩ := two_v rs
      have e2 := rv_ref.mp r2
      subst e2
      unfold RepV Rep at r1
      obtain ⟨rfl, _⟩ := r1
      exact callS (call_isE T hz hf) ⟨_, _, b, rfl, fun u r => r, hk, q.here S hP (rv_bl.mpr rfl)⟩
    · exact h.elim
end
end DL

namespace DL
open PySem PySem.Spec PyProof.Rows L2
/-! ### (x, ..) * 1 -/
theorem tup_once (l : Addr) (items : Array Value) (n : Nat) (dd : Option Addr) (sl : Array (Option Value)) (u : Tok) :
    Meets (Builtin.«tuple.__mul__» ⟨[.ref l, .int 1 u], []⟩) (fun _ R s => s.heap.get? l = some { cls := .type "tuple", dict := dd, data := .seq items n, slots := sl } ∧ R (.ok (.ret (Value.ref l))) s) :=
  .of_wp fun prog w A R s h => by
    obtain ⟨hp, g, d, tk, os⟩ := s
    obtain ⟨hl, h⟩ := h
    have f1 := AutoSeq1.idx_int
    have c1 : (items.isEmpty || (1 : Int) == 1) = true := by simp
    wp_walk using wpAny_loadPart' hl
    repeat (first
      | (refine wpAny_ite_false (decide_eq_false (by decide)) ?_; wp_walk using wpAny_loadPart' hl)
      | (refine wpAny_ite_true (decide_eq_true (by rw [c1])) ?_; wp_walk using wpAny_loadPart' hl)
      | (refine wpAny_ite_true (decide_eq_true c1) ?_; wp_walk using wpAny_loadPart' hl))
    exact ⟨_, rfl, h⟩
section
variable {X : Cx}
theorem op_once : OpR X (binaryOp .Mult) (fun x y H Q => ∃ l xs, x = .ref l ∧ y = .int 1 ∧ SqT X.K H l xs ∧ Q (.ref l) H) := by
  intro pins s σ H x y v u Q I rx ry h
  obtain ⟨l, xs, rfl, rfl, hT, q⟩ := h
  cases rx
  obtain ⟨t, rfl⟩ := ry
  obtain ⟨its, r, ⟨⟨cls, dd, data, sl⟩, ho, hc, n, hd⟩, hs⟩ := I.tuple hT
  simp only at hc hd
  subst hc hd
  refine wpAny_binaryOp_repeat_ref (T := "tuple") (U := "int") (by decide) ⟨_, ho, rfl⟩ (fun s' => typeIs_int s' 1 t) noFill_tuple_mul F.fills_int_mul F.slot_int_rmul repeat_tuple F.slot_int_index.lookup ?_
  refine call_meets F.slot_int_rmul (typeIs_int s 1 t) F.entry_int_rmul (F.args_int_rmul_2 _ _) (int_rmul_tuple 1 t l its.toArray n dd sl) ⟨ho, rfl, ⟨_, ho, rfl⟩, ?_⟩
  exact call_meets F.slot_tuple_mul ⟨_, ho, rfl⟩ F.entry_tuple_mul (F.args_tuple_mul_2 _ _) (tup_once l its.toArray n dd sl t) ⟨ho, .ref l, H, I, rfl, q⟩
end
variable [Csts]
section
variable {X : Cx}
def oMul2 : O2 := fun a b M P => match a, b with
  | .d (.tup xs), .d (.int k) => (xs ≠ [] ∧ 1 ≤ k ∧ k ≤ 1000 ∧ xs.length ≤ 1000) ∧ P (.d (.tup (List.replicate k.toNat xs).flatten)) M
  | a, b => oMul a b M P
theorem do_mul2 : DO X (binaryOp .Mult) oMul2 where
  run := fun {a b M P} h {u v B L Z H} S r1 r2 {Q} q => by
    unfold oMul2 at h
    split at h
    · rename_i xs k
      by_cases hk : k = 1
      · subst hk
        have e := rv_int.mp r2
        subst e
        have r1' := r1
        unfold RepV Rep at r1
        obtain ⟨p, vs, rfl, g1, g2⟩ := r1
        have ex : (List.replicate (1 : Int).toNat xs).flatten = xs := by
          show (List.replicate 1 xs).flatten = xs
          simp
        rw [ex] at h
        exact opS op_once ⟨p, vs, rfl, rfl, S.sub.t g1, q.here S h.2 r1'⟩
      · exact do_mul.run (a := .d (.tup xs)) (b := .d (.int k)) ⟨⟨h.1.1, by have := h.1.2.1; omega, h.1.2.2⟩, h.2⟩ S r1 r2 q
    · exact do_mul.run h S r1 r2 q
/-! ### d.get(k, x), looked up by name -/
@[irreducible] def getOr (kvs : List (Key × D)) (k : Key) (z : DV) : DV := match lookD kvs k with
  | some y => .d y
  | none => z
def tDgetS (fo fe ff : ET) : ET := fun ρ M P x => fo ρ M (fun d M1 => match d with
  | .d (.dic kvs) => fe ρ M1 (fun k M2 => ff ρ M2 (fun z M3 => match keyD k with
    | some k => P (getOr kvs k z) M3
    | none => False) x) x
  | _ => False) x
variable {o e f : Expr} {fo fe ff : ET} {apos cpos : Pos}
theorem de_dget2S (hu : X.A.units + 64 < cLine) (ho : DE X o fo) (he : DE X e fe) (hf : DE X f ff) (m : M2 X o "get" apos e f cpos := by exact ⟨rfl, rfl, rfl, rfl⟩) : DE X (.Call (.Attribute o "get" apos) [e, f] [] cpos) (tDgetS fo fe ff) where
  run := fun {ρ M P x} h {σ H B L Z} S V x1 {Q} q => by
    refine (de_dget2 hu ho he hf m).run (P := P) ?_ S V x1 q
    unfold tDgetS getOr at h
    exact h
end
/-! ### an exception class with its own __init__, as a def -/
structure FunE (K : PySem.W.Frag) (mg : Str → Option Value) (x qual : Str) (C : Addr) (st : Stmt) (ps : List Str) : Prop where
  mg_ : mg x = some (.ref C)
  oex : OexC K C
  ex : ∃ fI fd, Fun K "__init__" qual st fI fd ∧ PySem.W.findIn K (.ref C) "__init__" = some (some (.ref fI)) ∧ PySem.W.typeIn K (.ref fI) = some (.type "function") ∧ Binds K fd ps []
theorem FunE.callee {P : Program} {w : World} {K : PySem.W.Frag} {mg : Str → Option Value} {base : Heap} {x qual : Str} {C : Addr} {st : Stmt} {N ps ns : List Str} (E : FunE K mg x qual C st ps) (S : FnScope N ps (defScope st)) (hl : ps.length = ns.length + 1) (few : ns.length ≤ 10) (one : ns ≠ [])
    (no : ∀ n ∈ ns, PySem.W.findIn K (.ref C) n = some none)
    (body : ∀ (f : Addr) (cdv : Value) (A : Around) (outer : List PySem.Env) (s : Shared) (H : Hp) (vs : List V) (Q : VK) (E : XK), InitSp K ns vs H Q E → ∃ t, PSs (cxOf (L2.CX P w) P w K mg base N qual (defScope st) f cdv A outer s H E) (defBody st) t ∧ t { nx := fun _ H' => Q .non H', rt := Q } (L2.start N vs) H) : CalleeX P w K mg base x C ps ns := by
  obtain ⟨fI, fd, F, h1, h2, h3⟩ := E.ex
  refine ⟨E.mg_, E.oex, no, few, one, fI, fd, h1, h2, h3, F.okX S (fun vs H Q E h => ?_) (fun cdv A outer s H vs Q E hr h => body fI cdv A outer s H vs Q E h)⟩
  obtain ⟨a, C, ws, rfl, hw, _⟩ := h
  rw [hl, List.length_cons, hw]
/-! ### a test whose answer is known -/
theorem br_n {b : Bool} {A B : Prop} (h : b = true → False) (a : B) : (b = true → A) ∧ (b = false → B) := ⟨fun q => (h q).elim, fun _ => a⟩
theorem br_y {b : Bool} {A B : Prop} (h : b = false → False) (a : A) : (b = true → A) ∧ (b = false → B) := ⟨fun _ => a, fun q => (h q).elim⟩
theorem br_any {b : Bool} {A B : Prop} (h : b = true → A) (a : b = false → B) : (b = true → A) ∧ (b = false → B) := ⟨h, a⟩
end DL

/-! ### != of lists within one model (the kit's rule for ==, turned) -/
namespace DL
open PySem PySem.SeqAt PySem.Spec PySem.Builtin
open AutoSeq1 (wpAny_loadPart')
open MeetsSeq MeetsSeq2 MeetsSeq3 SeqRoads2
section
variable {prog : Program} {w : World}
theorem ne_loopIn (l b : Addr) (items items2 : Array Value) (n n2 : Nat) (dd dd2 : Option Addr) (sl sl2 : Array (Option Value)) (hsz : items.size = items2.size) (e : Nat → Bool) (k : Nat) :
    ∀ i : Nat, items.size - i = k → MeetsIn prog w (Builtin.«list.__eq__.loop» ⟨[.ref l, .ref b, rawInt i, rawInt 3], []⟩)
      (fun A R s => s.heap.get? l = some { cls := .type "list", dict := dd, data := .seq items n, slots := sl } ∧ s.heap.get? b = some { cls := .type "list", dict := dd2, data := .seq items2 n2, slots := sl2 } ∧
        (∀ j (h1 : j < items.size) (h2 : j < items2.size), EqP prog w A.in1 s items[j] items2[j] (e j)) ∧
        R (.ok (.ret (.bool (!((List.range items.size).drop i).all e)))) s) := by
  induction k with
  | zero =>
    intro i hk A R s h
    obtain ⟨hp, g, d, tk, os⟩ := s; obtain ⟨hl, hb, he, h⟩ := h
    wp_walk using wpAny_loadPart' hl, wpAny_loadPart' hb
    have hi1 : items[((i : Nat) : Int).toNat]? = none := by simp; omega
    have hi2 : items2[((i : Nat) : Int).toNat]? = none := by simp; omega
    have hd : (List.range items.size).drop i = [] := by simp; omega
    rw [hd] at h
    rw [hi1, hi2]
    wp_walk using wpAny_loadPart' hl, wpAny_loadPart' hb
    show R (.ok (.ret (.bool (items.size != items2.size)))) _
    rw [hsz]
    simpa using h
  | succ k ih =>
    intro i hk A R s h
    obtain ⟨hp, g, d, tk, os⟩ := s; obtain ⟨hl, hb, he, h⟩ := h
    wp_walk using wpAny_loadPart' hl, wpAny_loadPart' hb
    have hlt : i < items.size := by omega
    have hlt2 : i < items2.size := by omega
    have hi1 : items[((i : Nat) : Int).toNat]? = some items[i] := by simp [hlt]
    have hi2 : items2[((i : Nat) : Int).toNat]? = some items2[i] := by simp [hlt2]
    have hd : (List.range items.size).drop i = i :: (List.range items.size).drop (i + 1) := by simp [List.drop_eq_getElem_cons, hlt]
    have hc : ((i : Int) + 1) = ((i + 1 : Nat) : Int) := by push_cast; rfl
    rw [hd, List.all_cons] at h
    rw [hi1, hi2]
    refine wpAny_bind (he i hlt hlt2 _ _ ?_)
    cases hb' : e i with
    | true =>
      rw [hb'] at h
      wp_walk
      rw [hc]
      exact ⟨plainId_quiet plain_eq_loop _, codeAny_builtin entry_eq_loop (by
        rw [Around.under_plainId plain_eq_loop _]
        exact ih (i + 1) (by omega) A R _ ⟨hl, hb, he, by simpa using h⟩)⟩
    | false =>
      rw [hb'] at h
      wp_walk using wpAny_loadPart' hl, wpAny_loadPart' hb
      rw [hi1, hi2]
      wp_walk
      simpa using h
theorem list_neIn (l b : Addr) (items items2 : Array Value) (n n2 : Nat) (dd dd2 : Option Addr) (sl sl2 : Array (Option Value)) (hsz : items.size = items2.size) (e : Nat → Bool) :
    MeetsIn prog w (Builtin.«list.__ne__» ⟨[.ref l, .ref b], []⟩)
      (fun A R s => s.heap.get? l = some { cls := .type "list", dict := dd, data := .seq items n, slots := sl } ∧ s.heap.get? b = some { cls := .type "list", dict := dd2, data := .seq items2 n2, slots := sl2 } ∧
        (∀ j (h1 : j < items.size) (h2 : j < items2.size), EqP prog w A.in1 s items[j] items2[j] (e j)) ∧
        R (.ok (.ret (.bool (!(List.range items.size).all e)))) s) := by
  intro A R s h
  obtain ⟨hp, g, d, tk, os⟩ := s; obtain ⟨hl, hb, he, h⟩ := h
  have f3 := AutoSeq1.sub_list_list
  have hne : ¬ (items.size != items2.size) = true := by simp [hsz]
  wp_walk using wpAny_loadPart' hl, wpAny_loadPart' hb
  exact ⟨plainId_quiet plain_eq_loop _, codeAny_builtin entry_eq_loop (by
    rw [Around.under_plainId plain_eq_loop _]
    exact ne_loopIn l b items items2 n n2 dd dd2 sl sl2 hsz e _ 0 rfl A R _ ⟨hl, hb, he, by simpa using h⟩)⟩
theorem rcP_ne {A : Around} {s : Shared} {l b : Addr} {items items2 : Array Value} {e : Nat → Bool} (hl : s.heap.IsList l items) (hb : s.heap.IsList b items2) (hsz : items.size = items2.size) (hu : A.units < cLine)
    (he : ∀ j (h1 : j < items.size) (h2 : j < items2.size), EqP prog w A.in1 s items[j] items2[j] (e j)) (E Q : Value → Shared → Prop) (h : Q (.bool (!(List.range items.size).all e)) s) : wpAny (model prog w) A (richCompare .NotEq (.ref l) (.ref b)) Q E s := by
  obtain ⟨⟨cls, dd, data, sl⟩, ho, hc, n, hd⟩ := id hl
  obtain ⟨⟨cls2, dd2, data2, sl2⟩, ho2, hc2, n2, hd2⟩ := id hb
  simp only at hc hd hc2 hd2
  subst hc hd hc2 hd2
  have ta : s.TypeIs (.ref l) "list" := ⟨_, ho, rfl⟩
  have tb : s.TypeIs (.ref b) "list" := ⟨_, ho2, rfl⟩
  exact wpAny_richCompare_same_room (op := .NotEq) ta tb F.slot_list_ne (call_meetsIn F.slot_list_ne ta F.entry_list_ne (F.args_list_ne_2 _ _) (list_neIn l b items items2 n n2 dd dd2 sl sl2 hsz e)
    ⟨ho, ho2, he, show Value.bool (!(List.range items.size).all e) ≠ Value.notImplemented ∧ Q (.bool (!(List.range items.size).all e)) s from ⟨(fun x => nomatch x), h⟩⟩) hu
end
end DL
namespace DL
open PySem PySem.Spec PyProof.Rows L2
variable [Csts]
/-! ### a dict, as data or as a cell -/
def dicOf (M : Mem) : DV → Option (List (Key × D))
  | .d (.dic kvs) => some kvs
  | .m k => (match M[k]? with
    | some (.dic kvs) => some kvs
    | _ => none)
  | _ => none
section
variable {K : PySem.W.Frag} {B : Hp} {L : List Addr} {Z : Zs} {M : Mem} {H : Hp}
theorem StM.dict (S : StM K B L Z M H) {d : DV} {v : V} {kvs : List (Key × D)} (r : RepV K B L d v) (h : dicOf M d = some kvs) : ∃ a ws, v = .ref a ∧ Rd H a (.dK ws) ∧ RepK K B kvs ws := by
  unfold dicOf at h
  split at h
  · cases h
    unfold RepV Rep at r
    obtain ⟨a, ws, rfl, g1, g2⟩ := r
    exact ⟨a, ws, rfl, S.sub.rdK g1, g2⟩
  · split at h
    · rename_i k kvs' hk
      cases h
      obtain ⟨a, rfl, g3⟩ := r
      obtain ⟨a', g4, c⟩ := S.at_ hk
      have : a' = a := Option.some.inj (g4.symm.trans g3)
      subst this
      obtain ⟨ws, g1, g2⟩ := c
      exact ⟨a', ws, rfl, .inl g1, g2⟩
    · cases h
  · cases h
end
section
variable {X : Cx}
/-! ### dict(d) -/
def oDictM : CT := fun ds M P => match ds with
  | [d] => (match dicOf M d with
    | some kvs => P (.m M.length) (M ++ [.dic kvs])
    | none => False)
  | _ => False
theorem dc_dictM : DC X (.type "dict") oDictM where
  run := fun {ds M P} h {vs B L Z H} S rs {Q} q => by
    unfold oDictM at h
    split at h
    · split at h
      · rename_i d kvs hx
        obtain ⟨v, rfl, r⟩ := one_v rs
        obtain ⟨a, ws, rfl, g1, g2⟩ := S.dict r hx
        refine callS call_dictD ⟨a, ws, rfl, g1, fun l hl => ?_⟩
        have E1 : Ext B L B (L ++ [l]) := ⟨Sub.refl B, [l], rfl⟩
        obtain ⟨S2, e2⟩ := S.newM (o := .dK ws) (m := .dic kvs) hl ⟨ws, upd_same, g2⟩
        refine q _ _ _ _ _ _ h e2 S2 ⟨l, rfl, ?_⟩
        rw [← S.len]
        simp
      · exact h.elim
    · exact h.elim
/-! ### list(d): its keys -/
def oListKM : CT := fun ds M P => match ds with
  | [d] => (match dicOf M d with
    | some kvs => P (.d (.lst (kvs.map fun kv => kD kv.1))) M
    | none => False)
  | _ => False
theorem repL_keys {K : PySem.W.Frag} {B : Hp} : ∀ {kvs : List (Key × D)} {ws : List (Key × V)}, RepK K B kvs ws → RepL K B (kvs.map fun kv => kD kv.1) (ws.map fun kv => kV kv.1)
  | [], [], _ => by
    show RepL K B [] []
    unfold RepL
    trivial
  | (a, x) :: kvs, (b, u) :: ws, h => by
    unfold RepK at h
    obtain ⟨rfl, h2, h3⟩ := h
    rw [List.map_cons, List.map_cons]
    unfold RepL
    exact ⟨kD_rep _, repL_keys h3⟩
  | [], _ :: _, h => by unfold RepK at h; exact h.elim
  | (_, _) :: _, [], h => by unfold RepK at h; exact h.elim
theorem dc_listK (hc : X.calm = true) : DC X (.type "list") oListKM where
  run := fun {ds M P} h {vs B L Z H} S rs {Q} q => by
    unfold oListKM at h
    split at h
    · split at h
      · rename_i d kvs hx
        obtain ⟨v, rfl, r⟩ := one_v rs
        obtain ⟨a, ws, rfl, g1, g2⟩ := S.dict r hx
        exact callS (call_listD hc) ⟨a, ws, rfl, g1, fun l hl => new_lst S (repL_keys g2) h q hl⟩
      · exact h.elim
    · exact h.elim
/-! ### sorted(texts) -/
def strsOf : List DV → Option (List Str)
  | [] => some []
  | .d (.str i) :: r => (match strsOf r with
    | some is => some (i :: is)
    | none => none)
  | _ :: _ => none
theorem strsOf_eq : ∀ {xs : List DV} {is : List Str}, strsOf xs = some is → xs = is.map fun i => .d (.str i)
  | [], _, h => by cases h; rfl
  | .d (.str i) :: r, is, h => by
    unfold strsOf at h
    split at h
    · rename_i js hj
      cases h
      rw [strsOf_eq hj]
      rfl
    · cases h
  | .m _ :: _, _, h => by cases h
  | .pr _ _ :: _, _, h => by cases h
  | .d .non :: _, _, h => by cases h
  | .d (.bl _) :: _, _, h => by cases h
  | .d (.int _) :: _, _, h => by cases h
  | .d (.ref _) :: _, _, h => by cases h
  | .d (.ty _) :: _, _, h => by cases h
  | .d (.lst _) :: _, _, h => by cases h
  | .d (.frl _) :: _, _, h => by cases h
  | .d (.tup _) :: _, _, h => by cases h
  | .d (.dic _) :: _, _, h => by cases h
  | .d (.obj _ _) :: _, _, h => by cases h
  | .d (.slo _ _) :: _, _, h => by cases h
  | .d (.xcp _ _ _ _) :: _, _, h => by cases h
theorem repVs_strs {K : PySem.W.Frag} {B : Hp} {L : List Addr} : ∀ {is : List Str} {vs : List V}, RepVs K B L (is.map fun i => DV.d (.str i)) vs → vs = is.map V.str
  | [], [], _ => rfl
  | i :: is, v :: vs, h => by
    rw [List.map_cons, rv_str.mp h.1, repVs_strs h.2]
  | [], _ :: _, h => h.elim
  | _ :: _, [], h => h.elim
theorem repL_strs {K : PySem.W.Frag} {B : Hp} : ∀ (is : List Str), RepL K B (is.map D.str) (is.map V.str)
  | [] => by unfold RepL; trivial
  | i :: is => by
    unfold RepL
    exact ⟨by simp only [Rep], repL_strs is⟩
theorem StM.lsq {K : PySem.W.Frag} {B : Hp} {L : List Addr} {Z : Zs} {M : Mem} {H : Hp} (S : StM K B L Z M H) {d : DV} {v : V} {xs : List DV} (r : RepV K B L d v) (h : lsOf M d = some xs) : ∃ p vs, v = .ref p ∧ SqL K H p vs ∧ RepVs K B L xs vs := by
  unfold lsOf at h
  split at h
  · cases h
    unfold RepV Rep at r
    obtain ⟨a, vs, h1, h2, h3⟩ := r
    exact ⟨a, vs, h1, S.sub.l (.inl (.inl h2)), h3.vs⟩
  · split at h
    · rename_i k xs' hk
      cases h
      obtain ⟨a, h1, h2⟩ := r
      obtain ⟨a', h3, c⟩ := S.at_ hk
      have : a' = a := Option.some.inj (h3.symm.trans h2)
      subst this
      obtain ⟨vs, h4, h5⟩ := c
      exact ⟨a', vs, h1, .inl (.inl h4), h5⟩
    · cases h
  · cases h
def oSortS : CT := fun ds M P => match ds with
  | [d] => (match lsOf M d with
    | some xs => (match strsOf xs with
      | some is => is.length < 64 ∧ ∀ ys : List Str, ys.Perm is → sortedS ys = true → P (.d (.lst (ys.map D.str))) M
      | none => False)
    | none => False)
  | _ => False
theorem dc_sortS : DC X (.builtin "sorted") oSortS where
  run := fun {ds M P} h {vs B L Z H} S rs {Q} q => by
    unfold oSortS at h
    split at h
    · split at h
      · rename_i d xs hx
        split at h
        · rename_i is hi
          obtain ⟨v, rfl, r⟩ := one_v rs
          obtain ⟨p, ws, rfl, g1, g2⟩ := S.lsq r hx
          have e := strsOf_eq hi
          subst e
          have := repVs_strs g2
          subst this
          have key : ∀ (ys : List Str) (p : Addr), ys.Perm is → sortedS ys = true → H p = none → Q (.ref p) (upd H p (.lst (ys.map V.str))) := fun ys p hy hs hp => new_lst S (repL_strs ys) (h.2 ys hy hs) q hp
          exact callS cr_sortedS ⟨p, is, rfl, g1, h.1, key⟩
        · exact h.elim
      · exact h.elim
    · exact h.elim
/-! ### xs[::-1] -/
def tRev (fe : ET) : ET := fun ρ M P x => fe ρ M (fun d M1 => match lsOf M1 d with
  | some xs => (match allD xs with
    | some zs => P (.d (.lst zs.reverse)) M1
    | none => False)
  | none => False) x
theorem RepL.rev {K : PySem.W.Frag} {B : Hp} : ∀ {xs : List D} {vs : List V}, RepL K B xs vs → RepL K B xs.reverse vs.reverse
  | [], [], h => h
  | x :: xs, v :: vs, h => by
    unfold RepL at h
    rw [List.reverse_cons, List.reverse_cons]
    exact (RepL.rev h.2).app (by unfold RepL; exact ⟨h.1, by unfold RepL; trivial⟩)
  | [], _ :: _, h => by unfold RepL at h; exact h.elim
  | _ :: _, [], h => by unfold RepL at h; exact h.elim
theorem de_rev {e : Expr} {fe : ET} {k : Nat} {p1 p2 p3 pos : Pos} (he : DE X e fe) : DE X (.Subscript e (.Slice none none (some (.UnaryOp .USub (.Constant (.int 1) k p1) p2)) p3) pos) (tRev fe) where
  run := fun {ρ M P x} h {σ H B L Z} S V x1 {Q} q => by
    refine PE.s (pe_revL pe_s) ?_
    refine he.run h S V x1 fun d M1 v B1 L1 H1 h1 e1 S1 r1 => ?_
    dsimp only at h1
    split at h1
    · rename_i xs hx
      split at h1
      · rename_i zs hz
        have := allD_eq hz
        subst this
        obtain ⟨p, vs, rfl, g1, g2⟩ := S1.lsq r1 hx
        exact ⟨p, vs, rfl, g1, fun l hl => new_lst S1 (RepL.rev g2.toL) h1 (q.mono e1) hl⟩
      · exact h1.elim
    · exact h1.elim
/-! ### d.clear() -/
theorem cell_ofD {k : Nat} {xs : List (Key × D)} {v : V} {B : Hp} {L : List Addr} {Z : Zs} {M : Mem} {H : Hp} (S : StM X.K B L Z M H) (hk : M[k]? = some (.dic xs)) (r : RepV X.K B L (.m k) v) : ∃ a vs, v = .ref a ∧ L[k]? = some a ∧ H a = some (.dK vs) ∧ RepK X.K B xs vs := by
  obtain ⟨a, rfl, h2⟩ := r
  obtain ⟨a', h3, cell⟩ := S.at_ hk
  have : a' = a := Option.some.inj (h3.symm.trans h2)
  subst this
  obtain ⟨vs, g1, g2⟩ := cell
  exact ⟨a', vs, rfl, h3, g1, g2⟩
def oDclear : MT := fun d ds M P => match d, ds with
  | .m k, [] => (match M[k]? with
    | some (.dic _) => P (.d .non) (M.set k (.dic []))
    | _ => False)
  | _, _ => False
theorem dm_dclear : DM X "dict.clear" oDclear where
  run := fun {a ds M P} h {u vs B L Z H} S r rs {Q} q => by
    unfold oDclear at h
    split at h
    · split at h
      · rename_i k kvs hk
        obtain ⟨p, ws, rfl, g1, g2, g3⟩ := cell_ofD S hk r
        match vs, rs with
        | [], _ => exact mtS mtd_clear ⟨p, ws, rfl, rfl, g2, q _ _ _ _ _ _ h (Ext.refl _ _) (S.put g1 hk rfl ⟨_, upd_same, by unfold RepK; trivial⟩) (rv_non.mpr rfl)⟩
      · exact h.elim
    · exact h.elim
/-! ### d.pop(k, x) -/
def dropD (kvs : List (Key × D)) (k : Key) : List (Key × D) := kvs.filter fun kv => decide (kv.1 ≠ k)
theorem RepK.drop {K : PySem.W.Frag} {B : Hp} (k : Key) : ∀ {kvs : List (Key × D)} {ws : List (Key × V)}, RepK K B kvs ws → RepK K B (dropD kvs k) (dropK ws k)
  | [], [], h => h
  | (a, x) :: kvs, (b, u) :: ws, h => by
    unfold RepK at h
    obtain ⟨rfl, h2, h3⟩ := h
    have ih := RepK.drop k h3
    unfold dropD dropK at ih ⊢
    rw [List.filter_cons, List.filter_cons]
    dsimp only
    split
    · unfold RepK
      exact ⟨rfl, h2, ih⟩
    · exact ih
  | [], _ :: _, h => by unfold RepK at h; exact h.elim
  | (_, _) :: _, [], h => by unfold RepK at h; exact h.elim
def tDpop2 (fo fe ff : ET) : ET := fun ρ M P x => fo ρ M (fun d M1 => match d with
  | .m n => (match M1[n]? with
    | some (.dic _) => fe ρ M1 (fun k M2 => ff ρ M2 (fun z M3 => match keyD k with
      | some k => (match M3[n]? with
        | some (.dic kvs) => (match lookD kvs k with
          | some y => P (.d y) (M3.set n (.dic (dropD kvs k)))
          | none => P z M3)
        | _ => False)
      | _ => False) x) x
    | _ => False)
  | _ => False) x
variable {o e f : Expr} {fo fe ff : ET} {apos cpos pos : Pos}
theorem de_dpop2 (ho : DE X o fo) (he : DE X e fe) (hf : DE X f ff) (m : M2 X o "pop" apos e f cpos := by exact ⟨rfl, rfl, rfl, rfl⟩) : DE X (.Call (.Attribute o "pop" apos) [e, f] [] cpos) (tDpop2 fo fe ff) where
  run := fun {ρ M P x} h {σ H B L Z} S V x1 {Q} q => by
    refine PE.s (pe_dpop2 pe_s pe_s pe_s m) ?_
    refine ho.run h S V x1 fun d M1 v B1 L1 H1 h1 e1 S1 r1 => ?_
    dsimp only at h1
    split at h1
    · rename_i n
      split at h1
      · rename_i kvs0 hn
        obtain ⟨p, ws0, rfl, g1, g2, g3⟩ := cell_ofD S1 hn r1
        refine ⟨p, rfl, .inl ⟨ws0, .inl g2⟩, ?_⟩
        refine he.run h1 S1 (V.mono e1) (x1.mono e1) fun k M2 vk B2 L2 H2 h2 e2 S2 r2 => ?_
        refine hf.run h2 S2 (V.mono (e1.trans e2)) (x1.mono (e1.trans e2)) fun z M3 vz B3 L3 H3 h3 e3 S3 r3 => ?_
        dsimp only at h3
        split at h3
        · rename_i kk hk
          split at h3
          · rename_i kvs hn3
            obtain ⟨p', ws, e', k1, k2, k3⟩ := cell_ofD S3 hn3 (r1.mono (e2.trans e3))
            cases e'
            refine ⟨ws, kk, k2, keyD_v r2 hk, fun w hw => ?_, fun hw => ?_⟩
            · rcases k3.val kk with ⟨y1, y2⟩ | ⟨y, w', y1, y2, y3⟩
              · rw [y2] at hw
                cases hw
              · rw [y2] at hw
                cases hw
                rw [y1] at h3
                exact q _ _ _ _ _ _ h3 ((e1.trans e2).trans e3) (S3.put k1 hn3 rfl ⟨_, upd_same, RepK.drop kk k3⟩) y3
            · rcases k3.val kk with ⟨y1, y2⟩ | ⟨y, w', y1, y2, y3⟩
              · rw [y1] at h3
                exact q _ _ _ _ _ _ h3 ((e1.trans e2).trans e3) S3 r3
              · rw [y2] at hw
                cases hw
          · exact h3.elim
        · exact h3.elim
      · exact h1.elim
    · exact h1.elim
/-! ### list(d.items()) -/
def itemsD (kvs : List (Key × D)) : List D := kvs.map fun kv => .tup [kD kv.1, kv.2]
def tItems (fe : ET) : ET := fun ρ M P x => fe ρ M (fun d M1 => match d with
  | .m n => (match M1[n]? with
    | some (.dic kvs) => P (.d (.lst (itemsD kvs))) M1
    | _ => False)
  | _ => False) x
/-! ### == of dicts -/
theorem hitsF {P : Program} {w : World} {A : Around} {s : Shared} {ls : List (Key × V)} {vb : List (Key × Value)} (rb : KV ls vb) (fl : ∀ p ∈ ls, flatV p.2 = true) {ks : List (Key × V)} {va : List (Key × Value)} (ra : KV ks va) :
    (∀ p ∈ ks, flatV p.2 = true) → PySem.W.KeqHitsP P w A s vb va (ks.all fun p => match valV ls p.1 with
      | some u => L2.eqV p.2 u
      | none => false) := by
  unfold KV at ra
  induction ra with
  | nil => intro _; exact .nil
  | @cons p q ps qs h t k =>
    intro hp
    obtain ⟨h1, h2⟩ := h
    obtain ⟨key, v⟩ := q
    have h1' : p.1 = key := h1
    have rr : RelO (valV ls p.1) (valueAt vb p.1) := rb.val p.1
    rw [List.all_cons]
    cases hv : valV ls p.1 with
    | none =>
      rw [hv] at rr
      have hn : valueAt vb p.1 = none := by
        cases e : valueAt vb p.1 with
        | none => rfl
        | some y => rw [e] at rr; exact rr.elim
      rw [h1'] at hn
      exact .miss hn
    | some u =>
      rw [hv] at rr
      obtain ⟨y, hy, ry⟩ := rr.some_of
      rw [h1'] at hy
      have fu : flatV u = true := by
        unfold valV at hv
        cases e : ls.find? fun kv => decide (kv.1 = p.1) with
        | none => rw [e] at hv; cases hv
        | some z =>
          rw [e] at hv
          cases hv
          exact fl z (List.mem_of_find?_eq_some e)
      exact .hit hy ((eqAt_V h2 ry (hp p List.mem_cons_self) fu).eqP) (k fun p' hm => hp p' (List.mem_cons_of_mem _ hm))
theorem op_dictF (hu : X.A.units + 64 < cLine) : OpR X (compareOp .Eq) (fun x y H Q => ∃ a b ks ls, x = .ref a ∧ y = .ref b ∧ Rd H a (.dK ks) ∧ Rd H b (.dK ls) ∧ (∀ p ∈ ks, flatV p.2 = true) ∧ (∀ p ∈ ls, flatV p.2 = true) ∧ Q (.bl (ks.length == ls.length && ks.all fun p => match valV ls p.1 with
      | some u => L2.eqV p.2 u
      | none => false)) H) := by
  intro pins s σ H x y v u Q I rx ry h
  obtain ⟨a, b, ks, ls, rfl, rfl, ha, hb, fa, fb, q⟩ := h
  cases (show v = Value.ref a from rx)
  cases (show u = Value.ref b from ry)
  obtain ⟨_, ya, va, ra, da⟩ := (show ObjOk X.prog X.w H s.heap a (.dK ks) from ha.ok I.hok)
  obtain ⟨_, yb, vb, rb, db⟩ := (show ObjOk X.prog X.w H s.heap b (.dK ls) from hb.ok I.hok)
  refine PySem.W.rcP_dicts (knd := mixKind X.prog X.w) ya yb da db (by omega) (fun _ => hitsF rb fb ra fa) _ _ ?_
  rw [← ra.length, ← rb.length]
  exact ⟨.bl _, H, I, rfl, q⟩
theorem lookD_mem {kvs : List (Key × D)} {k : Key} {d : D} (h : lookD kvs k = some d) : ∃ p ∈ kvs, p.2 = d := by
  unfold lookD at h
  cases e : kvs.find? fun kv => decide (kv.1 = k) with
  | none => rw [e] at h; cases h
  | some z =>
    rw [e] at h
    cases h
    exact ⟨z, List.mem_of_find?_eq_some e, rfl⟩
def eqKD (ks ls : List (Key × D)) : Bool := ks.length == ls.length && ks.all fun p => match lookD ls p.1 with
  | some u => eqF p.2 u
  | none => false
theorem flatK {K : PySem.W.Frag} {B : Hp} : ∀ {kvs : List (Key × D)} {ws : List (Key × V)}, RepK K B kvs ws → (kvs.all fun p => flatD p.2) = true → ∀ p ∈ ws, flatV p.2 = true
  | [], [], _, _, p, hp => by cases hp
  | (a, x) :: kvs, (b, u) :: ws, h, hf, p, hp => by
    unfold RepK at h
    rw [List.all_cons, Bool.and_eq_true] at hf
    rcases List.mem_cons.mp hp with rfl | hp
    · exact flat_v h.2.1 hf.1
    · exact flatK h.2.2 hf.2 p hp
  | [], _ :: _, h, _, _, _ => by unfold RepK at h; exact h.elim
  | (_, _) :: _, [], h, _, _, _ => by unfold RepK at h; exact h.elim
theorem eqK_all {K : PySem.W.Frag} {B : Hp} {ls : List (Key × D)} {zs : List (Key × V)} (r : RepK K B ls zs) (fl : (ls.all fun p => flatD p.2) = true) : ∀ {ks : List (Key × D)} {ws : List (Key × V)}, RepK K B ks ws → (ks.all fun p => flatD p.2) = true →
    (ws.all fun p => match valV zs p.1 with
      | some u => L2.eqV p.2 u
      | none => false) = ks.all fun p => match lookD ls p.1 with
      | some u => eqF p.2 u
      | none => false
  | [], [], _, _ => rfl
  | (a, x) :: kvs, (b, u) :: ws, h, hf => by
    unfold RepK at h
    obtain ⟨rfl, h2, h3⟩ := h
    rw [List.all_cons, Bool.and_eq_true] at hf
    rw [List.all_cons, List.all_cons, eqK_all r fl h3 hf.2]
    congr 1
    rcases r.val a with ⟨y1, y2⟩ | ⟨y, w', y1, y2, y3⟩
    · dsimp only
      rw [y1, y2]
    · dsimp only
      rw [y1, y2]
      obtain ⟨p, hp, rfl⟩ := lookD_mem y1
      exact eqF_v h2 y3 hf.1 (List.all_eq_true.mp fl p hp)
  | [], _ :: _, h, _ => by unfold RepK at h; exact h.elim
  | (_, _) :: _, [], h, _ => by unfold RepK at h; exact h.elim
/-- == of two dicts of flat values -/
def oEqK : O2 := fun a b M P => match dicOf M a, dicOf M b with
  | some ks, some ls => ((ks.all fun p => flatD p.2) = true ∧ (ls.all fun p => flatD p.2) = true) ∧ P (.d (.bl (eqKD ks ls))) M
  | _, _ => False
theorem do_eqK (hu : X.A.units + 64 < cLine) : DO X (compareOp .Eq) oEqK where
  run := fun {a b M P} h {u v B L Z H} S r1 r2 {Q} q => by
    unfold oEqK at h
    split at h
    · rename_i ks ls h1 h2
      obtain ⟨a1, ws, rfl, g1, g2⟩ := S.dict r1 h1
      obtain ⟨a2, zs, rfl, k1, k2⟩ := S.dict r2 h2
      refine opS (op_dictF hu) ⟨a1, a2, ws, zs, rfl, rfl, g1, k1, flatK g2 h.1.1, flatK k2 h.1.2, ?_⟩
      refine q.here S h.2 (rv_bl.mpr ?_)
      unfold eqKD
      rw [g2.len, k2.len, eqK_all k2 h.1.2 g2 h.1.1]
    · exact h.elim
/-! ### many new things at once -/
def growB (B H H' : Hp) : Hp := fun a => match H a with
  | none => H' a
  | some _ => B a
theorem growB_new {B H H' : Hp} {a : Addr} (h : H a = none) : growB B H H' a = H' a := by
  unfold growB
  rw [h]
theorem growB_old {B H H' : Hp} {a : Addr} (h : H a ≠ none) : growB B H H' a = B a := by
  unfold growB
  cases e : H a with
  | none => exact absurd e h
  | some _ => rfl
theorem StM.grow {K : PySem.W.Frag} {B : Hp} {L : List Addr} {Z : Zs} {M : Mem} {H H' : Hp} (S : StM K B L Z M H) (he : ∀ b o, H b = some o → H' b = some o) : StM K (growB B H H') L Z M H' ∧ Ext B L (growB B H H') L := by
  have old : ∀ {a o}, B a = some o → H a ≠ none := fun {a o} h => by
    obtain ⟨o', h1, _⟩ := S.sub _ _ h
    rw [h1]
    simp
  have keep : ∀ {a}, H a ≠ none → H' a = H a := fun {a} h => by
    cases e : H a with
    | none => exact absurd e h
    | some o => exact he a o e
  have hs : Sub B (growB B H H') := fun x u hx => ⟨u, by rw [growB_old (old hx)]; exact hx, rfl, fun _ => rfl⟩
  have E : Ext B L (growB B H H') L := ⟨hs, [], by simp⟩
  refine ⟨⟨fun x u hx => ?_, fun q hq => ?_, S.len, S.nod, fun i a o h ho hg => ?_, fun i a m h hm => ?_, fun i a h => ?_, fun q hq => ?_⟩, E⟩
  · by_cases q : H x = none
    · rw [growB_new q] at hx
      exact ⟨u, hx, rfl, fun _ => rfl⟩
    · rw [growB_old q] at hx
      rw [keep q]
      exact S.sub _ _ hx
  · obtain ⟨h1, h2, h3⟩ := S.zh q hq
    refine ⟨he _ _ h1, h2, fun z => ?_⟩
    rw [growB_old (by rw [h1]; simp)]
    exact h3 z
  · rw [growB_old (S.live i a h)]
    exact S.out i a o h ho hg
  · exact (S.cell i a m h hm).mono E (keep (S.live i a h))
  · rw [keep (S.live i a h)]
    exact S.live i a h
  · obtain ⟨h1, h2⟩ := S.cst q hq
    exact ⟨by rw [growB_old (old h1)]; exact h1, h2⟩
theorem repL_items {K : PySem.W.Frag} {B B' H' : Hp} (e : Sub B B') : ∀ {kvs : List (Key × D)} {ws : List (Key × V)} {ts : List Addr}, RepK K B kvs ws → Paired (fun (t : Addr) (q : Key × V) => B' t = some (.tup [kV q.1, q.2])) ts ws → RepL K B' (itemsD kvs) (ts.map V.ref)
  | [], [], [], _, _ => by
    show RepL K B' [] []
    unfold RepL
    trivial
  | (a, x) :: kvs, (b, u) :: ws, t :: ts, h, hp => by
    unfold RepK at h
    obtain ⟨rfl, h2, h3⟩ := h
    obtain ⟨g1, g2⟩ : B' t = some (.tup [kV a, u]) ∧ Paired (fun (t : Addr) (q : Key × V) => B' t = some (.tup [kV q.1, q.2])) ts ws := by
      cases hp with
      | cons g1 g2 => exact ⟨g1, g2⟩
    show RepL K B' (.tup [kD a, x] :: itemsD kvs) (.ref t :: ts.map V.ref)
    unfold RepL
    refine ⟨?_, repL_items (H' := H') e h3 g2⟩
    unfold Rep
    refine ⟨t, _, rfl, .inl (.inl g1), ?_⟩
    unfold RepL
    refine ⟨kD_rep _, ?_⟩
    unfold RepL
    exact ⟨Rep.mono e _ _ h2, by unfold RepL; trivial⟩
  | [], [], _ :: _, _, hp => by cases hp
  | _ :: _, _ :: _, [], _, hp => by cases hp
  | [], _ :: _, _, h, _ => by unfold RepK at h; exact h.elim
  | (_, _) :: _, [], _, h, _ => by unfold RepK at h; exact h.elim
theorem de_items {p2 : Pos} (hc : X.calm = true) (he : DE X e fe) (hg : Gl X "list") (hm : X.mg "list" = none) (hv : bootBuiltins "list" = some (.type "list")) (hbase : attributeBase e "items" X.env (eval e X.env) = eval e X.env := by rfl) (hline : (apos.endLine == cpos.line) = true := by rfl)
    (hs : starEach [.Call (.Attribute e "items" apos) [] [] cpos] X.env = (false, eval (.Call (.Attribute e "items" apos) [] [] cpos) X.env) :: starEach [] X.env := by rfl) : DE X (.Call (.Name "list" p2) [.Call (.Attribute e "items" apos) [] [] cpos] [] pos) (tItems fe) where
  run := fun {ρ M P x} h {σ H B L Z} S V x1 {Q} q => by
    refine PE.s (LiI.pe_listItems hc pe_s hg hm hv hbase hline hs) ?_
    refine he.run h S V x1 fun d M1 v B1 L1 H1 h1 e1 S1 r1 => ?_
    dsimp only at h1
    split at h1
    · rename_i n
      split at h1
      · rename_i kvs hn
        obtain ⟨a, ws, rfl, g1, g2, g3⟩ := cell_ofD S1 hn r1
        refine ⟨a, ws, rfl, g2, fun H2 p ts hk hp hts hnot hlp hpr => ?_⟩
        obtain ⟨S2, E2⟩ := S1.grow hk
        refine q _ _ _ _ _ _ h1 (e1.trans E2) S2 ?_
        unfold RepV Rep
        refine ⟨p, _, rfl, by rw [growB_new hp]; exact hlp, repL_items (H' := H2) E2.sub g3 ?_⟩
        have : ∀ {ts : List Addr} {ws : List (Key × L2.V)}, Paired (fun (t : Addr) (q : Key × L2.V) => H2 t = some (.tup [kV q.1, q.2])) ts ws → (∀ t ∈ ts, H1 t = none) → Paired (fun (t : Addr) (q : Key × L2.V) => growB B1 H1 H2 t = some (.tup [kV q.1, q.2])) ts ws := fun {ts ws} k => by
          induction k with
          | nil => exact fun _ => .nil
          | cons r _ ih => exact fun hn => .cons (by rw [growB_new (hn _ List.mem_cons_self)]; exact r) (ih fun t ht => hn t (List.mem_cons_of_mem _ ht))
        exact this hpr hts
      · exact h1.elim
    · exact h1.elim
/-! ### dict(pairs) -/
def pairsOf : List D → Option (List (Key × D))
  | [] => some []
  | .tup [k, x] :: r => (match keyD (.d k), pairsOf r with
    | some kk, some ps => some ((kk, x) :: ps)
    | _, _ => none)
  | _ :: _ => none
theorem pairs_rep {K : PySem.W.Frag} {B H : Hp} (e : Sub B H) : ∀ {xs : List D} {vs : List V} {ps : List (Key × D)}, pairsOf xs = some ps → RepL K B xs vs → ∃ (as : List Addr) (ws : List (Key × V)), vs = as.map V.ref ∧ Paired (fun p (kv : Key × V) => SqT K H p [kV kv.1, kv.2]) as ws ∧ RepK K B ps ws
  | [], [], _, h, _ => by
    cases h
    exact ⟨[], [], rfl, .nil, by unfold RepK; trivial⟩
  | x :: xs, v :: vs, ps, h, r => by
    unfold RepL at r
    unfold pairsOf at h
    split at h
    · rename_i h0; cases h0
    · rename_i k y r0 h0
      cases h0
      split at h
      · rename_i kk qs hk hq
        cases h
        obtain ⟨as, ws, rfl, h2, h3⟩ := pairs_rep e hq r.2
        have r1 := r.1
        unfold Rep at r1
        obtain ⟨a, us, rfl, g1, g2⟩ := r1
        match us, g2 with
        | [u1, u2], g2 =>
          unfold RepL at g2
          obtain ⟨g3, g4⟩ := g2
          unfold RepL at g4
          have e1 : u1 = kV kk := keyD_v (L := []) (show RepV K B [] (.d k) u1 from g3) hk
          subst e1
          exact ⟨a :: as, (kk, u2) :: ws, rfl, .cons (e.t g1) h2, by unfold RepK; exact ⟨rfl, g4.1, h3⟩⟩
        | [], g2 => unfold RepL at g2; exact g2.elim
        | [_], g2 => unfold RepL at g2; have := g2.2; unfold RepL at this; exact this.elim
        | _ :: _ :: _ :: _, g2 => unfold RepL at g2; have := g2.2; unfold RepL at this; have := this.2; unfold RepL at this; exact this.elim
      · cases h
    · cases h
  | [], _ :: _, _, _, r => by unfold RepL at r; exact r.elim
  | _ :: _, [], _, _, r => by unfold RepL at r; exact r.elim
def oDictP : CT := fun ds M P => match ds with
  | [d] => (match lsOf M d with
    | some xs => (match allD xs with
      | some zs => (match pairsOf zs with
        | some ps => P (.m M.length) (M ++ [.dic (mergeD [] ps)])
        | none => False)
      | none => False)
    | none => False)
  | _ => False
theorem dc_dictP (hc : X.calm = true) : DC X (.type "dict") oDictP where
  run := fun {ds M P} h {vs B L Z H} S rs {Q} q => by
    unfold oDictP at h
    split at h
    · split at h
      · rename_i d xs hx
        split at h
        · rename_i zs hz
          split at h
          · rename_i ps hp
            have := allD_eq hz
            subst this
            obtain ⟨v, rfl, r⟩ := one_v rs
            obtain ⟨p, us, rfl, g1, g2⟩ := S.lsq r hx
            obtain ⟨as, ws, rfl, k1, k2⟩ := pairs_rep S.sub hp g2.toL
            refine callS (call_dictP hc) ⟨p, as, ws, rfl, g1, k1, fun l hl => ?_⟩
            have k3 : RepK X.K B (mergeD [] ps) (mergeK [] ws) := RepK.merge k2 (by unfold RepK; trivial)
            obtain ⟨S2, e2⟩ := S.newM (o := .dK (mergeK [] ws)) (m := .dic (mergeD [] ps)) hl ⟨_, upd_same, k3⟩
            refine q _ _ _ _ _ _ h e2 S2 ⟨l, rfl, ?_⟩
            rw [← S.len]
            simp
          · exact h.elim
        · exact h.elim
      · exact h.elim
    · exact h.elim
/-! ### != of two lists that are equal, with dicts in them -/
theorem eqAt_dictF {pins : List (Addr × Obj)} {σ : L2.St} {H : Hp} {s : Shared} {A : Around} (I : Inv X pins σ H s) {a b : Addr} {ks ls : List (Key × L2.V)} (hu : A.units < cLine) (ha : Rd H a (.dK ks)) (hb : Rd H b (.dK ls)) (fa : ∀ p ∈ ks, flatV p.2 = true) (fb : ∀ p ∈ ls, flatV p.2 = true)
    (h : (ks.length == ls.length && ks.all fun p => match valV ls p.1 with
      | some u => L2.eqV p.2 u
      | none => false) = true) : SeqAt.EqP X.prog X.w A s (.ref a) (.ref b) true := by
  by_cases e : a = b
  · subst e
    exact (SeqAt.EqAt.same _).eqP
  · refine SeqAt.eqP_refs e fun E Q q => ?_
    obtain ⟨_, ya, va, ra, da⟩ := (show ObjOk X.prog X.w H s.heap a (.dK ks) from ha.ok I.hok)
    obtain ⟨_, yb, vb, rb, db⟩ := (show ObjOk X.prog X.w H s.heap b (.dK ls) from hb.ok I.hok)
    refine PySem.W.rcP_dicts (knd := mixKind X.prog X.w) ya yb da db hu (fun _ => hitsF rb fb ra fa) _ _ ?_
    rw [← ra.length, ← rb.length, h]
    exact q
def eqE : D → D → Bool
  | .dic ks, .dic ls => (ks.all fun p => flatD p.2) && ((ls.all fun p => flatD p.2) && eqKD ks ls)
  | a, b => flatD a && (flatD b && eqF a b)
def eqEs : List D → List D → Bool
  | [], [] => true
  | x :: xs, y :: ys => eqE x y && eqEs xs ys
  | _, _ => false
end
end DL

namespace DL
open PySem PySem.Spec PyProof.Rows L2
variable [Csts]
/-! ### operations on a dict that is data or a cell -/
/-- what is looked up: a name that does not unfold -/
@[irreducible] def lookI (kvs : List (Key × D)) (k : Key) : Option D := lookD kvs k
theorem lookI_eq (kvs : List (Key × D)) (k : Key) : lookI kvs k = lookD kvs k := by unfold lookI; rfl
section
variable {X : Cx}
def oLenD : CT := fun ds M P => match ds with
  | [d] => (match dicOf M d with
    | some kvs => P (.d (.int kvs.length)) M
    | none => False)
  | _ => False
theorem dc_lenD : DC X (.builtin "len") oLenD where
  run := fun {ds M P} h {vs B L Z H} S rs {Q} q => by
    unfold oLenD at h
    split at h
    · split at h
      · rename_i d kvs hx
        obtain ⟨v, rfl, r⟩ := one_v rs
        obtain ⟨a, ws, rfl, g1, g2⟩ := S.dict r hx
        intro pins s σ us I rv
        obtain ⟨u, rfl, ru⟩ := rv.one
        cases (show u = Value.ref a from ru)
        refine d_len I g1 fun t s' I' => ⟨.int ws.length, H, I', ⟨t, rfl⟩, ?_⟩
        exact q.here S h (rv_int.mpr (by rw [g2.len]))
      · exact h.elim
    · exact h.elim
def oInD (n : Bool) : O2 := fun a b M P => match dicOf M b, keyD a with
  | some kvs, some k => P (.d (.bl (n ^^ (lookI kvs k).isSome))) M
  | _, _ => False
theorem do_inDN {n : Bool} {f : Value → Value → Sem Value} (h2 : OpR X f (fun y x H Q => ∃ a o, x = .ref a ∧ DGet H a y o ∧ Q (.bl (n ^^ o.isSome)) H)) : DO X f (oInD n) where
  run := fun {a b M P} h {u v B L Z H} S r1 r2 {Q} q => by
    unfold oInD at h
    split at h
    · rename_i kvs k hx hk
      obtain ⟨p, ws, rfl, g1, g2⟩ := S.dict r2 hx
      refine opS h2 ⟨p, valV ws k, rfl, .inl ⟨ws, k, g1, keyD_v r1 hk, rfl⟩, ?_⟩
      have : (valV ws k).isSome = (lookI kvs k).isSome := by
        rw [lookI_eq]
        rcases g2.val k with ⟨h3, h4⟩ | ⟨d, w, h3, h4, _⟩ <;> rw [h3, h4] <;> rfl
      rw [this]
      exact q.here S h (rv_bl.mpr rfl)
    · exact h.elim
theorem do_inD (hu : X.A.units + 64 < cLine) : DO X (compareOp .In) (oInD false) :=
  do_inDN (fun pins s σ H x y v u Q I rx ry h => by
    obtain ⟨a, o, rfl, g, h⟩ := h
    obtain rfl : u = Value.ref a := ry
    exact d_in (by omega) I g rx fun s' I' => ⟨.bl o.isSome, H, I', rfl, by simpa using h⟩)
theorem do_notInD (hu : X.A.units + 64 < cLine) : DO X (compareOp .NotIn) (oInD true) :=
  do_inDN (fun pins s σ H x y v u Q I rx ry h => by
    obtain ⟨a, o, rfl, g, h⟩ := h
    obtain rfl : u = Value.ref a := ry
    exact d_notIn (by omega) I g rx fun s' I' => ⟨.bl (!o.isSome), H, I', rfl, by simpa using h⟩)
def oIxD : O2 := fun a b M P => match dicOf M a, keyD b with
  | some kvs, some k => (match lookI kvs k with
    | some d => P (.d d) M
    | none => False)
  | _, _ => False
variable {a b : Expr} {fa fb : ET} {pos : Pos}
theorem de_ixD (hu : X.A.units + 64 < cLine) (ha : DE X a fa) (hb : DE X b fb) (hs : PlainIx b := by exact fun _ _ => rfl) : DE X (.Subscript a b pos) (tBin oIxD fa fb) where
  run := fun {ρ M P x} h {σ H B L Z} S E x1 {Q} q => by
    refine PE.s (pe_ix ix_s pe_s pe_s hs) ?_
    refine ha.run h S E x1 fun d M1 v B1 L1 H1 h1 e1 S1 r1 => ?_
    refine hb.run h1 S1 (E.mono e1) (x1.mono e1) fun d2 M2 v2 B2 L2 H2 h2 e2 S2 r2 => ?_
    unfold oIxD at h2
    dsimp only at h2
    split at h2
    · rename_i kvs k hx hk
      split at h2
      · rename_i z hz
        obtain ⟨p, ws, rfl, g1, g2⟩ := S2.dict (r1.mono e2) hx
        rw [lookI_eq] at hz
        rcases g2.val k with ⟨h3, h4⟩ | ⟨d', w, h3, h4, h5⟩
        · rw [h3] at hz
          cases hz
        · rw [h3] at hz
          cases hz
          exact ixS (ix_dict (by omega)) ⟨p, w, rfl, .inl ⟨ws, k, g1, keyD_v r2 hk, h4.symm⟩, (q.mono (e1.trans e2)).here S2 h2 h5⟩
      · exact h2.elim
    · exact h2.elim
/-! ### != of two equal lists, their dicts data or cells -/
def valOf (M : Mem) : DV → Option D
  | .d x => some x
  | .m k => (match M[k]? with
    | some (.dic kvs) => some (.dic kvs)
    | _ => none)
  | _ => none
def valsOf (M : Mem) : List DV → Option (List D)
  | [] => some []
  | x :: xs => (match valOf M x, valsOf M xs with
    | some z, some zs => some (z :: zs)
    | _, _ => none)
/-- a value with its dict told by the heap -/
def RepH (K : PySem.W.Frag) (B H : Hp) (x : D) (v : L2.V) : Prop := Rep K B x v ∨ ∃ kvs a ws, x = .dic kvs ∧ v = .ref a ∧ Rd H a (.dK ws) ∧ RepK K B kvs ws
def RepHL (K : PySem.W.Frag) (B H : Hp) : List D → List L2.V → Prop
  | [], [] => True
  | x :: xs, v :: vs => RepH K B H x v ∧ RepHL K B H xs vs
  | _, _ => False
theorem StM.valOf {K : PySem.W.Frag} {B : Hp} {L : List Addr} {Z : Zs} {M : Mem} {H : Hp} (S : StM K B L Z M H) {d : DV} {v : L2.V} {x : D} (r : RepV K B L d v) (h : DL.valOf M d = some x) : RepH K B H x v := by
  cases d with
  | d y =>
    cases h
    exact .inl r
  | pr _ _ => cases h
  | m k =>
    unfold DL.valOf at h
    dsimp only at h
    split at h
    · rename_i kvs hk
      cases h
      obtain ⟨a, ws, rfl, g1, g2⟩ := S.dict r (show dicOf M (.m k) = some kvs by unfold dicOf; dsimp only; rw [hk])
      exact .inr ⟨kvs, a, ws, rfl, rfl, g1, g2⟩
    · cases h
theorem StM.valsOf {K : PySem.W.Frag} {B : Hp} {L : List Addr} {Z : Zs} {M : Mem} {H : Hp} (S : StM K B L Z M H) : ∀ {ds : List DV} {vs : List L2.V} {xs : List D}, RepVs K B L ds vs → DL.valsOf M ds = some xs → RepHL K B H xs vs
  | [], [], _, _, h => by cases h; trivial
  | d :: ds, v :: vs, xs, r, h => by
    unfold DL.valsOf at h
    split at h
    · rename_i z zs h1 h2
      cases h
      exact ⟨S.valOf r.1 h1, S.valsOf r.2 h2⟩
    · cases h
  | [], _ :: _, _, r, _ => r.elim
  | _ :: _, [], _, r, _ => r.elim
theorem RepH.dict {K : PySem.W.Frag} {B H : Hp} (sb : Sub B H) {kvs : List (Key × D)} {v : L2.V} (h : RepH K B H (.dic kvs) v) : ∃ a ws, v = .ref a ∧ Rd H a (.dK ws) ∧ RepK K B kvs ws := by
  rcases h with h | ⟨kvs', a, ws, e, rfl, g1, g2⟩
  · unfold Rep at h
    obtain ⟨a, ws, rfl, g1, g2⟩ := h
    exact ⟨a, ws, rfl, sb.rdK g1, g2⟩
  · cases e
    exact ⟨a, ws, rfl, g1, g2⟩
theorem RepH.flat {K : PySem.W.Frag} {B H : Hp} {x : D} {v : L2.V} (h : RepH K B H x v) (f : flatD x = true) : Rep K B x v := by
  rcases h with h | ⟨kvs', a, ws, rfl, _⟩
  · exact h
  · cases f
theorem eqE_atH {pins : List (Addr × Obj)} {σ : L2.St} {H B : Hp} {s : Shared} {A : Around} (I : Inv X pins σ H s) (hu : A.units < cLine) (sb : Sub B H) {x y : D} {v u : L2.V} {vv uu : Value} (h : eqE x y = true) (r1 : RepH X.K B H x v) (r2 : RepH X.K B H y u) (q1 : RelV v vv) (q2 : RelV u uu) : SeqAt.EqP X.prog X.w A s vv uu true := by
  unfold eqE at h
  split at h
  · rename_i ks ls
    rw [Bool.and_eq_true, Bool.and_eq_true] at h
    obtain ⟨h1, h2, h3⟩ := h
    obtain ⟨a, ws, rfl, g1, g2⟩ := r1.dict sb
    obtain ⟨b, zs, rfl, k1, k2⟩ := r2.dict sb
    cases (show vv = Value.ref a from q1)
    cases (show uu = Value.ref b from q2)
    refine eqAt_dictF I hu g1 k1 (flatK g2 h1) (flatK k2 h2) ?_
    rw [← g2.len, ← k2.len, eqK_all k2 h2 g2 h1]
    exact h3
  · rw [Bool.and_eq_true, Bool.and_eq_true] at h
    obtain ⟨h1, h2, h3⟩ := h
    have := eqAt_V (A := A) (s := s) q1 q2 (flat_v (r1.flat h1) h1) (flat_v (r2.flat h2) h2)
    rw [eqF_v (r1.flat h1) (r2.flat h2) h1 h2, h3] at this
    exact this.eqP
theorem eqEs_atH {pins : List (Addr × Obj)} {σ : L2.St} {H B : Hp} {s : Shared} {A : Around} (I : Inv X pins σ H s) (hu : A.units < cLine) (sb : Sub B H) : ∀ {xs ys : List D} {vs us : List L2.V} {v1 u1 : List Value}, eqEs xs ys = true → RepHL X.K B H xs vs → RepHL X.K B H ys us → Vals vs v1 → Vals us u1 →
    v1.length = u1.length ∧ ∀ j (h1 : j < v1.length) (h2 : j < u1.length), SeqAt.EqP X.prog X.w A s v1[j] u1[j] true
  | [], [], [], [], _, _, _, _, _, q1, q2 => by
    cases q1
    cases q2
    exact ⟨rfl, fun j h1 _ => absurd h1 (Nat.not_lt_zero j)⟩
  | x :: xs, y :: ys, v :: vs, u :: us, _, _, h, r1, r2, q1, q2 => by
    unfold eqEs at h
    rw [Bool.and_eq_true] at h
    cases q1 with
    | cons a1 b1 =>
      cases q2 with
      | cons a2 b2 =>
        obtain ⟨l, k⟩ := eqEs_atH I hu sb h.2 r1.2 r2.2 b1 b2
        refine ⟨by simp [l], fun j h1 h2 => ?_⟩
        cases j with
        | zero => exact eqE_atH I hu sb h.1 r1.1 r2.1 a1 a2
        | succ j => exact k j (Nat.lt_of_succ_lt_succ h1) (Nat.lt_of_succ_lt_succ h2)
  | [], _ :: _, _, _, _, _, h, _, _, _, _ => by cases h
  | _ :: _, [], _, _, _, _, h, _, _, _, _ => by cases h
  | [], [], _ :: _, _, _, _, _, r1, _, _, _ => r1.elim
  | [], [], [], _ :: _, _, _, _, _, r2, _, _ => r2.elim
  | _ :: _, _ :: _, [], _, _, _, _, r1, _, _, _ => r1.elim
  | _ :: _, _ :: _, _ :: _, [], _, _, _, _, r2, _, _ => r2.elim
def oNeH : O2 := fun a b M P => match lsOf M a, lsOf M b with
  | some xs, some ys => (match valsOf M xs, valsOf M ys with
    | some zs, some ws => eqEs zs ws = true ∧ P (.d (.bl false)) M
    | _, _ => False)
  | _, _ => False
theorem do_neH (hu : X.A.units + 64 < cLine) : DO X (compareOp .NotEq) oNeH where
  run := fun {a b M P} h {u v B L Z H} S r1 r2 {Q} q => by
    unfold oNeH at h
    split at h
    · rename_i xs ys hx hy
      split at h
      · rename_i zs ws h1 h2
        obtain ⟨a1, vs, rfl, g1, g2⟩ := S.lsq r1 hx
        obtain ⟨a2, us, rfl, k1, k2⟩ := S.lsq r2 hy
        intro pins s σ v u I rx ry
        cases (show v = Value.ref a1 from rx)
        cases (show u = Value.ref a2 from ry)
        obtain ⟨v1, q1, p1, _⟩ := I.list g1
        obtain ⟨u1, q2, p2, _⟩ := I.list k1
        obtain ⟨hl, he⟩ := eqEs_atH (A := X.A.in1) I (by show X.A.units + 1 < cLine; omega) S.sub h.1 (S.valsOf g2 h1) (S.valsOf k2 h2) q1 q2
        refine rcP_ne (e := fun _ => true) p1.isList p2.isList (by simpa using hl) (by omega) (fun j j1 j2 => ?_) _ _ ?_
        · have := he j (by simpa using j1) (by simpa using j2)
          simpa using this
        · rw [show ((List.range v1.toArray.size).all fun _ => true) = true from List.all_eq_true.mpr fun _ _ => rfl]
          exact ⟨.bl false, H, I, rfl, q.here S h.2 (rv_bl.mpr rfl)⟩
      · exact h.elim
    · exact h.elim
/-! ### methods of slotted instances -/
def isSlo (T : ClsT) : DV → Prop
  | .d (.slo T' _) => T' = T
  | _ => False
theorem isSlo_run {T : ClsT} {d : DV} (h : isSlo T d) {v : L2.V} {B : Hp} {La : List Addr} {Z : Zs} {M : Mem} {H : Hp} (S : StM X.K B La Z M H) (r : RepV X.K B La d v) : ∃ a dx vs, v = .ref a ∧ SlX.Slt H a T.C dx vs := by
  cases d with
  | m k => exact h.elim
  | pr _ _ => exact h.elim
  | d x =>
    cases x with
    | slo T' fs =>
      have e : T' = T := h
      subst e
      unfold RepV Rep at r
      obtain ⟨a, dx, vs, rfl, g1, g2, _⟩ := r
      exact ⟨a, dx, vs.map some, rfl, .inr ⟨S.sub.eq g1, S.sub.eq g2⟩⟩
    | _ => exact h.elim
def tMethS (T : ClsT) (dsp : DSp) (fo : ET) (fas : AT) : ET := fun ρ M P x => fo ρ M (fun d M1 => isSlo T d ∧ fas ρ M1 (fun ds M2 => dsp (d :: ds) M2 P x) x) x
variable {o e : Expr} {es : List Expr} {fo : ET} {fas : AT} {m : Str} {apos : Pos} {k : Nat} {ps : List Str} {dsp : DSp} {T : ClsT}
theorem de_methSl {pl : Sem Bool} (C : CalleeM X.prog X.w X.K X.mg X.base T m k ps dsp) (hr : Room k X.A) (c : SlX.SCls X.K T.C) (ho : DE X o fo) (ha : DA X (e :: es) fas)
    (hst : starEach (e :: es) X.env = (false, eval e X.env) :: starEach es X.env := by rfl) (hpl : (backTo pos (starEach es X.env)).any (·.1) = false := by rfl)
    (ht : eval (.Call (.Attribute o m apos) (e :: es) [] pos) X.env = (do
      let ov ← eval o X.env
      standAt apos.atName
      let (f, first) ← holding [ov] (getMethod ov m pl)
      callWith pos f first (backTo pos (starEach (e :: es) X.env)) (backToKw pos (keywordEach [] X.env))) := by rfl) : DE X (.Call (.Attribute o m apos) (e :: es) [] pos) (tMethS T dsp fo fas) where
  run := fun {ρ M P x} h {σ H B La Z} S E x1 {Q} q => by
    obtain ⟨g, fd, hm, hb, F⟩ := C.ex
    obtain ⟨W, tk, hW⟩ := x1
    intro pins s I
    refine PySem.W.methodCall_KW (pl := pl) (thn (ho.run h S E ⟨W, tk, hW⟩ (Q := fun x H1 => ∃ a dx vs, x = .ref a ∧ SlX.Slt H1 a T.C dx vs ∧ sA X (e :: es) σ H1 fun vs H2 => Up X.K dsp (.ref a :: vs) H2 Q (WE W σ)) ?_ pins s I) fun ov s1 hh => ?_) ht
    · intro d M1 v B1 L1 H1 h1 e1 S1 r1
      obtain ⟨a, dx, vs, rfl, g1⟩ := isSlo_run h1.1 S1 r1
      refine ⟨a, dx, vs, rfl, g1, ?_⟩
      refine ha.run h1.2 S1 (E.mono e1) ⟨W, tk, fun cls fs M' d B' L' H' a b => hW cls fs M' d B' L' H' a (e1.trans b)⟩ fun ds M2 vs B2 L2 H2 h2 e2 S2 r2 => ?_
      exact callOk S2 (show RepVs X.K B2 L2 (d :: ds) (.ref a :: vs) from ⟨r1.mono e2, r2⟩) h2 (q.mono (e1.trans e2)) fun cls fs M' d B' L' H' a b => hW cls fs M' d B' L' H' a ((e1.trans e2).trans b)
    · obtain ⟨v, H1, I1, rv, a, dx, vs, ev, g1, q2⟩ := hh
      subst ev
      cases rv
      refine SlX.getmethsl_ok I1 g1 c hm ?_
      refine PySem.W.callWith_K (first := [.ref a]) (h₀ := X.base) I.ok.mod.kin hm.kp (thn (q2 pos pins s1 I1) fun us s2 h2 => ?_) hst hpl
      obtain ⟨vs, H2, I2, rs, q3⟩ := h2
      exact ⟨I2.kIn, run_fnSD (us := .ref a :: us) (vs := .ref a :: vs) (dvs := []) (ds := []) (E := WE W) F hr hb .nil (passAt tk σ) I2 (.cons rfl rs) (by simpa using q3)⟩
theorem de_methSl0 {pl : Sem Bool} (C : CalleeM X.prog X.w X.K X.mg X.base T m k ps dsp) (hr : Room k X.A) (c : SlX.SCls X.K T.C) (ho : DE X o fo)
    (ht : eval (.Call (.Attribute o m apos) [] [] pos) X.env = (do
      let ov ← eval o X.env
      standAt apos.atName
      let (f, first) ← holding [ov] (getMethod ov m pl)
      callWith pos f first (backTo pos (starEach [] X.env)) (backToKw pos (keywordEach [] X.env))) := by rfl) : DE X (.Call (.Attribute o m apos) [] [] pos) (tMethS T dsp fo tNil) where
  run := fun {ρ M P x} h {σ H B La Z} S E x1 {Q} q => by
    obtain ⟨g, fd, hm, hb, F⟩ := C.ex
    obtain ⟨W, tk, hW⟩ := x1
    intro pins s I
    refine PySem.W.methodCall_KW (pl := pl) (thn (ho.run h S E ⟨W, tk, hW⟩ (Q := fun x H1 => ∃ a dx vs, x = .ref a ∧ SlX.Slt H1 a T.C dx vs ∧ Up X.K dsp [.ref a] H1 Q (WE W σ)) ?_ pins s I) fun ov s1 hh => ?_) ht
    · intro d M1 v B1 L1 H1 h1 e1 S1 r1
      obtain ⟨a, dx, vs, rfl, g1⟩ := isSlo_run h1.1 S1 r1
      exact ⟨a, dx, vs, rfl, g1, callOk S1 (show RepVs X.K B1 L1 [d] [.ref a] from ⟨r1, trivial⟩) h1.2 (q.mono e1) fun cls fs M' d B' L' H' a b => hW cls fs M' d B' L' H' a (e1.trans b)⟩
    · obtain ⟨v, H1, I1, rv, a, dx, vs, ev, g1, q2⟩ := hh
      subst ev
      cases rv
      refine SlX.getmethsl_ok I1 g1 c hm ?_
      refine PySem.W.callWith_K0 (first := [.ref a]) I1.kIn hm.kp ?_
      exact run_fnSD (us := [.ref a]) (vs := [.ref a]) (dvs := []) (ds := []) (E := WE W) F hr hb .nil (passAt tk σ) I1 (.cons rfl .nil) (by simpa using q2)
end
end DL

/-! texts: split, join, str(x), int(text), text * int -/
namespace DL
open PySem PySem.Spec PyProof.Rows L2
variable [Csts]
section
variable {X : Cx}
theorem new_strs {B : Hp} {L : List Addr} {Z : Zs} {M : Mem} {H : Hp} {P : Post} {Q : VK} {ys : List Str} (S : StM X.K B L Z M H) (h : P (.d (.lst (ys.map D.str))) M) (q : POk X B L Z P Q) : rNewStrs ys H Q := fun p hp => new_lst S (repL_strs ys) h q hp
def oSplit : MT := fun d ds M P => match d, ds with
  | .d (.str a), [.d (.str b)] => ((b.length == 0) = false ∧ a.length ≤ 90000) ∧ P (.d (.lst ((Txt.split a b).map D.str))) M
  | _, _ => False
theorem dm_split : DM X "str.split" oSplit where
  run := fun {a ds M P} h {u vs B L Z H} S r rs {Q} q => by
    unfold oSplit at h
    split at h
    · have := rv_str.mp r
      subst this
      obtain ⟨v, rfl, r1⟩ := one_v rs
      have := rv_str.mp r1
      subst this
      exact mtS mt_split ⟨_, _, rfl, rfl, h.1.1, Nat.le_trans (Nat.add_le_add_right h.1.2 2) (by decide), new_strs S h.2 q⟩
    · exact h.elim
/-- a sequence of texts -/
def seqStrs (M : Mem) (d : DV) : Option (List Str) := match seqOf M d with
  | some xs => strsOf xs
  | none => none
def oJoin : MT := fun d ds M P => match d, ds with
  | .d (.str a), [e] => (match seqStrs M e with
    | some ys => (ys.map (·.length)).sum + ys.length * a.length ≤ 16777216 ∧ P (.d (.str (Txt.join a ys))) M
    | none => False)
  | _, _ => False
theorem dm_join : DM X "str.join" oJoin where
  run := fun {a ds M P} h {u vs B L Z H} S r rs {Q} q => by
    unfold oJoin at h
    split at h
    · split at h
      · rename_i e ys hy
        have := rv_str.mp r
        subst this
        obtain ⟨v, rfl, r1⟩ := one_v rs
        unfold seqStrs at hy
        split at hy
        · rename_i xs hx
          obtain ⟨p, ws, rfl, g1, g2⟩ := S.seq r1 hx
          have e2 := strsOf_eq hy
          subst e2
          have e3 := repVs_strs g2
          subst e3
          exact mtS mt_join ⟨_, p, ys, rfl, rfl, g1.symm, h.1, q.here S h.2 (rv_str.mpr rfl)⟩
        · cases hy
      · exact h.elim
    · exact h.elim
def oStr : CT := fun ds M P => match ds with
  | [.d (.int i)] => i.natAbs < 2 ^ 1000 ∧ P (.d (.str (toString i : String))) M
  | [.d (.str s)] => P (.d (.str s)) M
  | _ => False
theorem log_small {n : Nat} (h : n < 2 ^ 1000) : n.log2 < 1920 := by
  by_cases h0 : n = 0
  · subst h0
    decide
  · exact Nat.lt_trans ((Nat.log2_lt h0).mpr h) (by decide)
theorem dc_str : DC X (.type "str") oStr where
  run := fun {ds M P} h {vs B L Z H} S rs {Q} q => by
    unfold oStr at h
    split at h
    · obtain ⟨v, rfl, r⟩ := one_v rs
      have := rv_int.mp r
      subst this
      exact callS call_str_int ⟨_, rfl, log_small h.1, q.here S h.2 (rv_str.mpr rfl)⟩
    · obtain ⟨v, rfl, r⟩ := one_v rs
      have := rv_str.mp r
      subst this
      exact callS SkE.call_str_str ⟨_, rfl, q.here S h (rv_str.mpr rfl)⟩
    · exact h.elim
def oIntS : CT := fun ds M P => match ds with
  | [.d (.str s)] => s.length ≤ 640 ∧ (match intText? s with
    | some n => P (.d (.int n)) M
    | none => False)
  | _ => False
theorem dc_intS : DC X (.type "int") oIntS where
  run := fun {ds M P} h {vs B L Z H} S rs {Q} q => by
    unfold oIntS at h
    split at h
    · obtain ⟨v, rfl, r⟩ := one_v rs
      have := rv_str.mp r
      subst this
      obtain ⟨h1, h2⟩ := h
      split at h2
      · rename_i n hn
        exact callS call_int_str ⟨_, n, rfl, hn, h1, q.here S h2 (rv_int.mpr rfl)⟩
      · exact h2.elim
    · exact h.elim
/-- text * int -/
def strRep (x : Str) (n : Nat) : Str := ⟨(List.replicate n x.cps).foldl (· ++ ·) #[]⟩
theorem op_repS : OpR X (binaryOp .Mult) (fun x y H Q => ∃ a i, x = .str a ∧ y = .int i ∧ 0 ≤ i ∧ i ≤ 1000 ∧ a.length ≤ 90 ∧ Q (.str (strRep a i.toNat)) H) := by
  intro pins s σ H x y v u Q I rx ry h
  obtain ⟨a, i, rfl, rfl, h0, h1, hl, q⟩ := h
  obtain ⟨t, rfl⟩ := rx
  obtain ⟨t', rfl⟩ := ry
  have ml : a.length * i.toNat ≤ 90000 := by
    have := Nat.mul_le_mul hl (show i.toNat ≤ 1000 by omega)
    omega
  refine PySem.P.mul_str ?_ (fun h2 _ => ?_) (fun _ _ => ?_) ?_
  · rw [decide_eq_false (by omega), decide_eq_false (by omega)]
    rfl
  · have h3 : (90 : Int) ≤ (2 ^ 63 - 1) / i := by
      rw [Int.le_ediv_iff_mul_le (by omega)]
      omega
    omega
  · exact decide_eq_false (Nat.not_lt.mpr (Nat.le_trans ml (by decide)))
  · by_cases hi : i < 1
    · rw [if_pos hi]
      obtain rfl : i = 0 := by omega
      exact ⟨by decide, ⟨.str (strRep a 0), H, I.tok _, ⟨_, rfl⟩, q⟩⟩
    · rw [if_neg hi]
      split
      · rename_i he
        rw [Bool.or_eq_true] at he
        have e : strRep a i.toNat = a := by
          rcases he with he | he
          · have : i = 1 := by simpa using he
            subst this
            show (⟨#[] ++ a.cps⟩ : Str) = a
            simp
          · have h2 : a.cps = #[] := by
              have : a.cps.size = 0 := by simpa [Str.length] using he
              exact Array.eq_empty_of_size_eq_zero this
            have key : ∀ n : Nat, (List.replicate n a.cps).foldl (· ++ ·) #[] = #[] := by
              intro n
              induction n with
              | zero => rfl
              | succ n ih =>
                rw [List.replicate_succ, List.foldl_cons, h2] at *
                simpa using ih
            unfold strRep
            rw [key]
            cases a
            simp at h2
            rw [h2]
        rw [e] at q
        exact ⟨.str a, H, I, ⟨t, rfl⟩, q⟩
      · refine ⟨?_, ⟨.str (strRep a i.toNat), H, I.tok _, ⟨_, rfl⟩, q⟩⟩
        have key : ∀ (n : Nat) (b : Array Nat), ((List.replicate n a.cps).foldl (· ++ ·) b).size = b.size + n * a.cps.size := by
          intro n
          induction n with
          | zero => intro b; simp
          | succ n ih =>
            intro b
            rw [List.replicate_succ, List.foldl_cons, ih, Array.size_append, Nat.succ_mul]
            omega
        show ((List.replicate i.toNat a.cps).foldl (· ++ ·) #[]).size ≤ _
        rw [key, Nat.mul_comm]
        have ml2 : a.cps.size * i.toNat ≤ 90000 := ml
        simp
        exact Nat.le_trans ml2 (by decide)
def oRepS : O2 := fun a b M P => match a, b with
  | .d (.str s), .d (.int i) => (0 ≤ i ∧ i ≤ 1000 ∧ s.length ≤ 90) ∧ P (.d (.str (strRep s i.toNat))) M
  | _, _ => False
theorem do_repS : DO X (binaryOp .Mult) oRepS where
  run := fun {a b M P} h {u v B L Z H} S r1 r2 {Q} q => by
    unfold oRepS at h
    split at h
    · have e1 := rv_str.mp r1
      have e2 := rv_int.mp r2
      subst e1
      subst e2
      exact opS op_repS ⟨_, _, rfl, rfl, h.1.1, h.1.2.1, h.1.2.2, q.here S h.2 (rv_str.mpr rfl)⟩
    · exact h.elim
end
/-! ### o.f += i -/
section
variable {X : Cx} {o e : Expr} {fo fe : ET} {f : Str} {pos tpos : Pos}
/-- the value of a field, an int -/
def fldI (T : ClsT) (j : Nat) (d : DV) (M : Mem) (P : Nat → List DV → Int → Prop) : Prop := match d with
  | .m k => (match M[k]? with
    | some (.ins T' fs) => T' = T ∧ (match fs[j]? with
      | some (.d (.int a)) => P k fs a
      | _ => False)
    | _ => False)
  | _ => False
theorem fldI_of {T : ClsT} {j : Nat} {d : DV} {M : Mem} {P : Nat → List DV → Int → Prop} (h : fldI T j d M P) : ∃ k fs a, d = .m k ∧ M[k]? = some (.ins T fs) ∧ fs[j]? = some (.d (.int a)) ∧ P k fs a := by
  unfold fldI at h
  split at h
  · rename_i k
    split at h
    · rename_i T' fs hk
      obtain ⟨rfl, h⟩ := h
      split at h
      · rename_i a ha
        exact ⟨k, fs, a, rfl, hk, ha, h⟩
      · exact h.elim
    · exact h.elim
  · exact h.elim
def tFldAug (T : ClsT) (j : Nat) (fo fe : ET) : ST := fun E ρ M => fo ρ M (fun d M1 => fldI T j d M1 fun k fs a => fe ρ M1 (fun y M2 => match y with
  | .d (.int b) => M2 = M1 ∧ E.nx ρ (M1.set k (.ins T (fs.set j (.d (.int (a + b))))))
  | _ => False) (xS E ρ)) (xS E ρ)
theorem ds_fldaug (T : ClsT) (j : Nat) (c : ClsOk X.K T) (ho : DE X o fo) (he : DE X e fe) (hf : T.ns[j]? = some f := by rfl) (hl : T.ns.length < 900 := by first | decide | exact of_decide_eq_true rfl) : DS X (.AugAssign (.Attribute o f tpos) .Add e pos) (tFldAug T j fo fe) where
  run := fun {E ρ M} h {σ H B L Z} S V {F} l => by
    refine PS.s (ps_fldaug pe_s pe_s in_add) ?_
    refine ho.run h S V (l.ex.at_ V) fun d M1 u B1 L1 H1 h1 e1 S1 r1 => ?_
    obtain ⟨k, fs, i, rfl, hk, hi, h2⟩ := fldI_of h1
    obtain ⟨a, rfl, hL⟩ := r1
    obtain ⟨a', h4, cell⟩ := S1.at_ hk
    have : a' = a := Option.some.inj (h4.symm.trans hL)
    subst this
    obtain ⟨dx, gs, g1, g2, g3, g4⟩ := cell
    have hj : j < fs.length := (List.getElem?_eq_some_iff.mp hi).1
    obtain ⟨v, hv, rv⟩ := g4.get hi
    have hg : (gs.map (·.1))[j]? = some f := by rw [g2]; exact take_get hf hj
    have hnd : (gs.map (·.1)).Nodup := by rw [g2]; exact c.nd.sublist (List.take_sublist _ _)
    have hlk : gs.lookup f = some v := lookup_at hg hv hnd
    refine ⟨a', T.C, dx, gs, v, rfl, g1, c.cls, c.no f (List.mem_of_getElem? hf), hlk, ?_⟩
    refine he.run h2 S1 (V.mono e1) ((l.mono e1).ex.at_ (V.mono e1)) fun y M2 w B2 L2 H2 h3 e2 S2 r2 => ?_
    dsimp only at h3
    split at h3
    · rename_i b
      obtain ⟨rfl, h3⟩ := h3
      have e1' := rv_int.mp rv
      have e2' := rv_int.mp r2
      subst e1'
      subst e2'
      refine ⟨i, b, rfl, rfl, ?_⟩
      have hset : setF fs j (.d (.int (i + b))) = some (fs.set j (.d (.int (i + b)))) := by
        unfold setF
        rw [if_pos hj]
      obtain ⟨dx2, gs2, q1, q2, S3⟩ := StM.putFld c hf S2 hk (e2.get hL) hset (rv_int (K := X.K) (B := B2) (L := L2).mpr rfl)
      exact ⟨dx2, gs2, q1, by omega, l.nx _ _ _ _ _ _ h3 (e1.trans e2) S3 (V.mono (e1.trans e2))⟩
    · exact h3.elim
end
end DL

/-! a list comprehension whose element may raise -/
namespace DL
open PySem PySem.Spec PyProof.Rows L2
/-! ### an exception that leaves the block -/
section
variable {M : Model} {A : Around} {E : Value → Shared → Prop} {s : Shared} {B : Heap} {env : Env} {outer l : List Env} {a C L : Addr} {Z : Obj → Prop}
/-- noted under another frame's mark -/
theorem note_other {Q : Unit → Shared → Prop} (hZ : HandSPX.Steady Z) (hfr : A.frames = some (env :: outer)) (hf : env.frame = some L) (hne : C ≠ L) (hh : HandSPX.HeldZ B (env :: outer) a Z C s.heap)
    (hQ : ∀ h', HandSPX.HeldZ B (env :: outer) a Z L h' → s.heap.UpToSlots h' → Q () { s with heap := h' }) : wpAny M A (noteFrame (.ref a) env) Q E s := by
  obtain ⟨q1, q2, q3, oe, vs, T, oT, ts, t1, t2, t3, t4, t5, t6, t7, t8, t9⟩ := hh
  unfold noteFrame
  simp only [hf]
  refine wpAny_bind ?_
  refine wpAny_field t1 t3 t4 ?_
  rw [if_pos (by simp : (Value.ref T != Value.none) = true)]
  refine wpAny_bind ?_
  refine wpAny_field t7 t8 t9 ?_
  have hr : ¬ ((rawInt C == rawInt L) = true) := by
    simp only [rawInt, beq_iff_eq]
    intro e
    injection e with e1 e2
    exact hne (Int.ofNat.inj e1)
  rw [if_neg hr]
  refine wpAny_bind ?_
  refine wpAny_setField t7 t8 (Array.getElem?_eq_some_iff.mp t9).1 ?_
  have oth : ∀ b, b ≠ T → (s.heap.update T (Obj.mapFields (·.setIfInBounds 3 Value.none))).get? b = s.heap.get? b := fun b hb => Heap.get?_update_other _ _ fun z => hb z.symm
  have nr : ∀ b o, s.heap.get? b = some o → (∀ vs, o.data ≠ .fields vs) → b ≠ T := fun b o e hn z => by
    subst z
    rw [t7] at e
    cases e
    exact hn ts t8
  have fr : (s.heap.update T (Obj.mapFields (·.setIfInBounds 3 Value.none))).FunFrames B (env :: outer) := q3.of_keeps fun b o e hn => ⟨o, by rw [oth b (nr b o e hn)]; exact e, rfl⟩
  have he : (s.heap.update T (Obj.mapFields (·.setIfInBounds 3 Value.none))).get? a = some oe := by
    rw [oth a fun z => t6 z.symm]
    exact t1
  have st : B.StaysIn (s.heap.update T (Obj.mapFields (·.setIfInBounds 3 Value.none))) := fun b o e => by
    have hb : b ≠ T := fun z => by
      subst z
      rw [t5] at e
      cases e
    rw [oth b hb]
    exact q1 b o e
  refine HandSPX.wpAny_entryZ hZ hfr fr hf he st q2 t3 (Array.getElem?_eq_some_iff.mp t4).1 t2 fun h' hN => ?_
  obtain ⟨x1, x2, x3, x4⟩ := hN
  refine hQ h' ⟨x1, q2, x2, x3⟩ fun b o e hn => ?_
  refine x4 b o ?_ hn
  rw [oth b (nr b o e hn)]
  exact e
theorem note_any {Q : Unit → Shared → Prop} (hZ : HandSPX.Steady Z) (hfr : A.frames = some (env :: outer)) (hf : env.frame = some L) (hne : C ≠ L) (x : Sky B (env :: outer) a Z C s.heap)
    (hQ : ∀ h', HandSPX.HeldZ B (env :: outer) a Z L h' → s.heap.UpToSlots h' → Q () { s with heap := h' }) : wpAny M A (noteFrame (.ref a) env) Q E s := by
  rcases x with ⟨x1, x2, x3, oe, vs, x4, x5, x6, x7⟩ | x | x
  · exact HandSPX.look_newZ hZ hfr x3 hf x4 x1 x2 x6 x7 x5 hQ
  · exact HandSPX.looks_onZ hZ hfr hf x hQ
  · exact note_other hZ hfr hf hne x hQ
theorem note_env {e : Value} {env1 env2 : Env} (h : env1.frame = env2.frame) : noteFrame e env1 = noteFrame e env2 := by
  unfold noteFrame PySem.frameOf
  rw [h]
theorem pass_env {α : Type} {w : String} {e : Value} {env1 env2 : Env} (h : env1.frame = env2.frame) : (PySem.passOn w e env1 : Sem α) = PySem.passOn w e env2 := by
  unfold PySem.passOn
  rw [h]
/-- it is passed on -/
theorem pass_held {w : String} {Q : Value → Shared → Prop} (hf : env.frame = some L) (hh : HandSPX.HeldZ B l a Z L s.heap) (hQ : ∀ h', HandSPX.HeldZ B l a Z L h' → s.heap.UpToSlots h' → E (.ref a) { s with heap := h' }) :
    wpAny M A (PySem.passOn w (.ref a) env : Sem Value) Q E s := by
  obtain ⟨q1, q2, q3, oe, vs, T, oT, ts, t1, t2, t3, t4, t5, t6, t7, t8, t9⟩ := id hh
  unfold PySem.passOn
  rw [hf]
  refine wpAny_bind (wpAny_field t1 t3 t4 ?_)
  rw [if_neg (by simp : ¬ ((Value.ref T == Value.none) = true))]
  refine wpAny_bind (HandSPX.setFlight_onZ hh fun h' k1 k2 => ?_)
  exact wpAny_throw (hQ h' k1 k2)
/-- without one of the ground's objects -/
theorem frames_less {h h2 B B2 : Heap} (h1 : ∀ b, b ≠ C → h2.get? b = h.get? b) (h3 : ∀ b, b ≠ C → B2.get? b = B.get? b) : ∀ {l : List Env}, (∀ e ∈ l, e.frame ≠ some C) → h.FunFrames B l → h2.FunFrames B2 l
  | [], _, _ => trivial
  | e :: r, hc, x => by
    obtain ⟨x1, ⟨L, o, x2, x3, x4, x5⟩, x6⟩ := x
    have hL : L ≠ C := fun z => hc e (List.mem_cons_self ..) (z ▸ x2)
    exact ⟨x1, ⟨L, o, x2, by rw [h3 L hL]; exact x3, by rw [h1 L hL]; exact x4, x5⟩, frames_less h1 h3 (fun e he => hc e (List.mem_cons_of_mem _ he)) x6⟩
theorem held_less {h h2 B2 : Heap} {oC : Obj} (hC : h.get? C = some oC) (nC : ∀ vs, oC.data ≠ .fields vs) (hl : ∀ e ∈ l, e.frame ≠ some C) (h1 : ∀ b, b ≠ C → h2.get? b = h.get? b) (h3 : ∀ b, b ≠ C → B2.get? b = B.get? b) (h4 : B2.get? C = none)
    (hh : HandSPX.HeldZ B l a Z L h) : HandSPX.HeldZ B2 l a Z L h2 := by
  obtain ⟨q1, q2, q3, oe, vs, T, oT, ts, t1, t2, t3, t4, t5, t6, t7, t8, t9⟩ := hh
  have ha : a ≠ C := fun z => by
    subst z
    rw [hC] at t1
    cases t1
    exact nC vs t3
  have hT : T ≠ C := fun z => by
    subst z
    rw [hC] at t7
    cases t7
    exact nC ts t8
  refine ⟨fun b o e => ?_, by rw [h3 a ha]; exact q2, frames_less h1 h3 hl q3, oe, vs, T, oT, ts, by rw [h1 a ha]; exact t1, t2, t3, t4, by rw [h3 T hT]; exact t5, t6, by rw [h1 T hT]; exact t7, t8, t9⟩
  have hb : b ≠ C := fun z => by
    subst z
    rw [h4] at e
    cases e
  rw [h1 b hb]
  rw [h3 b hb] at e
  exact q1 b o e
end
/-! ### the block's end -/
section
variable {M : Model} {A : Around} {E : Value → Shared → Prop} {s : Shared} {env : Env}
def cpX (M : Model) (A : Around) (E : Value → Shared → Prop) (use : Option (Value → Sem Unit)) (Q : Value → Shared → Prop) (acc : Value) (cenv : Env) (r : Result) (s' : Shared) : Prop :=
  match r with
  | .ok f => compPost M A E use Q acc cenv.locals (.ok f) s'
  | .error x => ∃ m, s'.heap.Ns cenv.locals m ∧ ∀ h', Heap.SameBut cenv.locals s'.heap h' → wpAny M A (PySem.passOn "comprehension.variables-let-go" x cenv : Sem Value) (fun _ _ => False) E { s' with heap := h' }
theorem comp_freeX {e : Expr} {scope : Scope} {pos : Pos} {newAcc first : Sem Value} {g : Comprehension} {gs : List Comprehension} {cl : List (Str × Addr)} {use : Option (Value → Sem Unit)} {Q : Value → Shared → Prop}
    (c1 : clausesOf e = g :: gs) (c2 : ∀ x, foldedSetIterable g.iter env x = pure x) (c3 : closureFor scope env = pure cl) (c4 : scope.kind = .function) (c5 : ∀ x ∈ scope.names, x.2 = .local → scope.names.lookup x.1 = some .local)
    (h : wpAny M A first (fun x s1 => wpAny M A (pyIter x) (fun it s2 => wpAny M A newAcc (fun acc s3 => wpAny M A (newFunctionEnv scope env.globals cl [] env.qual none .none (some env)) (fun cenv s4 =>
      codeAny M A (.compStart e 0 it acc { cenv with scope := relabel scope env }) (cpX M A E use Q acc { cenv with scope := relabel scope env }) s4) E s3) E s2) E s1) E s) :
    wpAny M A (comprehension e scope env pos newAcc false first use) Q E s := by
  have kp : ∀ {α : Type} {m : Sem α} {P P' : α → Shared → Prop} {s : Shared}, wpAny M A m P E s → (∀ a s', P a s' → P' a s') → wpAny M A m P' E s := fun h f => wpAny_mono h f fun _ _ z => z
  unfold comprehension
  rw [c3, c1]
  refine wpAny_bind (kp h fun x s1 h1 => ?_)
  refine wpAny_bind (wpAny_standAt ?_)
  refine wpAny_bind (wpAny_of_eq (c2 x) ?_)
  refine wpAny_bind (wpAny_holding (kp h1 fun it s2 h2 => ?_))
  refine wpAny_standIf (wpAny_bind (kp h2 fun acc s3 h3 => ?_))
  refine wpAny_bind (wpAny_pure ?_)
  refine wpAny_bind (kp h3 fun cenv s4 h4 => ?_)
  dsimp only
  have loc : ∀ x ∈ (scope.names.filter fun x => (x.2 == .local || x.2 == .cell) && x.1 != (".0" : Str)).reverse, x.2 = .local → Env.kindOf { cenv with scope := relabel scope env } x.1 = some .local := fun x hx hl =>
    lookup_relabel_local (c5 x (List.mem_filter.mp (List.mem_reverse.mp hx)).1 hl)
  refine wpAny_holding (wpAny_bind (wpAny_attempt (wpAny_holding (wpAny_run (codeAny_mono h4 fun r s5 hr => ?_)))))
  match r, hr with
  | .ok f, hr =>
    cases use with
    | none =>
      obtain ⟨m, k1, k2⟩ := hr
      refine wpAny_bind (wpAny_holding ?_)
      exact wpAny_comp_letGo (cenv := { cenv with scope := relabel scope env }) c4 _ s5 m loc k1 fun h' m' _ sb => wpAny_pure (k2 h' sb)
    | some u =>
      refine wpAny_bind (wpAny_rule (wpAny_bind (wpAny_holding ?_)))
      refine kp hr fun _ s6 ⟨m, k1, k2⟩ => wpAny_bind ?_
      refine wpAny_comp_letGo (cenv := { cenv with scope := relabel scope env }) c4 _ s6 m (fun x hx hl => ?_) k1 fun h' m' _ sb => wpAny_pure (k2 h' sb)
      rcases List.mem_append.mp hx with hx | hx
      · exact loc x (List.mem_of_mem_drop hx) hl
      · exact loc x (List.mem_of_mem_take hx) hl
  | .error x, hr =>
    obtain ⟨m, k1, k2⟩ := hr
    refine wpAny_bind (wpAny_holding ?_)
    exact wpAny_comp_letGo (cenv := { cenv with scope := relabel scope env }) c4 _ s5 m loc k1 fun h' m' _ sb => wpAny_mono (k2 h' sb) (fun _ _ f => f.elim) fun _ _ z => z
end
section
variable {X : Cx}
theorem noE {α : Type} {t : Sem α} {Q Q' : α → Shared → Prop} {M : Model} {A : Around} {E : Value → Shared → Prop} {s : Shared} (h : wpAny M A t Q (fun _ _ => False) s) (f : ∀ a s, Q a s → Q' a s) : wpAny M A t Q' E s :=
  wpAny_mono h f fun _ _ z => z.elim
/-- an exception of the block's element goes out of the def -/
theorem blk_out {pins : List (Addr × Obj)} {s3 : Shared} {σ : L2.St} {H3 : Hp} {W : WX} {W0 : Value → Option Addr → Hp → Prop} {use : Option (Value → Sem Unit)} {Qf : Value → Shared → Prop} {acc u : Value} {scope : Scope} {cl : List (Str × Addr)} {fp : List Addr} {s' : Shared}
    (est : X.stack = X.env :: X.outer) (efr : X.env.frame = some X.env.locals) (tk : Takes X W) (hW : ∀ cls d H', W0 cls d H' → W cls d σ H') (I3 : Inv X pins σ H3 s3) (f3 : ∀ b ∈ fp, FpOk X pins H3 b)
    (x : XE (X.blk s3 H3 scope (compEnvC scope cl s3.heap.objs.size X.env) fp) (fun cls d _ H' => W0 cls d H') u s') :
    notedBy (model X.prog X.w) X.A (compEnvC scope cl s3.heap.objs.size X.env) (fun e s' => cpX (model X.prog X.w) X.A X.xe use Qf acc (compEnvC scope cl s3.heap.objs.size X.env) (.error e) s') u s' := by
  obtain ⟨a, B, sI, pins2, σ2, H2, cls, d, rfl, I, nb, up, sky, na, os, ag, w⟩ := x
  generalize hC : s3.heap.objs.size = C at I sky
  have fe : (compEnvC scope cl C X.env).frame = X.env.frame := rfl
  have nC : H2 C = none := I.free
  have hLC : X.env.locals < C := by
    rw [← hC]
    exact I3.lt
  have hne : C ≠ X.env.locals := Nat.ne_of_gt hLC
  obtain ⟨m, hm, _⟩ := I.loc
  have hm : sI.heap.Ns C m := hm
  have hfr : X.A.frames = some (X.env :: X.outer) := by
    rw [← est]
    exact I3.ok.frames
  have hstk : (X.blk s3 H3 scope (compEnvC scope cl C X.env) fp).stack = X.env :: X.outer := est
  have sky : Sky B (X.env :: X.outer) a (Zc cls d) C s'.heap := by
    rw [← est]
    exact sky
  have nfr : ∀ e ∈ X.env :: X.outer, e.frame ≠ some C := fun e he z => by
    rcases List.mem_cons.mp he with rfl | he
    · rw [efr] at z
      exact hne (Option.some.inj z).symm
    · have : C ∈ X.fs := List.mem_filterMap.mpr ⟨e, he, z⟩
      rw [← hC] at this
      exact I3.nofs (Nat.le_refl _) this
  -- back in the def's context
  have I7 : Inv X pins σ H2 sI := I3.call' (ch := fp) I.os I.base I.hok I.bare fun b hb => ⟨(f3 b hb).2.2.2.1, (f3 b hb).2.1, (f3 b hb).2.2.2.2.1, (f3 b hb).2.2.2.2.2⟩
  have fC : FpOk X pins H2 C := by
    rw [← hC] at nC ⊢
    exact I3.fpOk (Nat.le_refl _) nC
  obtain ⟨G, g1, g2⟩ := restrict sI.heap fun b => decide (b ≠ C)
  obtain ⟨B2, b1, b2⟩ := restrict B fun b => decide (b ≠ C)
  have g1 : ∀ b, b ≠ C → G.get? b = sI.heap.get? b := fun b hb => g1 b (decide_eq_true hb)
  have g2 : G.get? C = none := g2 C (by simp)
  have b1 : ∀ b, b ≠ C → B2.get? b = B.get? b := fun b hb => b1 b (decide_eq_true hb)
  have b2 : B2.get? C = none := b2 C (by simp)
  have I8 : Inv X pins σ H2 { sI with heap := G } := I7.turned (t' := sI.toks) (it := C) (fun b o hb e => (g1 b hb).trans e) fC.1 fC.2.1 fC.2.2.2.1 fC.2.2.2.2.1 fC.2.2.2.2.2
  obtain ⟨oC, es, ep, hoC, hdC, _⟩ := hm
  have ndC : ∀ vs, oC.data ≠ .fields vs := fun vs z => by
    rw [hdC] at z
    cases z
  -- the frame notes it
  unfold notedBy
  rw [note_env fe]
  refine note_any Zc.steady hfr efr hne sky fun h1 hh1 up1 => ?_
  -- the block's own dict as it stands
  have upC : ∃ sl, h1.get? C = some { oC with slots := sl } := by
    obtain ⟨sl, e1⟩ := up C oC hoC ndC
    obtain ⟨sl2, e2⟩ := up1 C _ e1 ndC
    exact ⟨sl2, e2⟩
  have nsC : ∃ m, h1.Ns C m := by
    obtain ⟨sl, e⟩ := upC
    obtain ⟨o, es, ep, z1, z2, z3⟩ := (⟨oC, es, ep, hoC, hdC, ‹_›⟩ : sI.heap.Ns C m)
    rw [hoC] at z1
    cases z1
    exact ⟨m, _, es, ep, e, z2, z3⟩
  obtain ⟨m1, hm1⟩ := nsC
  obtain ⟨sl, eC⟩ := upC
  refine ⟨m1, hm1, fun h2 sb => ?_⟩
  rw [pass_env (env2 := X.env) fe]
  have hh2 : HandSPX.HeldZ B2 (X.env :: X.outer) a (Zc cls d) X.env.locals h2 := held_less eC ndC nfr (fun b hb => sb.2 b hb) b1 b2 hh1
  refine pass_held efr hh2 fun h3 hh3 up3 => ?_
  refine tk _ _ ⟨a, B2, { sI with heap := G }, pins, σ, H2, cls, d, rfl, I8, fun b o e hb => ?_, fun b o e hn => ?_, .inr (.inr ?_), na, os, ag, hW _ _ _ w⟩
  · have hbC : b ≠ C := fun z => by
      rw [z, g2] at e
      cases e
    rw [b1 b hbC]
    refine nb b o ((g1 b hbC).symm.trans e) ?_
    exact hb
  · have hbC : b ≠ C := fun z => by
      rw [z, g2] at e
      cases e
    obtain ⟨sl1, e1⟩ := up b o ((g1 b hbC).symm.trans e) hn
    obtain ⟨sl2, e2⟩ := up1 b _ e1 hn
    have e2' : h2.get? b = _ := (sb.2 b hbC).trans e2
    obtain ⟨sl3, e3⟩ := up3 b _ e2' hn
    exact ⟨sl3, e3⟩
  · rw [est]
    exact hh3
end
section
variable {X : Cx}
/-- the element's context: what it raises is W0's -/
abbrev elX (X : Cx) (W0 : Value → Option Addr → Hp → Prop) (s : Shared) (H : Hp) (scope : Scope) (cl : List (Str × Addr)) (C : Addr) (fp : List Addr) : Cx :=
  (X.blk s H scope (compEnvC scope cl C X.env) fp).wish (XE (X.blk s H scope (compEnvC scope cl C X.env) fp) fun cls d _ H' => W0 cls d H')
theorem lcX_core {pins : List (Addr × Obj)} {s : Shared} {σ : L2.St} {H : Hp} {Q : VK} {elt tg iter : Expr} {ifs : List Expr} {scope : Scope} {own : List (Str × Nat)} {pos pos' : Pos} {wi : L2.TI} {g : L2.TG} {tt : L2.TT} {te : L2.TE}
    {use : Option (Value → Sem Unit)} {Qf : Value → Shared → Prop} {W : WX} {W0 : Value → Option Addr → Hp → Prop} (hc : X.calm = true) (hN : X.N.Nodup) (est : X.stack = X.env :: X.outer) (efr : X.env.frame = some X.env.locals) (tk : Takes X W)
    (hW : ∀ cls d H', W0 cls d H' → W cls d σ H') (I : Inv X pins σ H s) (hi : PI X tg iter wi) (ok : BlkOk X.N X.env.scope scope own)
    (hg : ∀ s H C cl fp, PG (X.blk s H scope (compEnvC scope cl C X.env) fp) tg g) (ht : ∀ s H C cl fp, PTs (X.blk s H scope (compEnvC scope cl C X.env) fp) ifs tt) (he : ∀ s H C cl fp, PE (elX X W0 s H scope cl C fp) elt te)
    (hs : ∀ x, foldedSetIterable iter X.env x = pure x) (h : L2.tLc wi g tt te (own.map (·.2)) σ H Q)
    (hRR : ∀ D C s' m H', Inv X pins σ H' s' → Q (.ref D) H' → s'.heap.Ns C m → FpOk X pins H' C → compPost (model X.prog X.w) X.A X.xe use Qf (.ref D) C (.ok .next) s') :
    wpAny (model X.prog X.w) X.A (comprehension (.ListComp elt [⟨tg, iter, ifs, 0⟩] scope pos) scope X.env pos' (newList []) false (eval iter X.env) use) Qf X.xe s := by
  have fre : ∀ y ∈ scope.names, y.2 = .free → ∃ c, X.env.cells.lookup y.1 = some c := fun y hy e => (ok.free y hy e).elim (fun k => I.ok.has _ (.inl k)) fun k => I.ok.has _ (.inr k)
  refine comp_freeX (use := use) rfl hs (closure_ok fre) ok.kind (fun y hy e => by rw [ok.uniq y hy, e]) ?_
  refine thn (hi.run pins s σ H _ I h) fun xv s1 hx => thn hx fun itv s2 h2 => ?_
  obtain ⟨it, fp, tn, J, H2, rfl, I2, T, st2, f2, q⟩ := h2
  refine wpAny_newObj_type (newEnv_comp ?_) (by show 0 ≤ sizeLine; decide)
  generalize hD : s2.heap.objs.size = D
  obtain ⟨Wt, ⟨m0, w0⟩, turn⟩ := q D (I2.hok.fresh (Nat.le_of_eq hD))
  generalize hs3 : ({ s2 with heap := s2.heap.push { cls := .type "list", data := .seq ([] : List Value).toArray } } : Shared) = s3
  have h3 : s3.heap = s2.heap.push { cls := .type "list", data := .seq ([] : List Value).toArray } := by rw [← hs3]
  have I3 : Inv X pins σ (upd H2 D (.lst [])) s3 := by
    rw [← hs3]
    refine I2.laid (t' := s2.toks) (fun b o e => Heap.get?_push_of_some _ e) (Nat.le_of_eq hD) ⟨Nat.zero_le _, [], 0, .nil, ?_⟩
    rw [← hD]
    exact Heap.get?_push_size _ rfl
  have lt2 : ∀ b ∈ fp, b < s2.heap.objs.size := fun b hb => by
    obtain ⟨o, e, _⟩ := T.obj _ _ st2 b hb
    exact Heap.lt_size e
  have f3 : ∀ b ∈ fp, FpOk X pins (upd H2 D (.lst [])) b ∧ b < s3.heap.objs.size := fun b hb => by
    have h1 := lt2 b hb
    have h2 : b ≠ D := by
      rw [← hD]
      exact Nat.ne_of_lt h1
    refine ⟨⟨by rw [upd_ne h2]; exact (f2 b hb).1, (f2 b hb).2⟩, ?_⟩
    rw [h3, Heap.size_push]
    exact Nat.lt_succ_of_lt h1
  have st3 : tn 0 s3.heap := T.keep _ _ _ st2 fun b _ o e => by
    rw [h3]
    exact Heap.get?_push_of_some _ e
  have I4 := block_start I3 ok hN f3
  generalize hcl : cellsFrom (s3.heap.objs.size + 1) scope.names (cloFrom X.env.cells scope.names []) = cl at I4 ⊢
  show codeAny _ _ (.compStart (.ListComp elt [⟨tg, iter, ifs, 0⟩] scope pos) 0 (.ref it) (.ref D) (compEnvC scope cl s3.heap.objs.size X.env)) (cpX (model X.prog X.w) X.A X.xe use Qf (.ref D) (compEnvC scope cl s3.heap.objs.size X.env)) { s3 with heap := pushCells (s3.heap.push { cls := .type "dict", data := .dict #[] }) scope.names }
  generalize hH3 : upd H2 D (.lst []) = H3 at I3 I4 w0 f3
  generalize hs4 : ({ s3 with heap := pushCells (s3.heap.push { cls := .type "dict", data := .dict #[] }) scope.names } : Shared) = s4 at I4 ⊢
  have out := fun u s' => blk_out (use := use) (Qf := Qf) (acc := .ref D) (scope := scope) (cl := cl) (u := u) (s' := s') est efr tk hW I3 fun b hb => (f3 b hb).1
  have pg := hg s3 H3 s3.heap.objs.size cl fp
  have pt := ht s3 H3 s3.heap.objs.size cl fp
  have pe : PE ((X.blk s3 H3 scope (compEnvC scope cl s3.heap.objs.size X.env) fp).wish (XE (X.blk s3 H3 scope (compEnvC scope cl s3.heap.objs.size X.env) fp) fun cls d _ H' => W0 cls d H')) elt te := he s3 H3 s3.heap.objs.size cl fp
  have st4 : tn 0 s4.heap := T.keep _ _ _ st3 fun b _ o e => by
    rw [← hs4]
    exact pushCells_keeps _ _ _ _ (Heap.get?_push_of_some _ e)
  have cL : (compEnvC scope cl s3.heap.objs.size X.env).locals = s3.heap.objs.size := rfl
  generalize hce : compEnvC scope cl s3.heap.objs.size X.env = ce at I4 pg pt pe out cL ⊢
  have still : ∀ {σ' : L2.St} {H' : Hp} {s' : Shared}, Inv (X.blk s3 H3 scope ce fp) [] σ' H' s' → (∀ b ∈ fp, H' b = none) → ∀ b ∈ fp, FpOk (X.blk s3 H3 scope ce fp) [] H' b := fun I' hn b hb =>
    ⟨hn b hb, (I'.ok.exf b hb).1, I'.ok.exfs b hb, .inl hb, fun x c e => (I'.ok.exf b hb).2 x c e, fun p hp => by cases hp⟩
  refine codeAny_compStart_list ?_ (T.self X.A 0 _ _ _ st4 ?_) <;>
  · refine compLoop_any (fun n s' => ∃ i H', Inv (X.blk s3 H3 scope ce fp) [] (wipe σ (own.map (·.2))) H' s' ∧ tn i s'.heap ∧ (∀ b ∈ fp, H' b = none) ∧ Wt i n H') ?_ m0 ⟨0, H3, I4, st4, fun b hb => (f3 b hb).1.1, w0⟩
    rintro n s5 ⟨i, H5, I5, st5, n5, w5⟩
    rcases turn i n H5 w5 with ⟨stop, qq⟩ | ⟨go, Nx, hNx, step⟩
    · have td := T.done (X.blk s3 H3 scope ce fp) rfl rfl rfl hc i [] s5 _ H5 (fun _ _ => False) I5 (still I5 n5) st5 stop
      refine noE td fun r s6 ⟨hr, I6⟩ => ?_
      subst hr
      have I7 : Inv X pins σ H5 s6 := I3.call' (ch := fp) I6.os I6.base I6.hok I6.bare fun b hb => ⟨(f3 b hb).1.2.2.2.1, (f3 b hb).1.2.1, (f3 b hb).1.2.2.2.2.1, (f3 b hb).1.2.2.2.2.2⟩
      have nC : H5 s3.heap.objs.size = none := by
        rw [← cL]
        exact I6.free
      obtain ⟨m, hn, _⟩ := I6.loc
      have hn : s6.heap.Ns ce.locals m := hn
      show compPost _ _ _ use Qf (.ref D) ce.locals (.ok .next) s6
      rw [cL] at hn ⊢
      exact hRR D s3.heap.objs.size s6 m H5 I7 qq hn (I3.fpOk (Nat.le_refl _) nC)
    · have ti := T.item (X.blk s3 H3 scope ce fp) rfl rfl rfl hc i [] s5 _ H5 (fun _ _ => False) I5 (still I5 n5) st5 go
      refine noE ti fun r s6 ⟨u, hr, h6⟩ => ?_
      subst hr
      refine noE h6 fun _ s7 ⟨x, H7, I7, r7, y7, st7, n7⟩ => ?_
      have J7 := I7.pinned (still I7 n7) (T.obj _ _ st7)
      refine noE (pg.run _ s7 _ H7 x u _ J7 r7 (step x H7 y7)) fun _ s8 ⟨σ8, H8, I8, hw8, q8⟩ => ?_
      refine noE (pt.run _ s8 σ8 H8 _ I8 q8) fun b s9 ⟨H9, I9, q9⟩ => ?_
      have fin : ∀ {s' : Shared} {H' : Hp}, Inv (X.blk s3 H3 scope ce fp) ([] ++ pinsAt fp s7.heap) σ8 H' s' → Nx H' → ∃ m, m < n ∧ ∃ i H', Inv (X.blk s3 H3 scope ce fp) [] (wipe σ (own.map (·.2))) H' s' ∧ tn i s'.heap ∧ (∀ b ∈ fp, H' b = none) ∧ Wt i m H' := fun {s' H'} I' nx => by
        obtain ⟨m', hm, w'⟩ := hNx H' nx
        have pin' : ∀ b ∈ fp, ∀ o, s7.heap.get? b = some o → s'.heap.get? b = some o ∧ H' b = none := fun b hb o e => by
          have z := I'.pin (b, o) (List.mem_append_right _ (List.mem_append_right _ (mem_pinsAt hb e)))
          exact ⟨z.1, z.2.1⟩
        have hl : (wipe σ (own.map (·.2))).length = σ8.length := by rw [← hw8, wipe_length]
        refine ⟨m', hm, i + 1, H', (I'.unpinned (pins := [])).weak hl (fun j v e => ?_), T.keep _ _ _ st7 fun b hb o e => (pin' b hb o e).1, fun b hb => ?_, w'⟩
        · rw [← hw8] at e
          exact (wipe_some e).1
        · obtain ⟨o, e, _⟩ := T.obj _ _ st7 b hb
          exact (pin' b hb o e).2
      cases b with
      | false =>
        simp only [Bool.false_eq_true, if_false] at q9 ⊢
        exact fin I9 q9
      | true =>
        simp only [if_true] at q9 ⊢
        refine wpAny_mono (pe.run _ s9 σ8 H9 _ (I9.wish _) q9) (fun z s10 hz => ?_) fun u s' hx => ?_
        · obtain ⟨yv, H10, I10, r10, acc, hD10, hz10, nx⟩ := hz
          exact app_ok (X := X.blk s3 H3 scope ce fp) I10.unwish hD10 hz10 r10 fun s11 I11 => fin I11 nx
        · exact out u s' hx
end
/-! ### the data level -/
variable [Csts]
section
variable {X : Cx} {elt tg iter : Expr} {ifs : List Expr} {scope : Scope} {own : List (Str × Nat)} {pos : Pos} {fi : IT} {g : GT} {tt : TT} {fe : ET}
def tLcXG (fi : IT) (g : GT) (tt : TT) (fe : ET) (vs : List Nat) (Fin : List DV → Mem → Prop) (ρ : Rh) (M : Mem) (x : XPost) : Prop := fi ρ M (fun xs still M1 => ∃ I : Nat → List DV → Mem → Prop, I 0 [] M1 ∧
  (∀ i y acc M', xs[i]? = some y → I i acc M' → still M' ∧ g y (wipeD ρ vs) M' fun ρ2 M2 => tt ρ2 M2 (fun b M3 => (b = true → fe ρ2 M3 (fun d M4 => acc.length < 100000 ∧ I (i + 1) (acc ++ [d]) M4) x) ∧ (b = false → I (i + 1) acc M3)) fun _ _ _ => False) ∧
  ∀ acc M', I xs.length acc M' → still M' ∧ Fin acc M') x
def tLcX (fi : IT) (g : GT) (tt : TT) (fe : ET) (vs : List Nat) : ET := fun ρ M P x => tLcXG fi g tt fe vs (fun acc M' => match allD acc with
  | some zs => P (.d (.lst zs)) M'
  | none => False) ρ M x
/-- what is wished of an exception of the element -/
def xW (X : Cx) (B : Hp) (L : List Addr) (Z : Zs) (x : XPost) : Value → Option Addr → Hp → Prop := fun cls d H' => ∃ fs M' B' L', x cls fs M' ∧ Ext B L B' L' ∧ StM X.K B' L' Z M' H' ∧ XRep X.K B' d fs
abbrev blkEX (X : Cx) (W0 : Value → Option Addr → Hp → Prop) (scope : Scope) (elt : Expr) : L2.TE := fun σ H Q => ∀ s0 H0 C cl fp, sE (elX X W0 s0 H0 scope cl C fp) elt σ H Q
theorem takes_elX {W0 : Value → Option Addr → Hp → Prop} {s0 : Shared} {H0 : Hp} {cl : List (Str × Addr)} {C : Addr} {fp : List Addr} : Takes (elX X W0 s0 H0 scope cl C fp) (fun cls d _ H' => W0 cls d H') := fun u s' hx => by
  obtain ⟨a, B, sI, pins, σ, H, cls, d, e, I, r⟩ := hx
  exact ⟨a, B, sI, pins, σ, H, cls, d, e, I.unwish, r⟩
theorem lcX_reading (hi : DI X tg iter fi) (hg : ∀ s H C cl fp, DGw (X.blk s H scope (compEnvC scope cl C X.env) fp) tg (own.map (·.2)) g) (ht : ∀ s H C cl fp, DTs (X.blk s H scope (compEnvC scope cl C X.env) fp) ifs tt)
    (he : ∀ W0 s H C cl fp, DE (elX X W0 s H scope cl C fp) elt fe) {ρ : Rh} {M : Mem} {x : XPost} {Fin : List DV → Mem → Prop} (h : tLcXG fi g tt fe (own.map (·.2)) Fin ρ M x) {σ : L2.St} {H B : Hp} {L : List Addr} {Z : Zs} (S : StM X.K B L Z M H)
    (V : EnvR X.K B L σ ρ) (x1 : XOk X B L Z σ x) {Q : VK}
    (q : ∀ acc M' D accV B' L' H', Fin acc M' → Ext B L B' L' → StM X.K B' L' ((D, .lst accV) :: Z) M' H' → (∀ q ∈ Z, q.1 ≠ D) → RepVs X.K B' L' acc accV → Q (.ref D) H') :
    L2.tLc (sI X tg iter) (blkG X scope tg) (blkT X scope ifs) (blkEX X (xW X B L Z x) scope elt) (own.map (·.2)) σ H Q := by
  have nox : ∀ s0 H0 C cl fp B L Z σ, XOk (X.blk s0 H0 scope (compEnvC scope cl C X.env) fp) B L Z σ (fun _ _ _ => False) := fun _ _ _ _ _ _ _ _ _ => ⟨fun _ _ _ _ => False, takes0, fun _ _ _ _ _ _ _ h => h.elim⟩
  refine hi.run h S V x1 fun xs still M1 B1 L1 H1 J hR e1 S1 it => ?_
  obtain ⟨I, h0, hs, hd⟩ := hR
  intro D hD
  have hZ := S1.zne hD
  refine ⟨fun i m H' => i + m = xs.length ∧ ∃ acc accV M' B' L', I i acc M' ∧ Ext B1 L1 B' L' ∧ StM X.K B' L' ((D, .lst accV) :: Z) M' H' ∧ RepVs X.K B' L' acc accV, ⟨xs.length, by omega, [], [], M1, B1, L1, h0, Ext.refl _ _, S1.newZ hD, trivial⟩, ?_⟩
  rintro i m H' ⟨hm, acc, accV, M', B', L', hI, e2, S2, r2⟩
  by_cases hl : i < xs.length
  · obtain ⟨y, hy⟩ : ∃ y, xs[i]? = some y := ⟨xs[i], List.getElem?_eq_getElem hl⟩
    obtain ⟨st, hg'⟩ := hs i y acc M' hy hI
    obtain ⟨go, yl⟩ := it.go i y M' B' L' [(D, .lst accV)] H' hy st e2 S2
    refine .inr ⟨go, fun H2 => ∃ m', m' < m ∧ (i + 1) + m' = xs.length ∧ ∃ acc accV M' B' L', I (i + 1) acc M' ∧ Ext B1 L1 B' L' ∧ StM X.K B' L' ((D, .lst accV) :: Z) M' H2 ∧ RepVs X.K B' L' acc accV, fun _ ⟨m', a, b⟩ => ⟨m', a, b⟩, fun v H'' hy' s0 H0 C cl fp => ?_⟩
    obtain ⟨B'', e3, S3, r3⟩ := yl v H'' hy'
    refine (hg s0 H0 C cl fp).run hg' S3 ((V.mono ((e1.trans e2).trans e3)).wipe _) r3 fun ρ2 M2 B2 L2 σ2 H2 h2 e4 S4 V4 w4 => ?_
    refine ⟨w4.trans (wipe_idem _ _), fun s0 H0 C cl fp => ?_⟩
    refine (ht s0 H0 C cl fp).run h2 S4 V4 (nox ..) fun b M3 B3 L3 H3 h3 e5 S5 => ?_
    cases b with
    | false => exact ⟨m - 1, by omega, by omega, acc, accV, M3, B3, L3, (h3.2 rfl), ((e2.trans e3).trans e4).trans e5, S5, r2.mono ((e3.trans e4).trans e5)⟩
    | true =>
      intro s0 H0 C cl fp
      have ex : Ext B L B3 L3 := (((e1.trans e2).trans e3).trans e4).trans e5
      refine (he _ s0 H0 C cl fp).run (h3.1 rfl) S5 (V4.mono e5) ⟨_, takes_elX, fun cls fs M6 d B6 L6 H6 k1 k2 k3 k4 => ⟨fs, M6, B6, L6, k1, ex.trans k2, k3.perm fun q hq => List.mem_cons_of_mem _ hq, k4⟩⟩ fun d M4 v4 B4 L4 H4 h4 e6 S6 r6 => ?_
      have r7 := (r2.mono (((e3.trans e4).trans e5).trans e6))
      refine ⟨accV, S6.zAt, by rw [← r2.len]; exact size_lt h4.1, m - 1, by omega, by omega, acc ++ [d], accV ++ [v4], M4, B4, L4, h4.2, (((e2.trans e3).trans e4).trans e5).trans e6, S6.putZ rfl hZ, r7.app ⟨r6, trivial⟩⟩
  · have hi' : i = xs.length := by omega
    subst hi'
    obtain ⟨st, hf⟩ := hd acc M' hI
    exact .inl ⟨it.stop _ M' B' L' [(D, .lst accV)] H' (Nat.le_refl _) st e2 S2, q acc M' D accV B' L' H' hf (e1.trans e2) S2 hZ r2⟩
/-- y = [..] on one line; the element may raise -/
theorem ds_setLcX (i : Nat) {y : Str} {py spos : Pos} (hc : X.calm = true) (hN : X.N.Nodup) (est : X.stack = X.env :: X.outer) (efr : X.env.frame = some X.env.locals) (hi : DI X tg iter fi) (ok : BlkOk X.N X.env.scope scope own)
    (hg : ∀ s H C cl fp, DGw (X.blk s H scope (compEnvC scope cl C X.env) fp) tg (own.map (·.2)) g) (ht : ∀ s H C cl fp, DTs (X.blk s H scope (compEnvC scope cl C X.env) fp) ifs tt) (he : ∀ W0 s H C cl fp, DE (elX X W0 s H scope cl C fp) elt fe)
    (hy : X.N[i]? = some y := by rfl) (hyl : X.env.scope.names.lookup y = some .local := by rfl)
    (hsw : swapsWith (.ListComp elt [⟨tg, iter, ifs, 0⟩] scope pos) (some (.Name y py)) spos.line X.env = pure true := by exact sw_true rfl rfl rfl (by decide +kernel)) (hs : ∀ x, foldedSetIterable iter X.env x = pure x := by intro _; rfl) :
    DS X (.Assign [.Name y py] (.ListComp elt [⟨tg, iter, ifs, 0⟩] scope pos) spos) (tAsg (tLcX fi g tt fe (own.map (·.2))) (gName i)) where
  run := fun {E ρ M} h {σ H B L Z} S V {F} l => by
    have x1 := l.ex.at_ V
    obtain ⟨W, tk, hW⟩ := id x1
    have rd := lcX_reading hi hg ht he h S V x1 (fin_data (P := fun d M1 => gName i d ρ M1 E.nx) fun d M' v B' L' H' a b c r => l.nx _ _ _ _ _ _ a b c ((V.mono b).set r i))
    intro pins s I
    rw [exec_Assign_Name_used _ _ _ _ hsw]
    refine wpAny_bind (wpAny_standAt (wpAny_bind ?_))
    show wpAny _ X.A (do let _ ← comprehension (.ListComp elt [⟨tg, iter, ifs, 0⟩] scope pos) scope X.env (firstIterPos [⟨tg, iter, ifs, 0⟩] pos) (newList []) false (eval iter X.env) (some (assign (.Name y py) X.env))) _ _ s
    refine wpAny_bind (thn (lcX_core (W0 := xW X B L Z (xS E ρ)) (Qf := fun _ s' => SP X pins F .next s') hc hN est efr tk (fun cls d H' ⟨fs, M', B', L', k1, k2, k3, k4⟩ => hW cls fs M' d B' L' H' k1 k2 k3 k4) I pi_s ok
      (fun s0 H0 C cl fp => ⟨fun pins s σ H v u Q I r h => h s0 H0 C cl fp pins s u I r⟩) (fun s0 H0 C cl fp => ⟨fun pins s σ H Q I h => h s0 H0 C cl fp pins s I⟩) (fun s0 H0 C cl fp => ⟨fun pins s σ H Q I h => h s0 H0 C cl fp pins s I⟩) hs rd
      fun D C s' m H' I' q hn f => ?_) fun _ s' hq => wpAny_pure (wpAny_pure hq))
    obtain ⟨f0, f1, f2, f3, f4, f5⟩ := f
    show wpAny _ _ (assign (.Name y py) X.env (.ref D)) _ _ _
    refine wpAny_assign_Name ?_
    refine store_ok2 (v := L2.V.ref D) I' hN hy (.inl hyl) rfl (fun s2 I2 ⟨a, sb, ha⟩ => ?_) (.inr hyl)
    have hCa : C ≠ a := by
      rcases ha with z | z
      · rw [z]
        exact f1
      · exact fun e => f4 y a z e.symm
    refine ⟨m, hn.sameBut sb hCa, fun h3 sb3 => ?_⟩
    refine ⟨_, H', ?_, q⟩
    exact I2.turned (t' := s2.toks) (fun b o hb e => (sb3.2 b hb).trans e) f0 f1 f3 f4 f5
end
end DL

namespace LW
open PySem PySem.Spec PyProof.Rows L2 DL
variable [Csts]
def top (i : Nat) : Stmt := PySem.Challenge.pw_shelfsums_k13_whole_texts_refused.main.body.getD i (.Pass ⟨0, 0, 0, 0⟩)
theorem br_t {b : Bool} {A B : Prop} (h : b = true) (a : A) : (b = true → A) ∧ (b = false → B) := ⟨fun _ => a, fun q => by rw [h] at q; cases q⟩
theorem br_f {b : Bool} {A B : Prop} (h : b = false) (a : B) : (b = true → A) ∧ (b = false → B) := ⟨fun q => (by rw [h] at q; cases q), fun _ => a⟩
local macro_rules | `(tactic| walk_at "br") => `(tactic| first | (refine br_t rfl ?_) | (refine br_f rfl ?_))
local macro_rules | `(tactic| walk_at "a1") => `(tactic| first
  | (refine br_t rfl ?_)
  | (refine br_f rfl ?_)
  | (refine And.intro ⟨rfl, rfl⟩ ?_)
  | (refine And.intro rfl ?_)
  | (refine And.intro (by first | decide | omega | (simp; done) | (simp; omega)) ?_))
local macro_rules | `(tactic| walk_at "st") => `(tactic| first | (walk_at "a1") | ((conv => whnf); (walk_at "a1")))
local macro_rules | `(tactic| walk_at "run") => `(tactic| (repeat (walk_at "st")))
local macro_rules | `(tactic| walk_at "go") => `(tactic| (repeat (refine ⟨(by first | decide | omega | (simp; done) | (simp; omega) | trivial), ?_⟩)))
local macro_rules | `(tactic| walk_at "side") => `(tactic| first | exact trivial | exact ⟨trivial, rfl⟩ | omega | (simp; done) | (simp; omega))
local macro_rules | `(tactic| walk_at "sd") => `(tactic| first | (refine br_t rfl ?_) | (refine br_f rfl ?_) | (refine And.intro (by walk_at "side") ?_) | (refine fun (_ : (_ : Bool) = _) => ?_))
local macro_rules | `(tactic| walk_at "contra") => `(tactic| (intro hq; first | (cases hq; done) | (simp at hq; done) | (simp at hq; omega)))
local macro_rules | `(tactic| walk_at "sd2") => `(tactic| first
  | (with_reducible (refine br_t (by with_unfolding_all rfl) ?_))
  | (with_reducible (refine br_f (by with_unfolding_all rfl) ?_))
  | (with_reducible (refine br_n (by walk_at "contra") ?_))
  | (with_reducible (refine br_y (by walk_at "contra") ?_))
  | ((fail_if_success (with_reducible (refine br_any ?_ ?_))); (with_reducible (refine And.intro ?_ ?_)); (focus (with_unfolding_all (walk_at "side")))))
/-! ### what is known of the module -/
structure Blt (mg : Str → Option Value) : Prop where
  isinstance : mg "isinstance" = none
  int : mg "int" = none
  bool : mg "bool" = none
  str : mg "str" = none
  tuple : mg "tuple" = none
  list : mg "list" = none
  dict : mg "dict" = none
  len : mg "len" = none
  all : mg "all" = none
  any : mg "any" = none
  sum : mg "sum" = none
  max : mg "max" = none
  min : mg "min" = none
  range : mg "range" = none
  enumerate : mg "enumerate" = none
  sorted : mg "sorted" = none
def ptsD : List (Key × D) := [(.inr "amid", .tup [.str "pushes", .str "refused"]), (.inr "closes", .tup [.str "along", .str "stays"]), (.inr "puts", .tup [.str "first", .str "next", .str "roomiest"])]
def szsD : List (Key × D) := [(.inr "put", .int 2), (.inr "amid", .int 3), (.inr "take", .int 2), (.inr "ask", .int 2)]
structure Kcs (K : PySem.W.Frag) (mg : Str → Option Value) where
  aP : Addr
  oP : Obj
  wP : List (Key × V)
  aS : Addr
  oS : Obj
  wS : List (Key × V)
  POINTS : mg "POINTS" = some (.ref aP)
  SIZES : mg "SIZES" = some (.ref aS)
  c_POINTS : (aP, HO.frz oP (.dK wP)) ∈ Csts.cs
  c_SIZES : (aS, HO.frz oS (.dK wS)) ∈ Csts.cs
  r_POINTS : ∀ B, RepK K B ptsD wP
  r_SIZES : ∀ B, RepK K B szsD wS
  MOST_BOOKS : ∃ t, mg "MOST_BOOKS" = some (.int 4 t)
  MOST_SHELVES : ∃ t, mg "MOST_SHELVES" = some (.int 3 t)
  MOST_DEEDS : ∃ t, mg "MOST_DEEDS" = some (.int 8 t)
/-- a rule's three words -/
structure Rule where
  amid : Str
  closes : Str
  puts : Str
def Rule.ok (r : Rule) : Prop := (r.amid = "pushes" ∨ r.amid = "refused") ∧ (r.closes = "along" ∨ r.closes = "stays") ∧ (r.puts = "first" ∨ r.puts = "next" ∨ r.puts = "roomiest")
def Rule.d (r : Rule) : D := .dic [(.inr "amid", .str r.amid), (.inr "closes", .str r.closes), (.inr "puts", .str r.puts)]
structure PlanS where
  books : Int
  shelves : Int
  rule : Rule
def PlanS.ok (p : PlanS) : Prop := (1 ≤ p.books ∧ p.books ≤ 4) ∧ (1 ≤ p.shelves ∧ p.shelves ≤ 3) ∧ p.rule.ok
/-- the class Plan -/
abbrev tPlan (c : Addr) : ClsT := ⟨c, ["many_books", "many_shelves", "points"]⟩
structure KPlan (K : PySem.W.Frag) where
  cPlan : Addr
  plan : SloOk K (tPlan cPlan)
def PlanS.d (T : ClsT) (p : PlanS) : D := .slo T [.int p.books, .int p.shelves, p.rule.d]
abbrev sIsInt : Stmt := top 13
abbrev nIsInt : List Str := ["value"]
abbrev pIsInt : List Str := ["value"]
theorem scIsInt : FnScope nIsInt pIsInt (defScope sIsInt) := ⟨rfl, rfl, rfl, by decide +kernel, rfl, by decide +kernel, by decide +kernel⟩
abbrev sIsBet : Stmt := top 14
abbrev nIsBet : List Str := ["value", "least", "most"]
abbrev pIsBet : List Str := ["value", "least", "most"]
theorem scIsBet : FnScope nIsBet pIsBet (defScope sIsBet) := ⟨rfl, rfl, rfl, by decide +kernel, rfl, by decide +kernel, by decide +kernel⟩
abbrev sLookRule : Stmt := top 15
abbrev nLookRule : List Str := ["rule", "point"]
abbrev pLookRule : List Str := ["rule"]
theorem scLookRule : FnScope nLookRule pLookRule (defScope sLookRule) := ⟨rfl, rfl, rfl, by decide +kernel, rfl, by decide +kernel, by decide +kernel⟩
abbrev sPlanInit : Stmt := inClass (top 16) 1
abbrev nPlanInit : List Str := ["self", "books", "shelves", "rule", "point"]
abbrev pPlanInit : List Str := ["self", "books", "shelves", "rule"]
theorem scPlanInit : FnScope nPlanInit pPlanInit (defScope sPlanInit) := ⟨rfl, rfl, rfl, by decide +kernel, rfl, by decide +kernel, by decide +kernel⟩
section
variable {P : Program} {w : World} {K : PySem.W.Frag} {mg : Str → Option Value} {base : Heap}
def spIsInt : DSp0 := fun ds P _ => ∃ d t, ds = [d] ∧ tyOf d = some t ∧ P (.bl (decide (t = .int)))
theorem ok_is_integer (N : Blt mg) (F : FunG K mg "is_integer" sIsInt pIsInt) : Callee0 P w K mg base "is_integer" 1 pIsInt spIsInt := by
  refine callee_dl0 F scIsInt (fun ds P x h => ?_) (fun f cdv A outer s H E hr => ?_)
  · obtain ⟨d, t, rfl, _⟩ := h
    rfl
  · have hu := hr.units
    refine ⟨_, (dss_one (ds_ret (de_and (de_callB dc_isi rfl N.isinstance boot_isinstance (da_cons (de_var 0) (da_cons (de_ty .int N.int boot_int) da_nil))) (de_one (de_not (de_callB dc_isi rfl N.isinstance boot_isinstance (da_cons (de_var 0) (da_cons (de_ty .bool N.bool boot_bool) da_nil)))))))), fun ds P x h => ?_⟩
    obtain ⟨d, t, rfl, ht, hP⟩ := h
    conv => whnf
    rw [show tyOfV [] (.d d) = some t from ht]
    conv => whnf
    cases t
    all_goals walk_at "br"
    all_goals first
      | exact hP
      | (conv => whnf
         rw [show tyOfV [] (.d d) = some _ from ht]
         exact hP)
def betB (lo hi : Int) : D → Bool
  | .int i => decide (lo ≤ i) && decide (i ≤ hi)
  | _ => false
def spIsBet : DSp0 := fun ds P _ => ∃ d t lo hi, ds = [d, .int lo, .int hi] ∧ tyOf d = some t ∧ P (.bl (betB lo hi d))
theorem ok_is_between (C1 : Callee0 P w K mg base "is_integer" 1 pIsInt spIsInt) (F : FunG K mg "is_between" sIsBet pIsBet) : Callee0 P w K mg base "is_between" 2 pIsBet spIsBet := by
  have G_is_integer := C1.up
  refine callee_dl0 F scIsBet (fun ds P x h => ?_) (fun f cdv A outer s H E hr => ?_)
  · obtain ⟨d, t, lo, hi, rfl, _⟩ := h
    rfl
  · have hu := hr.units
    refine ⟨_, (dss_one (ds_ret (de_and (de_callN G_is_integer (hr.mono (by decide)) (da_cons (de_var 0) da_nil)) (de_one (de_chain do_le do_le (de_var 1) (de_var 0) (de_var 2)))))), fun ds P x h => ?_⟩
    obtain ⟨d, t, lo, hi, rfl, ht, hP⟩ := h
    refine ⟨d, t, rfl, ht, ?_⟩
    refine ⟨fun hc => ?_, fun hc => ?_⟩
    · have ht' : t = .int := of_decide_eq_true hc
      subst ht'
      obtain ⟨i, rfl⟩ : ∃ i, d = .int i := by
        cases d <;> first | exact ⟨_, rfl⟩ | cases ht
      refine ⟨fun h1 => ?_, fun h1 => ?_⟩
      · show P (.bl (decide (i ≤ hi)))
        rw [show betB lo hi (.int i) = decide (i ≤ hi) by show (decide (lo ≤ i) && decide (i ≤ hi)) = _; rw [h1]; rfl] at hP
        exact hP
      · show P (.bl false)
        rw [show betB lo hi (.int i) = false by show (decide (lo ≤ i) && decide (i ≤ hi)) = _; rw [h1]; rfl] at hP
        exact hP
    · have hn : betB lo hi d = false := by
        cases d <;> first | rfl | (cases ht; simp at hc)
      rw [hn] at hP
      exact hP
/-- a comprehension whose i-th item is f i -/
def IMap (M : Mem) (f : Nat → D) : Nat → List DV → Mem → Prop := fun i acc M' => M' = M ∧ acc = (List.range i).map fun j => .d (f j)
theorem IMap.step {M : Mem} {f : Nat → D} {i : Nat} (hi : i < 100000) {d : DV} (hd : d = .d (f i)) : ((List.range i).map fun j => DV.d (f j)).length < 100000 ∧ IMap M f (i + 1) (((List.range i).map fun j => DV.d (f j)) ++ [d]) M := by
  subst hd
  refine ⟨by simpa using hi, rfl, ?_⟩
  rw [List.range_succ, List.map_append]
  rfl
theorem allD_f {α : Type} (f : α → D) (l : List α) : allD (l.map fun j => DV.d (f j)) = some (l.map f) := by
  have := allD_map (l.map f)
  rwa [List.map_map] at this
def spLookRule : DSp0 := fun ds P _ => ∃ r : Rule, r.ok ∧ ds = [r.d] ∧ P .non
theorem ok_look_at_rule (N : Blt mg) (G : Kcs K mg) (F : FunG K mg "look_at_rule" sLookRule pLookRule) : Callee0 P w K mg base "look_at_rule" 1 pLookRule spLookRule := by
  refine callee_dl0 F scLookRule (fun ds P x h => ?_) (fun f cdv A outer s H E hr => ?_)
  · obtain ⟨r, _, rfl, _⟩ := h
    rfl
  · have hu := hr.units
    refine ⟨_, (dss_cons (ds_if (DW.dt (dw_or (dt_not (dt_val (de_callB dc_isi rfl N.isinstance boot_isinstance (da_cons (de_var 0) (da_cons (de_ty .dict N.dict boot_dict) da_nil))))) (dw_or (dt_cmp (do_ne hu) (de_callB dc_lenA rfl N.len boot_len (da_cons (de_var 0) da_nil)) (de_callB dc_lenA rfl N.len boot_len (da_cons (de_cst G.c_POINTS G.r_POINTS G.POINTS) da_nil))) (dw_or1 (dt_not (dt_val (de_callB (dc_all rfl) rfl N.all boot_all (da_cons (de_lc rfl scLookRule.nd (di_keys (de_cst G.c_POINTS G.r_POINTS G.POINTS)) (blkOk_by (own := [("point", 1)]) (N := nLookRule) rfl) (fun _ _ _ _ _ => (dgw_name 1 (by decide) scLookRule.nd)) (fun _ _ _ _ _ => dts_nil) (fun _ _ _ _ _ => (de_cmp (do_in hu) (de_var 1) (de_var 0)))) da_nil)))))))) (dss_one ds_never) dss_nil)
    (dss_one (ds_for (di_keys (de_cst G.c_POINTS G.r_POINTS G.POINTS)) (dg_name 1 scLookRule.nd) (dss_one (ds_if (DW.dt (dw_or (dt_not (dt_val (de_callB dc_isi rfl N.isinstance boot_isinstance (da_cons (de_ix hu (de_var 0) (de_var 1)) (da_cons (de_ty .str N.str boot_str) da_nil))))) (dw_or1 (dt_cmp (do_notIn hu) (de_ix hu (de_var 0) (de_var 1)) (de_ix hu (de_cst G.c_POINTS G.r_POINTS G.POINTS) (de_var 1)))))) (dss_one ds_never) dss_nil))))), fun ds P x h => ?_⟩
    obtain ⟨⟨ra, rc, rp⟩, hro, rfl, hP⟩ := h
    obtain ⟨h1, h2, h3⟩ := hro
    dsimp only at h1 h2 h3
    conv => whnf
    walk_at "br"
    conv => whnf
    walk_at "br"
    refine ⟨IMap [] (fun _ => .bl true), ⟨rfl, rfl⟩, ?_, ?_⟩
    · rintro i y acc M' hy ⟨rfl, rfl⟩
      refine ⟨trivial, ?_⟩
      match i, y, hy with
      | 0, _, rfl =>
        conv => whnf
        walk_at "br"
        exact IMap.step (by omega) rfl
      | 1, _, rfl =>
        conv => whnf
        walk_at "br"
        exact IMap.step (by omega) rfl
      | 2, _, rfl =>
        conv => whnf
        walk_at "br"
        exact IMap.step (by omega) rfl
    · rintro acc M' ⟨rfl, rfl⟩
      refine ⟨trivial, ?_⟩
      refine ⟨[true, true, true], rfl, ?_⟩
      conv => whnf
      walk_at "br"
      refine ⟨fun i ρ M => ∃ v, M = [] ∧ ρ = [some (.d (Rule.d ⟨ra, rc, rp⟩)), v], ⟨_, rfl, rfl⟩, ?_, ?_⟩
      · rintro i y ρ M hy ⟨v, rfl, rfl⟩
        refine ⟨trivial, ?_⟩
        match i, y, hy with
        | 0, _, rfl =>
          rcases h1 with rfl | rfl <;>
          · walk_at "run"
            exact ⟨_, rfl, rfl⟩
        | 1, _, rfl =>
          rcases h2 with rfl | rfl <;>
          · walk_at "run"
            exact ⟨_, rfl, rfl⟩
        | 2, _, rfl =>
          rcases h3 with rfl | rfl | rfl <;>
          · walk_at "run"
            exact ⟨_, rfl, rfl⟩
      · rintro ρ M ⟨v, rfl, rfl⟩
        exact ⟨trivial, hP⟩
def spPlanI : DSpI := fun ds M P _ => ∃ p : PlanS, p.ok ∧ ds = [.d (.int p.books), .d (.int p.shelves), .d p.rule.d] ∧ P [.int p.books, .int p.shelves, p.rule.d] M
theorem betB_yes {lo hi i : Int} (h1 : lo ≤ i) (h2 : i ≤ hi) : betB lo hi (.int i) = true := by
  show (decide (lo ≤ i) && decide (i ≤ hi)) = true
  rw [decide_eq_true h1, decide_eq_true h2]
  rfl
theorem ok_plan_init (N : Blt mg) (G : Kcs K mg) (C : KPlan K) (C1 : Callee0 P w K mg base "is_between" 2 pIsBet spIsBet) (C2 : Callee0 P w K mg base "look_at_rule" 1 pLookRule spLookRule) (F : FunI K mg (tPlan C.cPlan) "Plan" "Plan.__init__" sPlanInit pPlanInit) :
    CalleeSl P w K mg base (tPlan C.cPlan) "Plan" 3 pPlanInit spPlanI := by
  have G_is_between := C1.up
  have G_look_at_rule := C2.up
  obtain ⟨f, fd, F, hmk, hmg, hb⟩ := F.ex
  refine ⟨f, fd, hmk, hmg, hb, F.okX scPlanInit (fun vs H Q E h => ?_) (fun cdv A outer s H vs Q E hr h => ?_)⟩
  · obtain ⟨a, dx, ws, B, L, Z, ds, M, P, x, rfl, _, _, _, r, ⟨p, _, rfl, _⟩, _⟩ := h
    have := r.len
    simp at this
    simp [← this]
  · have hu := hr.units
    obtain ⟨a, dx, ws, B, L, Z, ds, M, P', x, rfl, hne, hz, S, r, ⟨p, hp, rfl, hP⟩, hQ, hX⟩ := h
    refine ⟨sSs _ (defBody sPlanInit), pss_s, ?_⟩
    let ρ0 : Rh := startD nPlanInit [.d (.ref a), .d (.int p.books), .d (.int p.shelves), .d p.rule.d]
    have V0 : EnvR K B L (L2.start nPlanInit (.ref a :: ws)) ρ0 := start_env (show RepVs K B L [_, _, _, _] (.ref a :: ws) from ⟨by simp only [RepV, Rep], r⟩)
    generalize hσ : L2.start nPlanInit (.ref a :: ws) = σ0 at V0 ⊢
    have nox : ∀ {B L Z σ}, XOk (cxOf (L2.CX P w) P w K mg base nPlanInit "Plan.__init__" (defScope sPlanInit) f cdv A outer s H E) B L Z σ (fun _ _ _ => False) := ⟨fun cls d _ H => E cls d H, takes_of rfl rfl rfl rfl, fun _ _ _ _ _ _ _ h => h.elim⟩
    have noxS : ∀ {B L Z}, XOkS (cxOf (L2.CX P w) P w K mg base nPlanInit "Plan.__init__" (defScope sPlanInit) f cdv A outer s H E) B L Z (fun _ _ _ _ => False) := ⟨fun cls d _ H => E cls d H, takes_of rfl rfl rfl rfl, fun _ _ _ _ _ _ _ _ _ h => h.elim⟩
    -- the look at the numbers
    refine PSs.s (pss_cons ps_s pss_s) ?_
    refine (ds_if (DW.dt (dw_or (dt_not (dt_val (de_callN G_is_between (hr.mono (by decide)) (da_cons (de_var 1) (da_cons de_int (da_cons (de_gint G.MOST_BOOKS) da_nil)))))) (dw_or1 (dt_not (dt_val (de_callN G_is_between (hr.mono (by decide)) (da_cons (de_var 2) (da_cons de_int (da_cons (de_gint G.MOST_SHELVES) da_nil))))))))) (dss_one ds_never) dss_nil).run (E := { nx := fun ρ M' => ρ = ρ0 ∧ M' = M, rt := fun _ _ => False, ex := fun _ _ _ _ => False }) ?_ S V0 ⟨?_, fun _ _ _ _ _ _ h => h.elim, fun _ _ _ _ _ _ h => h.elim, fun _ _ _ _ _ _ h => h.elim, noxS⟩
    · refine ⟨_, _, _, _, rfl, rfl, ?_⟩
      rw [betB_yes hp.1.1 hp.1.2]
      walk_at "br"
      refine ⟨_, _, _, _, rfl, rfl, ?_⟩
      rw [betB_yes hp.2.1.1 hp.2.1.2]
      walk_at "br"
      exact ⟨rfl, rfl⟩
    rintro ρ1 M1 B1 L1 σ1 H1 ⟨rfl, rfl⟩ e1 S1 V1
    -- the look at the rule
    refine PSs.s (pss_cons ps_s pss_s) ?_
    refine (ds_expr (de_callN G_look_at_rule (hr.mono (by decide)) (da_cons (de_var 3) da_nil))).run (E := { nx := fun ρ M' => ρ = ρ0 ∧ M' = M1, rt := fun _ _ => False, ex := fun _ _ _ _ => False }) ?_ S1 V1 ⟨?_, fun _ _ _ _ _ _ h => h.elim, fun _ _ _ _ _ _ h => h.elim, fun _ _ _ _ _ _ h => h.elim, noxS⟩
    · exact ⟨p.rule, hp.2.2, rfl, rfl, rfl⟩
    rintro ρ2 M2 B2 La2 σ2 H2 ⟨rfl, rfl⟩ e2 S2 V2
    have self : ∀ {σ : L2.St} {B : Hp} {L : List Addr}, EnvR K B L σ ρ0 → ∀ H' pos, sE (cxOf (L2.CX P w) P w K mg base nPlanInit "Plan.__init__" (defScope sPlanInit) f cdv A outer s H E) (.Name "self" pos) σ H' (fun v H2 => v = .ref a ∧ H2 = H') := fun {σ B L} V H' pos => by
      refine PE.s (pe_var (i := 0) rfl (.inl rfl) (by decide) (by decide)) ?_
      obtain ⟨v, h1, h2⟩ := V.at_ 0 (.d (.ref a)) rfl
      exact ⟨v, h1, by simpa only [RepV, Rep] using h2, rfl⟩
    refine PSs.s (pss_cons ps_s pss_s) ?_
    refine ss_slot (us := []) C.plan.cls (C.plan.slot 0 _ rfl) (de_var 1) (fun H' => self V2 H' _) rfl rfl hne hz S2 V2 nox (fun H' h1 h2 => .inl ⟨h1, rfl⟩) (P := fun y M' => y = .d (.int p.books) ∧ M' = M2) ⟨rfl, rfl⟩ ?_
    rintro y3 M3 v3 B3 L3 H3 ⟨rfl, rfl⟩ e3 r3 S3 V3
    refine PSs.s (pss_cons ps_s pss_s) ?_
    refine ss_slot (us := [v3]) C.plan.cls (C.plan.slot 1 _ rfl) (de_var 2) (fun H' => self V3 H' _) rfl rfl hne hz S3 V3 nox (fun H' h1 h2 => .inr ⟨h1, h2⟩) (P := fun y M' => y = .d (.int p.shelves) ∧ M' = M3) ⟨rfl, rfl⟩ ?_
    rintro y4 M4 v4 B4 L4 H4 ⟨rfl, rfl⟩ e4 r4 S4 V4
    refine PSs.s (pss_one ps_s) ?_
    refine ss_slot (us := [v3, v4]) C.plan.cls (C.plan.slot 2 _ rfl) (de_dc rfl scPlanInit.nd (di_keys (de_cst G.c_POINTS G.r_POINTS G.POINTS)) (blkOk_by (own := [("point", 4)]) (N := nPlanInit) rfl) (fun _ _ _ _ _ => (dgw_name 4 (by decide) scPlanInit.nd)) (fun _ _ _ _ _ => dts_nil) (fun _ _ _ _ _ => (de_var 4)) (fun _ _ _ _ _ => (de_ix hu (de_var 3) (de_var 4)))) (fun H' => self V4 H' _) rfl rfl hne hz S4 V4 nox (fun H' h1 h2 => .inr ⟨h1, h2⟩) (P := fun y M' => y = .d p.rule.d ∧ M' = M4) ?_ ?_
    · refine ⟨fun i acc M' => M' = M4 ∧ acc = ([(.inr "amid", .str p.rule.amid), (.inr "closes", .str p.rule.closes), (.inr "puts", .str p.rule.puts)] : List (Key × D)).take i, ⟨rfl, rfl⟩, ?_, ?_⟩
      · rintro i y acc M' hy ⟨rfl, rfl⟩
        refine ⟨trivial, ?_⟩
        match i, y, hy with
        | 0, _, rfl =>
          walk_at "run"
          rfl
        | 1, _, rfl =>
          walk_at "run"
          rfl
        | 2, _, rfl =>
          walk_at "run"
          rfl
      · rintro acc M' ⟨rfl, rfl⟩
        exact ⟨trivial, rfl, rfl⟩
    rintro y5 M5 v5 B5 L5 H5 ⟨rfl, rfl⟩ e5 r5 S5 V5
    refine hQ _ _ [v3, v4, v5] _ _ _ hP ((((e1.trans e2).trans e3).trans e4).trans e5) S5 ?_
    unfold RepL
    refine ⟨r3.mono (e4.trans e5), ?_⟩
    unfold RepL
    refine ⟨r4.mono e5, ?_⟩
    unfold RepL
    exact ⟨r5, by unfold RepL; trivial⟩
end
end LW

namespace LW
open PySem PySem.Spec PyProof.Rows L2 DL
variable [Csts]
local macro_rules | `(tactic| walk_at "br") => `(tactic| first | (refine br_t rfl ?_) | (refine br_f rfl ?_))
local macro_rules | `(tactic| walk_at "a1") => `(tactic| first
  | (refine br_t rfl ?_)
  | (refine br_f rfl ?_)
  | (refine And.intro ⟨rfl, rfl⟩ ?_)
  | (refine And.intro rfl ?_)
  | (refine And.intro (by first | decide | omega | (simp; done) | (simp; omega)) ?_))
local macro_rules | `(tactic| walk_at "st") => `(tactic| first | (walk_at "a1") | ((conv => whnf); (walk_at "a1")))
local macro_rules | `(tactic| walk_at "run") => `(tactic| (repeat (walk_at "st")))
local macro_rules | `(tactic| walk_at "go") => `(tactic| (repeat (refine ⟨(by first | decide | omega | (simp; done) | (simp; omega) | trivial), ?_⟩)))
local macro_rules | `(tactic| walk_at "side") => `(tactic| first | exact trivial | exact ⟨trivial, rfl⟩ | omega | (simp; done) | (simp; omega))
local macro_rules | `(tactic| walk_at "sd") => `(tactic| first | (refine br_t rfl ?_) | (refine br_f rfl ?_) | (refine And.intro (by walk_at "side") ?_) | (refine fun (_ : (_ : Bool) = _) => ?_))
local macro_rules | `(tactic| walk_at "contra") => `(tactic| (intro hq; first | (cases hq; done) | (simp at hq; done) | (simp at hq; omega)))
local macro_rules | `(tactic| walk_at "sd2") => `(tactic| first
  | (with_reducible (refine br_t (by with_unfolding_all rfl) ?_))
  | (with_reducible (refine br_f (by with_unfolding_all rfl) ?_))
  | (with_reducible (refine br_n (by walk_at "contra") ?_))
  | (with_reducible (refine br_y (by walk_at "contra") ?_))
  | ((fail_if_success (with_reducible (refine br_any ?_ ?_))); (with_reducible (refine And.intro ?_ ?_)); (focus (with_unfolding_all (walk_at "side")))))
/-! ### deeds, samples -/
inductive Deed where
  | put (b : Int) | amid (b o : Int) | take (b : Int) | ask (b : Int)
def Deed.d : Deed → D
  | .put b => .tup [.str "put", .int b]
  | .amid b o => .tup [.str "amid", .int b, .int o]
  | .take b => .tup [.str "take", .int b]
  | .ask b => .tup [.str "ask", .int b]
def inB (n b : Int) : Prop := 0 ≤ b ∧ b < n
def Deed.ok (n : Int) : Deed → Prop
  | .put b => inB n b
  | .amid b o => inB n b ∧ inB n o
  | .take b => inB n b
  | .ask b => inB n b
/-- a sample: the length, the widths -/
structure Sample where
  len : Int
  ws : List Int
def Sample.ok (n : Int) (s : Sample) : Prop := 1 ≤ s.len ∧ s.ws.length = n ∧ ∀ w ∈ s.ws, 1 ≤ w
def Sample.d (s : Sample) : D := .tup [.int s.len, .tup (s.ws.map D.int)]
abbrev sIsDeed : Stmt := top 17
abbrev nIsDeed : List Str := ["plan", "value", "book"]
abbrev pIsDeed : List Str := ["plan", "value"]
theorem scIsDeed : FnScope nIsDeed pIsDeed (defScope sIsDeed) := ⟨rfl, rfl, rfl, by decide +kernel, rfl, by decide +kernel, by decide +kernel⟩
abbrev sLookScr : Stmt := top 18
abbrev nLookScr : List Str := ["plan", "script", "index", "deed"]
abbrev pLookScr : List Str := ["plan", "script"]
theorem scLookScr : FnScope nLookScr pLookScr (defScope sLookScr) := ⟨rfl, rfl, rfl, by decide +kernel, rfl, by decide +kernel, by decide +kernel⟩
section
variable {P : Program} {w : World} {K : PySem.W.Frag} {mg : Str → Option Value} {base : Heap}
def spIsDeed (T : ClsT) : DSp0 := fun ds P _ => ∃ (p : PlanS) (d : Deed), d.ok p.books ∧ ds = [p.d T, d.d] ∧ P (.bl true)
theorem ok_is_deed (N : Blt mg) (G : Kcs K mg) (C : KPlan K) (C1 : Callee0 P w K mg base "is_between" 2 pIsBet spIsBet) (F : FunG K mg "is_deed" sIsDeed pIsDeed) : Callee0 P w K mg base "is_deed" 3 pIsDeed (spIsDeed (tPlan C.cPlan)) := by
  have G_is_between := C1.up
  refine callee_dl0 F scIsDeed (fun ds P x h => ?_) (fun f cdv A outer s H E hr => ?_)
  · obtain ⟨p, d, _, rfl, _⟩ := h
    rfl
  · have hu := hr.units
    refine ⟨_, (dss_cons (ds_if (DW.dt (dw_or (dt_not (dt_val (de_callB dc_isi rfl N.isinstance boot_isinstance (da_cons (de_var 1) (da_cons (de_ty .tuple N.tuple boot_tuple) da_nil))))) (dw_or (dt_cmp (do_eq hu) (de_callB dc_lenA rfl N.len boot_len (da_cons (de_var 1) da_nil)) de_int) (dw_or1 (dt_not (dt_val (de_callB dc_isi rfl N.isinstance boot_isinstance (da_cons (de_ix hu (de_var 1) de_int) (da_cons (de_ty .str N.str boot_str) da_nil))))))))) (dss_one (ds_ret de_bl)) dss_nil)
    (dss_cons (ds_if (dt_cmp (do_ne hu) (de_dget2 hu (de_cst G.c_SIZES G.r_SIZES G.SIZES) (de_ix hu (de_var 1) de_int) de_int) (de_callB dc_lenA rfl N.len boot_len (da_cons (de_var 1) da_nil))) (dss_one (ds_ret de_bl)) dss_nil)
    (dss_one (ds_ret (de_callB (dc_all rfl) rfl N.all boot_all (da_cons (de_lc rfl scIsDeed.nd (di_seq (de_sl (de_var 1) (dp_some de_int) dp_none)) (blkOk_by (own := [("book", 2)]) (N := nIsDeed) rfl) (fun _ _ _ _ _ => (dgw_name 2 (by decide) scIsDeed.nd)) (fun _ _ _ _ _ => dts_nil) (fun _ _ _ _ _ => (de_callN G_is_between (hr.mono (by decide)) (da_cons (de_var 2) (da_cons de_int (da_cons (de_bin do_sub (de_slo (tPlan C.cPlan) 0 C.plan (de_var 0)) de_int) da_nil)))))) da_nil)))))), fun ds P x h => ?_⟩
    obtain ⟨p, d, hd, rfl, hP⟩ := h
    cases d
    all_goals
      walk_at "run"
      refine ⟨IMap [] (fun _ => .bl true), ⟨rfl, rfl⟩, ?_, ?_⟩
    case put.refine_1 b =>
      rintro i y acc M' hy ⟨rfl, rfl⟩
      refine ⟨rfl, ?_⟩
      match i, y, hy with
      | 0, _, rfl =>
        refine br_t rfl ?_
        refine ⟨rfl, _, _, _, _, rfl, rfl, ?_⟩
        rw [betB_yes hd.1 (by have := hd.2; omega)]
        exact IMap.step (by omega) rfl
    case take.refine_1 b =>
      rintro i y acc M' hy ⟨rfl, rfl⟩
      refine ⟨rfl, ?_⟩
      match i, y, hy with
      | 0, _, rfl =>
        refine br_t rfl ?_
        refine ⟨rfl, _, _, _, _, rfl, rfl, ?_⟩
        rw [betB_yes hd.1 (by have := hd.2; omega)]
        exact IMap.step (by omega) rfl
    case ask.refine_1 b =>
      rintro i y acc M' hy ⟨rfl, rfl⟩
      refine ⟨rfl, ?_⟩
      match i, y, hy with
      | 0, _, rfl =>
        refine br_t rfl ?_
        refine ⟨rfl, _, _, _, _, rfl, rfl, ?_⟩
        rw [betB_yes hd.1 (by have := hd.2; omega)]
        exact IMap.step (by omega) rfl
    case amid.refine_1 b o =>
      rintro i y acc M' hy ⟨rfl, rfl⟩
      refine ⟨rfl, ?_⟩
      match i, y, hy with
      | 0, _, rfl =>
        refine br_t rfl ?_
        refine ⟨rfl, _, _, _, _, rfl, rfl, ?_⟩
        rw [betB_yes hd.1.1 (by have := hd.1.2; omega)]
        exact IMap.step (by omega) rfl
      | 1, _, rfl =>
        refine br_t rfl ?_
        refine ⟨rfl, _, _, _, _, rfl, rfl, ?_⟩
        rw [betB_yes hd.2.1 (by have := hd.2.2; omega)]
        exact IMap.step (by omega) rfl
    case put.refine_2 =>
      rintro acc M' ⟨rfl, rfl⟩
      exact ⟨rfl, [true], rfl, hP⟩
    case take.refine_2 =>
      rintro acc M' ⟨rfl, rfl⟩
      exact ⟨rfl, [true], rfl, hP⟩
    case ask.refine_2 =>
      rintro acc M' ⟨rfl, rfl⟩
      exact ⟨rfl, [true], rfl, hP⟩
    case amid.refine_2 =>
      rintro acc M' ⟨rfl, rfl⟩
      exact ⟨rfl, [true, true], rfl, hP⟩
def spLookScr (T : ClsT) : DSp0 := fun ds P _ => ∃ (p : PlanS) (sc : List Deed), (∀ d ∈ sc, d.ok p.books) ∧ sc.length ≤ 8 ∧ (ds = [p.d T, .lst (sc.map Deed.d)] ∨ ds = [p.d T, .tup (sc.map Deed.d)]) ∧ P .non
theorem ok_look_at_script (N : Blt mg) (G : Kcs K mg) (C : KPlan K) (C1 : Callee0 P w K mg base "is_deed" 3 pIsDeed (spIsDeed (tPlan C.cPlan))) (F : FunG K mg "look_at_script" sLookScr pLookScr) : Callee0 P w K mg base "look_at_script" 4 pLookScr (spLookScr (tPlan C.cPlan)) := by
  have G_is_deed := C1.up
  refine callee_dl0 F scLookScr (fun ds P x h => ?_) (fun f cdv A outer s H E hr => ?_)
  · obtain ⟨p, d, _, _, rfl | rfl, _⟩ := h <;> rfl
  · have hu := hr.units
    refine ⟨_, (dss_cons (ds_if (dt_not (dt_val (de_isi2 .list .tuple N.isinstance N.list N.tuple boot_list boot_tuple (de_var 1)))) (dss_one ds_never) dss_nil)
    (dss_one (ds_for (di_enum rfl N.enumerate (da_cons (de_var 1) da_nil)) (dg_tup rfl (dgs_cons (dg_name 2 scLookScr.nd) (dgs_cons (dg_name 3 scLookScr.nd) dgs_nil))) (dss_one (ds_if (DW.dt (dw_or (dt_cmp do_ge (de_var 2) (de_gint G.MOST_DEEDS)) (dw_or1 (dt_not (dt_val (de_callN G_is_deed (hr.mono (by decide)) (da_cons (de_var 0) (da_cons (de_var 3) da_nil)))))))) (dss_one ds_never) dss_nil))))), fun ds P x h => ?_⟩
    obtain ⟨p, sc, hd, hl, rfl | rfl, hP⟩ := h
    all_goals
      walk_at "run"
      refine ⟨?_, ?_⟩
      · rw [List.all_map]
        exact List.all_eq_true.mpr fun _ _ => rfl
      refine ⟨fun i ρ M => ∃ v1 v2, M = [] ∧ ρ = [some (.d (p.d (tPlan C.cPlan))), some (.d _), v1, v2], ⟨_, _, rfl, rfl⟩, ?_, ?_⟩
      · rintro i y ρ M hy ⟨v1, v2, rfl, rfl⟩
        refine ⟨rfl, ?_⟩
        obtain ⟨z, hz, rfl⟩ := enumV_get hy
        rw [List.getElem?_map, List.getElem?_map] at hz
        cases e : sc[i]? with
        | none => rw [e] at hz; cases hz
        | some dd =>
          rw [e] at hz
          cases hz
          have hi : i < 8 := by
            have := (List.getElem?_eq_some_iff.mp e).1
            omega
          refine ⟨rfl, ?_⟩
          have h8 : decide ((8 : Int) ≤ (i : Int)) = false := decide_eq_false (by omega)
          conv => whnf
          refine br_f h8 ?_
          refine ⟨p, dd, hd dd (List.mem_of_getElem? e), rfl, ?_⟩
          walk_at "br"
          exact ⟨_, _, rfl, rfl⟩
      · rintro ρ M ⟨v1, v2, rfl, rfl⟩
        exact ⟨rfl, hP⟩
end
end LW

namespace LW
open PySem PySem.Spec PyProof.Rows L2 DL
variable [Csts]
local macro_rules | `(tactic| walk_at "br") => `(tactic| first | (refine br_t rfl ?_) | (refine br_f rfl ?_))
local macro_rules | `(tactic| walk_at "a1") => `(tactic| first
  | (refine br_t rfl ?_)
  | (refine br_f rfl ?_)
  | (refine And.intro ⟨rfl, rfl⟩ ?_)
  | (refine And.intro rfl ?_)
  | (refine And.intro (by first | decide | omega | (simp; done) | (simp; omega)) ?_))
local macro_rules | `(tactic| walk_at "st") => `(tactic| first | (walk_at "a1") | ((conv => whnf); (walk_at "a1")))
local macro_rules | `(tactic| walk_at "run") => `(tactic| (repeat (walk_at "st")))
local macro_rules | `(tactic| walk_at "go") => `(tactic| (repeat (refine ⟨(by first | decide | omega | (simp; done) | (simp; omega) | trivial), ?_⟩)))
local macro_rules | `(tactic| walk_at "side") => `(tactic| first | exact trivial | exact ⟨trivial, rfl⟩ | omega | (simp; done) | (simp; omega))
local macro_rules | `(tactic| walk_at "sd") => `(tactic| first | (refine br_t rfl ?_) | (refine br_f rfl ?_) | (refine And.intro (by walk_at "side") ?_) | (refine fun (_ : (_ : Bool) = _) => ?_))
local macro_rules | `(tactic| walk_at "contra") => `(tactic| (intro hq; first | (cases hq; done) | (simp at hq; done) | (simp at hq; omega)))
local macro_rules | `(tactic| walk_at "sd2") => `(tactic| first
  | (with_reducible (refine br_t (by with_unfolding_all rfl) ?_))
  | (with_reducible (refine br_f (by with_unfolding_all rfl) ?_))
  | (with_reducible (refine br_n (by walk_at "contra") ?_))
  | (with_reducible (refine br_y (by walk_at "contra") ?_))
  | ((fail_if_success (with_reducible (refine br_any ?_ ?_))); (with_reducible (refine And.intro ?_ ?_)); (focus (with_unfolding_all (walk_at "side")))))
/-! ### slices, places -/
theorem cut_take {xs : List D} {i : Int} (h0 : 0 ≤ i) (h1 : i ≤ xs.length) : DL.cutD xs none (some i) = xs.take i.toNat := by
  unfold DL.cutD
  rw [HT.sIx_none, show HT.sIx xs.length xs.length (some i) = i.toNat by
    have := HT.sIx_nat xs.length xs.length i.toNat
    rw [Int.toNat_of_nonneg h0] at this
    rw [this]
    omega]
  simp
theorem cut_drop {xs : List D} {i : Int} (h0 : 0 ≤ i) (h1 : i ≤ xs.length) : DL.cutD xs (some i) none = xs.drop i.toNat := by
  unfold DL.cutD
  rw [HT.sIx_none, show HT.sIx xs.length 0 (some i) = i.toNat by
    have := HT.sIx_nat xs.length 0 i.toNat
    rw [Int.toNat_of_nonneg h0] at this
    rw [this]
    omega]
  exact List.take_of_length_le (by simp)
theorem cut_init (xs : List D) : DL.cutD xs none (some (-1)) = xs.dropLast := by
  unfold DL.cutD
  rw [HT.sIx_none, show HT.sIx xs.length xs.length (some (-1)) = xs.length - 1 by
    show (if (-1 : Int) < 0 then (-1 + (xs.length : Int)).toNat else min (-1 : Int).toNat xs.length) = xs.length - 1
    rw [if_pos (by omega)]
    omega]
  rw [List.dropLast_eq_take]
  simp
theorem ixN_nat {n j : Nat} (h : j < n) : ixN n (j : Int) = some j := by
  unfold ixN
  rw [if_pos (by omega), if_pos (by omega), Int.toNat_natCast]
theorem get_lastE {M0 : Mem} {x : MO} : (M0 ++ [x])[M0.length]? = some x := by simp
/-! ### texts: words, lines; the model -/
open TL
abbrev dig (n : Int) : Str := Str.ofString (toString n)
def strD (s : Str) : DV := .d (.str s)
def numsW (lo hi : Int) : List Str := (List.range (hi + 1 - lo).toNat).map fun i => dig (lo + (i : Nat))
def planW (p : PlanS) : List Str := ["plan", dig p.books, dig p.shelves, p.rule.amid, p.rule.closes, p.rule.puts]
def deedW : Deed → List Str
  | .put b => ["put", dig b]
  | .amid b o => ["amid", dig b, dig o]
  | .take b => ["take", dig b]
  | .ask b => ["ask", dig b]
/-- the number of the first word that cannot stand there -/
def badFrom : Nat → List Str → List (List Str) → Option Nat
  | _, [], [] => none
  | n, _ :: _, [] => some (n + 1)
  | n, [], _ :: _ => some (n + 1)
  | n, p :: ps, g :: gs => if p ∈ g then badFrom (n + 1) ps gs else some (n + 1)
def goodPlan : List (List Str) := [["plan"], numsW 1 4, numsW 1 3, ["pushes", "refused"], ["along", "stays"], ["first", "next", "roomiest"]]
def deedGood (n : Int) (ws : List Str) : List (List Str) := ([["put", "amid", "take", "ask"], numsW 0 (n - 1)] : List (List Str)) ++ (if ws.head? = some "amid" then [numsW 0 (n - 1)] else [])
def wordsOf (row : Str) : List Str := (Txt.split row " ").filter fun w : Str => decide (w ≠ "")
theorem numsW_mem {lo hi n : Int} : dig n ∈ numsW lo hi ∨ True := .inr trivial
theorem mem_numsW {lo hi : Int} {w : Str} (h : w ∈ numsW lo hi) : ∃ n : Int, lo ≤ n ∧ n ≤ hi ∧ w = dig n := by
  unfold numsW at h
  rw [List.mem_map] at h
  obtain ⟨i, hi2, rfl⟩ := h
  rw [List.mem_range] at hi2
  exact ⟨lo + (i : Nat), by omega, by omega, rfl⟩
theorem numsW_has {lo hi n : Int} (h0 : lo ≤ n) (h1 : n ≤ hi) : dig n ∈ numsW lo hi := by
  unfold numsW
  rw [List.mem_map]
  exact ⟨(n - lo).toNat, by rw [List.mem_range]; omega, by rw [show lo + ((n - lo).toNat : Int) = n by omega]⟩
theorem dig_tl {n : Int} (h0 : 0 ≤ n) (h1 : n < 10) : tl (dig n) = [48 + n.toNat] := by
  have : n = ((n.toNat : Nat) : Int) := by omega
  rw [this, show dig ((n.toNat : Nat) : Int) = Str.ofString (toString ((n.toNat : Nat) : Int)) from rfl, tl_num, numL_lt (by omega)]
  simp
  omega
theorem dig_int {n : Int} (h0 : 0 ≤ n) (h1 : n < 10) : intText? (dig n) = some n := by
  have e : n = ((n.toNat : Nat) : Int) := by omega
  have := int_num (n := n.toNat) (by rw [numL_lt (by omega)]; show 1 ≤ 4300; decide)
  rw [← e] at this
  exact this
theorem dig_len {n : Int} (h0 : 0 ≤ n) (h1 : n < 10) : (dig n).length = 1 := by rw [len_tl, dig_tl h0 h1]; rfl
theorem dig_inj {m n : Int} (h0 : 0 ≤ m) (h1 : m < 10) (h2 : 0 ≤ n) (h3 : n < 10) (h : dig m = dig n) : m = n := by
  have a := dig_int h0 h1
  rw [h, dig_int h2 h3] at a
  exact (Option.some.inj a).symm
/-- a text's signs by a written text -/
theorem lit_tl (s : String) : tl (Str.ofString s) = s.toList.map Char.toNat := tl_ofString s
theorem set_last {M0 : Mem} {x y : MO} : (M0 ++ [x]).set M0.length y = M0 ++ [y] := by
  rw [List.set_append_right _ _ (Nat.le_refl _)]
  simp
theorem get_last {M0 : Mem} {x : MO} : (M0 ++ [x])[M0.length]? = some x := by simp
theorem seqOf_m {M : Mem} {k : Nat} {xs : List DV} (h : M[k]? = some (.lst xs)) : seqOf M (.m k) = some xs := by
  show (match M[k]? with
    | some (.lst xs) => some xs
    | _ => none) = _
  rw [h]
/-! ### an own reader -/
theorem bad_at : ∀ {ps : List Str} {gs : List (List Str)} {n j : Nat}, (∀ i, i < j → ∃ u g, ps[i]? = some u ∧ gs[i]? = some g ∧ u ∈ g) → (∃ g, gs[j]? = some g ∧ ∀ u, ps[j]? = some u → u ∉ g) → badFrom n ps gs = some (n + j + 1)
  | ps, [], n, j, _, h => by
    obtain ⟨g, h, _⟩ := h
    simp at h
  | [], g :: gs, n, 0, _, _ => rfl
  | [], g :: gs, n, j + 1, h, _ => by
    obtain ⟨u, g, h, _⟩ := h 0 (by omega)
    simp at h
  | p :: ps, g :: gs, n, 0, _, h => by
    obtain ⟨g', h1, h2⟩ := h
    cases h1
    unfold badFrom
    rw [if_neg (h2 p rfl)]
    try rfl
  | p :: ps, g :: gs, n, j + 1, h, h2 => by
    obtain ⟨u, g', e1, e2, e3⟩ := h 0 (by omega)
    cases e1
    cases e2
    unfold badFrom
    rw [if_pos e3, bad_at (ps := ps) (gs := gs) (n := n + 1) (j := j) (fun i hi => by
      obtain ⟨u, g, q1, q2, q3⟩ := h (i + 1) (by omega)
      exact ⟨u, g, by simpa using q1, by simpa using q2, q3⟩) (by
      obtain ⟨g, q1, q2⟩ := h2
      exact ⟨g, by simpa using q1, fun u hu => q2 u (by simpa using hu)⟩)]
    try (congr 1; omega)
theorem bad_end : ∀ {ps : List Str} {gs : List (List Str)} {n : Nat}, (∀ i, i < gs.length → ∃ u g, ps[i]? = some u ∧ gs[i]? = some g ∧ u ∈ g) → badFrom n ps gs = if ps.length = gs.length then none else some (n + gs.length + 1)
  | [], [], n, _ => rfl
  | p :: ps, [], n, _ => rfl
  | [], g :: gs, n, h => by
    obtain ⟨u, g, h, _⟩ := h 0 (by simp)
    simp at h
  | p :: ps, g :: gs, n, h => by
    obtain ⟨u, g', e1, e2, e3⟩ := h 0 (by simp)
    cases e1
    cases e2
    unfold badFrom
    rw [if_pos e3, bad_end (ps := ps) (gs := gs) (n := n + 1) fun i hi => by
      obtain ⟨u, g, q1, q2, q3⟩ := h (i + 1) (by simpa using hi)
      exact ⟨u, g, by simpa using q1, by simpa using q2, q3⟩]
    simp only [List.length_cons, Nat.add_right_cancel_iff]
    by_cases hl : ps.length = gs.length
    · rw [if_pos hl, if_pos hl]
    · rw [if_neg hl, if_neg hl]
      try (congr 1; omega)
theorem bad_none : ∀ {ps : List Str} {gs : List (List Str)} {n : Nat}, badFrom n ps gs = none → ps.length = gs.length ∧ ∀ i, i < gs.length → ∃ u g, ps[i]? = some u ∧ gs[i]? = some g ∧ u ∈ g
  | [], [], n, _ => ⟨rfl, fun i hi => by simp at hi⟩
  | p :: ps, [], n, h => by cases h
  | [], g :: gs, n, h => by cases h
  | p :: ps, g :: gs, n, h => by
    unfold badFrom at h
    split at h
    · rename_i hp
      obtain ⟨h1, h2⟩ := bad_none h
      refine ⟨by simp [h1], fun i hi => ?_⟩
      cases i with
      | zero => exact ⟨p, g, rfl, rfl, hp⟩
      | succ i =>
        obtain ⟨u, g', q1, q2, q3⟩ := h2 i (by simpa using hi)
        exact ⟨u, g', by simpa using q1, by simpa using q2, q3⟩
    · cases h
/-- the words of a plan -/
theorem plan_words {ps : List Str} (h : badFrom 0 ps goodPlan = none) : ∃ p : PlanS, p.ok ∧ ps = planW p := by
  obtain ⟨h1, h2⟩ := bad_none h
  have hl : ps.length = 6 := h1
  match ps, hl with
  | [a, b, c, d, e, f], _ =>
    obtain ⟨u, g, q1, q2, q3⟩ := h2 0 (by decide)
    cases q1
    cases q2
    have ha : a = "plan" := List.mem_singleton.mp q3
    obtain ⟨u, g, q1, q2, q3⟩ := h2 1 (by decide)
    cases q1
    cases q2
    obtain ⟨nb, b0, b1, rfl⟩ := mem_numsW q3
    obtain ⟨u, g, q1, q2, q3⟩ := h2 2 (by decide)
    cases q1
    cases q2
    obtain ⟨ns, s0, s1, rfl⟩ := mem_numsW q3
    obtain ⟨u, g, q1, q2, q3⟩ := h2 3 (by decide)
    cases q1
    cases q2
    have h3 : d = "pushes" ∨ d = "refused" := by simpa using q3
    obtain ⟨u, g, q1, q2, q3⟩ := h2 4 (by decide)
    cases q1
    cases q2
    have h4 : e = "along" ∨ e = "stays" := by simpa using q3
    obtain ⟨u, g, q1, q2, q3⟩ := h2 5 (by decide)
    cases q1
    cases q2
    have h5 : f = "first" ∨ f = "next" ∨ f = "roomiest" := by simpa using q3
    exact ⟨⟨nb, ns, ⟨d, e, f⟩⟩, ⟨⟨b0, b1⟩, ⟨s0, s1⟩, h3, h4, h5⟩, by rw [ha]; rfl⟩
def booksOf (ws : List Str) : Int := (intText? (ws.getD 1 "")).getD 0
theorem booksOf_plan {p : PlanS} (h : p.ok) : booksOf (planW p) = p.books := by
  show (intText? (dig p.books)).getD 0 = _
  rw [dig_int (by have := h.1.1; omega) (by have := h.1.2; omega)]
  rfl
def restErr (n : Int) : Nat → List Str → Option (Nat × Nat)
  | _, [] => none
  | i, r :: rs => if i = 8 then some (i + 2, 1) else match badFrom 0 (wordsOf r) (deedGood n (wordsOf r)) with
    | some w => some (i + 2, w)
    | none => restErr n (i + 1) rs
def readErr : List Str → Option (Nat × Nat)
  | [] => none
  | r :: rs => match badFrom 0 (wordsOf r) goodPlan with
    | some w => some (1, w)
    | none => restErr (booksOf (wordsOf r)) 0 rs
/-- turn by turn: the rest that is left -/
def leftErr (n : Int) (rs : List Str) (i : Nat) : Option (Nat × Nat) := restErr n i (rs.drop i)
theorem left_end {n : Int} {rs : List Str} : leftErr n rs rs.length = none := by
  unfold leftErr
  rw [List.drop_length]
  rfl
theorem left_at {n : Int} {rs : List Str} {i : Nat} {r : Str} (h : rs[i]? = some r) : leftErr n rs i = if i = 8 then some (i + 2, 1) else match badFrom 0 (wordsOf r) (deedGood n (wordsOf r)) with
    | some w => some (i + 2, w)
    | none => leftErr n rs (i + 1) := by
  unfold leftErr
  have hl := (List.getElem?_eq_some_iff.mp h).1
  have e : rs.drop i = r :: rs.drop (i + 1) := by
    rw [List.drop_eq_getElem_cons hl]
    congr 1
    exact (List.getElem?_eq_some_iff.mp h).2
  rw [e]
  rfl
abbrev sTextInit : Stmt := inClass (top 6) 0
abbrev nTextInit : List Str := ["self", "line", "word"]
abbrev pTextInit : List Str := ["self", "line", "word"]
theorem scTextInit : FnScope nTextInit pTextInit (defScope sTextInit) := ⟨rfl, rfl, rfl, by decide +kernel, rfl, by decide +kernel, by decide +kernel⟩
abbrev sLineInit : Stmt := inClass (top 21) 0
abbrev nLineInit : List Str := ["self", "text", "number", "word"]
abbrev pLineInit : List Str := ["self", "text", "number"]
theorem scLineInit : FnScope nLineInit pLineInit (defScope sLineInit) := ⟨rfl, rfl, rfl, by decide +kernel, rfl, by decide +kernel, by decide +kernel⟩
abbrev sLineRefuse : Stmt := inClass (top 21) 1
abbrev nLineRefuse : List Str := ["self"]
abbrev pLineRefuse : List Str := ["self"]
theorem scLineRefuse : FnScope nLineRefuse pLineRefuse (defScope sLineRefuse) := ⟨rfl, rfl, rfl, by decide +kernel, rfl, by decide +kernel, by decide +kernel⟩
abbrev tLine (c : Addr) : ClsT := ⟨c, ["number", "parts", "place"]⟩
theorem nLi {c : Addr} {m : Str} (h : m ∉ (["number", "parts", "place"] : List Str)) : m ∉ (tLine c).ns := h
structure KLine (K : PySem.W.Frag) where
  cLi : Addr
  li : ClsOk K (tLine cLi)
structure KTxt (K : PySem.W.Frag) (mg : Str → Option Value) where
  cText : Addr
  f_text : FunE K mg "InvalidText" "InvalidText.__init__" cText sTextInit pTextInit
  n_line : PySem.W.findIn K (.ref cText) "line" = some none
  n_word : PySem.W.findIn K (.ref cText) "word" = some none
/-- a line in the memory: its number, its words, the next one's place -/
def liS (T : ClsT) (num : Int) (ps : List Str) (pl : Nat) : MO := .ins T [.d (.int num), .d (.lst (ps.map D.str)), .d (.int (pl : Int))]
def xLine (cX : Addr) (num : Int) (w : Nat) (M : Mem) (x : XPost) : Prop := ∀ M', x (.ref cX) [("word", .int (w : Int)), ("line", .int num)] M'
theorem strs_at {ps : List Str} {i : Nat} {s : Str} (h : ps[i]? = some s) : ((ps.map D.str).map DV.d)[i]? = some (.d (.str s)) := by
  rw [List.getElem?_map, List.getElem?_map, h]
  rfl
theorem inF_strs (b : Str) (is : List Str) : inF (.str b) (is.map D.str) = decide (b ∈ is) := by
  unfold inF
  rw [List.any_map]
  induction is with
  | nil => rfl
  | cons a r ih =>
    rw [List.any_cons, ih]
    show ((a == b) || decide (b ∈ r)) = decide (b ∈ a :: r)
    by_cases h : b = a
    · subst h
      simp
    · have : (a == b) = false := by simpa using fun q => h q.symm
      rw [this, Bool.false_or]
      simp [h]
theorem flat_strs (is : List Str) : (is.map D.str).all flatD = true := by
  rw [List.all_map]
  exact List.all_eq_true.mpr fun _ _ => rfl
theorem allD_strs (is : List Str) : allD (is.map strD) = some (is.map D.str) := by
  have := allD_map (is.map D.str)
  rwa [List.map_map] at this
section
variable {P : Program} {w : World} {K : PySem.W.Frag} {mg : Str → Option Value} {base : Heap}
theorem KTxt.text (E : KTxt K mg) : CalleeX P w K mg base "InvalidText" E.cText pTextInit ["line", "word"] := E.f_text.callee scTextInit rfl (by decide) (by simp) (fun n hn => by
  simp only [List.mem_cons, List.not_mem_nil, or_false] at hn
  rcases hn with rfl | rfl
  · exact E.n_line
  · exact E.n_word) fun f cdv A outer s H vs Q E2 h => by
  obtain ⟨a, C, ws, rfl, hl, T, hno, ha, hq⟩ := h
  match ws, hl with
  | [y, z], _ =>
    refine ⟨_, pss_cons (ps_ost (pe_var (i := 0) rfl (.inl rfl)) (pe_var (i := 1) rfl (.inl rfl))) (pss_one (ps_ost (pe_var (i := 0) rfl (.inl rfl)) (pe_var (i := 2) rfl (.inl rfl)))), ?_⟩
    have n1 := hno "line" (by simp)
    have n2 := hno "word" (by simp)
    refine ⟨y, rfl, .ref a, rfl, a, C, rfl, T, n1, .inl ⟨ha, fun dx h1 h2 => ?_⟩⟩
    refine ⟨z, rfl, .ref a, rfl, a, C, rfl, T, n2, .inr ⟨dx, [("line", y)], upd_same, ?_, by show 1 ≤ 900; decide, ?_⟩⟩
    · rw [upd_ne h2, upd_same]
    · have e : upd (upd (upd H dx (exd dx [("line", y)])) a (exo a C (some dx))) dx (exd dx [("word", z), ("line", y)]) = upd (upd H dx (exd dx [("word", z), ("line", y)])) a (exo a C (some dx)) := by
        funext b
        by_cases q1 : b = dx
        · subst q1
          rw [upd_same, upd_ne h2, upd_same]
        · rw [upd_ne q1]
          by_cases q2 : b = a
          · subst q2
            rw [upd_same, upd_same]
          · rw [upd_ne q2, upd_ne q2, upd_ne q1, upd_ne q1]
      rw [e]
      exact hq dx h1 h2
def spLineInit (T : ClsT) : DSp := fun ds M P _ => ∃ (M0 : Mem) (text : Str) (num : Int), ds = [.m M0.length, .d (.str text), .d (.int num)] ∧ M = M0 ++ [.ins T []] ∧ text.length ≤ 80000 ∧ P (.d .non) (M0 ++ [liS T num (wordsOf text) 0])
theorem filt_take {α : Type} {f : α → Bool} {l : List α} {j : Nat} {q : α} (e : l[j]? = some q) : (l.take (j + 1)).filter f = (l.take j).filter f ++ (if f q = true then [q] else []) := by
  rw [List.take_add_one, e, List.filter_append]
  congr 1
  by_cases h : f q = true
  · rw [if_pos h]
    exact List.filter_cons_of_pos h
  · rw [if_neg h]
    exact List.filter_cons_of_neg h
theorem split_len (a b : Str) : (Txt.split a b).length ≤ a.length + 2 := PyProof.Rows.split_le a b
theorem ok_line_init (N : Blt mg) (G : KLine K) (F : FunI K mg (tLine G.cLi) "Line" "Line.__init__" sLineInit pLineInit) : CalleeI P w K mg base (tLine G.cLi) "Line" 1 pLineInit (spLineInit (tLine G.cLi)) := by
  refine calleeI_dl F scLineInit (fun ds M P x h => ?_) (fun f cdv Ar outer s H E hr => ?_)
  · obtain ⟨M0, text, num, rfl, _⟩ := h
    rfl
  · have hu := hr.units
    refine ⟨_, (dss_cons (ds_fld (tLine G.cLi) 0 G.li (de_var 0) (de_var 2))
    (dss_cons (ds_fld (tLine G.cLi) 1 G.li (de_var 0) (de_lc rfl scLineInit.nd (di_seq (de_bm .str PySem.F.plainAttrs_str PySem.F.slot_str_split PySem.F.type_str_split dm_split (de_var 1) (da_cons de_str da_nil))) (blkOk_by (own := [("word", 3)]) (N := nLineInit) rfl) (fun _ _ _ _ _ => (dgw_name 3 (by decide) scLineInit.nd)) (fun _ _ _ _ _ => (dts_one (dt_cmp (do_ne hu) (de_var 3) de_str))) (fun _ _ _ _ _ => (de_var 3))))
    (dss_one (ds_fld (tLine G.cLi) 2 G.li (de_var 0) de_int)))), fun ds M P x h => ?_⟩
    obtain ⟨M0, text, num, rfl, rfl, hl, hP⟩ := h
    conv => whnf
    rw [get_last]
    refine ⟨rfl, ?_⟩
    conv => whnf
    rw [set_last]
    conv => whnf
    refine ⟨⟨trivial, rfl⟩, ?_⟩
    conv => whnf
    refine ⟨⟨rfl, by omega⟩, ?_⟩
    generalize hsp : Txt.split text " " = sp
    have hspl : sp.length ≤ 80002 := by
      have := split_len text " "
      rw [hsp] at this
      omega
    have hw : wordsOf text = sp.filter fun w : Str => decide (w ≠ "") := by
      unfold wordsOf
      rw [hsp]
    refine ⟨fun i acc M' => M' = M0 ++ [.ins (tLine G.cLi) [.d (.int num)]] ∧ acc = ((sp.take i).filter fun w : Str => decide (w ≠ "")).map strD, ⟨rfl, rfl⟩, ?_, ?_⟩
    · rintro i y acc M' hy ⟨rfl, rfl⟩
      refine ⟨rfl, ?_⟩
      rw [List.getElem?_map, List.getElem?_map] at hy
      cases e : sp[i]? with
      | none => rw [e] at hy; cases hy
      | some v =>
        rw [e] at hy
        cases hy
        have hi := (List.getElem?_eq_some_iff.mp e).1
        have hfl := List.length_filter_le (fun w : Str => decide (w ≠ "")) (sp.take i)
        rw [List.length_take] at hfl
        refine ⟨fun hc => ?_, fun hc => ?_⟩
        · have hc : v ≠ "" := by simpa using hc
          refine ⟨by rw [List.length_map]; omega, rfl, ?_⟩
          rw [filt_take e, if_pos (decide_eq_true hc), List.map_append]
          rfl
        · have hc : ¬ v ≠ "" := by simpa using hc
          refine ⟨rfl, ?_⟩
          rw [filt_take e, if_neg (by simpa using hc), List.append_nil]
    · rintro acc M' ⟨rfl, rfl⟩
      refine ⟨rfl, ?_⟩
      rw [show ((sp.map D.str).map DV.d).length = sp.length by simp, List.take_length, ← hw]
      conv => whnf
      rw [allD_strs]
      conv => whnf
      rw [get_last]
      refine ⟨rfl, ?_⟩
      conv => whnf
      rw [set_last]
      conv => whnf
      rw [get_last]
      refine ⟨rfl, ?_⟩
      conv => whnf
      rw [set_last]
      exact hP
def spRefuse (T : ClsT) (cX : Addr) : DSp := fun ds M P x => ∃ (k : Nat) (num : Int) (ps : List Str) (pl : Nat), ds = [.m k] ∧ M[k]? = some (liS T num ps pl) ∧ x (.ref cX) [("word", .int ((pl : Int) + 1)), ("line", .int num)] M
theorem ok_line_refuse (N : Blt mg) (G : KLine K) (ER : KTxt K mg) (F : FunM K (tLine G.cLi) "refuse" "Line.refuse" sLineRefuse pLineRefuse) : CalleeM P w K mg base (tLine G.cLi) "refuse" 3 pLineRefuse (spRefuse (tLine G.cLi) ER.cText) := by
  have hT := ER.text (P := P) (w := w) (base := base)
  refine calleeM_dl F scLineRefuse (fun ds M P x h => ?_) (fun f cdv Ar outer s H E hr => ?_)
  · obtain ⟨k, num, ps, pl, rfl, _⟩ := h
    rfl
  · have hu := hr.units
    refine ⟨_, (dss_one (ds_raise rfl (dmkF ER.text (hr.mono (by decide)) (da_cons (de_fld (tLine G.cLi) 0 G.li (de_var 0)) (da_cons (de_bin do_add (de_fld (tLine G.cLi) 2 G.li (de_var 0)) de_int) da_nil))))), fun ds M P x h => ?_⟩
    obtain ⟨k, num, ps, pl, rfl, hk, hX⟩ := h
    unfold liS at hk
    conv => whnf
    rw [hk]
    refine ⟨rfl, ?_⟩
    conv => whnf
    rw [hk]
    refine ⟨rfl, ?_⟩
    conv => whnf
    exact ⟨rfl, hX⟩
end
end LW

namespace LW
open PySem PySem.Spec PyProof.Rows L2 DL
variable [Csts]
local macro_rules | `(tactic| walk_at "br") => `(tactic| first | (refine br_t rfl ?_) | (refine br_f rfl ?_))
local macro_rules | `(tactic| walk_at "a1") => `(tactic| first
  | (refine br_t rfl ?_)
  | (refine br_f rfl ?_)
  | (refine And.intro ⟨rfl, rfl⟩ ?_)
  | (refine And.intro rfl ?_)
  | (refine And.intro (by first | decide | omega | (simp; done) | (simp; omega)) ?_))
local macro_rules | `(tactic| walk_at "st") => `(tactic| first | (walk_at "a1") | ((conv => whnf); (walk_at "a1")))
local macro_rules | `(tactic| walk_at "run") => `(tactic| (repeat (walk_at "st")))
local macro_rules | `(tactic| walk_at "go") => `(tactic| (repeat (refine ⟨(by first | decide | omega | (simp; done) | (simp; omega) | trivial), ?_⟩)))
local macro_rules | `(tactic| walk_at "side") => `(tactic| first | exact trivial | exact ⟨trivial, rfl⟩ | omega | (simp; done) | (simp; omega))
local macro_rules | `(tactic| walk_at "sd") => `(tactic| first | (refine br_t rfl ?_) | (refine br_f rfl ?_) | (refine And.intro (by walk_at "side") ?_) | (refine fun (_ : (_ : Bool) = _) => ?_))
local macro_rules | `(tactic| walk_at "contra") => `(tactic| (intro hq; first | (cases hq; done) | (simp at hq; done) | (simp at hq; omega)))
local macro_rules | `(tactic| walk_at "sd2") => `(tactic| first
  | (with_reducible (refine br_t (by with_unfolding_all rfl) ?_))
  | (with_reducible (refine br_f (by with_unfolding_all rfl) ?_))
  | (with_reducible (refine br_n (by walk_at "contra") ?_))
  | (with_reducible (refine br_y (by walk_at "contra") ?_))
  | ((fail_if_success (with_reducible (refine br_any ?_ ?_))); (with_reducible (refine And.intro ?_ ?_)); (focus (with_unfolding_all (walk_at "side")))))
open TL
abbrev sLineTake : Stmt := inClass (top 21) 2
abbrev nLineTake : List Str := ["self", "words"]
abbrev pLineTake : List Str := ["self", "words"]
theorem scLineTake : FnScope nLineTake pLineTake (defScope sLineTake) := ⟨rfl, rfl, rfl, by decide +kernel, rfl, by decide +kernel, by decide +kernel⟩
abbrev sLineNum : Stmt := inClass (top 21) 3
abbrev nLineNum : List Str := ["self", "least", "most", "number"]
abbrev pLineNum : List Str := ["self", "least", "most"]
theorem scLineNum : FnScope nLineNum pLineNum (defScope sLineNum) := ⟨rfl, rfl, rfl, by decide +kernel, rfl, by decide +kernel, by decide +kernel⟩
abbrev sLineFin : Stmt := inClass (top 21) 4
abbrev nLineFin : List Str := ["self"]
abbrev pLineFin : List Str := ["self"]
theorem scLineFin : FnScope nLineFin pLineFin (defScope sLineFin) := ⟨rfl, rfl, rfl, by decide +kernel, rfl, by decide +kernel, by decide +kernel⟩
/-! ### a word is taken -/
section
variable {P : Program} {w : World} {K : PySem.W.Frag} {mg : Str → Option Value} {base : Heap}
def spTake (T : ClsT) (cX : Addr) : DSp := fun ds M P x => ∃ (k : Nat) (num : Int) (ps : List Str) (pl : Nat) (wv : DV) (ws : List Str), ds = [.m k, wv] ∧ M[k]? = some (liS T num ps pl) ∧ (wv = .d (.lst (ws.map D.str)) ∨ wv = .d (.tup (ws.map D.str))) ∧ pl ≤ ps.length ∧
  (∀ u, ps[pl]? = some u → u ∈ ws → P (.d (.str u)) (M.set k (liS T num ps (pl + 1)))) ∧ ((∀ u, ps[pl]? = some u → u ∉ ws) → x (.ref cX) [("word", .int ((pl : Int) + 1)), ("line", .int num)] M)
theorem isO {T : ClsT} {M : Mem} {k : Nat} {num : Int} {ps : List Str} {pl : Nat} (h : M[k]? = some (liS T num ps pl)) : isObjD T (.m k) M := by
  unfold isObjD
  dsimp only
  rw [h]
  exact rfl
theorem ok_line_take (N : Blt mg) (G : KLine K) (ER : KTxt K mg) (G_refuse : CalleeM P w K mg base (tLine G.cLi) "refuse" 3 pLineRefuse (spRefuse (tLine G.cLi) ER.cText)) (F : FunM K (tLine G.cLi) "take_one" "Line.take_one" sLineTake pLineTake) : CalleeM P w K mg base (tLine G.cLi) "take_one" 4 pLineTake (spTake (tLine G.cLi) ER.cText) := by
  refine calleeM_dl F scLineTake (fun ds M P x h => ?_) (fun f cdv Ar outer s H E hr => ?_)
  · obtain ⟨k, num, ps, pl, wv, ws, rfl, _⟩ := h
    rfl
  · have hu := hr.units
    refine ⟨_, (dss_cons (ds_if (DW.dt (dw_or (dt_cmp (do_eq hu) (de_fld (tLine G.cLi) 2 G.li (de_var 0)) (de_callB dc_lenA rfl N.len boot_len (da_cons (de_fld (tLine G.cLi) 1 G.li (de_var 0)) da_nil))) (dw_or1 (dt_cmp (do_notIn hu) (de_ix hu (de_fld (tLine G.cLi) 1 G.li (de_var 0)) (de_fld (tLine G.cLi) 2 G.li (de_var 0))) (de_var 1))))) (dss_one (ds_expr (de_methN0 (hnm := (nLi (by decide))) G_refuse (hr.mono (by decide)) G.li.cls (de_var 0)))) dss_nil)
    (dss_cons (ds_fldaug (tLine G.cLi) 2 G.li (de_var 0) de_int)
    (dss_one (ds_ret (de_ix hu (de_fld (tLine G.cLi) 1 G.li (de_var 0)) (de_bin do_sub (de_fld (tLine G.cLi) 2 G.li (de_var 0)) de_int)))))), fun ds M P x h => ?_⟩
    obtain ⟨k, num, ps, pl, wv, ws, rfl, hk, hw, hpl, hP, hX⟩ := h
    have hk' := hk
    unfold liS at hk'
    have hkl := (List.getElem?_eq_some_iff.mp hk).1
    have ref : ∀ {E : DEnds} {ρ : Rh}, E.ex = (fun c fs _ M => x c fs M) → (∀ u, ps[pl]? = some u → u ∉ ws) → spRefuse (tLine G.cLi) ER.cText [.m k] M (fun _ M' => E.nx ρ M') (xS E ρ) := fun {E ρ} he hn => ⟨k, num, ps, pl, rfl, hk, by
      show E.ex _ _ _ _
      rw [he]
      exact hX hn⟩
    conv => whnf
    rw [hk']
    refine ⟨rfl, ?_⟩
    conv => whnf
    rw [hk']
    refine ⟨rfl, ?_⟩
    conv => whnf
    rw [show ((ps.map D.str).map DV.d).length = ps.length by simp]
    refine ⟨fun hc => ?_, fun hc => ?_⟩
    · have hc : (pl : Int) = (ps.length : Int) := by simpa using hc
      refine ⟨fun _ => ?_, fun h => by cases h⟩
      refine ⟨isO hk, ?_⟩
      refine ref rfl fun u hu2 => ?_
      rw [List.getElem?_eq_none (by omega)] at hu2
      cases hu2
    · have hc : (pl : Int) ≠ (ps.length : Int) := by simpa using hc
      have hlt : pl < ps.length := by omega
      have hget : ps[pl]? = some ps[pl] := List.getElem?_eq_getElem hlt
      generalize ps[pl] = u at hget
      conv => whnf
      rw [hk']
      refine ⟨rfl, ?_⟩
      conv => whnf
      rw [hk']
      refine ⟨rfl, ?_⟩
      conv => whnf
      rw [atI_nat (strs_at hget)]
      rcases hw with rfl | rfl
      all_goals
        conv => whnf
        rw [allD_map]
        refine ⟨⟨rfl, flat_strs _⟩, ?_⟩
        rw [inF_strs, Bool.true_xor]
        refine ⟨fun hc2 => ?_, fun hc2 => ?_⟩
        · have hc2 : u ∉ ws := by simpa using hc2
          refine ⟨isO hk, ?_⟩
          refine ref rfl fun v hv => ?_
          rw [hget] at hv
          cases hv
          exact hc2
        · have hc2 : u ∈ ws := by simpa using hc2
          have hP2 := hP u hget hc2
          have hset : (M.set k (.ins (tLine G.cLi) ([.d (.int num), .d (.lst (ps.map D.str)), .d (.int (pl : Int))].set 2 (.d (.int ((pl : Int) + 1))))))[k]? = some (liS (tLine G.cLi) num ps (pl + 1)) := by
            rw [List.getElem?_set_self hkl]
            rfl
          have hset' := hset
          unfold liS at hset'
          conv => whnf
          rw [hk']
          refine ⟨rfl, rfl, ?_⟩
          generalize hM : M.set k _ = M2 at hset hset' ⊢
          conv => whnf
          rw [hset']
          refine ⟨rfl, ?_⟩
          conv => whnf
          rw [hset']
          refine ⟨rfl, ?_⟩
          conv => whnf
          have hix : atI ((ps.map D.str).map DV.d) (((pl + 1 : Nat) : Int) - 1) = some (.d (.str u)) := by
            rw [show ((pl + 1 : Nat) : Int) - 1 = (pl : Int) by omega]
            exact atI_nat (strs_at hget)
          rw [hix]
          have : M2 = M.set k (liS (tLine G.cLi) num ps (pl + 1)) := hM.symm
          rw [this]
          exact hP2
def spNum (T : ClsT) (cX : Addr) : DSp := fun ds M P x => ∃ (k : Nat) (num : Int) (ps : List Str) (pl : Nat) (lo hi : Int), ds = [.m k, .d (.int lo), .d (.int hi)] ∧ M[k]? = some (liS T num ps pl) ∧ (0 ≤ lo ∧ lo ≤ 9 ∧ -1 ≤ hi ∧ hi ≤ 9) ∧ pl ≤ ps.length ∧
  (∀ n, lo ≤ n → n ≤ hi → ps[pl]? = some (dig n) → P (.d (.int n)) (M.set k (liS T num ps (pl + 1)))) ∧ ((∀ u, ps[pl]? = some u → u ∉ numsW lo hi) → x (.ref cX) [("word", .int ((pl : Int) + 1)), ("line", .int num)] M)
theorem ok_line_num (N : Blt mg) (G : KLine K) (ER : KTxt K mg) (G_take_one : CalleeM P w K mg base (tLine G.cLi) "take_one" 4 pLineTake (spTake (tLine G.cLi) ER.cText)) (F : FunM K (tLine G.cLi) "take_number" "Line.take_number" sLineNum pLineNum) : CalleeM P w K mg base (tLine G.cLi) "take_number" 5 pLineNum (spNum (tLine G.cLi) ER.cText) := by
  refine calleeM_dl F scLineNum (fun ds M P x h => ?_) (fun f cdv Ar outer s H E hr => ?_)
  · obtain ⟨k, num, ps, pl, lo, hi, rfl, _⟩ := h
    rfl
  · have hu := hr.units
    refine ⟨_, (dss_one (ds_ret (de_callTy dc_intS rfl N.int boot_int (da_cons (de_methN (hnm := (nLi (by decide))) G_take_one (hr.mono (by decide)) G.li.cls (de_var 0) (da_cons (de_lc rfl scLineNum.nd (di_range2 rfl N.range (da_cons (de_var 1) (da_cons (de_bin do_add (de_var 2) de_int) da_nil))) (blkOk_by (own := [("number", 3)]) (N := nLineNum) rfl) (fun _ _ _ _ _ => (dgw_name 3 (by decide) scLineNum.nd)) (fun _ _ _ _ _ => dts_nil) (fun _ _ _ _ _ => (de_callTy dc_str rfl N.str boot_str (da_cons (de_var 3) da_nil)))) da_nil)) da_nil)))), fun ds M P x h => ?_⟩
    obtain ⟨k, num, ps, pl, lo, hi, rfl, hk, hlo, hpl, hP, hX⟩ := h
    refine ⟨isO hk, ?_⟩
    conv => whnf
    refine ⟨⟨by omega, by omega, by omega, by omega⟩, ?_⟩
    conv => whnf
    have hcnt : ∀ i : Nat, i < (hi + 1 - lo).toNat → 0 ≤ lo + (i : Int) ∧ lo + (i : Int) < 10 := fun i h => by omega
    have hk10 : (hi + 1 - lo).toNat ≤ 10 := by omega
    refine ⟨fun i acc M' => M' = M ∧ acc = ((List.range i).map fun (j : Nat) => strD (dig (lo + (j : Int)))), ⟨rfl, rfl⟩, ?_, ?_⟩
    · rintro i y acc M' hy ⟨rfl, rfl⟩
      obtain ⟨hi2, rfl⟩ := rangeL_get.mp hy
      have hb := hcnt i hi2
      refine ⟨trivial, ?_⟩
      refine br_t rfl ?_
      conv => whnf
      refine ⟨by omega, ?_⟩
      refine ⟨by rw [List.length_map, List.length_range]; omega, rfl, ?_⟩
      rw [List.range_succ, List.map_append]
      rfl
    · rintro acc M' ⟨rfl, rfl⟩
      refine ⟨trivial, ?_⟩
      have hacc : ((List.range (hi + 1 - lo).toNat).map fun (j : Nat) => strD (dig (lo + (j : Int)))) = (numsW lo hi).map strD := by
        unfold numsW
        rw [List.map_map]
        rfl
      rw [rangeL_len, hacc]
      conv => whnf
      rw [allD_strs]
      refine ⟨k, num, ps, pl, _, numsW lo hi, rfl, hk, .inl rfl, hpl, fun u hu1 hu2 => ?_, hX⟩
      obtain ⟨n, h1, h2, rfl⟩ := mem_numsW hu2
      refine ⟨by rw [dig_len (by omega) (by omega)]; decide, ?_⟩
      rw [dig_int (by omega) (by omega)]
      exact hP n h1 h2 hu1
def spFin (T : ClsT) (cX : Addr) : DSp := fun ds M P x => ∃ (k : Nat) (num : Int) (ps : List Str) (pl : Nat), ds = [.m k] ∧ M[k]? = some (liS T num ps pl) ∧ pl ≤ ps.length ∧ (pl = ps.length → P (.d .non) M) ∧ (pl < ps.length → x (.ref cX) [("word", .int ((pl : Int) + 1)), ("line", .int num)] M)
theorem ok_line_fin (N : Blt mg) (G : KLine K) (ER : KTxt K mg) (G_refuse : CalleeM P w K mg base (tLine G.cLi) "refuse" 3 pLineRefuse (spRefuse (tLine G.cLi) ER.cText)) (F : FunM K (tLine G.cLi) "finish" "Line.finish" sLineFin pLineFin) : CalleeM P w K mg base (tLine G.cLi) "finish" 4 pLineFin (spFin (tLine G.cLi) ER.cText) := by
  refine calleeM_dl F scLineFin (fun ds M P x h => ?_) (fun f cdv Ar outer s H E hr => ?_)
  · obtain ⟨k, num, ps, pl, rfl, _⟩ := h
    rfl
  · have hu := hr.units
    refine ⟨_, (dss_one (ds_if (dt_cmp do_lt (de_fld (tLine G.cLi) 2 G.li (de_var 0)) (de_callB dc_lenA rfl N.len boot_len (da_cons (de_fld (tLine G.cLi) 1 G.li (de_var 0)) da_nil))) (dss_one (ds_expr (de_methN0 (hnm := (nLi (by decide))) G_refuse (hr.mono (by decide)) G.li.cls (de_var 0)))) dss_nil)), fun ds M P x h => ?_⟩
    obtain ⟨k, num, ps, pl, rfl, hk, hpl, hP, hX⟩ := h
    have hk' := hk
    unfold liS at hk'
    conv => whnf
    rw [hk']
    refine ⟨rfl, ?_⟩
    conv => whnf
    rw [hk']
    refine ⟨rfl, ?_⟩
    conv => whnf
    rw [show ((ps.map D.str).map DV.d).length = ps.length by simp]
    refine ⟨fun hc => ?_, fun hc => ?_⟩
    · have hc : (pl : Int) < (ps.length : Int) := by simpa using hc
      refine ⟨isO hk, ?_⟩
      exact ⟨k, num, ps, pl, rfl, hk, hX (by omega)⟩
    · have hc : ¬ (pl : Int) < (ps.length : Int) := by simpa using hc
      exact hP (by omega)
end
end LW

namespace LW
open PySem PySem.Spec PyProof.Rows L2 DL
variable [Csts]
local macro_rules | `(tactic| walk_at "br") => `(tactic| first | (refine br_t rfl ?_) | (refine br_f rfl ?_))
local macro_rules | `(tactic| walk_at "a1") => `(tactic| first
  | (refine br_t rfl ?_)
  | (refine br_f rfl ?_)
  | (refine And.intro ⟨rfl, rfl⟩ ?_)
  | (refine And.intro rfl ?_)
  | (refine And.intro (by first | decide | omega | (simp; done) | (simp; omega)) ?_))
local macro_rules | `(tactic| walk_at "st") => `(tactic| first | (walk_at "a1") | ((conv => whnf); (walk_at "a1")))
local macro_rules | `(tactic| walk_at "run") => `(tactic| (repeat (walk_at "st")))
local macro_rules | `(tactic| walk_at "go") => `(tactic| (repeat (refine ⟨(by first | decide | omega | (simp; done) | (simp; omega) | trivial), ?_⟩)))
local macro_rules | `(tactic| walk_at "side") => `(tactic| first | exact trivial | exact ⟨trivial, rfl⟩ | omega | (simp; done) | (simp; omega))
local macro_rules | `(tactic| walk_at "sd") => `(tactic| first | (refine br_t rfl ?_) | (refine br_f rfl ?_) | (refine And.intro (by walk_at "side") ?_) | (refine fun (_ : (_ : Bool) = _) => ?_))
local macro_rules | `(tactic| walk_at "contra") => `(tactic| (intro hq; first | (cases hq; done) | (simp at hq; done) | (simp at hq; omega)))
local macro_rules | `(tactic| walk_at "sd2") => `(tactic| first
  | (with_reducible (refine br_t (by with_unfolding_all rfl) ?_))
  | (with_reducible (refine br_f (by with_unfolding_all rfl) ?_))
  | (with_reducible (refine br_n (by walk_at "contra") ?_))
  | (with_reducible (refine br_y (by walk_at "contra") ?_))
  | ((fail_if_success (with_reducible (refine br_any ?_ ?_))); (with_reducible (refine And.intro ?_ ?_)); (focus (with_unfolding_all (walk_at "side")))))
open TL
/-! ### a plan, a deed, a script are read: all ways -/
abbrev sWordsOf : Stmt := top 22
abbrev nWordsOf : List Str := ["point"]
abbrev pWordsOf : List Str := ["point"]
theorem scWordsOf : FnScope nWordsOf pWordsOf (defScope sWordsOf) := ⟨rfl, rfl, rfl, by decide +kernel, rfl, by decide +kernel, by decide +kernel⟩
abbrev sPlanIn : Stmt := top 23
abbrev nPlanIn : List Str := ["line", "books", "shelves", "rule", "point"]
abbrev pPlanIn : List Str := ["line"]
theorem scPlanIn : FnScope nPlanIn pPlanIn (defScope sPlanIn) := ⟨rfl, rfl, rfl, by decide +kernel, rfl, by decide +kernel, by decide +kernel⟩
abbrev sDeedIn : Stmt := top 24
abbrev nDeedIn : List Str := ["line", "many", "word", "books", "turn"]
abbrev pDeedIn : List Str := ["line", "many"]
theorem scDeedIn : FnScope nDeedIn pDeedIn (defScope sDeedIn) := ⟨rfl, rfl, rfl, by decide +kernel, rfl, by decide +kernel, by decide +kernel⟩
abbrev sRead : Stmt := top 25
abbrev nRead : List Str := ["text", "rows", "plan", "script", "index", "row"]
abbrev pRead : List Str := ["text"]
theorem scRead : FnScope nRead pRead (defScope sRead) := ⟨rfl, rfl, rfl, by decide +kernel, rfl, by decide +kernel, by decide +kernel⟩
theorem ln_get {M R : Mem} {k : Nat} {x : MO} (h : k < M.length) : (M.set k x ++ R)[k]? = some x := by
  rw [List.getElem?_append_left (by simpa using h), List.getElem?_set_self h]
theorem ln_set {M R : Mem} {k : Nat} {x y : MO} (h : k < M.length) : (M.set k x ++ R).set k y = M.set k y ++ R := by
  rw [List.set_append_left _ _ (by simpa using h), List.set_set]
theorem ln_oth {M R : Mem} {k j : Nat} {x : MO} (h : j < M.length) (hn : j ≠ k) : (M.set k x ++ R)[j]? = M[j]? := by
  rw [List.getElem?_append_left (by simpa using h), List.getElem?_set_ne (fun e => hn e.symm)]
theorem ln_len {M R : Mem} {k : Nat} {x : MO} : (M.set k x ++ R).length = M.length + R.length := by simp
theorem ln_last {M : Mem} {k : Nat} {x y : MO} : (M.set k x ++ [y])[M.length]? = some y := by
  rw [List.getElem?_append_right (by simp)]
  simp
theorem ln_setl {M : Mem} {k : Nat} {x y z : MO} : (M.set k x ++ [y]).set M.length z = M.set k x ++ [z] := by
  rw [List.set_append_right _ _ (by simp)]
  simp
/-- what may have changed when a line is read -/
def Rest (M M' : Mem) (k : Nat) : Prop := M.length ≤ M'.length ∧ ∀ j, j < M.length → j ≠ k → M'[j]? = M[j]?
theorem len2 {α : Type} : ∀ {l : List α}, l.length = 2 → ∃ a b, l = [a, b]
  | [a, b], _ => ⟨a, b, rfl⟩
section
variable {P : Program} {w : World} {K : PySem.W.Frag} {mg : Str → Option Value} {base : Heap}
def spWordsOf : DSp0 := fun ds P _ => ∃ (s : Str) (ws : List Str), ds = [.str s] ∧ (.inr s, .tup (ws.map D.str)) ∈ ptsD ∧ P (.tup (ws.map D.str))
theorem pts_cases {s : Str} {ws : List Str} (h : ((.inr s, .tup (ws.map D.str)) : Key × D) ∈ ptsD) : (s = "amid" ∧ ws.map D.str = [.str "pushes", .str "refused"]) ∨ (s = "closes" ∧ ws.map D.str = [.str "along", .str "stays"]) ∨ (s = "puts" ∧ ws.map D.str = [.str "first", .str "next", .str "roomiest"]) := by
  simp only [ptsD, List.mem_cons, List.not_mem_nil, or_false, Prod.mk.injEq, Sum.inr.injEq, D.tup.injEq] at h
  exact h
theorem ok_words_of (N : Blt mg) (G : Kcs K mg) (F : FunG K mg "words_of" sWordsOf pWordsOf) : Callee0 P w K mg base "words_of" 1 pWordsOf spWordsOf := by
  refine callee_dl0 F scWordsOf (fun ds P x h => ?_) (fun f cdv A outer s H E hr => ?_)
  · obtain ⟨s, ws, rfl, _⟩ := h
    rfl
  · have hu := hr.units
    refine ⟨_, (dss_one (ds_ret (de_callTy dc_tuple rfl N.tuple boot_tuple (da_cons (de_ix hu (de_cst G.c_POINTS G.r_POINTS G.POINTS) (de_var 0)) da_nil)))), fun ds P x h => ?_⟩
    obtain ⟨s, ws, rfl, hm, hP⟩ := h
    rcases pts_cases hm with ⟨rfl, e⟩ | ⟨rfl, e⟩ | ⟨rfl, e⟩ <;>
    · rw [e] at hP
      conv => whnf
      exact hP
/-- the error of a line -/
def xAt (cX : Addr) (num : Int) (w : Nat) (x : XPost) : Prop := ∀ M', x (.ref cX) [("word", .int (w : Int)), ("line", .int num)] M'
def spPlanIn (TP T : ClsT) (cX : Addr) : DSp := fun ds M P x => ∃ (k : Nat) (num : Int) (ps : List Str), ds = [.m k] ∧ M[k]? = some (liS T num ps 0) ∧ (∀ p M', p.ok → ps = planW p → Rest M M' k → P (.d (p.d TP)) M') ∧ ∀ n, badFrom 0 ps goodPlan = some n → xAt cX num n x
theorem ok_plan_in (N : Blt mg) (GK : Kcs K mg) (C : KPlan K) (G : KLine K) (ER : KTxt K mg) (C1 : Callee0 P w K mg base "words_of" 1 pWordsOf spWordsOf) (G_take_one : CalleeM P w K mg base (tLine G.cLi) "take_one" 4 pLineTake (spTake (tLine G.cLi) ER.cText))
    (G_take_number : CalleeM P w K mg base (tLine G.cLi) "take_number" 5 pLineNum (spNum (tLine G.cLi) ER.cText)) (G_finish : CalleeM P w K mg base (tLine G.cLi) "finish" 4 pLineFin (spFin (tLine G.cLi) ER.cText)) (G_Plan : CalleeSl P w K mg base (tPlan C.cPlan) "Plan" 3 pPlanInit spPlanI)
    (F : FunG K mg "plan_in" sPlanIn pPlanIn) : Callee P w K mg base "plan_in" 6 pPlanIn (spPlanIn (tPlan C.cPlan) (tLine G.cLi) ER.cText) := by
  have G_words_of := C1.up
  refine callee_dl F scPlanIn (fun ds M P x h => ?_) (fun f cdv Ar outer s H E hr => ?_)
  · obtain ⟨k, num, p, rfl, _⟩ := h
    rfl
  · have hu := hr.units
    refine ⟨_, (dss_cons (ds_expr (de_methN (hnm := (nLi (by decide))) G_take_one (hr.mono (by decide)) G.li.cls (de_var 0) (da_cons (de_tup (da_cons de_str da_nil)) da_nil)))
    (dss_cons (ds_set 1 scPlanIn.nd (de_methN (hnm := (nLi (by decide))) G_take_number (hr.mono (by decide)) G.li.cls (de_var 0) (da_cons de_int (da_cons de_int da_nil))))
    (dss_cons (ds_set 2 scPlanIn.nd (de_methN (hnm := (nLi (by decide))) G_take_number (hr.mono (by decide)) G.li.cls (de_var 0) (da_cons de_int (da_cons de_int da_nil))))
    (dss_cons (ds_set 3 scPlanIn.nd de_dnewM)
    (dss_cons (ds_for (di_keys (de_cst GK.c_POINTS GK.r_POINTS GK.POINTS)) (dg_name 4 scPlanIn.nd) (dss_one (ds_dput hu (de_var 3) (de_var 4) (de_methN (hnm := (nLi (by decide))) G_take_one (hr.mono (by decide)) G.li.cls (de_var 0) (da_cons (de_callN G_words_of (hr.mono (by decide)) (da_cons (de_var 4) da_nil)) da_nil)))))
    (dss_cons (ds_expr (de_methN0 (hnm := (nLi (by decide))) G_finish (hr.mono (by decide)) G.li.cls (de_var 0)))
    (dss_frz 3 (dss_one (ds_ret (de_makeSl G_Plan (hr.mono (by decide)) (da_cons (de_var 1) (da_cons (de_var 2) (da_cons (de_var 3) da_nil))))))))))))), fun ds M P x h => ?_⟩
    obtain ⟨k, num, ps, rfl, hk, hP, hX⟩ := h
    have hkl := (List.getElem?_eq_some_iff.mp hk).1
    -- the j-th word is wrong
    have bad : ∀ (j : Nat), (∀ i, i < j → ∃ u g, ps[i]? = some u ∧ goodPlan[i]? = some g ∧ u ∈ g) → ∀ g, goodPlan[j]? = some g → (∀ u, ps[j]? = some u → u ∉ g) → ∀ M', x (.ref ER.cText) [("word", .int ((j : Int) + 1)), ("line", .int num)] M' := fun j hj g hg hn M' => by
      have := hX (j + 1) (by rw [bad_at hj ⟨g, hg, hn⟩, Nat.zero_add]) M'
      exact this
    refine ⟨isO hk, ?_⟩
    conv => whnf
    refine ⟨by show 1 ≤ 100000; decide, ?_⟩
    have p0 : ∀ i, i < 0 → ∃ u g, ps[i]? = some u ∧ goodPlan[i]? = some g ∧ u ∈ g := fun i hi => absurd hi (Nat.not_lt_zero i)
    have nxt : ∀ {j : Nat}, (∀ i, i < j → ∃ u g, ps[i]? = some u ∧ goodPlan[i]? = some g ∧ u ∈ g) → ∀ {u g}, ps[j]? = some u → goodPlan[j]? = some g → u ∈ g → ∀ i, i < j + 1 → ∃ u g, ps[i]? = some u ∧ goodPlan[i]? = some g ∧ u ∈ g := fun {j} hj {u g} h1 h2 h3 i hi => by
      by_cases h : i < j
      · exact hj i h
      · obtain rfl : i = j := by omega
        exact ⟨u, g, h1, h2, h3⟩
    refine ⟨k, num, ps, 0, _, ["plan"], rfl, hk, .inr rfl, Nat.zero_le _, fun u hu1 hu2 => ?_, fun h => bad 0 p0 _ rfl h _⟩
    have p1 := nxt p0 hu1 rfl hu2
    have l1 : 1 ≤ ps.length := (List.getElem?_eq_some_iff.mp hu1).1
    have a1 : (M.set k (liS (tLine G.cLi) num ps 1))[k]? = some _ := List.getElem?_set_self hkl
    refine ⟨isO a1, ?_⟩
    refine ⟨k, num, _, 1, 1, 4, rfl, a1, ⟨by decide, by decide, by decide, by decide⟩, l1, fun n n0 n1 hw1 => ?_, fun h => bad 1 p1 _ rfl h _⟩
    have p2 := nxt p1 hw1 rfl (numsW_has n0 n1)
    have l2 : 2 ≤ ps.length := (List.getElem?_eq_some_iff.mp hw1).1
    rw [List.set_set]
    have a2 : (M.set k (liS (tLine G.cLi) num ps 2))[k]? = some _ := List.getElem?_set_self hkl
    refine ⟨isO a2, ?_⟩
    refine ⟨k, num, _, 2, 1, 3, rfl, a2, ⟨by decide, by decide, by decide, by decide⟩, l2, fun q q0 q1 hw2 => ?_, fun h => bad 2 p2 _ rfl h _⟩
    have p3 := nxt p2 hw2 rfl (numsW_has q0 q1)
    have l3 : 3 ≤ ps.length := (List.getElem?_eq_some_iff.mp hw2).1
    rw [List.set_set]
    conv => whnf
    refine ⟨fun i ρ M' => ∃ v ws, ws.length = i ∧ (∀ j, j < i → ps[3 + j]? = ws[j]?) ∧ (∀ j, j < 3 + i → ∃ u g, ps[j]? = some u ∧ goodPlan[j]? = some g ∧ u ∈ g) ∧ 3 + i ≤ ps.length ∧ M' = M.set k (liS (tLine G.cLi) num ps (3 + i)) ++ [.dic ((([.inr "amid", .inr "closes", .inr "puts"] : List Key).zip (ws.map D.str)))] ∧ ρ = [some (.m k), some (.d (.int n)), some (.d (.int q)), some (.m M.length), v], ⟨_, [], rfl, fun j hj => absurd hj (Nat.not_lt_zero j), p3, l3, rfl, by rw [List.length_set]; rfl⟩, ?_, ?_⟩
    · rintro i y ρ M' hy ⟨v, ws, hwl, hwp, hpp, hl, rfl, rfl⟩
      refine ⟨trivial, ?_⟩
      match i, y, hy with
      | 0, _, rfl =>
        obtain rfl := List.eq_nil_of_length_eq_zero hwl
        have hl : 3 ≤ ps.length := hl
        refine ⟨isO (ln_get hkl), ?_⟩
        refine ⟨"amid", (["pushes", "refused"] : List Str), rfl, by simp [ptsD], ?_⟩
        refine ⟨k, num, ps, 3, _, (["pushes", "refused"] : List Str), rfl, ln_get hkl, .inr rfl, hl, fun u hu1 hu2 => ?_, fun h => bad 3 hpp (["pushes", "refused"] : List Str) rfl h _⟩
        rw [ln_set hkl]
        conv => whnf
        rw [ln_last]
        conv => whnf
        rw [ln_setl]
        refine ⟨by first | decide | (simp; done) | omega, _, _ ++ [u], by rw [List.length_append, hwl]; rfl, fun j hj => ?_, nxt hpp hu1 rfl hu2, (List.getElem?_eq_some_iff.mp hu1).1, rfl, rfl⟩
        have hj3 : j < 0 + 1 := hj
        by_cases hjj : j < 0
        · rw [List.getElem?_append_left (by rw [hwl]; exact hjj)]
          exact hwp j hjj
        · obtain rfl : j = 0 := by omega
          rw [List.getElem?_append_right (by rw [hwl]; exact Nat.le_refl _), hwl]
          exact hu1
      | 1, _, rfl =>
        obtain ⟨c0, rfl⟩ := List.length_eq_one_iff.mp hwl
        have hl : 4 ≤ ps.length := hl
        refine ⟨isO (ln_get hkl), ?_⟩
        refine ⟨"closes", (["along", "stays"] : List Str), rfl, by simp [ptsD], ?_⟩
        refine ⟨k, num, ps, 4, _, (["along", "stays"] : List Str), rfl, ln_get hkl, .inr rfl, hl, fun u hu1 hu2 => ?_, fun h => bad 4 hpp (["along", "stays"] : List Str) rfl h _⟩
        rw [ln_set hkl]
        conv => whnf
        rw [ln_last]
        conv => whnf
        rw [ln_setl]
        refine ⟨by first | decide | (simp; done) | omega, _, _ ++ [u], by rw [List.length_append, hwl]; rfl, fun j hj => ?_, nxt hpp hu1 rfl hu2, (List.getElem?_eq_some_iff.mp hu1).1, rfl, rfl⟩
        have hj3 : j < 1 + 1 := hj
        by_cases hjj : j < 1
        · rw [List.getElem?_append_left (by rw [hwl]; exact hjj)]
          exact hwp j hjj
        · obtain rfl : j = 1 := by omega
          rw [List.getElem?_append_right (by rw [hwl]; exact Nat.le_refl _), hwl]
          exact hu1
      | 2, _, rfl =>
        obtain ⟨c0, c1, rfl⟩ := len2 hwl
        have hl : 5 ≤ ps.length := hl
        refine ⟨isO (ln_get hkl), ?_⟩
        refine ⟨"puts", (["first", "next", "roomiest"] : List Str), rfl, by simp [ptsD], ?_⟩
        refine ⟨k, num, ps, 5, _, (["first", "next", "roomiest"] : List Str), rfl, ln_get hkl, .inr rfl, hl, fun u hu1 hu2 => ?_, fun h => bad 5 hpp (["first", "next", "roomiest"] : List Str) rfl h _⟩
        rw [ln_set hkl]
        conv => whnf
        rw [ln_last]
        conv => whnf
        rw [ln_setl]
        refine ⟨by first | decide | (simp; done) | omega, _, _ ++ [u], by rw [List.length_append, hwl]; rfl, fun j hj => ?_, nxt hpp hu1 rfl hu2, (List.getElem?_eq_some_iff.mp hu1).1, rfl, rfl⟩
        have hj3 : j < 2 + 1 := hj
        by_cases hjj : j < 2
        · rw [List.getElem?_append_left (by rw [hwl]; exact hjj)]
          exact hwp j hjj
        · obtain rfl : j = 2 := by omega
          rw [List.getElem?_append_right (by rw [hwl]; exact Nat.le_refl _), hwl]
          exact hu1
    · rintro ρ M' ⟨v, ws, hwl, hwp, hpp, hl, rfl, rfl⟩
      refine ⟨trivial, ?_⟩
      refine ⟨isO (ln_get hkl), ?_⟩
      have hl : 6 ≤ ps.length := hl
      have hpp : ∀ j, j < goodPlan.length → ∃ u g, ps[j]? = some u ∧ goodPlan[j]? = some g ∧ u ∈ g := hpp
      refine ⟨k, num, ps, 6, rfl, ln_get hkl, hl, fun he => ?_, fun hlt => hX 7 (by rw [bad_end hpp, if_neg (by show ¬ ps.length = 6; omega)]; rfl) _⟩
      have hn : badFrom 0 ps goodPlan = none := by
        rw [bad_end hpp, if_pos (show ps.length = goodPlan.length from he.symm)]
      obtain ⟨p, hp, rfl⟩ := plan_words hn
      match ws, hwl with
      | [c1, c2, c3], _ =>
        have e1 := hwp 0 (by decide)
        have e2 := hwp 1 (by decide)
        have e3 := hwp 2 (by decide)
        have f1 : p.rule.amid = c1 := Option.some.inj e1
        have f2 : p.rule.closes = c2 := Option.some.inj e2
        have f3 : p.rule.puts = c3 := Option.some.inj e3
        have e4 : dig p.books = dig n := Option.some.inj hw1
        have e5 : dig p.shelves = dig q := Option.some.inj hw2
        have f4 := dig_inj (by have := hp.1.1; omega) (by have := hp.1.2; omega) (by omega) (by omega) e4
        have f5 := dig_inj (by have := hp.2.1.1; omega) (by have := hp.2.1.2; omega) (by omega) (by omega) e5
        subst f1
        subst f2
        subst f3
        subst f4
        subst f5
        conv => whnf
        rw [ln_last]
        conv => whnf
        rw [ln_setl]
        refine ⟨p, hp, rfl, ?_⟩
        exact hP p _ hp rfl ⟨by rw [ln_len]; exact Nat.le_add_right _ _, fun j hj hn => ln_oth hj hn⟩
/-- a deed is read -/
def sizeOf4 (u : Str) : Nat := if u = "amid" then 2 else 1
def spDeedIn (T : ClsT) (cX : Addr) : DSp := fun ds M P x => ∃ (k : Nat) (num n : Int) (ps : List Str), ds = [.m k, .d (.int n)] ∧ M[k]? = some (liS T num ps 0) ∧ (1 ≤ n ∧ n ≤ 4) ∧ (∀ v M', badFrom 0 ps (deedGood n ps) = none → Rest M M' k → P (.d v) M') ∧ ∀ w, badFrom 0 ps (deedGood n ps) = some w → xAt cX num w x
theorem Rest.set {M : Mem} {k : Nat} {x : MO} (h : k < M.length) : Rest M (M.set k x) k := ⟨by simp, fun j hj hn => List.getElem?_set_ne (fun e => hn e.symm)⟩
theorem allD_cellsB (bs : List Int) : allD (bs.map fun b => DV.d (.int b)) = some (bs.map D.int) := by
  have := allD_map (bs.map D.int)
  rwa [List.map_map] at this
theorem allD_wd (w : Str) (bs : List Int) : allD (DV.d (D.str w) :: (List.map DV.d (List.map D.int bs) ++ [])) = some (D.str w :: bs.map D.int) := by
  rw [List.append_nil]
  exact allD_map (D.str w :: bs.map D.int)
theorem ok_deed_in (N : Blt mg) (GK : Kcs K mg) (G : KLine K) (ER : KTxt K mg) (G_take_one : CalleeM P w K mg base (tLine G.cLi) "take_one" 4 pLineTake (spTake (tLine G.cLi) ER.cText))
    (G_take_number : CalleeM P w K mg base (tLine G.cLi) "take_number" 5 pLineNum (spNum (tLine G.cLi) ER.cText)) (G_finish : CalleeM P w K mg base (tLine G.cLi) "finish" 4 pLineFin (spFin (tLine G.cLi) ER.cText))
    (F : FunG K mg "deed_in" sDeedIn pDeedIn) : Callee P w K mg base "deed_in" 6 pDeedIn (spDeedIn (tLine G.cLi) ER.cText) := by
  refine callee_dl F scDeedIn (fun ds M P x h => ?_) (fun f cdv Ar outer s H E hr => ?_)
  · obtain ⟨k, num, n, d, rfl, _⟩ := h
    rfl
  · have hu := hr.units
    refine ⟨_, (dss_cons (ds_set 2 scDeedIn.nd (de_methN (hnm := (nLi (by decide))) G_take_one (hr.mono (by decide)) G.li.cls (de_var 0) (da_cons (de_callTy (dc_listK rfl) rfl N.list boot_list (da_cons (de_cst GK.c_SIZES GK.r_SIZES GK.SIZES) da_nil)) da_nil)))
    (dss_cons (ds_setLcX 3 rfl scDeedIn.nd rfl rfl (di_range1 rfl N.range (da_cons (de_bin do_sub (de_ix hu (de_cst GK.c_SIZES GK.r_SIZES GK.SIZES) (de_var 2)) de_int) da_nil)) (blkOk_by (own := [("turn", 4)]) (N := nDeedIn) rfl) (fun _ _ _ _ _ => (dgw_name 4 (by decide) scDeedIn.nd)) (fun _ _ _ _ _ => dts_nil) (fun _ _ _ _ _ _ => (de_methN (hnm := (nLi (by decide))) G_take_number (hr.mono (by decide)) G.li.cls (de_var 0) (da_cons de_int (da_cons (de_bin do_sub (de_var 1) de_int) da_nil)))))
    (dss_cons (ds_expr (de_methN0 (hnm := (nLi (by decide))) G_finish (hr.mono (by decide)) G.li.cls (de_var 0)))
    (dss_one (ds_ret (de_tup (da_cons (de_var 2) (da_star (de_var 3) da_nil)))))))), fun ds M P x h => ?_⟩
    obtain ⟨k, num, n, ps, rfl, hk, hn, hP, hX⟩ := h
    have hkl := (List.getElem?_eq_some_iff.mp hk).1
    have bad : ∀ (j : Nat), (∀ i, i < j → ∃ u g, ps[i]? = some u ∧ (deedGood n ps)[i]? = some g ∧ u ∈ g) → ∀ g, (deedGood n ps)[j]? = some g → (∀ u, ps[j]? = some u → u ∉ g) → ∀ M', x (.ref ER.cText) [("word", .int ((j : Int) + 1)), ("line", .int num)] M' := fun j hj g hg hn M' => by
      have := hX (j + 1) (by rw [bad_at hj ⟨g, hg, hn⟩, Nat.zero_add]) M'
      exact this
    have nxt : ∀ {j : Nat}, (∀ i, i < j → ∃ u g, ps[i]? = some u ∧ (deedGood n ps)[i]? = some g ∧ u ∈ g) → ∀ {u g}, ps[j]? = some u → (deedGood n ps)[j]? = some g → u ∈ g → ∀ i, i < j + 1 → ∃ u g, ps[i]? = some u ∧ (deedGood n ps)[i]? = some g ∧ u ∈ g := fun {j} hj {u g} h1 h2 h3 i hi => by
      by_cases h : i < j
      · exact hj i h
      · obtain rfl : i = j := by omega
        exact ⟨u, g, h1, h2, h3⟩
    have g0 : (deedGood n ps)[0]? = some (["put", "amid", "take", "ask"] : List Str) := rfl
    have p0 : ∀ i, i < 0 → ∃ u g, ps[i]? = some u ∧ (deedGood n ps)[i]? = some g ∧ u ∈ g := fun i hi => absurd hi (Nat.not_lt_zero i)
    refine ⟨isO hk, ?_⟩
    conv => whnf
    refine ⟨k, num, ps, 0, _, (["put", "amid", "take", "ask"] : List Str), rfl, hk, .inl rfl, Nat.zero_le _, fun u hu1 hu2 => ?_, fun h => bad 0 p0 _ g0 h _⟩
    have g1 := nxt p0 hu1 g0 hu2
    have l1 : 1 ≤ ps.length := (List.getElem?_eq_some_iff.mp hu1).1
    simp only [List.mem_cons, List.not_mem_nil, or_false] at hu2
    rcases hu2 with rfl | rfl | rfl | rfl
    · skip
      have hdg : deedGood n ps = ([["put", "amid", "take", "ask"], numsW 0 (n - 1)] : List (List Str)) ++ ([]) := by
        unfold deedGood
        rw [List.head?_eq_getElem?, hu1]
        rfl
      have hgl : (deedGood n ps).length = 1 + 1 := by rw [hdg]; rfl
      have hgn : ∀ i, i < 1 → (deedGood n ps)[1 + i]? = some (numsW 0 (n - 1)) := fun i hi => by
        rw [hdg]
        (obtain rfl : i = 0 := by omega); rfl
      conv => whnf
      refine ⟨⟨by decide, by decide⟩, ?_⟩
      refine ⟨fun i acc M' => ∃ bs : List Int, M' = M.set k (liS (tLine G.cLi) num ps (1 + i)) ∧ acc = bs.map (fun b => DV.d (.int b)) ∧ bs.length = i ∧ (∀ j, j < 1 + i → ∃ u g, ps[j]? = some u ∧ (deedGood n ps)[j]? = some g ∧ u ∈ g) ∧ 1 + i ≤ ps.length, ⟨[], rfl, rfl, rfl, g1, l1⟩, ?_, ?_⟩
      · rintro i y acc M' hy ⟨bs, rfl, rfl, hbl, hpp, hll⟩
        obtain ⟨hi2, rfl⟩ := rangeL_get.mp hy
        refine ⟨trivial, ?_⟩
        refine br_t rfl ?_
        have a1 : (M.set k (liS (tLine G.cLi) num ps (1 + i)))[k]? = some _ := List.getElem?_set_self hkl
        refine ⟨isO a1, ?_⟩
        have hi2 : i < 1 := hi2
        refine ⟨k, num, ps, 1 + i, 0, n - 1, rfl, a1, ⟨by decide, by decide, by omega, by omega⟩, hll, fun q q0 q1 hq => ?_, fun h => ?_⟩
        · refine ⟨by rw [List.length_map]; omega, bs ++ [q], ?_, by simp, by simp [hbl], nxt hpp hq (hgn i hi2) (numsW_has q0 q1), (List.getElem?_eq_some_iff.mp hq).1⟩
          rw [List.set_set]
          rfl
        · exact bad (1 + i) hpp _ (hgn i hi2) h _
      · rintro acc M' ⟨bs, rfl, rfl, hbl, hpp, hll⟩
        refine ⟨trivial, ?_⟩
        have hbl : bs.length = 1 := hbl
        conv => whnf
        rw [allD_cellsB]
        have a1 : (M.set k (liS (tLine G.cLi) num ps (1 + 1)))[k]? = some _ := List.getElem?_set_self hkl
        refine ⟨isO a1, ?_⟩
        have hpp : ∀ j, j < (deedGood n ps).length → ∃ u g, ps[j]? = some u ∧ (deedGood n ps)[j]? = some g ∧ u ∈ g := fun j hj => hpp j (by rw [hgl] at hj; show j < 1 + 1; omega)
        have hll : 1 + 1 ≤ ps.length := hll
        refine ⟨k, num, ps, 1 + 1, rfl, a1, hll, fun he => ?_, fun hlt => ?_⟩
        · conv => whnf
          rw [allD_wd]
          refine ⟨by simp; omega, ?_⟩
          exact hP _ _ (by rw [bad_end hpp, if_pos (by rw [hgl]; omega)]) (Rest.set hkl)
        · have := hX (1 + 2) (by rw [bad_end hpp, if_neg (by rw [hgl]; omega), hgl, Nat.zero_add]) (M.set k (liS (tLine G.cLi) num ps (1 + 1)))
          exact this
    · skip
      have hdg : deedGood n ps = ([["put", "amid", "take", "ask"], numsW 0 (n - 1)] : List (List Str)) ++ ([numsW 0 (n - 1)]) := by
        unfold deedGood
        rw [List.head?_eq_getElem?, hu1]
        rfl
      have hgl : (deedGood n ps).length = 2 + 1 := by rw [hdg]; rfl
      have hgn : ∀ i, i < 2 → (deedGood n ps)[1 + i]? = some (numsW 0 (n - 1)) := fun i hi => by
        rw [hdg]
        (obtain rfl | rfl : i = 0 ∨ i = 1 := by omega) <;> rfl
      conv => whnf
      refine ⟨⟨by decide, by decide⟩, ?_⟩
      refine ⟨fun i acc M' => ∃ bs : List Int, M' = M.set k (liS (tLine G.cLi) num ps (1 + i)) ∧ acc = bs.map (fun b => DV.d (.int b)) ∧ bs.length = i ∧ (∀ j, j < 1 + i → ∃ u g, ps[j]? = some u ∧ (deedGood n ps)[j]? = some g ∧ u ∈ g) ∧ 1 + i ≤ ps.length, ⟨[], rfl, rfl, rfl, g1, l1⟩, ?_, ?_⟩
      · rintro i y acc M' hy ⟨bs, rfl, rfl, hbl, hpp, hll⟩
        obtain ⟨hi2, rfl⟩ := rangeL_get.mp hy
        refine ⟨trivial, ?_⟩
        refine br_t rfl ?_
        have a1 : (M.set k (liS (tLine G.cLi) num ps (1 + i)))[k]? = some _ := List.getElem?_set_self hkl
        refine ⟨isO a1, ?_⟩
        have hi2 : i < 2 := hi2
        refine ⟨k, num, ps, 1 + i, 0, n - 1, rfl, a1, ⟨by decide, by decide, by omega, by omega⟩, hll, fun q q0 q1 hq => ?_, fun h => ?_⟩
        · refine ⟨by rw [List.length_map]; omega, bs ++ [q], ?_, by simp, by simp [hbl], nxt hpp hq (hgn i hi2) (numsW_has q0 q1), (List.getElem?_eq_some_iff.mp hq).1⟩
          rw [List.set_set]
          rfl
        · exact bad (1 + i) hpp _ (hgn i hi2) h _
      · rintro acc M' ⟨bs, rfl, rfl, hbl, hpp, hll⟩
        refine ⟨trivial, ?_⟩
        have hbl : bs.length = 2 := hbl
        conv => whnf
        rw [allD_cellsB]
        have a1 : (M.set k (liS (tLine G.cLi) num ps (1 + 2)))[k]? = some _ := List.getElem?_set_self hkl
        refine ⟨isO a1, ?_⟩
        have hpp : ∀ j, j < (deedGood n ps).length → ∃ u g, ps[j]? = some u ∧ (deedGood n ps)[j]? = some g ∧ u ∈ g := fun j hj => hpp j (by rw [hgl] at hj; show j < 1 + 2; omega)
        have hll : 1 + 2 ≤ ps.length := hll
        refine ⟨k, num, ps, 1 + 2, rfl, a1, hll, fun he => ?_, fun hlt => ?_⟩
        · conv => whnf
          rw [allD_wd]
          refine ⟨by simp; omega, ?_⟩
          exact hP _ _ (by rw [bad_end hpp, if_pos (by rw [hgl]; omega)]) (Rest.set hkl)
        · have := hX (2 + 2) (by rw [bad_end hpp, if_neg (by rw [hgl]; omega), hgl, Nat.zero_add]) (M.set k (liS (tLine G.cLi) num ps (1 + 2)))
          exact this
    · skip
      have hdg : deedGood n ps = ([["put", "amid", "take", "ask"], numsW 0 (n - 1)] : List (List Str)) ++ ([]) := by
        unfold deedGood
        rw [List.head?_eq_getElem?, hu1]
        rfl
      have hgl : (deedGood n ps).length = 1 + 1 := by rw [hdg]; rfl
      have hgn : ∀ i, i < 1 → (deedGood n ps)[1 + i]? = some (numsW 0 (n - 1)) := fun i hi => by
        rw [hdg]
        (obtain rfl : i = 0 := by omega); rfl
      conv => whnf
      refine ⟨⟨by decide, by decide⟩, ?_⟩
      refine ⟨fun i acc M' => ∃ bs : List Int, M' = M.set k (liS (tLine G.cLi) num ps (1 + i)) ∧ acc = bs.map (fun b => DV.d (.int b)) ∧ bs.length = i ∧ (∀ j, j < 1 + i → ∃ u g, ps[j]? = some u ∧ (deedGood n ps)[j]? = some g ∧ u ∈ g) ∧ 1 + i ≤ ps.length, ⟨[], rfl, rfl, rfl, g1, l1⟩, ?_, ?_⟩
      · rintro i y acc M' hy ⟨bs, rfl, rfl, hbl, hpp, hll⟩
        obtain ⟨hi2, rfl⟩ := rangeL_get.mp hy
        refine ⟨trivial, ?_⟩
        refine br_t rfl ?_
        have a1 : (M.set k (liS (tLine G.cLi) num ps (1 + i)))[k]? = some _ := List.getElem?_set_self hkl
        refine ⟨isO a1, ?_⟩
        have hi2 : i < 1 := hi2
        refine ⟨k, num, ps, 1 + i, 0, n - 1, rfl, a1, ⟨by decide, by decide, by omega, by omega⟩, hll, fun q q0 q1 hq => ?_, fun h => ?_⟩
        · refine ⟨by rw [List.length_map]; omega, bs ++ [q], ?_, by simp, by simp [hbl], nxt hpp hq (hgn i hi2) (numsW_has q0 q1), (List.getElem?_eq_some_iff.mp hq).1⟩
          rw [List.set_set]
          rfl
        · exact bad (1 + i) hpp _ (hgn i hi2) h _
      · rintro acc M' ⟨bs, rfl, rfl, hbl, hpp, hll⟩
        refine ⟨trivial, ?_⟩
        have hbl : bs.length = 1 := hbl
        conv => whnf
        rw [allD_cellsB]
        have a1 : (M.set k (liS (tLine G.cLi) num ps (1 + 1)))[k]? = some _ := List.getElem?_set_self hkl
        refine ⟨isO a1, ?_⟩
        have hpp : ∀ j, j < (deedGood n ps).length → ∃ u g, ps[j]? = some u ∧ (deedGood n ps)[j]? = some g ∧ u ∈ g := fun j hj => hpp j (by rw [hgl] at hj; show j < 1 + 1; omega)
        have hll : 1 + 1 ≤ ps.length := hll
        refine ⟨k, num, ps, 1 + 1, rfl, a1, hll, fun he => ?_, fun hlt => ?_⟩
        · conv => whnf
          rw [allD_wd]
          refine ⟨by simp; omega, ?_⟩
          exact hP _ _ (by rw [bad_end hpp, if_pos (by rw [hgl]; omega)]) (Rest.set hkl)
        · have := hX (1 + 2) (by rw [bad_end hpp, if_neg (by rw [hgl]; omega), hgl, Nat.zero_add]) (M.set k (liS (tLine G.cLi) num ps (1 + 1)))
          exact this
    · skip
      have hdg : deedGood n ps = ([["put", "amid", "take", "ask"], numsW 0 (n - 1)] : List (List Str)) ++ ([]) := by
        unfold deedGood
        rw [List.head?_eq_getElem?, hu1]
        rfl
      have hgl : (deedGood n ps).length = 1 + 1 := by rw [hdg]; rfl
      have hgn : ∀ i, i < 1 → (deedGood n ps)[1 + i]? = some (numsW 0 (n - 1)) := fun i hi => by
        rw [hdg]
        (obtain rfl : i = 0 := by omega); rfl
      conv => whnf
      refine ⟨⟨by decide, by decide⟩, ?_⟩
      refine ⟨fun i acc M' => ∃ bs : List Int, M' = M.set k (liS (tLine G.cLi) num ps (1 + i)) ∧ acc = bs.map (fun b => DV.d (.int b)) ∧ bs.length = i ∧ (∀ j, j < 1 + i → ∃ u g, ps[j]? = some u ∧ (deedGood n ps)[j]? = some g ∧ u ∈ g) ∧ 1 + i ≤ ps.length, ⟨[], rfl, rfl, rfl, g1, l1⟩, ?_, ?_⟩
      · rintro i y acc M' hy ⟨bs, rfl, rfl, hbl, hpp, hll⟩
        obtain ⟨hi2, rfl⟩ := rangeL_get.mp hy
        refine ⟨trivial, ?_⟩
        refine br_t rfl ?_
        have a1 : (M.set k (liS (tLine G.cLi) num ps (1 + i)))[k]? = some _ := List.getElem?_set_self hkl
        refine ⟨isO a1, ?_⟩
        have hi2 : i < 1 := hi2
        refine ⟨k, num, ps, 1 + i, 0, n - 1, rfl, a1, ⟨by decide, by decide, by omega, by omega⟩, hll, fun q q0 q1 hq => ?_, fun h => ?_⟩
        · refine ⟨by rw [List.length_map]; omega, bs ++ [q], ?_, by simp, by simp [hbl], nxt hpp hq (hgn i hi2) (numsW_has q0 q1), (List.getElem?_eq_some_iff.mp hq).1⟩
          rw [List.set_set]
          rfl
        · exact bad (1 + i) hpp _ (hgn i hi2) h _
      · rintro acc M' ⟨bs, rfl, rfl, hbl, hpp, hll⟩
        refine ⟨trivial, ?_⟩
        have hbl : bs.length = 1 := hbl
        conv => whnf
        rw [allD_cellsB]
        have a1 : (M.set k (liS (tLine G.cLi) num ps (1 + 1)))[k]? = some _ := List.getElem?_set_self hkl
        refine ⟨isO a1, ?_⟩
        have hpp : ∀ j, j < (deedGood n ps).length → ∃ u g, ps[j]? = some u ∧ (deedGood n ps)[j]? = some g ∧ u ∈ g := fun j hj => hpp j (by rw [hgl] at hj; show j < 1 + 1; omega)
        have hll : 1 + 1 ≤ ps.length := hll
        refine ⟨k, num, ps, 1 + 1, rfl, a1, hll, fun he => ?_, fun hlt => ?_⟩
        · conv => whnf
          rw [allD_wd]
          refine ⟨by simp; omega, ?_⟩
          exact hP _ _ (by rw [bad_end hpp, if_pos (by rw [hgl]; omega)]) (Rest.set hkl)
        · have := hX (1 + 2) (by rw [bad_end hpp, if_neg (by rw [hgl]; omega), hgl, Nat.zero_add]) (M.set k (liS (tLine G.cLi) num ps (1 + 1)))
          exact this
/-- a script is read -/
def spRead (cX : Addr) : DSp0 := fun ds P x => ∃ text, ds = [.str text] ∧ text.length ≤ 80000 ∧ (readErr (Txt.split text "\n") = none → ∀ v, P v) ∧ ∀ l w, readErr (Txt.split text "\n") = some (l, w) → x (.ref cX) [("word", .int ((w : Nat) : Int)), ("line", .int ((l : Nat) : Int))]
theorem spl_ne (S : List Nat) : ∀ (k : Nat) (acc l : List Nat), spl S k acc l ≠ []
  | k, acc, [] => by rw [spl_nil]; simp
  | 0, acc, c :: r => by
    cases h : pre S (c :: r) with
    | true => rw [spl_hit h]; simp
    | false => rw [spl_miss h]; exact spl_ne S 0 _ r
  | k + 1, acc, c :: r => by
    rw [spl_pass]
    exact fun h => by
      have h2 : (c :: r).drop (k + 1) = r.drop k := rfl
      rw [h2] at h
      have h3 := spl_ne S k acc r
      rw [spl_pass] at h3
      exact h3 h
theorem split_ne (x : Str) : Txt.split x (Str.ofString "\n") ≠ [] := fun h => by
  have := split_spl x (Str.ofString "\n") (by rw [show tl (Str.ofString "\n") = [10] by decide +kernel]; simp) (kind_ok (by decide +kernel))
  rw [h] at this
  exact spl_ne _ _ _ _ this.symm
/-- pieces at one sign: their lengths -/
theorem spl_sum {s : Nat} : ∀ (l acc : List Nat), ((spl [s] 0 acc l).map (·.length)).sum + (spl [s] 0 acc l).length = acc.length + l.length + 1
  | [], acc => by rw [spl_nil]; simp
  | c :: r, acc => by
    by_cases h : c = s
    · subst h
      rw [spl_hit (by unfold pre; simp)]
      have := spl_sum (s := c) r []
      simp only [List.length_singleton, Nat.sub_self, List.map_cons, List.sum_cons, List.length_cons, List.length_nil] at this ⊢
      omega
    · rw [spl_miss (pre_of_head [] _ h)]
      have := spl_sum (s := s) r (acc ++ [c])
      simp only [List.length_append, List.length_cons, List.length_nil] at this ⊢
      omega
theorem split_sum {x y : Str} {s : Nat} (hy : tl y = [s]) (hk : y.cps.all (· < 256) = true) : ((Txt.split x y).map (·.length)).sum + (Txt.split x y).length = x.length + 1 := by
  have h := split_spl x y (by rw [hy]; simp) (kind_ok hk)
  rw [hy] at h
  have h2 := spl_sum (s := s) (tl x) []
  rw [← h, List.map_map, List.length_map] at h2
  have e : (List.length ∘ tl) = fun y : Str => y.length := by
    funext y
    exact (len_tl y).symm
  rw [e] at h2
  rw [len_tl x]
  simpa using h2
theorem le_sum {l : List Nat} {a : Nat} (h : a ∈ l) : a ≤ l.sum := by
  induction l with
  | nil => cases h
  | cons b r ih =>
    rw [List.sum_cons]
    rcases List.mem_cons.mp h with rfl | h
    · omega
    · have := ih h
      omega
theorem split_rows {x : Str} : ∀ r ∈ Txt.split x (Str.ofString "\n"), r.length ≤ x.length := fun r hr => by
  have h := split_sum (x := x) (y := Str.ofString "\n") (s := 10) (by decide +kernel) (by decide +kernel)
  have h2 := le_sum (List.mem_map.mpr ⟨r, hr, rfl⟩ : r.length ∈ (Txt.split x (Str.ofString "\n")).map (·.length))
  have h3 : 0 < (Txt.split x (Str.ofString "\n")).length := List.length_pos_iff.mpr (split_ne x)
  omega
theorem readErr_c (r : Str) (rs : List Str) : readErr (r :: rs) = match badFrom 0 (wordsOf r) goodPlan with
    | some w => some (1, w)
    | none => restErr (booksOf (wordsOf r)) 0 rs := rfl
theorem ok_read (N : Blt mg) (GK : Kcs K mg) (C : KPlan K) (G : KLine K) (ER : KTxt K mg) (G_Line : CalleeI P w K mg base (tLine G.cLi) "Line" 1 pLineInit (spLineInit (tLine G.cLi))) (G_plan_in : Callee P w K mg base "plan_in" 6 pPlanIn (spPlanIn (tPlan C.cPlan) (tLine G.cLi) ER.cText))
    (G_deed_in : Callee P w K mg base "deed_in" 6 pDeedIn (spDeedIn (tLine G.cLi) ER.cText)) (F : FunG K mg "read" sRead pRead) : Callee0 P w K mg base "read" 7 pRead (spRead ER.cText) := by
  have hT := ER.text (P := P) (w := w) (base := base)
  refine callee_dl0 F scRead (fun ds P x h => ?_) (fun f cdv A outer s H E hr => ?_)
  · obtain ⟨text, rfl, _⟩ := h
    rfl
  · have hu := hr.units
    refine ⟨_, (dss_cons (ds_set 1 scRead.nd (de_bm .str PySem.F.plainAttrs_str PySem.F.slot_str_split PySem.F.type_str_split dm_split (de_var 0) (da_cons de_str da_nil)))
    (dss_cons (ds_set 2 scRead.nd (de_callN G_plan_in (hr.mono (by decide)) (da_cons (de_makeN G_Line (hr.mono (by decide)) (da_cons (de_ix hu (de_var 1) de_int) (da_cons de_int da_nil))) da_nil)))
    (dss_cons (ds_set 3 scRead.nd (de_lstM da_nil))
    (dss_cons (ds_for (di_enum rfl N.enumerate (da_cons (de_sl (de_var 1) (dp_some de_int) dp_none) da_nil)) (dg_tup rfl (dgs_cons (dg_name 4 scRead.nd) (dgs_cons (dg_name 5 scRead.nd) dgs_nil))) (dss_cons (ds_if (dt_cmp (do_eq hu) (de_var 4) (de_gint GK.MOST_DEEDS)) (dss_one (ds_raise rfl (dmkF ER.text (hr.mono (by decide)) (da_cons (de_bin do_add (de_var 4) de_int) (da_cons de_int da_nil))))) dss_nil)
    (dss_one (ds_expr (de_bm .list PySem.F.plainAttrs_list PySem.F.slot_list_append PySem.F.type_list_append dm_append (de_var 3) (da_cons (de_callN G_deed_in (hr.mono (by decide)) (da_cons (de_makeN G_Line (hr.mono (by decide)) (da_cons (de_var 5) (da_cons (de_bin do_add (de_var 4) de_int) da_nil))) (da_cons (de_slo (tPlan C.cPlan) 0 C.plan (de_var 2)) da_nil))) da_nil))))))
    (dss_one (ds_ret (de_tup (da_cons (de_var 2) (da_cons (de_callTy dc_tuple rfl N.tuple boot_tuple (da_cons (de_var 3) da_nil)) da_nil))))))))), fun ds P x h => ?_⟩
    obtain ⟨text, rfl, hl, hP, hX⟩ := h
    have hrows := split_rows (x := text)
    have hne := split_ne text
    conv => whnf
    refine ⟨⟨trivial, rfl⟩, ?_⟩
    conv => whnf
    refine ⟨⟨rfl, by omega⟩, ?_⟩
    conv => whnf
    generalize hsp : Txt.split text (Str.ofString "\n") = sp at hP hX hrows hne ⊢
    have hsl : sp.length ≤ 80002 := by
      have := split_len text (Str.ofString "\n")
      rw [hsp] at this
      omega
    obtain ⟨r0, rows, rfl⟩ : ∃ r0 rows, sp = r0 :: rows := by
      cases sp with
      | nil => exact absurd rfl hne
      | cons a r => exact ⟨a, r, rfl⟩
    conv => whnf
    have hat : atI (List.map DV.d (List.map D.str (r0 :: rows))) 0 = some (.d (.str r0)) := atI_nat (j := 0) rfl
    rw [hat]
    refine ⟨[], r0, 1, rfl, rfl, Nat.le_trans (hrows r0 (List.mem_cons_self ..)) hl, rfl, ?_⟩
    refine ⟨0, 1, wordsOf r0, rfl, rfl, fun p M1 hp hw0 hR => ?_, fun n hn M' => ?_⟩
    · have hre : readErr (r0 :: rows) = leftErr p.books rows 0 := by
        rw [readErr_c]
        have hb : badFrom 0 (wordsOf r0) goodPlan = none := by
          rw [hw0, bad_end (fun i hi => ?_), if_pos (by rfl)]
          have hi : i < 6 := hi
          obtain ⟨h1, h2, h3, h4, h5⟩ := hp
          match i, hi with
          | 0, _ => exact ⟨_, _, rfl, rfl, List.mem_singleton.mpr rfl⟩
          | 1, _ => exact ⟨_, _, rfl, rfl, numsW_has h1.1 h1.2⟩
          | 2, _ => exact ⟨_, _, rfl, rfl, numsW_has h2.1 h2.2⟩
          | 3, _ => exact ⟨_, _, rfl, rfl, by simpa using h3⟩
          | 4, _ => exact ⟨_, _, rfl, rfl, by simpa using h4⟩
          | 5, _ => exact ⟨_, _, rfl, rfl, by simpa using h5⟩
        rw [hb, hw0, booksOf_plan hp]
        rfl
      rw [hre] at hP hX
      conv => whnf
      refine ⟨Nat.zero_le _, ?_⟩
      conv => whnf
      have hcut : DL.cutD (List.map D.str (r0 :: rows)) (some 1) none = rows.map D.str := by
        rw [cut_drop (by omega) (by simp; omega)]
        rfl
      rw [hcut]
      conv => whnf
      refine ⟨?_, ?_⟩
      · rw [List.all_map, List.all_map]
        exact List.all_eq_true.mpr fun _ _ => rfl
      refine ⟨fun i ρ M' => ∃ v1 v2 xs, M'[M1.length]? = some (.lst (xs.map DV.d)) ∧ xs.length = i ∧ leftErr p.books rows 0 = leftErr p.books rows i ∧ ρ = [some (.d (.str text)), some (.d (.lst ((r0 :: rows).map D.str))), some (.d (p.d (tPlan C.cPlan))), some (.m M1.length), v1, v2], ⟨_, _, [], get_last, rfl, rfl, rfl⟩, ?_, ?_⟩
      · rintro i y ρ M' hy ⟨v1, v2, xs, hs, hxl, hle, rfl⟩
        refine ⟨rfl, ?_⟩
        obtain ⟨z, hz, rfl⟩ := enumV_get hy
        rw [List.getElem?_map, List.getElem?_map] at hz
        cases e : rows[i]? with
        | none => rw [e] at hz; cases hz
        | some row =>
          rw [e] at hz
          cases hz
          have hi := (List.getElem?_eq_some_iff.mp e).1
          have hrl := hrows row (List.mem_cons_of_mem _ (List.mem_of_getElem? e))
          have hMl := (List.getElem?_eq_some_iff.mp hs).1
          rw [hle, left_at e] at hX
          refine ⟨rfl, ?_⟩
          conv => whnf
          refine ⟨fun h8 => ?_, fun h8 => ?_⟩
          · have h8 : (i : Int) = 8 := by simpa using h8
            have h8 : i = 8 := by omega
            rw [if_pos h8] at hX
            refine ⟨rfl, ?_⟩
            exact hX (i + 2) 1 rfl
          · have h8 : ¬ (i : Int) = 8 := by simpa using h8
            have h8 : ¬ i = 8 := by omega
            rw [if_neg h8] at hX
            conv => whnf
            have hty : tyD .list (.m M1.length) M' = true := by
              unfold tyD
              dsimp only
              rw [hs]
            refine ⟨⟨trivial, hty⟩, ?_⟩
            refine ⟨M', row, (i : Int) + 2, rfl, rfl, by omega, rfl, ?_⟩
            refine ⟨rfl, ?_⟩
            refine ⟨M'.length, (i : Int) + 2, p.books, wordsOf row, rfl, get_last, hp.1, fun v M2 hb hR2 => ?_, fun w hb M2 => ?_⟩
            · have hs2 : M2[M1.length]? = some (.lst (xs.map DV.d)) := by
                rw [hR2.2 _ (by simp; omega) (by omega), List.getElem?_append_left hMl]
                exact hs
              conv => whnf
              rw [hs2]
              conv => whnf
              have hsl2 : rows.length + 1 ≤ 80002 := hsl
              refine ⟨by rw [List.length_map]; omega, ?_⟩
              refine ⟨_, _, xs ++ [v], ?_, by simp [hxl], ?_, rfl⟩
              · rw [List.getElem?_set_self (List.getElem?_eq_some_iff.mp hs2).1, List.map_append]
                rfl
              · rw [hle, left_at e, if_neg h8, hb]
            · rw [hb] at hX
              exact hX (i + 2) w rfl
      · rintro ρ M' ⟨v1, v2, xs, hs, hxl, hle, rfl⟩
        refine ⟨rfl, ?_⟩
        rw [show (enumV ((rows.map D.str).map DV.d)).length = rows.length by rw [enumV_len]; simp] at hle
        conv => whnf
        rw [seqOf_m hs]
        conv => whnf
        rw [allD_map]
        conv => whnf
        refine ⟨by simp, ?_⟩
        exact hP (hle.trans left_end) _
    · refine hX 1 n ?_
      rw [readErr_c, hn]
end
end LW

namespace LW
open PySem PySem.Spec PyProof.Rows L2 DL
variable [Csts]
local macro_rules | `(tactic| walk_at "br") => `(tactic| first | (refine br_t rfl ?_) | (refine br_f rfl ?_))
local macro_rules | `(tactic| walk_at "a1") => `(tactic| first
  | (refine br_t rfl ?_)
  | (refine br_f rfl ?_)
  | (refine And.intro ⟨rfl, rfl⟩ ?_)
  | (refine And.intro rfl ?_)
  | (refine And.intro (by first | decide | omega | (simp; done) | (simp; omega)) ?_))
local macro_rules | `(tactic| walk_at "st") => `(tactic| first | (walk_at "a1") | ((conv => whnf); (walk_at "a1")))
local macro_rules | `(tactic| walk_at "run") => `(tactic| (repeat (walk_at "st")))
local macro_rules | `(tactic| walk_at "go") => `(tactic| (repeat (refine ⟨(by first | decide | omega | (simp; done) | (simp; omega) | trivial), ?_⟩)))
local macro_rules | `(tactic| walk_at "side") => `(tactic| first | exact trivial | exact ⟨trivial, rfl⟩ | omega | (simp; done) | (simp; omega))
local macro_rules | `(tactic| walk_at "sd") => `(tactic| first | (refine br_t rfl ?_) | (refine br_f rfl ?_) | (refine And.intro (by walk_at "side") ?_) | (refine fun (_ : (_ : Bool) = _) => ?_))
local macro_rules | `(tactic| walk_at "contra") => `(tactic| (intro hq; first | (cases hq; done) | (simp at hq; done) | (simp at hq; omega)))
local macro_rules | `(tactic| walk_at "sd2") => `(tactic| first
  | (with_reducible (refine br_t (by with_unfolding_all rfl) ?_))
  | (with_reducible (refine br_f (by with_unfolding_all rfl) ?_))
  | (with_reducible (refine br_n (by walk_at "contra") ?_))
  | (with_reducible (refine br_y (by walk_at "contra") ?_))
  | ((fail_if_success (with_reducible (refine br_any ?_ ?_))); (with_reducible (refine And.intro ?_ ?_)); (focus (with_unfolding_all (walk_at "side")))))
open TL
/-! ### a script is written -/
abbrev sWrite : Stmt := top 20
abbrev nWrite : List Str := ["plan", "script", "words", "point", "part", "deed"]
abbrev pWrite : List Str := ["plan", "script"]
theorem scWrite : FnScope nWrite pWrite (defScope sWrite) := ⟨rfl, rfl, rfl, by decide +kernel, rfl, by decide +kernel, by decide +kernel⟩
def rowsW (p : PlanS) (sc : List Deed) : List Str := Txt.join " " (planW p) :: sc.map fun d => Txt.join " " (deedW d)
def textW (p : PlanS) (sc : List Deed) : Str := Txt.join "\n" (rowsW p sc)
theorem joinL_len (S : List Nat) : ∀ l : List (List Nat), (joinL S l).length ≤ (l.map (·.length)).sum + l.length * S.length
  | [] => by simp [joinL]
  | [a] => by simp [joinL]
  | a :: b :: r => by
    have := joinL_len S (b :: r)
    simp only [joinL, List.length_append, List.map_cons, List.sum_cons, List.length_cons] at this ⊢
    rw [Nat.succ_mul]
    omega
theorem join_len (a : Str) (ys : List Str) : (Txt.join a ys).length ≤ (ys.map (·.length)).sum + ys.length * a.length := by
  rw [len_tl, join_eq, tl_join]
  refine Nat.le_trans (joinL_len _ _) ?_
  rw [List.map_map, List.length_map, len_tl a]
  have : (List.length ∘ tl) = fun y : Str => y.length := by
    funext y
    exact (len_tl y).symm
  rw [this]
  exact Nat.le_refl _
theorem words_sum {ws : List Str} {n : Nat} (h : ∀ w ∈ ws, w.length ≤ n) : (ws.map (·.length)).sum ≤ ws.length * n := by
  induction ws with
  | nil => simp
  | cons a r ih =>
    rw [List.map_cons, List.sum_cons, List.length_cons, Nat.succ_mul]
    have := ih fun w hw => h w (List.mem_cons_of_mem _ hw)
    have := h a (List.mem_cons_self ..)
    omega
theorem planW_len {p : PlanS} (h : p.ok) : ∀ w ∈ planW p, w.length ≤ 8 := fun w hw => by
  obtain ⟨⟨b0, b1⟩, ⟨s0, s1⟩, h1, h2, h3⟩ := h
  simp only [planW, List.mem_cons, List.not_mem_nil, or_false] at hw
  rcases hw with rfl | rfl | rfl | rfl | rfl | rfl
  · decide
  · rw [dig_len (by omega) (by omega)]; decide
  · rw [dig_len (by omega) (by omega)]; decide
  · rcases h1 with h | h <;> rw [h] <;> decide
  · rcases h2 with h | h <;> rw [h] <;> decide
  · rcases h3 with h | h | h <;> rw [h] <;> decide
theorem deedW_len {n : Int} (hn : n ≤ 4) {d : Deed} (h : d.ok n) : (deedW d).length ≤ 3 ∧ ∀ w ∈ deedW d, w.length ≤ 8 := by
  have dl : ∀ b : Int, inB n b → (dig b).length ≤ 8 := fun b hb => by
    rw [dig_len hb.1 (by have := hb.2; omega)]
    decide
  cases d with
  | put b =>
    refine ⟨by show 2 ≤ 3; decide, fun w hw => ?_⟩
    simp only [deedW, List.mem_cons, List.not_mem_nil, or_false] at hw
    rcases hw with rfl | rfl
    · decide
    · exact dl b h
  | take b =>
    refine ⟨by show 2 ≤ 3; decide, fun w hw => ?_⟩
    simp only [deedW, List.mem_cons, List.not_mem_nil, or_false] at hw
    rcases hw with rfl | rfl
    · decide
    · exact dl b h
  | ask b =>
    refine ⟨by show 2 ≤ 3; decide, fun w hw => ?_⟩
    simp only [deedW, List.mem_cons, List.not_mem_nil, or_false] at hw
    rcases hw with rfl | rfl
    · decide
    · exact dl b h
  | amid b o =>
    refine ⟨by show 3 ≤ 3; decide, fun w hw => ?_⟩
    simp only [deedW, List.mem_cons, List.not_mem_nil, or_false] at hw
    rcases hw with rfl | rfl | rfl
    · decide
    · exact dl b h.1
    · exact dl o h.2
theorem row_small {ws : List Str} (h : ws.length ≤ 6 ∧ ∀ w ∈ ws, w.length ≤ 8) : (ws.map (·.length)).sum + ws.length * (Str.ofString " ").length ≤ 60 := by
  have h1 := words_sum h.2
  have h2 : (Str.ofString " ").length = 1 := by decide
  rw [h2]
  have := h.1
  omega
theorem rowsW_len {p : PlanS} {sc : List Deed} (hp : p.ok) (hsc : ∀ d ∈ sc, Deed.ok p.books d) : ∀ r ∈ rowsW p sc, r.length ≤ 60 := fun r hr => by
  rcases List.mem_cons.mp hr with rfl | hr
  · exact Nat.le_trans (join_len _ _) (row_small ⟨by show 6 ≤ 6; decide, planW_len hp⟩)
  · obtain ⟨d, hd, rfl⟩ := List.mem_map.mp hr
    have := deedW_len hp.1.2 (hsc d hd)
    exact Nat.le_trans (join_len _ _) (row_small ⟨by omega, this.2⟩)
theorem text_small {p : PlanS} {sc : List Deed} (hp : p.ok) (hsc : ∀ d ∈ sc, Deed.ok p.books d) (h8 : sc.length ≤ 8) : ((rowsW p sc).map (·.length)).sum + (rowsW p sc).length * (Str.ofString "\n").length ≤ 600 := by
  have h1 := words_sum (rowsW_len hp hsc)
  have h2 : (rowsW p sc).length = sc.length + 1 := by simp [rowsW]
  have h3 : (Str.ofString "\n").length = 1 := by decide
  rw [h2] at h1 ⊢
  rw [h3]
  omega
theorem seqStrs_l (M : Mem) (ws : List Str) : seqStrs M (.d (.lst (ws.map D.str))) = some ws := by
  show strsOf ((ws.map D.str).map DV.d) = some ws
  induction ws with
  | nil => rfl
  | cons a r ih =>
    show (match strsOf ((r.map D.str).map DV.d) with
      | some is => some (a :: is)
      | none => none) = _
    rw [ih]
section
variable {P : Program} {w : World} {K : PySem.W.Frag} {mg : Str → Option Value} {base : Heap}
def spWrite (TP : ClsT) : DSp0 := fun ds P _ => ∃ (p : PlanS) (sc : List Deed) (z : D), ds = [p.d TP, z] ∧ (z = .lst (sc.map Deed.d) ∨ z = .tup (sc.map Deed.d)) ∧ p.ok ∧ (∀ d ∈ sc, Deed.ok p.books d) ∧ sc.length ≤ 8 ∧ P (.str (textW p sc))
theorem allD_rows (r : Str) (l : List Str) : allD (DV.d (D.str r) :: (List.map DV.d (List.map D.str l) ++ [])) = some ((r :: l).map D.str) := by
  rw [List.append_nil]
  exact allD_map ((r :: l).map D.str)
theorem ok_write (N : Blt mg) (GK : Kcs K mg) (C : KPlan K) (C1 : Callee0 P w K mg base "look_at_script" 4 pLookScr (spLookScr (tPlan C.cPlan))) (F : FunG K mg "write" sWrite pWrite) : Callee0 P w K mg base "write" 5 pWrite (spWrite (tPlan C.cPlan)) := by
  have G_look_at_script := C1.up
  refine callee_dl0 F scWrite (fun ds P x h => ?_) (fun f cdv A outer s H E hr => ?_)
  · obtain ⟨p, sc, z, rfl, _⟩ := h
    rfl
  · have hu := hr.units
    refine ⟨_, (dss_cons (ds_expr (de_callN G_look_at_script (hr.mono (by decide)) (da_cons (de_var 0) (da_cons (de_var 1) da_nil))))
    (dss_cons (ds_set 2 scWrite.nd (de_lst (da_cons (de_callTy dc_str rfl N.str boot_str (da_cons (de_slo (tPlan C.cPlan) 0 C.plan (de_var 0)) da_nil)) (da_cons (de_callTy dc_str rfl N.str boot_str (da_cons (de_slo (tPlan C.cPlan) 1 C.plan (de_var 0)) da_nil)) (da_star (de_lc rfl scWrite.nd (di_keys (de_cst GK.c_POINTS GK.r_POINTS GK.POINTS)) (blkOk_by (own := [("point", 3)]) (N := nWrite) rfl) (fun _ _ _ _ _ => (dgw_name 3 (by decide) scWrite.nd)) (fun _ _ _ _ _ => dts_nil) (fun _ _ _ _ _ => (de_ix hu (de_slo (tPlan C.cPlan) 2 C.plan (de_var 0)) (de_var 3)))) da_nil)))))
    (dss_one (ds_ret (de_bm .str PySem.F.plainAttrs_str PySem.F.slot_str_join PySem.F.type_str_join dm_join de_str (da_cons (de_lst (da_cons (de_bm .str PySem.F.plainAttrs_str PySem.F.slot_str_join PySem.F.type_str_join dm_join de_str (da_cons (de_lst (da_cons de_str (da_star (de_var 2) da_nil))) da_nil)) (da_star (de_lc rfl scWrite.nd (di_seq (de_var 1)) (blkOk_by (own := [("deed", 5)]) (N := nWrite) rfl) (fun _ _ _ _ _ => (dgw_name 5 (by decide) scWrite.nd)) (fun _ _ _ _ _ => dts_nil) (fun _ _ _ _ _ => (de_bm .str PySem.F.plainAttrs_str PySem.F.slot_str_join PySem.F.type_str_join dm_join de_str (da_cons (de_lc rfl scWrite.nd (di_seq (de_var 5)) (blkOk_by (own := [("part", 4)]) (N := nWrite) rfl) (fun _ _ _ _ _ => (dgw_name 4 (by decide) scWrite.nd)) (fun _ _ _ _ _ => dts_nil) (fun _ _ _ _ _ => (de_callTy dc_str rfl N.str boot_str (da_cons (de_var 4) da_nil)))) da_nil)))) da_nil))) da_nil)))))), fun ds P x h => ?_⟩
    obtain ⟨p, sc, z, rfl, hz, hp, hsc, h8, hP⟩ := h
    refine ⟨p, sc, hsc, h8, by rcases hz with rfl | rfl <;> simp, ?_⟩
    have hp' := hp
    obtain ⟨pb, ps, ⟨ra, rc, rp⟩⟩ := p
    obtain ⟨⟨hb0, hb1⟩, ⟨hs0, hs1⟩, hro⟩ := hp
    dsimp only at hb0 hb1 hs0 hs1
    have big : ∀ n : Int, 0 ≤ n → n < 10 → n.natAbs < 2 ^ 1000 := fun n h0 h1 => Nat.lt_of_lt_of_le (show n.natAbs < 10 by omega) (by decide)
    refine ⟨rfl, big pb (by omega) (by omega), ?_⟩
    refine ⟨rfl, big ps (by omega) (by omega), ?_⟩
    refine ⟨fun i acc M' => M' = [] ∧ acc = (([ra, rc, rp] : List Str).take i).map strD, ⟨rfl, rfl⟩, ?_, ?_⟩
    · rintro i y acc M' hy ⟨rfl, rfl⟩
      refine ⟨trivial, ?_⟩
      match i, y, hy with
      | 0, _, rfl =>
        walk_at "run"
        rfl
      | 1, _, rfl =>
        walk_at "run"
        rfl
      | 2, _, rfl =>
        walk_at "run"
        rfl
    · rintro acc M' ⟨rfl, rfl⟩
      refine ⟨trivial, ?_⟩
      conv => whnf
      refine ⟨by simp, ?_⟩
      conv => whnf
      refine ⟨⟨trivial, rfl⟩, ?_⟩
      refine ⟨⟨trivial, rfl⟩, ?_⟩
      refine ⟨by show 6 ≤ 100000; decide, ?_⟩
      have rs := row_small (ws := planW ⟨pb, ps, ⟨ra, rc, rp⟩⟩) ⟨Nat.le_refl 6, planW_len hp'⟩
      refine ⟨Nat.le_trans rs (by decide), ?_⟩
      rcases hz with rfl | rfl
      all_goals
        refine ⟨fun i acc M' => M' = [] ∧ acc = ((sc.take i).map fun d => Txt.join " " (deedW d)).map strD, ⟨rfl, rfl⟩, ?_, ?_⟩
        · rintro i y acc M' hy ⟨rfl, rfl⟩
          refine ⟨rfl, ?_⟩
          rw [List.getElem?_map, List.getElem?_map] at hy
          cases e : sc[i]? with
          | none => rw [e] at hy; cases hy
          | some dd =>
            rw [e] at hy
            cases hy
            have hi := (List.getElem?_eq_some_iff.mp e).1
            have hdd : Deed.ok pb dd := hsc dd (List.mem_of_getElem? e)
            have hdl := deedW_len hb1 hdd
            have rs2 := row_small ⟨Nat.le_trans hdl.1 (by decide), hdl.2⟩
            refine br_t rfl ?_
            refine ⟨⟨trivial, rfl⟩, ?_⟩
            have hfin : ((sc.take i).map fun d => Txt.join " " (deedW d)).map strD ++ [strD (Txt.join " " (deedW dd))] = ((sc.take (i + 1)).map fun d => Txt.join " " (deedW d)).map strD := by
              rw [List.take_add_one, e, List.map_append, List.map_append]
              rfl
            have hacl : (((sc.take i).map fun d => Txt.join " " (deedW d)).map strD).length < 100000 := by simp; omega
            cases dd with
            | put b =>
              refine ⟨fun q acc2 M2 => M2 = [] ∧ acc2 = ((deedW (Deed.put b)).take q).map strD, ⟨rfl, rfl⟩, ?_, ?_⟩
              · rintro q y2 acc2 M2 hy2 ⟨rfl, rfl⟩
                refine ⟨rfl, ?_⟩
                match q, y2, hy2 with
                | 0, _, rfl =>
                  refine br_t rfl ?_
                  exact ⟨by show 0 < 100000; decide, rfl, rfl⟩
                | 1, _, rfl =>
                  refine br_t rfl ?_
                  exact ⟨big b (hdd.1) (by have hq : b < pb := (hdd.2); omega), by show 1 < 100000; decide, rfl, rfl⟩
              · rintro acc2 M2 ⟨rfl, rfl⟩
                refine ⟨rfl, ?_⟩
                refine ⟨Nat.le_trans rs2 (by decide), ?_⟩
                exact ⟨hacl, rfl, hfin⟩
            | take b =>
              refine ⟨fun q acc2 M2 => M2 = [] ∧ acc2 = ((deedW (Deed.take b)).take q).map strD, ⟨rfl, rfl⟩, ?_, ?_⟩
              · rintro q y2 acc2 M2 hy2 ⟨rfl, rfl⟩
                refine ⟨rfl, ?_⟩
                match q, y2, hy2 with
                | 0, _, rfl =>
                  refine br_t rfl ?_
                  exact ⟨by show 0 < 100000; decide, rfl, rfl⟩
                | 1, _, rfl =>
                  refine br_t rfl ?_
                  exact ⟨big b (hdd.1) (by have hq : b < pb := (hdd.2); omega), by show 1 < 100000; decide, rfl, rfl⟩
              · rintro acc2 M2 ⟨rfl, rfl⟩
                refine ⟨rfl, ?_⟩
                refine ⟨Nat.le_trans rs2 (by decide), ?_⟩
                exact ⟨hacl, rfl, hfin⟩
            | ask b =>
              refine ⟨fun q acc2 M2 => M2 = [] ∧ acc2 = ((deedW (Deed.ask b)).take q).map strD, ⟨rfl, rfl⟩, ?_, ?_⟩
              · rintro q y2 acc2 M2 hy2 ⟨rfl, rfl⟩
                refine ⟨rfl, ?_⟩
                match q, y2, hy2 with
                | 0, _, rfl =>
                  refine br_t rfl ?_
                  exact ⟨by show 0 < 100000; decide, rfl, rfl⟩
                | 1, _, rfl =>
                  refine br_t rfl ?_
                  exact ⟨big b (hdd.1) (by have hq : b < pb := (hdd.2); omega), by show 1 < 100000; decide, rfl, rfl⟩
              · rintro acc2 M2 ⟨rfl, rfl⟩
                refine ⟨rfl, ?_⟩
                refine ⟨Nat.le_trans rs2 (by decide), ?_⟩
                exact ⟨hacl, rfl, hfin⟩
            | amid b o =>
              refine ⟨fun q acc2 M2 => M2 = [] ∧ acc2 = ((deedW (Deed.amid b o)).take q).map strD, ⟨rfl, rfl⟩, ?_, ?_⟩
              · rintro q y2 acc2 M2 hy2 ⟨rfl, rfl⟩
                refine ⟨rfl, ?_⟩
                match q, y2, hy2 with
                | 0, _, rfl =>
                  refine br_t rfl ?_
                  exact ⟨by show 0 < 100000; decide, rfl, rfl⟩
                | 1, _, rfl =>
                  refine br_t rfl ?_
                  exact ⟨big b hdd.1.1 (by have hq : b < pb := hdd.1.2; omega), by show 1 < 100000; decide, rfl, rfl⟩
                | 2, _, rfl =>
                  refine br_t rfl ?_
                  exact ⟨big o hdd.2.1 (by have hq : o < pb := hdd.2.2; omega), by show 2 < 100000; decide, rfl, rfl⟩
              · rintro acc2 M2 ⟨rfl, rfl⟩
                refine ⟨rfl, ?_⟩
                refine ⟨Nat.le_trans rs2 (by decide), ?_⟩
                exact ⟨hacl, rfl, hfin⟩
        · rintro acc M' ⟨rfl, rfl⟩
          refine ⟨rfl, ?_⟩
          have el : ((sc.map Deed.d).map DV.d).length = sc.length := by simp
          rw [el, List.take_length]
          conv => whnf
          rw [allD_strs]
          conv => whnf
          rw [allD_rows]
          conv => whnf
          refine ⟨by simp; omega, ?_⟩
          conv => whnf
          rw [seqStrs_l]
          refine ⟨Nat.le_trans (text_small (p := ⟨pb, ps, ⟨ra, rc, rp⟩⟩) hp' hsc h8) (by decide), ?_⟩
          exact hP
end
end LW

namespace LW
open PySem PySem.Spec PyProof.Rows L2 DL
variable [Csts]
local macro_rules | `(tactic| walk_at "br") => `(tactic| first | (refine br_t rfl ?_) | (refine br_f rfl ?_))
local macro_rules | `(tactic| walk_at "a1") => `(tactic| first
  | (refine br_t rfl ?_)
  | (refine br_f rfl ?_)
  | (refine And.intro ⟨rfl, rfl⟩ ?_)
  | (refine And.intro rfl ?_)
  | (refine And.intro (by first | decide | omega | (simp; done) | (simp; omega)) ?_))
local macro_rules | `(tactic| walk_at "st") => `(tactic| first | (walk_at "a1") | ((conv => whnf); (walk_at "a1")))
local macro_rules | `(tactic| walk_at "run") => `(tactic| (repeat (walk_at "st")))
local macro_rules | `(tactic| walk_at "go") => `(tactic| (repeat (refine ⟨(by first | decide | omega | (simp; done) | (simp; omega) | trivial), ?_⟩)))
local macro_rules | `(tactic| walk_at "side") => `(tactic| first | exact trivial | exact ⟨trivial, rfl⟩ | omega | (simp; done) | (simp; omega))
local macro_rules | `(tactic| walk_at "sd") => `(tactic| first | (refine br_t rfl ?_) | (refine br_f rfl ?_) | (refine And.intro (by walk_at "side") ?_) | (refine fun (_ : (_ : Bool) = _) => ?_))
local macro_rules | `(tactic| walk_at "contra") => `(tactic| (intro hq; first | (cases hq; done) | (simp at hq; done) | (simp at hq; omega)))
local macro_rules | `(tactic| walk_at "sd2") => `(tactic| first
  | (with_reducible (refine br_t (by with_unfolding_all rfl) ?_))
  | (with_reducible (refine br_f (by with_unfolding_all rfl) ?_))
  | (with_reducible (refine br_n (by walk_at "contra") ?_))
  | (with_reducible (refine br_y (by walk_at "contra") ?_))
  | ((fail_if_success (with_reducible (refine br_any ?_ ?_))); (with_reducible (refine And.intro ?_ ?_)); (focus (with_unfolding_all (walk_at "side")))))
/-! ### the law's source of draws -/
def mixF (seed : Int) (ns : List Int) : Int := ns.foldl (fun s c => (s * 48271 + c % 2147483629 + 1) % 2147483647) seed
def hM (st idx : Int) (cs : List Int) : Mem := [.lst (cs.map fun c => .d (.int c)), .lst [.d (.int st), .m 0, .d (.int idx), .d (.int 14)]]
/-- the source stands in the first two cells; R: the rest -/
def IsH (M R : Mem) : Prop := ∃ st idx cs, (0 ≤ st ∧ st < 2147483647) ∧ 0 ≤ idx ∧ cs.length ≤ 63 ∧ M = hM st idx cs ++ R
abbrev sMix : Stmt := top 27
abbrev nMix : List Str := ["_law_script_here", "_law_seed", "_law_state", "_law_cell"]
abbrev pMix : List Str := ["_law_script_here", "_law_seed"]
theorem scMix : FnScope nMix pMix (defScope sMix) := ⟨rfl, rfl, rfl, by decide +kernel, rfl, by decide +kernel, by decide +kernel⟩
abbrev sNext : Stmt := top 28
abbrev nNext : List Str := ["_law_h", "_law_bound", "_law_cell"]
abbrev pNext : List Str := ["_law_h", "_law_bound"]
theorem scNext : FnScope nNext pNext (defScope sNext) := ⟨rfl, rfl, rfl, by decide +kernel, rfl, by decide +kernel, by decide +kernel⟩
section
variable {P : Program} {w : World} {K : PySem.W.Frag} {mg : Str → Option Value} {base : Heap}
def spMix : DSp := fun ds M P _ => ∃ (ns : List Int) (seed : Int), ds = [.d (.frl (ns.map D.int)), .d (.int seed)] ∧ (0 ≤ seed ∧ seed < 1000) ∧ ns.length ≤ 63 ∧ M = [] ∧ ∀ M', IsH M' [] → P (.m 1) M'
theorem ok_mix (N : Blt mg) (F : FunG K mg "_law_mix" sMix pMix) : Callee P w K mg base "_law_mix" 1 pMix spMix := by
  refine callee_dl F scMix (fun ds M P x h => ?_) (fun f cdv A outer s H E hr => ?_)
  · obtain ⟨ns, seed, rfl, _⟩ := h
    rfl
  · have hu := hr.units
    refine ⟨_, (dss_cons (ds_set 2 scMix.nd (de_var 1))
    (dss_cons (ds_for (di_seq (de_var 0)) (dg_name 3 scMix.nd) (dss_one (ds_set 2 scMix.nd (de_bin do_mod (de_callTy dc_int rfl N.int boot_int (da_cons (de_bin do_add (de_bin do_add (de_bin do_mul (de_var 2) de_int) (de_bin do_mod (de_callTy dc_int rfl N.int boot_int (da_cons (de_var 3) da_nil)) de_int)) de_int) da_nil)) de_int))))
    (dss_one (ds_ret (de_lstM (da_cons (de_var 2) (da_cons (de_callTy dc_listM rfl N.list boot_list (da_cons (de_var 0) da_nil)) (da_cons de_int (da_cons de_int da_nil))))))))), fun ds M P x h => ?_⟩
    obtain ⟨ns, seed, rfl, hs, hl, rfl, hP⟩ := h
    refine ⟨fun i ρ M => ∃ st v, (0 ≤ st ∧ st < 2147483647) ∧ M = [] ∧ ρ = [some (.d (.frl (ns.map D.int))), some (.d (.int seed)), some (.d (.int st)), v], ⟨seed, none, by omega, rfl, rfl⟩, ?_, ?_⟩
    · rintro i y ρ' M' hy ⟨st, v, hst, rfl, rfl⟩
      obtain ⟨c, rfl⟩ : ∃ c : Int, y = .d (.int c) := by
        have := List.mem_of_getElem? hy
        simp at this
        obtain ⟨c, _, h⟩ := this
        exact ⟨c, h.symm⟩
      refine ⟨rfl, ?_⟩
      refine ⟨.inr ⟨by decide, by decide⟩, ?_⟩
      refine ⟨by decide, ?_⟩
      refine ⟨by decide, ?_⟩
      exact ⟨_, _, ⟨Int.emod_nonneg _ (by decide), Int.emod_lt_of_pos _ (by decide)⟩, rfl, rfl⟩
    · rintro ρ' M' ⟨st, v, hst, rfl, rfl⟩
      refine ⟨rfl, ?_⟩
      refine ⟨by simp, ?_⟩
      exact hP _ ⟨st, 0, ns, hst, by decide, hl, by simp [hM]⟩

theorem allD_cells (cs : List Int) : allD (cs.map fun c => .d (.int c)) = some (cs.map D.int) := by
  have := allD_map (cs.map D.int)
  rwa [List.map_map] at this
theorem ix_cell (cs : List Int) (idx : Int) (h : 0 ≤ idx) : ∃ c : Int, (c ≠ 0 → 0 < cs.length) ∧ atI ((cs ++ [0]).map fun c => DV.d (D.int c)) (idx % (if ((cs.map fun c => DV.d (D.int c)).length : Int) > 1 then ((cs.map fun c => DV.d (D.int c)).length : Int) else 1)) = some (.d (.int c)) := by
  rw [List.length_map]
  have key : ∀ j : Int, 0 ≤ j → j < (cs.length : Int) + 1 → (cs.length = 0 → j = 0) → ∃ c : Int, (c ≠ 0 → 0 < cs.length) ∧ atI ((cs ++ [0]).map fun c => DV.d (D.int c)) j = some (.d (.int c)) := fun j h0 h1 h2 => by
    have hl : j.toNat < (cs ++ [0]).length := by simp; omega
    refine ⟨(cs ++ [0])[j.toNat], fun hne => ?_, ?_⟩
    · cases cs with
      | nil =>
        have : j.toNat = 0 := by rw [h2 rfl]; rfl
        simp at hne
      | cons a r => simp
    · have := atI_nat (xs := (cs ++ [0]).map fun c => DV.d (D.int c)) (j := j.toNat) (v := .d (.int (cs ++ [0])[j.toNat])) (by rw [List.getElem?_map, List.getElem?_eq_getElem hl]; rfl)
      rwa [Int.toNat_of_nonneg h0] at this
  by_cases q : (cs.length : Int) > 1
  · rw [if_pos q]
    exact key _ (Int.emod_nonneg _ (by omega)) (by have := Int.emod_lt_of_pos idx (show (0 : Int) < cs.length by omega); omega) (by omega)
  · rw [if_neg q, Int.emod_one]
    exact key 0 (by omega) (by omega) (fun _ => rfl)
def spNext : DSp := fun ds M P _ => ∃ (R : Mem) (b : Int), ds = [.m 1, .d (.int b)] ∧ IsH M R ∧ (0 < b ∧ b ≤ 1000) ∧ ∀ r M', 0 ≤ r → r < b → IsH M' R → P (.d (.int r)) M'
theorem ok_next (N : Blt mg) (F : FunG K mg "_law_next" sNext pNext) : Callee P w K mg base "_law_next" 1 pNext spNext := by
  refine callee_dl F scNext (fun ds M P x h => ?_) (fun f cdv A outer s H E hr => ?_)
  · obtain ⟨R, b, rfl, _⟩ := h
    rfl
  · have hu := hr.units
    refine ⟨_, (dss_cons (ds_set 2 scNext.nd (de_ix hu (de_bin do_add (de_ix hu (de_var 0) de_int) (de_lst (da_cons de_int da_nil))) (de_bin do_mod (de_callTy dc_int rfl N.int boot_int (da_cons (de_ix hu (de_var 0) de_int) da_nil)) (de_callB (dc_max2 rfl) rfl N.max boot_max (da_cons de_int (da_cons (de_callB dc_lenA rfl N.len boot_len (da_cons (de_ix hu (de_var 0) de_int) da_nil)) da_nil))))))
    (dss_cons (ds_if (dt_cmp do_ge (de_var 2) (de_bin do_pow de_int de_int)) (dss_cons (ds_asg (de_bin do_fdiv (de_var 2) (de_var 1)) (dg_sub (de_ix hu (de_var 0) de_int) (de_bin do_mod (de_callTy dc_int rfl N.int boot_int (da_cons (de_ix hu (de_var 0) de_int) da_nil)) (de_callB dc_lenA rfl N.len boot_len (da_cons (de_ix hu (de_var 0) de_int) da_nil)))))
    (dss_one (ds_ret (de_bin do_mod (de_callTy dc_int rfl N.int boot_int (da_cons (de_var 2) da_nil)) (de_var 1))))) dss_nil)
    (dss_cons (ds_asg (de_bin do_mod (de_callTy dc_int rfl N.int boot_int (da_cons (de_bin do_add (de_bin do_add (de_bin do_mul (de_ix hu (de_var 0) de_int) de_int) (de_bin do_mul (de_var 2) de_int)) de_int) da_nil)) de_int) (dg_sub (de_var 0) de_int))
    (dss_cons (ds_asg (de_bin do_add (de_ix hu (de_var 0) de_int) de_int) (dg_sub (de_var 0) de_int))
    (dss_one (ds_ret (de_bin do_mod (de_callTy dc_int rfl N.int boot_int (da_cons (de_bin do_fdiv (de_ix hu (de_var 0) de_int) de_int) da_nil)) (de_var 1)))))))), fun ds M P x h => ?_⟩
    obtain ⟨R, b, rfl, ⟨st, idx, cs, hst, hidx, hcs, rfl⟩, hb, hP⟩ := h
    walk_at "go"
    conv => whnf
    rw [allD_cells]
    walk_at "go"
    conv => whnf
    rw [show (List.map DV.d (List.map D.int cs ++ [D.int 0])) = (cs ++ [0]).map fun c => DV.d (D.int c) by simp]
    obtain ⟨c, hpos, hc⟩ := ix_cell cs idx hidx
    conv => whnf
    rw [hc]
    conv => whnf
    walk_at "go"
    refine ⟨fun hk => ?_, fun _ => ?_⟩
    · have hk : (10 : Int) ^ 18 ≤ c := of_decide_eq_true hk
      have hn : 0 < cs.length := hpos (by omega)
      refine ⟨⟨hb.1, by omega⟩, ?_⟩
      conv => whnf
      refine ⟨by simp; omega, ?_⟩
      obtain ⟨j, hj⟩ : ∃ j : Nat, ixN (cs.map fun c => DV.d (D.int c)).length (idx % ((cs.map fun c => DV.d (D.int c)).length : Int)) = some j := by
        rw [List.length_map]
        have h1 := Int.emod_nonneg idx (show (cs.length : Int) ≠ 0 by omega)
        have h2 := Int.emod_lt_of_pos idx (show (0 : Int) < cs.length by omega)
        exact ⟨(idx % (cs.length : Int)).toNat, by unfold ixN; rw [if_pos h1, if_pos h2]⟩
      conv => whnf
      rw [hj]
      walk_at "go"
      refine hP _ _ (Int.emod_nonneg _ (by omega)) (Int.emod_lt_of_pos _ hb.1) ⟨st, idx, cs.set j (c / b), hst, hidx, by rw [List.length_set]; exact hcs, ?_⟩
      simp [hM, List.map_set]
    · walk_at "go"
      refine ⟨.inr ⟨by decide, by decide⟩, ?_⟩
      refine ⟨.inr ⟨by decide, by decide⟩, ?_⟩
      walk_at "go"
      refine hP _ _ (Int.emod_nonneg _ (by omega)) (Int.emod_lt_of_pos _ hb.1) ⟨(st * 48271 + c * 69621 + 11) % 2147483647, idx + 1, cs, ⟨Int.emod_nonneg _ (by decide), Int.emod_lt_of_pos _ (by decide)⟩, by omega, hcs, rfl⟩
end
/-! ### the law's plan -/
abbrev sPoints : Stmt := top 29
abbrev nPoints : List Str := ["_law_found"]
abbrev pPoints : List Str := []
theorem scPoints : FnScope nPoints pPoints (defScope sPoints) := ⟨rfl, rfl, rfl, by decide +kernel, rfl, by decide +kernel, by decide +kernel⟩
abbrev sLPlan : Stmt := top 30
abbrev nLPlan : List Str := ["_law_h", "_law_books", "_law_shelves", "_law_rule", "_law_point", "_law_some"]
abbrev pLPlan : List Str := ["_law_h", "_law_books", "_law_shelves"]
theorem scLPlan : FnScope nLPlan pLPlan (defScope sLPlan) := ⟨rfl, rfl, rfl, by decide +kernel, rfl, by decide +kernel, by decide +kernel⟩
abbrev sLDeed : Stmt := top 31
abbrev nLDeed : List Str := ["_law_h", "_law_books", "_law_words", "_law_word", "_law_book"]
abbrev pLDeed : List Str := ["_law_h", "_law_books", "_law_words"]
theorem scLDeed : FnScope nLDeed pLDeed (defScope sLDeed) := ⟨rfl, rfl, rfl, by decide +kernel, rfl, by decide +kernel, by decide +kernel⟩
abbrev sLScript : Stmt := top 32
abbrev nLScript : List Str := ["_law_h", "_law_t", "_law_many", "_law_words", "_law_k"]
abbrev pLScript : List Str := ["_law_h", "_law_t", "_law_many"]
theorem scLScript : FnScope nLScript pLScript (defScope sLScript) := ⟨rfl, rfl, rfl, by decide +kernel, rfl, by decide +kernel, by decide +kernel⟩
abbrev sBuilt : Stmt := top 33
abbrev nBuilt : List Str := ["_law_t"]
abbrev pBuilt : List Str := ["_law_t"]
theorem scBuilt : FnScope nBuilt pBuilt (defScope sBuilt) := ⟨rfl, rfl, rfl, by decide +kernel, rfl, by decide +kernel, by decide +kernel⟩
def lptsD : D := .dic [(.inr "amid", .lst [.str "pushes", .str "refused"]), (.inr "closes", .lst [.str "along", .str "stays"]), (.inr "puts", .lst [.str "first", .str "next", .str "roomiest"])]
section
variable {P : Program} {w : World} {K : PySem.W.Frag} {mg : Str → Option Value} {base : Heap}
def spPoints : DSp0 := fun ds P _ => ds = [] ∧ P lptsD
theorem ok_points (N : Blt mg) (F : FunG K mg "_law_points" sPoints pPoints) : Callee0 P w K mg base "_law_points" 1 pPoints spPoints := by
  refine callee_dl0 F scPoints (fun ds P x h => ?_) (fun f cdv A outer s H E hr => ?_)
  · obtain ⟨rfl, _⟩ := h
    rfl
  · have hu := hr.units
    refine ⟨_, (dss_cons (ds_set 0 scPoints.nd (de_dispM (dpr_cons de_str (de_lst (da_cons de_str (da_cons de_str da_nil))) (dpr_cons de_str (de_lst (da_cons de_str (da_cons de_str da_nil))) dpr_nil))))
    (dss_cons (ds_dput hu (de_var 0) de_str (de_lst (da_cons de_str (da_cons de_str (da_cons de_str da_nil)))))
    (dss_frz 0 (dss_one (ds_ret (de_var 0)))))), fun ds P x h => ?_⟩
    obtain ⟨rfl, hP⟩ := h
    conv => whnf
    walk_at "run"
    exact hP
/-- the plan in the law: a list that changes -/
def tM (p : PlanS) : MO := .lst [.d (.int p.books), .d (.int p.shelves), .d p.rule.d]
def spLPlan : DSp := fun ds M P _ => ∃ nb : Int, ds = [.m 1, .d (.int nb), .d (.int 3)] ∧ (1 ≤ nb ∧ nb ≤ 4) ∧ IsH M [] ∧ ∀ p M', p.ok → p.books ≤ nb → IsH M' [.gone, tM p] → P (.m 3) M'
theorem ok_lplan (N : Blt mg) (C1 : Callee0 P w K mg base "_law_points" 1 pPoints spPoints) (G_law_next : Callee P w K mg base "_law_next" 1 pNext spNext) (F : FunG K mg "_law_plan" sLPlan pLPlan) : Callee P w K mg base "_law_plan" 2 pLPlan spLPlan := by
  have G_law_points := C1.up
  refine callee_dl F scLPlan (fun ds M P x h => ?_) (fun f cdv A outer s H E hr => ?_)
  · obtain ⟨nb, rfl, _⟩ := h
    rfl
  · have hu := hr.units
    refine ⟨_, (dss_cons (ds_set 3 scLPlan.nd de_dnewM)
    (dss_cons (ds_for (di_keys (de_call0 G_law_points (hr.mono (by decide)))) (dg_name 4 scLPlan.nd) (dss_cons (ds_set 5 scLPlan.nd (de_ix hu (de_call0 G_law_points (hr.mono (by decide))) (de_var 4)))
    (dss_one (ds_dput hu (de_var 3) (de_var 4) (de_ix hu (de_var 5) (de_callN G_law_next (hr.mono (by decide)) (da_cons (de_var 0) (da_cons (de_callB dc_lenA rfl N.len boot_len (da_cons (de_var 5) da_nil)) da_nil))))))))
    (dss_frz 3 (dss_one (ds_ret (de_lstM (da_cons (de_bin do_add de_int (de_callN G_law_next (hr.mono (by decide)) (da_cons (de_var 0) (da_cons (de_var 1) da_nil)))) (da_cons (de_bin do_add de_int (de_callN G_law_next (hr.mono (by decide)) (da_cons (de_var 0) (da_cons (de_var 2) da_nil)))) (da_cons (de_var 3) da_nil))))))))), fun ds M P x h => ?_⟩
    obtain ⟨nb, rfl, hnb, ⟨st, idx, cs, a1, a2, a3, rfl⟩, hP⟩ := h
    refine ⟨rfl, ?_⟩
    refine ⟨fun i ρ M' => ∃ (R : Rule) (v4 v5 : Option DV), R.ok ∧ IsH M' [.dic (([(.inr "amid", .str R.amid), (.inr "closes", .str R.closes), (.inr "puts", .str R.puts)] : List (Key × D)).take i)] ∧ ρ = [some (.m 1), some (.d (.int nb)), some (.d (.int 3)), some (.m 2), v4, v5],
      ⟨⟨"pushes", "along", "first"⟩, _, _, ⟨.inl rfl, .inl rfl, .inl rfl⟩, ⟨st, idx, cs, a1, a2, a3, by simp⟩, rfl⟩, ?_, ?_⟩
    · rintro i y ρ M' hy ⟨⟨ra, rc, rp⟩, v4, v5, ⟨h1, h2, h3⟩, hH, rfl⟩
      refine ⟨trivial, ?_⟩
      match i, y, hy with
      | 0, _, rfl =>
        refine ⟨rfl, ?_⟩
        refine ⟨_, _, rfl, hH, ⟨by decide, by decide⟩, fun r M2 r0 r1 hH2 => ?_⟩
        obtain ⟨st, idx, cs, a1, a2, a3, rfl⟩ := hH2
        have r1 : r < 2 := r1
        obtain rfl | rfl : r = 0 ∨ r = 1 := by omega
        · walk_at "run"
          exact ⟨⟨"pushes", rc, rp⟩, _, _, ⟨.inl rfl, h2, h3⟩, ⟨st, idx, cs, a1, a2, a3, rfl⟩, rfl⟩
        · walk_at "run"
          exact ⟨⟨"refused", rc, rp⟩, _, _, ⟨.inr rfl, h2, h3⟩, ⟨st, idx, cs, a1, a2, a3, rfl⟩, rfl⟩
      | 1, _, rfl =>
        refine ⟨rfl, ?_⟩
        refine ⟨_, _, rfl, hH, ⟨by decide, by decide⟩, fun r M2 r0 r1 hH2 => ?_⟩
        obtain ⟨st, idx, cs, a1, a2, a3, rfl⟩ := hH2
        have r1 : r < 2 := r1
        obtain rfl | rfl : r = 0 ∨ r = 1 := by omega
        · walk_at "run"
          exact ⟨⟨ra, "along", rp⟩, _, _, ⟨h1, .inl rfl, h3⟩, ⟨st, idx, cs, a1, a2, a3, rfl⟩, rfl⟩
        · walk_at "run"
          exact ⟨⟨ra, "stays", rp⟩, _, _, ⟨h1, .inr rfl, h3⟩, ⟨st, idx, cs, a1, a2, a3, rfl⟩, rfl⟩
      | 2, _, rfl =>
        refine ⟨rfl, ?_⟩
        refine ⟨_, _, rfl, hH, ⟨by decide, by decide⟩, fun r M2 r0 r1 hH2 => ?_⟩
        obtain ⟨st, idx, cs, a1, a2, a3, rfl⟩ := hH2
        have r1 : r < 3 := r1
        obtain rfl | rfl | rfl : r = 0 ∨ r = 1 ∨ r = 2 := by omega
        · walk_at "run"
          exact ⟨⟨ra, rc, "first"⟩, _, _, ⟨h1, h2, .inl rfl⟩, ⟨st, idx, cs, a1, a2, a3, rfl⟩, rfl⟩
        · walk_at "run"
          exact ⟨⟨ra, rc, "next"⟩, _, _, ⟨h1, h2, .inr (.inl rfl)⟩, ⟨st, idx, cs, a1, a2, a3, rfl⟩, rfl⟩
        · walk_at "run"
          exact ⟨⟨ra, rc, "roomiest"⟩, _, _, ⟨h1, h2, .inr (.inr rfl)⟩, ⟨st, idx, cs, a1, a2, a3, rfl⟩, rfl⟩
    · rintro ρ M' ⟨R, v4, v5, hR, ⟨st, idx, cs, a1, a2, a3, rfl⟩, rfl⟩
      refine ⟨trivial, ?_⟩
      refine ⟨[.gone], _, rfl, ⟨st, idx, cs, a1, a2, a3, rfl⟩, ⟨by omega, by omega⟩, fun r M2 r0 r1 hH2 => ?_⟩
      refine ⟨[.gone], _, rfl, hH2, ⟨by decide, by decide⟩, fun q M3 q0 q1 hH3 => ?_⟩
      obtain ⟨st, idx, cs, a1, a2, a3, rfl⟩ := hH3
      conv => whnf
      refine ⟨by simp, ?_⟩
      refine hP ⟨1 + r, 1 + q, R⟩ _ ⟨⟨by show 1 ≤ 1 + r; omega, by show 1 + r ≤ 4; omega⟩, ⟨by show 1 ≤ 1 + q; omega, by show 1 + q ≤ 3; omega⟩, hR⟩ (by show 1 + r ≤ nb; omega) ⟨st, idx, cs, a1, a2, a3, ?_⟩
      simp [hM, tM, Rule.d]
      try rfl
/-- the words of a law's script -/
def wordsOk (ws : List Str) : Prop := ws = (["put", "put", "put", "put", "take", "amid", "amid", "ask"] : List Str) ∨ ws = (["put", "put", "take"] : List Str)
def spLDeed : DSp := fun ds M P _ => ∃ (n : Int) (ws : List Str) (R : Mem), ds = [.m 1, .d (.int n), .d (.lst (ws.map D.str))] ∧ wordsOk ws ∧ (1 ≤ n ∧ n ≤ 4) ∧ IsH M R ∧ ∀ d M', Deed.ok n d → IsH M' R → P (.d (Deed.d d)) M'
theorem ok_ldeed (N : Blt mg) (G_law_next : Callee P w K mg base "_law_next" 1 pNext spNext) (F : FunG K mg "_law_deed" sLDeed pLDeed) : Callee P w K mg base "_law_deed" 2 pLDeed spLDeed := by
  refine callee_dl F scLDeed (fun ds M P x h => ?_) (fun f cdv A outer s H E hr => ?_)
  · obtain ⟨n, ws, R, rfl, _⟩ := h
    rfl
  · have hu := hr.units
    refine ⟨_, (dss_cons (ds_set 3 scLDeed.nd (de_ix hu (de_var 2) (de_callN G_law_next (hr.mono (by decide)) (da_cons (de_var 0) (da_cons (de_callB dc_lenA rfl N.len boot_len (da_cons (de_var 2) da_nil)) da_nil)))))
    (dss_cons (ds_set 4 scLDeed.nd (de_callN G_law_next (hr.mono (by decide)) (da_cons (de_var 0) (da_cons (de_var 1) da_nil))))
    (dss_one (ds_ret (de_if (dt_cmp (do_eq hu) (de_var 3) de_str) (de_tup (da_cons (de_var 3) (da_cons (de_var 4) (da_cons (de_callN G_law_next (hr.mono (by decide)) (da_cons (de_var 0) (da_cons (de_var 1) da_nil))) da_nil)))) (de_tup (da_cons (de_var 3) (da_cons (de_var 4) da_nil)))))))), fun ds M P x h => ?_⟩
    obtain ⟨n, ws, R, rfl, hw, hn, hH, hP⟩ := h
    have hwl : 0 < ws.length ∧ ws.length ≤ 1000 := by rcases hw with rfl | rfl <;> decide
    have hlen : ((ws.map D.str).map DV.d).length = ws.length := by rw [List.length_map, List.length_map]
    conv => whnf
    rw [hlen]
    refine ⟨R, _, rfl, hH, ⟨by omega, by omega⟩, fun r M2 r0 r1 hH2 => ?_⟩
    have hat : ∃ wd : Str, (wd = "put" ∨ wd = "take" ∨ wd = "amid" ∨ wd = "ask") ∧ atI ((ws.map D.str).map DV.d) r = some (.d (.str wd)) := by
      have hl : r.toNat < ws.length := by omega
      refine ⟨ws[r.toNat], ?_, ?_⟩
      · have hm : ∀ x ∈ ws, x = "put" ∨ x = "take" ∨ x = "amid" ∨ x = "ask" := by rcases hw with rfl | rfl <;> decide
        exact hm _ (List.getElem_mem hl)
      · have := atI_nat (xs := (ws.map D.str).map DV.d) (j := r.toNat) (v := .d (.str ws[r.toNat])) (by rw [List.getElem?_map, List.getElem?_map, List.getElem?_eq_getElem hl]; rfl)
        rwa [Int.toNat_of_nonneg r0] at this
    obtain ⟨wd, hwd, hat⟩ := hat
    conv => whnf
    rw [hat]
    refine ⟨R, _, rfl, hH2, ⟨by omega, by omega⟩, fun b M3 b0 b1 hH3 => ?_⟩
    rcases hwd with rfl | rfl | rfl | rfl
    · refine br_f rfl ?_
      refine ⟨by simp, ?_⟩
      exact hP (.put b) M3 ⟨b0, b1⟩ hH3
    · refine br_f rfl ?_
      refine ⟨by simp, ?_⟩
      exact hP (.take b) M3 ⟨b0, b1⟩ hH3
    · refine br_t rfl ?_
      refine ⟨R, _, rfl, hH3, ⟨by omega, by omega⟩, fun o M4 o0 o1 hH4 => ?_⟩
      refine ⟨by simp, ?_⟩
      exact hP (.amid b o) M4 ⟨⟨b0, b1⟩, ⟨o0, o1⟩⟩ hH4
    · refine br_f rfl ?_
      refine ⟨by simp, ?_⟩
      exact hP (.ask b) M3 ⟨b0, b1⟩ hH3
def tD (p : PlanS) : D := .lst [.int p.books, .int p.shelves, p.rule.d]
def spLScript : DSp := fun ds M P _ => ∃ (p : PlanS) (R : Mem), ds = [.m 1, .d (tD p), .d (.int 8)] ∧ p.ok ∧ IsH M R ∧ ∀ (sc : List Deed) M', (∀ d ∈ sc, Deed.ok p.books d) → sc.length ≤ 8 → IsH M' R → P (.d (.tup (sc.map Deed.d))) M'
theorem ok_lscript (N : Blt mg) (G_law_next : Callee P w K mg base "_law_next" 1 pNext spNext) (G_law_deed : Callee P w K mg base "_law_deed" 2 pLDeed spLDeed) (F : FunG K mg "_law_script" sLScript pLScript) : Callee P w K mg base "_law_script" 3 pLScript spLScript := by
  refine callee_dl F scLScript (fun ds M P x h => ?_) (fun f cdv A outer s H E hr => ?_)
  · obtain ⟨p, R, rfl, _⟩ := h
    rfl
  · have hu := hr.units
    refine ⟨_, (dss_cons (ds_set 3 scLScript.nd (de_lst (da_cons de_str (da_cons de_str (da_cons de_str (da_cons de_str (da_cons de_str (da_cons de_str (da_cons de_str (da_cons de_str da_nil))))))))))
    (dss_cons (ds_if (dt_cmp (do_eq hu) (de_callN G_law_next (hr.mono (by decide)) (da_cons (de_var 0) (da_cons de_int da_nil))) de_int) (dss_one (ds_set 3 scLScript.nd (de_lst (da_cons de_str (da_cons de_str (da_cons de_str da_nil)))))) dss_nil)
    (dss_one (ds_ret (de_callTy dc_tuple rfl N.tuple boot_tuple (da_cons (de_lc rfl scLScript.nd (di_range1 rfl N.range (da_cons (de_callN G_law_next (hr.mono (by decide)) (da_cons (de_var 0) (da_cons (de_bin do_add (de_var 2) de_int) da_nil))) da_nil)) (blkOk_by (own := [("_law_k", 4)]) (N := nLScript) rfl) (fun _ _ _ _ _ => (dgw_name 4 (by decide) scLScript.nd)) (fun _ _ _ _ _ => dts_nil) (fun _ _ _ _ _ => (de_callN G_law_deed (hr.mono (by decide)) (da_cons (de_var 0) (da_cons (de_ix hu (de_var 1) de_int) (da_cons (de_var 3) da_nil)))))) da_nil)))))), fun ds M P x h => ?_⟩
    obtain ⟨p, R, rfl, hp, hH, hP⟩ := h
    conv => whnf
    walk_at "a1"
    refine ⟨R, _, rfl, hH, ⟨by decide, by decide⟩, fun r M2 r0 r1 hH2 => ?_⟩
    refine ⟨fun hc => ?_, fun hc => ?_⟩
    · refine ⟨by decide, ?_⟩
      refine ⟨R, _, rfl, hH2, ⟨by decide, by decide⟩, fun q M3 q0 q1 hH3 => ?_⟩
      have q1 : q < 9 := q1
      have hqn : ((q.toNat : Nat) : Int) = q := by omega
      refine ⟨⟨by omega, by omega⟩, ?_⟩
      refine ⟨fun j acc M' => ∃ sc : List Deed, acc = sc.map (fun d => DV.d (Deed.d d)) ∧ sc.length = j ∧ (∀ d ∈ sc, Deed.ok p.books d) ∧ IsH M' R, ⟨[], rfl, rfl, by simp, hH3⟩, ?_, ?_⟩
      · rintro j y acc M' hy ⟨sc, rfl, hj, hsc, hH4⟩
        obtain ⟨hj2, rfl⟩ := rangeL_get.mp hy
        refine ⟨trivial, ?_⟩
        refine br_t rfl ?_
        refine ⟨p.books, (["put", "put", "take"] : List Str), R, rfl, (.inr rfl), ⟨hp.1.1, hp.1.2⟩, hH4, fun d M5 hd hH5 => ?_⟩
        refine ⟨by simp [hj]; omega, sc ++ [d], by simp, by simp [hj], fun e he => ?_, hH5⟩
        rcases List.mem_append.mp he with h | h
        · exact hsc e h
        · rw [List.mem_singleton.mp h]
          exact hd
      · rintro acc M' ⟨sc, rfl, hj, hsc, hH4⟩
        refine ⟨trivial, ?_⟩
        rw [rangeL_len] at hj
        conv => whnf
        rw [allD_f]
        conv => whnf
        rw [allD_map]
        exact hP sc M' hsc (by omega) hH4
    · skip
      refine ⟨R, _, rfl, hH2, ⟨by decide, by decide⟩, fun q M3 q0 q1 hH3 => ?_⟩
      have q1 : q < 9 := q1
      have hqn : ((q.toNat : Nat) : Int) = q := by omega
      refine ⟨⟨by omega, by omega⟩, ?_⟩
      refine ⟨fun j acc M' => ∃ sc : List Deed, acc = sc.map (fun d => DV.d (Deed.d d)) ∧ sc.length = j ∧ (∀ d ∈ sc, Deed.ok p.books d) ∧ IsH M' R, ⟨[], rfl, rfl, by simp, hH3⟩, ?_, ?_⟩
      · rintro j y acc M' hy ⟨sc, rfl, hj, hsc, hH4⟩
        obtain ⟨hj2, rfl⟩ := rangeL_get.mp hy
        refine ⟨trivial, ?_⟩
        refine br_t rfl ?_
        refine ⟨p.books, (["put", "put", "put", "put", "take", "amid", "amid", "ask"] : List Str), R, rfl, (.inl rfl), ⟨hp.1.1, hp.1.2⟩, hH4, fun d M5 hd hH5 => ?_⟩
        refine ⟨by simp [hj]; omega, sc ++ [d], by simp, by simp [hj], fun e he => ?_, hH5⟩
        rcases List.mem_append.mp he with h | h
        · exact hsc e h
        · rw [List.mem_singleton.mp h]
          exact hd
      · rintro acc M' ⟨sc, rfl, hj, hsc, hH4⟩
        refine ⟨trivial, ?_⟩
        rw [rangeL_len] at hj
        conv => whnf
        rw [allD_f]
        conv => whnf
        rw [allD_map]
        exact hP sc M' hsc (by omega) hH4
def spBuilt (TP : ClsT) : DSp0 := fun ds P _ => ∃ p : PlanS, ds = [tD p] ∧ p.ok ∧ P (p.d TP)
theorem ok_built (N : Blt mg) (C : KPlan K) (G_Plan : CalleeSl P w K mg base (tPlan C.cPlan) "Plan" 3 pPlanInit spPlanI) (F : FunG K mg "_law_built" sBuilt pBuilt) : Callee0 P w K mg base "_law_built" 5 pBuilt (spBuilt (tPlan C.cPlan)) := by
  refine callee_dl0 F scBuilt (fun ds P x h => ?_) (fun f cdv A outer s H E hr => ?_)
  · obtain ⟨p, rfl, _⟩ := h
    rfl
  · have hu := hr.units
    refine ⟨_, (dss_one (ds_ret (de_makeSl G_Plan (hr.mono (by decide)) (da_cons (de_ix hu (de_var 0) de_int) (da_cons (de_ix hu (de_var 0) de_int) (da_cons (de_ix hu (de_var 0) de_int) da_nil)))))), fun ds P x h => ?_⟩
    obtain ⟨p, rfl, hp, hP⟩ := h
    exact ⟨p, hp, rfl, hP⟩
end
end LW

namespace LW
open PySem PySem.Spec PyProof.Rows L2 DL
variable [Csts]
local macro_rules | `(tactic| walk_at "br") => `(tactic| first | (refine br_t rfl ?_) | (refine br_f rfl ?_))
local macro_rules | `(tactic| walk_at "a1") => `(tactic| first
  | (refine br_t rfl ?_)
  | (refine br_f rfl ?_)
  | (refine And.intro ⟨rfl, rfl⟩ ?_)
  | (refine And.intro rfl ?_)
  | (refine And.intro (by first | decide | omega | (simp; done) | (simp; omega)) ?_))
local macro_rules | `(tactic| walk_at "st") => `(tactic| first | (walk_at "a1") | ((conv => whnf); (walk_at "a1")))
local macro_rules | `(tactic| walk_at "run") => `(tactic| (repeat (walk_at "st")))
local macro_rules | `(tactic| walk_at "go") => `(tactic| (repeat (refine ⟨(by first | decide | omega | (simp; done) | (simp; omega) | trivial), ?_⟩)))
local macro_rules | `(tactic| walk_at "side") => `(tactic| first | exact trivial | exact ⟨trivial, rfl⟩ | omega | (simp; done) | (simp; omega))
local macro_rules | `(tactic| walk_at "sd") => `(tactic| first | (refine br_t rfl ?_) | (refine br_f rfl ?_) | (refine And.intro (by walk_at "side") ?_) | (refine fun (_ : (_ : Bool) = _) => ?_))
local macro_rules | `(tactic| walk_at "contra") => `(tactic| (intro hq; first | (cases hq; done) | (simp at hq; done) | (simp at hq; omega)))
local macro_rules | `(tactic| walk_at "sd2") => `(tactic| first
  | (with_reducible (refine br_t (by with_unfolding_all rfl) ?_))
  | (with_reducible (refine br_f (by with_unfolding_all rfl) ?_))
  | (with_reducible (refine br_n (by walk_at "contra") ?_))
  | (with_reducible (refine br_y (by walk_at "contra") ?_))
  | ((fail_if_success (with_reducible (refine br_any ?_ ?_))); (with_reducible (refine And.intro ?_ ?_)); (focus (with_unfolding_all (walk_at "side")))))
open TL
/-! ### == of numbers' lists -/
theorem toPyL_map {α : Type} (f : α → D) : ∀ l : List α, toPyL (l.map f) = l.map fun x => toPy (f x)
  | [] => rfl
  | x :: r => by
    show toPy (f x) :: toPyL (r.map f) = _
    rw [toPyL_map f r]
    rfl
theorem isPyL_map {α : Type} (f : α → D) : ∀ l : List α, (∀ x ∈ l, isPy (f x) = true) → isPyL (l.map f) = true
  | [], _ => rfl
  | x :: r, h => by
    show (isPy (f x) && isPyL (r.map f)) = true
    rw [h x (List.mem_cons_self ..), isPyL_map f r fun y hy => h y (List.mem_cons_of_mem _ hy)]
    rfl
theorem eqvAll_map {α : Type} [DecidableEq α] (f : α → PyData) (hf : ∀ x y, PyData.eqv (f x) (f y) = decide (x = y)) : ∀ l m : List α, PyData.eqvAll (l.map f) (m.map f) = decide (l = m)
  | [], [] => by rw [PyData.eqvAll.eq_def]; rfl
  | [], y :: m => by rw [PyData.eqvAll.eq_def]; rfl
  | x :: l, [] => by rw [PyData.eqvAll.eq_def]; rfl
  | x :: l, y :: m => by
    show PyData.eqvAll (f x :: l.map f) (f y :: m.map f) = _
    rw [PyData.eqvAll.eq_def]
    show (PyData.eqv (f x) (f y) && PyData.eqvAll (l.map f) (m.map f)) = _
    rw [hf, eqvAll_map f hf l m]
    simp
theorem canLay_map {α : Type} (f : α → PyData) : ∀ l : List α, (∀ x ∈ l, PyData.canLay0 (f x) = true) → PyData.canLayAll0 (l.map f) = true
  | [], _ => rfl
  | x :: r, h => by
    show (PyData.canLay0 (f x) && PyData.canLayAll0 (r.map f)) = true
    rw [h x (List.mem_cons_self ..), canLay_map f r fun y hy => h y (List.mem_cons_of_mem _ hy)]
    rfl
theorem depth_map {α : Type} (f : α → PyData) (n : Nat) : ∀ l : List α, (∀ x ∈ l, PyData.depth (f x) ≤ n) → PyData.depthAll (l.map f) ≤ n
  | [], _ => Nat.zero_le _
  | x :: r, h => by
    show max (PyData.depth (f x)) (PyData.depthAll (r.map f)) ≤ n
    exact Nat.max_le.mpr ⟨h x (List.mem_cons_self ..), depth_map f n r fun y hy => h y (List.mem_cons_of_mem _ hy)⟩
/-- a list (or tuple) of things of one kind -/
theorem shaped_lst {α : Type} (f : α → D) (n : Nat) (l : List α) (h1 : ∀ x ∈ l, isPy (f x) = true) (h2 : ∀ x ∈ l, PyData.canLay0 (toPy (f x)) = true) (h3 : ∀ x ∈ l, PyData.depth (toPy (f x)) ≤ n) (hn : n < 64) : shapedD (.lst (l.map f)) = true ∧ shapedD (.tup (l.map f)) = true := by
  have a : isPyL (l.map f) = true := isPyL_map f l h1
  have b : PyData.canLayAll0 (toPyL (l.map f)) = true := by
    rw [toPyL_map]
    exact canLay_map _ l h2
  have c : PyData.depthAll (toPyL (l.map f)) ≤ n := by
    rw [toPyL_map]
    exact depth_map _ n l h3
  constructor
  · show (isPyL (l.map f) && (PyData.canLayAll0 (toPyL (l.map f)) && decide (PyData.depthAll (toPyL (l.map f)) + 1 ≤ 64))) = true
    rw [a, b, decide_eq_true (by omega)]
    rfl
  · show (isPyL (l.map f) && (PyData.canLayAll0 (toPyL (l.map f)) && decide (PyData.depthAll (toPyL (l.map f)) + 1 ≤ 64))) = true
    rw [a, b, decide_eq_true (by omega)]
    rfl
theorem shaped_ints (l : List Int) : shapedD (.lst (l.map D.int)) = true ∧ shapedD (.tup (l.map D.int)) = true := shaped_lst D.int 0 l (fun _ _ => rfl) (fun _ _ => rfl) (fun _ _ => Nat.le_refl _) (by omega)
theorem eqv_int (x y : Int) : PyData.eqv (toPy (.int x)) (toPy (.int y)) = decide (x = y) := by
  show PyData.eqv (.int x) (.int y) = _
  rw [PyData.eqv.eq_def]
  show (x == y) = _
  by_cases h : x = y
  · subst h
    simp
  · simp [h]
theorem eqD_ints (l m : List Int) : eqD (.lst (l.map D.int)) (.lst (m.map D.int)) = decide (l = m) := by
  show PyData.eqv (.list (toPyL (l.map D.int))) (.list (toPyL (m.map D.int))) = _
  rw [PyData.eqv.eq_def]
  show PyData.eqvAll (toPyL (l.map D.int)) (toPyL (m.map D.int)) = _
  rw [toPyL_map, toPyL_map]
  exact eqvAll_map _ eqv_int l m
theorem eqD_intsT (l m : List Int) : eqD (.tup (l.map D.int)) (.tup (m.map D.int)) = decide (l = m) := by
  show PyData.eqv (.tuple (toPyL (l.map D.int))) (.tuple (toPyL (m.map D.int))) = _
  rw [PyData.eqv.eq_def]
  show PyData.eqvAll (toPyL (l.map D.int)) (toPyL (m.map D.int)) = _
  rw [toPyL_map, toPyL_map]
  exact eqvAll_map _ eqv_int l m
/-- rows as a tuple of tuples -/
def rowsT (rows : List (List Int)) : D := .tup (rows.map fun r => .tup (r.map D.int))
theorem shaped_rowsT (rows : List (List Int)) : shapedD (rowsT rows) = true := (shaped_lst (fun r : List Int => D.tup (r.map D.int)) 1 rows (fun r _ => isPyL_map D.int r fun _ _ => rfl) (fun r _ => by
    show PyData.canLayAll0 (toPyL (r.map D.int)) = true
    rw [toPyL_map]
    exact canLay_map _ r fun _ _ => rfl) (fun r _ => by
    show PyData.depthAll (toPyL (r.map D.int)) + 1 ≤ 1
    have := depth_map (fun x : Int => toPy (.int x)) 0 r fun _ _ => Nat.le_refl _
    rw [toPyL_map]
    omega) (by omega)).2
theorem eqD_rowsT (l m : List (List Int)) : eqD (rowsT l) (rowsT m) = decide (l = m) := by
  show PyData.eqv (.tuple (toPyL (l.map fun r => D.tup (r.map D.int)))) (.tuple (toPyL (m.map fun r => D.tup (r.map D.int)))) = _
  rw [PyData.eqv.eq_def]
  show PyData.eqvAll (toPyL (l.map fun r => D.tup (r.map D.int))) (toPyL (m.map fun r => D.tup (r.map D.int))) = _
  rw [toPyL_map, toPyL_map]
  exact eqvAll_map _ (fun x y => eqD_intsT x y) l m
theorem eqD_nil (l : List Int) : eqD (.lst (l.map D.int)) (.lst []) = decide (l = []) := eqD_ints l []
/-! ### texts: what is read of what was written -/
theorem sp_tl : tl (Str.ofString " ") = [32] := by decide +kernel
theorem nl_tl : tl (Str.ofString "\n") = [10] := by decide +kernel
theorem sp_kind : (Str.ofString " ").cps.all (· < 256) = true := by decide +kernel
theorem nl_kind : (Str.ofString "\n").cps.all (· < 256) = true := by decide +kernel
theorem empty_tl : tl (Str.ofString "") = [] := by decide +kernel
theorem split_sp (x : Str) : (Txt.split x (Str.ofString " ")).map tl = spl [32] 0 [] (tl x) := by
  have := split_spl x (Str.ofString " ") (by rw [sp_tl]; simp) (kind_ok sp_kind)
  rwa [sp_tl] at this
/-- the words that are not empty -/
def wl (acc l : List Nat) : List (List Nat) := (spl [32] 0 acc l).filter fun w => decide (w ≠ [])
theorem ne_tl (w : Str) : decide (w ≠ Str.ofString "") = decide (tl w ≠ []) := by
  by_cases h : tl w = []
  · have e : w = Str.ofString "" := ext_tl (h.trans empty_tl.symm)
    rw [decide_eq_false (fun q => q e), decide_eq_false (fun q => q h)]
  · have : w ≠ Str.ofString "" := fun e => h (by rw [e, empty_tl])
    simp [h, this]
theorem wordsOf_tl (x : Str) : (wordsOf x).map tl = wl [] (tl x) := by
  unfold wordsOf wl
  rw [← split_sp]
  induction Txt.split x (Str.ofString " ") with
  | nil => rfl
  | cons a r ih =>
    rw [List.map_cons, List.filter_cons, List.filter_cons, ne_tl]
    by_cases h : tl a = []
    · simp only [h]
      simpa using ih
    · simp only [ne_eq, h, not_false_eq_true, decide_true, if_true, List.map_cons]
      rw [ih]
theorem wl_nil (acc : List Nat) : wl acc [] = if acc = [] then [] else [acc] := by
  unfold wl
  rw [spl_nil]
  by_cases h : acc = [] <;> simp [h]
theorem wl_sp (acc l : List Nat) : wl acc (32 :: l) = (if acc = [] then [] else [acc]) ++ wl [] l := by
  unfold wl
  rw [spl_hit (by rfl)]
  by_cases h : acc = [] <;> simp [h]
theorem wl_word : ∀ (w acc l : List Nat), 32 ∉ w → wl acc (w ++ l) = wl (acc ++ w) l
  | [], acc, l, _ => by simp
  | c :: w, acc, l, h => by
    have hc : c ≠ 32 := fun e => h (by rw [e]; exact List.mem_cons_self ..)
    have : wl acc (c :: (w ++ l)) = wl (acc ++ [c]) (w ++ l) := by
      unfold wl
      rw [spl_miss (pre_of_head [] _ hc)]
    rw [List.cons_append, this, wl_word w _ _ fun hm => h (List.mem_cons_of_mem _ hm)]
    simp
theorem wl_sps : ∀ (n : Nat) (l : List Nat), wl [] (List.replicate n 32 ++ l) = wl [] l
  | 0, l => by simp
  | n + 1, l => by
    rw [List.replicate_succ, List.cons_append, wl_sp, wl_sps n l]
    simp
/-- a word and blanks behind it -/
theorem wl_one {w : List Nat} (hw : w ≠ []) (hs : 32 ∉ w) {n : Nat} (hn : 0 < n) (l : List Nat) : wl [] (w ++ (List.replicate n 32 ++ l)) = w :: wl [] l := by
  rw [wl_word w [] _ hs, List.nil_append]
  obtain ⟨m, rfl⟩ : ∃ m, n = m + 1 := ⟨n - 1, by omega⟩
  rw [List.replicate_succ, List.cons_append, wl_sp, if_neg hw, wl_sps]
  rfl
/-- words with a blank between -/
theorem wl_join : ∀ {ws : List (List Nat)}, (∀ w ∈ ws, w ≠ [] ∧ 32 ∉ w) → wl [] (joinL [32] ws) = ws
  | [], _ => by simp [joinL, wl_nil]
  | [a], h => by
    have := h a (List.mem_cons_self ..)
    have e : joinL [32] [a] = a ++ [] := by simp [joinL]
    rw [e, wl_word a [] _ this.2, List.nil_append, wl_nil, if_neg this.1]
  | a :: b :: r, h => by
    have ha := h a (List.mem_cons_self ..)
    have ih := wl_join (ws := b :: r) fun w hw => h w (List.mem_cons_of_mem _ hw)
    have e : joinL [32] (a :: b :: r) = a ++ (List.replicate 1 32 ++ joinL [32] (b :: r)) := by simp [joinL]
    rw [e, wl_one ha.1 ha.2 (by omega), ih]
/-- a row of words -/
def wordOk (w : Str) : Prop := tl w ≠ [] ∧ 32 ∉ tl w ∧ 10 ∉ tl w
theorem words_join {ws : List Str} (h : ∀ w ∈ ws, wordOk w) : wordsOf (Txt.join (Str.ofString " ") ws) = ws := by
  apply map_tl_inj
  rw [wordsOf_tl, join_eq, tl_join, sp_tl]
  exact wl_join fun w hw => by
    obtain ⟨u, hu, rfl⟩ := List.mem_map.mp hw
    exact ⟨(h u hu).1, (h u hu).2.1⟩
theorem mem_joinL {S : List Nat} {c : Nat} : ∀ {ws : List (List Nat)}, c ∈ joinL S ws → c ∈ S ∨ ∃ w ∈ ws, c ∈ w
  | [], h => by simp [joinL] at h
  | [a], h => by
    simp [joinL] at h
    exact .inr ⟨a, List.mem_cons_self .., h⟩
  | a :: b :: r, h => by
    simp only [joinL, List.mem_append] at h
    rcases h with h | h | h
    · exact .inr ⟨a, List.mem_cons_self .., h⟩
    · exact .inl h
    · rcases mem_joinL h with h | ⟨w, hw, hc⟩
      · exact .inl h
      · exact .inr ⟨w, List.mem_cons_of_mem _ hw, hc⟩
theorem join_free {ws : List Str} (h : ∀ w ∈ ws, wordOk w) : 10 ∉ tl (Txt.join (Str.ofString " ") ws) := fun hc => by
  rw [join_eq, tl_join, sp_tl] at hc
  rcases mem_joinL hc with h1 | ⟨w, hw, hc⟩
  · simp at h1
  · obtain ⟨u, hu, rfl⟩ := List.mem_map.mp hw
    exact (h u hu).2.2 hc
theorem dig_ok {n : Int} (h0 : 0 ≤ n) (h1 : n < 10) : wordOk (dig n) := by
  unfold wordOk
  rw [dig_tl h0 h1]
  refine ⟨by simp, ?_, ?_⟩ <;>
  · intro h
    simp at h
    omega
theorem planW_ok {p : PlanS} (h : p.ok) : ∀ w ∈ planW p, wordOk w := fun w hw => by
  obtain ⟨⟨b0, b1⟩, ⟨s0, s1⟩, h1, h2, h3⟩ := h
  simp only [planW, List.mem_cons, List.not_mem_nil, or_false] at hw
  have lit : ∀ s : Str, decide (tl s ≠ [] ∧ 32 ∉ tl s ∧ 10 ∉ tl s) = true → wordOk s := fun s h => (of_decide_eq_true h : tl s ≠ [] ∧ 32 ∉ tl s ∧ 10 ∉ tl s)
  rcases hw with rfl | rfl | rfl | rfl | rfl | rfl
  · exact lit _ (by decide +kernel)
  · exact dig_ok (by omega) (by omega)
  · exact dig_ok (by omega) (by omega)
  · rcases h1 with h | h <;> rw [h] <;> exact lit _ (by decide +kernel)
  · rcases h2 with h | h <;> rw [h] <;> exact lit _ (by decide +kernel)
  · rcases h3 with h | h | h <;> rw [h] <;> exact lit _ (by decide +kernel)
theorem deedW_ok {n : Int} (hn : n ≤ 4) {d : Deed} (h : d.ok n) : ∀ w ∈ deedW d, wordOk w := fun w hw => by
  have lit : ∀ s : Str, decide (tl s ≠ [] ∧ 32 ∉ tl s ∧ 10 ∉ tl s) = true → wordOk s := fun s h => (of_decide_eq_true h : tl s ≠ [] ∧ 32 ∉ tl s ∧ 10 ∉ tl s)
  have dl : ∀ b : Int, inB n b → wordOk (dig b) := fun b hb => dig_ok hb.1 (by have := hb.2; omega)
  cases d with
  | put b =>
    simp only [deedW, List.mem_cons, List.not_mem_nil, or_false] at hw
    rcases hw with rfl | rfl
    · exact lit _ (by decide +kernel)
    · exact dl b h
  | take b =>
    simp only [deedW, List.mem_cons, List.not_mem_nil, or_false] at hw
    rcases hw with rfl | rfl
    · exact lit _ (by decide +kernel)
    · exact dl b h
  | ask b =>
    simp only [deedW, List.mem_cons, List.not_mem_nil, or_false] at hw
    rcases hw with rfl | rfl
    · exact lit _ (by decide +kernel)
    · exact dl b h
  | amid b o =>
    simp only [deedW, List.mem_cons, List.not_mem_nil, or_false] at hw
    rcases hw with rfl | rfl | rfl
    · exact lit _ (by decide +kernel)
    · exact dl b h.1
    · exact dl o h.2
/-- rows that tell these words, joined, are a script's text -/
def allW (p : PlanS) (sc : List Deed) : List (List Str) := planW p :: sc.map deedW
/-! ### the law's own reader, its spoilt texts, what is told -/
abbrev sLBad : Stmt := top 35
abbrev nLBad : List Str := ["_law_words", "_law_good", "_law_n"]
abbrev pLBad : List Str := ["_law_words", "_law_good"]
theorem scLBad : FnScope nLBad pLBad (defScope sLBad) := ⟨rfl, rfl, rfl, by decide +kernel, rfl, by decide +kernel, by decide +kernel⟩
abbrev sLDue : Stmt := top 36
abbrev nLDue : List Str := ["_law_text", "_law_rows", "_law_books", "_law_k", "_law_words", "_law_word", "_law_good", "_law_point", "_law_bad_here", "_law_book"]
abbrev pLDue : List Str := ["_law_text"]
theorem scLDue : FnScope nLDue pLDue (defScope sLDue) := ⟨rfl, rfl, rfl, by decide +kernel, rfl, by decide +kernel, by decide +kernel⟩
abbrev sSpoil : Stmt := top 37
abbrev nSpoil : List Str := ["_law_h", "_law_rows", "_law_k", "_law_pick", "_law_words", "_law_at", "_law_more", "_law_new"]
abbrev pSpoil : List Str := ["_law_h", "_law_rows"]
theorem scSpoil : FnScope nSpoil pSpoil (defScope sSpoil) := ⟨rfl, rfl, rfl, by decide +kernel, rfl, by decide +kernel, by decide +kernel⟩
abbrev sLTold : Stmt := top 38
abbrev nLTold : List Str := ["_law_text", "_law_told_here", "e"]
abbrev pLTold : List Str := ["_law_text"]
theorem scLTold : FnScope nLTold pLTold (defScope sLTold) := ⟨rfl, rfl, rfl, by decide +kernel, rfl, by decide +kernel, by decide +kernel⟩
/-! ### signs of a text, == of words -/
def okT (s : Str) : Prop := ∀ c ∈ tl s, c < 0x110000
theorem okT_cps {s : Str} (h : okT s) : s.cps.all (· < 0x110000) = true := by
  rw [← Array.all_toList, List.all_eq_true]
  exact fun c hc => decide_eq_true (h c hc)
theorem okT_lit {s : Str} (h : s.cps.all (· < 0x110000) = true) : okT s := fun c hc => by
  rw [← Array.all_toList, List.all_eq_true] at h
  exact of_decide_eq_true (h c hc)
theorem spl_mem {s : Nat} : ∀ (l acc : List Nat) {w : List Nat} {c : Nat}, w ∈ spl [s] 0 acc l → c ∈ w → c ∈ acc ∨ c ∈ l
  | [], acc, w, c, h, hc => by
    rw [spl_nil, List.mem_singleton] at h
    rw [h] at hc
    exact .inl hc
  | d :: r, acc, w, c, h, hc => by
    by_cases hd : d = s
    · subst hd
      rw [spl_hit (by unfold pre; simp)] at h
      simp only [List.length_singleton, Nat.sub_self] at h
      rcases List.mem_cons.mp h with rfl | h
      · exact .inl hc
      · rcases spl_mem r [] h hc with h | h
        · cases h
        · exact .inr (List.mem_cons_of_mem _ h)
    · rw [spl_miss (pre_of_head [] _ hd)] at h
      rcases spl_mem r _ h hc with h | h
      · rcases List.mem_append.mp h with h | h
        · exact .inl h
        · rw [List.mem_singleton.mp h]
          exact .inr (List.mem_cons_self ..)
      · exact .inr (List.mem_cons_of_mem _ h)
theorem split_okT {x y : Str} {s : Nat} (hy : tl y = [s]) (hk : y.cps.all (· < 256) = true) (hx : okT x) : ∀ r ∈ Txt.split x y, okT r := fun r hr c hc => by
  have h := split_spl x y (by rw [hy]; simp) (kind_ok hk)
  rw [hy] at h
  have hm : tl r ∈ (Txt.split x y).map tl := List.mem_map.mpr ⟨r, hr, rfl⟩
  rw [h] at hm
  rcases spl_mem (tl x) [] hm hc with h | h
  · cases h
  · exact hx c h
theorem join_okT {a : Str} {ws : List Str} (ha : okT a) (h : ∀ w ∈ ws, okT w) : okT (Txt.join a ws) := fun c hc => by
  rw [join_eq, tl_join] at hc
  rcases mem_joinL hc with h1 | ⟨w, hw, hc⟩
  · exact ha c h1
  · obtain ⟨u, hu, rfl⟩ := List.mem_map.mp hw
    exact h u hu c hc
theorem eqv_str (x y : Str) : PyData.eqv (toPy (.str x)) (toPy (.str y)) = decide (x = y) := by
  show PyData.eqv (.str x) (.str y) = _
  rw [PyData.eqv.eq_def]
  show (x == y) = _
  by_cases h : x = y
  · subst h
    simp
  · simp [h]
theorem eqD_strs (l m : List Str) : eqD (.lst (l.map D.str)) (.lst (m.map D.str)) = decide (l = m) := by
  show PyData.eqv (.list (toPyL (l.map D.str))) (.list (toPyL (m.map D.str))) = _
  rw [PyData.eqv.eq_def]
  show PyData.eqvAll (toPyL (l.map D.str)) (toPyL (m.map D.str)) = _
  rw [toPyL_map, toPyL_map]
  exact eqvAll_map _ eqv_str l m
theorem shaped_strs {l : List Str} (h : ∀ s ∈ l, okT s) : shapedD (.lst (l.map D.str)) = true := (shaped_lst D.str 0 l (fun _ _ => rfl) (fun s hs => okT_cps (h s hs)) (fun _ _ => Nat.le_refl _) (by omega)).1
theorem cut_one (xs : List D) : DL.cutD xs none (some 1) = xs.take 1 := by
  cases xs with
  | nil => rfl
  | cons a r => exact cut_take (by omega) (by simp; omega)
section
variable {P : Program} {w : World} {K : PySem.W.Frag} {mg : Str → Option Value} {base : Heap}
def badD : Option Nat → D
  | none => .non
  | some n => .int (n : Int)
def gV (gs : List (List Str)) : List DV := gs.map fun g => DV.d (.lst (g.map D.str))
def spBad : DSp := fun ds M P _ => ∃ (ps : List Str) (v : DV) (gs : List (List Str)), ds = [.d (.lst (ps.map D.str)), v] ∧ (v = .d (.lst (gs.map fun g => D.lst (g.map D.str))) ∨ ∃ k, v = .m k ∧ M[k]? = some (.lst (gV gs))) ∧ gs.length ≤ 6 ∧ P (.d (badD (badFrom 0 ps gs))) M
theorem gV_d (gs : List (List Str)) : List.map DV.d (gs.map fun g => D.lst (g.map D.str)) = gV gs := by
  unfold gV
  rw [List.map_map]
  rfl
theorem gV_at {gs : List (List Str)} {i : Nat} {g : List Str} (h : gs[i]? = some g) : atI (gV gs) (i : Int) = some (.d (.lst (g.map D.str))) := atI_nat (by rw [gV, List.getElem?_map, h]; rfl)
theorem gV_len (gs : List (List Str)) : (gV gs).length = gs.length := by simp [gV]
theorem strs_flat (g : List Str) : (g.map D.str).all flatD = true := by
  rw [List.all_map]
  exact List.all_eq_true.mpr fun _ _ => rfl
theorem ok_lbad (N : Blt mg) (F : FunG K mg "_law_bad" sLBad pLBad) : Callee P w K mg base "_law_bad" 1 pLBad spBad := by
  refine callee_dl F scLBad (fun ds M P x h => ?_) (fun f cdv A outer s H E hr => ?_)
  · obtain ⟨ps, v, gs, rfl, _⟩ := h
    rfl
  · have hu := hr.units
    refine ⟨_, (dss_cons (ds_for (di_range1 rfl N.range (da_cons (de_callB dc_lenA rfl N.len boot_len (da_cons (de_var 1) da_nil)) da_nil)) (dg_name 2 scLBad.nd) (dss_one (ds_if (DW.dt (dw_or (dt_cmp do_ge (de_var 2) (de_callB dc_lenA rfl N.len boot_len (da_cons (de_var 0) da_nil))) (dw_or1 (dt_cmp (do_notIn hu) (de_ix hu (de_var 0) (de_var 2)) (de_ix hu (de_var 1) (de_var 2)))))) (dss_one (ds_ret (de_bin do_add (de_var 2) de_int))) dss_nil)))
    (dss_one (ds_ret (de_if (dt_cmp (do_eq hu) (de_callB dc_lenA rfl N.len boot_len (da_cons (de_var 0) da_nil)) (de_callB dc_lenA rfl N.len boot_len (da_cons (de_var 1) da_nil))) de_non (de_bin do_add (de_callB dc_lenA rfl N.len boot_len (da_cons (de_var 1) da_nil)) de_int))))), fun ds M P x h => ?_⟩
    obtain ⟨ps, v, gs, rfl, hv, hg, hP⟩ := h
    rcases hv with rfl | ⟨k, rfl, hk⟩
    · conv => whnf
      rw [gV_d]
      refine ⟨by rw [gV_len]; omega, ?_⟩
      refine ⟨fun i ρ M' => M' = M ∧ (∀ j, j < i → ∃ u g, ps[j]? = some u ∧ gs[j]? = some g ∧ u ∈ g) ∧ ∃ z, ρ = [some (.d (.lst (ps.map D.str))), some (DV.d (.lst (gs.map fun g => D.lst (g.map D.str)))), z], ⟨rfl, fun j hj => absurd hj (Nat.not_lt_zero j), _, rfl⟩, ?_, ?_⟩
      · rintro i y ρ M' hy ⟨rfl, hpp, z, rfl⟩
        obtain ⟨hi2, rfl⟩ := rangeL_get.mp hy
        have hi2 : i < gs.length := by rw [gV_len] at hi2; omega
        refine ⟨trivial, ?_⟩
        have hgi := List.getElem?_eq_getElem hi2
        have h0 : ((0 : Int) + (i : Int)) = (i : Int) := Int.zero_add _
        conv => whnf
        rw [h0]
        refine ⟨fun h1 => ?_, fun h1 => ?_⟩
        · have h1 : ps.length ≤ i := by simpa using h1
          refine br_t rfl ?_
          conv => whnf
          rw [bad_at hpp ⟨_, hgi, fun u hu => by rw [List.getElem?_eq_none h1] at hu; cases hu⟩] at hP
          have h2 : ((i : Int) + 1) = ((0 + i + 1 : Nat) : Int) := by omega
          rw [h2]
          exact hP
        · have h1 : i < ps.length := by simpa using h1
          have hpi := List.getElem?_eq_getElem h1
          conv => whnf
          rw [atI_nat (xs := List.map DV.d (List.map D.str ps)) (j := i) (v := .d (.str ps[i])) (by rw [List.getElem?_map, List.getElem?_map, hpi]; rfl)]
          conv => whnf
          rw [gV_d]
          conv => whnf
          rw [gV_at hgi]
          conv => whnf
          rw [allD_map]
          refine ⟨⟨rfl, strs_flat _⟩, ?_⟩
          by_cases hm : ps[i] ∈ gs[i]
          · refine br_f (by rw [inF_strs, decide_eq_true hm]; rfl) ?_
            refine ⟨rfl, fun j hj => ?_, _, rfl⟩
            by_cases hji : j < i
            · exact hpp j hji
            · obtain rfl : j = i := by omega
              exact ⟨_, _, hpi, hgi, hm⟩
          · refine br_t (by rw [inF_strs, decide_eq_false hm]; rfl) ?_
            conv => whnf
            rw [bad_at hpp ⟨_, hgi, fun u hu => by rw [hpi] at hu; cases hu; exact hm⟩] at hP
            have h2 : ((i : Int) + 1) = ((0 + i + 1 : Nat) : Int) := by omega
            rw [h2]
            exact hP
      · rintro ρ M' ⟨rfl, hpp, z, rfl⟩
        refine ⟨trivial, ?_⟩
        have hpp : ∀ j, j < gs.length → ∃ u g, ps[j]? = some u ∧ gs[j]? = some g ∧ u ∈ g := fun j hj => hpp j (by rw [rangeL_len, gV_len]; simpa using hj)
        conv => whnf
        rw [gV_d]
        conv => whnf
        rw [bad_end hpp] at hP
        by_cases hl : ps.length = gs.length
        · rw [if_pos hl] at hP
          refine br_t (by rw [gV_len]; simp; omega) ?_
          exact hP
        · rw [if_neg hl] at hP
          refine br_f (by rw [gV_len]; simp; omega) ?_
          conv => whnf
          rw [gV_d]
          conv => whnf
          rw [gV_len]
          have h2 : ((gs.length : Int) + 1) = ((0 + gs.length + 1 : Nat) : Int) := by omega
          rw [h2]
          exact hP
    · conv => whnf
      rw [seqOf_m hk]
      conv => whnf
      refine ⟨by rw [gV_len]; omega, ?_⟩
      refine ⟨fun i ρ M' => M' = M ∧ (∀ j, j < i → ∃ u g, ps[j]? = some u ∧ gs[j]? = some g ∧ u ∈ g) ∧ ∃ z, ρ = [some (.d (.lst (ps.map D.str))), some (DV.m k), z], ⟨rfl, fun j hj => absurd hj (Nat.not_lt_zero j), _, rfl⟩, ?_, ?_⟩
      · rintro i y ρ M' hy ⟨rfl, hpp, z, rfl⟩
        obtain ⟨hi2, rfl⟩ := rangeL_get.mp hy
        have hi2 : i < gs.length := by rw [gV_len] at hi2; omega
        refine ⟨trivial, ?_⟩
        have hgi := List.getElem?_eq_getElem hi2
        have h0 : ((0 : Int) + (i : Int)) = (i : Int) := Int.zero_add _
        conv => whnf
        rw [h0]
        refine ⟨fun h1 => ?_, fun h1 => ?_⟩
        · have h1 : ps.length ≤ i := by simpa using h1
          refine br_t rfl ?_
          conv => whnf
          rw [bad_at hpp ⟨_, hgi, fun u hu => by rw [List.getElem?_eq_none h1] at hu; cases hu⟩] at hP
          have h2 : ((i : Int) + 1) = ((0 + i + 1 : Nat) : Int) := by omega
          rw [h2]
          exact hP
        · have h1 : i < ps.length := by simpa using h1
          have hpi := List.getElem?_eq_getElem h1
          conv => whnf
          rw [atI_nat (xs := List.map DV.d (List.map D.str ps)) (j := i) (v := .d (.str ps[i])) (by rw [List.getElem?_map, List.getElem?_map, hpi]; rfl)]
          conv => whnf
          rw [seqOf_m hk]
          conv => whnf
          rw [gV_at hgi]
          conv => whnf
          rw [allD_map]
          refine ⟨⟨rfl, strs_flat _⟩, ?_⟩
          by_cases hm : ps[i] ∈ gs[i]
          · refine br_f (by rw [inF_strs, decide_eq_true hm]; rfl) ?_
            refine ⟨rfl, fun j hj => ?_, _, rfl⟩
            by_cases hji : j < i
            · exact hpp j hji
            · obtain rfl : j = i := by omega
              exact ⟨_, _, hpi, hgi, hm⟩
          · refine br_t (by rw [inF_strs, decide_eq_false hm]; rfl) ?_
            conv => whnf
            rw [bad_at hpp ⟨_, hgi, fun u hu => by rw [hpi] at hu; cases hu; exact hm⟩] at hP
            have h2 : ((i : Int) + 1) = ((0 + i + 1 : Nat) : Int) := by omega
            rw [h2]
            exact hP
      · rintro ρ M' ⟨rfl, hpp, z, rfl⟩
        refine ⟨trivial, ?_⟩
        have hpp : ∀ j, j < gs.length → ∃ u g, ps[j]? = some u ∧ gs[j]? = some g ∧ u ∈ g := fun j hj => hpp j (by rw [rangeL_len, gV_len]; simpa using hj)
        conv => whnf
        rw [seqOf_m hk]
        conv => whnf
        rw [bad_end hpp] at hP
        by_cases hl : ps.length = gs.length
        · rw [if_pos hl] at hP
          refine br_t (by rw [gV_len]; simp; omega) ?_
          exact hP
        · rw [if_neg hl] at hP
          refine br_f (by rw [gV_len]; simp; omega) ?_
          conv => whnf
          rw [seqOf_m hk]
          conv => whnf
          rw [gV_len]
          have h2 : ((gs.length : Int) + 1) = ((0 + gs.length + 1 : Nat) : Int) := by omega
          rw [h2]
          exact hP
theorem numsW_len (lo hi : Int) : (numsW lo hi).length = (hi + 1 - lo).toNat := by simp [numsW]
theorem numsW_at {lo hi : Int} {j : Nat} (h : (j : Int) < hi + 1 - lo) : (numsW lo hi)[j]? = some (dig (lo + (j : Int))) := by
  unfold numsW
  rw [List.getElem?_map, List.getElem?_range (by omega)]
  rfl
theorem lits : Str.ofString "1" = dig 1 ∧ Str.ofString "2" = dig 2 ∧ Str.ofString "3" = dig 3 ∧ Str.ofString "4" = dig 4 := ⟨rfl, rfl, rfl, rfl⟩
theorem goodPlan_d : ([D.lst [D.str (Str.ofString "plan")], D.lst [D.str (Str.ofString "1"), D.str (Str.ofString "2"), D.str (Str.ofString "3"), D.str (Str.ofString "4")], D.lst [D.str (Str.ofString "1"), D.str (Str.ofString "2"), D.str (Str.ofString "3")]] ++ [.lst [.str "pushes", .str "refused"], .lst [.str "along", .str "stays"], .lst [.str "first", .str "next", .str "roomiest"]] : List D) = goodPlan.map fun g => D.lst (g.map D.str) := by
  obtain ⟨e1, e2, e3, e4⟩ := lits
  rw [e1, e2, e3, e4]
  rfl
def dueD : Option (Nat × Nat) → D
  | none => .non
  | some (l, w) => .tup [.int (l : Int), .int (w : Int)]
theorem take_head {ps : List Str} {a : Str} : ps.take 1 = [a] ↔ ps.head? = some a := by
  cases ps <;> simp
theorem deedGood_if (n : Int) (ws : List Str) : deedGood n ws = ([["put", "amid", "take", "ask"], numsW 0 (n - 1)] : List (List Str)) ++ (if ws.head? = some (Str.ofString "amid") then [numsW 0 (n - 1)] else []) := rfl
def spLDue : DSp0 := fun ds P _ => ∃ text, ds = [.str text] ∧ text.length ≤ 80000 ∧ okT text ∧ P (dueD (readErr (Txt.split text "\n")))
theorem ok_ldue (N : Blt mg) (C1 : Callee0 P w K mg base "_law_points" 1 pPoints spPoints) (G_law_bad : Callee P w K mg base "_law_bad" 1 pLBad spBad) (F : FunG K mg "_law_due" sLDue pLDue) : Callee0 P w K mg base "_law_due" 2 pLDue spLDue := by
  have G_law_points := C1.up
  refine callee_dl0 F scLDue (fun ds P x h => ?_) (fun f cdv A outer s H E hr => ?_)
  · obtain ⟨text, rfl, _⟩ := h
    rfl
  · have hu := hr.units
    refine ⟨_, (dss_cons (ds_set 1 scLDue.nd (de_bm .str PySem.F.plainAttrs_str PySem.F.slot_str_split PySem.F.type_str_split dm_split (de_var 0) (da_cons de_str da_nil)))
    (dss_cons (ds_set 2 scLDue.nd (de_lst da_nil))
    (dss_cons (ds_for (di_range1 rfl N.range (da_cons (de_callB dc_lenA rfl N.len boot_len (da_cons (de_var 1) da_nil)) da_nil)) (dg_name 3 scLDue.nd) (dss_cons (ds_setLc 4 rfl scLDue.nd (di_seq (de_bm .str PySem.F.plainAttrs_str PySem.F.slot_str_split PySem.F.type_str_split dm_split (de_ix hu (de_var 1) (de_var 3)) (da_cons de_str da_nil))) (blkOk_by (own := [("_law_word", 5)]) (N := nLDue) rfl) (fun _ _ _ _ _ => (dgw_name 5 (by decide) scLDue.nd)) (fun _ _ _ _ _ => (dts_one (dt_cmp (do_ne hu) (de_var 5) de_str))) (fun _ _ _ _ _ => (de_var 5)))
    (dss_cons (ds_if (dt_cmp (do_eq hu) (de_var 3) de_int) (dss_one (ds_set 6 scLDue.nd (de_bin do_add (de_lst (da_cons (de_lst (da_cons de_str da_nil)) (da_cons (de_lst (da_cons de_str (da_cons de_str (da_cons de_str (da_cons de_str da_nil))))) (da_cons (de_lst (da_cons de_str (da_cons de_str (da_cons de_str da_nil)))) da_nil)))) (de_lc rfl scLDue.nd (di_keys (de_call0 G_law_points (hr.mono (by decide)))) (blkOk_by (own := [("_law_point", 7)]) (N := nLDue) rfl) (fun _ _ _ _ _ => (dgw_name 7 (by decide) scLDue.nd)) (fun _ _ _ _ _ => dts_nil) (fun _ _ _ _ _ => (de_ix hu (de_call0 G_law_points (hr.mono (by decide))) (de_var 7))))))) (dss_cons (ds_if (dt_cmp do_gt (de_var 3) de_int) (dss_one (ds_ret (de_tup (da_cons (de_bin do_add (de_var 3) de_int) (da_cons de_int da_nil))))) dss_nil)
    (dss_cons (ds_set 6 scLDue.nd (de_lstM (da_cons (de_lst (da_cons de_str (da_cons de_str (da_cons de_str (da_cons de_str da_nil))))) (da_cons (de_var 2) da_nil))))
    (dss_one (ds_if (dt_cmp (do_eq hu) (de_sl (de_var 4) dp_none (dp_some de_int)) (de_lst (da_cons de_str da_nil))) (dss_one (ds_expr (de_bm .list PySem.F.plainAttrs_list PySem.F.slot_list_append PySem.F.type_list_append dm_append (de_var 6) (da_cons (de_var 2) da_nil)))) dss_nil)))))
    (dss_cons (ds_set 8 scLDue.nd (de_callN G_law_bad (hr.mono (by decide)) (da_cons (de_var 4) (da_cons (de_var 6) da_nil))))
    (dss_cons (ds_if (dt_cmp do_isNot (de_var 8) de_non) (dss_one (ds_ret (de_tup (da_cons (de_bin do_add (de_var 3) de_int) (da_cons (de_var 8) da_nil))))) dss_nil)
    (dss_one (ds_if (dt_cmp (do_eq hu) (de_var 3) de_int) (dss_one (ds_setLc 2 rfl scLDue.nd (di_range1 rfl N.range (da_cons (de_callTy dc_intS rfl N.int boot_int (da_cons (de_ix hu (de_var 4) de_int) da_nil)) da_nil)) (blkOk_by (own := [("_law_book", 9)]) (N := nLDue) rfl) (fun _ _ _ _ _ => (dgw_name 9 (by decide) scLDue.nd)) (fun _ _ _ _ _ => dts_nil) (fun _ _ _ _ _ => (de_callTy dc_str rfl N.str boot_str (da_cons (de_var 9) da_nil))))) dss_nil)))))))
    (dss_one (ds_ret de_non))))), fun ds P x h => ?_⟩
    obtain ⟨text, rfl, hl, hok, hP⟩ := h
    have hrows := split_rows (x := text)
    have hne := split_ne text
    conv => whnf
    refine ⟨⟨trivial, rfl⟩, ?_⟩
    conv => whnf
    refine ⟨⟨rfl, by omega⟩, ?_⟩
    conv => whnf
    have hoks := split_okT nl_tl nl_kind hok
    generalize hsp : Txt.split text (Str.ofString "\n") = sp at hP hrows hne hoks ⊢
    have hsl : sp.length ≤ 80002 := by
      have := split_len text (Str.ofString "\n")
      rw [hsp] at this
      omega
    have hsl2 : (List.map DV.d (List.map D.str sp)).length = sp.length := by simp
    obtain ⟨r0, rows, hrr⟩ : ∃ r0 rows, sp = r0 :: rows := by
      cases sp with
      | nil => exact absurd rfl hne
      | cons a r => exact ⟨a, r, rfl⟩
    refine ⟨Nat.zero_le _, ?_⟩
    conv => whnf
    refine ⟨by rw [hsl2]; omega, ?_⟩
    refine ⟨fun i ρ M' => ∃ (bs : List Str) (a3 a4 a5 a6 a7 a8 a9 : Option DV), ρ = [some (.d (.str text)), some (.d (.lst (sp.map D.str))), some (.d (.lst (bs.map D.str))), a3, a4, a5, a6, a7, a8, a9] ∧ (0 < i → ∃ p : PlanS, p.ok ∧ i ≤ 9 ∧ bs = numsW 0 (p.books - 1) ∧ readErr sp = leftErr p.books rows (i - 1)), ⟨[], _, _, _, _, _, _, _, rfl, fun h => absurd h (Nat.lt_irrefl 0)⟩, ?_, ?_⟩
    · rintro i y ρ M' hy ⟨bs, a3, a4, a5, a6, a7, a8, a9, rfl, hi0⟩
      obtain ⟨hi2, rfl⟩ := rangeL_get.mp hy
      have hi2 : i < sp.length := by rw [hsl2] at hi2; omega
      refine ⟨trivial, ?_⟩
      have hri := List.getElem?_eq_getElem hi2
      generalize hrow : sp[i] = row at hri
      have hrl := hrows row (List.mem_of_getElem? hri)
      have h0 : ((0 : Int) + (i : Int)) = (i : Int) := Int.zero_add _
      conv => whnf
      rw [h0]
      rw [atI_nat (xs := List.map DV.d (List.map D.str sp)) (j := i) (v := .d (.str row)) (by rw [List.getElem?_map, List.getElem?_map, hri]; rfl)]
      conv => whnf
      refine ⟨⟨trivial, rfl⟩, ?_⟩
      conv => whnf
      refine ⟨⟨rfl, by omega⟩, ?_⟩
      conv => whnf
      generalize hws : Txt.split row (Str.ofString " ") = ws
      have hwl : ws.length ≤ 80002 := by
        have := split_len row (Str.ofString " ")
        rw [hws] at this
        omega
      have hw : wordsOf row = ws.filter fun w : Str => decide (w ≠ "") := by
        unfold wordsOf
        rw [← hws]
      refine ⟨fun j acc _ => acc = ((ws.take j).filter fun w : Str => decide (w ≠ "")).map strD, rfl, ?_, ?_⟩
      · rintro j y acc M1 hy rfl
        refine ⟨rfl, ?_⟩
        rw [List.getElem?_map, List.getElem?_map] at hy
        cases e : ws[j]? with
        | none => rw [e] at hy; cases hy
        | some q =>
          rw [e] at hy
          cases hy
          have hjl := (List.getElem?_eq_some_iff.mp e).1
          have hfl := List.length_filter_le (fun w : Str => decide (w ≠ "")) (ws.take j)
          rw [List.length_take] at hfl
          have hf := filt_take (f := fun w : Str => decide (w ≠ "")) e
          by_cases hq : q = ""
          · refine br_f (by
              show (true ^^ decide (q = Str.ofString "")) = false
              rw [decide_eq_true hq]
              rfl) ?_
            have hq2 : decide (q ≠ "") = false := by simp [hq]
            show _ = _
            rw [hf, hq2]
            simp
          · refine br_t (by
              show (true ^^ decide (q = Str.ofString "")) = true
              rw [decide_eq_false hq]
              rfl) ?_
            have hq2 : decide (q ≠ "") = true := by simp [hq]
            refine ⟨by rw [List.length_map]; omega, ?_⟩
            show _ = _
            rw [hf, hq2, List.map_append]
            rfl
      rintro acc M1 rfl
      refine ⟨rfl, ?_⟩
      have hfin : (((ws.take ((ws.map D.str).map DV.d).length).filter fun w : Str => decide (w ≠ "")).map strD) = (wordsOf row).map strD := by
        rw [hw, show ((ws.map D.str).map DV.d).length = ws.length by simp, List.take_length]
      rw [hfin]
      conv => whnf
      rw [allD_strs]
      conv => whnf
      generalize hps : wordsOf row = ps
      by_cases hz : i = 0
      · subst hz
        refine br_t rfl ?_
        conv => whnf
        refine ⟨by show 1 ≤ 100000; decide, ?_⟩
        conv => whnf
        refine ⟨by show 4 ≤ 100000; decide, ?_⟩
        conv => whnf
        refine ⟨by show 3 ≤ 100000; decide, ?_⟩
        conv => whnf
        refine ⟨by show 3 ≤ 100000; decide, ?_⟩
        refine ⟨rfl, ?_⟩
        conv => whnf
        refine ⟨fun j acc _ => acc = ([.d (.lst [.str "pushes", .str "refused"]), .d (.lst [.str "along", .str "stays"]), .d (.lst [.str "first", .str "next", .str "roomiest"])] : List DV).take j, rfl, ?_, ?_⟩
        · rintro j y acc M2 hy2 rfl
          match j, y, hy2 with
          | 0, _, rfl =>
            refine ⟨trivial, br_t rfl ?_⟩
            refine ⟨rfl, ?_⟩
            conv => whnf
            exact ⟨by decide, rfl⟩
          | 1, _, rfl =>
            refine ⟨trivial, br_t rfl ?_⟩
            refine ⟨rfl, ?_⟩
            conv => whnf
            exact ⟨by show 1 < 100000; decide, rfl⟩
          | 2, _, rfl =>
            refine ⟨trivial, br_t rfl ?_⟩
            refine ⟨rfl, ?_⟩
            conv => whnf
            exact ⟨by show 2 < 100000; decide, rfl⟩
        rintro acc M2 rfl
        refine ⟨trivial, ?_⟩
        conv => whnf
        refine ⟨by show 3 + 3 ≤ 100000; decide, ?_⟩
        have hg : ([D.lst [D.str (Str.ofString "plan")], D.lst [D.str (Str.ofString "1"), D.str (Str.ofString "2"), D.str (Str.ofString "3"), D.str (Str.ofString "4")], D.lst [D.str (Str.ofString "1"), D.str (Str.ofString "2"), D.str (Str.ofString "3")]] ++ [.lst [.str "pushes", .str "refused"], .lst [.str "along", .str "stays"], .lst [.str "first", .str "next", .str "roomiest"]] : List D) = goodPlan.map fun g => D.lst (g.map D.str) := goodPlan_d
        refine ⟨ps, _, goodPlan, rfl, .inl (by rw [← hg]; try rfl), by decide, ?_⟩
        rw [hrr] at hri
        cases hri
        rw [hrr, readErr_c, hps] at hP
        conv => whnf
        cases hb : badFrom 0 ps goodPlan with
        | some n =>
          rw [hb] at hP
          refine br_t rfl ?_
          conv => whnf
          refine ⟨by show 2 ≤ 100000; decide, ?_⟩
          exact hP
        | none =>
          rw [hb] at hP
          refine br_f rfl ?_
          refine br_t rfl ?_
          obtain ⟨p, hp, rfl⟩ := plan_words hb
          have hdig := dig_int (n := p.books) (by have := hp.1.1; omega) (by have := hp.1.2; omega)
          conv => whnf
          refine ⟨by rw [dig_len (by have := hp.1.1; omega) (by have := hp.1.2; omega)]; decide, ?_⟩
          rw [hdig]
          conv => whnf
          have hb0 := hp.1.1
          have hb1 := hp.1.2
          refine ⟨⟨by omega, by omega⟩, ?_⟩
          refine ⟨fun j acc _ => acc = ((numsW 0 (p.books - 1)).take j).map strD, rfl, ?_, ?_⟩
          · rintro j y acc M2 hy2 rfl
            obtain ⟨hj2, rfl⟩ := rangeL_get.mp hy2
            refine ⟨trivial, br_t rfl ?_⟩
            conv => whnf
            refine ⟨Nat.lt_of_lt_of_le (show (0 + (j : Int)).natAbs < 10 by omega) (by decide), ?_⟩
            have hj3 : (numsW 0 (p.books - 1))[j]? = some (dig (0 + (j : Int))) := numsW_at (by omega)
            refine ⟨by rw [List.length_map, List.length_take]; omega, ?_⟩
            show _ = _
            rw [List.take_add_one, hj3, List.map_append]
            rfl
          rintro acc M2 rfl
          refine ⟨trivial, ?_⟩
          rw [rangeL_len, List.take_of_length_le (by rw [numsW_len]; omega)]
          conv => whnf
          rw [allD_strs]
          conv => whnf
          exact ⟨_, _, _, _, _, _, _, _, rfl, fun _ => ⟨p, hp, by omega, rfl, by
            rw [hrr, readErr_c, hps, hb, booksOf_plan hp]
            rfl⟩⟩
      · refine br_f (by show (false ^^ decide ((i : Int) = 0)) = false; simp; omega) ?_
        obtain ⟨p, hp, hi9, rfl, he⟩ := hi0 (by omega)
        obtain ⟨k, rfl⟩ : ∃ k, i = k + 1 := ⟨i - 1, by omega⟩
        have hrk : rows[k]? = some row := by
          rw [hrr] at hri
          exact hri
        rw [he, Nat.add_sub_cancel, left_at hrk, hps] at hP
        by_cases h8 : k = 8
        · subst h8
          refine br_t rfl ?_
          conv => whnf
          refine ⟨by show 2 ≤ 100000; decide, ?_⟩
          exact hP
        rw [if_neg h8] at hP
        refine br_f (by
          show decide ((8 : Int) < ((k + 1 : Nat) : Int)) = false
          simp
          omega) ?_
        conv => whnf
        refine ⟨by show 4 ≤ 100000; decide, ?_⟩
        conv => whnf
        refine ⟨by show 2 ≤ 100000; decide, ?_⟩
        have hpok : ∀ s ∈ ps.take 1, okT s := fun s hs => by
          have hs := List.mem_of_mem_take hs
          rw [← hps, hw] at hs
          have hs := (List.mem_filter.mp hs).1
          rw [← hws] at hs
          exact split_okT sp_tl sp_kind (hoks row (List.mem_of_getElem? hri)) s hs
        conv => whnf
        rw [cut_one, ← List.map_take]
        conv => whnf
        refine ⟨by show 1 ≤ 100000; decide, ?_⟩
        conv => whnf
        refine ⟨⟨shaped_strs hpok, shaped_strs (l := [Str.ofString "amid"]) fun s hs => by rw [List.mem_singleton.mp hs]; exact okT_lit (by decide +kernel)⟩, ?_⟩
        have heq : eqD (.lst ((ps.take 1).map D.str)) (.lst [.str (Str.ofString "amid")]) = decide (ps.take 1 = [Str.ofString "amid"]) := eqD_strs (ps.take 1) [Str.ofString "amid"]
        by_cases ham : ps.take 1 = [Str.ofString "amid"]
        · refine br_t (by rw [heq, decide_eq_true ham]; rfl) ?_
          conv => whnf
          refine ⟨⟨trivial, by unfold tyD; dsimp only; rw [get_last]⟩, ?_⟩
          conv => whnf
          rw [get_last]
          conv => whnf
          refine ⟨by show 2 < 100000; decide, ?_⟩
          rw [set_last]
          have hg : deedGood p.books ps = ([["put", "amid", "take", "ask"], numsW 0 (p.books - 1), numsW 0 (p.books - 1)] : List (List Str)) := by
            rw [deedGood_if, if_pos (take_head.mp ham)]
            rfl
          refine ⟨ps, _, deedGood p.books ps, rfl, .inr ⟨_, rfl, get_last.trans (by rw [hg]; try rfl)⟩, by rw [hg]; simp, ?_⟩
          conv => whnf
          cases hb : badFrom 0 ps (deedGood p.books ps) with
          | some n =>
            rw [hb] at hP
            refine br_t rfl ?_
            conv => whnf
            refine ⟨by show 2 ≤ 100000; decide, ?_⟩
            exact hP
          | none =>
            rw [hb] at hP
            refine br_f rfl ?_
            refine br_f (by show (false ^^ decide (((k + 1 : Nat) : Int) = 0)) = false; simp; omega) ?_
            exact ⟨_, _, _, _, _, _, _, _, rfl, fun _ => ⟨p, hp, by omega, rfl, by rw [he, Nat.add_sub_cancel, Nat.add_sub_cancel, left_at hrk, hps, if_neg h8, hb]⟩⟩
        · refine br_f (by rw [heq, decide_eq_false ham]; rfl) ?_
          have hg : deedGood p.books ps = ([["put", "amid", "take", "ask"], numsW 0 (p.books - 1)] : List (List Str)) := by
            rw [deedGood_if, if_neg fun h => ham (take_head.mpr h)]
            rfl
          refine ⟨ps, _, deedGood p.books ps, rfl, .inr ⟨_, rfl, get_last.trans (by rw [hg]; try rfl)⟩, by rw [hg]; simp, ?_⟩
          conv => whnf
          cases hb : badFrom 0 ps (deedGood p.books ps) with
          | some n =>
            rw [hb] at hP
            refine br_t rfl ?_
            conv => whnf
            refine ⟨by show 2 ≤ 100000; decide, ?_⟩
            exact hP
          | none =>
            rw [hb] at hP
            refine br_f rfl ?_
            refine br_f (by show (false ^^ decide (((k + 1 : Nat) : Int) = 0)) = false; simp; omega) ?_
            exact ⟨_, _, _, _, _, _, _, _, rfl, fun _ => ⟨p, hp, by omega, rfl, by rw [he, Nat.add_sub_cancel, Nat.add_sub_cancel, left_at hrk, hps, if_neg h8, hb]⟩⟩
    · rintro ρ M' ⟨bs, a3, a4, a5, a6, a7, a8, a9, rfl, hi0⟩
      refine ⟨trivial, ?_⟩
      conv => whnf
      obtain ⟨p, _, _, _, he⟩ := hi0 (by rw [rangeL_len, hsl2]; rw [hrr]; simp)
      rw [he, rangeL_len, hsl2, hrr, show ((((r0 :: rows).length : Nat) : Int).toNat - 1) = rows.length by simp, left_end] at hP
      exact hP
/-- texts' rows: few, short -/
def rowsOk (N L : Nat) (rows : List Str) : Prop := rows ≠ [] ∧ rows.length ≤ N ∧ ∀ r ∈ rows, r.length ≤ L ∧ okT r
theorem cutS_take (ws : List Str) (k : Nat) : DL.cutD (ws.map D.str) none (some (k : Int)) = (ws.take k).map D.str := by
  unfold DL.cutD
  rw [HT.sIx_none, HT.sIx_nat, List.drop_zero, Nat.sub_zero, List.map_take, List.take_eq_take_iff]
  omega
theorem cutS_drop (ws : List Str) (k : Nat) : DL.cutD (ws.map D.str) (some (k : Int)) none = (ws.drop k).map D.str := by
  unfold DL.cutD
  rw [HT.sIx_none, HT.sIx_nat, List.take_of_length_le (by rw [List.length_drop]; exact Nat.le_refl _), List.map_drop]
  by_cases h : k ≤ (ws.map D.str).length
  · rw [Nat.min_eq_left h]
  · rw [Nat.min_eq_right (by omega), List.drop_of_length_le (Nat.le_refl _), List.drop_of_length_le (by omega)]
theorem cutS_one (ws : List Str) (k : Nat) (h : k < ws.length) : DL.cutD (ws.map D.str) (some (k : Int)) (some ((k : Int) + 1)) = ((ws.drop k).take 1).map D.str := by
  unfold DL.cutD
  have e : ((k : Int) + 1) = ((k + 1 : Nat) : Int) := rfl
  rw [e, HT.sIx_nat, HT.sIx_nat, List.length_map, Nat.min_eq_left (by omega), Nat.min_eq_left (by omega), Nat.add_sub_cancel_left, List.map_take, List.map_drop]
/-- signs of words and a blank for each -/
def sz (ws : List Str) : Nat := (ws.map (·.length)).sum + ws.length
theorem sz_app (a b : List Str) : sz (a ++ b) = sz a + sz b := by
  unfold sz
  rw [List.map_append, List.sum_append, List.length_append]
  omega
theorem sz_parts (ws : List Str) (k : Nat) : sz (ws.take k) + sz (ws.drop k) = sz ws := by
  rw [← sz_app, List.take_append_drop]
theorem sz_drop (ws : List Str) (k e : Nat) : sz (ws.drop (k + e)) ≤ sz (ws.drop k) := by
  have := sz_parts (ws.drop k) e
  rw [List.drop_drop] at this
  omega
theorem sz_join (ws : List Str) : (Txt.join (Str.ofString " ") ws).length ≤ sz ws := by
  have := join_len (Str.ofString " ") ws
  rw [show (Str.ofString " ").length = 1 by decide, Nat.mul_one] at this
  exact this
def moreW : List Str := ["0", "1", "2", "3", "4", "01", "-1", "put", "amid", "take", "plan", "first", "along", "?"]
theorem moreW_ok : ∀ m ∈ moreW, m.length ≤ 5 ∧ okT m := fun m hm => by
  have h : moreW.all (fun m => decide (m.length ≤ 5) && m.cps.all (· < 0x110000)) = true := by decide +kernel
  have := List.all_eq_true.mp h m hm
  rw [Bool.and_eq_true] at this
  exact ⟨of_decide_eq_true this.1, okT_lit this.2⟩
/-- one row in the place of another -/
theorem rowsOk_put {N L : Nat} {rows : List Str} (h : rowsOk N L rows) {k : Nat} (hk : k < rows.length) {s : Str} (hs : s.length ≤ L + 7 ∧ okT s) : rowsOk (N + 1) (L + 7) (rows.take k ++ [s] ++ rows.drop (k + 1)) := by
  obtain ⟨_, h2, h3⟩ := h
  refine ⟨by simp, ?_, fun r hr => ?_⟩
  · rw [List.length_append, List.length_append, List.length_take, List.length_drop, List.length_singleton]
    omega
  · rcases List.mem_append.mp hr with hr | hr
    · rcases List.mem_append.mp hr with hr | hr
      · have := h3 r (List.mem_of_mem_take hr)
        exact ⟨by omega, this.2⟩
      · rw [List.mem_singleton.mp hr]
        exact hs
    · have := h3 r (List.mem_of_mem_drop hr)
      exact ⟨by omega, this.2⟩
theorem rowsOk_sub {N L : Nat} {rows rows' : List Str} (h : rowsOk N L rows) (h1 : rows' ≠ []) (h2 : rows'.length ≤ N + 1) (h3 : ∀ r ∈ rows', r ∈ rows) : rowsOk (N + 1) (L + 7) rows' := ⟨h1, h2, fun r hr => by
  have := h.2.2 r (h3 r hr)
  exact ⟨by omega, this.2⟩⟩
theorem sp1 : (Str.ofString " ").length = 1 := by decide
theorem map_one (l : List Str) (s : Str) : List.map D.str l ++ [D.str s] = (l ++ [s]).map D.str := by
  rw [List.map_append]
  rfl
def spSpoil : DSp := fun ds M P _ => ∃ (rows : List Str) (N L : Nat) (R : Mem), ds = [.m 1, .d (.lst (rows.map D.str))] ∧ rowsOk N L rows ∧ N ≤ 100 ∧ L ≤ 900 ∧ IsH M R ∧ ∀ rows' M', rowsOk (N + 1) (L + 7) rows' → IsH M' R → P (.d (.lst (rows'.map D.str))) M'
theorem ok_spoil (N : Blt mg) (G_law_next : Callee P w K mg base "_law_next" 1 pNext spNext) (F : FunG K mg "_law_spoil" sSpoil pSpoil) : Callee P w K mg base "_law_spoil" 2 pSpoil spSpoil := by
  refine callee_dl F scSpoil (fun ds M P x h => ?_) (fun f cdv A outer s H E hr => ?_)
  · obtain ⟨rows, N1, L, R, rfl, _⟩ := h
    rfl
  · have hu := hr.units
    refine ⟨_, (dss_cons (ds_set 2 scSpoil.nd (de_callN G_law_next (hr.mono (by decide)) (da_cons (de_var 0) (da_cons (de_callB dc_lenA rfl N.len boot_len (da_cons (de_var 1) da_nil)) da_nil))))
    (dss_cons (ds_set 3 scSpoil.nd (de_callN G_law_next (hr.mono (by decide)) (da_cons (de_var 0) (da_cons de_int da_nil))))
    (dss_cons (ds_if (dt_cmp (do_eq hu) (de_var 3) de_int) (dss_one (ds_ret (de_if (dt_cmp do_gt (de_callB dc_lenA rfl N.len boot_len (da_cons (de_var 1) da_nil)) de_int) (de_bin do_add (de_sl (de_var 1) dp_none (dp_some (de_var 2))) (de_sl (de_var 1) (dp_some (de_bin do_add (de_var 2) de_int)) dp_none)) (de_var 1)))) dss_nil)
    (dss_cons (ds_if (dt_cmp (do_eq hu) (de_var 3) de_int) (dss_one (ds_ret (de_bin do_add (de_bin do_add (de_sl (de_var 1) dp_none (dp_some (de_var 2))) (de_sl (de_var 1) (dp_some (de_var 2)) (dp_some (de_bin do_add (de_var 2) de_int)))) (de_sl (de_var 1) (dp_some (de_var 2)) dp_none)))) dss_nil)
    (dss_cons (ds_if (dt_cmp (do_eq hu) (de_var 3) de_int) (dss_one (ds_ret (de_bin do_add (de_sl (de_var 1) (dp_some (de_var 2)) dp_none) (de_sl (de_var 1) dp_none (dp_some (de_var 2)))))) dss_nil)
    (dss_cons (ds_set 4 scSpoil.nd (de_bm .str PySem.F.plainAttrs_str PySem.F.slot_str_split PySem.F.type_str_split dm_split (de_ix hu (de_var 1) (de_var 2)) (da_cons de_str da_nil)))
    (dss_cons (ds_set 5 scSpoil.nd (de_callN G_law_next (hr.mono (by decide)) (da_cons (de_var 0) (da_cons (de_bin do_add (de_callB dc_lenA rfl N.len boot_len (da_cons (de_var 4) da_nil)) de_int) da_nil))))
    (dss_cons (ds_if (dt_cmp (do_eq hu) (de_var 3) de_int) (dss_one (ds_ret (de_bin do_add (de_bin do_add (de_sl (de_var 1) dp_none (dp_some (de_var 2))) (de_lst (da_cons (de_bm .str PySem.F.plainAttrs_str PySem.F.slot_str_join PySem.F.type_str_join dm_join de_str (da_cons (de_sl (de_var 4) dp_none (dp_some (de_var 5))) da_nil)) da_nil))) (de_sl (de_var 1) (dp_some (de_bin do_add (de_var 2) de_int)) dp_none)))) dss_nil)
    (dss_cons (ds_set 6 scSpoil.nd (de_lst (da_cons de_str (da_cons de_str (da_cons de_str (da_cons de_str (da_cons de_str (da_cons de_str (da_cons de_str (da_cons de_str (da_cons de_str (da_cons de_str (da_cons de_str (da_cons de_str (da_cons de_str (da_cons de_str da_nil))))))))))))))))
    (dss_cons (ds_set 7 scSpoil.nd (de_bin do_add (de_bin do_add (de_sl (de_var 4) dp_none (dp_some (de_var 5))) (de_lst (da_cons (de_ix hu (de_var 6) (de_callN G_law_next (hr.mono (by decide)) (da_cons (de_var 0) (da_cons (de_callB dc_lenA rfl N.len boot_len (da_cons (de_var 6) da_nil)) da_nil)))) da_nil))) (de_sl (de_var 4) (dp_some (de_bin do_add (de_var 5) (de_callTy dc_int rfl N.int boot_int (da_cons (de_cmp do_gt (de_var 3) de_int) da_nil)))) dp_none)))
    (dss_one (ds_ret (de_bin do_add (de_bin do_add (de_sl (de_var 1) dp_none (dp_some (de_var 2))) (de_lst (da_cons (de_bm .str PySem.F.plainAttrs_str PySem.F.slot_str_join PySem.F.type_str_join dm_join de_str (da_cons (de_var 7) da_nil)) da_nil))) (de_sl (de_var 1) (dp_some (de_bin do_add (de_var 2) de_int)) dp_none)))))))))))))), fun ds M P x h => ?_⟩
    obtain ⟨rows, N1, L, R, rfl, hro, hN, hL, hH, hP⟩ := h
    have hrl : (List.map DV.d (List.map D.str rows)).length = rows.length := by simp
    have hr0 : 0 < rows.length := List.length_pos_iff.mpr hro.1
    have hrN := hro.2.1
    refine ⟨R, _, rfl, hH, ⟨by rw [hrl]; omega, by rw [hrl]; omega⟩, fun k M1 k0 k1 hH1 => ?_⟩
    rw [hrl] at k1
    obtain ⟨k, rfl⟩ : ∃ j : Nat, k = (j : Int) := ⟨k.toNat, by omega⟩
    have hk : k < rows.length := by omega
    have ek : ((k : Int) + 1) = ((k + 1 : Nat) : Int) := rfl
    conv => whnf
    refine ⟨R, 7, rfl, hH1, ⟨by decide, by decide⟩, fun q M2 q0 q1 hH2 => ?_⟩
    conv => whnf
    by_cases z0 : q = 0
    · refine br_t (by rw [z0]; rfl) ?_
      conv => whnf
      rw [hrl]
      refine ⟨fun h => ?_, fun h => ?_⟩
      · have h : 1 < rows.length := by have := of_decide_eq_true h; omega
        conv => whnf
        rw [cutS_take, ek, cutS_drop]
        refine ⟨by simp; omega, ?_⟩
        rw [← List.map_append]
        refine hP _ _ (rowsOk_sub hro ?_ ?_ ?_) hH2
        · intro e
          have := congrArg List.length e
          rw [List.length_append, List.length_take, List.length_drop, List.length_nil] at this
          omega
        · rw [List.length_append, List.length_take, List.length_drop]
          omega
        · intro r hr
          rcases List.mem_append.mp hr with hr | hr
          · exact List.mem_of_mem_take hr
          · exact List.mem_of_mem_drop hr
      · exact hP _ _ (rowsOk_sub hro hro.1 (by omega) fun r hr => hr) hH2
    refine br_f (by show (false ^^ decide (q = 0)) = false; rw [decide_eq_false z0]; rfl) ?_
    conv => whnf
    by_cases z1 : q = 1
    · refine br_t (by rw [z1]; rfl) ?_
      conv => whnf
      rw [cutS_take, cutS_one _ _ hk]
      refine ⟨by simp; omega, ?_⟩
      conv => whnf
      rw [cutS_drop, ← List.map_append]
      refine ⟨by simp; omega, ?_⟩
      rw [← List.map_append]
      refine hP _ _ (rowsOk_sub hro ?_ ?_ ?_) hH2
      · intro e
        have := congrArg List.length e
        rw [List.length_append, List.length_append, List.length_take, List.length_drop, List.length_nil] at this
        omega
      · rw [List.length_append, List.length_append, List.length_take, List.length_take, List.length_drop]
        omega
      · intro r hr
        rcases List.mem_append.mp hr with hr | hr
        · rcases List.mem_append.mp hr with hr | hr
          · exact List.mem_of_mem_take hr
          · exact List.mem_of_mem_drop (List.mem_of_mem_take hr)
        · exact List.mem_of_mem_drop hr
    refine br_f (by show (false ^^ decide (q = 1)) = false; rw [decide_eq_false z1]; rfl) ?_
    conv => whnf
    by_cases z2 : q = 2
    · refine br_t (by rw [z2]; rfl) ?_
      conv => whnf
      rw [cutS_take, cutS_drop]
      refine ⟨by simp; omega, ?_⟩
      rw [← List.map_append]
      refine hP _ _ (rowsOk_sub hro ?_ ?_ ?_) hH2
      · intro e
        have := congrArg List.length e
        rw [List.length_append, List.length_take, List.length_drop, List.length_nil] at this
        omega
      · rw [List.length_append, List.length_take, List.length_drop]
        omega
      · intro r hr
        rcases List.mem_append.mp hr with hr | hr
        · exact List.mem_of_mem_drop hr
        · exact List.mem_of_mem_take hr
    refine br_f (by show (false ^^ decide (q = 2)) = false; rw [decide_eq_false z2]; rfl) ?_
    have hrk := List.getElem?_eq_getElem hk
    generalize rows[k] = row at hrk
    have hrow := hro.2.2 row (List.mem_of_getElem? hrk)
    conv => whnf
    rw [atI_nat (xs := List.map DV.d (List.map D.str rows)) (j := k) (v := .d (.str row)) (by rw [List.getElem?_map, List.getElem?_map, hrk]; rfl)]
    refine ⟨⟨trivial, rfl⟩, ?_⟩
    conv => whnf
    refine ⟨⟨rfl, by omega⟩, ?_⟩
    have hwok := split_okT sp_tl sp_kind hrow.2
    have hwsz : sz (Txt.split row (Str.ofString " ")) ≤ L + 1 := by
      have := split_sum (x := row) sp_tl sp_kind
      unfold sz
      omega
    generalize Txt.split row (Str.ofString " ") = ws at hwok hwsz ⊢
    have hwl : ws.length ≤ L + 1 := by unfold sz at hwsz; omega
    have hwsl : (List.map DV.d (List.map D.str ws)).length = ws.length := by simp
    conv => whnf
    refine ⟨R, _, rfl, hH2, ⟨by rw [hwsl]; omega, by rw [hwsl]; omega⟩, fun a M3 a0 a1 hH3 => ?_⟩
    obtain ⟨a, rfl⟩ : ∃ j : Nat, a = (j : Int) := ⟨a.toNat, by omega⟩
    have hparts := sz_parts ws a
    conv => whnf
    by_cases z3 : q = 3
    · refine br_t (by rw [z3]; rfl) ?_
      conv => whnf
      rw [cutS_take]
      refine ⟨⟨trivial, rfl⟩, ?_⟩
      conv => whnf
      rw [cutS_take]
      conv => whnf
      rw [seqStrs_l]
      have hsz : sz (ws.take a) ≤ L + 1 := by omega
      refine ⟨by rw [sp1, Nat.mul_one]; unfold sz at hsz; omega, ?_⟩
      have hj := sz_join (ws.take a)
      have hjo : okT (Txt.join (Str.ofString " ") (ws.take a)) := join_okT (okT_lit (by decide +kernel)) fun w hw => hwok w (List.mem_of_mem_take hw)
      generalize Txt.join (Str.ofString " ") (ws.take a) = s1 at hj hjo ⊢
      conv => whnf
      refine ⟨by show 1 ≤ 100000; decide, ?_⟩
      conv => whnf
      refine ⟨by simp; omega, ?_⟩
      conv => whnf
      rw [ek, cutS_drop, map_one]
      refine ⟨by simp; omega, ?_⟩
      rw [← List.map_append]
      exact hP _ _ (rowsOk_put hro hk ⟨by omega, hjo⟩) hH3
    refine br_f (by show (false ^^ decide (q = 3)) = false; rw [decide_eq_false z3]; rfl) ?_
    conv => whnf
    refine ⟨by show 14 ≤ 100000; decide, ?_⟩
    have hmore : ([D.str (Str.ofString "0"), D.str (Str.ofString "1"), D.str (Str.ofString "2"), D.str (Str.ofString "3"), D.str (Str.ofString "4"), D.str (Str.ofString "01"), D.str (Str.ofString "-1"), D.str (Str.ofString "put"), D.str (Str.ofString "amid"), D.str (Str.ofString "take"), D.str (Str.ofString "plan"), D.str (Str.ofString "first"), D.str (Str.ofString "along"), D.str (Str.ofString "?")] : List D) = moreW.map D.str := rfl
    rw [hmore]
    clear hmore
    have hml : ((moreW.map D.str).map DV.d).length = 14 := rfl
    conv => whnf
    rw [cutS_take]
    refine ⟨R, _, rfl, hH3, ⟨by rw [hml]; decide, by rw [hml]; decide⟩, fun u M4 u0 u1 hH4 => ?_⟩
    rw [hml] at u1
    obtain ⟨m, hmem, hat⟩ : ∃ m, m ∈ moreW ∧ atI ((moreW.map D.str).map DV.d) u = some (.d (.str m)) := by
      have hl : u.toNat < moreW.length := by
        show u.toNat < 14
        omega
      refine ⟨moreW[u.toNat], List.getElem_mem hl, ?_⟩
      have := atI_nat (xs := (moreW.map D.str).map DV.d) (j := u.toNat) (v := .d (.str moreW[u.toNat])) (by rw [List.getElem?_map, List.getElem?_map, List.getElem?_eq_getElem hl]; rfl)
      rwa [Int.toNat_of_nonneg u0] at this
    obtain ⟨hm1, hm2⟩ := moreW_ok m hmem
    generalize moreW = mw at hat ⊢
    conv => whnf
    rw [hat]
    conv => whnf
    refine ⟨by show 1 ≤ 100000; decide, ?_⟩
    conv => whnf
    refine ⟨by simp; omega, ?_⟩
    obtain ⟨e, he⟩ : ∃ e : Nat, (a : Int) + (if decide (4 < q) = true then 1 else 0) = ((a + e : Nat) : Int) := by
      by_cases h4 : 4 < q
      · exact ⟨1, by rw [if_pos (decide_eq_true h4)]; rfl⟩
      · exact ⟨0, by rw [if_neg (by simpa using h4)]; rfl⟩
    conv => whnf
    rw [he, cutS_drop, map_one]
    have hsd := sz_drop ws a e
    have hnl : sz (ws.take a ++ [m] ++ ws.drop (a + e)) ≤ L + 7 := by
      rw [sz_app, sz_app]
      have : sz [m] = m.length + 1 := rfl
      omega
    have hdl : (ws.take a ++ [m] ++ ws.drop (a + e)).length ≤ L + 7 := by unfold sz at hnl; omega
    rw [List.length_append] at hdl
    refine ⟨by rw [List.length_map, List.length_map]; omega, ?_⟩
    conv => whnf
    rw [cutS_take]
    refine ⟨⟨trivial, rfl⟩, ?_⟩
    conv => whnf
    rw [← List.map_append, seqStrs_l]
    refine ⟨by rw [sp1, Nat.mul_one]; unfold sz at hnl; omega, ?_⟩
    have hj := sz_join (ws.take a ++ [m] ++ ws.drop (a + e))
    have hjo : okT (Txt.join (Str.ofString " ") (ws.take a ++ [m] ++ ws.drop (a + e))) := join_okT (okT_lit (by decide +kernel)) fun w hw => by
      rcases List.mem_append.mp hw with hw | hw
      · rcases List.mem_append.mp hw with hw | hw
        · exact hwok w (List.mem_of_mem_take hw)
        · rw [List.mem_singleton.mp hw]
          exact hm2
      · exact hwok w (List.mem_of_mem_drop hw)
    generalize Txt.join (Str.ofString " ") (ws.take a ++ [m] ++ ws.drop (a + e)) = s1 at hj hjo ⊢
    conv => whnf
    refine ⟨by show 1 ≤ 100000; decide, ?_⟩
    conv => whnf
    refine ⟨by simp; omega, ?_⟩
    conv => whnf
    rw [ek, cutS_drop, map_one]
    refine ⟨by simp; omega, ?_⟩
    rw [← List.map_append]
    exact hP _ _ (rowsOk_put hro hk ⟨by omega, hjo⟩) hH4
/-- what is known of the error that is caught -/
structure KTT (K : PySem.W.Frag) (c : Addr) where
  x_text : XfC K c
  m_tt : PySem.W.exmOne K (.ref c) (.ref c) = some true
def spLTold : DSp0 := fun ds P _ => ∃ text, ds = [.str text] ∧ text.length ≤ 80000 ∧ P (dueD (readErr (Txt.split text "\n")))
theorem ok_ltold (N : Blt mg) (ER : KTxt K mg) (ET : KTT K ER.cText) (C1 : Callee0 P w K mg base "read" 7 pRead (spRead ER.cText)) (F : FunG K mg "_law_told" sLTold pLTold) : Callee0 P w K mg base "_law_told" 8 pLTold spLTold := by
  have G_read := C1.up
  refine callee_dl0 F scLTold (fun ds P x h => ?_) (fun f cdv A outer s H E hr => ?_)
  · obtain ⟨text, rfl, _⟩ := h
    rfl
  · have hu := hr.units
    refine ⟨_, (dss_cons (ds_set 1 scLTold.nd de_non)
    (dss_cons (ds_try rfl rfl scLTold.nd (fun pn xe ⟨W, tk⟩ ps => (dss_one (ds_expr (de_callN G_read (hr.mono (by decide)) (da_cons (de_var 0) da_nil))))) (.more ⟨rfl, by decide, .inl ER.f_text.mg_⟩ (i := 2) rfl rfl (fun a oe cls d pn hz hf => (dss_one (ds_set 1 scLTold.nd (de_tup (da_cons (de_xf ET.x_text ER.n_line hz hf (de_var 2)) (da_cons (de_xf ET.x_text ER.n_word hz hf (de_var 2)) da_nil)))))) .none))
    (dss_one (ds_ret (de_var 1))))), fun ds P x h => ?_⟩
    obtain ⟨text, rfl, hl, hP⟩ := h
    refine ⟨text, rfl, hl, fun h _ => ?_, fun l w h => ?_⟩
    · rw [h] at hP
      exact hP
    · rw [h] at hP
      refine ⟨true, ET.m_tt, fun _ a d hd => ?_, (fun z => (by cases z))⟩
      repeat ((conv => whnf); (first | (walk_at "sd2") | (rw [trivial])))
      exact hP
end
theorem hM_get (st idx : Int) (cs : List Int) (R : Mem) (j : Nat) : (hM st idx cs ++ R)[j + 2]? = R[j]? := by
  rw [List.getElem?_append_right (by show 2 ≤ j + 2; omega)]
  rfl
theorem IsH.get {M R : Mem} (h : IsH M R) (j : Nat) : M[j + 2]? = R[j]? := by
  obtain ⟨st, idx, cs, _, _, _, rfl⟩ := h
  exact hM_get st idx cs R j
theorem IsH.set {M R : Mem} (h : IsH M R) (j : Nat) (m : MO) : IsH (M.set (j + 2) m) (R.set j m) := by
  obtain ⟨st, idx, cs, h1, h2, h3, rfl⟩ := h
  refine ⟨st, idx, cs, h1, h2, h3, ?_⟩
  rw [List.set_append_right _ _ (by show 2 ≤ j + 2; omega)]
  rfl
abbrev sLaw : Stmt := top 39
abbrev nLaw : List Str := ["_law_script_here", "_law_h", "_law_t", "_law_rows", "_law_turn", "_law_text"]
abbrev pLaw : List Str := ["_law_script_here"]
theorem scLaw : FnScope nLaw pLaw (defScope sLaw) := ⟨rfl, rfl, rfl, by decide +kernel, rfl, by decide +kernel, by decide +kernel⟩
section
variable {P : Program} {w : World} {K : PySem.W.Frag} {mg : Str → Option Value} {base : Heap}
theorem dueD_same (o : Option (Nat × Nat)) : shapedD (dueD o) = true ∧ eqD (dueD o) (dueD o) = true := by
  have h : shapedD (dueD o) = true := by
    cases o with
    | none => rfl
    | some q => exact (shaped_ints [(q.1 : Int), (q.2 : Int)]).2
  refine ⟨h, ?_⟩
  unfold shapedD at h
  rw [Bool.and_eq_true] at h
  exact SeqAt.eqv_refl _ (SeqAt.canLay_of_shaped h.2)
theorem due_empty : dueD (readErr (Txt.split (Str.ofString "") (Str.ofString "\n"))) = .tup [.int 1, .int 1] := by
  have h : Txt.split (Str.ofString "") (Str.ofString "\n") = [Str.ofString ""] := split_join (parts := [Str.ofString ""]) nl_tl nl_kind (by simp) fun w hw => by
    rw [List.mem_singleton.mp hw, empty_tl]
    simp
  rw [h, readErr_c]
  have hw : wordsOf (Str.ofString "") = [] := by
    apply map_tl_inj
    rw [wordsOf_tl, empty_tl, wl_nil]
    rfl
  rw [hw]
  rfl
theorem rowsW_free {p : PlanS} {sc : List Deed} (hp : p.ok) (hsc : ∀ d ∈ sc, Deed.ok p.books d) : ∀ r ∈ rowsW p sc, 10 ∉ tl r := fun r hr => by
  rcases List.mem_cons.mp hr with rfl | hr
  · exact join_free (planW_ok hp)
  · obtain ⟨d, hd, rfl⟩ := List.mem_map.mp hr
    exact join_free (deedW_ok hp.1.2 (hsc d hd))
theorem dig_okT {n : Int} (h0 : 0 ≤ n) (h1 : n < 10) : okT (dig n) := fun c hc => by
  rw [dig_tl h0 h1, List.mem_singleton] at hc
  omega
theorem rowsW_okT {p : PlanS} {sc : List Deed} (hp : p.ok) (hsc : ∀ d ∈ sc, Deed.ok p.books d) : ∀ r ∈ rowsW p sc, okT r := fun r hr => by
  have lit : ∀ s : Str, s.cps.all (· < 0x110000) = true → okT s := fun s h => okT_lit h
  have hj : ∀ ws : List Str, (∀ w ∈ ws, okT w) → okT (Txt.join (Str.ofString " ") ws) := fun ws h => join_okT (lit _ (by decide +kernel)) h
  rcases List.mem_cons.mp hr with rfl | hr
  · refine hj _ fun w hw => ?_
    obtain ⟨⟨b0, b1⟩, ⟨s0, s1⟩, h1, h2, h3⟩ := hp
    simp only [planW, List.mem_cons, List.not_mem_nil, or_false] at hw
    rcases hw with rfl | rfl | rfl | rfl | rfl | rfl
    · exact lit _ (by decide +kernel)
    · exact dig_okT (by omega) (by omega)
    · exact dig_okT (by omega) (by omega)
    · rcases h1 with h | h <;> rw [h] <;> exact lit _ (by decide +kernel)
    · rcases h2 with h | h <;> rw [h] <;> exact lit _ (by decide +kernel)
    · rcases h3 with h | h | h <;> rw [h] <;> exact lit _ (by decide +kernel)
  · obtain ⟨d, hd, rfl⟩ := List.mem_map.mp hr
    refine hj _ fun w hw => ?_
    have hd := hsc d hd
    have h4 := hp.1.2
    have dl : ∀ b : Int, inB p.books b → okT (dig b) := fun b hb => dig_okT hb.1 (by have := hb.2; omega)
    cases d with
    | put b =>
      simp only [deedW, List.mem_cons, List.not_mem_nil, or_false] at hw
      rcases hw with rfl | rfl
      · exact lit _ (by decide +kernel)
      · exact dl b hd
    | take b =>
      simp only [deedW, List.mem_cons, List.not_mem_nil, or_false] at hw
      rcases hw with rfl | rfl
      · exact lit _ (by decide +kernel)
      · exact dl b hd
    | ask b =>
      simp only [deedW, List.mem_cons, List.not_mem_nil, or_false] at hw
      rcases hw with rfl | rfl
      · exact lit _ (by decide +kernel)
      · exact dl b hd
    | amid b o =>
      simp only [deedW, List.mem_cons, List.not_mem_nil, or_false] at hw
      rcases hw with rfl | rfl | rfl
      · exact lit _ (by decide +kernel)
      · exact dl b hd.1
      · exact dl o hd.2
def spLaw : DSp := fun ds M P _ => ∃ ns : List Int, ds = [.d (.frl (ns.map D.int))] ∧ ns.length ≤ 63 ∧ M = [] ∧ ∀ M', P (.d (.bl true)) M'
theorem ok_law (N : Blt mg) (C : KPlan K) (G_law_mix : Callee P w K mg base "_law_mix" 1 pMix spMix) (G_law_plan : Callee P w K mg base "_law_plan" 2 pLPlan spLPlan) (G_law_next : Callee P w K mg base "_law_next" 1 pNext spNext)
    (G_law_script : Callee P w K mg base "_law_script" 3 pLScript spLScript) (C2 : Callee0 P w K mg base "_law_built" 5 pBuilt (spBuilt (tPlan C.cPlan))) (C3 : Callee0 P w K mg base "write" 5 pWrite (spWrite (tPlan C.cPlan))) (G_law_spoil : Callee P w K mg base "_law_spoil" 2 pSpoil spSpoil)
    (C4 : Callee0 P w K mg base "_law_told" 8 pLTold spLTold) (C5 : Callee0 P w K mg base "_law_due" 2 pLDue spLDue) (F : FunG K mg "law" sLaw pLaw) : Callee P w K mg base "law" 10 pLaw spLaw := by
  have G_law_built := C2.up
  have G_write := C3.up
  have G_law_told := C4.up
  have G_law_due := C5.up
  refine callee_dl F scLaw (fun ds M P x h => ?_) (fun f cdv A outer s H E hr => ?_)
  · obtain ⟨ns, rfl, _⟩ := h
    rfl
  · have hu := hr.units
    refine ⟨_, (dss_cons (ds_set 1 scLaw.nd (de_callN G_law_mix (hr.mono (by decide)) (da_cons (de_var 0) (da_cons de_int da_nil))))
    (dss_cons (ds_set 2 scLaw.nd (de_callN G_law_plan (hr.mono (by decide)) (da_cons (de_var 1) (da_cons de_int (da_cons de_int da_nil)))))
    (dss_frz 2 (dss_cons (ds_set 3 scLaw.nd (de_bm .str PySem.F.plainAttrs_str PySem.F.slot_str_split PySem.F.type_str_split dm_split (de_callN G_write (hr.mono (by decide)) (da_cons (de_callN G_law_built (hr.mono (by decide)) (da_cons (de_var 2) da_nil)) (da_cons (de_callN G_law_script (hr.mono (by decide)) (da_cons (de_var 1) (da_cons (de_var 2) (da_cons de_int da_nil)))) da_nil))) (da_cons de_str da_nil)))
    (dss_cons (ds_for (di_range1 rfl N.range (da_cons (de_callN G_law_next (hr.mono (by decide)) (da_cons (de_var 1) (da_cons de_int da_nil))) da_nil)) (dg_name 4 scLaw.nd) (dss_one (ds_set 3 scLaw.nd (de_callN G_law_spoil (hr.mono (by decide)) (da_cons (de_var 1) (da_cons (de_var 3) da_nil))))))
    (dss_cons (ds_set 5 scLaw.nd (de_bm .str PySem.F.plainAttrs_str PySem.F.slot_str_join PySem.F.type_str_join dm_join de_str (da_cons (de_var 3) da_nil)))
    (dss_one (ds_ret (de_and (de_cmp (do_eq hu) (de_callN G_law_told (hr.mono (by decide)) (da_cons (de_var 5) da_nil)) (de_callN G_law_due (hr.mono (by decide)) (da_cons (de_var 5) da_nil))) (de_one (de_cmp (do_eq hu) (de_callN G_law_told (hr.mono (by decide)) (da_cons de_str da_nil)) (de_tup (da_cons de_int (da_cons de_int da_nil)))))))))))))), fun ds M P x h => ?_⟩
    obtain ⟨ns, rfl, hn, rfl, hP⟩ := h
    refine ⟨ns, 13, rfl, ⟨by decide, by decide⟩, hn, rfl, fun M1 hM1 => ?_⟩
    refine ⟨4, rfl, ⟨by decide, by decide⟩, hM1, fun p M2 hp _ hM2 => ?_⟩
    conv => whnf
    rw [show M2[3]? = some (tM p) from hM2.get 1]
    have hM3 := hM2.set 1 .gone
    generalize hq : M2.set (1 + 2) MO.gone = M3 at hM3
    conv => whnf
    refine ⟨p, rfl, hp, ?_⟩
    refine ⟨p, [.gone, .gone], rfl, hp, hM3, fun sc M4 hsc h8 hM4 => ?_⟩
    refine ⟨p, sc, _, rfl, .inr rfl, hp, hsc, h8, ?_⟩
    refine ⟨⟨trivial, rfl⟩, ?_⟩
    conv => whnf
    have hts := text_small hp hsc h8
    have htl : (textW p sc).length ≤ 600 := Nat.le_trans (join_len _ _) hts
    refine ⟨⟨rfl, by omega⟩, ?_⟩
    have hro : rowsOk 9 60 (rowsW p sc) := by
      refine ⟨by simp [rowsW], by simp [rowsW]; omega, fun r hr => ⟨rowsW_len hp hsc r hr, ?_⟩⟩
      exact rowsW_okT hp hsc r hr
    have hsp : Txt.split (textW p sc) (Str.ofString "\n") = rowsW p sc := split_join nl_tl nl_kind hro.1 (rowsW_free hp hsc)
    rw [hsp]
    generalize rowsW p sc = rows at hro
    refine ⟨[.gone, .gone], 3, rfl, hM4, ⟨by decide, by decide⟩, fun r M5 r0 r1 hM5 => ?_⟩
    refine ⟨⟨by omega, by omega⟩, ?_⟩
    refine ⟨fun i ρ M' => ∃ (rows : List Str) (a0 a2 a4 a5 : Option DV), ρ = [a0, some (.m 1), a2, some (.d (.lst (rows.map D.str))), a4, a5] ∧ rowsOk (9 + i) (60 + 7 * i) rows ∧ IsH M' [.gone, .gone], ⟨rows, _, _, _, _, rfl, hro, hM5⟩, ?_, ?_⟩
    · rintro i y ρ M' hy ⟨rows, a0, a2, a4, a5, rfl, hro, hM6⟩
      obtain ⟨hi2, rfl⟩ := rangeL_get.mp hy
      refine ⟨trivial, ?_⟩
      refine ⟨rows, _, _, _, rfl, hro, by omega, by omega, hM6, fun rows' M7 hr7 hM7 => ?_⟩
      exact ⟨rows', _, _, _, _, rfl, hr7, hM7⟩
    rintro ρ M' ⟨rows, a0, a2, a4, a5, rfl, hro, hM6⟩
    refine ⟨trivial, ?_⟩
    rw [rangeL_len] at hro
    conv => whnf
    refine ⟨⟨trivial, rfl⟩, ?_⟩
    conv => whnf
    rw [seqStrs_l]
    have hsum := words_sum (n := 60 + 7 * r.toNat) fun r hr => (hro.2.2 r hr).1
    have hnl : (Str.ofString "\n").length = 1 := by decide
    have hrl := hro.2.1
    have hmul : rows.length * (60 + 7 * r.toNat) ≤ 12 * 80 := Nat.mul_le_mul (by omega) (by omega)
    refine ⟨by rw [hnl]; omega, ?_⟩
    have hjl := join_len (Str.ofString "\n") rows
    rw [hnl] at hjl
    have hjo : okT (Txt.join (Str.ofString "\n") rows) := join_okT (okT_lit (by decide +kernel)) fun w hw => (hro.2.2 w hw).2
    generalize Txt.join (Str.ofString "\n") rows = text at hjl hjo
    refine ⟨text, rfl, by omega, ?_⟩
    refine ⟨text, rfl, by omega, hjo, ?_⟩
    obtain ⟨d1, d2⟩ := dueD_same (readErr (Txt.split text (Str.ofString "\n")))
    generalize readErr (Txt.split text (Str.ofString "\n")) = o at d1 d2
    have h11 := (shaped_ints [1, 1]).2
    have e11 := (eqD_intsT [1, 1] [1, 1]).trans (decide_eq_true rfl)
    cases o with
    | none =>
      refine ⟨⟨d1, d1⟩, ?_⟩
      refine br_t (by show (false ^^ eqD _ _) = true; rw [d2]; rfl) ?_
      refine ⟨_, rfl, by decide, ?_⟩
      rw [due_empty]
      refine ⟨by show 2 ≤ 100000; decide, ?_⟩
      conv => whnf
      refine ⟨⟨h11, h11⟩, ?_⟩
      have := hP M'
      rwa [show (true : Bool) = (false ^^ eqD (D.tup [.int 1, .int 1]) (.tup [.int 1, .int 1])) from by rw [show eqD (D.tup [.int 1, .int 1]) (.tup [.int 1, .int 1]) = true from e11]; rfl] at this
    | some q =>
      refine ⟨⟨d1, d1⟩, ?_⟩
      refine br_t (by show (false ^^ eqD _ _) = true; rw [d2]; rfl) ?_
      refine ⟨_, rfl, by decide, ?_⟩
      rw [due_empty]
      refine ⟨by show 2 ≤ 100000; decide, ?_⟩
      conv => whnf
      refine ⟨⟨h11, h11⟩, ?_⟩
      have := hP M'
      rwa [show (true : Bool) = (false ^^ eqD (D.tup [.int 1, .int 1]) (.tup [.int 1, .int 1])) from by rw [show eqD (D.tup [.int 1, .int 1]) (.tup [.int 1, .int 1]) = true from e11]; rfl] at this
end
end LW

/-! a law's head: what is known behind the top, the known dicts apart -/
namespace DL
open PySem PySem.Spec PyProof.Rows L2
/-! ### defs by where they stand -/
structure DefA where
  ad : PySem.W.Frag → Addr
  name : Str
  qual : Str
  st : Stmt
def fnA (K : PySem.W.Frag) (a : Addr) : He.FnW := match K.lookup a with
  | some ⟨_, _, .func fd, _⟩ => some (fd.name, fd.qualname, fd.params, fd.body, fd.scope, fd.globals, fd.closure, fd.builtins)
  | _ => none
def DefA.val (d : DefA) : He.FnW := some (d.name, d.qual, defArgs d.st, .stmts (defBody d.st), defScope d.st, mainGlobals, [], builtinsNs)
def noDfl : Value → Bool
  | .none => true
  | _ => false
def DefA.ok (K : PySem.W.Frag) (d : DefA) : Bool := PySem.W.keepIn K (.ref (d.ad K)) && (match K.lookup (d.ad K) with
  | some ⟨_, _, .func fd, _⟩ => PySem.W.codeIn K fd.code d.qual && noDfl fd.defaults
  | _ => false)
theorem bb {a b : Bool} (h : (a && b) = true) : a = true ∧ b = true := Bool.and_eq_true_iff.mp h
theorem DefA.fun_ {K : PySem.W.Frag} {d : DefA} (e : fnA K (d.ad K) = d.val) (c : d.ok K = true) : ∃ fd, Fun K d.name d.qual d.st (d.ad K) fd := by
  obtain ⟨kp, c2⟩ := bb c
  unfold fnA at e
  cases q : K.lookup (d.ad K) with
  | none =>
    rw [q] at c2
    cases c2
  | some o =>
    obtain ⟨oc, od, dt, osl⟩ := o
    rw [q] at c2 e
    cases dt with
    | func fd =>
      obtain ⟨n1, n2, n3, n4, n5, n6, n7, n8, n9, n10, n11, n12, n13, n14, n15⟩ := fd
      have e2 : (some (n1, n2, n3, n4, n5, n6, n7, n15) : He.FnW) = some (d.name, d.qual, defArgs d.st, .stmts (defBody d.st), defScope d.st, mainGlobals, [], builtinsNs) := e
      simp only [Option.some.injEq, Prod.mk.injEq] at e2
      obtain ⟨h1, h2, h3, h4, h5, h6, h7, h8⟩ := e2
      subst h1 h2 h3 h4 h5 h6 h7 h8
      obtain ⟨k1, k2⟩ := bb (show (PySem.W.codeIn K n13 d.qual && noDfl n8) = true from c2)
      have k3 : n8 = .none := by
        cases n8 with
        | none => rfl
        | _ => cases k2
      subst k3
      exact ⟨_, ⟨oc, od, n9, n10, n11, n12, n13, n14, osl, rfl, q, k1⟩, kp⟩
    | _ => cases c2
/-- where a property's getter stands -/
def getA (x m : Str) (K : PySem.W.Frag) : Addr := match PySem.W.recIn K (He.ma K (He.ga K x) m) "property" with
  | some (.ref g :: _) => g
  | _ => 0
/-! ### known dicts -/
inductive CV where
  | int (i : Int) | tx (xs : List Str)
def CV.d : CV → D
  | .int i => .int i
  | .tx xs => .tup (xs.map D.str)
def CV.v : CV → Value → V
  | .int i, _ => .int i
  | .tx _, .ref a => .ref a
  | .tx _, _ => .non
def CV.ok (K : PySem.W.Frag) : CV → Value → Bool
  | .int i, .int j _ => decide (i = j)
  | .tx xs, .ref a => (match K.lookup a with
    | some ⟨.type c, _, .seq its _, _⟩ => decide (c = "tuple") && (decide (its.size ≤ sizeLine) && He.relAll (xs.map V.str) its.toList)
    | _ => false)
  | _, _ => false
theorem CV.rel {K : PySem.W.Frag} {c : CV} {v : Value} (h : c.ok K v = true) : RelV (c.v v) v := by
  cases c with
  | int i =>
    cases v with
    | int j t =>
      have e : i = j := of_decide_eq_true h
      exact ⟨t, by rw [e]⟩
    | _ => cases h
  | tx xs =>
    cases v with
    | ref a => rfl
    | _ => cases h
theorem repL_txtsH {K : PySem.W.Frag} {B : Hp} : ∀ xs : List Str, RepL K B (xs.map D.str) (xs.map V.str)
  | [] => by unfold RepL; trivial
  | x :: xs => by
    unfold RepL
    exact ⟨by simp only [Rep], repL_txtsH xs⟩
theorem CV.rep {K : PySem.W.Frag} {c : CV} {v : Value} (h : c.ok K v = true) (B : Hp) : Rep K B c.d (c.v v) := by
  cases c with
  | int i => simp only [CV.d, CV.v, Rep]
  | tx xs =>
    cases v with
    | ref a =>
      have h1 : (match K.lookup a with
        | some ⟨.type c, _, .seq its _, _⟩ => decide (c = "tuple") && (decide (its.size ≤ sizeLine) && He.relAll (xs.map V.str) its.toList)
        | _ => false) = true := h
      cases q : K.lookup a with
      | none =>
        rw [q] at h1
        cases h1
      | some o =>
        obtain ⟨oc, od, dt, osl⟩ := o
        rw [q] at h1
        cases oc with
        | type c =>
          cases dt with
          | seq its n =>
            obtain ⟨h2, h3⟩ := bb h1
            obtain ⟨h4, h5⟩ := bb h3
            unfold CV.d Rep
            exact ⟨a, xs.map V.str, rfl, .inr ⟨_, its, n, q, congrArg Value.type (of_decide_eq_true h2), rfl, of_decide_eq_true h4, He.relAll_ok h5⟩, repL_txtsH xs⟩
          | _ => cases h1
        | _ => cases dt <;> cases h1
    | _ => cases h
structure TabD where
  name : Str
  kvs : List (Str × CV)
def valsA (K : PySem.W.Frag) : List DictEntry → List (Str × CV) → Bool
  | [], [] => true
  | e :: es, kv :: kvs => kv.2.ok K e.val && valsA K es kvs
  | _, _ => false
def tabA (g : Addr → Option Obj) (K : PySem.W.Frag) (t : TabD) : Bool := match g (He.ga K t.name) with
  | some ⟨.type c, none, .dict es _, sl⟩ => decide (c = "dict") && (sl.isEmpty && (Nat.blt 3 (He.ga K t.name) && (valsA K es.toList t.kvs && decide (t.kvs.map (·.1)).Nodup)))
  | _ => false
def keysA (g : Addr → Option Obj) (K : PySem.W.Frag) (t : TabD) : Option (List (Option (Str × Int))) := match g (He.ga K t.name) with
  | some ⟨_, _, .dict es _, _⟩ => some (es.toList.map He.keyOf)
  | _ => none
/-- the pairs of a known dict -/
def wsOf (es : List DictEntry) (kvs : List (Str × CV)) : List (Key × V) := (es.zip kvs).map fun q => (.inr q.2.1, q.2.2.v q.1.val)
def vsOf (es : List DictEntry) (kvs : List (Str × CV)) : List (Key × Value) := (es.zip kvs).map fun q => (.inr q.2.1, q.1.val)
theorem ws_rep {K : PySem.W.Frag} (B : Hp) : ∀ {es : List DictEntry} {kvs : List (Str × CV)}, valsA K es kvs = true → RepK K B (kvs.map fun q => (.inr q.1, q.2.d)) (wsOf es kvs)
  | [], [], _ => by
    show RepK K B [] []
    unfold RepK
    trivial
  | e :: es, kv :: kvs, h => by
    obtain ⟨h1, h2⟩ := bb h
    show RepK K B ((.inr kv.1, kv.2.d) :: kvs.map fun q => (.inr q.1, q.2.d)) ((.inr kv.1, kv.2.v e.val) :: wsOf es kvs)
    unfold RepK
    exact ⟨rfl, CV.rep h1 B, ws_rep B h2⟩
  | [], _ :: _, h => by cases h
  | _ :: _, [], h => by cases h
theorem ws_kv {K : PySem.W.Frag} : ∀ {es : List DictEntry} {kvs : List (Str × CV)}, valsA K es kvs = true → KV (wsOf es kvs) (vsOf es kvs)
  | [], [], _ => .nil
  | e :: es, kv :: kvs, h => by
    obtain ⟨h1, h2⟩ := bb h
    exact .cons ⟨rfl, CV.rel h1⟩ (ws_kv h2)
  | [], _ :: _, h => by cases h
  | _ :: _, [], h => by cases h
theorem vs_pairs {P : Program} {w : World} {K : PySem.W.Frag} : ∀ {es : List DictEntry} {kvs : List (Str × CV)}, valsA K es kvs = true → es.map He.keyOf = He.keysIn w.params (kvs.map (·.1)) → Pairs (mixKind P w) es (vsOf es kvs)
  | [], [], _, _ => .nil
  | e :: es, kv :: kvs, h, g => by
    obtain ⟨h1, h2⟩ := bb h
    have g1 : He.keyOf e :: es.map He.keyOf = some (kv.1, PyData.keyHash w.params kv.1) :: He.keysIn w.params (kvs.map (·.1)) := g
    injection g1 with g2 g3
    refine .cons ?_ rfl (vs_pairs h2 g3)
    unfold He.keyOf at g2
    split at g2
    · rename_i x t q
      obtain ⟨g4, g5⟩ := Prod.mk.inj (Option.some.inj g2)
      rw [q, g4]
      exact keyIs_str kv.1 t
    · cases g2
  | [], _ :: _, h, _ => by cases h
  | _ :: _, [], h, _ => by cases h
theorem vs_keys : ∀ {es : List DictEntry} {kvs : List (Str × CV)}, es.length = kvs.length → (vsOf es kvs).map (·.1) = kvs.map fun q => (.inr q.1 : Key)
  | [], [], _ => rfl
  | e :: es, kv :: kvs, h => by
    show Sum.inr kv.1 :: (vsOf es kvs).map (·.1) = Sum.inr kv.1 :: _
    rw [vs_keys (by simpa using h)]
  | [], _ :: _, h => by cases h
  | _ :: _, [], h => by cases h
theorem valsA_len {K : PySem.W.Frag} : ∀ {es : List DictEntry} {kvs : List (Str × CV)}, valsA K es kvs = true → es.length = kvs.length
  | [], [], _ => rfl
  | e :: es, kv :: kvs, h => by
    obtain ⟨h1, h2⟩ := bb h
    simp [valsA_len h2]
  | [], _ :: _, h => by cases h
  | _ :: _, [], h => by cases h
theorem keys_of {P : Program} {w : World} {es : List DictEntry} {ks : List Str} (g : es.map He.keyOf = He.keysIn w.params ks) : ∀ e ∈ es, ∃ k, (mixKind P w).is k e.key = true ∧ e.hash = (mixKind P w).hash k := by
  intro e he
  have hm : He.keyOf e ∈ He.keysIn w.params ks := by
    rw [← g]
    exact List.mem_map.mpr ⟨e, he, rfl⟩
  obtain ⟨x, _, hx⟩ := List.mem_map.mp hm
  unfold He.keyOf at hx
  split at hx
  · rename_i y t q
    obtain ⟨g4, g5⟩ := Prod.mk.inj (Option.some.inj hx)
    exact ⟨.inr y, by rw [q]; exact keyIs_str y t, by rw [← g5, g4]; rfl⟩
  · cases hx
/-- a known dict as it stands -/
structure TabOk (w : World) (h : Heap) (K : PySem.W.Frag) (t : TabD) : Prop where
  ex : ∃ es n, h.get? (He.ga K t.name) = some ⟨.type "dict", none, .dict es n, #[]⟩ ∧ valsA K es.toList t.kvs = true ∧ es.toList.map He.keyOf = He.keysIn w.params (t.kvs.map (·.1))
  low : 3 < He.ga K t.name
  nod : (t.kvs.map (·.1)).Nodup
theorem tab_ok {w : World} {h : Heap} {K : PySem.W.Frag} {t : TabD} (a : tabA h.get? K t = true) (b : keysA h.get? K t = some (He.keysIn w.params (t.kvs.map (·.1)))) : TabOk w h K t := by
  unfold tabA at a
  unfold keysA at b
  cases q : h.get? (He.ga K t.name) with
  | none =>
    rw [q] at a
    cases a
  | some o =>
    obtain ⟨oc, od, dt, osl⟩ := o
    rw [q] at a b
    cases oc with
    | type c =>
      cases od with
      | none =>
        cases dt with
        | dict es n =>
          obtain ⟨a1, a2⟩ := bb (show (decide (c = "dict") && (osl.isEmpty && (Nat.blt 3 (He.ga K t.name) && (valsA K es.toList t.kvs && decide (t.kvs.map (·.1)).Nodup)))) = true from a)
          obtain ⟨a3, a4⟩ := bb a2
          obtain ⟨a5, a6⟩ := bb a4
          obtain ⟨a7, a8⟩ := bb a6
          have e1 : c = "dict" := of_decide_eq_true a1
          have e2 : osl = #[] := Array.isEmpty_iff.mp a3
          subst e1 e2
          exact ⟨⟨es, n, q, a7, Option.some.inj b⟩, Nat.le_of_ble_eq_true a5, of_decide_eq_true a8⟩
        | _ => cases a
      | some d => cases dt <;> cases a
    | _ => cases od <;> cases dt <;> cases a
theorem TabOk.obj {P : Program} {w : World} {h : Heap} {K : PySem.W.Frag} {t : TabD} (T : TabOk w h K t) (hl : t.kvs.length ≤ 1000) : ∃ o ws, (∀ H, ObjOk P w H h (He.ga K t.name) (.frz o (.dK ws))) ∧ (∀ B, RepK K B (t.kvs.map fun q => (.inr q.1, q.2.d)) ws) ∧ h.get? (He.ga K t.name) = some o ∧ ∃ es ep, o.data = .dict es ep := by
  obtain ⟨es, n, e, hv, hk⟩ := T.ex
  refine ⟨_, wsOf es.toList t.kvs, fun H => ⟨e, ?_, ?_, vsOf es.toList t.kvs, ws_kv hv, ?_⟩, fun B => ws_rep B hv, e, es, n, rfl⟩
  · unfold wsOf
    rw [List.length_map, List.length_zip]
    exact Nat.le_trans (Nat.min_le_right _ _) (Nat.le_trans hl (by decide))
  · have := T.low
    exact beq_eq_false_iff_ne.mpr (fun z => by rw [z] at this; exact absurd this (by decide))
  · refine ⟨_, es, n, e, ⟨rfl, rfl, rfl⟩, rfl, fun e he => keys_of hk e (by simpa using he), vs_pairs hv hk, ?_⟩
    rw [vs_keys (valsA_len hv)]
    have : (t.kvs.map fun q => (.inr q.1 : Key)) = (t.kvs.map (·.1)).map Sum.inr := by rw [List.map_map]; rfl
    rw [this]
    exact List.Pairwise.map (f := Sum.inr) (fun a b hne z => hne (Sum.inr.inj z)) T.nod
/-! ### the Hook -/
def cutK (ts : List TabD) (F : PySem.W.Frag) : PySem.W.Frag := F.filter fun q => ts.all fun t => !(q.1 == He.ga F t.name)
abbrev AlA : Type := List He.FnW × List (Option (List (Option (Str × Int)))) × Bool
def obsA (n : Nat) (fn : List DefA) (ts : List TabD) (ex : List (PySem.W.Frag → Bool)) (g : Addr → Option Obj) : AlA :=
  (fn.map fun d => fnA (cutK ts (He.frG g (He.asD g n))) (d.ad (cutK ts (He.frG g (He.asD g n)))), ts.map fun t => keysA g (cutK ts (He.frG g (He.asD g n))) t,
    (fn.all fun d => d.ok (cutK ts (He.frG g (He.asD g n)))) && ((ts.all fun t => tabA g (cutK ts (He.frG g (He.asD g n))) t && decide (He.ga (cutK ts (He.frG g (He.asD g n))) t.name = He.ga (He.frG g (He.asD g n)) t.name)) && ex.all fun f => f (cutK ts (He.frG g (He.asD g n)))))
def valA (fn : List DefA) (ts : List TabD) (w : World) : AlA := (fn.map DefA.val, ts.map fun t => some (He.keysIn w.params (t.kvs.map (·.1))), true)
structure SaysA (fn : List DefA) (ts : List TabD) (ex : List (PySem.W.Frag → Bool)) (w : World) (h : Heap) (K : PySem.W.Frag) : Prop where
  kin : K.In h
  defs : ∀ d ∈ fn, ∃ fd, Fun K d.name d.qual d.st (d.ad K) fd
  tabs : ∀ t ∈ ts, TabOk w h K t ∧ K.lookup (He.ga K t.name) = none
  facts : ∀ f ∈ ex, f K = true
theorem lookup_memA {a : Addr} {o : Obj} : ∀ {l : List (Addr × Obj)}, l.lookup a = some o → (a, o) ∈ l
  | [], h => by cases h
  | (b, u) :: r, h => by
    have h2 : (match a == b with | true => some u | false => r.lookup a) = some o := h
    cases q : (a == b) with
    | true =>
      rw [q] at h2
      have e : u = o := Option.some.inj h2
      rw [beq_iff_eq.mp q, e]
      exact List.mem_cons_self
    | false =>
      rw [q] at h2
      exact List.mem_cons_of_mem _ (lookup_memA h2)
theorem frG_memA {g : Addr → Option Obj} {as : List Addr} {a : Addr} {o : Obj} (h : (a, o) ∈ He.frG g as) : g a = some o := by
  obtain ⟨b, _, e⟩ := List.mem_filterMap.mp h
  cases hb : g b with
  | none =>
    rw [hb] at e
    cases e
  | some u =>
    rw [hb] at e
    have e2 : (b, u) = (a, o) := Option.some.inj e
    injection e2 with e3 e4
    rw [← e3, ← e4]
    exact hb
theorem map_at {α β : Type} {f g : α → β} : ∀ {l : List α}, l.map f = l.map g → ∀ x ∈ l, f x = g x
  | [], _, _, hx => by cases hx
  | a :: l, h, x, hx => by
    injection h with h1 h2
    rcases List.mem_cons.mp hx with rfl | hx
    · exact h1
    · exact map_at h2 x hx
theorem says_of {n : Nat} {fn : List DefA} {ts : List TabD} {ex : List (PySem.W.Frag → Bool)} {w : World} {h : Heap} (e : obsA n fn ts ex h.get? = valA fn ts w) : SaysA fn ts ex w h (cutK ts (He.frG h.get? (He.asD h.get? n))) := by
  have e1 : fn.map (fun d => fnA (cutK ts (He.frG h.get? (He.asD h.get? n))) (d.ad (cutK ts (He.frG h.get? (He.asD h.get? n))))) = fn.map DefA.val := congrArg (fun z : AlA => z.1) e
  have e2 : (ts.map fun t => keysA h.get? (cutK ts (He.frG h.get? (He.asD h.get? n))) t) = ts.map fun t => some (He.keysIn w.params (t.kvs.map (·.1))) := congrArg (fun z : AlA => z.2.1) e
  have e3 : ((fn.all fun d => d.ok (cutK ts (He.frG h.get? (He.asD h.get? n)))) && ((ts.all fun t => tabA h.get? (cutK ts (He.frG h.get? (He.asD h.get? n))) t && decide (He.ga (cutK ts (He.frG h.get? (He.asD h.get? n))) t.name = He.ga (He.frG h.get? (He.asD h.get? n)) t.name)) && ex.all fun f => f (cutK ts (He.frG h.get? (He.asD h.get? n))))) = true := congrArg (fun z : AlA => z.2.2) e
  obtain ⟨a1, a2⟩ := bb e3
  obtain ⟨a3, a4⟩ := bb a2
  refine ⟨fun a o hl => ?_, fun d hd => DefA.fun_ (map_at e1 d hd) (List.all_eq_true.mp a1 d hd), fun t ht => ?_, fun f hf => List.all_eq_true.mp a4 f hf⟩
  · exact frG_memA (List.mem_filter.mp (lookup_memA hl)).1
  · obtain ⟨b1, b2⟩ := bb (List.all_eq_true.mp a3 t ht)
    refine ⟨tab_ok b1 (map_at e2 t ht), ?_⟩
    have b3 := of_decide_eq_true b2
    cases q : (cutK ts (He.frG h.get? (He.asD h.get? n))).lookup (He.ga (cutK ts (He.frG h.get? (He.asD h.get? n))) t.name) with
    | none => rfl
    | some o =>
      have := (List.mem_filter.mp (lookup_memA q)).2
      have := List.all_eq_true.mp this t ht
      rw [b3] at this
      simp at this
def hookA (n : Nat) (fn : List DefA) (ts : List TabD) (ex : List (PySem.W.Frag → Bool)) : PySem.W.Hook where
  α := AlA
  obs := fun s => obsA n fn ts ex s.heap.get?
  val := fun w => valA fn ts w
  says := fun w h => ∃ K : PySem.W.Frag, SaysA fn ts ex w h K
  of := fun _ _ e => ⟨_, says_of e⟩
  keeps := fun _ _ _ ⟨K, c⟩ k => ⟨K, PySem.W.Frag.In.keeps c.kin k, c.defs, fun t ht => ⟨⟨let ⟨es, n, e, r⟩ := (c.tabs t ht).1.ex; ⟨es, n, k _ _ e, r⟩, (c.tabs t ht).1.low, (c.tabs t ht).1.nod⟩, (c.tabs t ht).2⟩, c.facts⟩
theorem obsA_eq {n : Nat} {fn : List DefA} {ts : List TabD} {ex : List (PySem.W.Frag → Bool)} {g : Addr → Option Obj} {s : Shared} (h : ∀ a, g a = s.heap.get? a) : obsA n fn ts ex g = (hookA n fn ts ex).obs s := by
  have e : g = s.heap.get? := funext h
  rw [e] <;> rfl
/-! ### the call of the law -/
theorem law_callC {P : Program} {w : World} {K : PySem.W.Frag} {mg mb : Str → Option Value} {CX : CXT} {k : Nat} {fa a : Addr} {fd : FuncData} {x : Str} {sp : Sp} {s₁ : Shared} {vs : List Value} {ns : List Int} {cs : List (Addr × HO)}
    (KX : K.In s₁.heap) (hns : s₁.heap.Ns mainGlobals mg) (hb : s₁.heap.Ns builtinsNs mb) (hbb : ∀ x : Str, x ≠ "__name__" → mb x = bootBuiltins x) (hlim : s₁.heap.NoLimit) (hg : s₁.gens = #[])
    (ha : s₁.heap.get? a = some { cls := .type "list", data := .seq vs.toArray }) (hi : IntsAre vs ns) (hl : ns.length ≤ sizeLine) (hr : Room k callerA)
    (hcs : ∀ p ∈ cs, ∃ o ws, p.2 = .frz o (.dK ws) ∧ (∀ H, ObjOk P w H s₁.heap p.1 (.frz o (.dK ws))) ∧ 3 < p.1 ∧ K.lookup p.1 = none ∧ s₁.heap.get? p.1 = some o ∧ ∃ es ep, o.data = .dict es ep) (hnd : (cs.map (·.1)).Nodup)
    (F : ∀ base : Heap, K.In base → base.Ns mainGlobals mg → FnOk P w K mg base CX k fa fd [x] sp) (hbind : ∀ (s : Shared) (u : Value), BindsTo s fd ⟨[u], []⟩ [(x, u)])
    (hsp : ∀ H : Hp, (∀ p ∈ cs, H p.1 = some p.2) → SqL K H a (ns.map V.int) → sp [.ref a] H (fun v _ => v = .bl true) fun _ _ _ => False)
    (hCX : ∀ H e s', CX [] H s₁ (fun _ _ _ => False) e s' → False) :
    codeAny (model P w) callerA (.call (.ref fa) ⟨[.ref a], []⟩) (fun r s' => r = .ok (.ret (.bool true)) ∧ OldK s₁.heap s'.heap ∧ s'.os = s₁.os ∧ AllBare s'.gens) s₁ := by
  have rv := vals_ints hi
  have lenV := hi.length
  have nca : ∀ p ∈ cs, p.1 ≠ a := fun p hp z => by
    obtain ⟨o, ws, _, _, _, _, e, es, ep, d⟩ := hcs p hp
    rw [z, ha] at e
    cases e
    have d' : Data.seq vs.toArray _ = Data.dict es ep := d
    cases d'
  have core : ∀ H : Hp, (∀ b u, H b = some u → ∃ ob v, u = .frz ob v) → SqL K H a (ns.map V.int) → HOk P w H s₁.heap → (∀ b, H b ≠ none → b = a ∨ 3 < b) → (∀ b, H b ≠ none → K.lookup b = none) → (∀ p ∈ cs, H p.1 = some p.2) →
      codeAny (model P w) callerA (.call (.ref fa) ⟨[.ref a], []⟩) (fun r s' => r = .ok (.ret (.bool true)) ∧ OldK s₁.heap s'.heap ∧ s'.os = s₁.os ∧ AllBare s'.gens) s₁ := by
    intro H hO hS hok hA hK hC
    have base_of : ∀ {b : Addr} {o : Obj}, s₁.heap.get? b = some o → H b = none → (hidT s₁.heap H).get? b = some o := fun e n => hidT_get e n
    have noA : ∀ {b : Addr} {o : Obj} {es : Array DictEntry} {ep : Nat}, b ≤ 3 → s₁.heap.get? b = some o → o.data = .dict es ep → H b = none := fun {b o es ep} h3 e d => by
      cases q : H b with
      | none => rfl
      | some u =>
        rcases hA b (by rw [q]; simp) with e' | e'
        · subst e'
          rw [ha] at e; cases e
          have d' : Data.seq vs.toArray _ = Data.dict es ep := d
          cases d'
        · exact absurd e' (Nat.not_lt.mpr h3)
    have nsK : ∀ {b : Addr} {m : Str → Option Value}, b ≤ 3 → s₁.heap.Ns b m → (hidT s₁.heap H).Ns b m := fun {b m} h3 ⟨o, es, ep, e, d, r⟩ => ⟨o, es, ep, base_of e (noA h3 e d), d, r⟩
    have hKb : K.In (hidT s₁.heap H) := fun b o e => base_of (KX b o e) (by
      cases q : H b with
      | none => rfl
      | some u =>
        rw [hK b (by rw [q]; simp)] at e; cases e)
    have hM : Mod K mg (hidT s₁.heap H) := ⟨hKb, nsK (by decide) hns, ⟨mb, nsK (by decide) hb, hbb⟩, let ⟨mc, h1, h2⟩ := hlim; ⟨mc, nsK (by decide) h1, h2⟩⟩
    have e0 : Env0 P w K mg (hidT s₁.heap H) callerA [] s₁ H := ⟨rfl, hM, fun b o e => of_hidT e, Nat.le_of_eq (hidT_size _ _), trivial, fun b hb => absurd (show b ∈ ([] : List Addr) from hb) (by simp), hok, .of_eq hg⟩
    refine codeAny_mono ((F _ hKb (nsK (by decide) hns)).run callerA [] s₁ H ⟨[.ref a], []⟩ [.ref a] [.ref a] _ _ hr e0 (hbind s₁ (.ref a)) (.cons rfl .nil) (hsp H hC hS)) fun r s' h => ?_
    cases r with
    | error e => exact (hCX H e s' h).elim
    | ok fl =>
      cases fl with
      | next => exact False.elim h
      | brk => exact False.elim h
      | cont => exact False.elim h
      | ret u =>
        obtain ⟨v, H', os, bare, un, hok', r', q⟩ := h
        have q' : v = .bl true := q
        subst q'
        obtain rfl : u = Value.bool true := r'
        refine ⟨rfl, OldK.of_keep fun b o e => ?_, os, bare⟩
        cases q : H b with
        | none => exact un.keep b o e q (by intro z; exact absurd (show b ∈ ([] : List Addr) from z) (by simp)) (by simp)
        | some u =>
          obtain ⟨ob, v, z⟩ := hO b u q
          subst z
          have z2 := un.frzs b ob _ q
          obtain ⟨e1, _⟩ := hok b _ q
          obtain ⟨e2, _⟩ := hok' b _ z2
          rw [e] at e1; cases e1
          exact e2
  have memcs : ∀ {b : Addr} {u : HO}, cs.lookup b = some u → (b, u) ∈ cs := fun {b u} => by
    have key : ∀ l : List (Addr × HO), l.lookup b = some u → (b, u) ∈ l := fun l => by
      induction l with
      | nil => intro h; cases h
      | cons c r ih =>
        intro h
        obtain ⟨c1, c2⟩ := c
        have h2 : (match b == c1 with | true => some c2 | false => r.lookup b) = some u := h
        cases q : (b == c1) with
        | true =>
          rw [q] at h2
          rw [beq_iff_eq.mp q, Option.some.inj h2]
          exact List.mem_cons_self
        | false =>
          rw [q] at h2
          exact List.mem_cons_of_mem _ (ih h2)
    exact key cs
  have lookcs : ∀ p ∈ cs, cs.lookup p.1 = some p.2 := by
    have key : ∀ l : List (Addr × HO), (l.map (·.1)).Nodup → ∀ p ∈ l, l.lookup p.1 = some p.2 := fun l => by
      induction l with
      | nil => intro _ p hp; cases hp
      | cons c r ih =>
        intro hn p hp
        obtain ⟨c1, c2⟩ := c
        show (match p.1 == c1 with | true => some c2 | false => r.lookup p.1) = some p.2
        rw [List.map_cons, List.nodup_cons] at hn
        rcases List.mem_cons.mp hp with rfl | hp
        · simp
        · have : p.1 ≠ c1 := fun z => hn.1 (z ▸ List.mem_map.mpr ⟨p, hp, rfl⟩)
          rw [beq_eq_false_iff_ne.mpr this]
          exact ih hn.2 p hp
    exact key cs hnd
  have csH : ∀ (H : Hp) {b : Addr} {u : HO}, cs.lookup b = some u → ObjOk P w H s₁.heap b u := fun H {b u} h => by
    obtain ⟨o, ws, e, ho, _⟩ := hcs _ (memcs h)
    rw [show u = _ from e]
    exact ho H
  have csF : ∀ {b : Addr} {u : HO}, cs.lookup b = some u → ∃ ob v, u = .frz ob v := fun {b u} h => by
    obtain ⟨o, ws, e, _⟩ := hcs _ (memcs h)
    exact ⟨_, _, e⟩
  have cs3 : ∀ {b : Addr}, cs.lookup b ≠ none → 3 < b ∧ K.lookup b = none := fun {b} h => by
    cases q : cs.lookup b with
    | none => exact absurd q h
    | some u =>
      obtain ⟨o, ws, _, _, h3, h4, _⟩ := hcs _ (memcs q)
      exact ⟨h3, h4⟩
  cases hk : K.lookup a with
  | some o =>
    have e := KX a o hk
    rw [ha] at e
    cases e
    exact core (fun b => cs.lookup b) (fun b u h => csF h) (.inr ⟨_, vs.toArray, _, hk, rfl, rfl, rfl, by rw [List.size_toArray, lenV]; exact hl, by simpa using rv⟩) (fun b u z => csH _ z) (fun b z => .inr (cs3 z).1) (fun b z => (cs3 z).2) lookcs
  | none =>
    refine core (fun b => if b = a then some (.frz { cls := .type "list", data := .seq vs.toArray } (.lst (ns.map V.int))) else cs.lookup b) (fun b u h => ?_) (.inl (.inr ⟨{ cls := .type "list", data := .seq vs.toArray }, if_pos rfl⟩)) (fun b u z => ?_) (fun b z => ?_) (fun b z => ?_) fun p hp => ?_
    · by_cases hb : b = a
      · have h' := (if_pos hb).symm.trans h
        cases h'
        exact ⟨_, _, rfl⟩
      · exact csF ((if_neg hb).symm.trans h)
    · by_cases hb : b = a
      · have z' := (if_pos hb).symm.trans z
        cases z'
        subst hb
        exact ⟨ha, by rw [List.length_map]; exact hl, vs, _, rv, ha⟩
      · exact csH _ ((if_neg hb).symm.trans z)
    · by_cases hb : b = a
      · exact .inl hb
      · exact .inr (cs3 fun q => z ((if_neg hb).trans q)).1
    · by_cases hb : b = a
      · rw [hb]
        exact hk
      · exact (cs3 fun q => z ((if_neg hb).trans q)).2
    · exact (if_neg (nca p hp)).trans (lookcs p hp)
theorem walk_ofC {l : PySem.W.OpenLaw} {n k : Nat} {q : Program} {loose : List Str} {XP : (Str → Option Value) → Heap → Prop} {YP : World → Heap → Prop} {d : DefRec} {CX : World → CXT} {x : Str}
    (hn : l.most = some n) (hn2 : n ≤ sizeLine) (hdf : d.params.defaults = []) (hr : Room k callerA)
    (F : ∀ (w : World) (mg : Str → Option Value) (fa : Addr) (h : Heap), YP w h → h.Ns mainGlobals mg → mg d.name = some (.ref fa) →
      ∃ (K : PySem.W.Frag) (fd : FuncData) (sp : Sp) (cs : List (Addr × HO)), K.In h ∧ (∀ (s : Shared) (u : Value), BindsTo s fd ⟨[u], []⟩ [(x, u)]) ∧
        (∀ p ∈ cs, ∃ o ws, p.2 = .frz o (.dK ws) ∧ (∀ H, ObjOk l.prog w H h p.1 (.frz o (.dK ws))) ∧ 3 < p.1 ∧ K.lookup p.1 = none ∧ h.get? p.1 = some o ∧ ∃ es ep, o.data = .dict es ep) ∧ (cs.map (·.1)).Nodup ∧
        (∀ (H : Hp) (a : Addr) (ns : List Int), ns.length ≤ n → (∀ p ∈ cs, H p.1 = some p.2) → SqL K H a (ns.map V.int) → sp [.ref a] H (fun v _ => v = .bl true) fun _ _ _ => False) ∧
        ∀ base : Heap, K.In base → base.Ns mainGlobals mg → FnOk l.prog w K mg base (CX w) k fa fd [x] sp)
    (hCX : ∀ (w : World) (H : Hp) (s : Shared) (e : Value) (s' : Shared), CX w [] H s (fun _ _ _ => False) e s' → False) :
    PySem.W.WalkO q loose XP YP l.row.toRowW d [] (fun f vs => PySem.call f vs) := by
  refine Att.attach_call hn hdf fun w s₀ s₁ mg mb fa o pm cd doc a vs ns G Y ho hd hcd hmg hobj hints hlen hg => ?_
  obtain ⟨K, fd, sp, cs, KX, hb, hcs, hnd, hsp, hF⟩ := F w mg fa _ Y G.T.g hmg
  exact law_callC KX G.T.g G.T.b G.T.builtins G.T.nolimit hg hobj hints (Nat.le_trans hlen hn2) hr hcs hnd hF hb (fun H hc hS => hsp H a ns hlen hc hS) fun H e s' => hCX w H s₁ e s'
/-! ### facts as looks -/
section
variable {K : PySem.W.Frag} {fn : List DefA} {ts : List TabD} {ex : List (PySem.W.Frag → Bool)} {w : World} {h : Heap}
theorem SaysA.fact (c : SaysA fn ts ex w h K) (i : Nat) {f : PySem.W.Frag → Bool} (e : ex[i]? = some f) : f K = true := c.facts f (List.mem_of_getElem? e)
theorem SaysA.def_ (c : SaysA fn ts ex w h K) (i : Nat) {d : DefA} (e : fn[i]? = some d) : ∃ fd, Fun K d.name d.qual d.st (d.ad K) fd := c.defs d (List.mem_of_getElem? e)
theorem SaysA.tab (c : SaysA fn ts ex w h K) (i : Nat) {t : TabD} (e : ts[i]? = some t) : TabOk w h K t ∧ K.lookup (He.ga K t.name) = none := c.tabs t (List.mem_of_getElem? e)
def propB (x m : Str) (K : PySem.W.Frag) : Bool := He.eqO (PySem.W.findIn K (.ref (He.ga K x)) m) (some (some (.ref (He.ma K (He.ga K x) m)))) && (He.eqO (PySem.W.specialIn K (.ref (He.ma K (He.ga K x) m)) "__get__") (some (some (.builtin "property.__get__"))) && (decide (PySem.W.takesIn K (.ref (He.ma K (He.ga K x) m)) = some true) &&
  (match PySem.W.recIn K (He.ma K (He.ga K x) m) "property" with
  | some (.ref _ :: _) => true
  | _ => false)))
theorem prop_ok {x m : Str} (c : propB x m K = true) : PropOf K (He.ga K x) m (He.ma K (He.ga K x) m) (getA x m K) := by
  obtain ⟨c1, c2⟩ := bb c
  obtain ⟨c3, c4⟩ := bb c2
  obtain ⟨c5, c6⟩ := bb c4
  refine ⟨He.eqO_ok c1, He.eqO_ok c3, of_decide_eq_true c5, ?_⟩
  unfold getA
  split at c6
  · rename_i a r q
    rw [q]
    exact ⟨r, rfl⟩
  · cases c6
def sclsB (x : Str) (K : PySem.W.Frag) : Bool := PySem.W.plainGet K (He.ga K x) Str.empty && (PySem.W.isClsIn K (He.ga K x) && (PySem.W.plainOver K (He.ga K x) && He.eqO (PySem.W.findIn K (.ref (He.ga K x)) "__setattr__") (some (some (.builtin "object.__setattr__")))))
theorem scls_ok {x : Str} (c : sclsB x K = true) : SlX.SCls K (He.ga K x) := by
  obtain ⟨c1, c2⟩ := bb c
  obtain ⟨c3, c4⟩ := bb c2
  obtain ⟨c5, c6⟩ := bb c4
  exact ⟨c1, c3, c5, He.eqO_ok c6⟩
def slotB (x f : Str) (i : Nat) (K : PySem.W.Frag) : Bool := He.eqO (PySem.W.findIn K (.ref (He.ga K x)) f) (some (some (.ref (He.ma K (He.ga K x) f)))) && (He.eqO (PySem.W.specialIn K (.ref (He.ma K (He.ga K x) f)) "__get__") (some (some (.builtin "member_descriptor.__get__"))) && (decide (PySem.W.takesIn K (.ref (He.ma K (He.ga K x) f)) = some true) &&
  (decide (PySem.W.typeIn K (.ref (He.ma K (He.ga K x) f)) = some (.type "member_descriptor")) && decide (PySem.W.slotIn K (He.ma K (He.ga K x) f) (He.ga K x) = some i))))
theorem slot_ok {x f : Str} {i : Nat} (c : slotB x f i K = true) (hl : i < 1000) : SlX.Slot1 K (He.ga K x) f (He.ma K (He.ga K x) f) i := by
  obtain ⟨c1, c2⟩ := bb c
  obtain ⟨c3, c4⟩ := bb c2
  obtain ⟨c5, c6⟩ := bb c4
  obtain ⟨c7, c8⟩ := bb c6
  exact ⟨He.eqO_ok c1, He.eqO_ok c3, of_decide_eq_true c5, of_decide_eq_true c7, of_decide_eq_true c8, hl⟩
def allTy : List TyN := [.int, .bool, .str, .tuple, .list, .dict, .non]
theorem allTy_mem (t : TyN) : t ∈ allTy := by cases t <;> simp [allTy]
def isiK (x : Str) (K : PySem.W.Frag) : Bool := He.eqO (PySem.W.findIn K (.ref (He.ga K x)) "__class__") (some (some (.builtin "object.__class__"))) && (He.eqO (PySem.W.specialIn K (.builtin "object.__class__") "__get__") (some (some (.builtin "getset_descriptor.__get__"))) && (decide (PySem.W.takesIn K (.builtin "object.__class__") = some true) &&
  (decide (PySem.W.mroIn K (He.ga K x) (.type "object") = some true) && (PySem.W.plainGet K (He.ga K x) "__class__" && (PySem.W.isClsIn K (He.ga K x) && allTy.all fun t => decide (PySem.W.kitOne K (.type t.nm) (.ref (He.ga K x)) = some false))))))
theorem isiK_ok {x : Str} {L : List Str} (c : isiK x K = true) : IsiOk K ⟨He.ga K x, L⟩ := by
  obtain ⟨c1, c2⟩ := bb c
  obtain ⟨c3, c4⟩ := bb c2
  obtain ⟨c5, c6⟩ := bb c4
  obtain ⟨c7, c8⟩ := bb c6
  obtain ⟨c9, d1⟩ := bb c8
  obtain ⟨d2, d3⟩ := bb d1
  exact ⟨He.eqO_ok c1, He.eqO_ok c3, of_decide_eq_true c5, of_decide_eq_true c7, c9, d2, fun t => of_decide_eq_true (List.all_eq_true.mp d3 t (allTy_mem t))⟩
/-- what the head looks at of an exception class -/
def errB (x : Str) (K : PySem.W.Frag) : Bool := (He.Fa.exc x).ok K
theorem err_ok {mg : Str → Option Value} {x : Str} (c : errB x K = true) (g : mg x = some (.ref (He.ga K x))) : ErrC K mg x (He.ga K x) := by
  obtain ⟨h1, h2, h3, h4⟩ := He.exc_ok c
  exact ⟨g, h1, h2, h3, h4⟩
def isTypeV : Value → Bool
  | .type t => decide (t = "type")
  | _ => false
def oexB (x : Str) (K : PySem.W.Frag) : Bool := (match K.lookup (He.ga K x) with
  | some ⟨oc, _, .cls cd, sl⟩ => isTypeV oc && (match cd.mro, sl.toList with
    | .ref C' :: bm, [_, _, _, _, some (.builtin n), _] => decide (C' = He.ga K x) && (decide (n = "ValueError.__new__") && (!cd.hasDel && (cd.hasDict && PySem.HandSPX.refsVE bm)))
    | _, _ => false)
  | _ => false) && (He.eqO (PySem.W.findIn K (.ref (He.ga K x)) "__setattr__") (some (some (.builtin "object.__setattr__"))) && (decide (PySem.W.subIn K (.ref (He.ga K x)) (.type "BaseException") = some true) &&
    (decide (PySem.W.typeIn K (.ref (He.ga K x)) = some (.type "type")) && PySem.W.keepIn K (.ref (He.ga K x)))))
theorem oex_ok {x : Str} (c : oexB x K = true) : OexC K (He.ga K x) := by
  obtain ⟨c1, c2⟩ := bb c
  obtain ⟨c3, c4⟩ := bb c2
  obtain ⟨c5, c6⟩ := bb c4
  obtain ⟨c7, c8⟩ := bb c6
  refine ⟨?_, He.eqO_ok c3, of_decide_eq_true c5, of_decide_eq_true c7, c8⟩
  split at c1
  · rename_i oc dd cd sl hl
    obtain ⟨d1, d2⟩ := bb c1
    split at d2
    · rename_i C' bm k0 k1 k2 k3 n k5 hm hs
      obtain ⟨e1, e2⟩ := bb d2
      obtain ⟨e3, e4⟩ := bb e2
      obtain ⟨e5, e6⟩ := bb e4
      obtain ⟨e7, e8⟩ := bb e6
      have eo : oc = .type "type" := by
        unfold isTypeV at d1
        split at d1
        · rw [of_decide_eq_true d1]
        · cases d1
      have ec := of_decide_eq_true e1
      have en := of_decide_eq_true e3
      obtain ⟨nm, bs, mro, nsA, qn, hd, sn, sub, ab, col, del⟩ := cd
      dsimp only at hm e5 e7
      have edel : del = false := by cases del <;> first | rfl | cases e5
      subst eo ec en hm edel e7
      have hsl : sl = #[k0, k1, k2, k3, some (.builtin "ValueError.__new__"), k5] := by
        obtain ⟨l⟩ := sl
        simp only at hs
        rw [hs]
      subst hsl
      exact ⟨nm, qn, nsA, bs, bm, sn, sub, ab, col, dd, k0, k1, k2, k3, k5, hl, e8⟩
    · cases d2
  · cases c1
def initB (x : Str) (K : PySem.W.Frag) : Bool := He.eqO (PySem.W.findIn K (.ref (He.ga K x)) "__init__") (some (some (.ref (He.ma K (He.ga K x) "__init__")))) && decide (PySem.W.typeIn K (.ref (He.ma K (He.ga K x) "__init__")) = some (.type "function"))
theorem init_ok {x : Str} (c : initB x K = true) : PySem.W.findIn K (.ref (He.ga K x)) "__init__" = some (some (.ref (He.ma K (He.ga K x) "__init__"))) ∧ PySem.W.typeIn K (.ref (He.ma K (He.ga K x) "__init__")) = some (.type "function") := by
  obtain ⟨c1, c2⟩ := bb c
  exact ⟨He.eqO_ok c1, of_decide_eq_true c2⟩
def excCB (x : Str) (K : PySem.W.Frag) : Bool := L2.xfB K (He.ga K x) && (He.eqO (PySem.W.findIn K (.ref (He.ga K x)) "__class__") (some (some (.builtin "object.__class__"))) && (He.eqO (PySem.W.specialIn K (.builtin "object.__class__") "__get__") (some (some (.builtin "getset_descriptor.__get__"))) &&
  (decide (PySem.W.takesIn K (.builtin "object.__class__") = some true) && decide (PySem.W.mroIn K (He.ga K x) (.type "object") = some true))))
theorem excC_ok {x : Str} (c : excCB x K = true) : ExcC K (He.ga K x) := by
  obtain ⟨c1, c2⟩ := bb c
  obtain ⟨c3, c4⟩ := bb c2
  obtain ⟨c5, c6⟩ := bb c4
  obtain ⟨c7, c8⟩ := bb c6
  obtain ⟨d1, d2, d3, d4⟩ := xfB_ok c1
  exact ⟨d1, d2, d3, d4, He.eqO_ok c3, He.eqO_ok c5, of_decide_eq_true c7, of_decide_eq_true c8⟩
def eqClsB (x : Str) (K : PySem.W.Frag) : Bool := (PySem.W.clsIn K (He.ga K x)).isSome && allTy.all fun t => PySem.W.notFirst K (He.ga K x) (.type t.nm)
end
/-- how the law's def binds -/
theorem Fun.bindsA {K : PySem.W.Frag} {x qual : Str} {st : Stmt} {f : Addr} {fd : FuncData} {ps : List Str} (F : Fun K x qual st f fd)
    (h : ∀ (kV doc pm : Value) (an : Option Addr) (cdv ct : Value) (us : List Value), us.length = ps.length → bindArgs (PySem.W.fnOf x qual (defArgs st) (defBody st) (defScope st) .none kV doc pm an cdv ct) ⟨us, []⟩ = pure (ps.zip us)) (s : Shared) (us : List Value) (hl : us.length = ps.length) : BindsTo s fd ⟨us, []⟩ (ps.zip us) := by
  obtain ⟨oc, od, kV, doc, pm, an, cdv, ct, osl, rfl, lk, hcd⟩ := F.ex
  exact .of_eq (h kV doc pm an cdv ct us hl)
/-- the promise of the def that stands there, over every base -/
theorem Callee.fnOk [Csts] {P : Program} {w : World} {K : PySem.W.Frag} {mg : Str → Option Value} {base : Heap} {x qual : Str} {k : Nat} {ps : List Str} {dsp : DSp} {st : Stmt} {f : Addr} {fd : FuncData} (C : Callee P w K mg base x k ps dsp) (F : Fun K x qual st f fd) (hm : mg x = some (.ref f)) :
    FnOk P w K mg base (L2.CX P w) k f fd ps (Up K dsp) := by
  obtain ⟨g, gd, h1, h2, h3, G⟩ := C.ex
  rw [hm] at h1
  cases h1
  obtain ⟨oc, od, osl, l1⟩ := h3.is
  obtain ⟨oc2, od2, osl2, l2⟩ := Fun.isF F
  rw [l1] at l2
  cases l2
  exact G
/-- a law's entry -/
theorem law_entry {K : PySem.W.Frag} {cs : List (Addr × HO)} {H : Hp} {a : Addr} {ns : List Int} (hl : ∀ p ∈ cs, isLock p.2 = true) (hc : ∀ p ∈ cs, H p.1 = some p.2) (hS : SqL K H a (ns.map V.int)) {dsp : DSp} (hd : dsp [.d (.frl (ns.map D.int))] [] (fun d _ => d = .d (.bl true)) fun _ _ _ => False) :
    @Up ⟨cs⟩ K dsp [.ref a] H (fun v _ => v = .bl true) fun _ _ _ => False := by
  letI : Csts := ⟨cs⟩
  have hr : ∀ l : List Int, RepL K H (l.map D.int) (l.map V.int) := fun l => by
    induction l with
    | nil => unfold RepL; trivial
    | cons x r ih =>
      unfold RepL
      exact ⟨by simp only [Rep], ih⟩
  refine ⟨H, [], [], [.d (.frl (ns.map D.int))], [], _, _, ⟨Sub.refl H, fun p hp => (by cases hp), rfl, List.nodup_nil, fun i a o h => (by simp at h), fun i a o h => (by simp at h), fun i a h => (by simp at h), fun p hp => ⟨hc p hp, hl p hp⟩⟩, ⟨?_, trivial⟩, hd, fun d M' v B' L' H' h _ _ r => ?_, fun _ _ _ _ _ _ _ h => h.elim⟩
  · show Rep K H (.frl (ns.map D.int)) (.ref a)
    unfold Rep
    exact ⟨a, _, rfl, hS, hr ns⟩
  · subst h
    exact rv_bl.mp r
end DL

namespace LW
open PySem PySem.Spec PyProof.Rows L2 DL
variable [Csts]
/-! ### the head -/
def fnL0 : List DefA := [⟨fun K => He.ga K "is_integer", "is_integer", "is_integer", sIsInt⟩,
  ⟨fun K => He.ga K "is_between", "is_between", "is_between", sIsBet⟩,
  ⟨fun K => He.ga K "look_at_rule", "look_at_rule", "look_at_rule", sLookRule⟩,
  ⟨fun K => He.ma K (He.ga K "Plan") "__init__", "__init__", "Plan.__init__", sPlanInit⟩,
  ⟨fun K => He.ga K "is_deed", "is_deed", "is_deed", sIsDeed⟩,
  ⟨fun K => He.ga K "look_at_script", "look_at_script", "look_at_script", sLookScr⟩,
  ⟨fun K => He.ma K (He.ga K "InvalidText") "__init__", "__init__", "InvalidText.__init__", sTextInit⟩,
  ⟨fun K => He.ma K (He.ga K "Line") "__init__", "__init__", "Line.__init__", sLineInit⟩,
  ⟨fun K => He.ma K (He.ga K "Line") "refuse", "refuse", "Line.refuse", sLineRefuse⟩,
  ⟨fun K => He.ma K (He.ga K "Line") "take_one", "take_one", "Line.take_one", sLineTake⟩,
  ⟨fun K => He.ma K (He.ga K "Line") "take_number", "take_number", "Line.take_number", sLineNum⟩,
  ⟨fun K => He.ma K (He.ga K "Line") "finish", "finish", "Line.finish", sLineFin⟩]
def fnL1 : List DefA := [⟨fun K => He.ga K "words_of", "words_of", "words_of", sWordsOf⟩,
  ⟨fun K => He.ga K "plan_in", "plan_in", "plan_in", sPlanIn⟩,
  ⟨fun K => He.ga K "deed_in", "deed_in", "deed_in", sDeedIn⟩,
  ⟨fun K => He.ga K "read", "read", "read", sRead⟩,
  ⟨fun K => He.ga K "write", "write", "write", sWrite⟩,
  ⟨fun K => He.ga K "_law_mix", "_law_mix", "_law_mix", sMix⟩,
  ⟨fun K => He.ga K "_law_next", "_law_next", "_law_next", sNext⟩,
  ⟨fun K => He.ga K "_law_points", "_law_points", "_law_points", sPoints⟩,
  ⟨fun K => He.ga K "_law_plan", "_law_plan", "_law_plan", sLPlan⟩,
  ⟨fun K => He.ga K "_law_deed", "_law_deed", "_law_deed", sLDeed⟩,
  ⟨fun K => He.ga K "_law_script", "_law_script", "_law_script", sLScript⟩,
  ⟨fun K => He.ga K "_law_built", "_law_built", "_law_built", sBuilt⟩]
def fnL2 : List DefA := [⟨fun K => He.ga K "_law_bad", "_law_bad", "_law_bad", sLBad⟩,
  ⟨fun K => He.ga K "_law_due", "_law_due", "_law_due", sLDue⟩,
  ⟨fun K => He.ga K "_law_spoil", "_law_spoil", "_law_spoil", sSpoil⟩,
  ⟨fun K => He.ga K "_law_told", "_law_told", "_law_told", sLTold⟩,
  ⟨fun K => He.ga K "law", "law", "law", sLaw⟩]
def fnL : List DefA := fnL0 ++ fnL1 ++ fnL2
def tsL : List TabD := [⟨"POINTS", [("amid", .tx ["pushes", "refused"]), ("closes", .tx ["along", "stays"]), ("puts", .tx ["first", "next", "roomiest"])]⟩, ⟨"SIZES", [("put", .int 2), ("amid", .int 3), ("take", .int 2), ("ask", .int 2)]⟩]
def exL0 : List (PySem.W.Frag → Bool) := [(He.Fa.glo "is_integer").ok,
  (He.Fa.glo "is_between").ok,
  (He.Fa.glo "look_at_rule").ok,
  (He.Fa.mkr "Plan").ok,
  (He.Fa.glo "Plan").ok,
  (He.Fa.glo "is_deed").ok,
  (He.Fa.glo "look_at_script").ok,
  oexB "InvalidText",
  (He.Fa.glo "InvalidText").ok,
  initB "InvalidText",
  (He.Fa.mkr "Line").ok,
  (He.Fa.glo "Line").ok,
  (He.Fa.meth "Line" "refuse").ok,
  (He.Fa.meth "Line" "take_one").ok,
  (He.Fa.meth "Line" "take_number").ok,
  (He.Fa.meth "Line" "finish").ok,
  (He.Fa.glo "words_of").ok,
  (He.Fa.glo "plan_in").ok,
  (He.Fa.glo "deed_in").ok,
  (He.Fa.glo "read").ok,
  (He.Fa.glo "write").ok,
  (He.Fa.glo "_law_mix").ok,
  (He.Fa.glo "_law_next").ok,
  (He.Fa.glo "_law_points").ok,
  (He.Fa.glo "_law_plan").ok,
  (He.Fa.glo "_law_deed").ok,
  (He.Fa.glo "_law_script").ok,
  (He.Fa.glo "_law_built").ok,
  (He.Fa.glo "_law_bad").ok,
  (He.Fa.glo "_law_due").ok]
def exL1 : List (PySem.W.Frag → Bool) := [(He.Fa.glo "_law_spoil").ok,
  (He.Fa.glo "_law_told").ok,
  (He.Fa.glo "law").ok,
  sclsB "Plan",
  slotB "Plan" "many_books" 0,
  slotB "Plan" "many_shelves" 1,
  slotB "Plan" "points" 2,
  (He.Fa.cls "Line").ok,
  (He.Fa.noat "Line" "number").ok,
  (He.Fa.noat "Line" "parts").ok,
  (He.Fa.noat "Line" "place").ok,
  (He.Fa.free "isinstance").ok,
  (He.Fa.free "int").ok,
  (He.Fa.free "bool").ok,
  (He.Fa.free "str").ok,
  (He.Fa.free "tuple").ok,
  (He.Fa.free "list").ok,
  (He.Fa.free "dict").ok,
  (He.Fa.free "len").ok,
  (He.Fa.free "all").ok,
  (He.Fa.free "any").ok,
  (He.Fa.free "sum").ok,
  (He.Fa.free "max").ok,
  (He.Fa.free "min").ok,
  (He.Fa.free "range").ok,
  (He.Fa.free "enumerate").ok,
  (He.Fa.free "sorted").ok,
  (He.Fa.int "MOST_BOOKS" (4)).ok,
  (He.Fa.int "MOST_SHELVES" (3)).ok,
  (He.Fa.int "MOST_DEEDS" (8)).ok]
def exL2 : List (PySem.W.Frag → Bool) := [(He.Fa.glo "POINTS").ok,
  (He.Fa.glo "SIZES").ok,
  (fun K => L2.xfB K (He.ga K "InvalidText")),
  (He.Fa.noat "InvalidText" "line").ok,
  (He.Fa.noat "InvalidText" "word").ok,
  (He.Fa.exm "InvalidText" "InvalidText" true).ok,
  (fun K => decide (He.ga K "POINTS" ≠ He.ga K "SIZES"))]
def exL : List (PySem.W.Frag → Bool) := exL0 ++ exL1 ++ exL2
abbrev Says (w : World) (h : Heap) (K : PySem.W.Frag) : Prop := SaysA fnL tsL exL w h K
section
variable {w : World} {h : Heap} {K : PySem.W.Frag} {mg : Str → Option Value}
theorem F_IsInt (c : Says w h K) (G : h.Ns mainGlobals mg) : FunG K mg "is_integer" sIsInt pIsInt := by
  obtain ⟨fd, F⟩ := c.def_ 0 rfl
  exact ⟨_, fd, F, He.glo_ok c.kin G (c.fact 0 rfl), (F.binds fun _ _ _ _ _ _ us hl => match us, hl with | [_], _ => rfl)⟩
theorem F_IsBet (c : Says w h K) (G : h.Ns mainGlobals mg) : FunG K mg "is_between" sIsBet pIsBet := by
  obtain ⟨fd, F⟩ := c.def_ 1 rfl
  exact ⟨_, fd, F, He.glo_ok c.kin G (c.fact 1 rfl), (F.binds fun _ _ _ _ _ _ us hl => match us, hl with | [_, _, _], _ => rfl)⟩
theorem F_LookRule (c : Says w h K) (G : h.Ns mainGlobals mg) : FunG K mg "look_at_rule" sLookRule pLookRule := by
  obtain ⟨fd, F⟩ := c.def_ 2 rfl
  exact ⟨_, fd, F, He.glo_ok c.kin G (c.fact 2 rfl), (F.binds fun _ _ _ _ _ _ us hl => match us, hl with | [_], _ => rfl)⟩
theorem F_PlanInit {L : List Str} (c : Says w h K) (G : h.Ns mainGlobals mg) : FunI K mg ⟨He.ga K "Plan", L⟩ "Plan" "Plan.__init__" sPlanInit pPlanInit := by
  obtain ⟨fd, F⟩ := c.def_ 3 rfl
  exact ⟨_, fd, F, He.mkr_ok (c.fact 3 rfl), He.glo_ok c.kin G (c.fact 4 rfl), (F.binds fun _ _ _ _ _ _ us hl => match us, hl with | [_, _, _, _], _ => rfl)⟩
theorem F_IsDeed (c : Says w h K) (G : h.Ns mainGlobals mg) : FunG K mg "is_deed" sIsDeed pIsDeed := by
  obtain ⟨fd, F⟩ := c.def_ 4 rfl
  exact ⟨_, fd, F, He.glo_ok c.kin G (c.fact 5 rfl), (F.binds fun _ _ _ _ _ _ us hl => match us, hl with | [_, _], _ => rfl)⟩
theorem F_LookScr (c : Says w h K) (G : h.Ns mainGlobals mg) : FunG K mg "look_at_script" sLookScr pLookScr := by
  obtain ⟨fd, F⟩ := c.def_ 5 rfl
  exact ⟨_, fd, F, He.glo_ok c.kin G (c.fact 6 rfl), (F.binds fun _ _ _ _ _ _ us hl => match us, hl with | [_, _], _ => rfl)⟩
theorem F_TextInit (c : Says w h K) (G : h.Ns mainGlobals mg) : FunE K mg "InvalidText" "InvalidText.__init__" (He.ga K "InvalidText") sTextInit pTextInit := by
  obtain ⟨fd, F⟩ := c.def_ 6 rfl
  exact ⟨He.glo_ok c.kin G (c.fact 8 rfl), oex_ok (c.fact 7 rfl), _, fd, F, (init_ok (c.fact 9 rfl)).1, (init_ok (c.fact 9 rfl)).2, (F.binds fun _ _ _ _ _ _ us hl => match us, hl with | [_, _, _], _ => rfl)⟩
theorem F_LineInit {L : List Str} (c : Says w h K) (G : h.Ns mainGlobals mg) : FunI K mg ⟨He.ga K "Line", L⟩ "Line" "Line.__init__" sLineInit pLineInit := by
  obtain ⟨fd, F⟩ := c.def_ 7 rfl
  exact ⟨_, fd, F, He.mkr_ok (c.fact 10 rfl), He.glo_ok c.kin G (c.fact 11 rfl), (F.binds fun _ _ _ _ _ _ us hl => match us, hl with | [_, _, _], _ => rfl)⟩
theorem F_LineRefuse {L : List Str} (c : Says w h K) : FunM K ⟨He.ga K "Line", L⟩ "refuse" "Line.refuse" sLineRefuse pLineRefuse := by
  obtain ⟨fd, F⟩ := c.def_ 8 rfl
  exact ⟨_, fd, F, He.meth_ok (c.fact 12 rfl), (F.binds fun _ _ _ _ _ _ us hl => match us, hl with | [_], _ => rfl)⟩
theorem F_LineTake {L : List Str} (c : Says w h K) : FunM K ⟨He.ga K "Line", L⟩ "take_one" "Line.take_one" sLineTake pLineTake := by
  obtain ⟨fd, F⟩ := c.def_ 9 rfl
  exact ⟨_, fd, F, He.meth_ok (c.fact 13 rfl), (F.binds fun _ _ _ _ _ _ us hl => match us, hl with | [_, _], _ => rfl)⟩
theorem F_LineNum {L : List Str} (c : Says w h K) : FunM K ⟨He.ga K "Line", L⟩ "take_number" "Line.take_number" sLineNum pLineNum := by
  obtain ⟨fd, F⟩ := c.def_ 10 rfl
  exact ⟨_, fd, F, He.meth_ok (c.fact 14 rfl), (F.binds fun _ _ _ _ _ _ us hl => match us, hl with | [_, _, _], _ => rfl)⟩
theorem F_LineFin {L : List Str} (c : Says w h K) : FunM K ⟨He.ga K "Line", L⟩ "finish" "Line.finish" sLineFin pLineFin := by
  obtain ⟨fd, F⟩ := c.def_ 11 rfl
  exact ⟨_, fd, F, He.meth_ok (c.fact 15 rfl), (F.binds fun _ _ _ _ _ _ us hl => match us, hl with | [_], _ => rfl)⟩
theorem F_WordsOf (c : Says w h K) (G : h.Ns mainGlobals mg) : FunG K mg "words_of" sWordsOf pWordsOf := by
  obtain ⟨fd, F⟩ := c.def_ 12 rfl
  exact ⟨_, fd, F, He.glo_ok c.kin G (c.fact 16 rfl), (F.binds fun _ _ _ _ _ _ us hl => match us, hl with | [_], _ => rfl)⟩
theorem F_PlanIn (c : Says w h K) (G : h.Ns mainGlobals mg) : FunG K mg "plan_in" sPlanIn pPlanIn := by
  obtain ⟨fd, F⟩ := c.def_ 13 rfl
  exact ⟨_, fd, F, He.glo_ok c.kin G (c.fact 17 rfl), (F.binds fun _ _ _ _ _ _ us hl => match us, hl with | [_], _ => rfl)⟩
theorem F_DeedIn (c : Says w h K) (G : h.Ns mainGlobals mg) : FunG K mg "deed_in" sDeedIn pDeedIn := by
  obtain ⟨fd, F⟩ := c.def_ 14 rfl
  exact ⟨_, fd, F, He.glo_ok c.kin G (c.fact 18 rfl), (F.binds fun _ _ _ _ _ _ us hl => match us, hl with | [_, _], _ => rfl)⟩
theorem F_Read (c : Says w h K) (G : h.Ns mainGlobals mg) : FunG K mg "read" sRead pRead := by
  obtain ⟨fd, F⟩ := c.def_ 15 rfl
  exact ⟨_, fd, F, He.glo_ok c.kin G (c.fact 19 rfl), (F.binds fun _ _ _ _ _ _ us hl => match us, hl with | [_], _ => rfl)⟩
theorem F_Write (c : Says w h K) (G : h.Ns mainGlobals mg) : FunG K mg "write" sWrite pWrite := by
  obtain ⟨fd, F⟩ := c.def_ 16 rfl
  exact ⟨_, fd, F, He.glo_ok c.kin G (c.fact 20 rfl), (F.binds fun _ _ _ _ _ _ us hl => match us, hl with | [_, _], _ => rfl)⟩
theorem F_Mix (c : Says w h K) (G : h.Ns mainGlobals mg) : FunG K mg "_law_mix" sMix pMix := by
  obtain ⟨fd, F⟩ := c.def_ 17 rfl
  exact ⟨_, fd, F, He.glo_ok c.kin G (c.fact 21 rfl), (F.binds fun _ _ _ _ _ _ us hl => match us, hl with | [_, _], _ => rfl)⟩
theorem F_Next (c : Says w h K) (G : h.Ns mainGlobals mg) : FunG K mg "_law_next" sNext pNext := by
  obtain ⟨fd, F⟩ := c.def_ 18 rfl
  exact ⟨_, fd, F, He.glo_ok c.kin G (c.fact 22 rfl), (F.binds fun _ _ _ _ _ _ us hl => match us, hl with | [_, _], _ => rfl)⟩
theorem F_Points (c : Says w h K) (G : h.Ns mainGlobals mg) : FunG K mg "_law_points" sPoints pPoints := by
  obtain ⟨fd, F⟩ := c.def_ 19 rfl
  exact ⟨_, fd, F, He.glo_ok c.kin G (c.fact 23 rfl), (F.binds fun _ _ _ _ _ _ us hl => match us, hl with | [], _ => rfl)⟩
theorem F_LPlan (c : Says w h K) (G : h.Ns mainGlobals mg) : FunG K mg "_law_plan" sLPlan pLPlan := by
  obtain ⟨fd, F⟩ := c.def_ 20 rfl
  exact ⟨_, fd, F, He.glo_ok c.kin G (c.fact 24 rfl), (F.binds fun _ _ _ _ _ _ us hl => match us, hl with | [_, _, _], _ => rfl)⟩
theorem F_LDeed (c : Says w h K) (G : h.Ns mainGlobals mg) : FunG K mg "_law_deed" sLDeed pLDeed := by
  obtain ⟨fd, F⟩ := c.def_ 21 rfl
  exact ⟨_, fd, F, He.glo_ok c.kin G (c.fact 25 rfl), (F.binds fun _ _ _ _ _ _ us hl => match us, hl with | [_, _, _], _ => rfl)⟩
theorem F_LScript (c : Says w h K) (G : h.Ns mainGlobals mg) : FunG K mg "_law_script" sLScript pLScript := by
  obtain ⟨fd, F⟩ := c.def_ 22 rfl
  exact ⟨_, fd, F, He.glo_ok c.kin G (c.fact 26 rfl), (F.binds fun _ _ _ _ _ _ us hl => match us, hl with | [_, _, _], _ => rfl)⟩
theorem F_Built (c : Says w h K) (G : h.Ns mainGlobals mg) : FunG K mg "_law_built" sBuilt pBuilt := by
  obtain ⟨fd, F⟩ := c.def_ 23 rfl
  exact ⟨_, fd, F, He.glo_ok c.kin G (c.fact 27 rfl), (F.binds fun _ _ _ _ _ _ us hl => match us, hl with | [_], _ => rfl)⟩
theorem F_LBad (c : Says w h K) (G : h.Ns mainGlobals mg) : FunG K mg "_law_bad" sLBad pLBad := by
  obtain ⟨fd, F⟩ := c.def_ 24 rfl
  exact ⟨_, fd, F, He.glo_ok c.kin G (c.fact 28 rfl), (F.binds fun _ _ _ _ _ _ us hl => match us, hl with | [_, _], _ => rfl)⟩
theorem F_LDue (c : Says w h K) (G : h.Ns mainGlobals mg) : FunG K mg "_law_due" sLDue pLDue := by
  obtain ⟨fd, F⟩ := c.def_ 25 rfl
  exact ⟨_, fd, F, He.glo_ok c.kin G (c.fact 29 rfl), (F.binds fun _ _ _ _ _ _ us hl => match us, hl with | [_], _ => rfl)⟩
theorem F_Spoil (c : Says w h K) (G : h.Ns mainGlobals mg) : FunG K mg "_law_spoil" sSpoil pSpoil := by
  obtain ⟨fd, F⟩ := c.def_ 26 rfl
  exact ⟨_, fd, F, He.glo_ok c.kin G (c.fact 30 rfl), (F.binds fun _ _ _ _ _ _ us hl => match us, hl with | [_, _], _ => rfl)⟩
theorem F_LTold (c : Says w h K) (G : h.Ns mainGlobals mg) : FunG K mg "_law_told" sLTold pLTold := by
  obtain ⟨fd, F⟩ := c.def_ 27 rfl
  exact ⟨_, fd, F, He.glo_ok c.kin G (c.fact 31 rfl), (F.binds fun _ _ _ _ _ _ us hl => match us, hl with | [_], _ => rfl)⟩
theorem F_Law (c : Says w h K) (G : h.Ns mainGlobals mg) : FunG K mg "law" sLaw pLaw := by
  obtain ⟨fd, F⟩ := c.def_ 28 rfl
  exact ⟨_, fd, F, He.glo_ok c.kin G (c.fact 32 rfl), (F.binds fun _ _ _ _ _ _ us hl => match us, hl with | [_], _ => rfl)⟩
theorem C_Plan (c : Says w h K) : SloOk K ⟨He.ga K "Plan", ["many_books", "many_shelves", "points"]⟩ := ⟨scls_ok (c.fact 33 rfl), fun j f hj => match j, f, hj with
  | 0, _, rfl => ⟨_, slot_ok (c.fact 34 rfl) (by decide)⟩
  | 1, _, rfl => ⟨_, slot_ok (c.fact 35 rfl) (by decide)⟩
  | 2, _, rfl => ⟨_, slot_ok (c.fact 36 rfl) (by decide)⟩⟩
theorem C_Line (c : Says w h K) : ClsOk K ⟨He.ga K "Line", ["number", "parts", "place"]⟩ := ⟨He.cls_ok (c.fact 37 rfl), (show (["number", "parts", "place"] : List Str).Nodup by decide), fun f hf => by
  simp only [List.mem_cons, List.not_mem_nil, or_false] at hf
  rcases hf with rfl | rfl | rfl
  · exact He.noat_ok (c.fact 38 rfl)
  · exact He.noat_ok (c.fact 39 rfl)
  · exact He.noat_ok (c.fact 40 rfl)⟩
theorem C_blt (c : Says w h K) (G : h.Ns mainGlobals mg) : Blt mg := ⟨He.free_ok c.kin G (c.fact 41 rfl), He.free_ok c.kin G (c.fact 42 rfl), He.free_ok c.kin G (c.fact 43 rfl), He.free_ok c.kin G (c.fact 44 rfl), He.free_ok c.kin G (c.fact 45 rfl), He.free_ok c.kin G (c.fact 46 rfl), He.free_ok c.kin G (c.fact 47 rfl), He.free_ok c.kin G (c.fact 48 rfl), He.free_ok c.kin G (c.fact 49 rfl), He.free_ok c.kin G (c.fact 50 rfl), He.free_ok c.kin G (c.fact 51 rfl), He.free_ok c.kin G (c.fact 52 rfl), He.free_ok c.kin G (c.fact 53 rfl), He.free_ok c.kin G (c.fact 54 rfl), He.free_ok c.kin G (c.fact 55 rfl), He.free_ok c.kin G (c.fact 56 rfl)⟩
theorem C_MOST_BOOKS (c : Says w h K) (G : h.Ns mainGlobals mg) : ∃ t, mg "MOST_BOOKS" = some (.int (4) t) := He.int_ok c.kin G (c.fact 57 rfl)
theorem C_MOST_SHELVES (c : Says w h K) (G : h.Ns mainGlobals mg) : ∃ t, mg "MOST_SHELVES" = some (.int (3) t) := He.int_ok c.kin G (c.fact 58 rfl)
theorem C_MOST_DEEDS (c : Says w h K) (G : h.Ns mainGlobals mg) : ∃ t, mg "MOST_DEEDS" = some (.int (8) t) := He.int_ok c.kin G (c.fact 59 rfl)
theorem C_POINTS (c : Says w h K) (G : h.Ns mainGlobals mg) : mg "POINTS" = some (.ref (He.ga K "POINTS")) := He.glo_ok c.kin G (c.fact 60 rfl)
theorem C_SIZES (c : Says w h K) (G : h.Ns mainGlobals mg) : mg "SIZES" = some (.ref (He.ga K "SIZES")) := He.glo_ok c.kin G (c.fact 61 rfl)
theorem XF_InvalidText (c : Says w h K) : L2.XfC K (He.ga K "InvalidText") := L2.xfB_ok (c.fact 62 rfl)
theorem NA_InvalidText_line (c : Says w h K) : PySem.W.findIn K (.ref (He.ga K "InvalidText")) "line" = some none := He.noat_ok (c.fact 63 rfl)
theorem NA_InvalidText_word (c : Says w h K) : PySem.W.findIn K (.ref (He.ga K "InvalidText")) "word" = some none := He.noat_ok (c.fact 64 rfl)
theorem XM_InvalidText_InvalidText (c : Says w h K) : PySem.W.exmOne K (.ref (He.ga K "InvalidText")) (.ref (He.ga K "InvalidText")) = some true := He.exm_ok (c.fact 65 rfl)
theorem T_ne (c : Says w h K) : He.ga K "POINTS" ≠ He.ga K "SIZES" := of_decide_eq_true (c.fact 66 rfl)
end
abbrev RR : PySem.W.OpenRow := PySem.W.OpenLaw.row PySem.Challenge.rw_shelfsums_k13_whole_texts_refused
abbrev hk : PySem.W.Hook := hookA 6 fnL tsL exL
def ob (s : PySem.W.SharedT) : AlA := obsA 6 fnL tsL exL (HandSHeadRun.getT s)
theorem ob_eq (s : PySem.W.SharedT) : ob s = hk.obs s.abs := obsA_eq (HandSHeadRun.getT_eq s)
def names : List Str := ([("_wall" : Str), ("ShelfError" : Str), ("InvalidSize" : Str), ("InvalidRule" : Str), ("InvalidDeed" : Str), ("InvalidText" : Str), ("POINTS" : Str), ("SIZES" : Str), ("MOST_BOOKS" : Str), ("MOST_SHELVES" : Str), ("MOST_DEEDS" : Str), ("is_integer" : Str), ("is_between" : Str), ("look_at_rule" : Str), ("Plan" : Str), ("is_deed" : Str), ("look_at_script" : Str), ("write" : Str), ("Line" : Str), ("words_of" : Str)] : List Str) ++ ([("plan_in" : Str), ("deed_in" : Str), ("read" : Str), ("_law_mix" : Str), ("_law_next" : Str), ("_law_points" : Str), ("_law_plan" : Str), ("_law_deed" : Str), ("_law_script" : Str), ("_law_built" : Str), ("_law_digit" : Str), ("_law_bad" : Str), ("_law_due" : Str), ("_law_spoil" : Str), ("_law_told" : Str)] : List Str)
def lawAt : Nat := 39
abbrev lawD : Nat := 28
def lawDef : DefA := ⟨fun K => He.ga K "law", "law", "law", sLaw⟩
def lawX : Str := "_law_script_here"
abbrev lawK : Nat := 10
theorem lawGlo {w : World} {h : Heap} {K : PySem.W.Frag} {mg : Str → Option Value} (c : Says w h K) (G : h.Ns mainGlobals mg) : mg "law" = some (.ref (lawDef.ad K)) := He.glo_ok c.kin G (c.fact 32 rfl)
section
variable {P : Program} {w : World} {K : PySem.W.Frag} {mg : Str → Option Value} {h : Heap}
/-- the law's promise from what is known behind the top -/
theorem lawC (c : Says w h K) (G : h.Ns mainGlobals mg) : ∃ cs : List (Addr × HO), (∀ p ∈ cs, ∃ o ws, p.2 = .frz o (.dK ws) ∧ (∀ H, ObjOk P w H h p.1 (.frz o (.dK ws))) ∧ 3 < p.1 ∧ K.lookup p.1 = none ∧ h.get? p.1 = some o ∧ ∃ es ep, o.data = .dict es ep) ∧ (cs.map (·.1)).Nodup ∧
    ∀ base, @Callee ⟨cs⟩ P w K mg base "law" 10 pLaw spLaw := by
  obtain ⟨t1, n1⟩ := c.tab 0 rfl
  obtain ⟨t2, n2⟩ := c.tab 1 rfl
  obtain ⟨oP, wP, p1, p2, p3, p4⟩ := t1.obj (P := P) (by decide)
  obtain ⟨oS, wS, s1, s2, s3, s4⟩ := t2.obj (P := P) (by decide)
  have hne := T_ne c
  refine ⟨[(He.ga K "POINTS", .frz oP (.dK wP)), (He.ga K "SIZES", .frz oS (.dK wS))], fun p hp => ?_, ?_, fun base => ?_⟩
  · rcases List.mem_cons.mp hp with rfl | hp
    · exact ⟨oP, wP, rfl, p1, t1.low, n1, p3, p4⟩
    · rw [List.mem_singleton.mp hp]
      exact ⟨oS, wS, rfl, s1, t2.low, n2, s3, s4⟩
  · simpa using hne
  letI : Csts := ⟨[(He.ga K "POINTS", .frz oP (.dK wP)), (He.ga K "SIZES", .frz oS (.dK wS))]⟩
  have N := C_blt c G
  have kc : Kcs K mg := ⟨_, oP, wP, _, oS, wS, C_POINTS c G, C_SIZES c G, List.mem_cons_self .., List.mem_cons_of_mem _ (List.mem_cons_self ..), p2, s2, C_MOST_BOOKS c G, C_MOST_SHELVES c G, C_MOST_DEEDS c G⟩
  let C : KPlan K := ⟨_, C_Plan c⟩
  let L : KLine K := ⟨_, C_Line c⟩
  let ER : KTxt K mg := ⟨_, F_TextInit c G, NA_InvalidText_line c, NA_InvalidText_word c⟩
  have ET : KTT K ER.cText := ⟨XF_InvalidText c, XM_InvalidText_InvalidText c⟩
  have i1 := ok_is_integer (P := P) (w := w) (base := base) N (F_IsInt c G)
  have i2 := ok_is_between i1 (F_IsBet c G)
  have i3 := ok_look_at_rule (P := P) (w := w) (base := base) N kc (F_LookRule c G)
  have i4 := ok_plan_init N kc C i2 i3 (F_PlanInit c G)
  have i5 := ok_is_deed N kc C i2 (F_IsDeed c G)
  have i6 := ok_look_at_script N kc C i5 (F_LookScr c G)
  have k1 := ok_line_init (P := P) (w := w) (base := base) N L (F_LineInit c G)
  have k2 := ok_line_refuse (P := P) (w := w) (base := base) N L ER (F_LineRefuse c)
  have k3 := ok_line_take N L ER k2 (F_LineTake c)
  have k4 := ok_line_num N L ER k3 (F_LineNum c)
  have k5 := ok_line_fin N L ER k2 (F_LineFin c)
  have k6 := ok_words_of (P := P) (w := w) (base := base) N kc (F_WordsOf c G)
  have k7 := ok_plan_in N kc C L ER k6 k3 k4 k5 i4 (F_PlanIn c G)
  have k8 := ok_deed_in N kc L ER k3 k4 k5 (F_DeedIn c G)
  have k9 := ok_read N kc C L ER k1 k7 k8 (F_Read c G)
  have l1 := ok_write N kc C i6 (F_Write c G)
  have n1 := ok_mix (P := P) (w := w) (base := base) N (F_Mix c G)
  have n2 := ok_next (P := P) (w := w) (base := base) N (F_Next c G)
  have n3 := ok_points (P := P) (w := w) (base := base) N (F_Points c G)
  have n4 := ok_lplan N n3 n2 (F_LPlan c G)
  have n5 := ok_ldeed N n2 (F_LDeed c G)
  have n6 := ok_lscript N n2 n5 (F_LScript c G)
  have n7 := ok_built N C i4 (F_Built c G)
  have q1 := ok_lbad (P := P) (w := w) (base := base) N (F_LBad c G)
  have q2 := ok_ldue N n3 q1 (F_LDue c G)
  have q3 := ok_spoil N n2 (F_Spoil c G)
  have q4 := ok_ltold N ER ET k9 (F_LTold c G)
  exact ok_law N C n1 n4 n2 n6 n7 l1 q3 q4 q2 (F_Law c G)
end
end LW

namespace LW
open PySem PySem.Spec PyProof.Rows L2 DL
theorem runF (w : World) : HandSHeadRun.RunEq RR (PySem.W.view RR.prog [lawAt]) hk ob 5000 names (w.withFollow "special-get-raises" false) := by intro os; kernel_rfl
theorem runT (w : World) : HandSHeadRun.RunEq RR (PySem.W.view RR.prog [lawAt]) hk ob 5000 names (w.withFollow "special-get-raises" true) := by intro os; kernel_rfl
theorem run (w : World) : HandSHeadRun.RunEq RR (PySem.W.view RR.prog [lawAt]) hk ob 5000 names w :=
  PySem.W.byRow2 "special-get-raises" (P := fun w => HandSHeadRun.RunEq RR (PySem.W.view RR.prog [lawAt]) hk ob 5000 names w) runF runT w
end LW
open PySem PySem.W PySem.Calls PyProof.Rows
theorem PySem.Challenge.cw_shelfsums_k13_whole_texts_refused_holds : PySem.Challenge.rw_shelfsums_k13_whole_texts_refused.Holds := by
  w_on; o_law
  haveI c0 : DL.Csts := ⟨[]⟩
  refine HandSHeadRun.head_any (r := OpenLaw.row PySem.Challenge.rw_shelfsums_k13_whole_texts_refused) (q := view (OpenLaw.row PySem.Challenge.rw_shelfsums_k13_whole_texts_refused).prog [LW.lawAt]) (H := LW.hk) (ob := LW.ob) (M := 5000) (loose := LW.names) (d := HandSHeadRun.topDef (OpenLaw.row PySem.Challenge.rw_shelfsums_k13_whole_texts_refused).prog LW.lawAt) (kwd := []) LW.ob_eq
    (by kernel_rfl) (fun s => by kernel_rfl) LW.run (by kernel_rfl) (by kernel_rfl) (by kernel_rfl) (by rfl) (by first | assumption | decide +kernel) (by decide +kernel) ⟨rfl, rfl, rfl, rfl, rfl, by decide +kernel⟩ ?hw ?hc
  case hw => w_witness2
  case hc =>
    refine DL.walk_ofC (l := PySem.Challenge.rw_shelfsums_k13_whole_texts_refused) (n := 63) (k := LW.lawK) (x := LW.lawX) (CX := fun w => L2.CX (PySem.Challenge.rw_shelfsums_k13_whole_texts_refused).prog w) rfl (by decide) (by kernel_rfl) ⟨rfl, by decide, by decide⟩ ?F (fun _ _ _ _ _ z => DL.noCX z)
    intro w mg fa h Y G hmg0
    obtain ⟨K, c⟩ := Y
    have hmg : mg ("law" : PySem.Str) = some (.ref fa) := by
      have e : (HandSHeadRun.topDef (OpenLaw.row PySem.Challenge.rw_shelfsums_k13_whole_texts_refused).prog LW.lawAt).name = ("law" : PySem.Str) := by kernel_rfl
      rw [← e]
      exact hmg0
    obtain ⟨cs, hcs, hnd, hF⟩ := LW.lawC (P := (PySem.Challenge.rw_shelfsums_k13_whole_texts_refused).prog) c G
    obtain ⟨fd, F⟩ := c.def_ LW.lawD (d := LW.lawDef) rfl
    have hf : mg ("law" : PySem.Str) = some (.ref (LW.lawDef.ad K)) := LW.lawGlo c G
    have ef : fa = LW.lawDef.ad K := by
      rw [hmg] at hf
      exact Value.ref.inj (Option.some.inj hf)
    subst ef
    refine ⟨K, fd, @DL.Up ⟨cs⟩ K LW.spLaw, cs, c.kin, fun s u => ?_, hcs, hnd, fun H a ns hn hc hS => ?_, fun base _ _ => ?_⟩
    · exact DL.Fun.bindsA (ps := LW.pLaw) F (fun _ _ _ _ _ _ us hl => match us, hl with | [_], _ => rfl) s [u] rfl
    · refine DL.law_entry (fun p hp => ?_) hc hS ⟨ns, rfl, hn, rfl, fun _ => rfl⟩
      obtain ⟨o, ws, e, _⟩ := hcs p hp
      rw [e]
      rfl
    · exact @DL.Callee.fnOk ⟨cs⟩ _ _ _ _ _ _ _ _ _ _ _ _ _ (hF base) F hf

