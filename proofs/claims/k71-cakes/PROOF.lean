import PyProof.Rows.All
import Wide.All
import OpenK.AllK
import Wide.FinOn
import HandS.ForMost
import HandS.ForExc
import HandS.CallSlots
import HandS.Wide
import HandS.IsInst
import HandS.SetFor
import HandS.Conv
import HandS.SortInts
import HandS.Iter
import HandS.Zip
import HandS.Style
import HandS.Deep
import HandS.TupSets
import HandS.ExcIs
import HandS.HeadHook1
import HandS.SortKw
import KE.DataMinMax
import HandS.HotCalls
import HandS.TupLen
import KE.KDictPairs
import HandS.DictEq
import HandS.DictTup
import KE.KRevSl
import HandS.Rev
import KE.KStateDown
import Lean
import HandS.Head0
import HandS.Head1
import HandS.Head2
import HandS.HeadEnd
import PySem.Challenge.RW_halveline_k71_cakes_and_areas
set_option Elab.async false
set_option linter.all false
set_option maxRecDepth 100000
/-! Fa: a state of plain data over the hand layer's heap: what stands in the slots, what a def owns, what is shared. -/
namespace HL
open PySem PySem.Spec PyProof.Rows L2

abbrev D := PyData

/-! ### a heap with some places left out -/
open Classical in
noncomputable def hide (S : Addr → Prop) (H : Hp) : Hp := fun a => if S a then none else H a
theorem hide_some {S : Addr → Prop} {H : Hp} {a : Addr} {o : HO} : hide S H a = some o ↔ ¬ S a ∧ H a = some o := by
  unfold hide
  by_cases h : S a
  · simp [h]
  · simp [h]
theorem hide_mk {S : Addr → Prop} {H : Hp} {a : Addr} {o : HO} (n : ¬ S a) (h : H a = some o) : hide S H a = some o := hide_some.mpr ⟨n, h⟩
theorem hide_same {S S' : Addr → Prop} {H H' : Hp} (h : ∀ a o, ¬ S a → H a = some o → ¬ S' a ∧ H' a = some o) : Same (hide S H) (hide S' H') := fun a o e => by
  obtain ⟨n, e⟩ := hide_some.mp e
  exact hide_some.mpr (h a o n e)
theorem hide_le {S : Addr → Prop} {H : Hp} : Same (hide S H) H := fun a o e => (hide_some.mp e).2

/-! ### data at a place -/
/-- a tuple of numbers; a dict of such, each to True -/
def dI (ns : List Int) : D := .tuple (ns.map .int)
def dkD (ks : List (List Int)) : D := .dict (ks.map fun k => (dI k, .bool true))
def dkV (ks : List (List Int)) : List (List L2.Key × V) := ks.map fun k => (k.map Sum.inl, V.bl true)
mutual
inductive Rp (K : PySem.W.Frag) (H : Hp) : V → D → Prop
  | non : Rp K H .non .none
  | bl (b : Bool) : Rp K H (.bl b) (.bool b)
  | int (i : Int) : Rp K H (.int i) (.int i)
  | str (x : Str) : Rp K H (.str x) (.str x)
  | lst {a : Addr} {xs : List V} {ds : List D} : H a = some (.lst xs) → RpA K H xs ds → Rp K H (.ref a) (.list ds)
  | tup {a : Addr} {xs : List V} {ds : List D} : H a = some (.tup xs) → RpA K H xs ds → Rp K H (.ref a) (.tuple ds)
  | dic {a : Addr} {ks : List (List Int)} : H a = some (.dT (dkV ks)) → Rp K H (.ref a) (dkD ks)
inductive RpA (K : PySem.W.Frag) (H : Hp) : List V → List D → Prop
  | nil : RpA K H [] []
  | cons {v : V} {vs : List V} {d : D} {ds : List D} : Rp K H v d → RpA K H vs ds → RpA K H (v :: vs) (d :: ds)
end
section
variable {K : PySem.W.Frag} {H H' : Hp}
theorem sqT_same (e : Same H H') {a : Addr} {xs : List V} (h : SqT K H a xs) : SqT K H' a xs := by
  rcases h with h | h
  · rcases h with h | ⟨o, h⟩
    · exact .inl (.inl (e _ _ h))
    · exact .inl (.inr ⟨o, e _ _ h⟩)
  · exact .inr h
mutual
theorem Rp.mono (e : Same H H') : ∀ {v : V} (d : D), Rp K H v d → Rp K H' v d
  | _, .none, h => by cases h; exact .non
  | _, .bool _, h => by cases h; exact .bl _
  | _, .int _, h => by cases h; exact .int _
  | _, .str _, h => by cases h; exact .str _
  | _, .list ds, h => by
    cases h with
    | lst h1 h2 => exact .lst (e _ _ h1) (RpA.mono e ds h2)
  | _, .tuple ds, h => by
    cases h with
    | tup h1 h2 => exact .tup (e _ _ h1) (RpA.mono e ds h2)
  | _, .dict _, h => by
    cases h with
    | dic h1 => exact .dic (e _ _ h1)
theorem RpA.mono (e : Same H H') : ∀ {vs : List V} (ds : List D), RpA K H vs ds → RpA K H' vs ds
  | _, [], h => by cases h; exact .nil
  | _, d :: ds, h => by
    cases h with
    | cons h1 h2 => exact .cons (Rp.mono e d h1) (RpA.mono e ds h2)
end
mutual
theorem Rp.dp : ∀ {v : V} (d : D), Rp K H v d → PyData.canLay0 d = true → Dp K H v d
  | _, .none, h, _ => by cases h; exact .non
  | _, .bool _, h, _ => by cases h; exact .bl _
  | _, .int _, h, _ => by cases h; exact .int _
  | _, .str _, h, _ => by cases h; exact .str _
  | _, .list ds, h, c => by
    cases h with
    | lst h1 h2 => exact .lst (.inl (.inl h1)) (RpA.dp ds h2 (by simpa [PyData.canLay0] using c))
  | _, .tuple ds, h, c => by
    cases h with
    | tup h1 h2 => exact .tup (.inl (.inl h1)) (RpA.dp ds h2 (by simpa [PyData.canLay0] using c))
  | _, .dict _, h, c => by simp [PyData.canLay0] at c
theorem RpA.dp : ∀ {vs : List V} (ds : List D), RpA K H vs ds → PyData.canLayAll0 ds = true → DpAll K H vs ds
  | _, [], h, _ => by cases h; exact .nil
  | _, d :: ds, h, c => by
    have c' : PyData.canLay0 d = true ∧ PyData.canLayAll0 ds = true := by simpa [PyData.canLayAll0] using c
    cases h with
    | cons h1 h2 => exact .cons (Rp.dp d h1 c'.1) (RpA.dp ds h2 c'.2)
end
-- data without lists
mutual
def flatD : D → Bool
  | .none => true
  | .bool _ => true
  | .int _ => true
  | .str _ => true
  | .list _ => false
  | .tuple ds => flatA ds
  | .dict _ => false
def flatA : List D → Bool
  | [] => true
  | d :: ds => flatD d && flatA ds
end
mutual
theorem Rp.flat (e : ∀ a xs, H a = some (.tup xs) → H' a = some (.tup xs)) : ∀ {v : V} (d : D), flatD d = true → Rp K H v d → Rp K H' v d
  | _, .none, _, h => by cases h; exact .non
  | _, .bool _, _, h => by cases h; exact .bl _
  | _, .int _, _, h => by cases h; exact .int _
  | _, .str _, _, h => by cases h; exact .str _
  | _, .list ds, f, h => by cases f
  | _, .tuple ds, f, h => by
    cases h with
    | tup h1 h2 => exact .tup (e _ _ h1) (RpA.flat e ds f h2)
  | _, .dict _, f, h => by cases f
theorem RpA.flat (e : ∀ a xs, H a = some (.tup xs) → H' a = some (.tup xs)) : ∀ {vs : List V} (ds : List D), flatA ds = true → RpA K H vs ds → RpA K H' vs ds
  | _, [], _, h => by cases h; exact .nil
  | _, d :: ds, f, h => by
    have f' : flatD d = true ∧ flatA ds = true := by simpa [flatA] using f
    cases h with
    | cons h1 h2 => exact .cons (Rp.flat e d f'.1 h1) (RpA.flat e ds f'.2 h2)
end
theorem RpA.length : ∀ {vs : List V} {ds : List D}, RpA K H vs ds → vs.length = ds.length
  | _, [], h => by cases h; rfl
  | _, d :: ds, h => by
    cases h with
    | cons h1 h2 => simp [RpA.length h2]
theorem RpA.get : ∀ {vs : List V} {ds : List D} {i : Nat} {d : D}, RpA K H vs ds → ds[i]? = some d → ∃ v, vs[i]? = some v ∧ Rp K H v d
  | _, [], _, _, h, e => by simp at e
  | _, d :: ds, 0, x, h, e => by
    cases h with
    | cons h1 h2 =>
      simp at e
      subst e
      exact ⟨_, rfl, h1⟩
  | _, d :: ds, i + 1, x, h, e => by
    cases h with
    | cons h1 h2 =>
      obtain ⟨v, e1, e2⟩ := RpA.get (i := i) h2 (by simpa using e)
      exact ⟨v, by simpa using e1, e2⟩
theorem RpA.get' : ∀ {vs : List V} {ds : List D} {i : Nat} {v : V}, RpA K H vs ds → vs[i]? = some v → ∃ d, ds[i]? = some d ∧ Rp K H v d
  | _, [], _, _, h, e => by cases h; simp at e
  | _, d :: ds, 0, x, h, e => by
    cases h with
    | cons h1 h2 =>
      simp at e
      subst e
      exact ⟨_, rfl, h1⟩
  | _, d :: ds, i + 1, x, h, e => by
    cases h with
    | cons h1 h2 =>
      obtain ⟨v, e1, e2⟩ := RpA.get' (i := i) h2 (by simpa using e)
      exact ⟨v, by simpa using e1, e2⟩
theorem RpA.append : ∀ {vs ws : List V} {ds es : List D}, RpA K H vs ds → RpA K H ws es → RpA K H (vs ++ ws) (ds ++ es)
  | _, _, [], _, h, k => by cases h; exact k
  | _, _, d :: ds, _, h, k => by
    cases h with
    | cons h1 h2 => exact .cons h1 (RpA.append h2 k)
theorem RpA.set : ∀ {vs : List V} {ds : List D} {v : V} {d : D} (i : Nat), RpA K H vs ds → Rp K H v d → RpA K H (vs.set i v) (ds.set i d)
  | _, [], _, _, _, h, _ => by cases h; exact .nil
  | _, d :: ds, _, _, 0, h, k => by
    cases h with
    | cons h1 h2 => exact .cons k h2
  | _, d :: ds, _, _, i + 1, h, k => by
    cases h with
    | cons h1 h2 => exact .cons h1 (RpA.set i h2 k)
theorem RpA.take : ∀ {vs : List V} {ds : List D} (n : Nat), RpA K H vs ds → RpA K H (vs.take n) (ds.take n)
  | _, [], _, h => by cases h; simpa using RpA.nil
  | _, d :: ds, 0, h => by simpa using RpA.nil
  | _, d :: ds, n + 1, h => by
    cases h with
    | cons h1 h2 => exact .cons h1 (RpA.take n h2)
theorem RpA.drop : ∀ {vs : List V} {ds : List D} (n : Nat), RpA K H vs ds → RpA K H (vs.drop n) (ds.drop n)
  | _, [], _, h => by cases h; simpa using RpA.nil
  | _, d :: ds, 0, h => h
  | _, d :: ds, n + 1, h => by
    cases h with
    | cons h1 h2 => exact RpA.drop n h2
theorem RpA.reverse : ∀ {vs : List V} {ds : List D}, RpA K H vs ds → RpA K H vs.reverse ds.reverse
  | _, [], h => by cases h; exact .nil
  | _, d :: ds, h => by
    cases h with
    | cons h1 h2 =>
      rw [List.reverse_cons, List.reverse_cons]
      exact RpA.append (RpA.reverse h2) (.cons h1 .nil)
theorem rpA_ints : ∀ {vs : List V} {ns : List Int}, RpA K H vs (ns.map PyData.int) → vs = ns.map V.int
  | _, [], h => by cases h; rfl
  | _, n :: ns, h => by
    cases h with
    | cons h1 h2 =>
      cases h1
      rw [rpA_ints h2]
      rfl
theorem rpA_bools : ∀ {vs : List V} {ns : List Bool}, RpA K H vs (ns.map PyData.bool) → vs = ns.map V.bl
  | _, [], h => by cases h; rfl
  | _, n :: ns, h => by
    cases h with
    | cons h1 h2 =>
      cases h1
      rw [rpA_bools h2]
      rfl
theorem rpA_strs : ∀ {vs : List V} {ns : List Str}, RpA K H vs (ns.map PyData.str) → vs = ns.map V.str
  | _, [], h => by cases h; rfl
  | _, n :: ns, h => by
    cases h with
    | cons h1 h2 =>
      cases h1
      rw [rpA_strs h2]
      rfl
end

/-! ### Lean's types as data -/
class Enc (α : Type) where
  enc : α → D
abbrev enc {α : Type} [Enc α] (a : α) : D := Enc.enc a
instance : Enc Int := ⟨.int⟩
instance : Enc Bool := ⟨.bool⟩
instance : Enc Str := ⟨.str⟩
instance : Enc Unit := ⟨fun _ => .none⟩
instance : Enc D := ⟨id⟩
instance {α : Type} [Enc α] : Enc (List α) := ⟨fun l => .list (l.map enc)⟩
instance {α β : Type} [Enc α] [Enc β] : Enc (α × β) := ⟨fun p => .tuple [enc p.1, enc p.2]⟩
instance {α : Type} [Enc α] : Enc (Option α) := ⟨fun o => match o with | none => .none | some a => enc a⟩
structure T3 (α β γ : Type) where
  a : α
  b : β
  c : γ
  deriving DecidableEq, Inhabited
structure T4 (α β γ δ : Type) where
  a : α
  b : β
  c : γ
  d : δ
  deriving DecidableEq, Inhabited
structure T5 (α β γ δ ε : Type) where
  a : α
  b : β
  c : γ
  d : δ
  e : ε
  deriving DecidableEq, Inhabited
instance {α β γ : Type} [Enc α] [Enc β] [Enc γ] : Enc (T3 α β γ) := ⟨fun p => .tuple [enc p.a, enc p.b, enc p.c]⟩
instance {α β γ δ : Type} [Enc α] [Enc β] [Enc γ] [Enc δ] : Enc (T4 α β γ δ) := ⟨fun p => .tuple [enc p.a, enc p.b, enc p.c, enc p.d]⟩
instance {α β γ δ ε : Type} [Enc α] [Enc β] [Enc γ] [Enc δ] [Enc ε] : Enc (T5 α β γ δ ε) := ⟨fun p => .tuple [enc p.a, enc p.b, enc p.c, enc p.d, enc p.e]⟩
/-- types whose data hold no list -/
class Flat (α : Type) [Enc α] : Prop where
  flat : ∀ a : α, flatD (enc a) = true
instance : Flat Int := ⟨fun _ => rfl⟩
instance : Flat Bool := ⟨fun _ => rfl⟩
instance : Flat Str := ⟨fun _ => rfl⟩
instance : Flat Unit := ⟨fun _ => rfl⟩
instance {α β : Type} [Enc α] [Enc β] [Flat α] [Flat β] : Flat (α × β) := ⟨fun p => by
  show (flatD (enc p.1) && (flatD (enc p.2) && true)) = true
  rw [Flat.flat, Flat.flat]
  rfl⟩
instance {α β γ : Type} [Enc α] [Enc β] [Enc γ] [Flat α] [Flat β] [Flat γ] : Flat (T3 α β γ) := ⟨fun p => by
  show (flatD (enc p.a) && (flatD (enc p.b) && (flatD (enc p.c) && true))) = true
  rw [Flat.flat, Flat.flat, Flat.flat]
  rfl⟩
instance {α β γ δ : Type} [Enc α] [Enc β] [Enc γ] [Enc δ] [Flat α] [Flat β] [Flat γ] [Flat δ] : Flat (T4 α β γ δ) := ⟨fun p => by
  show (flatD (enc p.a) && (flatD (enc p.b) && (flatD (enc p.c) && (flatD (enc p.d) && true)))) = true
  rw [Flat.flat, Flat.flat, Flat.flat, Flat.flat]
  rfl⟩
instance {α β γ δ ε : Type} [Enc α] [Enc β] [Enc γ] [Enc δ] [Enc ε] [Flat α] [Flat β] [Flat γ] [Flat δ] [Flat ε] : Flat (T5 α β γ δ ε) := ⟨fun p => by
  show (flatD (enc p.a) && (flatD (enc p.b) && (flatD (enc p.c) && (flatD (enc p.d) && (flatD (enc p.e) && true))))) = true
  rw [Flat.flat, Flat.flat, Flat.flat, Flat.flat, Flat.flat]
  rfl⟩
instance {α : Type} [Enc α] [Flat α] : Flat (Option α) := ⟨fun o => by
  cases o with
  | none => rfl
  | some a => exact Flat.flat a⟩
theorem flatA_map {α : Type} [Enc α] [Flat α] : ∀ l : List α, flatA (l.map enc) = true
  | [] => rfl
  | a :: l => by
    show (flatD (enc a) && flatA (l.map enc)) = true
    rw [Flat.flat, flatA_map l]
    rfl

/-! ### the slots and the state -/
/-- several lists of one's own under one name: a list of them; another name of one -/
inductive Pk where
  | lst (js : List Nat)
  | ali (j : Nat)
  | at (a : Addr) (js : List Nat)
def Pk.js : Pk → List Nat
  | .lst js => js
  | .ali j => [j]
  | .at _ js => js
/-- what is one's own: a list; a dict of tuples of numbers, each to True -/
inductive Ob where
  | ls (ds : List D)
  | dk (ks : List (List Int))
instance : Coe (List D) Ob := ⟨.ls⟩
def OwnOk (K : PySem.W.Frag) (F : Hp) (o : Option HO) : Ob → Prop
  | .ls ds => ∃ vs, o = some (.lst vs) ∧ RpA K F vs ds
  | .dk ks => o = some (.dT (dkV ks))
def Ob.d : Ob → D
  | .ls ds => .list ds
  | .dk ks => dkD ks
theorem OwnOk.rp {K : PySem.W.Frag} {F : Hp} {a : Addr} : ∀ {b : Ob}, OwnOk K F (F a) b → Rp K F (.ref a) b.d
  | .ls ds, ⟨vs, h1, h2⟩ => .lst h1 h2
  | .dk _, h => .dic h
theorem OwnOk.mono {K : PySem.W.Frag} {F F' : Hp} {o : Option HO} (e : Same F F') : ∀ {b : Ob}, OwnOk K F o b → OwnOk K F' o b
  | .ls ds, ⟨vs, h1, h2⟩ => ⟨vs, h1, h2.mono e⟩
  | .dk _, h => h
theorem OwnOk.same {K : PySem.W.Frag} {F H H' : Hp} {a : Addr} (e : Same H H') : ∀ {b : Ob}, OwnOk K F (H a) b → OwnOk K F (H' a) b
  | .ls ds, ⟨vs, h1, h2⟩ => ⟨vs, e _ _ h1, h2⟩
  | .dk _, h => e _ _ h
theorem OwnOk.is {K : PySem.W.Frag} {F : Hp} {o : Option HO} : ∀ {b : Ob}, OwnOk K F o b → ∃ u, o = some u ∧ Mut (some u)
  | .ls ds, ⟨vs, h1, h2⟩ => ⟨_, h1, trivial⟩
  | .dk _, h => ⟨_, h, trivial⟩
/-- a slot: nothing known; data that nobody changes (fr: made since the entry); a list of the def's own; the script -/
inductive Slot where
  | no
  | imm (fr : Bool) (d : D)
  | own (ds : Ob)
  | scr (ns : List Int)
  | raw (v : L2.V)
  | pk (q : Pk)
inductive SlotG (γ : Type) where
  | no
  | imm (fr : Bool) (d : γ → D)
  | own (ds : γ → Ob)
  | scr (ns : γ → List Int)
  | raw (v : L2.V)
  | pk (q : Pk)
def SlotG.at {γ : Type} (g : γ) : SlotG γ → Slot
  | .no => .no
  | .imm fr d => .imm fr (d g)
  | .own ds => .own (ds g)
  | .scr ns => .scr (ns g)
  | .raw v => .raw v
  | .pk q => .pk q
abbrev Ev (γ : Type) := List (SlotG γ)
def at_ {γ : Type} (V : Ev γ) (g : γ) : List Slot := V.map (SlotG.at g)
structure Fix where
  K : PySem.W.Frag
  H0 : Hp
  S : Addr → Prop
  io : List (Nat × Addr)
/-- the places of the lists of one's own -/
def Ow (A : Nat → Addr) (r : List Slot) (a : Addr) : Prop := ∃ i ds, r[i]? = some (.own ds) ∧ A i = a
def OwV {γ : Type} (A : Nat → Addr) (V : Ev γ) (a : Addr) : Prop := ∃ i ds, V[i]? = some (.own ds) ∧ A i = a
theorem at_get {γ : Type} {V : Ev γ} {g : γ} {i : Nat} : (at_ V g)[i]? = (V[i]?).map (SlotG.at g) := by
  unfold at_
  rw [List.getElem?_map]
theorem ow_at {γ : Type} {A : Nat → Addr} {V : Ev γ} {g : γ} : Ow A (at_ V g) = OwV A V := by
  funext a
  refine propext ⟨fun ⟨i, ds, h, e⟩ => ?_, fun ⟨i, ds, h, e⟩ => ⟨i, ds g, by rw [at_get, h]; rfl, e⟩⟩
  rw [at_get] at h
  cases q : V[i]? with
  | none => rw [q] at h; cases h
  | some s =>
    rw [q] at h
    cases s with
    | own ds' => exact ⟨i, ds', q, e⟩
    | no => cases h
    | imm fr d => cases h
    | scr ns => cases h
    | raw v => cases h
    | pk q => cases h
/-- what nobody changes; what of it was made since the entry -/
noncomputable def FH (Z : Fix) (O : Addr → Prop) (H : Hp) : Hp := hide (fun a => Z.S a ∨ O a) H
noncomputable def GH (Z : Fix) (O : Addr → Prop) (H : Hp) : Hp := hide (fun a => Z.S a ∨ O a ∨ Mut (Z.H0 a)) H
noncomputable def hp (Z : Fix) (O : Addr → Prop) (H : Hp) (fr : Bool) : Hp := if fr = true then GH Z O H else FH Z O H
theorem gh_fh {Z : Fix} {O : Addr → Prop} {H : Hp} : Same (GH Z O H) (FH Z O H) := hide_same fun a o n e => ⟨fun z => n (z.elim .inl fun q => .inr (.inl q)), e⟩
theorem hp_fh {Z : Fix} {O : Addr → Prop} {H : Hp} {fr : Bool} : Same (hp Z O H fr) (FH Z O H) := by
  unfold hp
  cases fr with
  | true => simpa using gh_fh
  | false => simpa using Same.refl _
/-- all but the lists of one's own stands -/
def Gr (O : Addr → Prop) (H H' : Hp) : Prop := ∀ a o, ¬ O a → H a = some o → H' a = some o
theorem Gr.refl {O : Addr → Prop} (H : Hp) : Gr O H H := fun _ _ _ h => h
theorem Gr.trans {O : Addr → Prop} {H H1 H2 : Hp} (a : Gr O H H1) (b : Gr O H1 H2) : Gr O H H2 := fun x o n h => b x o n (a x o n h)
theorem Gr.of {O : Addr → Prop} {H H' : Hp} (e : Same H H') : Gr O H H' := fun x o _ h => e x o h
theorem Gr.fh {Z : Fix} {O : Addr → Prop} {H H' : Hp} (e : Gr O H H') : Same (FH Z O H) (FH Z O H') := hide_same fun a o n h => ⟨n, e a o (fun z => n (.inr z)) h⟩
theorem Gr.gh {Z : Fix} {O : Addr → Prop} {H H' : Hp} (e : Gr O H H') : Same (GH Z O H) (GH Z O H') := hide_same fun a o n h => ⟨n, e a o (fun z => n (.inr (.inl z))) h⟩
theorem Gr.hp {Z : Fix} {O : Addr → Prop} {H H' : Hp} {fr : Bool} (e : Gr O H H') : Same (hp Z O H fr) (hp Z O H' fr) := by
  unfold HL.hp
  cases fr with
  | true => simpa using e.gh
  | false => simpa using e.fh

def PkOk (A : Nat → Addr) (F : Hp) (v : Option (Option V)) : Pk → Prop
  | .lst js => ∃ a, v = some (some (.ref a)) ∧ F a = some (.lst (js.map fun j => .ref (A j)))
  | .ali j => v = some (some (.ref (A j)))
  | .at a js => F a = some (.lst (js.map fun j => .ref (A j)))
theorem PkOk.mono {A : Nat → Addr} {F F' : Hp} {v : Option (Option V)} (e : Same F F') : ∀ {q : Pk}, PkOk A F v q → PkOk A F' v q
  | .lst _, ⟨a, h1, h2⟩ => ⟨a, h1, e _ _ h2⟩
  | .ali _, h => h
  | .at _ _, h => e _ _ h
structure J (Z : Fix) (A : Nat → Addr) (r : List Slot) (σ : L2.St) (H : Hp) : Prop where
  imm : ∀ (i : Nat) (fr : Bool) (d : D), r[i]? = some (.imm fr d) → ∃ v, σ[i]? = some (some v) ∧ Rp Z.K (hp Z (Ow A r) H fr) v d
  own : ∀ (i : Nat) (ds : Ob), r[i]? = some (.own ds) → σ[i]? = some (some (.ref (A i))) ∧ OwnOk Z.K (GH Z (Ow A r) H) (H (A i)) ds
  scr : ∀ (i : Nat) (ns : List Int), r[i]? = some (.scr ns) → ∃ a, σ[i]? = some (some (.ref a)) ∧ SqL Z.K (FH Z (Ow A r) H) a (ns.map V.int)
  raw : ∀ (i : Nat) (v : L2.V), r[i]? = some (.raw v) → σ[i]? = some (some v)
  pk : ∀ (i : Nat) (q : Pk), r[i]? = some (.pk q) → PkOk A (GH Z (Ow A r) H) σ[i]? q
  inj : ∀ (i j : Nat) (ds es : Ob), r[i]? = some (.own ds) → r[j]? = some (.own es) → A i = A j → i = j
  notS : ∀ (i : Nat) (ds : Ob), r[i]? = some (.own ds) → ¬ Z.S (A i)
  smut : ∀ a, Z.S a → Mut (H a)
  base : ∀ a o, Z.H0 a = some o → (∀ i, (i, a) ∉ Z.io) → H a = some o
  newo : ∀ (i : Nat) (ds : Ob), r[i]? = some (.own ds) → (i, A i) ∈ Z.io ∨ Z.H0 (A i) = none
  ioo : ∀ (i : Nat) (a : Addr), (i, a) ∈ Z.io → A i = a ∧ ∃ ds, r[i]? = some (.own ds)
  len : r.length = σ.length

section
variable {Z : Fix} {A : Nat → Addr} {r : List Slot} {σ : L2.St} {H H' : Hp}
theorem sqL_same {K : PySem.W.Frag} (e : Same H H') {a : Addr} {xs : List V} (h : SqL K H a xs) : SqL K H' a xs := by
  rcases h with h | h
  · rcases h with h | ⟨o, h⟩
    · exact .inl (.inl (e _ _ h))
    · exact .inl (.inr ⟨o, e _ _ h⟩)
  · exact .inr h
/-- an own list is a list -/
theorem J.owl (j : J Z A r σ H) {a : Addr} (h : Ow A r a) : ∃ u, H a = some u ∧ Mut (some u) := by
  obtain ⟨i, ds, h, rfl⟩ := h
  exact (j.own i ds h).2.is
/-- a tuple is left out nowhere -/
theorem J.notup (j : J Z A r σ H) {a : Addr} {o : HO} (h : H a = some o) (nm : ¬ Mut (some o)) : ¬ (Z.S a ∨ Ow A r a ∨ Mut (Z.H0 a)) := by
  rintro (z | z | z)
  · have := j.smut a z
    rw [h] at this
    exact nm this
  · obtain ⟨u, e, mu⟩ := j.owl z
    rw [h] at e
    cases e
    exact nm mu
  · cases e : Z.H0 a with
    | none => rw [e] at z; exact z
    | some o' =>
      rw [e] at z
      by_cases hio : ∀ i, (i, a) ∉ Z.io
      · have := j.base a o' e hio
        rw [h] at this
        cases this
        exact nm z
      · have ⟨i, hi⟩ := Classical.not_forall.mp hio
        have hi := Classical.not_not.mp hi
        obtain ⟨e1, ds, e2⟩ := j.ioo i a hi
        obtain ⟨u, e3, mu⟩ := j.owl ⟨i, ds, e2, e1⟩
        rw [h] at e3
        cases e3
        exact nm mu
theorem J.tupT (j : J Z A r σ H) {a : Addr} {xs : List V} (h : H a = some (.tup xs)) : GH Z (Ow A r) H a = some (.tup xs) := hide_mk (j.notup h fun z => z) h
theorem J.sqT (j : J Z A r σ H) {a : Addr} {xs : List V} (h : SqT Z.K H a xs) : SqT Z.K (GH Z (Ow A r) H) a xs := by
  rcases h with h | h
  · rcases h with h | ⟨o, h⟩
    · exact .inl (.inl (hide_mk (j.notup h fun z => z) h))
    · exact .inl (.inr ⟨o, hide_mk (j.notup h fun z => z) h⟩)
  · exact .inr h
theorem J.flat (j : J Z A r σ H) {v : V} {d : D} (f : flatD d = true) (h : Rp Z.K H v d) : Rp Z.K (GH Z (Ow A r) H) v d := Rp.flat (fun _ _ => j.tupT) d f h
theorem J.flatA (j : J Z A r σ H) {vs : List V} {ds : List D} (f : flatA ds = true) (h : RpA Z.K H vs ds) : RpA Z.K (GH Z (Ow A r) H) vs ds := RpA.flat (fun _ _ => j.tupT) ds f h
theorem fh_le {O : Addr → Prop} : Same (FH Z O H) H := hide_le
theorem gh_le {O : Addr → Prop} : Same (GH Z O H) H := hide_le
theorem hp_le {O : Addr → Prop} {fr : Bool} : Same (hp Z O H fr) H := hp_fh.trans fh_le
/-- all that is tracked stands: the state is the same -/
theorem J.same (j : J Z A r σ H) (e : Same H H') : J Z A r σ H' where
  imm := fun i fr d h => let ⟨v, e1, e2⟩ := j.imm i fr d h; ⟨v, e1, e2.mono (Gr.of e).hp⟩
  own := fun i ds h => ⟨(j.own i ds h).1, ((j.own i ds h).2.same e).mono (Gr.of e).gh⟩
  scr := fun i ns h => let ⟨a, e1, e2⟩ := j.scr i ns h; ⟨a, e1, sqL_same (Gr.of e).fh e2⟩
  raw := j.raw
  pk := fun i q h => (j.pk i q h).mono (Gr.of e).gh
  inj := j.inj
  notS := j.notS
  smut := fun a h => by
    have m := j.smut a h
    cases q : H a with
    | none => rw [q] at m; exact m.elim
    | some o => rw [e a o q]; rw [q] at m; exact m
  base := fun a o h n => e a o (j.base a o h n)
  newo := j.newo
  ioo := j.ioo
  len := j.len
/-- a new place -/
theorem same_new {p : Addr} {o : HO} (h : H p = none) : Same H (upd H p o) := fun a u e => by
  rw [upd_ne (ne_of_none e h)]
  exact e
theorem J.new (j : J Z A r σ H) {p : Addr} {o : HO} (h : H p = none) : J Z A r σ (upd H p o) := j.same (same_new h)
/-- a place not known now is not known at the entry, not left out -/
theorem J.fresh (j : J Z A r σ H) {p : Addr} (h : H p = none) : Z.H0 p = none ∧ ¬ Z.S p ∧ ¬ Ow A r p := by
  refine ⟨?_, fun z => ?_, fun z => ?_⟩
  · cases e : Z.H0 p with
    | none => rfl
    | some o =>
      by_cases hio : ∀ i, (i, p) ∉ Z.io
      · have := j.base p o e hio
        rw [h] at this
        cases this
      · have ⟨i, hi⟩ := Classical.not_forall.mp hio
        have hi := Classical.not_not.mp hi
        obtain ⟨e1, ds, e2⟩ := j.ioo i p hi
        obtain ⟨vs, e3, _⟩ := j.owl ⟨i, ds, e2, e1⟩
        rw [h] at e3
        cases e3
  · have := j.smut p z
    rw [h] at this
    exact this
  · obtain ⟨vs, e, _⟩ := j.owl z
    rw [h] at e
    cases e
theorem J.ghnew (j : J Z A r σ H) {p : Addr} {o : HO} (h : H p = none) : GH Z (Ow A r) (upd H p o) p = some o := by
  obtain ⟨h0, hS, hO⟩ := j.fresh h
  refine hide_mk ?_ upd_same
  rintro (z | z | z)
  · exact hS z
  · exact hO z
  · rw [h0] at z; exact z
end
end HL
/-! Fb: expressions as actions over a typed state. -/
namespace HL
open PySem PySem.Spec PyProof.Rows L2

inductive Res (γ α : Type) where
  | ok (a : α) (g : γ)
  | exc (x : Str) (g : γ)
  | bad
abbrev Ac (γ α : Type) := γ → Res γ α
/-- how a value is held: made since the entry; known; the own list in slot i -/
inductive Md where
  | fr
  | an
  | bo (i : Nat)
def okM : Md → Bool → Bool
  | .bo _, p => p
  | _, _ => true
def Rm {γ : Type} (Z : Fix) (A : Nat → Addr) (Ve : Ev γ) (H : Hp) : Md → L2.V → D → Prop
  | .fr, v, d => Rp Z.K (GH Z (OwV A Ve) H) v d
  | .an, v, d => Rp Z.K (FH Z (OwV A Ve) H) v d
  | .bo i, v, d => v = .ref (A i) ∧ ¬ Z.S (A i) ∧ ∃ vs ds, d = .list ds ∧ H (A i) = some (.lst vs) ∧ RpA Z.K (GH Z (OwV A Ve) H) vs ds
section
variable {γ : Type} {Z : Fix} {A : Nat → Addr} {Ve : Ev γ} {g : γ} {σ : L2.St} {H H' : Hp} {m : Md} {v : L2.V} {d : D} {p : Bool}
theorem Rm.full (h : Rm Z A Ve H m v d) : Rp Z.K H v d := by
  cases m with
  | fr => exact Rp.mono gh_le d h
  | an => exact Rp.mono fh_le d h
  | bo i =>
    obtain ⟨rfl, _, vs, ds, rfl, e, r⟩ := h
    exact .lst e (RpA.mono gh_le _ r)
theorem Rm.an (h : Rm Z A Ve H .fr v d) : Rm Z A Ve H .an v d := Rp.mono gh_fh d h
theorem Rm.step (h : Rm Z A Ve H m v d) (e : Gr (OwV A Ve) H H') (s : p = true → Same H H') (k : okM m p = true) : Rm Z A Ve H' m v d := by
  cases m with
  | fr => exact Rp.mono e.gh d h
  | an => exact Rp.mono e.fh d h
  | bo i =>
    obtain ⟨rfl, ns, vs, ds, rfl, e1, r⟩ := h
    exact ⟨rfl, ns, vs, ds, rfl, s k _ _ e1, RpA.mono e.gh _ r⟩
theorem Rm.same (h : Rm Z A Ve H m v d) (s : Same H H') : Rm Z A Ve H' m v d := by
  cases m with
  | fr => exact Rp.mono (Gr.of s).gh d h
  | an => exact Rp.mono (Gr.of s).fh d h
  | bo i =>
    obtain ⟨rfl, ns, vs, ds, rfl, e1, r⟩ := h
    exact ⟨rfl, ns, vs, ds, rfl, s _ _ e1, RpA.mono (Gr.of s).gh _ r⟩
theorem Rm.flat (j : J Z A (at_ Ve g) σ H) (f : flatD d = true) (h : Rp Z.K H v d) : Rm Z A Ve H .fr v d := by
  have := j.flat f h
  rw [ow_at] at this
  exact this
theorem Rm.flatM (j : J Z A (at_ Ve g) σ H) (f : flatD d = true) (h : Rp Z.K H v d) (hm : ∀ i, m ≠ .bo i) : Rm Z A Ve H m v d := by
  have := Rm.flat j f h
  cases m with
  | fr => exact this
  | an => exact this.an
  | bo i => exact absurd rfl (hm i)
end

/-- an expression's reading over the state -/
def tE {γ α : Type} [Enc α] (mg : Str → Option Value) (Z : Fix) (W : WX) (Ve : Ev γ) (m : Md) (p : Bool) (f : Ac γ α) : TE := fun σ H Q => ∃ g A, J Z A (at_ Ve g) σ H ∧
  match f g with
  | .ok a g' => ∀ v H', J Z A (at_ Ve g') σ H' → Gr (OwV A Ve) H H' → (p = true → Same H H') → Rm Z A Ve H' m v (enc a) → Q v H'
  | .exc x g' => ∀ c H', mg x = some c → J Z A (at_ Ve g') σ H' → Gr (OwV A Ve) H H' → W c none σ H'
  | .bad => False
/-- .. of one that makes a new list -/
def tN {γ α : Type} [Enc α] (mg : Str → Option Value) (Z : Fix) (W : WX) (Ve : Ev γ) (p : Bool) (f : Ac γ (List α)) : TE := fun σ H Q => ∃ g A, J Z A (at_ Ve g) σ H ∧
  match f g with
  | .ok a g' => ∀ q vs H', H' q = none → J Z A (at_ Ve g') σ H' → Gr (OwV A Ve) H H' → (p = true → Same H H') → RpA Z.K (GH Z (OwV A Ve) H') vs (a.map enc) → Q (.ref q) (upd H' q (.lst vs))
  | .exc x g' => ∀ c H', mg x = some c → J Z A (at_ Ve g') σ H' → Gr (OwV A Ve) H H' → W c none σ H'
  | .bad => False
/-- a test's -/
def tT {γ : Type} (mg : Str → Option Value) (Z : Fix) (W : WX) (Ve : Ev γ) (p : Bool) (f : Ac γ Bool) : TT := fun σ H Q => ∃ g A, J Z A (at_ Ve g) σ H ∧
  match f g with
  | .ok a g' => ∀ H', J Z A (at_ Ve g') σ H' → Gr (OwV A Ve) H H' → (p = true → Same H H') → Q a H'
  | .exc x g' => ∀ c H', mg x = some c → J Z A (at_ Ve g') σ H' → Gr (OwV A Ve) H H' → W c none σ H'
  | .bad => False
structure SE (X : Cx) {γ α : Type} [Enc α] (Ve : Ev γ) (m : Md) (p : Bool) (e : Expr) (f : Ac γ α) : Prop where
  run : ∀ (Z : Fix) (W : WX), Z.K = X.K → Takes X W → PE X e (tE X.mg Z W Ve m p f)
structure SN (X : Cx) {γ α : Type} [Enc α] (Ve : Ev γ) (p : Bool) (e : Expr) (f : Ac γ (List α)) : Prop where
  run : ∀ (Z : Fix) (W : WX), Z.K = X.K → Takes X W → PE X e (tN X.mg Z W Ve p f)
structure ST (X : Cx) {γ : Type} (Ve : Ev γ) (p : Bool) (e : Expr) (f : Ac γ Bool) : Prop where
  run : ∀ (Z : Fix) (W : WX), Z.K = X.K → Takes X W → PT X e (tT X.mg Z W Ve p f)
structure SW (X : Cx) {γ : Type} (Ve : Ev γ) (p : Bool) (e : Expr) (f : Ac γ Bool) : Prop where
  run : ∀ (Z : Fix) (W : WX), Z.K = X.K → Takes X W → PW X e (tT X.mg Z W Ve p f)

theorem _root_.L2.PE.weak {X : Cx} {e : Expr} {t t' : TE} (h : PE X e t) (w : ∀ σ H Q, t' σ H Q → t σ H Q) : PE X e t' := ⟨fun pins s σ H Q I q => h.run pins s σ H Q I (w σ H Q q)⟩
theorem _root_.L2.PT.weak {X : Cx} {e : Expr} {t t' : TT} (h : PT X e t) (w : ∀ σ H Q, t' σ H Q → t σ H Q) : PT X e t' := ⟨fun pins s σ H Q I q => h.run pins s σ H Q I (w σ H Q q)⟩
theorem _root_.L2.PW.weak {X : Cx} {e : Expr} {t t' : TT} (h : PW X e t) (w : ∀ σ H Q, t' σ H Q → t σ H Q) : PW X e t' := ⟨fun wh pins s σ H Q I q => h.run wh pins s σ H Q I (w σ H Q q)⟩

/-! ### actions -/
def pureA {γ α : Type} (x : γ → α) : Ac γ α := fun g => .ok (x g) g
def bindA {γ α β : Type} (f : Ac γ α) (k : α → Ac γ β) : Ac γ β := fun g => match f g with
  | .ok a g1 => k a g1
  | .exc x g1 => .exc x g1
  | .bad => .bad
def optA {γ α : Type} (o : Option α) : Ac γ α := fun g => match o with
  | some a => .ok a g
  | none => .bad
def op1 {γ α β : Type} (k : α → Option β) (f : Ac γ α) : Ac γ β := bindA f fun a => optA (k a)
def op2 {γ α β δ : Type} (k : α → β → Option δ) (f : Ac γ α) (h : Ac γ β) : Ac γ δ := bindA f fun a => bindA h fun b => optA (k a b)
def op3 {γ α β δ ε : Type} (k : α → β → δ → Option ε) (f : Ac γ α) (h : Ac γ β) (l : Ac γ δ) : Ac γ ε := bindA f fun a => bindA h fun b => bindA l fun c => optA (k a b c)

section
variable {γ α β δ ε : Type} [Enc α] [Enc β] [Enc δ] [Enc ε] {mg : Str → Option Value} {Z : Fix} {W : WX} {Ve : Ev γ} {m m1 m2 m3 mr : Md} {p p1 p2 p3 : Bool}
/-- what a rule of two operands gives -/
def OpK (Z : Fix) (r : R2) (m1 m2 mr : Md) (k : α → β → Option δ) (Ve : Ev γ) : Prop :=
  ∀ (A : Nat → Addr) (g : γ) (σ : L2.St) (H : Hp) (x y : L2.V) (a : α) (b : β) (c : δ) (Q : VK), J Z A (at_ Ve g) σ H → Rm Z A Ve H m1 x (enc a) → Rm Z A Ve H m2 y (enc b) → k a b = some c →
    (∀ v H', Same H H' → J Z A (at_ Ve g) σ H' → Rm Z A Ve H' mr v (enc c) → Q v H') → r x y H Q
def UnK (Z : Fix) (r : L2.V → Hp → VK → Prop) (m1 mr : Md) (k : α → Option δ) (Ve : Ev γ) : Prop :=
  ∀ (A : Nat → Addr) (g : γ) (σ : L2.St) (H : Hp) (x : L2.V) (a : α) (c : δ) (Q : VK), J Z A (at_ Ve g) σ H → Rm Z A Ve H m1 x (enc a) → k a = some c →
    (∀ v H', Same H H' → J Z A (at_ Ve g) σ H' → Rm Z A Ve H' mr v (enc c) → Q v H') → r x H Q
/-- .. and gives a new list -/
def OpN (Z : Fix) (r : R2) (m1 m2 : Md) (k : α → β → Option (List δ)) (Ve : Ev γ) : Prop :=
  ∀ (A : Nat → Addr) (g : γ) (σ : L2.St) (H : Hp) (x y : L2.V) (a : α) (b : β) (c : List δ) (Q : VK), J Z A (at_ Ve g) σ H → Rm Z A Ve H m1 x (enc a) → Rm Z A Ve H m2 y (enc b) → k a b = some c →
    (∀ q vs, H q = none → RpA Z.K (GH Z (OwV A Ve) H) vs (c.map enc) → Q (.ref q) (upd H q (.lst vs))) → r x y H Q
def UnN (Z : Fix) (r : L2.V → Hp → VK → Prop) (m1 : Md) (k : α → Option (List δ)) (Ve : Ev γ) : Prop :=
  ∀ (A : Nat → Addr) (g : γ) (σ : L2.St) (H : Hp) (x : L2.V) (a : α) (c : List δ) (Q : VK), J Z A (at_ Ve g) σ H → Rm Z A Ve H m1 x (enc a) → k a = some c →
    (∀ q vs, H q = none → RpA Z.K (GH Z (OwV A Ve) H) vs (c.map enc) → Q (.ref q) (upd H q (.lst vs))) → r x H Q

theorem tUn_ok {r : L2.V → Hp → VK → Prop} {k : α → Option δ} {f : Ac γ α} (hk : UnK Z r m1 mr k Ve) {σ : L2.St} {H : Hp} {Q : VK} (h : tE mg Z W Ve mr p (op1 k f) σ H Q) : tUn r (tE mg Z W Ve m1 p f) σ H Q := by
  obtain ⟨g, A, j, h⟩ := h
  refine ⟨g, A, j, ?_⟩
  unfold op1 bindA at h
  cases ef : f g with
  | bad => rw [ef] at h; exact h
  | exc x g1 => rw [ef] at h; exact h
  | ok a g1 =>
    rw [ef] at h
    unfold optA at h
    cases ek : k a with
    | none => simp only [ek] at h
    | some c =>
      simp only [ek] at h
      intro v H1 j1 gr sm rv
      exact hk A g1 σ H1 v a c Q j1 rv ek fun w H2 s2 j2 rw2 => h w H2 j2 (gr.trans (.of s2)) (fun z => (sm z).trans s2) rw2
theorem tUnN_ok {r : L2.V → Hp → VK → Prop} {k : α → Option (List δ)} {f : Ac γ α} (hk : UnN Z r m1 k Ve) {σ : L2.St} {H : Hp} {Q : VK} (h : tN mg Z W Ve p (op1 k f) σ H Q) : tUn r (tE mg Z W Ve m1 p f) σ H Q := by
  obtain ⟨g, A, j, h⟩ := h
  refine ⟨g, A, j, ?_⟩
  unfold op1 bindA at h
  cases ef : f g with
  | bad => rw [ef] at h; exact h
  | exc x g1 => rw [ef] at h; exact h
  | ok a g1 =>
    rw [ef] at h
    unfold optA at h
    cases ek : k a with
    | none => simp only [ek] at h
    | some c =>
      simp only [ek] at h
      intro v H1 j1 gr sm rv
      exact hk A g1 σ H1 v a c Q j1 rv ek fun q vs hq rq => h q vs H1 hq j1 gr sm rq
theorem tOp_ok {r : R2} {k : α → β → Option δ} {f : Ac γ α} {h2 : Ac γ β} (hk : OpK Z r m1 m2 mr k Ve) (hm : okM m1 p2 = true) {σ : L2.St} {H : Hp} {Q : VK} (h : tE mg Z W Ve mr (p1 && p2) (op2 k f h2) σ H Q) :
    tOp r (tE mg Z W Ve m1 p1 f) (tE mg Z W Ve m2 p2 h2) σ H Q := by
  obtain ⟨g, A, j, h⟩ := h
  refine ⟨g, A, j, ?_⟩
  unfold op2 bindA at h
  cases ef : f g with
  | bad => rw [ef] at h; exact h
  | exc x g1 => rw [ef] at h; exact h
  | ok a g1 =>
    rw [ef] at h
    intro v H1 j1 gr sm rv
    refine ⟨g1, A, j1, ?_⟩
    simp only at h
    cases eh : h2 g1 with
    | bad => simp only [eh] at h
    | exc x g2 =>
      simp only [eh] at h
      exact fun c H' mc j' gr' => h c H' mc j' (gr.trans gr')
    | ok b g2 =>
      simp only [eh] at h
      unfold optA at h
      cases ek : k a b with
      | none => simp only [ek] at h
      | some c =>
        simp only [ek] at h
        intro w H2 j2 gr2 sm2 rw2
        exact hk A g2 σ H2 v w a b c Q j2 (rv.step gr2 sm2 hm) rw2 ek fun u H3 s3 j3 ru => h u H3 j3 ((gr.trans gr2).trans (.of s3)) (fun z => ((sm (Bool.and_eq_true_iff.mp z).1).trans (sm2 (Bool.and_eq_true_iff.mp z).2)).trans s3) ru
theorem tOpN_ok {r : R2} {k : α → β → Option (List δ)} {f : Ac γ α} {h2 : Ac γ β} (hk : OpN Z r m1 m2 k Ve) (hm : okM m1 p2 = true) {σ : L2.St} {H : Hp} {Q : VK} (h : tN mg Z W Ve (p1 && p2) (op2 k f h2) σ H Q) :
    tOp r (tE mg Z W Ve m1 p1 f) (tE mg Z W Ve m2 p2 h2) σ H Q := by
  obtain ⟨g, A, j, h⟩ := h
  refine ⟨g, A, j, ?_⟩
  unfold op2 bindA at h
  cases ef : f g with
  | bad => rw [ef] at h; exact h
  | exc x g1 => rw [ef] at h; exact h
  | ok a g1 =>
    rw [ef] at h
    intro v H1 j1 gr sm rv
    refine ⟨g1, A, j1, ?_⟩
    simp only at h
    cases eh : h2 g1 with
    | bad => simp only [eh] at h
    | exc x g2 =>
      simp only [eh] at h
      exact fun c H' mc j' gr' => h c H' mc j' (gr.trans gr')
    | ok b g2 =>
      simp only [eh] at h
      unfold optA at h
      cases ek : k a b with
      | none => simp only [ek] at h
      | some c =>
        simp only [ek] at h
        intro w H2 j2 gr2 sm2 rw2
        exact hk A g2 σ H2 v w a b c Q j2 (rv.step gr2 sm2 hm) rw2 ek fun q vs hq rq => h q vs H2 hq j2 (gr.trans gr2) (fun z => (sm (Bool.and_eq_true_iff.mp z).1).trans (sm2 (Bool.and_eq_true_iff.mp z).2)) rq
end

/-! ### new lists are data; lists of none but flat data are made since -/
section
variable {X : Cx} {γ α β δ : Type} [Enc α] [Enc β] [Enc δ] {Ve : Ev γ} {m : Md} {p : Bool} {e : Expr}
theorem rm_new {Z : Fix} {A : Nat → Addr} {g : γ} {σ : L2.St} {H : Hp} {q : Addr} {vs : List L2.V} {c : List α} (j : J Z A (at_ Ve g) σ H) (hq : H q = none) (rq : RpA Z.K (GH Z (OwV A Ve) H) vs (c.map enc)) : Rm Z A Ve (upd H q (.lst vs)) .fr (.ref q) (enc c) := by
  have hn := j.ghnew (o := .lst vs) hq
  rw [ow_at] at hn
  exact .lst hn (RpA.mono (Gr.of (same_new hq)).gh _ rq)
theorem tN_tE {mg : Str → Option Value} {Z : Fix} {W : WX} {f : Ac γ (List α)} {σ : L2.St} {H : Hp} {Q : VK} (h : tE mg Z W Ve .fr p f σ H Q) : tN mg Z W Ve p f σ H Q := by
  obtain ⟨g, A, j, h⟩ := h
  refine ⟨g, A, j, ?_⟩
  cases ef : f g with
  | bad => rw [ef] at h; exact h
  | exc x g1 => rw [ef] at h; exact h
  | ok a g1 =>
    rw [ef] at h
    intro q vs H1 hq j1 gr sm rq
    exact h (.ref q) _ (j1.new hq) (gr.trans (.of (same_new hq))) (fun z => (sm z).trans (same_new hq)) (rm_new j1 hq rq)
theorem SN.se {f : Ac γ (List α)} (h : SN X Ve p e f) : SE X Ve .fr p e f := ⟨fun Z W hK tk => (h.run Z W hK tk).weak fun _ _ _ q => tN_tE q⟩
/-- what is told as made since is known -/
theorem tE_an {mg : Str → Option Value} {Z : Fix} {W : WX} {f : Ac γ α} {σ : L2.St} {H : Hp} {Q : VK} (h : tE mg Z W Ve .an p f σ H Q) : tE mg Z W Ve .fr p f σ H Q := by
  obtain ⟨g, A, j, h⟩ := h
  refine ⟨g, A, j, ?_⟩
  cases ef : f g with
  | bad => rw [ef] at h; exact h
  | exc x g1 => rw [ef] at h; exact h
  | ok a g1 =>
    rw [ef] at h
    exact fun v H1 j1 gr sm rv => h v H1 j1 gr sm rv.an
theorem SE.an {f : Ac γ α} (h : SE X Ve .fr p e f) : SE X Ve .an p e f := ⟨fun Z W hK tk => (h.run Z W hK tk).weak fun _ _ _ q => tE_an q⟩
theorem tE_flat [Flat α] {mg : Str → Option Value} {Z : Fix} {W : WX} {f : Ac γ α} {σ : L2.St} {H : Hp} {Q : VK} (h : tE mg Z W Ve .fr p f σ H Q) : tE mg Z W Ve m p f σ H Q := by
  obtain ⟨g, A, j, h⟩ := h
  refine ⟨g, A, j, ?_⟩
  cases ef : f g with
  | bad => rw [ef] at h; exact h
  | exc x g1 => rw [ef] at h; exact h
  | ok a g1 =>
    rw [ef] at h
    exact fun v H1 j1 gr sm rv => h v H1 j1 gr sm (Rm.flat j1 (Flat.flat a) rv.full)
theorem SE.flat [Flat α] {f : Ac γ α} (h : SE X Ve m p e f) : SE X Ve .fr p e f := ⟨fun Z W hK tk => (h.run Z W hK tk).weak fun _ _ _ q => tE_flat q⟩
/-- a pure one may be told as one that changes -/
theorem SE.imp {f : Ac γ α} (h : SE X Ve m true e f) : SE X Ve m p e f := ⟨fun Z W hK tk => (h.run Z W hK tk).weak fun σ H Q q => by
  obtain ⟨g, A, j, h⟩ := q
  refine ⟨g, A, j, ?_⟩
  cases ef : f g with
  | bad => rw [ef] at h; exact h
  | exc x g1 => rw [ef] at h; exact h
  | ok a g1 =>
    rw [ef] at h
    exact fun v H1 j1 gr sm rv => h v H1 j1 gr (fun _ => sm rfl) rv⟩
end

/-! ### names, constants -/
section
variable {X : Cx} {γ α : Type} [Enc α] {Ve : Ev γ}
theorem sv {fr : Bool} (i : Nat) (x : γ → α) {n : Str} {pos : Pos} (h : Ve[i]? = some (.imm fr fun g => enc (x g)) := by rfl) (hN : X.N[i]? = some n := by rfl)
    (hv : Vis X.env.scope n := by first | exact Or.inl rfl | exact Or.inr (Or.inl rfl) | exact Or.inr (Or.inr rfl)) (hd : (n == ("__debug__" : Str)) = false := by decide) (hcd : (n == ("__classdict__" : Str)) = false := by decide) :
    SE X Ve (if fr = true then .fr else .an) true (.Name n pos) (pureA x) := ⟨fun Z W hK tk => (pe_var hN hv hd hcd).weak fun σ H Q q => by
  obtain ⟨g, A, j, k⟩ := q
  have hr : (at_ Ve g)[i]? = some (.imm fr (enc (x g))) := by rw [at_get, h]; rfl
  obtain ⟨v, e1, e2⟩ := j.imm i fr _ hr
  refine ⟨v, e1, k v H j (.refl H) (fun _ => Same.refl H) ?_⟩
  rw [ow_at] at e2
  cases fr with
  | true => exact e2
  | false => exact e2⟩
theorem svT (i : Nat) (x : γ → α) {n : Str} {pos : Pos} (h : Ve[i]? = some (.imm true fun g => enc (x g)) := by rfl) (hN : X.N[i]? = some n := by rfl)
    (hv : Vis X.env.scope n := by first | exact Or.inl rfl | exact Or.inr (Or.inl rfl) | exact Or.inr (Or.inr rfl)) (hd : (n == ("__debug__" : Str)) = false := by decide) (hcd : (n == ("__classdict__" : Str)) = false := by decide) :
    SE X Ve .fr true (.Name n pos) (pureA x) := sv i x h hN hv hd hcd
theorem svF (i : Nat) (x : γ → α) {n : Str} {pos : Pos} (h : Ve[i]? = some (.imm false fun g => enc (x g)) := by rfl) (hN : X.N[i]? = some n := by rfl)
    (hv : Vis X.env.scope n := by first | exact Or.inl rfl | exact Or.inr (Or.inl rfl) | exact Or.inr (Or.inr rfl)) (hd : (n == ("__debug__" : Str)) = false := by decide) (hcd : (n == ("__classdict__" : Str)) = false := by decide) :
    SE X Ve .an true (.Name n pos) (pureA x) := sv i x h hN hv hd hcd
/-- a list of one's own, read -/
theorem so (i : Nat) (x : γ → List α) {n : Str} {pos : Pos} (h : Ve[i]? = some (.own fun g => (x g).map enc) := by rfl) (hN : X.N[i]? = some n := by rfl)
    (hv : Vis X.env.scope n := by first | exact Or.inl rfl | exact Or.inr (Or.inl rfl) | exact Or.inr (Or.inr rfl)) (hd : (n == ("__debug__" : Str)) = false := by decide) (hcd : (n == ("__classdict__" : Str)) = false := by decide) :
    SE X Ve (.bo i) true (.Name n pos) (pureA x) := ⟨fun Z W hK tk => (pe_var hN hv hd hcd).weak fun σ H Q q => by
  obtain ⟨g, A, j, k⟩ := q
  have hr : (at_ Ve g)[i]? = some (.own ((x g).map enc)) := by rw [at_get, h]; rfl
  obtain ⟨e1, vs, e2, e3⟩ := j.own i _ hr
  rw [ow_at] at e3
  exact ⟨_, e1, k _ H j (.refl H) (fun _ => Same.refl H) ⟨rfl, j.notS i _ hr, vs, _, rfl, e2, e3⟩⟩⟩
theorem s_const {te : TE} {e : Expr} {v : L2.V} (c : α) (h : PE X e (tC v)) (hr : ∀ K H, Rp K H v (enc c)) : SE X Ve .fr true e (pureA fun _ => c) := ⟨fun Z W hK tk => h.weak fun σ H Q q => by
  obtain ⟨g, A, j, h⟩ := q
  exact h v H j (.refl H) (fun _ => Same.refl H) (hr _ _)⟩
theorem si (i : Int) {j pos} : SE X Ve .fr true (.Constant (.int i) j pos) (pureA fun _ => i) := s_const (te := tC (.int i)) i pe_int fun _ _ => .int i
theorem sb (b : Bool) {j pos} : SE X Ve .fr true (.Constant (.bool b) j pos) (pureA fun _ => b) := s_const (te := tC (.bl b)) b pe_bl fun _ _ => .bl b
theorem ss (x : Str) {j pos} : SE X Ve .fr true (.Constant (.str x) j pos) (pureA fun _ => x) := s_const (te := tC (.str x)) x pe_str fun _ _ => .str x
/-- None, as a thing of any kind that may be none -/
theorem snon {j pos} : SE X Ve .fr true (.Constant .none j pos) (pureA fun _ => (none : Option α)) := s_const (te := tC .non) none pe_non fun _ _ => .non
theorem sunit {j pos} : SE X Ve .fr true (.Constant .none j pos) (pureA fun _ => ()) := s_const (te := tC .non) () pe_non fun _ _ => .non
/-- a module's constant -/
theorem sg {x : Str} {u : Value} {v : L2.V} {pos : Pos} (c : α) (hm : X.mg x = some u) (r : RelV v u) (hr : ∀ K H, Rp K H v (enc c)) (hg : Gl X x := by rfl) (hd : (x == ("__debug__" : Str)) = false := by decide) :
    SE X Ve .fr true (.Name x pos) (pureA fun _ => c) := s_const (te := tC v) c (pe_glob hg hm r hd) hr
end
end HL
/-! Fc: operators, comparisons, tests, subscripts, slices. -/
namespace HL
open PySem PySem.Spec PyProof.Rows L2

/-! ### what the operators give -/
def addI (a b : Int) : Option Int := some (a + b)
def subI (a b : Int) : Option Int := some (a - b)
def mulI (a b : Int) : Option Int := if a.natAbs.log2 + b.natAbs.log2 < 1000000 then some (a * b) else none
def fdivI (a b : Int) : Option Int := if b ≠ 0 ∧ b.natAbs.log2 < 9000 then some (a.fdiv b) else none
def modI (a b : Int) : Option Int := if b ≠ 0 then some (a.fmod b) else none
def powI (a b : Int) : Option Int := if 0 ≤ b ∧ b ≤ 1000000 ∧ a.natAbs < 2 ^ 64 then some (a ^ b.toNat) else none
def shlI (a b : Int) : Option Int := if 0 ≤ b ∧ b ≤ 1000000 ∧ a.natAbs < 2 ^ 64 then some (a * 2 ^ b.toNat) else none
def ltI (a b : Int) : Option Bool := some (decide (a < b))
def leI (a b : Int) : Option Bool := some (decide (a ≤ b))
def gtI (a b : Int) : Option Bool := some (decide (b < a))
def geI (a b : Int) : Option Bool := some (decide (b ≤ a))
def negI (a : Int) : Option Int := some (-a)
def eqQ {α : Type} [DecidableEq α] (a b : α) : Option Bool := some (decide (a = b))
def neQ {α : Type} [DecidableEq α] (a b : α) : Option Bool := some (!decide (a = b))
def CDivX (_ j : Int) : Prop := j ≠ 0 ∧ j.natAbs.log2 < 9000
section
variable {X : Cx}
theorem op_fdivX : OpR X (binaryOp .FloorDiv) (rI CDivX fun i j => .int (i.fdiv j)) := opI fun i j _ _ _ _ _ hc q =>
  floordiv_int hc.1 q (.inl (PyProof.noPylong_of_log2 hc.2))
theorem iop_fdivX : OpR X (inplaceOp .FloorDiv) (rI CDivX fun i j => .int (i.fdiv j)) := opI fun i j _ _ _ _ _ hc q =>
  ifloordiv_int hc.1 q (.inl (PyProof.noPylong_of_log2 hc.2))
theorem iop_mulW : OpR X (inplaceOp .Mult) (rI CMulW fun i j => .int (i * j)) := opI fun _ _ _ _ _ _ _ hc q => imul_int q hc.ok
end
theorem rp_int {K : PySem.W.Frag} {H : Hp} {v : L2.V} {i : Int} (h : Rp K H v (enc i)) : v = .int i := by
  cases h
  rfl
theorem rp_bl {K : PySem.W.Frag} {H : Hp} {v : L2.V} {b : Bool} (h : Rp K H v (enc b)) : v = .bl b := by
  cases h
  rfl
theorem rp_str {K : PySem.W.Frag} {H : Hp} {v : L2.V} {b : Str} (h : Rp K H v (enc b)) : v = .str b := by
  cases h
  rfl
theorem rp_list {α : Type} [Enc α] {K : PySem.W.Frag} {H : Hp} {v : L2.V} {l : List α} (h : Rp K H v (enc l)) : ∃ a vs, v = .ref a ∧ H a = some (.lst vs) ∧ RpA K H vs (l.map enc) := by
  cases h with
  | lst h1 h2 => exact ⟨_, _, rfl, h1, h2⟩

section
variable {γ α β δ : Type} [Enc α] [Enc β] [Enc δ] {Z : Fix} {Ve : Ev γ} {m m1 m2 : Md}
/-- the value alone tells -/
theorem opK_v {r : R2} {k : α → β → Option δ} (h : ∀ (H : Hp) (x y : L2.V) (a : α) (b : β) (c : δ) (Q : VK), Rp Z.K H x (enc a) → Rp Z.K H y (enc b) → k a b = some c → (∀ v, (∀ H', Rp Z.K H' v (enc c)) → Q v H) → r x y H Q) : OpK Z r m1 m2 .fr k Ve :=
  fun A g σ H x y a b c Q j rx ry e q => h H x y a b c Q rx.full ry.full e fun v hv => q v H (Same.refl H) j (hv _)
theorem unK_v {r : L2.V → Hp → VK → Prop} {k : α → Option δ} (h : ∀ (H : Hp) (x : L2.V) (a : α) (c : δ) (Q : VK), Rp Z.K H x (enc a) → k a = some c → (∀ v, (∀ H', Rp Z.K H' v (enc c)) → Q v H) → r x H Q) : UnK Z r m1 .fr k Ve :=
  fun A g σ H x a c Q j rx e q => h H x a c Q rx.full e fun v hv => q v H (Same.refl H) j (hv _)
theorem opK_I {C : Int → Int → Prop} [DecidableRel C] {f : Int → Int → Int} {k : Int → Int → Option Int} (hk : ∀ i j c, k i j = some c → C i j ∧ c = f i j) : OpK Z (rI C fun i j => .int (f i j)) m1 m2 .fr k Ve := opK_v fun H x y a b c Q rx ry e q => by
  cases rp_int rx
  cases rp_int ry
  obtain ⟨hc, rfl⟩ := hk a b c e
  exact ⟨a, b, rfl, rfl, hc, q _ fun _ => .int _⟩
theorem opK_I0 {f : Int → Int → Int} {k : Int → Int → Option Int} (hk : ∀ i j c, k i j = some c → c = f i j) : OpK Z (rI0 fun i j => .int (f i j)) m1 m2 .fr k Ve := opK_v fun H x y a b c Q rx ry e q => by
  cases rp_int rx
  cases rp_int ry
  obtain rfl := hk a b c e
  exact ⟨a, b, rfl, rfl, q _ fun _ => .int _⟩
theorem opK_B0 {f : Int → Int → Bool} {k : Int → Int → Option Bool} (hk : ∀ i j c, k i j = some c → c = f i j) : OpK Z (rI0 fun i j => .bl (f i j)) m1 m2 .fr k Ve := opK_v fun H x y a b c Q rx ry e q => by
  cases rp_int rx
  cases rp_int ry
  obtain rfl := hk a b c e
  exact ⟨a, b, rfl, rfl, q _ fun _ => .bl _⟩
end
theorem some_inj' {α : Type} {a b : α} (h : some a = some b) : b = a := (Option.some.inj h).symm
theorem ite_some {c : Prop} [Decidable c] {α : Type} {a b : α} (h : (if c then some a else none) = some b) : c ∧ b = a := by
  by_cases hc : c
  · rw [if_pos hc] at h; exact ⟨hc, some_inj' h⟩
  · rw [if_neg hc] at h; cases h

section
variable {X : Cx} {γ α β δ : Type} [Enc α] [Enc β] [Enc δ] {Ve : Ev γ} {m m1 m2 mr : Md} {p p1 p2 : Bool} {a b : Expr} {pos : Pos}
theorem s_op {op : Operator} {r : PySem.W.Frag → R2} {k : α → β → Option δ} {f : Ac γ α} {h : Ac γ β} (ho : OpR X (binaryOp op) (r X.K)) (hk : ∀ Z : Fix, Z.K = X.K → OpK Z (r X.K) m1 m2 mr k Ve) (ha : SE X Ve m1 p1 a f) (hb : SE X Ve m2 p2 b h) (hm : okM m1 p2 = true) :
    SE X Ve mr (p1 && p2) (.BinOp a op b pos) (op2 k f h) := ⟨fun Z W hK tk => (pe_op ho (ha.run Z W hK tk) (hb.run Z W hK tk)).weak fun _ _ _ q => tOp_ok (hk Z hK) hm q⟩
theorem s_opN {op : Operator} {r : PySem.W.Frag → R2} {k : α → β → Option (List δ)} {f : Ac γ α} {h : Ac γ β} (ho : OpR X (binaryOp op) (r X.K)) (hk : ∀ Z : Fix, Z.K = X.K → OpN Z (r X.K) m1 m2 k Ve) (ha : SE X Ve m1 p1 a f) (hb : SE X Ve m2 p2 b h) (hm : okM m1 p2 = true) :
    SN X Ve (p1 && p2) (.BinOp a op b pos) (op2 k f h) := ⟨fun Z W hK tk => (pe_op ho (ha.run Z W hK tk) (hb.run Z W hK tk)).weak fun _ _ _ q => tOpN_ok (hk Z hK) hm q⟩
theorem s_un {op : UnaryOp} {r : L2.V → Hp → VK → Prop} {k : α → Option δ} {f : Ac γ α} (ho : UnR X (unaryOp op) r) (hk : ∀ Z : Fix, Z.K = X.K → UnK Z r m1 mr k Ve) (ha : SE X Ve m1 p a f) :
    SE X Ve mr p (.UnaryOp op a pos) (op1 k f) := ⟨fun Z W hK tk => (pe_un ho (ha.run Z W hK tk)).weak fun _ _ _ q => tUn_ok (hk Z hK) q⟩
theorem s_cmp {op : CmpOp} {r : PySem.W.Frag → R2} {k : α → β → Option Bool} {f : Ac γ α} {h : Ac γ β} (ho : OpR X (compareOp op) (r X.K)) (hk : ∀ Z : Fix, Z.K = X.K → OpK Z (r X.K) m1 m2 .fr k Ve) (ha : SE X Ve m1 p1 a f) (hb : SE X Ve m2 p2 b h) (hm : okM m1 p2 = true) (hn : behindInMarks op b = false) :
    SE X Ve .fr (p1 && p2) (.Compare a [op] [b] pos) (op2 k f h) := ⟨fun Z W hK tk => (pe_cmpR ho (ha.run Z W hK tk) (hb.run Z W hK tk) hn).weak fun _ _ _ q => tOp_ok (hk Z hK) hm q⟩
theorem tT_test {mg : Str → Option Value} {Z : Fix} {W : WX} {f : Ac γ Bool} {σ : L2.St} {H : Hp} {Q : Bool → Hp → Prop} (h : tT mg Z W Ve p f σ H Q) : tE mg Z W Ve m p f σ H (fun x H' => ∃ k, x = .bl k ∧ Q k H') := by
  obtain ⟨g, A, j, h⟩ := h
  refine ⟨g, A, j, ?_⟩
  cases ef : f g with
  | bad => rw [ef] at h; exact h
  | exc x g1 => rw [ef] at h; exact h
  | ok a g1 =>
    rw [ef] at h
    intro v H1 j1 gr sm rv
    exact ⟨a, rp_bl rv.full, h H1 j1 gr sm⟩
theorem t_cmp {op : CmpOp} {r : PySem.W.Frag → R2} {k : α → β → Option Bool} {f : Ac γ α} {h : Ac γ β} (ho : OpR X (compareOp op) (r X.K)) (hk : ∀ Z : Fix, Z.K = X.K → OpK Z (r X.K) m1 m2 .fr k Ve) (ha : SE X Ve m1 p1 a f) (hb : SE X Ve m2 p2 b h) (hm : okM m1 p2 = true) (hn : behindInMarks op b = false) :
    ST X Ve (p1 && p2) (.Compare a [op] [b] pos) (op2 k f h) := ⟨fun Z W hK tk => (pt_cmpR ho (ha.run Z W hK tk) (hb.run Z W hK tk) hn).weak fun _ _ _ q => tOp_ok (hk Z hK) hm (tT_test q)⟩
/-- a truth as a test -/
theorem t_val {f : Ac γ Bool} (h : SE X Ve m p a f) (he : ∀ whole, isTrue a X.env whole = (do let v ← whole; standAt a.pos; holding [v] (truthy v)) := by intro _; rfl) : ST X Ve p a f := ⟨fun Z W hK tk => (pt_val (h.run Z W hK tk) he).weak fun _ _ _ q => tT_test q⟩

/-! ### ints -/
variable {f : Ac γ Int} {h : Ac γ Int}
theorem s_add (ha : SE X Ve m1 p1 a f) (hb : SE X Ve m2 p2 b h) (hm : okM m1 p2 = true := by rfl) : SE X Ve .fr (p1 && p2) (.BinOp a .Add b pos) (op2 addI f h) :=
  s_op (r := fun _ => _) op_add (fun Z _ => opK_I0 fun i j c e => some_inj' e) ha hb hm
theorem s_sub (ha : SE X Ve m1 p1 a f) (hb : SE X Ve m2 p2 b h) (hm : okM m1 p2 = true := by rfl) : SE X Ve .fr (p1 && p2) (.BinOp a .Sub b pos) (op2 subI f h) :=
  s_op (r := fun _ => _) op_sub (fun Z _ => opK_I0 fun i j c e => some_inj' e) ha hb hm
theorem s_mul (ha : SE X Ve m1 p1 a f) (hb : SE X Ve m2 p2 b h) (hm : okM m1 p2 = true := by rfl) : SE X Ve .fr (p1 && p2) (.BinOp a .Mult b pos) (op2 mulI f h) :=
  s_op (r := fun _ => _) op_mulW (fun Z _ => opK_v fun H x y a b c Q rx ry e q => by
    cases rp_int rx
    cases rp_int ry
    obtain ⟨hc, rfl⟩ := ite_some e
    exact ⟨a, b, rfl, rfl, hc, q _ fun _ => .int _⟩) ha hb hm
theorem s_fdiv (ha : SE X Ve m1 p1 a f) (hb : SE X Ve m2 p2 b h) (hm : okM m1 p2 = true := by rfl) : SE X Ve .fr (p1 && p2) (.BinOp a .FloorDiv b pos) (op2 fdivI f h) :=
  s_op (r := fun _ => _) op_fdivX (fun Z _ => opK_v fun H x y a b c Q rx ry e q => by
    cases rp_int rx
    cases rp_int ry
    obtain ⟨hc, rfl⟩ := ite_some e
    exact ⟨a, b, rfl, rfl, hc, q _ fun _ => .int _⟩) ha hb hm
theorem s_mod (ha : SE X Ve m1 p1 a f) (hb : SE X Ve m2 p2 b h) (hm : okM m1 p2 = true := by rfl) : SE X Ve .fr (p1 && p2) (.BinOp a .Mod b pos) (op2 modI f h) :=
  s_op (r := fun _ => _) op_modN (fun Z _ => opK_v fun H x y a b c Q rx ry e q => by
    cases rp_int rx
    cases rp_int ry
    obtain ⟨hc, rfl⟩ := ite_some e
    exact ⟨a, b, rfl, rfl, hc, q _ fun _ => .int _⟩) ha hb hm
theorem s_pow (ha : SE X Ve m1 p1 a f) (hb : SE X Ve m2 p2 b h) (hm : okM m1 p2 = true := by rfl) : SE X Ve .fr (p1 && p2) (.BinOp a .Pow b pos) (op2 powI f h) :=
  s_op (r := fun _ => _) op_pow (fun Z _ => opK_v fun H x y a b c Q rx ry e q => by
    cases rp_int rx
    cases rp_int ry
    obtain ⟨hc, rfl⟩ := ite_some e
    exact ⟨a, b, rfl, rfl, hc, q _ fun _ => .int _⟩) ha hb hm
theorem s_shl (ha : SE X Ve m1 p1 a f) (hb : SE X Ve m2 p2 b h) (hm : okM m1 p2 = true := by rfl) : SE X Ve .fr (p1 && p2) (.BinOp a .LShift b pos) (op2 shlI f h) :=
  s_op (r := fun _ => _) op_shl (fun Z _ => opK_v fun H x y a b c Q rx ry e q => by
    cases rp_int rx
    cases rp_int ry
    obtain ⟨hc, rfl⟩ := ite_some e
    exact ⟨a, b, rfl, rfl, hc, q _ fun _ => .int _⟩) ha hb hm
theorem s_neg (ha : SE X Ve m p a f) : SE X Ve .fr p (.UnaryOp .USub a pos) (op1 negI f) :=
  s_un un_neg (fun Z _ => unK_v fun H x i c Q rx e q => by
    cases rp_int rx
    obtain rfl := some_inj' e
    exact ⟨i, rfl, q _ fun _ => .int _⟩) ha
theorem kLt {Z : Fix} : OpK Z (rI0 fun i j => .bl (decide (i < j))) m1 m2 .fr ltI Ve := opK_B0 fun i j c e => some_inj' e
theorem kLe {Z : Fix} : OpK Z (rI0 fun i j => .bl (decide (i ≤ j))) m1 m2 .fr leI Ve := opK_B0 fun i j c e => some_inj' e
theorem kGt {Z : Fix} : OpK Z (rI0 fun i j => .bl (decide (j < i))) m1 m2 .fr gtI Ve := opK_B0 fun i j c e => some_inj' e
theorem kGe {Z : Fix} : OpK Z (rI0 fun i j => .bl (decide (j ≤ i))) m1 m2 .fr geI Ve := opK_B0 fun i j c e => some_inj' e
theorem s_lt (ha : SE X Ve m1 p1 a f) (hb : SE X Ve m2 p2 b h) (hm : okM m1 p2 = true := by rfl) : SE X Ve .fr (p1 && p2) (.Compare a [.Lt] [b] pos) (op2 ltI f h) := s_cmp (r := fun _ => _) op_lt (fun _ _ => kLt) ha hb hm (nomark _)
theorem s_le (ha : SE X Ve m1 p1 a f) (hb : SE X Ve m2 p2 b h) (hm : okM m1 p2 = true := by rfl) : SE X Ve .fr (p1 && p2) (.Compare a [.LtE] [b] pos) (op2 leI f h) := s_cmp (r := fun _ => _) op_le (fun _ _ => kLe) ha hb hm (nomark _)
theorem s_gt (ha : SE X Ve m1 p1 a f) (hb : SE X Ve m2 p2 b h) (hm : okM m1 p2 = true := by rfl) : SE X Ve .fr (p1 && p2) (.Compare a [.Gt] [b] pos) (op2 gtI f h) := s_cmp (r := fun _ => _) op_gt (fun _ _ => kGt) ha hb hm (nomark _)
theorem s_ge (ha : SE X Ve m1 p1 a f) (hb : SE X Ve m2 p2 b h) (hm : okM m1 p2 = true := by rfl) : SE X Ve .fr (p1 && p2) (.Compare a [.GtE] [b] pos) (op2 geI f h) := s_cmp (r := fun _ => _) op_ge (fun _ _ => kGe) ha hb hm (nomark _)
theorem t_lt (ha : SE X Ve m1 p1 a f) (hb : SE X Ve m2 p2 b h) (hm : okM m1 p2 = true := by rfl) : ST X Ve (p1 && p2) (.Compare a [.Lt] [b] pos) (op2 ltI f h) := t_cmp (r := fun _ => _) op_lt (fun _ _ => kLt) ha hb hm (nomark _)
theorem t_le (ha : SE X Ve m1 p1 a f) (hb : SE X Ve m2 p2 b h) (hm : okM m1 p2 = true := by rfl) : ST X Ve (p1 && p2) (.Compare a [.LtE] [b] pos) (op2 leI f h) := t_cmp (r := fun _ => _) op_le (fun _ _ => kLe) ha hb hm (nomark _)
theorem t_gt (ha : SE X Ve m1 p1 a f) (hb : SE X Ve m2 p2 b h) (hm : okM m1 p2 = true := by rfl) : ST X Ve (p1 && p2) (.Compare a [.Gt] [b] pos) (op2 gtI f h) := t_cmp (r := fun _ => _) op_gt (fun _ _ => kGt) ha hb hm (nomark _)
theorem t_ge (ha : SE X Ve m1 p1 a f) (hb : SE X Ve m2 p2 b h) (hm : okM m1 p2 = true := by rfl) : ST X Ve (p1 && p2) (.Compare a [.GtE] [b] pos) (op2 geI f h) := t_cmp (r := fun _ => _) op_ge (fun _ _ => kGe) ha hb hm (nomark _)
end

/-! ### == over data -/
/-- types whose data are alike just where they are one -/
class EqE (α : Type) [Enc α] [DecidableEq α] where
  eqv : ∀ a b : α, PyData.eqv (enc a) (enc b) = decide (a = b)
  lay : ∀ a : α, PyData.canLay0 (enc a) = true
  dep : Nat
  depth : ∀ a : α, PyData.depth (enc a) ≤ dep
instance : EqE Int := ⟨fun a b => by show (a == b) = decide (a = b); by_cases h : a = b <;> simp [h], fun _ => rfl, 0, fun _ => Nat.le_refl _⟩
instance : EqE Bool := ⟨fun a b => by show (a == b) = decide (a = b); by_cases h : a = b <;> simp [h], fun _ => rfl, 0, fun _ => Nat.le_refl _⟩
instance : EqE Unit := ⟨fun a b => rfl, fun _ => rfl, 0, fun _ => Nat.le_refl _⟩
theorem eqvA2 {a b c d : D} : PyData.eqv (.tuple [a, b]) (.tuple [c, d]) = (PyData.eqv a c && PyData.eqv b d) := by simp [PyData.eqv, PyData.eqvAll]
theorem eqvA3 {a b c x y z : D} : PyData.eqv (.tuple [a, b, c]) (.tuple [x, y, z]) = (PyData.eqv a x && (PyData.eqv b y && PyData.eqv c z)) := by simp [PyData.eqv, PyData.eqvAll]
theorem eqvA4 {a b c d x y z u : D} : PyData.eqv (.tuple [a, b, c, d]) (.tuple [x, y, z, u]) = (PyData.eqv a x && (PyData.eqv b y && (PyData.eqv c z && PyData.eqv d u))) := by simp [PyData.eqv, PyData.eqvAll]
theorem eqvA5 {a b c d e x y z u w : D} : PyData.eqv (.tuple [a, b, c, d, e]) (.tuple [x, y, z, u, w]) = (PyData.eqv a x && (PyData.eqv b y && (PyData.eqv c z && (PyData.eqv d u && PyData.eqv e w)))) := by simp [PyData.eqv, PyData.eqvAll]
instance {α β : Type} [Enc α] [Enc β] [DecidableEq α] [DecidableEq β] [EqE α] [EqE β] : EqE (α × β) := ⟨fun a b => by
  show PyData.eqv (.tuple [enc a.1, enc a.2]) (.tuple [enc b.1, enc b.2]) = _
  rw [eqvA2, EqE.eqv, EqE.eqv]
  obtain ⟨a1, a2⟩ := a
  obtain ⟨b1, b2⟩ := b
  by_cases h1 : a1 = b1 <;> by_cases h2 : a2 = b2 <;> simp [h1, h2], fun a => by
  show PyData.canLay0 (.tuple [enc a.1, enc a.2]) = true
  simp [PyData.canLay0, PyData.canLayAll0, EqE.lay], max (EqE.dep α) (EqE.dep β) + 1, fun a => by
  show PyData.depth (.tuple [enc a.1, enc a.2]) ≤ _
  have h1 := EqE.depth a.1
  have h2 := EqE.depth a.2
  simp [PyData.depth, PyData.depthAll]
  omega⟩
instance {α β γ : Type} [Enc α] [Enc β] [Enc γ] [DecidableEq α] [DecidableEq β] [DecidableEq γ] [EqE α] [EqE β] [EqE γ] : EqE (T3 α β γ) := ⟨fun a b => by
  show PyData.eqv (.tuple [enc a.a, enc a.b, enc a.c]) (.tuple [enc b.a, enc b.b, enc b.c]) = _
  rw [eqvA3, EqE.eqv, EqE.eqv, EqE.eqv]
  obtain ⟨a1, a2, a3⟩ := a
  obtain ⟨b1, b2, b3⟩ := b
  by_cases h1 : a1 = b1 <;> by_cases h2 : a2 = b2 <;> by_cases h3 : a3 = b3 <;> simp [h1, h2, h3], fun a => by
  show PyData.canLay0 (.tuple [enc a.a, enc a.b, enc a.c]) = true
  simp [PyData.canLay0, PyData.canLayAll0, EqE.lay], max (EqE.dep α) (max (EqE.dep β) (EqE.dep γ)) + 1, fun a => by
  show PyData.depth (.tuple [enc a.a, enc a.b, enc a.c]) ≤ _
  have h1 := EqE.depth a.a
  have h2 := EqE.depth a.b
  have h3 := EqE.depth a.c
  simp [PyData.depth, PyData.depthAll]
  omega⟩
instance {α β γ δ : Type} [Enc α] [Enc β] [Enc γ] [Enc δ] [DecidableEq α] [DecidableEq β] [DecidableEq γ] [DecidableEq δ] [EqE α] [EqE β] [EqE γ] [EqE δ] : EqE (T4 α β γ δ) := ⟨fun a b => by
  show PyData.eqv (.tuple [enc a.a, enc a.b, enc a.c, enc a.d]) (.tuple [enc b.a, enc b.b, enc b.c, enc b.d]) = _
  rw [eqvA4, EqE.eqv, EqE.eqv, EqE.eqv, EqE.eqv]
  obtain ⟨a1, a2, a3, a4⟩ := a
  obtain ⟨b1, b2, b3, b4⟩ := b
  by_cases h1 : a1 = b1 <;> by_cases h2 : a2 = b2 <;> by_cases h3 : a3 = b3 <;> by_cases h4 : a4 = b4 <;> simp [h1, h2, h3, h4], fun a => by
  show PyData.canLay0 (.tuple [enc a.a, enc a.b, enc a.c, enc a.d]) = true
  simp [PyData.canLay0, PyData.canLayAll0, EqE.lay], max (EqE.dep α) (max (EqE.dep β) (max (EqE.dep γ) (EqE.dep δ))) + 1, fun a => by
  show PyData.depth (.tuple [enc a.a, enc a.b, enc a.c, enc a.d]) ≤ _
  have h1 := EqE.depth a.a
  have h2 := EqE.depth a.b
  have h3 := EqE.depth a.c
  have h4 := EqE.depth a.d
  simp [PyData.depth, PyData.depthAll]
  omega⟩
theorem eqvAll_enc {α : Type} [Enc α] [DecidableEq α] [EqE α] : ∀ l k : List α, PyData.eqvAll (l.map enc) (k.map enc) = decide (l = k)
  | [], [] => by simp [PyData.eqvAll]
  | [], b :: k => by simp [PyData.eqvAll]
  | a :: l, [] => by simp [PyData.eqvAll]
  | a :: l, b :: k => by
    show (PyData.eqv (enc a) (enc b) && PyData.eqvAll (l.map enc) (k.map enc)) = _
    rw [EqE.eqv, eqvAll_enc l k]
    by_cases h1 : a = b <;> by_cases h2 : l = k <;> simp [h1, h2]
theorem layAll_enc {α : Type} [Enc α] [DecidableEq α] [EqE α] : ∀ l : List α, PyData.canLayAll0 (l.map enc) = true
  | [] => rfl
  | a :: l => by
    show (PyData.canLay0 (enc a) && PyData.canLayAll0 (l.map enc)) = true
    rw [EqE.lay, layAll_enc l]
    rfl
theorem depthAll_enc {α : Type} [Enc α] [DecidableEq α] [EqE α] : ∀ l : List α, PyData.depthAll (l.map enc) ≤ EqE.dep α
  | [] => Nat.zero_le _
  | a :: l => by
    show max (PyData.depth (enc a)) (PyData.depthAll (l.map enc)) ≤ _
    have h1 := EqE.depth a
    have h2 := depthAll_enc l
    omega
instance {α : Type} [Enc α] [DecidableEq α] [EqE α] : EqE (List α) := ⟨fun a b => by
  show PyData.eqvAll (a.map enc) (b.map enc) = _
  exact eqvAll_enc a b, fun a => by
  show PyData.canLayAll0 (a.map enc) = true
  exact layAll_enc a, EqE.dep α + 1, fun a => by
  show PyData.depthAll (a.map enc) + 1 ≤ _
  have := depthAll_enc a
  omega⟩
theorem shaped_enc {α : Type} [Enc α] [DecidableEq α] [EqE α] (h : EqE.dep α ≤ 64) (a : α) : SeqAt.shaped (enc a) = true := by
  unfold SeqAt.shaped
  rw [EqE.lay, Bool.true_and]
  exact decide_eq_true (Nat.le_trans (EqE.depth a) h)
section
variable {X : Cx} {γ α : Type} [Enc α] [DecidableEq α] [EqE α] {Ve : Ev γ} {m1 m2 : Md} {p1 p2 : Bool} {a b : Expr} {pos : Pos} {f h : Ac γ α}
theorem kEq {Z : Fix} (hd : EqE.dep α ≤ 64) : OpK Z (rEqD Z.K) m1 m2 .fr (eqQ (α := α)) Ve := opK_v fun H x y a b c Q rx ry e q => by
  obtain rfl := some_inj' e
  exact ⟨_, _, rx.dp _ (EqE.lay _), ry.dp _ (EqE.lay _), shaped_enc hd a, shaped_enc hd b, by rw [EqE.eqv]; exact q _ fun _ => .bl _⟩
theorem kNe {Z : Fix} (hd : EqE.dep α ≤ 64) : OpK Z (rNeD Z.K) m1 m2 .fr (neQ (α := α)) Ve := opK_v fun H x y a b c Q rx ry e q => by
  obtain rfl := some_inj' e
  exact ⟨_, _, rx.dp _ (EqE.lay _), ry.dp _ (EqE.lay _), shaped_enc hd a, shaped_enc hd b, by rw [EqE.eqv]; exact q _ fun _ => .bl _⟩
theorem s_eq (hu : X.A.units + 64 < cLine) (ha : SE X Ve m1 p1 a f) (hb : SE X Ve m2 p2 b h) (hm : okM m1 p2 = true := by rfl) (hd : EqE.dep α ≤ 64 := by decide) : SE X Ve .fr (p1 && p2) (.Compare a [.Eq] [b] pos) (op2 eqQ f h) :=
  s_cmp (r := fun K => rEqD K) (op_eqD hu) (fun Z hK => hK ▸ kEq hd) ha hb hm (nomark _)
theorem s_ne (hu : X.A.units + 64 < cLine) (ha : SE X Ve m1 p1 a f) (hb : SE X Ve m2 p2 b h) (hm : okM m1 p2 = true := by rfl) (hd : EqE.dep α ≤ 64 := by decide) : SE X Ve .fr (p1 && p2) (.Compare a [.NotEq] [b] pos) (op2 neQ f h) :=
  s_cmp (r := fun K => rNeD K) (op_neD hu) (fun Z hK => hK ▸ kNe hd) ha hb hm (nomark _)
theorem t_eq (hu : X.A.units + 64 < cLine) (ha : SE X Ve m1 p1 a f) (hb : SE X Ve m2 p2 b h) (hm : okM m1 p2 = true := by rfl) (hd : EqE.dep α ≤ 64 := by decide) : ST X Ve (p1 && p2) (.Compare a [.Eq] [b] pos) (op2 eqQ f h) :=
  t_cmp (r := fun K => rEqD K) (op_eqD hu) (fun Z hK => hK ▸ kEq hd) ha hb hm (nomark _)
theorem t_ne (hu : X.A.units + 64 < cLine) (ha : SE X Ve m1 p1 a f) (hb : SE X Ve m2 p2 b h) (hm : okM m1 p2 = true := by rfl) (hd : EqE.dep α ≤ 64 := by decide) : ST X Ve (p1 && p2) (.Compare a [.NotEq] [b] pos) (op2 neQ f h) :=
  t_cmp (r := fun K => rNeD K) (op_neD hu) (fun Z hK => hK ▸ kNe hd) ha hb hm (nomark _)
end

/-! ### and, or, not, if-else -/
def andA {γ : Type} (f h : Ac γ Bool) : Ac γ Bool := bindA f fun b => if b = true then h else pureA fun _ => false
def orA {γ : Type} (f h : Ac γ Bool) : Ac γ Bool := bindA f fun b => if b = true then pureA fun _ => true else h
def notA {γ : Type} (f : Ac γ Bool) : Ac γ Bool := op1 (fun b => some (!b)) f
def iteA {γ α : Type} (c : Ac γ Bool) (f h : Ac γ α) : Ac γ α := bindA c fun b => if b = true then f else h
section
variable {X : Cx} {γ α : Type} [Enc α] {Ve : Ev γ} {m m1 m2 : Md} {p p1 p2 p3 : Bool} {a b c : Expr} {rest : List Expr} {pos : Pos} {f h : Ac γ Bool} {mg : Str → Option Value} {Z : Fix} {W : WX}
theorem tT_bind {k : Bool → Ac γ Bool} {σ : L2.St} {H : Hp} {Q : Bool → Hp → Prop} (h : tT mg Z W Ve (p1 && p2) (bindA f k) σ H Q) : tT mg Z W Ve p1 f σ H fun b H1 => tT mg Z W Ve p2 (k b) σ H1 Q := by
  obtain ⟨g, A, j, h⟩ := h
  refine ⟨g, A, j, ?_⟩
  unfold bindA at h
  cases ef : f g with
  | bad => rw [ef] at h; exact h
  | exc x g1 => rw [ef] at h; exact h
  | ok b g1 =>
    rw [ef] at h
    intro H1 j1 gr sm
    refine ⟨g1, A, j1, ?_⟩
    simp only at h
    cases ek : k b g1 with
    | bad => simp only [ek] at h
    | exc x g2 =>
      simp only [ek] at h
      exact fun c H2 mc j2 gr2 => h c H2 mc j2 (gr.trans gr2)
    | ok c g2 =>
      simp only [ek] at h
      exact fun H2 j2 gr2 sm2 => h H2 j2 (gr.trans gr2) fun z => (sm (Bool.and_eq_true_iff.mp z).1).trans (sm2 (Bool.and_eq_true_iff.mp z).2)
theorem tE_bindT {k : Bool → Ac γ α} {σ : L2.St} {H : Hp} {Q : VK} (h : tE mg Z W Ve m (p1 && p2) (bindA f k) σ H Q) : tT mg Z W Ve p1 f σ H fun b H1 => tE mg Z W Ve m p2 (k b) σ H1 Q := by
  obtain ⟨g, A, j, h⟩ := h
  refine ⟨g, A, j, ?_⟩
  unfold bindA at h
  cases ef : f g with
  | bad => rw [ef] at h; exact h
  | exc x g1 => rw [ef] at h; exact h
  | ok b g1 =>
    rw [ef] at h
    intro H1 j1 gr sm
    refine ⟨g1, A, j1, ?_⟩
    simp only at h
    cases ek : k b g1 with
    | bad => simp only [ek] at h
    | exc x g2 =>
      simp only [ek] at h
      exact fun c H2 mc j2 gr2 => h c H2 mc j2 (gr.trans gr2)
    | ok c g2 =>
      simp only [ek] at h
      exact fun v H2 j2 gr2 sm2 rv => h v H2 j2 (gr.trans gr2) (fun z => (sm (Bool.and_eq_true_iff.mp z).1).trans (sm2 (Bool.and_eq_true_iff.mp z).2)) rv
theorem tT_c {σ : L2.St} {H : Hp} {Q : Bool → Hp → Prop} {b : Bool} (h : tT mg Z W Ve p (pureA fun _ => b) σ H Q) : Q b H := by
  obtain ⟨g, A, j, h⟩ := h
  exact h H j (.refl H) fun _ => Same.refl H
theorem tE_cb {σ : L2.St} {H : Hp} {Q : VK} {b : Bool} (h : tE mg Z W Ve m p (pureA fun _ => b) σ H Q) (hm : m = .fr) : Q (.bl b) H := by
  obtain ⟨g, A, j, h⟩ := h
  subst hm
  exact h (.bl b) H j (.refl H) (fun _ => Same.refl H) (.bl b)
theorem w_and1 (ha : ST X Ve p a f) : SW X Ve p (.BoolOp .And [a] pos) f := ⟨fun Z W hK tk => pw_and1 (ha.run Z W hK tk)⟩
theorem w_or1 (ha : ST X Ve p a f) : SW X Ve p (.BoolOp .Or [a] pos) f := ⟨fun Z W hK tk => pw_or1 (ha.run Z W hK tk)⟩
theorem w_and (ha : ST X Ve p1 a f) (hb : SW X Ve p2 (.BoolOp .And (b :: rest) pos) h) : SW X Ve (p1 && p2) (.BoolOp .And (a :: b :: rest) pos) (andA f h) := ⟨fun Z W hK tk => (pw_and (ha.run Z W hK tk) (hb.run Z W hK tk)).weak fun σ H Q q => by
  have := tT_bind q
  unfold tAnd
  obtain ⟨g, A, j, z⟩ := this
  refine ⟨g, A, j, ?_⟩
  cases ef : f g with
  | bad => rw [ef] at z; exact z
  | exc x g1 => rw [ef] at z; exact z
  | ok b g1 =>
    rw [ef] at z
    intro H1 j1 gr sm
    have w := z H1 j1 gr sm
    cases b with
    | true => simpa using w
    | false => simpa using tT_c (p := p2) (by simpa using w)⟩
theorem w_or (ha : ST X Ve p1 a f) (hb : SW X Ve p2 (.BoolOp .Or (b :: rest) pos) h) : SW X Ve (p1 && p2) (.BoolOp .Or (a :: b :: rest) pos) (orA f h) := ⟨fun Z W hK tk => (pw_or (ha.run Z W hK tk) (hb.run Z W hK tk)).weak fun σ H Q q => by
  have := tT_bind q
  unfold tOr
  obtain ⟨g, A, j, z⟩ := this
  refine ⟨g, A, j, ?_⟩
  cases ef : f g with
  | bad => rw [ef] at z; exact z
  | exc x g1 => rw [ef] at z; exact z
  | ok b g1 =>
    rw [ef] at z
    intro H1 j1 gr sm
    have w := z H1 j1 gr sm
    cases b with
    | false => simpa using w
    | true => simpa using tT_c (p := p2) (by simpa using w)⟩
theorem SW.t {e : Expr} (h : SW X Ve p e f) : ST X Ve p e f := ⟨fun Z W hK tk => (h.run Z W hK tk).pt⟩
theorem t_not (ha : ST X Ve p a f) : ST X Ve p (.UnaryOp .Not a pos) (notA f) := ⟨fun Z W hK tk => (pt_not (ha.run Z W hK tk)).weak fun σ H Q q => by
  obtain ⟨g, A, j, q⟩ := q
  refine ⟨g, A, j, ?_⟩
  unfold notA op1 bindA at q
  cases ef : f g with
  | bad => rw [ef] at q; exact q
  | exc x g1 => rw [ef] at q; exact q
  | ok b g1 =>
    rw [ef] at q
    exact q⟩
theorem s_one {op} (h : SE X Ve .fr p a f) : SE X Ve .fr p (.BoolOp op [a] pos) f := ⟨fun Z W hK tk => pe_one (h.run Z W hK tk)⟩
theorem tE_tV {m : Md} {R : Bool → Hp → Prop} {σ : L2.St} {H : Hp} (h : tT mg Z W Ve p f σ H R) : tE mg Z W Ve m p f σ H fun x H1 => ∃ c, x = .bl c ∧ R c H1 := tT_test h
theorem s_and (ha : SE X Ve .fr p1 a f) (hb : SE X Ve .fr p2 (.BoolOp .And (b :: rest) pos) h) : SE X Ve .fr (p1 && p2) (.BoolOp .And (a :: b :: rest) pos) (andA f h) := ⟨fun Z W hK tk => (pe_and (ha.run Z W hK tk) (hb.run Z W hK tk)).weak fun σ H Q q => by
  refine tE_tV (R := fun c H1 => if c = true then _ else _) ?_
  have := tE_bindT q
  obtain ⟨g, A, j, z⟩ := this
  refine ⟨g, A, j, ?_⟩
  cases ef : f g with
  | bad => rw [ef] at z; exact z
  | exc x g1 => rw [ef] at z; exact z
  | ok b g1 =>
    rw [ef] at z
    intro H1 j1 gr sm
    have w := z H1 j1 gr sm
    cases b with
    | true => simpa using w
    | false => simpa using tE_cb (p := p2) (by simpa using w) rfl⟩
theorem s_or (ha : SE X Ve .fr p1 a f) (hb : SE X Ve .fr p2 (.BoolOp .Or (b :: rest) pos) h) : SE X Ve .fr (p1 && p2) (.BoolOp .Or (a :: b :: rest) pos) (orA f h) := ⟨fun Z W hK tk => (pe_or (ha.run Z W hK tk) (hb.run Z W hK tk)).weak fun σ H Q q => by
  refine tE_tV (R := fun c H1 => if c = true then _ else _) ?_
  have := tE_bindT q
  obtain ⟨g, A, j, z⟩ := this
  refine ⟨g, A, j, ?_⟩
  cases ef : f g with
  | bad => rw [ef] at z; exact z
  | exc x g1 => rw [ef] at z; exact z
  | ok b g1 =>
    rw [ef] at z
    intro H1 j1 gr sm
    have w := z H1 j1 gr sm
    cases b with
    | false => simpa using w
    | true => simpa using tE_cb (p := p2) (by simpa using w) rfl⟩
theorem s_not (ha : SE X Ve .fr p a f) : SE X Ve .fr p (.UnaryOp .Not a pos) (notA f) := ⟨fun Z W hK tk => (pe_not (ha.run Z W hK tk)).weak fun σ H Q q => by
  refine tE_tV (R := fun c H1 => Q (.bl (!c)) H1) ?_
  obtain ⟨g, A, j, q⟩ := q
  refine ⟨g, A, j, ?_⟩
  unfold notA op1 bindA at q
  cases ef : f g with
  | bad => rw [ef] at q; exact q
  | exc x g1 => rw [ef] at q; exact q
  | ok b g1 =>
    rw [ef] at q
    exact fun H1 j1 gr sm => q (.bl (!b)) H1 j1 gr sm (.bl (!b))⟩
theorem tE_p {f : Ac γ α} {σ : L2.St} {H : Hp} {Q : VK} (h : tE mg Z W Ve m p f σ H Q) (e : p = true → p1 = true) : tE mg Z W Ve m p1 f σ H Q := by
  obtain ⟨g, A, j, h⟩ := h
  refine ⟨g, A, j, ?_⟩
  cases ef : f g with
  | bad => rw [ef] at h; exact h
  | exc x g1 => rw [ef] at h; exact h
  | ok a g1 =>
    rw [ef] at h
    exact fun v H1 j1 gr sm rv => h v H1 j1 gr (fun z => sm (e z)) rv
theorem s_ife {c0 : Ac γ Bool} {f h : Ac γ α} (hc : ST X Ve p c c0) (ha : SE X Ve m p1 a f) (hb : SE X Ve m p2 b h) : SE X Ve m (p && (p1 && p2)) (.IfExp c a b pos) (iteA c0 f h) := ⟨fun Z W hK tk => (pe_ifExp (hc.run Z W hK tk) (ha.run Z W hK tk) (hb.run Z W hK tk)).weak fun σ H Q q => by
  have := tE_bindT q
  unfold tIf
  obtain ⟨g, A, j, z⟩ := this
  refine ⟨g, A, j, ?_⟩
  cases ef : c0 g with
  | bad => rw [ef] at z; exact z
  | exc x g1 => rw [ef] at z; exact z
  | ok b g1 =>
    rw [ef] at z
    intro H1 j1 gr sm
    have w := z H1 j1 gr sm
    cases b with
    | true => simpa using tE_p (p1 := p1) (by simpa using w) fun e => (Bool.and_eq_true_iff.mp e).1
    | false => simpa using tE_p (p1 := p2) (by simpa using w) fun e => (Bool.and_eq_true_iff.mp e).2⟩
end
end HL
/-! Fd: subscripts, slices, written tuples and lists, built-in functions. -/
namespace HL
open PySem PySem.Spec PyProof.Rows L2

def elM : Md → Bool
  | .an => false
  | _ => true
def mdB (b : Bool) : Md := if b = true then .fr else .an
section
variable {γ α : Type} [Enc α] {Z : Fix} {A : Nat → Addr} {Ve : Ev γ} {g : γ} {σ : L2.St} {H : Hp} {m : Md} {v : L2.V}
theorem rm_els {l : List α} (h : Rm Z A Ve H m v (enc l)) : ∃ a vs, v = .ref a ∧ H a = some (.lst vs) ∧ RpA Z.K (hp Z (OwV A Ve) H (elM m)) vs (l.map enc) := by
  cases m with
  | fr =>
    obtain ⟨a, vs, e1, e2, e3⟩ := rp_list h
    exact ⟨a, vs, e1, gh_le _ _ e2, e3⟩
  | an =>
    obtain ⟨a, vs, e1, e2, e3⟩ := rp_list h
    exact ⟨a, vs, e1, fh_le _ _ e2, e3⟩
  | bo i =>
    obtain ⟨e1, _, vs, ds, e2, e3, e4⟩ := h
    cases e2
    exact ⟨_, vs, e1, e3, e4⟩
theorem rm_elsF [Flat α] {l : List α} (j : J Z A (at_ Ve g) σ H) (h : Rm Z A Ve H m v (enc l)) : ∃ a vs, v = .ref a ∧ H a = some (.lst vs) ∧ RpA Z.K (GH Z (OwV A Ve) H) vs (l.map enc) := by
  obtain ⟨a, vs, e1, e2, e3⟩ := rm_els h
  refine ⟨a, vs, e1, e2, ?_⟩
  have := j.flatA (flatA_map l) (RpA.mono hp_le _ e3)
  rw [ow_at] at this
  exact this
theorem rm_elsT {l : List α} (ht : elM m = true) (h : Rm Z A Ve H m v (enc l)) : ∃ a vs, v = .ref a ∧ H a = some (.lst vs) ∧ RpA Z.K (GH Z (OwV A Ve) H) vs (l.map enc) := by
  obtain ⟨a, vs, e1, e2, e3⟩ := rm_els h
  rw [ht] at e3
  exact ⟨a, vs, e1, e2, e3⟩
theorem rm_hp {b : Bool} {d : D} (h : Rp Z.K (hp Z (OwV A Ve) H b) v d) : Rm Z A Ve H (mdB b) v d := by
  cases b with
  | true => exact h
  | false => exact h
end
theorem seqL {K : PySem.W.Frag} {H : Hp} {a : Addr} {xs : List L2.V} (h : H a = some (.lst xs)) : SqL K H a xs := .inl (.inl h)

/-! ### subscripts -/
theorem atI_map {α β : Type} (f : α → β) (l : List α) (i : Int) : atI (l.map f) i = (atI l i).map f := by
  unfold atI
  rw [List.length_map]
  cases ixN l.length i with
  | none => rfl
  | some j =>
    show (l.map f)[j]? = (l[j]?).map f
    rw [List.getElem?_map]
theorem rpA_at {K : PySem.W.Frag} {H : Hp} {vs : List L2.V} {ds : List D} {i : Int} {d : D} (h : RpA K H vs ds) (e : atI ds i = some d) : ∃ v, atI vs i = some v ∧ Rp K H v d := by
  unfold atI at e ⊢
  rw [h.length]
  cases q : ixN ds.length i with
  | none => rw [q] at e; cases e
  | some j =>
    rw [q] at e
    exact h.get e
section
variable {X : Cx} {γ α β δ : Type} [Enc α] [Enc β] [Enc δ] {Ve : Ev γ} {m m1 m2 : Md} {p p1 p2 p3 : Bool} {a b c : Expr} {pos : Pos}
theorem s_ix {f : Ac γ (List α)} {h : Ac γ Int} (ha : SE X Ve m p1 a f) (hb : SE X Ve .fr p2 b h) (hm : okM m p2 = true := by rfl) (hs : PlainIx b := by exact fun _ _ => rfl) : SE X Ve (mdB (elM m)) (p1 && p2) (.Subscript a b pos) (op2 atI f h) :=
  ⟨fun Z W hK tk => (pe_ix (r := rIxL X.K) ix_list (ha.run Z W hK tk) (hb.run Z W hK tk) hs).weak fun _ _ _ q => tOp_ok (fun A g σ H x y l i c Q j rx ry e q => by
    obtain ⟨t, vs, rfl, e2, e3⟩ := rm_els rx
    cases rp_int ry.full
    obtain ⟨v, e4, e5⟩ := rpA_at e3 (by rw [atI_map, e]; rfl)
    exact ⟨t, vs, i, v, rfl, rfl, seqL e2, e4, q v H (Same.refl H) j (rm_hp e5)⟩) hm q⟩
/-- a tuple's part at a written place -/
theorem sqt_new {K : PySem.W.Frag} {H : Hp} {q : Addr} {vs : List L2.V} (h : H q = some (.tup vs)) : SqT K H q vs := .inl (.inl h)
theorem rp_tupleH {K : PySem.W.Frag} {H : Hp} {v : L2.V} {ds : List D} (h : Rp K H v (.tuple ds)) : ∃ a vs, v = .ref a ∧ H a = some (.tup vs) ∧ RpA K H vs ds := by
  cases h with
  | tup h1 h2 => exact ⟨_, _, rfl, h1, h2⟩
theorem rp_tuple {K : PySem.W.Frag} {H : Hp} {v : L2.V} {ds : List D} (h : Rp K H v (.tuple ds)) : ∃ a vs, v = .ref a ∧ SqT K H a vs ∧ RpA K H vs ds := by
  cases h with
  | tup h1 h2 => exact ⟨_, _, rfl, sqt_new h1, h2⟩
def prM : Md → Md
  | .an => .an
  | _ => .fr
theorem rm_tup {Z : Fix} {A : Nat → Addr} {g : γ} {σ : L2.St} {H : Hp} {v : L2.V} {ds : List D} (h : Rm Z A Ve H m v (.tuple ds)) : ∃ a vs, v = .ref a ∧ SqT Z.K H a vs ∧ RpA Z.K (hp Z (OwV A Ve) H (elM m)) vs ds := by
  cases m with
  | fr =>
    obtain ⟨a, vs, e1, e2, e3⟩ := rp_tuple h
    exact ⟨a, vs, e1, sqT_same gh_le e2, e3⟩
  | an =>
    obtain ⟨a, vs, e1, e2, e3⟩ := rp_tuple h
    exact ⟨a, vs, e1, sqT_same fh_le e2, e3⟩
  | bo i =>
    obtain ⟨_, _, vs, ds', e, _⟩ := h
    cases e
theorem s_pr {f : Ac γ α} (n : Int) (pr : α → δ) {j pos' : _} (ha : SE X Ve m p a f) (h : ∀ x : α, ∃ ds, enc x = .tuple ds ∧ atI ds n = some (enc (pr x)) := by exact fun _ => ⟨_, rfl, rfl⟩) :
    SE X Ve (mdB (elM m)) p (.Subscript a (.Constant (.int n) j pos') pos) (op1 (fun x => some (pr x)) f) :=
  ⟨fun Z W hK tk => (pe_ix (r := rIxT X.K) ix_tup (ha.run Z W hK tk) pe_int (fun _ _ => rfl)).weak fun σ H Q q => by
    refine tUn_ok (r := fun x H Q => rIxT X.K x (.int n) H Q) (m1 := m) (fun A g σ H x l c Q j rx e q => ?_) q
    obtain ⟨ds, e1, e2⟩ := h l
    rw [e1] at rx
    obtain ⟨t, vs, rfl, e3, e4⟩ := rm_tup (g := g) (σ := σ) rx
    obtain rfl := some_inj' e
    obtain ⟨v, e5, e6⟩ := rpA_at e4 e2
    exact ⟨t, vs, n, v, rfl, rfl, hK ▸ e3, e5, q v H (Same.refl H) j (rm_hp e6)⟩⟩

/-! ### slices -/
def cut {α : Type} (lo hi : Option Int) (xs : List α) : List α := (xs.drop (HT.sIx xs.length 0 lo)).take (HT.sIx xs.length xs.length hi - HT.sIx xs.length 0 lo)
theorem cut_map {α β : Type} (f : α → β) (lo hi : Option Int) (l : List α) : cut lo hi (l.map f) = (cut lo hi l).map f := by
  unfold cut
  rw [List.length_map, List.map_take, List.map_drop]
theorem rpA_cut {K : PySem.W.Frag} {H : Hp} {vs : List L2.V} {ds : List D} {lo hi : Option Int} (h : RpA K H vs ds) : RpA K H (cutV vs lo hi) (cut lo hi ds) := by
  unfold cutV cut
  rw [h.length]
  exact (h.drop _).take _
end
def tO {γ : Type} (mg : Str → Option Value) (Z : Fix) (W : WX) (Ve : Ev γ) (p : Bool) (f : Ac γ (Option Int)) : TO := fun σ H Q => ∃ g A, J Z A (at_ Ve g) σ H ∧
  match f g with
  | .ok a g' => ∀ H', J Z A (at_ Ve g') σ H' → Gr (OwV A Ve) H H' → (p = true → Same H H') → Q a H'
  | .exc x g' => ∀ c H', mg x = some c → J Z A (at_ Ve g') σ H' → Gr (OwV A Ve) H H' → W c none σ H'
  | .bad => False
structure SO (X : Cx) {γ : Type} (Ve : Ev γ) (p : Bool) (e : Option Expr) (f : Ac γ (Option Int)) : Prop where
  run : ∀ (Z : Fix) (W : WX), Z.K = X.K → Takes X W → PO X e (tO X.mg Z W Ve p f)
section
variable {X : Cx} {γ α β δ : Type} [Enc α] [Enc β] [Enc δ] {Ve : Ev γ} {m m1 m2 : Md} {p p1 p2 p3 : Bool} {a b c : Expr} {pos pos2 : Pos} {lo hi : Option Expr} {mg : Str → Option Value} {Z : Fix} {W : WX}
theorem PO.weak {e : Option Expr} {t t' : TO} (h : PO X e t) (w : ∀ σ H Q, t' σ H Q → t σ H Q) : PO X e t' := ⟨fun pins s σ H Q I q => h.run pins s σ H Q I (w σ H Q q)⟩
theorem o_none : SO X Ve true none (pureA fun _ => none) := ⟨fun Z W hK tk => PO.weak po_none fun σ H Q q => by
  obtain ⟨g, A, j, q⟩ := q
  exact q H j (.refl H) fun _ => Same.refl H⟩
theorem o_some {f : Ac γ Int} (h : SE X Ve m p a f) : SO X Ve p (some a) (op1 (fun i => some (some i)) f) := ⟨fun Z W hK tk => PO.weak (po_some (h.run Z W hK tk)) fun σ H Q q => by
  obtain ⟨g, A, j, q⟩ := q
  refine ⟨g, A, j, ?_⟩
  unfold op1 bindA at q
  cases ef : f g with
  | bad => rw [ef] at q; exact q
  | exc x g1 => rw [ef] at q; exact q
  | ok b g1 =>
    rw [ef] at q
    intro v H1 j1 gr sm rv
    exact ⟨b, rp_int rv.full, q H1 j1 gr sm⟩⟩
def slA {γ α : Type} (f : Ac γ (List α)) (l h : Ac γ (Option Int)) : Ac γ (List α) := bindA f fun x => bindA l fun lo => bindA h fun hi => pureA fun _ => cut lo hi x
theorem s_sl {f : Ac γ (List α)} {l h : Ac γ (Option Int)} (ha : SE X Ve m p1 a f) (hl : SO X Ve p2 lo l) (hh : SO X Ve p3 hi h) (hm : okM m (p2 && p3) = true := by rfl)
    (he : (∀ Z : Fix, ∀ A g σ H v (x : List α), J Z A (at_ Ve g) σ H → Rm Z A Ve H m v (enc x) → ∃ a vs, v = .ref a ∧ H a = some (.lst vs) ∧ RpA Z.K (GH Z (OwV A Ve) H) vs (x.map enc)) := by first | exact fun _ _ _ _ _ _ _ j r => rm_elsT rfl r | exact fun _ _ _ _ _ _ _ j r => rm_elsF j r) :
    SN X Ve (p1 && (p2 && p3)) (.Subscript a (.Slice lo hi none pos2) pos) (slA f l h) := ⟨fun Z W hK tk => (pe_slice sl_list (ha.run Z W hK tk) (hl.run Z W hK tk) (hh.run Z W hK tk)).weak fun σ H Q q => by
  obtain ⟨g, A, j, q⟩ := q
  refine ⟨g, A, j, ?_⟩
  unfold slA bindA at q
  cases ef : f g with
  | bad => rw [ef] at q; exact q
  | exc x g1 => rw [ef] at q; exact q
  | ok x g1 =>
    rw [ef] at q
    intro v H1 j1 gr1 sm1 rv
    refine ⟨g1, A, j1, ?_⟩
    simp only at q
    cases el : l g1 with
    | bad => simp only [el] at q
    | exc x g2 =>
      simp only [el] at q
      exact fun c H2 mc j2 gr2 => q c H2 mc j2 (gr1.trans gr2)
    | ok lo' g2 =>
      simp only [el] at q
      intro H2 j2 gr2 sm2
      refine ⟨g2, A, j2, ?_⟩
      cases eh : h g2 with
      | bad => simp only [eh] at q
      | exc x g3 =>
        simp only [eh] at q
        exact fun c H3 mc j3 gr3 => q c H3 mc j3 ((gr1.trans gr2).trans gr3)
      | ok hi' g3 =>
        simp only [eh] at q
        intro H3 j3 gr3 sm3
        have rv3 := rv.step (p := p2 && p3) (gr2.trans gr3) (fun z => (sm2 (Bool.and_eq_true_iff.mp z).1).trans (sm3 (Bool.and_eq_true_iff.mp z).2)) hm
        obtain ⟨t, vs, rfl, e2, e3⟩ := he Z A g3 σ H3 v x j3 rv3
        refine ⟨t, vs, rfl, seqL e2, fun n hn => q n _ H3 hn j3 ((gr1.trans gr2).trans gr3) (fun z => ((sm1 (Bool.and_eq_true_iff.mp z).1).trans (sm2 (Bool.and_eq_true_iff.mp (Bool.and_eq_true_iff.mp z).2).1)).trans (sm3 (Bool.and_eq_true_iff.mp (Bool.and_eq_true_iff.mp z).2).2)) ?_⟩
        rw [← cut_map]
        exact rpA_cut e3⟩
end

/-! ### lists of expressions -/
inductive AK where
  | val (m : Md)
  | slot (i : Nat)
  | scr
def RmA {γ : Type} (Z : Fix) (A : Nat → Addr) (Ve : Ev γ) (H : Hp) : List AK → List L2.V → List D → Prop
  | [], [], [] => True
  | .val m :: ks, v :: vs, d :: ds => Rm Z A Ve H m v d ∧ RmA Z A Ve H ks vs ds
  | .slot i :: ks, v :: vs, _ :: ds => v = .ref (A i) ∧ RmA Z A Ve H ks vs ds
  | .scr :: ks, v :: vs, d :: ds => (∃ (a : Addr) (ns : List Int), v = .ref a ∧ d = .list (ns.map PyData.int) ∧ SqL Z.K (FH Z (OwV A Ve) H) a (ns.map V.int)) ∧ RmA Z A Ve H ks vs ds
  | _, _, _ => False
def tA {γ τ : Type} (mg : Str → Option Value) (Z : Fix) (W : WX) (Ve : Ev γ) (ks : List AK) (p : Bool) (el : τ → List D) (f : Ac γ τ) : TA := fun σ H Q => ∃ g A, J Z A (at_ Ve g) σ H ∧
  match f g with
  | .ok a g' => ∀ vs H', J Z A (at_ Ve g') σ H' → Gr (OwV A Ve) H H' → (p = true → Same H H') → RmA Z A Ve H' ks vs (el a) → Q vs H'
  | .exc x g' => ∀ c H', mg x = some c → J Z A (at_ Ve g') σ H' → Gr (OwV A Ve) H H' → W c none σ H'
  | .bad => False
structure SA (X : Cx) {γ τ : Type} (Ve : Ev γ) (ks : List AK) (p : Bool) (es : List Expr) (el : τ → List D) (f : Ac γ τ) : Prop where
  run : ∀ (Z : Fix) (W : WX), Z.K = X.K → Takes X W → PA X es (tA X.mg Z W Ve ks p el f)
def pairA {γ α τ : Type} (f : Ac γ α) (h : Ac γ τ) : Ac γ (α × τ) := bindA f fun a => bindA h fun b => pureA fun _ => (a, b)
theorem _root_.L2.PA.weak {X : Cx} {es : List Expr} {t t' : TA} (h : PA X es t) (w : ∀ σ H Q, t' σ H Q → t σ H Q) : PA X es t' := ⟨fun pos pins s σ H Q I q => h.run pos pins s σ H Q I (w σ H Q q)⟩
section
variable {X : Cx} {γ α β δ τ : Type} [Enc α] [Enc β] [Enc δ] {Ve : Ev γ} {m m1 m2 : Md} {p p1 p2 p3 : Bool} {a b c e : Expr} {es : List Expr} {pos pos2 : Pos} {ks : List AK} {mg : Str → Option Value} {Z : Fix} {W : WX}
theorem a_nil : SA X Ve [] true [] (fun _ : Unit => []) (pureA fun _ => ()) := ⟨fun Z W hK tk => pa_nil.weak fun σ H Q q => by
  obtain ⟨g, A, j, q⟩ := q
  exact q [] H j (.refl H) (fun _ => Same.refl H) trivial⟩
theorem a_cons {el : τ → List D} {f : Ac γ α} {h : Ac γ τ} (ha : SE X Ve m p1 e f) (hr : SA X Ve ks p2 es el h) (hm : okM m p2 = true := by rfl) (hs : starEach (e :: es) X.env = (false, eval e X.env) :: starEach es X.env := by rfl) :
    SA X Ve (.val m :: ks) (p1 && p2) (e :: es) (fun t : α × τ => enc t.1 :: el t.2) (pairA f h) := ⟨fun Z W hK tk => (pa_cons (ha.run Z W hK tk) (hr.run Z W hK tk) hs).weak fun σ H Q q => by
  obtain ⟨g, A, j, q⟩ := q
  refine ⟨g, A, j, ?_⟩
  unfold pairA bindA at q
  cases ef : f g with
  | bad => rw [ef] at q; exact q
  | exc x g1 => rw [ef] at q; exact q
  | ok x g1 =>
    rw [ef] at q
    intro v H1 j1 gr1 sm1 rv
    refine ⟨g1, A, j1, ?_⟩
    simp only at q
    cases eh : h g1 with
    | bad => simp only [eh] at q
    | exc x g2 =>
      simp only [eh] at q
      exact fun c H2 mc j2 gr2 => q c H2 mc j2 (gr1.trans gr2)
    | ok t g2 =>
      simp only [eh] at q
      intro vs H2 j2 gr2 sm2 rvs
      exact q (v :: vs) H2 j2 (gr1.trans gr2) (fun z => (sm1 (Bool.and_eq_true_iff.mp z).1).trans (sm2 (Bool.and_eq_true_iff.mp z).2)) ⟨rv.step gr2 sm2 hm, rvs⟩⟩
/-- a list of one's own handed on as it stands at the call -/
theorem a_slot {el : τ → List D} {h : Ac γ τ} (i : Nat) {n : Str} (hr : SA X Ve ks p es el h) (hi : ∃ ds, Ve[i]? = some (.own ds) := by exact ⟨_, rfl⟩) (hN : X.N[i]? = some n := by rfl)
    (hv : Vis X.env.scope n := by first | exact Or.inl rfl | exact Or.inr (Or.inl rfl) | exact Or.inr (Or.inr rfl)) (hd : (n == ("__debug__" : Str)) = false := by decide) (hcd : (n == ("__classdict__" : Str)) = false := by decide)
    (hs : starEach (.Name n pos :: es) X.env = (false, eval (.Name n pos) X.env) :: starEach es X.env := by rfl) :
    SA X Ve (.slot i :: ks) p (.Name n pos :: es) (fun t => .none :: el t) h := ⟨fun Z W hK tk => (pa_cons (pe_var hN hv hd hcd) (hr.run Z W hK tk) hs).weak fun σ H Q q => by
  obtain ⟨g, A, j, q⟩ := q
  obtain ⟨ds, hi⟩ := hi
  have hr : (at_ Ve g)[i]? = some (.own (ds g)) := by rw [at_get, hi]; rfl
  obtain ⟨e1, _⟩ := j.own i _ hr
  refine ⟨_, e1, g, A, j, ?_⟩
  cases eh : h g with
  | bad => simp only [eh] at q
  | exc x g2 => simp only [eh] at q; exact q
  | ok t g2 =>
    simp only [eh] at q
    intro vs H2 j2 gr2 sm2 rvs
    exact q (_ :: vs) H2 j2 gr2 sm2 ⟨rfl, rvs⟩⟩

/-- the script handed on -/
theorem a_scr {el : τ → List D} {h : Ac γ τ} (i : Nat) (x : γ → List Int) {n : Str} (hr : SA X Ve ks p es el h) (hi : Ve[i]? = some (.scr x) := by rfl) (hN : X.N[i]? = some n := by rfl)
    (hv : Vis X.env.scope n := by first | exact Or.inl rfl | exact Or.inr (Or.inl rfl) | exact Or.inr (Or.inr rfl)) (hd : (n == ("__debug__" : Str)) = false := by decide) (hcd : (n == ("__classdict__" : Str)) = false := by decide)
    (hs : starEach (.Name n pos :: es) X.env = (false, eval (.Name n pos) X.env) :: starEach es X.env := by rfl) :
    SA X Ve (.scr :: ks) p (.Name n pos :: es) (fun t : List Int × τ => .list (t.1.map .int) :: el t.2) (pairA (pureA x) h) := ⟨fun Z W hK tk => (pa_cons (pe_var hN hv hd hcd) (hr.run Z W hK tk) hs).weak fun σ H Q q => by
  obtain ⟨g, A, j, q⟩ := q
  have hr : (at_ Ve g)[i]? = some (.scr (x g)) := by rw [at_get, hi]; rfl
  obtain ⟨a, e1, e2⟩ := j.scr i _ hr
  rw [ow_at] at e2
  refine ⟨_, e1, g, A, j, ?_⟩
  unfold pairA bindA pureA at q
  simp only at q
  cases eh : h g with
  | bad => simp only [eh] at q
  | exc x g2 => simp only [eh] at q; exact q
  | ok t g2 =>
    simp only [eh] at q
    intro vs H2 j2 gr2 sm2 rvs
    exact q (_ :: vs) H2 j2 gr2 sm2 ⟨⟨a, x g, rfl, rfl, sqL_same gr2.fh e2⟩, rvs⟩⟩

/-- all items known in one way -/
def allK (b : Bool) : List AK → Bool
  | [] => true
  | .val .fr :: ks => allK b ks
  | .val .an :: ks => !b && allK b ks
  | _ => false
theorem rmA_all {A : Nat → Addr} {H : Hp} {b : Bool} : ∀ {ks : List AK} {vs : List L2.V} {ds : List D}, allK b ks = true → RmA Z A Ve H ks vs ds → RpA Z.K (hp Z (OwV A Ve) H b) vs ds
  | [], [], [], _, _ => .nil
  | .val .fr :: ks, v :: vs, d :: ds, h, r => .cons (by
      cases b with
      | true => exact r.1
      | false => exact Rm.an r.1) (rmA_all (ks := ks) h r.2)
  | .val .an :: ks, v :: vs, d :: ds, h, r => .cons (by
      cases b with
      | true => exact absurd h (by simp [allK])
      | false => exact r.1) (rmA_all (ks := ks) (by
      cases b with
      | true => exact absurd h (by simp [allK])
      | false => simpa [allK] using h) r.2)
  | .val (.bo _) :: ks, _ :: _, _ :: _, h, _ => by simp [allK] at h
  | .slot _ :: ks, _ :: _, _ :: _, h, _ => by simp [allK] at h
  | .scr :: ks, _ :: _, _ :: _, h, _ => by simp [allK] at h
  | .scr :: _, [], _, h, _ => by simp [allK] at h
  | .scr :: _, _ :: _, [], h, _ => by simp [allK] at h
  | [], _ :: _, _, _, r => by cases r
  | [], [], _ :: _, _, r => by cases r
  | .val .fr :: _, [], _, _, r => by cases r
  | .val .an :: _, [], _, _, r => by cases r
  | .val .fr :: _, _ :: _, [], _, r => by cases r
  | .val .an :: _, _ :: _, [], _, r => by cases r
  | .val (.bo _) :: _, [], _, h, _ => by simp [allK] at h
  | .slot _ :: _, [], _, h, _ => by simp [allK] at h
  | .val (.bo _) :: _, _ :: _, [], h, _ => by simp [allK] at h
  | .slot _ :: _, _ :: _, [], h, _ => by simp [allK] at h
theorem smallN {n : Nat} (h : n ≤ 1000) : n ≤ sizeLine := Nat.le_of_lt (small1000 h)
/-- a written tuple -/
theorem s_tup {el : τ → List D} {f : Ac γ τ} (mk : τ → δ) (b : Bool) {k : _} (ha : SA X Ve ks p es el f) (hk : allK b ks = true := by rfl) (hmk : ∀ t, enc (mk t) = .tuple (el t) := by exact fun _ => rfl) (hl : ∀ t, (el t).length ≤ 1000 := by exact fun _ => of_decide_eq_true rfl) :
    SE X Ve (mdB b) p (.Tuple es k pos) (op1 (fun t => some (mk t)) f) := ⟨fun Z W hK tk => (pe_tup (ha.run Z W hK tk)).weak fun σ H Q q => by
  obtain ⟨g, A, j, q⟩ := q
  refine ⟨g, A, j, ?_⟩
  unfold op1 bindA at q
  cases ef : f g with
  | bad => rw [ef] at q; exact q
  | exc x g1 => rw [ef] at q; exact q
  | ok t g1 =>
    rw [ef] at q
    intro vs H1 j1 gr sm rvs
    have ra := rmA_all hk rvs
    refine ⟨by rw [ra.length]; exact smallN (hl t), fun n hn => q (.ref n) _ (j1.new hn) (gr.trans (.of (same_new hn))) (fun z => (sm z).trans (same_new hn)) ?_⟩
    rw [hmk]
    have hn' := j1.ghnew (o := .tup vs) hn
    rw [ow_at] at hn'
    have ra' := RpA.mono (Gr.of (same_new (o := .tup vs) hn)).hp _ ra
    cases b with
    | true => exact .tup hn' ra'
    | false => exact .tup (gh_fh _ _ hn') ra'⟩
/-- a written list -/
theorem s_lst {el : τ → List D} {f : Ac γ τ} (mk : τ → List δ) (ha : SA X Ve ks p es el f) (hk : allK true ks = true := by rfl) (hmk : ∀ t, (mk t).map enc = el t := by exact fun _ => rfl) (hl : ∀ t, (el t).length ≤ 1000 := by exact fun _ => of_decide_eq_true rfl) :
    SN X Ve p (.List es pos) (op1 (fun t => some (mk t)) f) := ⟨fun Z W hK tk => (pe_lst (ha.run Z W hK tk)).weak fun σ H Q q => by
  obtain ⟨g, A, j, q⟩ := q
  refine ⟨g, A, j, ?_⟩
  unfold op1 bindA at q
  cases ef : f g with
  | bad => rw [ef] at q; exact q
  | exc x g1 => rw [ef] at q; exact q
  | ok t g1 =>
    rw [ef] at q
    intro vs H1 j1 gr sm rvs
    have ra := rmA_all hk rvs
    refine ⟨by rw [ra.length]; exact smallN (hl t), fun n hn => q n vs H1 hn j1 gr sm ?_⟩
    rw [hmk]
    exact ra⟩

/-! ### built-in functions -/
theorem tCB1 {r : List L2.V → Hp → VK → Prop} {te : TE} : tCB r (tCons te tNil) = tUn (fun x => r [x]) te := rfl
theorem tCB2 {r : List L2.V → Hp → VK → Prop} {ta tb : TE} : tCB r (tCons ta (tCons tb tNil)) = tOp (fun x y => r [x, y]) ta tb := rfl
theorem s_b1 {x id : Str} {id' : String} {r : PySem.W.Frag → List L2.V → Hp → VK → Prop} {k : α → Option δ} {f : Ac γ α} {mr : Md} {p0 : Pos} (hc : CallR X (.builtin id') (r X.K)) (hk : ∀ Z : Fix, Z.K = X.K → UnK Z (fun v => r X.K [v]) m mr k Ve) (hm : X.mg x = none) (ha : SE X Ve m p e f)
    (hv : bootBuiltins x = some (.builtin id')) (hg : Gl X x := by rfl) (hn : x ≠ "__name__" := by decide) (hdb : (x == ("__debug__" : Str)) = false := by decide) (hs : starEach [e] X.env = [(false, eval e X.env)] := by rfl)
    (he : starEach (e :: []) X.env = (false, eval e X.env) :: starEach [] X.env := by rfl) (hpl : (backTo pos (starEach [] X.env)).any (·.1) = false := by rfl) : SE X Ve mr p (.Call (.Name x p0) [e] [] pos) (op1 k f) :=
  ⟨fun Z W hK tk => (pe_callB hc hg hm hv (pa_cons (ha.run Z W hK tk) pa_nil he) hn hdb he hpl).weak fun σ H Q q => by
    rw [tCB1]
    exact tUn_ok (hk Z hK) q⟩
theorem s_b1N {x : Str} {id' : String} {r : PySem.W.Frag → List L2.V → Hp → VK → Prop} {k : α → Option (List δ)} {f : Ac γ α} {p0 : Pos} (hc : CallR X (.builtin id') (r X.K)) (hk : ∀ Z : Fix, Z.K = X.K → UnN Z (fun v => r X.K [v]) m k Ve) (hm : X.mg x = none) (ha : SE X Ve m p e f)
    (hv : bootBuiltins x = some (.builtin id')) (hg : Gl X x := by rfl) (hn : x ≠ "__name__" := by decide) (hdb : (x == ("__debug__" : Str)) = false := by decide)
    (he : starEach (e :: []) X.env = (false, eval e X.env) :: starEach [] X.env := by rfl) (hpl : (backTo pos (starEach [] X.env)).any (·.1) = false := by rfl) : SN X Ve p (.Call (.Name x p0) [e] [] pos) (op1 k f) :=
  ⟨fun Z W hK tk => (pe_callB hc hg hm hv (pa_cons (ha.run Z W hK tk) pa_nil he) hn hdb he hpl).weak fun σ H Q q => by
    rw [tCB1]
    exact tUnN_ok (hk Z hK) q⟩
theorem s_t1 {x : Str} {T : String} {r : PySem.W.Frag → List L2.V → Hp → VK → Prop} {k : α → Option δ} {f : Ac γ α} {mr : Md} {p0 : Pos} (hc : CallR X (.type T) (r X.K)) (hk : ∀ Z : Fix, Z.K = X.K → UnK Z (fun v => r X.K [v]) m mr k Ve) (hm : X.mg x = none) (ha : SE X Ve m p e f)
    (hv : bootBuiltins x = some (.type T)) (hg : Gl X x := by rfl) (hn : x ≠ "__name__" := by decide) (hdb : (x == ("__debug__" : Str)) = false := by decide)
    (he : starEach (e :: []) X.env = (false, eval e X.env) :: starEach [] X.env := by rfl) (hpl : (backTo pos (starEach [] X.env)).any (·.1) = false := by rfl) : SE X Ve mr p (.Call (.Name x p0) [e] [] pos) (op1 k f) :=
  ⟨fun Z W hK tk => (pe_callTy hc hg hm hv (pa_cons (ha.run Z W hK tk) pa_nil he) hn hdb he hpl).weak fun σ H Q q => by
    rw [tCB1]
    exact tUn_ok (hk Z hK) q⟩
theorem s_t1N {x : Str} {T : String} {r : PySem.W.Frag → List L2.V → Hp → VK → Prop} {k : α → Option (List δ)} {f : Ac γ α} {p0 : Pos} (hc : CallR X (.type T) (r X.K)) (hk : ∀ Z : Fix, Z.K = X.K → UnN Z (fun v => r X.K [v]) m k Ve) (hm : X.mg x = none) (ha : SE X Ve m p e f)
    (hv : bootBuiltins x = some (.type T)) (hg : Gl X x := by rfl) (hn : x ≠ "__name__" := by decide) (hdb : (x == ("__debug__" : Str)) = false := by decide)
    (he : starEach (e :: []) X.env = (false, eval e X.env) :: starEach [] X.env := by rfl) (hpl : (backTo pos (starEach [] X.env)).any (·.1) = false := by rfl) : SN X Ve p (.Call (.Name x p0) [e] [] pos) (op1 k f) :=
  ⟨fun Z W hK tk => (pe_callTy hc hg hm hv (pa_cons (ha.run Z W hK tk) pa_nil he) hn hdb he hpl).weak fun σ H Q q => by
    rw [tCB1]
    exact tUnN_ok (hk Z hK) q⟩
theorem s_b2 {x : Str} {id' : String} {r : PySem.W.Frag → List L2.V → Hp → VK → Prop} {k : α → β → Option δ} {f : Ac γ α} {h : Ac γ β} {mr : Md} {p0 : Pos} (hc : CallR X (.builtin id') (r X.K)) (hk : ∀ Z : Fix, Z.K = X.K → OpK Z (fun v w => r X.K [v, w]) m1 m2 mr k Ve) (hx : X.mg x = none)
    (ha : SE X Ve m1 p1 a f) (hb : SE X Ve m2 p2 b h) (hv : bootBuiltins x = some (.builtin id')) (hm : okM m1 p2 = true := by rfl) (hg : Gl X x := by rfl) (hn : x ≠ "__name__" := by decide) (hdb : (x == ("__debug__" : Str)) = false := by decide)
    (he : starEach (a :: [b]) X.env = (false, eval a X.env) :: starEach [b] X.env := by rfl) (he2 : starEach (b :: []) X.env = (false, eval b X.env) :: starEach [] X.env := by rfl) (hpl : (backTo pos (starEach [b] X.env)).any (·.1) = false := by rfl) : SE X Ve mr (p1 && p2) (.Call (.Name x p0) [a, b] [] pos) (op2 k f h) :=
  ⟨fun Z W hK tk => (pe_callB hc hg hx hv (pa_cons (ha.run Z W hK tk) (pa_cons (hb.run Z W hK tk) pa_nil he2) he) hn hdb he hpl).weak fun σ H Q q => by
    rw [tCB2]
    exact tOp_ok (hk Z hK) hm q⟩
def lenQ {α : Type} (l : List α) : Option Int := some (l.length : Int)
def absQ (i : Int) : Option Int := some (if i < 0 then -i else i)
def max2Q (i j : Int) : Option Int := some (if j > i then j else i)
def min2Q (i j : Int) : Option Int := some (if j < i then j else i)
def b2i (b : Bool) : Int := if b = true then 1 else 0
def intB (b : Bool) : Option Int := some (b2i b)
def intI (i : Int) : Option Int := some i
def sumQ (l : List Int) : Option Int := some l.sum
def allQ (l : List Bool) : Option Bool := some (l.all id)
def anyQ (l : List Bool) : Option Bool := some (l.any id)
def listQ {α : Type} (l : List α) : Option (List α) := some l
def catQ {α : Type} (l k : List α) : Option (List α) := if l.length + k.length ≤ 1000000 then some (l ++ k) else none
theorem s_len {f : Ac γ (List α)} {p0 : Pos} (hx : X.mg "len" = none) (ha : SE X Ve m p e f) (hg : Gl X "len" := by rfl) (he : starEach (e :: []) X.env = (false, eval e X.env) :: starEach [] X.env := by rfl) (hpl : (backTo pos (starEach [] X.env)).any (·.1) = false := by rfl) :
    SE X Ve .fr p (.Call (.Name "len" p0) [e] [] pos) (op1 lenQ f) :=
  s_b1 (id := "len") (r := fun K xs H Q => ∃ q ys, xs = [.ref q] ∧ (SqL K H q ys ∨ SqT K H q ys) ∧ Q (.int ys.length) H) call_len_seq (fun Z hK => fun A g σ H x l c Q j rx e q => by
    obtain ⟨t, vs, rfl, e2, e3⟩ := rm_els rx
    obtain rfl := some_inj' e
    refine ⟨t, vs, rfl, .inl (seqL e2), ?_⟩
    have := e3.length
    rw [List.length_map] at this
    rw [this]
    exact q _ H (Same.refl H) j (.int _)) hx ha PySem.boot_len hg (by decide) (by decide) he he hpl
theorem s_abs {f : Ac γ Int} {p0 : Pos} (hx : X.mg "abs" = none) (ha : SE X Ve m p e f) (hg : Gl X "abs" := by rfl) (he : starEach (e :: []) X.env = (false, eval e X.env) :: starEach [] X.env := by rfl) (hpl : (backTo pos (starEach [] X.env)).any (·.1) = false := by rfl) :
    SE X Ve .fr p (.Call (.Name "abs" p0) [e] [] pos) (op1 absQ f) :=
  s_b1 (id := "abs") (r := fun _ xs H Q => ∃ i, xs = [.int i] ∧ Q (.int (if i < 0 then -i else i)) H) call_abs (fun Z hK => unK_v fun H x i c Q rx e q => by
    cases rp_int rx
    obtain rfl := some_inj' e
    exact ⟨i, rfl, q _ fun _ => .int _⟩) hx ha (by decide +kernel) hg (by decide) (by decide) he he hpl
theorem s_max2 {f h : Ac γ Int} {p0 : Pos} (hc : X.calm = true) (hx : X.mg "max" = none) (ha : SE X Ve m1 p1 a f) (hb : SE X Ve m2 p2 b h) (hm : okM m1 p2 = true := by rfl) (hg : Gl X "max" := by rfl)
    (he : starEach (a :: [b]) X.env = (false, eval a X.env) :: starEach [b] X.env := by rfl) (he2 : starEach (b :: []) X.env = (false, eval b X.env) :: starEach [] X.env := by rfl) (hpl : (backTo pos (starEach [b] X.env)).any (·.1) = false := by rfl) :
    SE X Ve .fr (p1 && p2) (.Call (.Name "max" p0) [a, b] [] pos) (op2 max2Q f h) :=
  s_b2 (r := fun _ xs H Q => ∃ i j, xs = [.int i, .int j] ∧ Q (.int (if j > i then j else i)) H) (call_max2 hc) (fun Z hK => opK_v fun H x y i k c Q rx ry e q => by
    cases rp_int rx
    cases rp_int ry
    obtain rfl := some_inj' e
    exact ⟨i, k, rfl, q _ fun _ => .int _⟩) hx ha hb (by decide +kernel) hm hg (by decide) (by decide) he he2 hpl
theorem s_min2 {f h : Ac γ Int} {p0 : Pos} (hc : X.calm = true) (hx : X.mg "min" = none) (ha : SE X Ve m1 p1 a f) (hb : SE X Ve m2 p2 b h) (hm : okM m1 p2 = true := by rfl) (hg : Gl X "min" := by rfl)
    (he : starEach (a :: [b]) X.env = (false, eval a X.env) :: starEach [b] X.env := by rfl) (he2 : starEach (b :: []) X.env = (false, eval b X.env) :: starEach [] X.env := by rfl) (hpl : (backTo pos (starEach [b] X.env)).any (·.1) = false := by rfl) :
    SE X Ve .fr (p1 && p2) (.Call (.Name "min" p0) [a, b] [] pos) (op2 min2Q f h) :=
  s_b2 (r := fun _ xs H Q => ∃ i j, xs = [.int i, .int j] ∧ Q (.int (if j < i then j else i)) H) (call_min2 hc) (fun Z hK => opK_v fun H x y i k c Q rx ry e q => by
    cases rp_int rx
    cases rp_int ry
    obtain rfl := some_inj' e
    exact ⟨i, k, rfl, q _ fun _ => .int _⟩) hx ha hb (by decide +kernel) hm hg (by decide) (by decide) he he2 hpl
theorem s_intB {f : Ac γ Bool} {p0 : Pos} (hx : X.mg "int" = none) (ha : SE X Ve m p e f) (hg : Gl X "int" := by rfl) (he : starEach (e :: []) X.env = (false, eval e X.env) :: starEach [] X.env := by rfl) (hpl : (backTo pos (starEach [] X.env)).any (·.1) = false := by rfl) :
    SE X Ve .fr p (.Call (.Name "int" p0) [e] [] pos) (op1 intB f) :=
  s_t1 (r := fun _ xs H Q => (∃ i, xs = [.int i] ∧ Q (.int i) H) ∨ ∃ k, xs = [.bl k] ∧ Q (.int (if k = true then 1 else 0)) H) call_int1 (fun Z hK => unK_v fun H x i c Q rx e q => by
    cases rp_bl rx
    obtain rfl := some_inj' e
    exact .inr ⟨i, rfl, q _ fun _ => .int _⟩) hx ha (by decide +kernel) hg (by decide) (by decide) he hpl
theorem s_sum {f : Ac γ (List Int)} {p0 : Pos} (hc : X.calm = true) (hx : X.mg "sum" = none) (ha : SE X Ve m p e f) (hg : Gl X "sum" := by rfl) (he : starEach (e :: []) X.env = (false, eval e X.env) :: starEach [] X.env := by rfl) (hpl : (backTo pos (starEach [] X.env)).any (·.1) = false := by rfl) :
    SE X Ve .fr p (.Call (.Name "sum" p0) [e] [] pos) (op1 sumQ f) :=
  s_b1 (id := "sum") (r := fun K => rSum K) (cr_sum hc) (fun Z hK => fun A g σ H x l c Q j rx e q => by
    obtain ⟨t, vs, rfl, e2, e3⟩ := rm_els rx
    obtain rfl := some_inj' e
    have ev := rpA_ints (ns := l) e3
    subst ev
    exact ⟨t, l, rfl, seqL e2, q _ H (Same.refl H) j (.int _)⟩) hx ha (by decide +kernel) hg (by decide) (by decide) he he hpl
theorem s_all {f : Ac γ (List Bool)} {p0 : Pos} (hc : X.calm = true) (hx : X.mg "all" = none) (ha : SE X Ve m p e f) (hg : Gl X "all" := by rfl) (he : starEach (e :: []) X.env = (false, eval e X.env) :: starEach [] X.env := by rfl) (hpl : (backTo pos (starEach [] X.env)).any (·.1) = false := by rfl) :
    SE X Ve .fr p (.Call (.Name "all" p0) [e] [] pos) (op1 allQ f) :=
  s_b1 (id := "all") (r := fun K => rAll K) (cr_all hc) (fun Z hK => fun A g σ H x l c Q j rx e q => by
    obtain ⟨t, vs, rfl, e2, e3⟩ := rm_els rx
    obtain rfl := some_inj' e
    have ev := rpA_bools (ns := l) e3
    subst ev
    exact ⟨t, l, rfl, seqL e2, q _ H (Same.refl H) j (.bl _)⟩) hx ha (by decide +kernel) hg (by decide) (by decide) he he hpl
theorem s_any {f : Ac γ (List Bool)} {p0 : Pos} (hc : X.calm = true) (hx : X.mg "any" = none) (ha : SE X Ve m p e f) (hg : Gl X "any" := by rfl) (he : starEach (e :: []) X.env = (false, eval e X.env) :: starEach [] X.env := by rfl) (hpl : (backTo pos (starEach [] X.env)).any (·.1) = false := by rfl) :
    SE X Ve .fr p (.Call (.Name "any" p0) [e] [] pos) (op1 anyQ f) :=
  s_b1 (id := "any") (r := fun K => rAny K) (cr_any hc) (fun Z hK => fun A g σ H x l c Q j rx e q => by
    obtain ⟨t, vs, rfl, e2, e3⟩ := rm_els rx
    obtain rfl := some_inj' e
    have ev := rpA_bools (ns := l) e3
    subst ev
    exact ⟨t, l, rfl, seqL e2, q _ H (Same.refl H) j (.bl _)⟩) hx ha (by decide +kernel) hg (by decide) (by decide) he he hpl
abbrev ElsT (X : Cx) {γ α : Type} [Enc α] (Ve : Ev γ) (m : Md) : Prop := ∀ Z : Fix, ∀ A g σ H v (x : List α), J Z A (at_ Ve g) σ H → Rm Z A Ve H m v (enc x) → ∃ a vs, v = .ref a ∧ H a = some (.lst vs) ∧ RpA Z.K (GH Z (OwV A Ve) H) vs (x.map enc)
theorem s_list {f : Ac γ (List α)} {p0 : Pos} (hx : X.mg "list" = none) (ha : SE X Ve m p e f) (hels : ElsT X (α := α) Ve m := by first | exact fun _ _ _ _ _ _ _ j r => rm_elsT rfl r | exact fun _ _ _ _ _ _ _ j r => rm_elsF j r) (hg : Gl X "list" := by rfl)
    (he : starEach (e :: []) X.env = (false, eval e X.env) :: starEach [] X.env := by rfl) (hpl : (backTo pos (starEach [] X.env)).any (·.1) = false := by rfl) : SN X Ve p (.Call (.Name "list" p0) [e] [] pos) (op1 listQ f) :=
  s_t1N (r := fun K xs H Q => ∃ q ys, xs = [.ref q] ∧ (SqL K H q ys ∨ SqT K H q ys) ∧ ∀ l, H l = none → Q (.ref l) (upd H l (.lst ys))) call_list_of (fun Z hK => fun A g σ H x l c Q j rx e q => by
    obtain ⟨t, vs, rfl, e2, e3⟩ := hels Z A g σ H x l j rx
    obtain rfl := some_inj' e
    exact ⟨t, vs, rfl, .inl (seqL e2), fun n hn => q n vs hn e3⟩) hx ha (by decide +kernel) hg (by decide) (by decide) he hpl
theorem s_cat {f h : Ac γ (List α)} (ha : SE X Ve m1 p1 a f) (hb : SE X Ve m2 p2 b h) (hm : okM m1 p2 = true := by rfl) (h1 : ElsT X (α := α) Ve m1 := by first | exact fun _ _ _ _ _ _ _ j r => rm_elsT rfl r | exact fun _ _ _ _ _ _ _ j r => rm_elsF j r)
    (h2 : ElsT X (α := α) Ve m2 := by first | exact fun _ _ _ _ _ _ _ j r => rm_elsT rfl r | exact fun _ _ _ _ _ _ _ j r => rm_elsF j r) : SN X Ve (p1 && p2) (.BinOp a .Add b pos) (op2 catQ f h) :=
  s_opN (r := fun _ => rCat) op_cat (fun Z hK => fun A g σ H x y l k c Q j rx ry e q => by
    obtain ⟨t, vs, rfl, e2, e3⟩ := h1 Z A g σ H x l j rx
    obtain ⟨t', vs', rfl, e2', e3'⟩ := h2 Z A g σ H y k j ry
    obtain ⟨hc, rfl⟩ := ite_some e
    have l1 := e3.length
    have l2 := e3'.length
    rw [List.length_map] at l1 l2
    refine ⟨t, t', vs, vs', rfl, rfl, e2, e2', ?_, fun n hn => q n _ hn (by rw [List.map_append]; exact e3.append e3')⟩
    rw [l1, l2]
    exact Nat.le_trans hc (by decide)) ha hb hm
end
end HL
/-! Fe: statements. -/
namespace HL
open PySem PySem.Spec PyProof.Rows L2

/-! ### the state behind a store -/
section
variable {Z : Fix} {A A' : Nat → Addr} {r r' : List Slot} {σ : L2.St} {H H' : Hp}
theorem Gr.fhO {O O' : Addr → Prop} (h : ∀ a, O' a → O a) : Same (FH Z O H) (FH Z O' H) := hide_same fun a o n e => ⟨fun z => n (z.elim .inl fun q => .inr (h a q)), e⟩
theorem Gr.ghO {O O' : Addr → Prop} (h : ∀ a, O' a → O a) : Same (GH Z O H) (GH Z O' H) := hide_same fun a o n e => ⟨fun z => n (by
  rcases z with z | z | z
  · exact .inl z
  · exact .inr (.inl (h a z))
  · exact .inr (.inr z)), e⟩
theorem Gr.hpO {O O' : Addr → Prop} {fr : Bool} (h : ∀ a, O' a → O a) : Same (HL.hp Z O H fr) (HL.hp Z O' H fr) := by
  unfold HL.hp
  cases fr with
  | true => simpa using Gr.ghO h
  | false => simpa using Gr.fhO h
theorem set_get {i k : Nat} {s : Slot} : (r.set i s)[k]? = if i = k then (if i < r.length then some s else none) else r[k]? := List.getElem?_set
theorem set_own {i k : Nat} {s : Slot} {ds : Ob} (ns : ∀ ds, s ≠ .own ds) (h : (r.set i s)[k]? = some (.own ds)) : i ≠ k ∧ r[k]? = some (.own ds) := by
  rw [set_get] at h
  by_cases e : i = k
  · rw [if_pos e] at h
    by_cases l : i < r.length
    · rw [if_pos l] at h
      exact absurd (Option.some.inj h) (ns ds)
    · rw [if_neg l] at h; cases h
  · rw [if_neg e] at h
    exact ⟨e, h⟩
theorem ow_set {i : Nat} {s : Slot} (ns : ∀ ds, s ≠ .own ds) : ∀ a, Ow A (r.set i s) a → Ow A r a := fun a ⟨k, ds, h, e⟩ => ⟨k, ds, (set_own ns h).2, e⟩
theorem imm_ne {fr : Bool} {d : D} : ∀ ds, Slot.imm fr d ≠ .own ds := fun _ z => by cases z
theorem J.setImm (j : J Z A r σ H) {i : Nat} {v : L2.V} {fr : Bool} {d : D} (hv : Rp Z.K (hp Z (Ow A r) H fr) v d) (hio : ∀ a, (i, a) ∉ Z.io) : J Z A (r.set i (.imm fr d)) (σ.set i (some v)) H where
  imm := fun k fr' d' h => by
    rw [set_get] at h
    by_cases e : i = k
    · subst e
      rw [if_pos rfl] at h
      by_cases l : i < r.length
      · rw [if_pos l] at h
        cases h
        exact ⟨v, by rw [List.getElem?_set, if_pos rfl, if_pos (by rw [← j.len]; exact l)], Rp.mono (Gr.hpO (ow_set imm_ne)) _ hv⟩
      · rw [if_neg l] at h; cases h
    · rw [if_neg e] at h
      obtain ⟨w, e1, e2⟩ := j.imm k fr' d' h
      exact ⟨w, by rw [List.getElem?_set, if_neg e]; exact e1, Rp.mono (Gr.hpO (ow_set imm_ne)) _ e2⟩
  own := fun k ds h => by
    obtain ⟨e, h⟩ := set_own imm_ne h
    obtain ⟨e1, e2⟩ := j.own k ds h
    exact ⟨by rw [List.getElem?_set, if_neg e]; exact e1, e2.mono (Gr.ghO (ow_set imm_ne))⟩
  scr := fun k ns h => by
    rw [set_get] at h
    by_cases e : i = k
    · subst e
      rw [if_pos rfl] at h
      by_cases l : i < r.length
      · rw [if_pos l] at h; cases h
      · rw [if_neg l] at h; cases h
    · rw [if_neg e] at h
      obtain ⟨a, e1, e2⟩ := j.scr k ns h
      exact ⟨a, by rw [List.getElem?_set, if_neg e]; exact e1, sqL_same (Gr.fhO (ow_set imm_ne)) e2⟩
  raw := fun k u h => by
    rw [set_get] at h
    by_cases e : i = k
    · subst e
      rw [if_pos rfl] at h
      by_cases l : i < r.length
      · rw [if_pos l] at h; cases h
      · rw [if_neg l] at h; cases h
    · rw [if_neg e] at h
      rw [List.getElem?_set, if_neg e]
      exact j.raw k u h
  pk := fun k q h => by
    rw [set_get] at h
    by_cases e : i = k
    · subst e
      rw [if_pos rfl] at h
      by_cases l : i < r.length
      · rw [if_pos l] at h; cases h
      · rw [if_neg l] at h; cases h
    · rw [if_neg e] at h
      rw [List.getElem?_set, if_neg e]
      exact (j.pk k q h).mono (Gr.ghO (ow_set imm_ne))
  inj := fun k l ds es h1 h2 e => j.inj k l ds es (set_own imm_ne h1).2 (set_own imm_ne h2).2 e
  notS := fun k ds h => j.notS k ds (set_own imm_ne h).2
  smut := j.smut
  base := j.base
  newo := fun k ds h => j.newo k ds (set_own imm_ne h).2
  ioo := fun k a h => by
    obtain ⟨e1, ds, e2⟩ := j.ioo k a h
    refine ⟨e1, ds, ?_⟩
    rw [set_get, if_neg (fun e => hio a (by subst e; exact h))]
    exact e2
  len := by rw [List.length_set, List.length_set, j.len]
/-- a new list becomes one's own -/
theorem J.setOwnO (j : J Z A r σ H) {i : Nat} {q : Addr} {ob : HO} {ds : Ob} (hq : H q = none) (hv : OwnOk Z.K (GH Z (Ow A r) H) (some ob) ds) (hio : ∀ a, (i, a) ∉ Z.io) (hpk : ∀ k t, r[k]? = some (.pk t) → k ≠ i → i ∉ t.js) :
    J Z (fun k => if k = i then q else A k) (r.set i (.own ds)) (σ.set i (some (.ref q))) (upd H q ob) := by
  obtain ⟨q0, qS, qO⟩ := j.fresh hq
  have sm : Same H (upd H q ob) := same_new hq
  have ow : ∀ a, Ow (fun k => if k = i then q else A k) (r.set i (.own ds)) a → Ow A r a ∨ a = q := fun a ⟨k, ds', h, e⟩ => by
    by_cases ek : k = i
    · simp only [ek, if_true] at e
      exact .inr e.symm
    · simp only [ek, if_false] at e
      rw [set_get, if_neg (Ne.symm ek)] at h
      exact .inl ⟨k, ds', h, e⟩
  have g1 : Same (GH Z (Ow A r) H) (GH Z (Ow (fun k => if k = i then q else A k) (r.set i (.own ds))) (upd H q ob)) := hide_same fun a o n e => by
    refine ⟨fun z => ?_, sm a o e⟩
    rcases z with z | z | z
    · exact n (.inl z)
    · rcases ow a z with z | z
      · exact n (.inr (.inl z))
      · rw [z, hq] at e; cases e
    · exact n (.inr (.inr z))
  have f1 : Same (FH Z (Ow A r) H) (FH Z (Ow (fun k => if k = i then q else A k) (r.set i (.own ds))) (upd H q ob)) := hide_same fun a o n e => by
    refine ⟨fun z => ?_, sm a o e⟩
    rcases z with z | z
    · exact n (.inl z)
    · rcases ow a z with z | z
      · exact n (.inr z)
      · rw [z, hq] at e; cases e
  have h1 : ∀ fr, Same (hp Z (Ow A r) H fr) (hp Z (Ow (fun k => if k = i then q else A k) (r.set i (.own ds))) (upd H q ob) fr) := fun fr => by
    unfold HL.hp
    cases fr with
    | true => simpa using g1
    | false => simpa using f1
  have other : ∀ {k : Nat} {s : Slot}, (r.set i (.own ds))[k]? = some s → i ≠ k → r[k]? = some s := fun {k s} h e => by
    rw [set_get, if_neg e] at h
    exact h
  have noto : ∀ {k : Nat} {es : Ob}, r[k]? = some (.own es) → A k ≠ q := fun {k es} h e => by
    obtain ⟨_, e2, _⟩ := (j.own k es h).2.is
    rw [e, hq] at e2
    cases e2
  have hlt : ∀ {k : Nat} {s : Slot}, (r.set i (.own ds))[k]? = some s → i = k → i < r.length ∧ s = .own ds := fun {k s} h e => by
    rw [set_get, if_pos e] at h
    by_cases l : i < r.length
    · rw [if_pos l] at h
      cases h
      exact ⟨l, rfl⟩
    · rw [if_neg l] at h; cases h
  refine ⟨fun k fr d h => ?_, fun k es h => ?_, fun k ns h => ?_, fun k u h => ?_, fun k u h => ?_, fun k l es fs hk hl e => ?_, fun k es h => ?_, fun a z => ?_, fun a o h n => sm a o (j.base a o h n), fun k es h => ?_, fun k a h => ?_, ?_⟩
  · by_cases e : i = k
    · have := (hlt h e).2
      cases this
    · obtain ⟨w, e1, e2⟩ := j.imm k fr d (other h e)
      exact ⟨w, by rw [List.getElem?_set, if_neg e]; exact e1, Rp.mono (h1 fr) _ e2⟩
  · by_cases e : i = k
    · subst e
      obtain ⟨l, e1⟩ := hlt h rfl
      cases e1
      simp only [if_true]
      refine ⟨by rw [List.getElem?_set, if_pos rfl, if_pos (by rw [← j.len]; exact l)], by rw [upd_same]; exact hv.mono g1⟩
    · obtain ⟨e1, e2⟩ := j.own k es (other h e)
      simp only [if_neg (Ne.symm e)]
      exact ⟨by rw [List.getElem?_set, if_neg e]; exact e1, (e2.same sm).mono g1⟩
  · by_cases e : i = k
    · have := (hlt h e).2
      cases this
    · obtain ⟨a, e1, e2⟩ := j.scr k ns (other h e)
      exact ⟨a, by rw [List.getElem?_set, if_neg e]; exact e1, sqL_same f1 e2⟩
  · by_cases e : i = k
    · have := (hlt h e).2
      cases this
    · rw [List.getElem?_set, if_neg e]
      exact j.raw k u (other h e)
  · by_cases e : i = k
    · have := (hlt h e).2
      cases this
    · rw [List.getElem?_set, if_neg e]
      have p := (j.pk k u (other h e)).mono g1
      have ni := hpk k u (other h e) (Ne.symm e)
      cases u with
      | lst js =>
        obtain ⟨a, p1, p2⟩ := p
        refine ⟨a, p1, ?_⟩
        rw [p2]
        congr 2
        refine List.map_congr_left fun x hx => ?_
        show V.ref (A x) = V.ref (if x = i then q else A x)
        rw [if_neg (fun z : x = i => ni (by rw [← z]; exact hx))]
      | ali x =>
        show _ = some (some (L2.V.ref (if x = i then q else A x)))
        rw [if_neg (fun z => ni (by rw [z]; exact List.mem_cons_self))]
        exact p
      | «at» a js =>
        show GH _ _ _ a = _
        rw [show GH Z (Ow (fun k => if k = i then q else A k) (r.set i (.own ds))) (upd H q ob) a = some (.lst (js.map fun j => V.ref (A j))) from p]
        congr 2
        refine List.map_congr_left fun x hx => ?_
        show V.ref (A x) = V.ref (if x = i then q else A x)
        rw [if_neg (fun z : x = i => ni (by rw [← z]; exact hx))]
  · by_cases ek : k = i
    · by_cases el : l = i
      · rw [ek, el]
      · simp only [ek, el, if_true, if_false] at e
        exact absurd e.symm (noto (other hl (Ne.symm el)))
    · by_cases el : l = i
      · simp only [ek, el, if_true, if_false] at e
        exact absurd e (noto (other hk (Ne.symm ek)))
      · simp only [ek, el, if_false] at e
        exact j.inj k l es fs (other hk (Ne.symm ek)) (other hl (Ne.symm el)) e
  · by_cases ek : k = i
    · simp only [ek, if_true]
      exact qS
    · simp only [ek, if_false]
      exact j.notS k es (other h (Ne.symm ek))
  · have m := j.smut a z
    cases e : H a with
    | none => rw [e] at m; exact m.elim
    | some o => rw [sm a o e]; rw [e] at m; exact m
  · by_cases ek : k = i
    · simp only [ek, if_true]
      exact .inr q0
    · simp only [ek, if_false]
      exact j.newo k es (other h (Ne.symm ek))
  · have ek : k ≠ i := fun e => hio a (e ▸ h)
    obtain ⟨e1, es, e2⟩ := j.ioo k a h
    simp only [ek, if_false]
    exact ⟨e1, es, by rw [set_get, if_neg (Ne.symm ek)]; exact e2⟩
  · rw [List.length_set, List.length_set, j.len]
theorem J.setOwn (j : J Z A r σ H) {i : Nat} {q : Addr} {vs : List L2.V} {ds : List D} (hq : H q = none) (hv : RpA Z.K (GH Z (Ow A r) H) vs ds) (hio : ∀ a, (i, a) ∉ Z.io) (hpk : ∀ k t, r[k]? = some (.pk t) → k ≠ i → i ∉ t.js) :
    J Z (fun k => if k = i then q else A k) (r.set i (.own ds)) (σ.set i (some (.ref q))) (upd H q (.lst vs)) := j.setOwnO hq (ds := .ls ds) ⟨vs, rfl, hv⟩ hio hpk
/-- a list of one's own is changed -/
theorem J.chgO (j : J Z A r σ H) {i : Nat} {es : Ob} {ob : HO} {ds : Ob} (hi : r[i]? = some (.own es)) (hv : OwnOk Z.K (GH Z (Ow A r) H) (some ob) ds) : J Z A (r.set i (.own ds)) σ (upd H (A i) ob) := by
  have hO : Ow A r (A i) := ⟨i, es, hi, rfl⟩
  have il : i < r.length := (List.getElem?_eq_some_iff.mp hi).1
  have ow : ∀ a, Ow A (r.set i (.own ds)) a → Ow A r a := fun a ⟨k, ds', h, e⟩ => by
    by_cases ek : i = k
    · subst ek
      exact ⟨i, es, hi, e⟩
    · rw [set_get, if_neg ek] at h
      exact ⟨k, ds', h, e⟩
  have wo : ∀ a, Ow A r a → Ow A (r.set i (.own ds)) a := fun a ⟨k, ds', h, e⟩ => by
    by_cases ek : i = k
    · subst ek
      exact ⟨i, ds, by rw [set_get, if_pos rfl, if_pos il], e⟩
    · exact ⟨k, ds', by rw [set_get, if_neg ek]; exact h, e⟩
  have ne : ∀ {a}, ¬ Ow A r a → a ≠ A i := fun n e => n (e ▸ hO)
  have g1 : Same (GH Z (Ow A r) H) (GH Z (Ow A (r.set i (.own ds))) (upd H (A i) ob)) := hide_same fun a o n e => ⟨fun z => n (by
    rcases z with z | z | z
    · exact .inl z
    · exact .inr (.inl (ow a z))
    · exact .inr (.inr z)), by rw [upd_ne (ne fun z => n (.inr (.inl z)))]; exact e⟩
  have f1 : Same (FH Z (Ow A r) H) (FH Z (Ow A (r.set i (.own ds))) (upd H (A i) ob)) := hide_same fun a o n e => ⟨fun z => n (z.elim .inl fun q => .inr (ow a q)), by rw [upd_ne (ne fun z => n (.inr z))]; exact e⟩
  have h1 : ∀ fr, Same (hp Z (Ow A r) H fr) (hp Z (Ow A (r.set i (.own ds))) (upd H (A i) ob) fr) := fun fr => by
    unfold HL.hp
    cases fr with
    | true => simpa using g1
    | false => simpa using f1
  have get : ∀ {k : Nat} {s : Slot}, (r.set i (.own ds))[k]? = some s → (i = k ∧ s = .own ds) ∨ (i ≠ k ∧ r[k]? = some s) := fun {k s} h => by
    rw [set_get] at h
    by_cases e : i = k
    · rw [if_pos e, if_pos il] at h
      cases h
      exact .inl ⟨e, rfl⟩
    · rw [if_neg e] at h
      exact .inr ⟨e, h⟩
  have own' : ∀ {k : Nat} {fs : Ob}, (r.set i (.own ds))[k]? = some (.own fs) → ∃ fs, r[k]? = some (.own fs) := fun {k fs} h => by
    rcases get h with ⟨e, _⟩ | ⟨_, e⟩
    · subst e; exact ⟨es, hi⟩
    · exact ⟨fs, e⟩
  refine ⟨fun k fr d h => ?_, fun k fs h => ?_, fun k ns h => ?_, fun k u h => ?_, fun k u h => ?_, fun k l es' fs hk hl e => ?_, fun k fs h => ?_, fun a z => ?_, fun a o h n => ?_, fun k fs h => ?_, fun k a h => ?_, ?_⟩
  · rcases get h with ⟨_, z⟩ | ⟨_, h⟩
    · cases z
    · obtain ⟨w, e1, e2⟩ := j.imm k fr d h
      exact ⟨w, e1, Rp.mono (h1 fr) _ e2⟩
  · rcases get h with ⟨e, z⟩ | ⟨e, h⟩
    · subst e
      cases z
      exact ⟨(j.own i es hi).1, by rw [upd_same]; exact hv.mono g1⟩
    · obtain ⟨e1, e2⟩ := j.own k fs h
      have : A k ≠ A i := fun z => e (j.inj i k es fs hi h z.symm)
      exact ⟨e1, by rw [upd_ne this]; exact e2.mono g1⟩
  · rcases get h with ⟨_, z⟩ | ⟨_, h⟩
    · cases z
    · obtain ⟨a, e1, e2⟩ := j.scr k ns h
      exact ⟨a, e1, sqL_same f1 e2⟩
  · rcases get h with ⟨_, z⟩ | ⟨_, h⟩
    · cases z
    · exact j.raw k u h
  · rcases get h with ⟨_, z⟩ | ⟨_, h⟩
    · cases z
    · exact (j.pk k u h).mono g1
  · obtain ⟨a1, q1⟩ := own' hk
    obtain ⟨a2, q2⟩ := own' hl
    exact j.inj k l _ _ q1 q2 e
  · obtain ⟨a1, q1⟩ := own' h
    exact j.notS k _ q1
  · have m := j.smut a z
    by_cases e : a = A i
    · rw [e, upd_same]; obtain ⟨u, hu, mu⟩ := hv.is; cases hu; exact mu
    · rw [upd_ne e]; exact m
  · have q := j.base a o h n
    have : a ≠ A i := fun e => by
      rcases j.newo i es hi with z | z
      · exact n i (e ▸ z)
      · rw [← e, h] at z; cases z
    rw [upd_ne this]
    exact q
  · obtain ⟨a1, q1⟩ := own' h
    exact j.newo k _ q1
  · obtain ⟨e1, fs, e2⟩ := j.ioo k a h
    refine ⟨e1, ?_⟩
    by_cases e : i = k
    · exact ⟨ds, by rw [set_get, if_pos e, if_pos il]⟩
    · exact ⟨fs, by rw [set_get, if_neg e]; exact e2⟩
  · rw [List.length_set, j.len]
theorem J.chg (j : J Z A r σ H) {i : Nat} {es : Ob} {vs : List L2.V} {ds : List D} (hi : r[i]? = some (.own es)) (hv : RpA Z.K (GH Z (Ow A r) H) vs ds) : J Z A (r.set i (.own ds)) σ (upd H (A i) (.lst vs)) :=
  j.chgO (ds := .ls ds) hi ⟨vs, rfl, hv⟩
/-- less is known: slots forgotten, lists given up to all -/
inductive Wk1 : Slot → Slot → Prop
  | no (s : Slot) : Wk1 s .no
  | refl (s : Slot) : Wk1 s s
  | an (d : D) : Wk1 (.imm true d) (.imm false d)
  | give (ds : Ob) : Wk1 (.own ds) (.imm true ds.d)
  | giveA (ds : Ob) : Wk1 (.own ds) (.imm false ds.d)
def Wks : List Slot → List Slot → Prop
  | [], [] => True
  | a :: r, b :: r' => Wk1 a b ∧ Wks r r'
  | _, _ => False
theorem wks_get : ∀ {r r' : List Slot}, Wks r r' → ∀ {k : Nat} {s : Slot}, r'[k]? = some s → ∃ s', r[k]? = some s' ∧ Wk1 s' s
  | [], [], _, k, s, h => by simp at h
  | a :: r, b :: r', w, 0, s, h => by
    simp at h
    subst h
    exact ⟨a, rfl, w.1⟩
  | a :: r, b :: r', w, k + 1, s, h => by
    obtain ⟨s', e1, e2⟩ := wks_get w.2 (k := k) (by simpa using h)
    exact ⟨s', by simpa using e1, e2⟩
  | [], _ :: _, w, _, _, _ => by cases w
  | _ :: _, [], w, _, _, _ => by cases w
theorem wks_len : ∀ {r r' : List Slot}, Wks r r' → r.length = r'.length
  | [], [], _ => rfl
  | a :: r, b :: r', w => by simp [wks_len w.2]
  | [], _ :: _, w => by cases w
  | _ :: _, [], w => by cases w
theorem J.weak (j : J Z A r σ H) (w : Wks r r') (hio : ∀ i a ds, (i, a) ∈ Z.io → r[i]? = some (.own ds) → r'[i]? = some (.own ds)) : J Z A r' σ H := by
  have own' : ∀ {k : Nat} {ds : Ob}, r'[k]? = some (.own ds) → r[k]? = some (.own ds) := fun {k ds} h => by
    obtain ⟨s', e1, e2⟩ := wks_get w h
    cases e2
    exact e1
  have ow : ∀ a, Ow A r' a → Ow A r a := fun a ⟨k, ds, h, e⟩ => ⟨k, ds, own' h, e⟩
  have freed : ∀ {k : Nat} {ds : Ob}, r[k]? = some (.own ds) → (∀ ds', r'[k]? ≠ some (.own ds')) → Rp Z.K (GH Z (Ow A r') H) (.ref (A k)) ds.d := fun {k ds} h n => by
    obtain ⟨_, e2⟩ := j.own k ds h
    obtain ⟨u, e3, _⟩ := e2.is
    have e4 : GH Z (Ow A r') H (A k) = H (A k) := by
      rw [e3]
      refine hide_mk ?_ e3
      rintro (z | z | z)
      · exact j.notS k ds h z
      · obtain ⟨l, ds', h', e⟩ := z
        have := j.inj l k ds' ds (own' h') h e
        subst this
        exact n ds' h'
      · rcases j.newo k ds h with q | q
        · exact n ds (hio k (A k) ds q h)
        · rw [q] at z; exact z
    exact OwnOk.rp (by rw [e4]; exact e2.mono (Gr.ghO ow))
  refine ⟨fun k fr d h => ?_, fun k ds h => ?_, fun k ns h => ?_, fun k u h => ?_, fun k u h => ?_, fun k l ds es h1 h2 => j.inj k l ds es (own' h1) (own' h2), fun k ds h => j.notS k ds (own' h), j.smut, j.base, fun k ds h => j.newo k ds (own' h), fun k a h => ?_, ?_⟩
  · obtain ⟨s', e1, e2⟩ := wks_get w h
    cases e2 with
    | refl =>
      obtain ⟨v, q1, q2⟩ := j.imm k fr d e1
      exact ⟨v, q1, Rp.mono (Gr.hpO ow) _ q2⟩
    | an =>
      obtain ⟨v, q1, q2⟩ := j.imm k true d e1
      exact ⟨v, q1, Rp.mono (Gr.hpO ow) _ (Rp.mono gh_fh _ q2)⟩
    | give ds =>
      exact ⟨_, (j.own k ds e1).1, freed e1 fun ds' z => by rw [h] at z; cases z⟩
    | giveA ds =>
      exact ⟨_, (j.own k ds e1).1, Rp.mono gh_fh _ (freed e1 fun ds' z => by rw [h] at z; cases z)⟩
  · obtain ⟨e1, e2⟩ := j.own k ds (own' h)
    exact ⟨e1, e2.mono (Gr.ghO ow)⟩
  · obtain ⟨s', e1, e2⟩ := wks_get w h
    cases e2
    obtain ⟨a, q1, q2⟩ := j.scr k ns e1
    exact ⟨a, q1, sqL_same (Gr.fhO ow) q2⟩
  · obtain ⟨s', e1, e2⟩ := wks_get w h
    cases e2
    exact j.raw k u e1
  · obtain ⟨s', e1, e2⟩ := wks_get w h
    cases e2
    exact (j.pk k u e1).mono (Gr.ghO ow)
  · obtain ⟨e1, ds, e2⟩ := j.ioo k a h
    exact ⟨e1, ds, hio k a ds h e2⟩
  · rw [← wks_len w, j.len]
end

/-- what nobody owned stands, and nobody owns it -/
def Stt (O O' : Addr → Prop) (H H' : Hp) : Prop := ∀ a o, ¬ O a → H a = some o → H' a = some o ∧ ¬ O' a
theorem Stt.refl {O : Addr → Prop} {H : Hp} : Stt O O H H := fun _ _ n h => ⟨h, n⟩
theorem Stt.trans {O O1 O2 : Addr → Prop} {H H1 H2 : Hp} (a : Stt O O1 H H1) (b : Stt O1 O2 H1 H2) : Stt O O2 H H2 := fun x o n h => b x o (a x o n h).2 (a x o n h).1
theorem Gr.stt {O : Addr → Prop} {H H' : Hp} (e : Gr O H H') : Stt O O H H' := fun x o n h => ⟨e x o n h, n⟩

/-! ### statements as actions -/
inductive SRes (γ β : Type) where
  | nx (g : γ)
  | rt (b : β) (g : γ)
  | exc (x : Str) (g : γ)
  | bad
abbrev Sc (γ β : Type) := γ → SRes γ β
/-- how a def hands back: data that may be the asker's; made since; a new list -/
inductive RM where
  | an
  | fr
  | nw
def RetR (K : PySem.W.Frag) (H0 : Hp) (S : Addr → Prop) (H' : Hp) : RM → L2.V → D → Prop
  | .an, v, d => Rp K (hide S H') v d
  | .fr, v, d => Rp K (hide (fun a => Mut (H0 a)) H') v d
  | .nw, v, d => ∃ q us ds, v = .ref q ∧ d = .list ds ∧ H0 q = none ∧ H' q = some (.lst us) ∧ RpA K (hide (fun a => Mut (H0 a) ∨ a = q) H') us ds
/-- what holds all through a def: how it hands back, the lists that it was handed to change and how they stand -/
structure FC (γ β : Type) where
  rm : RM
  en : β → D
  ios : List (Nat × (γ → List D))
def Frame (Z : Fix) (H : Hp) : Prop := ∀ a o, Z.H0 a = some o → (∀ i, (i, a) ∉ Z.io) → H a = some o
def IoR (Z : Fix) (l : List (Nat × List D)) (H : Hp) : Prop := ∀ i a ds, (i, a) ∈ Z.io → (i, ds) ∈ l → ∃ us, H a = some (.lst us) ∧ RpA Z.K (hide (fun x => Mut (Z.H0 x)) H) us ds
def FC.io {γ β : Type} (C : FC γ β) (g : γ) : List (Nat × List D) := C.ios.map fun q => (q.1, q.2 g)
/-- the places that callers wished left out -/
def SIo (Z : Fix) (a : Addr) : Prop := Z.S a ∨ ∃ i, (i, a) ∈ Z.io
structure RetOk {γ β : Type} (Z : Fix) (C : FC γ β) (g : γ) (b : β) (v : L2.V) (H : Hp) : Prop where
  frame : Frame Z H
  io : IoR Z (C.io g) H
  ret : RetR Z.K Z.H0 (SIo Z) H C.rm v (C.en b)
/-- what is wanted of an exception: of the state where it is let go -/
abbrev XJ (γ : Type) := Fix → (Nat → Addr) → γ → L2.St → Hp → Prop
def tS {γ β : Type} (mg : Str → Option Value) (Z : Fix) (W : WX) (C : FC γ β) (xj : XJ γ) (Ve Ve' : Ev γ) (f : Sc γ β) : TS := fun D σ H => ∃ g A, J Z A (at_ Ve g) σ H ∧
  match f g with
  | .nx g' => ∀ A' σ' H', J Z A' (at_ Ve' g') σ' H' → Stt (OwV A Ve) (OwV A' Ve') H H' → D.nx σ' H'
  | .rt b g' => ∀ v H', RetOk Z C g' b v H' → D.rt v H'
  | .exc x g' => ∀ c A' σ' H', mg x = some c → xj Z A' g' σ' H' → W c none σ' H'
  | .bad => False
def ioIx {γ β : Type} (C : FC γ β) : List Nat := C.ios.map (·.1)
structure SS (X : Cx) {γ β : Type} (C : FC γ β) (xj : XJ γ) (Ve Ve' : Ev γ) (st : Stmt) (f : Sc γ β) : Prop where
  run : ∀ (Z : Fix) (W : WX), Z.K = X.K → Z.io.map (·.1) = ioIx C → Takes X W → PS X st (tS X.mg Z W C xj Ve Ve' f)
structure SB (X : Cx) {γ β : Type} (C : FC γ β) (xj : XJ γ) (Ve Ve' : Ev γ) (sts : List Stmt) (f : Sc γ β) : Prop where
  run : ∀ (Z : Fix) (W : WX), Z.K = X.K → Z.io.map (·.1) = ioIx C → Takes X W → PSs X sts (tS X.mg Z W C xj Ve Ve' f)
theorem _root_.L2.PS.weak {X : Cx} {st : Stmt} {t t' : TS} (h : PS X st t) (w : ∀ D σ H, t' D σ H → t D σ H) : PS X st t' := ⟨fun pins s σ H D I q => h.run pins s σ H D I (w D σ H q)⟩
theorem _root_.L2.PSs.weak {X : Cx} {st : List Stmt} {t t' : TS} (h : PSs X st t) (w : ∀ D σ H, t' D σ H → t D σ H) : PSs X st t' := ⟨fun pins s σ H D I q => h.run pins s σ H D I (w D σ H q)⟩

/-- what an exception wants, whatever the slots: all but the lists handed in stands -/
def xfr (γ : Type) : XJ γ := fun Z _ _ _ H => Frame Z H
def XOk {γ : Type} (xj : XJ γ) (Ve : Ev γ) : Prop := ∀ Z A g σ H, J Z A (at_ Ve g) σ H → xj Z A g σ H
theorem xfr_ok {γ : Type} {Ve : Ev γ} : XOk (xfr γ) Ve := fun Z A g σ H j => j.base
def bindS {γ β : Type} (f h : Sc γ β) : Sc γ β := fun g => match f g with
  | .nx g1 => h g1
  | .rt b g1 => .rt b g1
  | .exc x g1 => .exc x g1
  | .bad => .bad
def doS {γ α β : Type} (f : Ac γ α) (k : α → Sc γ β) : Sc γ β := fun g => match f g with
  | .ok a g1 => k a g1
  | .exc x g1 => .exc x g1
  | .bad => .bad
def setS {γ α β : Type} (set : γ → α → γ) (f : Ac γ α) : Sc γ β := doS f fun a g => .nx (set g a)
def retS {γ β : Type} (f : Ac γ β) : Sc γ β := doS f fun b g => .rt b g
def dropS {γ α β : Type} (f : Ac γ α) : Sc γ β := doS f fun _ g => .nx g
def ifS {γ β : Type} (c : Ac γ Bool) (f h : Sc γ β) : Sc γ β := doS c fun b => if b = true then f else h
def nxS {γ β : Type} : Sc γ β := fun g => .nx g

section
variable {X : Cx} {γ α β τ : Type} [Enc α] {C : FC γ β} {xj : XJ γ} {Ve Ve' Ve2 : Ev γ} {m : Md} {p : Bool} {e : Expr} {st : Stmt} {rest : List Stmt} {mg : Str → Option Value} {Z : Fix} {W : WX}
/-- the lists handed in stand in their slots -/
def IosOk {γ : Type} (Ve : Ev γ) : List (Nat × (γ → List D)) → Prop
  | [] => True
  | q :: l => Ve[q.1]? = some (.own fun g => .ls (q.2 g)) ∧ IosOk Ve l
theorem ios_get : ∀ {l : List (Nat × (γ → List D))}, IosOk Ve l → ∀ q ∈ l, Ve[q.1]? = some (.own fun g => .ls (q.2 g))
  | [], _, q, h => by cases h
  | a :: l, k, q, h => by
    rcases List.mem_cons.mp h with rfl | h
    · exact k.1
    · exact ios_get k.2 q h
theorem J.ioR {A : Nat → Addr} {g : γ} {σ : L2.St} {H : Hp} (j : J Z A (at_ Ve g) σ H) (k : IosOk Ve C.ios) : IoR Z (C.io g) H := fun i a ds h hl => by
  obtain ⟨q, hq, e⟩ := List.mem_map.mp hl
  cases e
  have h1 := ios_get k q hq
  obtain ⟨e1, _⟩ := j.ioo q.1 a h
  have hr : (at_ Ve g)[q.1]? = some (.own (.ls (q.2 g))) := by rw [at_get, h1]; rfl
  obtain ⟨_, vs, e2, e3⟩ := j.own q.1 _ hr
  rw [e1] at e2
  exact ⟨vs, e2, RpA.mono (hide_same fun x o n z => ⟨fun y => n (.inr (.inr y)), z⟩) _ e3⟩
theorem s_nil : SB X C xj Ve Ve [] nxS := ⟨fun Z W hK hio tk => pss_nil.weak fun D σ H q => by
  obtain ⟨g, A, j, q⟩ := q
  exact q A σ H j .refl⟩
theorem tS_seq {f h : Sc γ β} {D : Ends} {σ : L2.St} {H : Hp} (q : tS mg Z W C xj Ve Ve2 (bindS f h) D σ H) : tSeq (tS mg Z W C xj Ve Ve' f) (tS mg Z W C xj Ve' Ve2 h) D σ H := by
  obtain ⟨g, A, j, q⟩ := q
  refine ⟨g, A, j, ?_⟩
  unfold bindS at q
  cases ef : f g with
  | bad => simp only [ef] at q
  | exc x g1 => simp only [ef] at q; exact q
  | rt b g1 => simp only [ef] at q; exact q
  | nx g1 =>
    simp only [ef] at q
    intro A' σ' H' j' st
    refine ⟨g1, A', j', ?_⟩
    cases eh : h g1 with
    | bad => simp only [eh] at q
    | exc x g2 => simp only [eh] at q; exact q
    | rt b g2 => simp only [eh] at q; exact q
    | nx g2 =>
      simp only [eh] at q
      exact fun A2 σ2 H2 j2 st2 => q A2 σ2 H2 j2 (st.trans st2)
theorem s_cons {f h : Sc γ β} (h1 : SS X C xj Ve Ve' st f) (h2 : SB X C xj Ve' Ve2 rest h) : SB X C xj Ve Ve2 (st :: rest) (bindS f h) := ⟨fun Z W hK hio tk => (pss_cons (h1.run Z W hK hio tk) (h2.run Z W hK hio tk)).weak fun D σ H q => tS_seq q⟩
theorem s_last {f : Sc γ β} (h1 : SS X C xj Ve Ve' st f) : SB X C xj Ve Ve' [st] f := ⟨fun Z W hK hio tk => pss_one (h1.run Z W hK hio tk)⟩
/-- no io slot is i -/
theorem noio {i : Nat} (hio : Z.io.map (·.1) = ioIx C) (hn : (ioIx C).contains i = false) : ∀ a, (i, a) ∉ Z.io := fun a h => by
  have : i ∈ Z.io.map (·.1) := List.mem_map.mpr ⟨(i, a), h, rfl⟩
  rw [hio] at this
  have c : (ioIx C).contains i = true := by simpa using this
  rw [hn] at c
  cases c
/-- fewer things known -/
def Wkv (Ve Ve' : Ev γ) : Prop := ∀ g, Wks (at_ Ve g) (at_ Ve' g)
theorem wk_io {A : Nat → Addr} {g : γ} (k : IosOk Ve C.ios) (k' : IosOk Ve' C.ios) (hio : Z.io.map (·.1) = ioIx C) : ∀ i a ds, (i, a) ∈ Z.io → (at_ Ve g)[i]? = some (.own ds) → (at_ Ve' g)[i]? = some (.own ds) := fun i a ds h e => by
  have : i ∈ Z.io.map (·.1) := List.mem_map.mpr ⟨(i, a), h, rfl⟩
  rw [hio] at this
  obtain ⟨q, hq, e'⟩ := List.mem_map.mp this
  subst e'
  have e1 := ios_get k q hq
  have e2 := ios_get k' q hq
  rw [at_get, e1] at e
  rw [at_get, e2]
  exact e
theorem wk_ow {A : Nat → Addr} {g : γ} (w : Wks (at_ Ve g) (at_ Ve' g)) {a : Addr} (h : OwV A Ve' a) : OwV A Ve a := by
  rw [← ow_at (g := g)] at h ⊢
  obtain ⟨i, ds, e, z⟩ := h
  obtain ⟨s', e1, e2⟩ := wks_get w e
  cases e2
  exact ⟨i, ds, e1, z⟩
theorem SB.wk {f : Sc γ β} {sts : List Stmt} (h : SB X C xj Ve Ve' sts f) (w : Wkv Ve' Ve2) (k : IosOk Ve' C.ios) (k' : IosOk Ve2 C.ios) : SB X C xj Ve Ve2 sts f := ⟨fun Z W hK hio tk => (h.run Z W hK hio tk).weak fun D σ H q => by
  obtain ⟨g, A, j, q⟩ := q
  refine ⟨g, A, j, ?_⟩
  cases ef : f g with
  | bad => simp only [ef] at q
  | exc x g1 => simp only [ef] at q; exact q
  | rt b g1 => simp only [ef] at q; exact q
  | nx g1 =>
    simp only [ef] at q
    exact fun A' σ' H' j' st => q A' σ' H' (j'.weak (w g1) (wk_io (A := A') k k' hio)) fun a o n h => ⟨(st a o n h).1, fun z => (st a o n h).2 (wk_ow (w g1) z)⟩⟩
/-- .. ahead -/
theorem SB.pre {f : Sc γ β} {sts : List Stmt} (h : SB X C xj Ve' Ve2 sts f) (w : Wkv Ve Ve') (k : IosOk Ve C.ios) (k' : IosOk Ve' C.ios) : SB X C xj Ve Ve2 sts f := ⟨fun Z W hK hio tk => (h.run Z W hK hio tk).weak fun D σ H q => by
  obtain ⟨g, A, j, q⟩ := q
  refine ⟨g, A, j.weak (w g) (wk_io (A := A) k k' hio), ?_⟩
  cases ef : f g with
  | bad => simp only [ef] at q
  | exc x g1 => simp only [ef] at q; exact q
  | rt b g1 => simp only [ef] at q; exact q
  | nx g1 =>
    simp only [ef] at q
    exact fun A' σ' H' j' st => q A' σ' H' j' fun a o n h => st a o (fun z => n (wk_ow (w g) z)) h⟩
theorem SS.pre {f : Sc γ β} (h : SS X C xj Ve' Ve2 st f) (w : Wkv Ve Ve') (k : IosOk Ve C.ios) (k' : IosOk Ve' C.ios) : SS X C xj Ve Ve2 st f := ⟨fun Z W hK hio tk => (h.run Z W hK hio tk).weak fun D σ H q => by
  obtain ⟨g, A, j, q⟩ := q
  refine ⟨g, A, j.weak (w g) (wk_io (A := A) k k' hio), ?_⟩
  cases ef : f g with
  | bad => simp only [ef] at q
  | exc x g1 => simp only [ef] at q; exact q
  | rt b g1 => simp only [ef] at q; exact q
  | nx g1 =>
    simp only [ef] at q
    exact fun A' σ' H' j' st => q A' σ' H' j' fun a o n h => st a o (fun z => n (wk_ow (w g) z)) h⟩

/-- an expression ahead of what is done with its value -/
theorem tS_do {f : Ac γ α} {k : α → Sc γ β} {D : Ends} {σ : L2.St} {H : Hp} {Q : VK} (hx : XOk xj Ve) (q : tS mg Z W C xj Ve Ve' (doS f k) D σ H)
    (h : ∀ a g A v H', J Z A (at_ Ve g) σ H' → Rm Z A Ve H' m v (enc a) → (match k a g with
      | .nx g' => ∀ A' σ' H2, J Z A' (at_ Ve' g') σ' H2 → Stt (OwV A Ve) (OwV A' Ve') H' H2 → D.nx σ' H2
      | .rt b g' => ∀ v H', RetOk Z C g' b v H' → D.rt v H'
      | .exc x g' => ∀ c A' σ' H', mg x = some c → xj Z A' g' σ' H' → W c none σ' H'
      | .bad => False) → Q v H') : tE mg Z W Ve m p f σ H Q := by
  obtain ⟨g, A, j, q⟩ := q
  refine ⟨g, A, j, ?_⟩
  unfold doS at q
  cases ef : f g with
  | bad => simp only [ef] at q
  | exc x g1 =>
    simp only [ef] at q
    exact fun c H' mc j' gr => q c A σ H' mc (hx _ _ _ _ _ j')
  | ok a g1 =>
    simp only [ef] at q
    intro v H' j' gr sm rv
    refine h a g1 A v H' j' rv ?_
    cases ek : k a g1 with
    | bad => simp only [ek] at q
    | exc x g2 => simp only [ek] at q; exact q
    | rt b g2 => simp only [ek] at q; exact q
    | nx g2 =>
      simp only [ek] at q
      exact fun A2 σ2 H2 j2 st2 => q A2 σ2 H2 j2 (gr.stt.trans st2)
theorem tS_doN {f : Ac γ (List α)} {k : List α → Sc γ β} {D : Ends} {σ : L2.St} {H : Hp} {Q : VK} (hx : XOk xj Ve) (q : tS mg Z W C xj Ve Ve' (doS f k) D σ H)
    (h : ∀ a g A n vs H', H' n = none → J Z A (at_ Ve g) σ H' → RpA Z.K (GH Z (OwV A Ve) H') vs (a.map enc) → (match k a g with
      | .nx g' => ∀ A' σ' H2, J Z A' (at_ Ve' g') σ' H2 → Stt (OwV A Ve) (OwV A' Ve') H' H2 → D.nx σ' H2
      | .rt b g' => ∀ v H', RetOk Z C g' b v H' → D.rt v H'
      | .exc x g' => ∀ c A' σ' H', mg x = some c → xj Z A' g' σ' H' → W c none σ' H'
      | .bad => False) → Q (.ref n) (upd H' n (.lst vs))) : tN mg Z W Ve p f σ H Q := by
  obtain ⟨g, A, j, q⟩ := q
  refine ⟨g, A, j, ?_⟩
  unfold doS at q
  cases ef : f g with
  | bad => simp only [ef] at q
  | exc x g1 =>
    simp only [ef] at q
    exact fun c H' mc j' gr => q c A σ H' mc (hx _ _ _ _ _ j')
  | ok a g1 =>
    simp only [ef] at q
    intro n vs H' hn j' gr sm rv
    refine h a g1 A n vs H' hn j' rv ?_
    cases ek : k a g1 with
    | bad => simp only [ek] at q
    | exc x g2 => simp only [ek] at q; exact q
    | rt b g2 => simp only [ek] at q; exact q
    | nx g2 =>
      simp only [ek] at q
      exact fun A2 σ2 H2 j2 st2 => q A2 σ2 H2 j2 (gr.stt.trans st2)
def frB : Md → Bool
  | .fr => true
  | _ => false
def noBo : Md → Bool
  | .bo _ => false
  | _ => true
theorem rm_frB {A : Nat → Addr} {H : Hp} {v : L2.V} {d : D} (hm : noBo m = true) (h : Rm Z A Ve H m v d) : Rp Z.K (hp Z (OwV A Ve) H (frB m)) v d := by
  cases m with
  | fr => exact h
  | an => exact h
  | bo i => cases hm
/-- name = e -/
theorem c_set {f : Ac γ α} (i : Nat) (set : γ → α → γ) {n : Str} {pos pos' : Pos} (hx : XOk xj Ve) (he : SE X Ve m p e f) (hV : ∀ g a, at_ Ve' (set g a) = (at_ Ve g).set i (.imm (frB m) (enc a)) := by exact fun _ _ => rfl) (hm : noBo m = true := by rfl) (hno : (ioIx C).contains i = false := by rfl)
    (hN : X.N.Nodup) (hi : X.N[i]? = some n := by rfl) (hl : Loc X.env.scope n := by first | exact .inl rfl | exact .inr rfl) (hs : swapsWith e (some (.Name n pos')) pos.line X.env = pure false := by rfl) (hf : X.fn n = true ∨ X.env.scope.names.lookup n = some .local := by first | exact .inl rfl | exact .inr rfl) :
    SS X C xj Ve Ve' (.Assign [.Name n pos'] e pos) (setS set f) := ⟨fun Z W hK hio tk => (ps_set hN hi hl (he.run Z W hK tk) hs hf).weak fun D σ H q => tS_do hx q fun a g A v H' j rv z => by
  have j2 := j.setImm (i := i) (by rw [ow_at]; exact rm_frB hm rv) (noio hio hno)
  rw [← hV] at j2
  refine z A _ H' j2 fun x o n h => ⟨h, fun y => n ?_⟩
  rw [← ow_at (g := set g a), hV] at y
  rw [← ow_at (g := g)]
  exact ow_set imm_ne x y⟩
/-- name = a new list, one's own -/
def noPk {γ : Type} (i : Nat) : Ev γ → Bool
  | [] => true
  | .pk q :: V => !q.js.contains i && noPk i V
  | _ :: V => noPk i V
theorem noPk_all {γ : Type} {i : Nat} {g : γ} : ∀ {V : Ev γ}, noPk i V = true → ∀ (k : Nat) (t : Pk), (at_ V g)[k]? = some (.pk t) → i ∉ t.js
  | [], _, k, t, e => by simp [at_] at e
  | s :: V, h, k, t, e => by
    have h' : noPk i V = true := by
      cases s with
      | pk q => exact (Bool.and_eq_true_iff.mp (show (!q.js.contains i && noPk i V) = true from h)).2
      | no => exact h
      | imm fr d => exact h
      | own ds => exact h
      | scr ns => exact h
      | raw v => exact h
    cases k with
    | zero =>
      have e' : SlotG.at g s = .pk t := by simpa [at_] using e
      cases s with
      | pk q =>
        cases e'
        have h2 : (!t.js.contains i && noPk i V) = true := h
        intro z
        have := (Bool.and_eq_true_iff.mp h2).1
        simp [z] at this
      | no => cases e'
      | imm fr d => cases e'
      | own ds => cases e'
      | scr ns => cases e'
      | raw v => cases e'
    | succ k =>
      have e' : (at_ V g)[k]? = some (.pk t) := by simpa [at_] using e
      exact noPk_all h' k t e'
theorem c_own {f : Ac γ (List α)} (i : Nat) (set : γ → List α → γ) {n : Str} {pos pos' : Pos} (hx : XOk xj Ve) (he : SN X Ve p e f) (hV : ∀ g a, at_ Ve' (set g a) = (at_ Ve g).set i (.own (a.map enc)) := by exact fun _ _ => rfl) (hno : (ioIx C).contains i = false := by rfl) (hpk : noPk i Ve = true := by rfl)
    (hN : X.N.Nodup) (hi : X.N[i]? = some n := by rfl) (hl : Loc X.env.scope n := by first | exact .inl rfl | exact .inr rfl) (hs : swapsWith e (some (.Name n pos')) pos.line X.env = pure false := by rfl) (hf : X.fn n = true ∨ X.env.scope.names.lookup n = some .local := by first | exact .inl rfl | exact .inr rfl) :
    SS X C xj Ve Ve' (.Assign [.Name n pos'] e pos) (setS set f) := ⟨fun Z W hK hio tk => (ps_set hN hi hl (he.run Z W hK tk) hs hf).weak fun D σ H q => tS_doN hx q fun a g A v vs H' hn j rv z => by
  have j2 := j.setOwn (i := i) hn (by rw [ow_at]; exact rv) (noio hio hno) (fun k t e _ => noPk_all hpk k t e)
  rw [← hV] at j2
  refine z (fun k => if k = i then v else A k) _ _ j2 fun x o n h => ⟨same_new hn _ _ h, fun y => ?_⟩
  obtain ⟨k, ds, e1, e2⟩ := y
  by_cases ek : k = i
  · simp only [ek, if_true] at e2
    rw [← e2, hn] at h
    cases h
  · simp only [ek, if_false] at e2
    have h1 : (at_ Ve' (set g a))[k]? = some (.own (ds (set g a))) := by rw [at_get, e1]; rfl
    rw [hV, set_get, if_neg (Ne.symm ek)] at h1
    refine n ?_
    rw [← ow_at (g := g)]
    exact ⟨k, _, h1, e2⟩⟩
/-- a value that nobody wants -/
theorem c_drop {f : Ac γ α} {pos : Pos} (hx : XOk xj Ve) (he : SE X Ve m p e f) (hs : swapsWith e none pos.line X.env = pure false := by rfl) : SS X C xj Ve Ve (.Expr e pos) (dropS f) := ⟨fun Z W hK hio tk => (ps_expr (he.run Z W hK tk) hs).weak fun D σ H q => tS_do hx q fun a g A v H' j rv z => z A σ H' j .refl⟩
theorem c_doc {x : Str} {jj : _} {pos pos' : Pos} : SS X C xj Ve Ve (.Expr (.Constant (.str x) jj pos) pos') nxS := ⟨fun Z W hK hio tk => ps_doc.weak fun D σ H q => by
  obtain ⟨g, A, j, q⟩ := q
  exact q A σ H j .refl⟩
theorem c_pass {pos : Pos} : SS X C xj Ve Ve (.Pass pos) nxS := ⟨fun Z W hK hio tk => ps_pass.weak fun D σ H q => by
  obtain ⟨g, A, j, q⟩ := q
  exact q A σ H j .refl⟩
/-- if -/
theorem tT_do {c : Ac γ Bool} {f h : Sc γ β} {D : Ends} {σ : L2.St} {H : Hp} (hx : XOk xj Ve) (q : tS mg Z W C xj Ve Ve' (ifS c f h) D σ H) : tT mg Z W Ve p c σ H fun b H1 => if b = true then tS mg Z W C xj Ve Ve' f D σ H1 else tS mg Z W C xj Ve Ve' h D σ H1 := by
  obtain ⟨g, A, j, q⟩ := q
  refine ⟨g, A, j, ?_⟩
  unfold ifS doS at q
  cases ef : c g with
  | bad => simp only [ef] at q
  | exc x g1 =>
    simp only [ef] at q
    exact fun c H' mc j' gr => q c A σ H' mc (hx _ _ _ _ _ j')
  | ok a g1 =>
    simp only [ef] at q
    intro H' j' gr sm
    have go : ∀ {k : Sc γ β}, (match k g1 with
        | .nx g' => ∀ A' σ' H', J Z A' (at_ Ve' g') σ' H' → Stt (OwV A Ve) (OwV A' Ve') H H' → D.nx σ' H'
        | .rt b g' => ∀ v H', RetOk Z C g' b v H' → D.rt v H'
        | .exc x g' => ∀ c A' σ' H', mg x = some c → xj Z A' g' σ' H' → W c none σ' H'
        | .bad => False) → tS mg Z W C xj Ve Ve' k D σ H' := fun {k} q => by
      refine ⟨g1, A, j', ?_⟩
      cases ek : k g1 with
      | bad => simp only [ek] at q
      | exc x g2 => simp only [ek] at q; exact q
      | rt b g2 => simp only [ek] at q; exact q
      | nx g2 =>
        simp only [ek] at q
        exact fun A2 σ2 H2 j2 st2 => q A2 σ2 H2 j2 (gr.stt.trans st2)
    cases a with
    | true => exact iteT (go (by simpa using q))
    | false => exact iteF (go (by simpa using q))
theorem c_if {c : Expr} {c0 : Ac γ Bool} {f h : Sc γ β} {as bs : List Stmt} {pos : Pos} (hx : XOk xj Ve) (hc : ST X Ve p c c0) (ha : SB X C xj Ve Ve' as f) (hb : SB X C xj Ve Ve' bs h) : SS X C xj Ve Ve' (.If c as bs pos) (ifS c0 f h) :=
  ⟨fun Z W hK hio tk => (ps_if (hc.run Z W hK tk) (ha.run Z W hK hio tk) (hb.run Z W hK hio tk)).weak fun D σ H q => tT_do hx q⟩
end

/-! ### handing back -/
section
variable {X : Cx} {γ α β : Type} [Enc α] [Enc β] {C : FC γ β} {xj : XJ γ} {Ve Ve' Ve2 : Ev γ} {m : Md} {p : Bool} {e : Expr} {Z : Fix}
theorem ret_an {A : Nat → Addr} {g : γ} {σ : L2.St} {H : Hp} {v : L2.V} {d : D} (j : J Z A (at_ Ve g) σ H) (h : Rm Z A Ve H .an v d) (k : IosOk Ve C.ios) : Rp Z.K (hide (SIo Z) H) v d :=
  Rp.mono (hide_same fun x o n z => ⟨fun y => n (by
    rcases y with y | ⟨i, y⟩
    · exact .inl y
    · obtain ⟨e1, ds, e2⟩ := j.ioo i x y
      refine .inr ?_
      rw [← ow_at (g := g)]
      exact ⟨i, ds, e2, e1⟩), z⟩) _ h
theorem ret_fr {A : Nat → Addr} {H : Hp} {v : L2.V} {d : D} (h : Rm Z A Ve H .fr v d) : Rp Z.K (hide (fun a => Mut (Z.H0 a)) H) v d := Rp.mono (hide_same fun x o n z => ⟨fun y => n (.inr (.inr y)), z⟩) _ h
/-- return e -/
theorem c_ret {f : Ac γ β} {pos : Pos} (hx : XOk xj Ve) (he : SE X Ve m p e f) (hen : C.en = enc := by rfl) (hrm : (C.rm = .fr ∧ m = .fr) ∨ (C.rm = .an ∧ noBo m = true) := by first | exact .inl ⟨rfl, rfl⟩ | exact .inr ⟨rfl, rfl⟩) (k : IosOk Ve C.ios := by first | exact trivial | exact ⟨rfl, trivial⟩) :
    SS X C xj Ve Ve' (.Return (some e) pos) (retS f) := ⟨fun Z W hK hio tk => (ps_ret (he.run Z W hK tk)).weak fun D σ H q => tS_do hx q fun b g A v H' j rv z => z v H' ⟨j.base, j.ioR k, by
  rw [hen]
  rcases hrm with ⟨e1, e2⟩ | ⟨e1, e2⟩
  · rw [e1]; subst e2; exact ret_fr rv
  · rw [e1]
    cases m with
    | fr => exact ret_an j rv.an k
    | an => exact ret_an j rv k
    | bo i => cases e2⟩⟩
/-- return None -/
theorem c_retN0 {f : Ac γ Unit} {C : FC γ Unit} {pos : Pos} (hen : C.en = fun _ => .none := by rfl) (hrm : C.rm = .fr := by rfl) (k : IosOk Ve C.ios := by first | exact trivial | exact ⟨rfl, trivial⟩) :
    SS X C xj Ve Ve' (.Return none pos) (retS (pureA fun _ => ())) := ⟨fun Z W hK hio tk => ps_retN.weak fun D σ H q => by
  obtain ⟨g, A, j, q⟩ := q
  exact q .non H ⟨j.base, j.ioR k, by rw [hen, hrm]; exact .non⟩⟩
end
section
variable {X : Cx} {γ α : Type} [Enc α] {C : FC γ (List α)} {xj : XJ γ} {Ve Ve' Ve2 : Ev γ} {m : Md} {p : Bool} {e : Expr} {Z : Fix}
/-- return a new list -/
theorem c_retN {f : Ac γ (List α)} {pos : Pos} (hx : XOk xj Ve) (he : SN X Ve p e f) (hen : C.en = enc := by rfl) (hrm : C.rm = .nw := by rfl) (k : IosOk Ve C.ios := by first | exact trivial | exact ⟨rfl, trivial⟩) :
    SS X C xj Ve Ve' (.Return (some e) pos) (retS f) := ⟨fun Z W hK hio tk => (ps_ret (he.run Z W hK tk)).weak fun D σ H q => tS_doN hx q fun b g A n vs H' hn j rv z => by
  have jn := j.new (o := .lst vs) hn
  refine z (.ref n) _ ⟨jn.base, jn.ioR k, ?_⟩
  rw [hen, hrm]
  obtain ⟨n0, _, _⟩ := j.fresh hn
  refine ⟨n, vs, _, rfl, rfl, n0, upd_same, RpA.mono (hide_same fun x o nn z => ?_) _ rv⟩
  have ne : x ≠ n := fun e => by rw [e, hn] at z; cases z
  exact ⟨fun y => y.elim (fun y => nn (.inr (.inr y))) ne, by rw [upd_ne ne]; exact z⟩⟩
/-- return a list of one's own -/
theorem c_retO (i : Nat) (x : γ → List α) {n : Str} {pos pos' : Pos} (h : Ve[i]? = some (.own fun g => (x g).map enc) := by rfl) (hno : (ioIx C).contains i = false := by rfl) (hen : C.en = enc := by rfl) (hrm : C.rm = .nw := by rfl) (k : IosOk Ve C.ios := by first | exact trivial | exact ⟨rfl, trivial⟩)
    (hN : X.N[i]? = some n := by rfl) (hv : Vis X.env.scope n := by first | exact Or.inl rfl | exact Or.inr (Or.inl rfl) | exact Or.inr (Or.inr rfl)) (hd : (n == ("__debug__" : Str)) = false := by decide) (hcd : (n == ("__classdict__" : Str)) = false := by decide) :
    SS X C xj Ve Ve' (.Return (some (.Name n pos')) pos) (retS (pureA x)) := ⟨fun Z W hK hio tk => (ps_ret (pe_var hN hv hd hcd)).weak fun D σ H q => by
  obtain ⟨g, A, j, q⟩ := q
  have hr : (at_ Ve g)[i]? = some (.own ((x g).map enc)) := by rw [at_get, h]; rfl
  obtain ⟨e1, vs, e2, e3⟩ := j.own i _ hr
  refine ⟨_, e1, q (.ref (A i)) H ⟨j.base, j.ioR k, ?_⟩⟩
  rw [hen, hrm]
  rcases j.newo i _ hr with z | z
  · exact absurd z (noio hio hno _)
  · refine ⟨A i, vs, _, rfl, rfl, z, e2, RpA.mono (hide_same fun x o nn w => ⟨fun y => y.elim (fun y => nn (.inr (.inr y))) fun y => nn (.inr (.inl ?_)), w⟩) _ e3⟩
    exact ⟨i, _, hr, y.symm⟩⟩
end
end HL
/-! Ff: defs and their calls. -/
namespace HL
open PySem PySem.Spec PyProof.Rows L2

inductive FRes (β ι : Type) where
  | ok (b : β) (i : ι)
  | exc (x : Str)
  | bad
/-- a parameter: data (fr: no list in it); a list that the def changes; the script -/
inductive Par where
  | imm (fr : Bool) (d : D)
  | ino (ds : List D)
  | scr (ns : List Int)
def ParOk (K : PySem.W.Frag) (S : Addr → Prop) (H : Hp) : List L2.V → List Par → Prop
  | [], [] => True
  | v :: vs, .imm fr d :: ps => (Rp K (hide S H) v d ∧ (fr = true → flatD d = true)) ∧ ParOk K S H vs ps
  | v :: vs, .ino ds :: ps => (∃ q us, v = .ref q ∧ H q = some (.lst us) ∧ S q ∧ RpA K (hide (fun x => Mut (H x)) H) us ds) ∧ ParOk K S H vs ps
  | v :: vs, .scr ns :: ps => (∃ q, v = .ref q ∧ SqL K (hide S H) q (ns.map V.int)) ∧ ParOk K S H vs ps
  | _, _ => False
/-- the lists that are handed in to be changed, by the parameters' numbers -/
def ioL : Nat → List L2.V → List Par → List (Nat × Addr)
  | k, .ref q :: vs, .ino _ :: ps => (k, q) :: ioL (k + 1) vs ps
  | k, _ :: vs, _ :: ps => ioL (k + 1) vs ps
  | _, _, _ => []
def inoIx : Nat → List Par → List Nat
  | k, .ino _ :: ps => k :: inoIx (k + 1) ps
  | k, _ :: ps => inoIx (k + 1) ps
  | _, [] => []
def InoD (l : List (Nat × Addr)) : Prop := ∀ i j a, (i, a) ∈ l → (j, a) ∈ l → i = j
structure CallOk (K : PySem.W.Frag) (S : Addr → Prop) (H : Hp) (io : List (Nat × Addr)) (l : List (Nat × List D)) (rm : RM) (v : L2.V) (d : D) (H' : Hp) : Prop where
  frame : ∀ x o, H x = some o → (∀ i, (i, x) ∉ io) → H' x = some o
  ios : ∀ i a ds, (i, a) ∈ io → (i, ds) ∈ l → ∃ us, H' a = some (.lst us) ∧ RpA K (hide (fun x => Mut (H x)) H') us ds
  ret : RetR K H S H' rm v d
/-- THE PROMISE of a def that works as F says -/
def spOf {α β ι : Type} (K : PySem.W.Frag) (mg : Str → Option Value) (rm : RM) (pa : α → List Par) (en : β → D) (pio : ι → List (Nat × List D)) (F : α → FRes β ι) : Sp := fun vs H Q E => ∃ (a : α) (S : Addr → Prop),
  (∀ x, S x → Mut (H x)) ∧ ParOk K S H vs (pa a) ∧ InoD (ioL 0 vs (pa a)) ∧
  match F a with
  | .ok b i => ∀ v H', CallOk K S H (ioL 0 vs (pa a)) (pio i) rm v (en b) H' → Q v H'
  | .exc x => ∀ c H', mg x = some c → (∀ y o, H y = some o → (∀ i, (i, y) ∉ ioL 0 vs (pa a)) → H' y = some o) → E c none H'
  | .bad => False
def finF {α γ β ι : Type} (body : Sc γ β) (init : α → γ) (io : γ → ι) (nxr : Option β) : α → FRes β ι := fun a => match body (init a) with
  | .rt b g => .ok b (io g)
  | .nx g => match nxr with
    | some b => .ok b (io g)
    | none => .bad
  | .exc x _ => .exc x
  | .bad => .bad
def parSlot : Par → Slot
  | .imm fr d => .imm fr d
  | .ino ds => .own ds
  | .scr ns => .scr ns
section
variable {K : PySem.W.Frag} {S : Addr → Prop} {H : Hp}
theorem parOk_len : ∀ {vs : List L2.V} {ps : List Par}, ParOk K S H vs ps → vs.length = ps.length
  | [], [], _ => rfl
  | v :: vs, .imm fr d :: ps, h => by simp [parOk_len (vs := vs) h.2]
  | v :: vs, .ino ds :: ps, h => by simp [parOk_len (vs := vs) h.2]
  | v :: vs, .scr ns :: ps, h => by simp [parOk_len (vs := vs) h.2]
  | [], _ :: _, h => by cases h
  | _ :: _, [], h => by cases h
theorem parOk_get : ∀ {vs : List L2.V} {ps : List Par} {i : Nat} {q : Par}, ParOk K S H vs ps → ps[i]? = some q → ∃ v, vs[i]? = some v ∧ ParOk K S H [v] [q]
  | [], [], i, q, _, h => by simp at h
  | v :: vs, p :: ps, 0, q, k, h => by
    simp at h
    subst h
    refine ⟨v, rfl, ?_⟩
    cases p with
    | imm fr d => exact ⟨k.1, trivial⟩
    | ino ds => exact ⟨k.1, trivial⟩
    | scr ns => exact ⟨k.1, trivial⟩
  | v :: vs, p :: ps, i + 1, q, k, h => by
    have k' : ParOk K S H vs ps := by
      cases p with
      | imm fr d => exact k.2
      | ino ds => exact k.2
      | scr ns => exact k.2
    obtain ⟨w, e1, e2⟩ := parOk_get (i := i) k' (by simpa using h)
    exact ⟨w, by simpa using e1, e2⟩
  | [], _ :: _, _, _, h, _ => by cases h
  | _ :: _, [], _, _, h, _ => by cases h
theorem ioL_get : ∀ {k : Nat} {vs : List L2.V} {ps : List Par} {i : Nat} {a : Addr}, ParOk K S H vs ps → ((i, a) ∈ ioL k vs ps ↔ k ≤ i ∧ vs[i - k]? = some (.ref a) ∧ ∃ ds, ps[i - k]? = some (.ino ds))
  | k, [], [], i, a, _ => by simp [ioL]
  | k, v :: vs, p :: ps, i, a, h => by
    have step : ∀ {b : Prop}, (b ↔ k + 1 ≤ i ∧ vs[i - (k + 1)]? = some (.ref a) ∧ ∃ ds, ps[i - (k + 1)]? = some (.ino ds)) → ((k ≠ i ∧ b) ↔ k ≠ i ∧ k ≤ i ∧ (v :: vs)[i - k]? = some (.ref a) ∧ ∃ ds, (p :: ps)[i - k]? = some (.ino ds)) := fun {b} hb => by
      rw [hb]
      refine ⟨fun ⟨h1, h2, h3, h4⟩ => ⟨h1, by omega, ?_⟩, fun ⟨h1, h2, h3, h4⟩ => ⟨h1, by omega, ?_⟩⟩
      · have e : i - k = (i - (k + 1)) + 1 := by omega
        rw [e]
        simpa using ⟨h3, h4⟩
      · have e : i - k = (i - (k + 1)) + 1 := by omega
        rw [e] at h3 h4
        simpa using ⟨h3, h4⟩
    have other : (∀ ds, p ≠ .ino ds) → ParOk K S H vs ps → ioL k (v :: vs) (p :: ps) = ioL (k + 1) vs ps → ((i, a) ∈ ioL k (v :: vs) (p :: ps) ↔ k ≤ i ∧ (v :: vs)[i - k]? = some (.ref a) ∧ ∃ ds, (p :: ps)[i - k]? = some (.ino ds)) := fun np h' e => by
      rw [e, ioL_get (k := k + 1) h']
      by_cases hki : k = i
      · subst hki
        refine ⟨fun ⟨z, _⟩ => absurd z (by omega), fun ⟨_, _, ds, z⟩ => ?_⟩
        simp at z
        exact absurd z (np ds)
      · have := step (b := k + 1 ≤ i ∧ vs[i - (k + 1)]? = some (.ref a) ∧ ∃ ds, ps[i - (k + 1)]? = some (.ino ds)) Iff.rfl
        exact ⟨fun z => (this.mp ⟨hki, z⟩).2, fun z => (this.mpr ⟨hki, z⟩).2⟩
    cases p with
    | imm fr d => exact other (fun _ z => by cases z) h.2 (by cases v <;> rfl)
    | scr ns => exact other (fun _ z => by cases z) h.2 (by cases v <;> rfl)
    | ino ds =>
      obtain ⟨⟨q, us, rfl, _⟩, h'⟩ := h
      show (i, a) ∈ (k, q) :: ioL (k + 1) vs ps ↔ _
      rw [List.mem_cons, ioL_get (k := k + 1) h']
      by_cases hki : k = i
      · subst hki
        simp
        refine ⟨fun z => ?_, fun z => .inl z.symm⟩
        rcases z with z | z
        · exact z.symm
        · omega
      · have := step (b := k + 1 ≤ i ∧ vs[i - (k + 1)]? = some (.ref a) ∧ ∃ ds, ps[i - (k + 1)]? = some (.ino ds)) Iff.rfl
        refine ⟨fun z => ?_, fun z => .inr (this.mpr ⟨hki, z⟩).2⟩
        rcases z with z | z
        · cases z
          exact absurd rfl hki
        · exact (this.mp ⟨hki, z⟩).2
  | _, [], _ :: _, _, _, h => by cases h
  | _, _ :: _, [], _, _, h => by cases h
theorem ioL_ix : ∀ {k : Nat} {vs : List L2.V} {ps : List Par}, ParOk K S H vs ps → (ioL k vs ps).map (·.1) = inoIx k ps
  | k, [], [], _ => rfl
  | k, v :: vs, .imm fr d :: ps, h => by
    show (ioL k (v :: vs) (.imm fr d :: ps)).map (·.1) = inoIx (k + 1) ps
    rw [← ioL_ix (k := k + 1) h.2]
    cases v <;> rfl
  | k, v :: vs, .scr ns :: ps, h => by
    show (ioL k (v :: vs) (.scr ns :: ps)).map (·.1) = inoIx (k + 1) ps
    rw [← ioL_ix (k := k + 1) h.2]
    cases v <;> rfl
  | k, v :: vs, .ino ds :: ps, h => by
    obtain ⟨⟨q, us, rfl, _⟩, h'⟩ := h
    show k :: (ioL (k + 1) vs ps).map (·.1) = k :: inoIx (k + 1) ps
    rw [ioL_ix h']
  | _, [], _ :: _, h => by cases h
  | _, _ :: _, [], h => by cases h
end
/-- the places that the slots hold -/
def adA (vs : List L2.V) (i : Nat) : Addr := match vs[i]? with
  | some (.ref a) => a
  | _ => 0
section
variable {K : PySem.W.Frag} {S : Addr → Prop} {H : Hp}
/-- the state at a def's entry -/
theorem J_start {vs : List L2.V} {ps : List Par} {n : Nat} (hS : ∀ x, S x → Mut (H x)) (hp : ParOk K S H vs ps) (hd : InoD (ioL 0 vs ps)) :
    J ⟨K, H, fun x => S x ∧ ∀ i, (i, x) ∉ ioL 0 vs ps, ioL 0 vs ps⟩ (adA vs) (ps.map parSlot ++ List.replicate n .no) (vs.map some ++ List.replicate n none) H := by
  have hl := parOk_len hp
  have get : ∀ {i : Nat} {s : Slot}, s ≠ .no → (ps.map parSlot ++ List.replicate n Slot.no)[i]? = some s → ∃ q, ps[i]? = some q ∧ parSlot q = s := fun {i s} ns h => by
    by_cases hi : i < ps.length
    · rw [List.getElem?_append_left (by simpa using hi), List.getElem?_map] at h
      cases e : ps[i]? with
      | none => rw [e] at h; cases h
      | some q => rw [e] at h; exact ⟨q, rfl, Option.some.inj h⟩
    · rw [List.getElem?_append_right (by simpa using hi), List.getElem?_replicate] at h
      split at h
      · exact absurd (Option.some.inj h).symm ns
      · cases h
  have gv : ∀ {i : Nat} {v : L2.V}, vs[i]? = some v → (vs.map some ++ List.replicate n (none : Option L2.V))[i]? = some (some v) := fun {i v} h => by
    have hi := (List.getElem?_eq_some_iff.mp h).1
    rw [List.getElem?_append_left (by simpa using hi), List.getElem?_map, h]
    rfl
  have own : ∀ {i : Nat} {ds : Ob}, (ps.map parSlot ++ List.replicate n Slot.no)[i]? = some (.own ds) → ∃ dl, ds = .ls dl ∧ ps[i]? = some (.ino dl) := fun {i ds} h => by
    obtain ⟨q, e1, e2⟩ := get (fun z => by cases z) h
    cases q with
    | ino es => cases e2; exact ⟨_, rfl, e1⟩
    | imm fr d => cases e2
    | scr ns => cases e2
  have ofOwn : ∀ {i : Nat} {ds : List D}, ps[i]? = some (.ino ds) → ∃ q us, vs[i]? = some (.ref q) ∧ adA vs i = q ∧ H q = some (.lst us) ∧ S q ∧ RpA K (hide (fun x => Mut (H x)) H) us ds ∧ (i, q) ∈ ioL 0 vs ps := fun {i ds} h => by
    obtain ⟨v, e1, e2⟩ := parOk_get hp h
    obtain ⟨⟨q, us, rfl, e3, e4, e5⟩, _⟩ := e2
    refine ⟨q, us, e1, ?_, e3, e4, e5, (ioL_get hp).mpr ⟨Nat.zero_le _, by simpa using e1, ds, by simpa using h⟩⟩
    unfold adA
    rw [e1]
  have ow : ∀ x, Ow (adA vs) (ps.map parSlot ++ List.replicate n Slot.no) x → (∃ i, (i, x) ∈ ioL 0 vs ps) ∧ Mut (H x) := fun x ⟨i, ds, h, e⟩ => by
    obtain ⟨_, rfl, hh0⟩ := own h
    obtain ⟨q, us, e1, e2, e3, e4, e5, e6⟩ := ofOwn hh0
    rw [e2] at e
    subst e
    exact ⟨⟨i, e6⟩, by rw [e3]; trivial⟩
  refine ⟨fun i fr d h => ?_, fun i ds h => ?_, fun i ns h => ?_, fun i v h => ?_, fun i t h => ?_, fun i j ds es h1 h2 e => ?_, fun i ds h => ?_, fun a h => hS a h.1, fun a o h _ => h, fun i ds h => ?_, fun i a h => ?_, ?_⟩
  · obtain ⟨q, e1, e2⟩ := get (fun z => by cases z) h
    cases q with
    | ino es => cases e2
    | scr ns => cases e2
    | imm fr' d' =>
      cases e2
      obtain ⟨v, e3, ⟨e4, e5⟩, _⟩ := parOk_get hp e1
      refine ⟨v, gv e3, ?_⟩
      have s1 : Same (hide S H) (FH ⟨K, H, fun x => S x ∧ ∀ i, (i, x) ∉ ioL 0 vs ps, ioL 0 vs ps⟩ (Ow (adA vs) (ps.map parSlot ++ List.replicate n Slot.no)) H) := hide_same fun a o na ha => ⟨fun z => by
        rcases z with z | z
        · exact na z.1
        · obtain ⟨⟨j, hj⟩, _⟩ := ow a z
          obtain ⟨_, hj2, ds, hj3⟩ := (ioL_get hp).mp hj
          obtain ⟨q, us, f1, f2, f3, f4, _⟩ := ofOwn (by simpa using hj3)
          rw [show vs[j]? = some (.ref a) by simpa using hj2] at f1
          cases f1
          exact na f4, ha⟩
      cases fr with
      | false => exact Rp.mono s1 _ e4
      | true =>
        refine Rp.flat (fun a xs ht => ?_) d (e5 rfl) e4
        have good : ∀ {o : HO}, hide S H a = some o → ¬ Mut (some o) → GH ⟨K, H, fun x => S x ∧ ∀ i, (i, x) ∉ ioL 0 vs ps, ioL 0 vs ps⟩ (Ow (adA vs) (ps.map parSlot ++ List.replicate n Slot.no)) H a = some o := fun {o} e nm => by
          have e' := hide_le _ _ e
          refine hide_mk (fun z => ?_) e'
          rcases z with z | z | z
          · exact (hide_some.mp e).1 z.1
          · have := (ow a z).2
            rw [e'] at this
            exact nm this
          · have z' : Mut (H a) := z
            rw [e'] at z'
            exact nm z'
        exact good ht fun z => z
  · obtain ⟨_, rfl, hh0⟩ := own h
    obtain ⟨q, us, e1, e2, e3, e4, e5, e6⟩ := ofOwn hh0
    refine ⟨by rw [e2]; exact gv e1, us, by rw [e2]; exact e3, RpA.mono (hide_same fun a o na ha => ⟨fun z => ?_, ha⟩) _ e5⟩
    rcases z with z | z | z
    · exact na (hS a z.1)
    · exact na (ow a z).2
    · exact na z
  · obtain ⟨q, e1, e2⟩ := get (fun z => by cases z) h
    cases q with
    | ino es => cases e2
    | imm fr d => cases e2
    | scr ns' =>
      cases e2
      obtain ⟨v, e3, ⟨a, rfl, e4⟩, _⟩ := parOk_get hp e1
      refine ⟨a, gv e3, sqL_same (hide_same fun a o na ha => ⟨fun z => ?_, ha⟩) e4⟩
      rcases z with z | z
      · exact na z.1
      · obtain ⟨⟨j, hj⟩, _⟩ := ow a z
        obtain ⟨_, hj2, ds, hj3⟩ := (ioL_get hp).mp hj
        obtain ⟨q, us, f1, f2, f3, f4, _⟩ := ofOwn (by simpa using hj3)
        rw [show vs[j]? = some (.ref a) by simpa using hj2] at f1
        cases f1
        exact na f4
  · obtain ⟨q, e1, e2⟩ := get (fun z => by cases z) h
    cases q with
    | ino es => cases e2
    | imm fr d => cases e2
    | scr ns' => cases e2
  · obtain ⟨q, e1, e2⟩ := get (fun z => by cases z) h
    cases q with
    | ino es => cases e2
    | imm fr d => cases e2
    | scr ns => cases e2
  · obtain ⟨_, rfl, hh10⟩ := own h1
    obtain ⟨q, us, e1, e2, e3, e4, e5, e6⟩ := ofOwn hh10
    obtain ⟨_, rfl, hh20⟩ := own h2
    obtain ⟨q', us', e1', e2', e3', e4', e5', e6'⟩ := ofOwn hh20
    rw [e2, e2'] at e
    subst e
    exact hd i j q e6 e6'
  · obtain ⟨_, rfl, hh0⟩ := own h
    obtain ⟨q, us, e1, e2, e3, e4, e5, e6⟩ := ofOwn hh0
    rw [e2]
    exact fun z => z.2 i e6
  · obtain ⟨_, rfl, hh0⟩ := own h
    obtain ⟨q, us, e1, e2, e3, e4, e5, e6⟩ := ofOwn hh0
    rw [e2]
    exact .inl e6
  · obtain ⟨_, hj2, ds, hj3⟩ := (ioL_get hp).mp h
    have hj2 : vs[i]? = some (.ref a) := by simpa using hj2
    have hj3 : ps[i]? = some (.ino ds) := by simpa using hj3
    refine ⟨by unfold adA; rw [hj2], ds, ?_⟩
    have hi := (List.getElem?_eq_some_iff.mp hj3).1
    rw [List.getElem?_append_left (by simpa using hi), List.getElem?_map, hj3]
    rfl
  · simp [hl]
end

section
variable {P : Program} {w : World} {K : PySem.W.Frag} {mg : Str → Option Value} {base : Heap} {α β γ ι : Type}
/-- THE RULE for a def -/
theorem fn_ok {x qual : Str} {st : Stmt} {f : Addr} {fd : FuncData} {N ps : List Str} {k : Nat} (F : Fun K x qual st f fd) (S : FnScope N ps (defScope st)) (C : FC γ β) (V0 V1 : Ev γ) (pa : α → List Par) (init : α → γ) (io : γ → ι) (pio : ι → List (Nat × List D)) (nxr : Option β) {body : Sc γ β}
    (hlen : ∀ a, (pa a).length = ps.length) (hV : ∀ a, at_ V0 (init a) = (pa a).map parSlot ++ List.replicate (N.length - ps.length) .no) (hpio : ∀ g, pio (io g) = C.io g) (hix : ∀ a, inoIx 0 (pa a) = ioIx C) (hnx : ∀ b, nxr = some b → C.en b = .none ∧ C.rm = .fr ∧ IosOk V1 C.ios)
    (hbody : ∀ (cdv : Value) (A : Around) (outer : List Env) (s : Shared) (H : Hp) (E : XK), Room k (A.deeper (envOfC qual (defScope st) s.heap.objs.size f cdv)) →
      SB (cxOf (L2.CX P w) P w K mg base N qual (defScope st) f cdv A outer s H E) C (xfr γ) V0 V1 (defBody st) body) :
    FnOk P w K mg base (L2.CX P w) (k + 1) f fd ps (spOf K mg C.rm pa C.en pio (finF body init io nxr)) := by
  refine F.okX S (fun vs H Q E h => ?_) fun cdv A outer s H vs Q E hr h => ?_
  · obtain ⟨a, S, _, hp, _⟩ := h
    rw [parOk_len hp, hlen]
  · obtain ⟨a, S, hS, hp, hd, h⟩ := h
    have hl : vs.length = ps.length := by rw [parOk_len hp, hlen]
    have j := J_start (n := N.length - ps.length) hS hp hd
    rw [← hV] at j
    refine ⟨_, (hbody cdv A outer s H E hr).run ⟨K, H, fun x => S x ∧ ∀ i, (i, x) ∉ ioL 0 vs (pa a), ioL 0 vs (pa a)⟩ (fun cls d _ H => E cls d H) rfl (by rw [← hix a]; exact ioL_ix hp) (takes_of rfl rfl rfl rfl), init a, adA vs, ?_, ?_⟩
    · unfold L2.start
      rw [hl]
      exact j
    · unfold finF at h
      have ok : ∀ {b : β} {g : γ} {v : L2.V} {H' : Hp}, RetOk ⟨K, H, fun x => S x ∧ ∀ i, (i, x) ∉ ioL 0 vs (pa a), ioL 0 vs (pa a)⟩ C g b v H' → CallOk K S H (ioL 0 vs (pa a)) (pio (io g)) C.rm v (C.en b) H' := fun {b g v H'} r => by
        refine ⟨r.frame, by rw [hpio]; exact r.io, ?_⟩
        have rr := r.ret
        have sio : ∀ y, SIo ⟨K, H, fun x => S x ∧ ∀ i, (i, x) ∉ ioL 0 vs (pa a), ioL 0 vs (pa a)⟩ y ↔ S y := fun y => ⟨fun z => by
          rcases z with z | ⟨i, z⟩
          · exact z.1
          · obtain ⟨_, hj2, ds, hj3⟩ := (ioL_get hp).mp z
            obtain ⟨v, e1, ⟨q, us, rfl, e3, e4, _⟩, _⟩ := parOk_get hp (show (pa a)[i]? = some (.ino ds) by simpa using hj3)
            rw [show vs[i]? = some (.ref y) by simpa using hj2] at e1
            cases e1
            exact e4, fun z => by
          by_cases q : ∀ i, (i, y) ∉ ioL 0 vs (pa a)
          · exact .inl ⟨z, q⟩
          · have ⟨i, hi⟩ := Classical.not_forall.mp q
            exact .inr ⟨i, Classical.not_not.mp hi⟩⟩
        cases e : C.rm with
        | an =>
          rw [e] at rr
          exact Rp.mono (hide_same fun y o n q => ⟨fun z => n ((sio y).mpr z), q⟩) _ rr
        | fr => rw [e] at rr; exact rr
        | nw => rw [e] at rr; exact rr
      cases eb : body (init a) with
      | bad => simp only [eb] at h
      | exc x g =>
        simp only [eb] at h
        exact fun c A' σ' H' mc fr => h c H' mc fr
      | rt b g =>
        simp only [eb] at h
        exact fun v H' r => h v H' (ok r)
      | nx g =>
        simp only [eb] at h
        cases en : nxr with
        | none => simp only [en] at h
        | some b =>
          simp only [en] at h
          obtain ⟨e1, e2, e3⟩ := hnx b en
          refine fun A' σ' H' j' _ => h .non H' (ok ⟨j'.base, j'.ioR e3, ?_⟩)
          rw [e1, e2]
          exact .non
end

/-! ### calls -/
def ArgOk1 {γ : Type} (Ve : Ev γ) (g : γ) (bs : List Nat) : AK → D → Par → Prop
  | .val .fr, d, .imm fr d' => d = d' ∧ (fr = true → flatD d' = true)
  | .val .an, d, .imm fr d' => d = d' ∧ (fr = true → flatD d' = true)
  | .slot i, _, .imm fr d' => fr = false ∧ bs.contains i = true ∧ ∃ f : γ → List D, Ve[i]? = some (.own fun g => .ls (f g)) ∧ d' = .list (f g)
  | .slot i, _, .ino ds => (bs.contains i = false ∧ flatA ds = true) ∧ ∃ f : γ → List D, Ve[i]? = some (.own fun g => .ls (f g)) ∧ ds = f g
  | .scr, d, .scr ns => d = .list (ns.map .int)
  | _, _, _ => False
def ArgsOk {γ : Type} (Ve : Ev γ) (g : γ) (bs : List Nat) : List AK → List D → List Par → Prop
  | [], [], [] => True
  | k :: ks, d :: ds, p :: ps => ArgOk1 Ve g bs k d p ∧ ArgsOk Ve g bs ks ds ps
  | _, _, _ => False
theorem map_int_inj {a b : List Int} (h : a.map PyData.int = b.map PyData.int) : a = b := (List.map_inj_right fun _ _ e => PyData.int.inj e).mp h
section
variable {γ : Type} {Z : Fix} {A : Nat → Addr} {Ve : Ev γ} {g : γ} {σ : L2.St} {H : Hp} {bs : List Nat}
/-- what a call may not read: what the asker owns, but for what it lends -/
def SC {γ : Type} (Z : Fix) (A : Nat → Addr) (Ve : Ev γ) (bs : List Nat) (x : Addr) : Prop := Z.S x ∨ ∃ i ds, Ve[i]? = some (.own ds) ∧ bs.contains i = false ∧ A i = x
theorem sc_of {x : Addr} (h : SC Z A Ve bs x) : Z.S x ∨ OwV A Ve x := by
  rcases h with h | ⟨i, ds, h1, _, h2⟩
  · exact .inl h
  · exact .inr ⟨i, ds, h1, h2⟩
theorem sc_mut (j : J Z A (at_ Ve g) σ H) {x : Addr} (h : SC Z A Ve bs x) : Mut (H x) := by
  rcases sc_of h with h | h
  · exact j.smut x h
  · have h' : Ow A (at_ Ve g) x := by
      rw [ow_at]
      exact h
    obtain ⟨vs, e, mu⟩ := j.owl h'
    rw [e]
    exact mu
theorem rpA_nomut {K : PySem.W.Frag} {H : Hp} {us : List L2.V} {es : List D} (f : flatA es = true) (h : RpA K H us es) : RpA K (hide (fun x => Mut (H x)) H) us es := RpA.flat (fun a xs ht => hide_mk (by rw [ht]; exact fun z => z) ht) es f h
theorem args_par (j : J Z A (at_ Ve g) σ H) : ∀ {ks : List AK} {vs : List L2.V} {ds : List D} {ps : List Par}, RmA Z A Ve H ks vs ds → ArgsOk Ve g bs ks ds ps → ParOk Z.K (SC Z A Ve bs) H vs ps
  | [], [], [], [], _, _ => trivial
  | .val .fr :: ks, v :: vs, d :: ds, .imm fr d' :: ps, r, a => by
    obtain ⟨⟨rfl, a2⟩, a3⟩ := a
    exact ⟨⟨Rp.mono (hide_same fun x o n e => ⟨fun z => n ((sc_of z).elim .inl fun q => .inr (.inl q)), e⟩) _ r.1, a2⟩, args_par j r.2 a3⟩
  | .val .an :: ks, v :: vs, d :: ds, .imm fr d' :: ps, r, a => by
    obtain ⟨⟨rfl, a2⟩, a3⟩ := a
    exact ⟨⟨Rp.mono (hide_same fun x o n e => ⟨fun z => n (sc_of z), e⟩) _ r.1, a2⟩, args_par j r.2 a3⟩
  | .slot i :: ks, v :: vs, d :: ds, .imm fr d' :: ps, r, a => by
    obtain ⟨⟨rfl, hb, f, hf, rfl⟩, a3⟩ := a
    obtain ⟨rfl, r2⟩ := r
    have hr : (at_ Ve g)[i]? = some (.own (.ls (f g))) := by rw [at_get, hf]; rfl
    obtain ⟨_, us, e2, e3⟩ := j.own i _ hr
    rw [ow_at] at e3
    refine ⟨⟨.lst (hide_mk (fun z => ?_) e2) (RpA.mono (hide_same fun x o n e => ⟨fun z => n ((sc_of z).elim .inl fun q => .inr (.inl q)), e⟩) _ e3), fun z => by cases z⟩, args_par j r2 a3⟩
    rcases z with z | ⟨k, es, h1, h2, h3⟩
    · exact j.notS i _ hr z
    · have hk : (at_ Ve g)[k]? = some (.own (es g)) := by rw [at_get, h1]; rfl
      have := j.inj k i _ _ hk hr h3
      subst this
      rw [hb] at h2
      cases h2
  | .slot i :: ks, v :: vs, d :: ds, .ino es :: ps, r, a => by
    obtain ⟨⟨⟨hb, hfl⟩, f, hf, rfl⟩, a3⟩ := a
    obtain ⟨rfl, r2⟩ := r
    have hr : (at_ Ve g)[i]? = some (.own (.ls (f g))) := by rw [at_get, hf]; rfl
    obtain ⟨_, us, e2, e3⟩ := j.own i _ hr
    exact ⟨⟨A i, us, rfl, e2, .inr ⟨i, _, hf, hb, rfl⟩, rpA_nomut hfl (RpA.mono gh_le _ e3)⟩, args_par j r2 a3⟩
  | .scr :: ks, v :: vs, d :: ds, .scr ns :: ps, r, a => by
    obtain ⟨rfl, a3⟩ := a
    obtain ⟨⟨q, ms, rfl, e1, e2⟩, r2⟩ := r
    have e3 : ns = ms := map_int_inj (PyData.list.inj e1)
    subst e3
    exact ⟨⟨q, rfl, sqL_same (hide_same fun x o n e => ⟨fun z => n (sc_of z), e⟩) e2⟩, args_par j r2 a3⟩
  | .val (.bo _) :: _, _ :: _, _ :: _, .imm _ _ :: _, _, a => by cases a.1
  | .val (.bo _) :: _, _ :: _, _ :: _, .ino _ :: _, _, a => by cases a.1
  | .val (.bo _) :: _, _ :: _, _ :: _, .scr _ :: _, _, a => by cases a.1
  | .val .fr :: _, _ :: _, _ :: _, .ino _ :: _, _, a => by cases a.1
  | .val .fr :: _, _ :: _, _ :: _, .scr _ :: _, _, a => by cases a.1
  | .val .an :: _, _ :: _, _ :: _, .ino _ :: _, _, a => by cases a.1
  | .val .an :: _, _ :: _, _ :: _, .scr _ :: _, _, a => by cases a.1
  | .slot _ :: _, _ :: _, _ :: _, .scr _ :: _, _, a => by cases a.1
  | .scr :: _, _ :: _, _ :: _, .imm _ _ :: _, _, a => by cases a.1
  | .scr :: _, _ :: _, _ :: _, .ino _ :: _, _, a => by cases a.1
  | [], _, _ :: _, _, _, a => by cases a
  | [], _, [], _ :: _, _, a => by cases a
  | _ :: _, _, [], _, _, a => by cases a
  | _ :: _, _, _ :: _, [], _, a => by cases a
  | [], _ :: _, [], _, r, _ => by cases r
  | .val _ :: _, [], _ :: _, _ :: _, r, _ => by cases r
  | .slot _ :: _, [], _ :: _, _ :: _, r, _ => by cases r
  | .scr :: _, [], _ :: _, _ :: _, r, _ => by cases r
/-- what was mutable at the entry is mutable -/
theorem mut0 (j : J Z A (at_ Ve g) σ H) {x : Addr} (h : Z.S x ∨ OwV A Ve x ∨ Mut (Z.H0 x)) : Mut (H x) := by
  rcases h with h | h | h
  · exact j.smut x h
  · have h' : Ow A (at_ Ve g) x := by
      rw [ow_at]
      exact h
    obtain ⟨vs, e, mu⟩ := j.owl h'
    rw [e]
    exact mu
  · cases e : Z.H0 x with
    | none => rw [e] at h; exact h.elim
    | some o =>
      by_cases hio : ∀ i, (i, x) ∉ Z.io
      · rw [j.base x o e hio, ← e]
        exact h
      · have ⟨i, hi⟩ := Classical.not_forall.mp hio
        have hi := Classical.not_not.mp hi
        obtain ⟨e1, ds, e2⟩ := j.ioo i x hi
        obtain ⟨vs, e3, mu⟩ := j.owl ⟨i, ds, e2, e1⟩
        rw [e3]
        exact mu
theorem ret_rm (j : J Z A (at_ Ve g) σ H) {H' : Hp} {v : L2.V} {d : D} {rm : RM} {m : Md} (h : RetR Z.K H (SC Z A Ve bs) H' rm v d) (hm : (rm = .fr ∧ m = .fr) ∨ (rm = .an ∧ m = .an ∧ bs = [])) : Rm Z A Ve H' m v d := by
  rcases hm with ⟨rfl, rfl⟩ | ⟨rfl, rfl, rfl⟩
  · exact Rp.mono (hide_same fun x o n e => ⟨fun z => n (mut0 j z), e⟩) _ h
  · refine Rp.mono (hide_same fun x o n e => ⟨fun z => n ?_, e⟩) _ h
    rcases z with z | ⟨i, ds, h1, h2⟩
    · exact .inl z
    · exact .inr ⟨i, ds, h1, rfl, h2⟩
end
/-- a call -/
def callA {γ τ α β ι : Type} (args : γ → τ → α) (F : α → FRes β ι) (fA : Ac γ τ) : Ac γ β := bindA fA fun t g => match F (args g t) with
  | .ok b _ => .ok b g
  | .exc x => .exc x g
  | .bad => .bad
/-- a call that changes one list of the asker's -/
def callIo {γ τ α β ι : Type} (args : γ → τ → α) (put : γ → ι → γ) (F : α → FRes β ι) (fA : Ac γ τ) : Ac γ β := bindA fA fun t g => match F (args g t) with
  | .ok b i => .ok b (put g i)
  | .exc _ => .bad
  | .bad => .bad
section
variable {X : Cx} {γ τ α β ι : Type} [Enc β] {Ve : Ev γ} {ks : List AK} {p : Bool} {e : Expr} {es : List Expr} {bs : List Nat} {k : Nat} {f : Addr} {fd : FuncData} {ps : List Str} {rm : RM} {pa : α → List Par} {pio : ι → List (Nat × List D)} {F : α → FRes β ι} {m : Md}
theorem s_call {x : Str} {el : τ → List D} {fA : Ac γ τ} {p0 pos : Pos} (args : γ → τ → α) (FO : FnOk X.prog X.w X.K X.mg X.base (L2.CX X.prog X.w) k f fd ps (spOf X.K X.mg rm pa enc pio F)) (hr : Room k X.A) (hmg : X.mg x = some (.ref f)) (hk : PySem.W.keepIn X.K (.ref f) = true) (hb : Binds X.K fd ps [])
    (ha : SA X Ve ks p (e :: es) el fA) (hargs : ∀ g t, ArgsOk Ve g bs ks (el t) (pa (args g t))) (hio : ∀ a, inoIx 0 (pa a) = []) (hm : (rm = .fr ∧ m = .fr) ∨ (rm = .an ∧ m = .an ∧ bs = []) := by first | exact .inl ⟨rfl, rfl⟩ | exact .inr ⟨rfl, rfl, rfl⟩)
    (hg : Gl X x := by rfl) (hdb : (x == ("__debug__" : Str)) = false := by decide) (he : starEach (e :: es) X.env = (false, eval e X.env) :: starEach es X.env := by rfl) (hpl : (backTo pos (starEach es X.env)).any (·.1) = false := by rfl) :
    SE X Ve m p (.Call (.Name x p0) (e :: es) [] pos) (callA args F fA) := ⟨fun Z W hK tk => (pe_callS (E := WE W) FO hr hg hmg hk hb (fun σ => passAt tk σ) (ha.run Z W hK tk) hdb he hpl).weak fun σ H Q q => by
  obtain ⟨g, A, j, q⟩ := q
  refine ⟨g, A, j, ?_⟩
  unfold callA bindA at q
  cases ef : fA g with
  | bad => simp only [ef] at q
  | exc x g1 => simp only [ef] at q; exact q
  | ok t g1 =>
    simp only [ef] at q
    intro vs H1 j1 gr1 sm1 rvs
    have par := args_par (bs := bs) j1 rvs (hargs g1 t)
    rw [hK] at par
    have ion : ioL 0 vs (pa (args g1 t)) = [] := by
      have := ioL_ix (k := 0) par
      rw [hio] at this
      exact List.map_eq_nil_iff.mp this
    refine ⟨args g1 t, SC Z A Ve bs, fun x h => sc_mut j1 h, par, by rw [ion]; exact fun i j a h => (by cases h), ?_⟩
    rw [ion]
    cases eF : F (args g1 t) with
    | bad => simp only [eF] at q
    | exc x' =>
      simp only [eF] at q
      refine fun c H2 mc fr => ?_
      have sm : Same H1 H2 := fun y o h => fr y o h fun i z => by cases z
      exact q c H2 mc (j1.same sm) (gr1.trans (.of sm))
    | ok b i =>
      simp only [eF] at q
      refine fun v H2 co => ?_
      have sm : Same H1 H2 := fun y o h => co.frame y o h fun i z => by cases z
      have rr := co.ret
      rw [← hK] at rr
      exact q v H2 (j1.same sm) (gr1.trans (.of sm)) (fun z => (sm1 z).trans sm) (ret_rm j1 rr hm)⟩
/-- a call that changes a list of the asker's, the one in slot i -/
theorem s_callIo {x : Str} {el : τ → List D} {fA : Ac γ τ} {p0 pos : Pos} (args : γ → τ → α) (put : γ → ι → γ) (i pi : Nat) (cont : ι → List D) (FO : FnOk X.prog X.w X.K X.mg X.base (L2.CX X.prog X.w) k f fd ps (spOf X.K X.mg rm pa enc pio F)) (hr : Room k X.A) (hmg : X.mg x = some (.ref f)) (hk : PySem.W.keepIn X.K (.ref f) = true) (hb : Binds X.K fd ps [])
    (ha : SA X Ve ks p (e :: es) el fA) (hargs : ∀ g t, ArgsOk Ve g bs ks (el t) (pa (args g t))) (hio : ∀ a, inoIx 0 (pa a) = [pi]) (hpi : ks[pi]? = some (.slot i) := by rfl) (hown : ∃ f, Ve[i]? = some (.own f) := by exact ⟨_, rfl⟩) (hpio : ∀ y, pio y = [(pi, cont y)] := by exact fun _ => rfl) (hput : ∀ g y, at_ Ve (put g y) = (at_ Ve g).set i (.own (cont y)) := by exact fun _ _ => rfl)
    (hm : (rm = .fr ∧ m = .fr) ∨ (rm = .an ∧ m = .an ∧ bs = []) := by first | exact .inl ⟨rfl, rfl⟩ | exact .inr ⟨rfl, rfl, rfl⟩)
    (hg : Gl X x := by rfl) (hdb : (x == ("__debug__" : Str)) = false := by decide) (he : starEach (e :: es) X.env = (false, eval e X.env) :: starEach es X.env := by rfl) (hpl : (backTo pos (starEach es X.env)).any (·.1) = false := by rfl) :
    SE X Ve m false (.Call (.Name x p0) (e :: es) [] pos) (callIo args put F fA) := ⟨fun Z W hK tk => (pe_callS (E := fun _ _ _ _ => False) FO hr hg hmg hk hb (fun σ pins H s e s' I c => absurd c fun z => by
    obtain ⟨_, _, _, _, _, _, _, _, _, _, _, _, z⟩ := z
    exact z) (ha.run Z W hK tk) hdb he hpl).weak fun σ H Q q => by
  obtain ⟨g, A, j, q⟩ := q
  refine ⟨g, A, j, ?_⟩
  unfold callIo bindA at q
  cases ef : fA g with
  | bad => simp only [ef] at q
  | exc x g1 => simp only [ef] at q; exact q
  | ok t g1 =>
    simp only [ef] at q
    intro vs H1 j1 gr1 sm1 rvs
    have par := args_par (bs := bs) j1 rvs (hargs g1 t)
    rw [hK] at par
    have ix := ioL_ix (k := 0) par
    rw [hio] at ix
    -- the argument at the place pi is the list in slot i
    have at_pi : ∀ {ks : List AK} {vs : List L2.V} {ds : List D} {n : Nat}, RmA Z A Ve H1 ks vs ds → ks[n]? = some (.slot i) → vs[n]? = some (.ref (A i)) := by
      intro ks
      induction ks with
      | nil => intro vs ds n r h; simp at h
      | cons a ks ih =>
        intro vs ds n r h
        cases vs with
        | nil => cases a <;> cases ds <;> exact r.elim
        | cons v vs =>
          cases ds with
          | nil => cases a <;> exact r.elim
          | cons d ds =>
            cases n with
            | zero =>
              simp at h
              subst h
              rw [r.1]
              rfl
            | succ n =>
              have r2 : RmA Z A Ve H1 ks vs ds := by
                cases a with
                | val m => exact r.2
                | slot k => exact r.2
                | scr => exact r.2
              have := ih r2 (n := n) (by simpa using h)
              simpa using this
    have hv := at_pi rvs hpi
    obtain ⟨q0, hq⟩ : ∃ q0, ioL 0 vs (pa (args g1 t)) = [(pi, q0)] := by
      cases e : ioL 0 vs (pa (args g1 t)) with
      | nil => rw [e] at ix; cases ix
      | cons y l =>
        rw [e] at ix
        simp at ix
        obtain ⟨rfl, rfl⟩ := ix
        exact ⟨y.2, rfl⟩
    have hq0 : q0 = A i := by
      have : (pi, q0) ∈ ioL 0 vs (pa (args g1 t)) := by rw [hq]; exact List.mem_cons_self
      obtain ⟨_, h2, _⟩ := (ioL_get par).mp this
      rw [show pi - 0 = pi from rfl, hv] at h2
      exact (V.ref.inj (Option.some.inj h2)).symm
    subst hq0
    refine ⟨args g1 t, SC Z A Ve bs, fun x h => sc_mut j1 h, par, by
      rw [hq]
      intro i j a h1 h2
      simp at h1 h2
      rw [h1.1, h2.1], ?_⟩
    rw [hq]
    cases eF : F (args g1 t) with
    | bad => simp only [eF] at q
    | exc x' => simp only [eF] at q
    | ok b y =>
      simp only [eF] at q
      refine fun v H2 co => ?_
      obtain ⟨fo, hfo⟩ := hown
      have hr' : (at_ Ve g1)[i]? = some (.own (fo g1)) := by rw [at_get, hfo]; rfl
      obtain ⟨us0, e0, mu0⟩ := (j1.own i _ hr').2.is
      obtain ⟨us, e1, e2⟩ := co.ios pi (A i) (cont y) (by exact List.mem_cons_self) (by rw [hpio]; exact List.mem_cons_self)
      -- the heap behind, but for the list
      let H3 : Hp := fun x => if x = A i then H1 x else H2 x
      have sm : Same H1 H3 := fun x o h => by
        show (if x = A i then H1 x else H2 x) = some o
        by_cases ex : x = A i
        · rw [if_pos ex]; exact h
        · rw [if_neg ex]
          exact co.frame x o h fun k z => by
            simp at z
            exact ex z.2
      have j3 := j1.same sm
      have up : upd H3 (A i) (.lst us) = H2 := by
        funext x
        by_cases ex : x = A i
        · rw [ex, upd_same, e1]
        · rw [upd_ne ex]
          show (if x = A i then H1 x else H2 x) = H2 x
          rw [if_neg ex]
      have rc : RpA Z.K (GH Z (Ow A (at_ Ve g1)) H3) us (cont y) := by
        rw [← hK] at e2
        refine RpA.mono (hide_same fun x o n hx => ⟨fun z => n (mut0 j1 (by rw [← ow_at (g := g1)]; exact z)), ?_⟩) _ e2
        have ex : x ≠ A i := fun ex => n (by rw [ex, e0]; exact mu0)
        show (if x = A i then H1 x else H2 x) = some o
        rw [if_neg ex]
        exact hx
      have j4 := j3.chg hr' rc
      rw [up, ← hput] at j4
      have gr : Gr (OwV A Ve) H1 H2 := fun x o n h => co.frame x o h fun k z => by
        simp at z
        exact n ⟨i, fo, hfo, z.2.symm⟩
      have rr := co.ret
      rw [← hK] at rr
      exact q v H2 j4 (gr1.trans gr) (fun z => by cases z) (ret_rm j1 rr hm)⟩
end
section
variable {X : Cx} {γ τ α β ι : Type} [Enc β] {Ve : Ev γ} {ks : List AK} {p : Bool} {e : Expr} {es : List Expr} {bs : List Nat} {k : Nat} {f : Addr} {fd : FuncData} {ps : List Str} {pa : α → List Par} {pio : ι → List (Nat × List D)} {F : α → FRes (List β) ι}
/-- a call that hands back a new list -/
theorem s_callN {x : Str} {el : τ → List D} {fA : Ac γ τ} {p0 pos : Pos} (args : γ → τ → α) (FO : FnOk X.prog X.w X.K X.mg X.base (L2.CX X.prog X.w) k f fd ps (spOf X.K X.mg .nw pa enc pio F)) (hr : Room k X.A) (hmg : X.mg x = some (.ref f)) (hk : PySem.W.keepIn X.K (.ref f) = true) (hb : Binds X.K fd ps [])
    (ha : SA X Ve ks p (e :: es) el fA) (hargs : ∀ g t, ArgsOk Ve g bs ks (el t) (pa (args g t))) (hio : ∀ a, inoIx 0 (pa a) = [])
    (hg : Gl X x := by rfl) (hdb : (x == ("__debug__" : Str)) = false := by decide) (he : starEach (e :: es) X.env = (false, eval e X.env) :: starEach es X.env := by rfl) (hpl : (backTo pos (starEach es X.env)).any (·.1) = false := by rfl) :
    SN X Ve p (.Call (.Name x p0) (e :: es) [] pos) (callA args F fA) := ⟨fun Z W hK tk => (pe_callS (E := WE W) FO hr hg hmg hk hb (fun σ => passAt tk σ) (ha.run Z W hK tk) hdb he hpl).weak fun σ H Q q => by
  obtain ⟨g, A, j, q⟩ := q
  refine ⟨g, A, j, ?_⟩
  unfold callA bindA at q
  cases ef : fA g with
  | bad => simp only [ef] at q
  | exc x g1 => simp only [ef] at q; exact q
  | ok t g1 =>
    simp only [ef] at q
    intro vs H1 j1 gr1 sm1 rvs
    have par := args_par (bs := bs) j1 rvs (hargs g1 t)
    rw [hK] at par
    have ion : ioL 0 vs (pa (args g1 t)) = [] := by
      have := ioL_ix (k := 0) par
      rw [hio] at this
      exact List.map_eq_nil_iff.mp this
    refine ⟨args g1 t, SC Z A Ve bs, fun x h => sc_mut j1 h, par, by rw [ion]; exact fun i j a h => (by cases h), ?_⟩
    rw [ion]
    cases eF : F (args g1 t) with
    | bad => simp only [eF] at q
    | exc x' =>
      simp only [eF] at q
      refine fun c H2 mc fr => ?_
      have sm : Same H1 H2 := fun y o h => fr y o h fun i z => by cases z
      exact q c H2 mc (j1.same sm) (gr1.trans (.of sm))
    | ok b i =>
      simp only [eF] at q
      refine fun v H2 co => ?_
      have sm : Same H1 H2 := fun y o h => co.frame y o h fun i z => by cases z
      obtain ⟨n, us, ds, rfl, e2, e3, e4, e5⟩ := co.ret
      have e2' : ds = b.map enc := (PyData.list.inj e2).symm
      subst e2'
      let H3 : Hp := fun x => if x = n then none else H2 x
      have up : upd H3 n (.lst us) = H2 := by
        funext x
        by_cases ex : x = n
        · rw [ex, upd_same, e4]
        · rw [upd_ne ex]
          show (if x = n then none else H2 x) = H2 x
          rw [if_neg ex]
      have sm3 : Same H1 H3 := fun x o h => by
        show (if x = n then none else H2 x) = some o
        rw [if_neg (fun ex => by rw [ex, e3] at h; cases h)]
        exact sm x o h
      rw [← up]
      refine q n us H3 (by show (if n = n then none else H2 n) = none; rw [if_pos rfl]) (j1.same sm3) (gr1.trans (.of sm3)) (fun z => (sm1 z).trans sm3) ?_
      rw [← hK] at e5
      refine RpA.mono (hide_same fun x o nn hx => ⟨fun z => nn (.inl (mut0 j1 z)), ?_⟩) _ e5
      show (if x = n then none else H2 x) = some o
      rw [if_neg fun ex => nn (.inr ex)]
      exact hx⟩
end
end HL
/-! Fg: targets, lists that are changed, loops. -/
namespace HL
open PySem PySem.Spec PyProof.Rows L2

/-! ### targets -/
def tG {γ α : Type} [Enc α] (Z : Fix) (Ve Ve' : Ev γ) (m : Md) (wr : Bool) (ix : List Nat) (set : γ → α → γ) : TG := fun v σ H Q => ∃ g A a, J Z A (at_ Ve g) σ H ∧ Rm Z A Ve H m v (enc a) ∧
  ∀ σ' H', J Z A (at_ Ve' (set g a)) σ' H' → Gr (OwV A Ve) H H' → (wr = false → Same H H') → (∀ x, OwV A Ve' x → OwV A Ve x) → (∀ i, i ∉ ix → σ'[i]? = σ[i]?) → Q σ' H'
structure SG (X : Cx) {γ α : Type} [Enc α] (Ve Ve' : Ev γ) (m : Md) (wr : Bool) (ix : List Nat) (tg : Expr) (set : γ → α → γ) : Prop where
  run : ∀ (Z : Fix), Z.K = X.K → PG X tg (tG Z Ve Ve' m wr ix set)
def tGs {γ τ : Type} (Z : Fix) (Ve Ve' : Ev γ) (b : Bool) (wr : Bool) (ix : List Nat) (el : τ → List D) (set : γ → τ → γ) : TGs := fun vs σ H Q => ∃ g A t, J Z A (at_ Ve g) σ H ∧ RpA Z.K (hp Z (OwV A Ve) H b) vs (el t) ∧
  ∀ σ' H', J Z A (at_ Ve' (set g t)) σ' H' → Gr (OwV A Ve) H H' → (wr = false → Same H H') → (∀ x, OwV A Ve' x → OwV A Ve x) → (∀ i, i ∉ ix → σ'[i]? = σ[i]?) → Q σ' H'
structure SGs (X : Cx) {γ τ : Type} (Ve Ve' : Ev γ) (b : Bool) (wr : Bool) (ix : List Nat) (ts : List Expr) (el : τ → List D) (set : γ → τ → γ) : Prop where
  run : ∀ (Z : Fix), Z.K = X.K → PGs X ts (tGs Z Ve Ve' b wr ix el set)
theorem _root_.L2.PG.weak {X : Cx} {e : Expr} {t t' : TG} (h : PG X e t) (w : ∀ v σ H Q, t' v σ H Q → t v σ H Q) : PG X e t' := ⟨fun pins s σ H v u Q I r q => h.run pins s σ H v u Q I r (w v σ H Q q)⟩
theorem _root_.L2.PGs.weak {X : Cx} {e : List Expr} {t t' : TGs} (h : PGs X e t) (w : ∀ v σ H Q, t' v σ H Q → t v σ H Q) : PGs X e t' := ⟨fun pins s σ H v u Q I r q => h.run pins s σ H v u Q I r (w v σ H Q q)⟩
/-- the slot holds no list of one's own -/
def noOwn {γ : Type} (V : Ev γ) (vs : List Nat) : Bool := vs.all fun i => match V[i]? with
  | some (.own _) => false
  | _ => true
theorem noOwn_get {γ : Type} {V : Ev γ} {vs : List Nat} (h : noOwn V vs = true) {i : Nat} (hi : i ∈ vs) {ds : γ → Ob} : V[i]? ≠ some (.own ds) := fun e => by
  have := List.all_eq_true.mp h i hi
  rw [e] at this
  cases this
theorem noio' {γ : Type} {Z : Fix} {A : Nat → Addr} {V : Ev γ} {g : γ} {σ : L2.St} {H : Hp} {i : Nat} (j : J Z A (at_ V g) σ H) (hn : noOwn V [i] = true) : ∀ a, (i, a) ∉ Z.io := fun a h => by
  obtain ⟨_, ds, e⟩ := j.ioo i a h
  rw [at_get] at e
  cases q : V[i]? with
  | none => rw [q] at e; cases e
  | some s =>
    rw [q] at e
    cases s with
    | own f => exact noOwn_get hn List.mem_cons_self q
    | no => cases e
    | imm fr d => cases e
    | scr ns => cases e
    | raw v => cases e
    | pk q => cases e
section
variable {X : Cx} {γ α τ : Type} [Enc α] {Ve Ve' Ve2 : Ev γ} {m : Md} {b : Bool} {ix : List Nat} {tg : Expr} {ts : List Expr} {pos : Pos}
theorem g_name (i : Nat) (set : γ → α → γ) {n : Str} (hV : ∀ g a, at_ Ve' (set g a) = (at_ Ve g).set i (.imm (frB m) (enc a)) := by exact fun _ _ => rfl) (hm : noBo m = true := by rfl) (hno : noOwn Ve [i] = true := by rfl)
    (hN : X.N.Nodup) (hi : X.N[i]? = some n := by rfl) (hl : Loc X.env.scope n := by first | exact .inl rfl | exact .inr rfl) (hf : X.fn n = true ∨ X.env.scope.names.lookup n = some .local := by first | exact .inl rfl | exact .inr rfl) :
    SG X Ve Ve' m false [i] (.Name n pos) set := ⟨fun Z hK => (pg_name hN hi hl hf).weak fun v σ H Q q => by
  obtain ⟨g, A, a, j, rv, q⟩ := q
  have j2 := j.setImm (i := i) (by rw [ow_at]; exact rm_frB hm rv) (noio' j hno)
  rw [← hV] at j2
  refine q _ H j2 (.refl H) (fun _ => Same.refl H) (fun x y => ?_) fun k hk => ?_
  · rw [← ow_at (g := set g a), hV] at y
    rw [← ow_at (g := g)]
    exact ow_set imm_ne x y
  · rw [List.getElem?_set, if_neg (fun e => hk (by rw [e]; exact List.mem_cons_self))]⟩
theorem gs_nil : SGs X Ve Ve b false [] [] (fun _ : Unit => []) (fun g _ => g) := ⟨fun Z hK => pgs_nil.weak fun vs σ H Q q => by
  obtain ⟨g, A, t, j, rv, q⟩ := q
  cases rv
  exact ⟨rfl, q σ H j (.refl H) (fun _ => Same.refl H) (fun _ h => h) fun _ _ => rfl⟩⟩
theorem gs_cons {w1 w2 : Bool} {ix1 ix2 : List Nat} {el : τ → List D} {s1 : γ → α → γ} {s2 : γ → τ → γ} (h1 : SG X Ve Ve' (mdB b) w1 ix1 tg s1) (h2 : SGs X Ve' Ve2 b w2 ix2 ts el s2)
    (hs : (assignEach (tg :: ts) X.env).map (·.2) = assign tg X.env :: (assignEach ts X.env).map (·.2) := by rfl) : SGs X Ve Ve2 b (w1 || w2) (ix1 ++ ix2) (tg :: ts) (fun t : α × τ => enc t.1 :: el t.2) (fun g t => s2 (s1 g t.1) t.2) := ⟨fun Z hK => (pgs_cons (h1.run Z hK) (h2.run Z hK) hs).weak fun vs σ H Q q => by
  obtain ⟨g, A, t, j, rv, q⟩ := q
  cases rv with
  | cons r1 r2 =>
    refine ⟨_, _, rfl, g, A, t.1, j, rm_hp r1, fun σ' H' j' gr sm ow hσ => ⟨s1 g t.1, A, t.2, j', ?_, fun σ2 H2 j2 gr2 sm2 ow2 hσ2 => q σ2 H2 j2 (gr.trans fun x o n h => gr2 x o (fun z => n (ow x z)) h) (fun z => (sm (Bool.or_eq_false_iff.mp z).1).trans (sm2 (Bool.or_eq_false_iff.mp z).2)) (fun x z => ow x (ow2 x z)) fun i hi => ?_⟩⟩
    · exact RpA.mono ((Gr.hp gr).trans (Gr.hpO ow)) _ r2
    · rw [hσ2 i fun z => hi (List.mem_append_right _ z), hσ i fun z => hi (List.mem_append_left _ z)]⟩
/-- a, b, .. from a tuple -/
theorem g_tup {wr : Bool} {el : τ → List D} {set : γ → τ → γ} (un : α → τ) {k n : Nat} (hc : X.calm = true) (h : SGs X Ve Ve' (elM m) wr ix ts el set) (hun : ∀ a, enc a = .tuple (el (un a)) := by exact fun _ => rfl) (hn : (assignEach ts X.env).length = n := by rfl)
    (hl : ∀ t, (el t).length = n := by exact fun _ => rfl) (hst : (assignEach ts X.env).findIdx? (·.1) = none := by rfl) : SG X Ve Ve' m wr ix (.Tuple ts k pos) (fun g a => set g (un a)) := ⟨fun Z hK => (pg_tup hc (h.run Z hK) hn hst).weak fun v σ H Q q => by
  obtain ⟨g, A, a, j, rv, q⟩ := q
  rw [hun] at rv
  obtain ⟨t, vs, rfl, e2, e3⟩ := rm_tup (g := g) (σ := σ) rv
  exact ⟨t, vs, rfl, hK ▸ e2, by rw [e3.length, hl], g, A, un a, j, e3, q⟩⟩
/-- own[k] = v -/
theorem rpA_setN {K : PySem.W.Frag} {H : Hp} {vs : List L2.V} {ds : List D} {v : L2.V} {d : D} (i : Nat) (h : RpA K H vs ds) (k : Rp K H v d) : RpA K H (vs.set i v) (ds.set i d) := h.set i k
end
def setAt {α : Type} (l : List α) (i : Int) (a : α) : Option (List α) := (ixN l.length i).map fun j => l.set j a

section
variable {X : Cx} {γ α β : Type} [Enc α] {C : FC γ β} {xj : XJ γ} {Ve Ve' Ve2 : Ev γ} {m m2 : Md} {p p2 : Bool} {e e2 tg : Expr} {pos : Pos}
/-- target = e -/
theorem c_asg {f : Ac γ α} {set : γ → α → γ} {wr : Bool} {ix : List Nat} (hx : XOk xj Ve) (he : SE X Ve m p e f) (hg : SG X Ve Ve' m wr ix tg set) (hs : swapsWithSole [tg] e pos.line X.env = pure false := by rfl) (hw : swappedStores [tg] e X.env = pure none := by rfl)
    (h1 : (assignEach [tg] X.env).map (·.2) = [assign tg X.env] := by rfl) : SS X C xj Ve Ve' (.Assign [tg] e pos) (setS set f) := ⟨fun Z W hK hio tk => (ps_asg (he.run Z W hK tk) (hg.run Z hK) hs hw h1).weak fun D σ H q => tS_do hx q fun a g A v H' j rv z => by
  exact ⟨g, A, a, j, rv, fun σ' H2 j2 gr _ ow _ => z A σ' H2 j2 fun x o n h => ⟨gr x o n h, fun y => n (ow x y)⟩⟩⟩
theorem tS_doA {τ : Type} {mg : Str → Option Value} {Z : Fix} {W : WX} {ks : List AK} {el : τ → List D} {f : Ac γ τ} {k : τ → Sc γ β} {D : Ends} {σ : L2.St} {H : Hp} {Q : List L2.V → Hp → Prop} (hx : XOk xj Ve) (q : tS mg Z W C xj Ve Ve' (doS f k) D σ H)
    (h : ∀ a g A vs H', J Z A (at_ Ve g) σ H' → RmA Z A Ve H' ks vs (el a) → (match k a g with
      | .nx g' => ∀ A' σ' H2, J Z A' (at_ Ve' g') σ' H2 → Stt (OwV A Ve) (OwV A' Ve') H' H2 → D.nx σ' H2
      | .rt b g' => ∀ v H', RetOk Z C g' b v H' → D.rt v H'
      | .exc x g' => ∀ c A' σ' H', mg x = some c → xj Z A' g' σ' H' → W c none σ' H'
      | .bad => False) → Q vs H') : tA mg Z W Ve ks p el f σ H Q := by
  obtain ⟨g, A, j, q⟩ := q
  refine ⟨g, A, j, ?_⟩
  unfold doS at q
  cases ef : f g with
  | bad => simp only [ef] at q
  | exc x g1 =>
    simp only [ef] at q
    exact fun c H' mc j' gr => q c A σ H' mc (hx _ _ _ _ _ j')
  | ok a g1 =>
    simp only [ef] at q
    intro v H' j' gr sm rv
    refine h a g1 A v H' j' rv ?_
    cases ek : k a g1 with
    | bad => simp only [ek] at q
    | exc x g2 => simp only [ek] at q; exact q
    | rt b g2 => simp only [ek] at q; exact q
    | nx g2 =>
      simp only [ek] at q
      exact fun A2 σ2 H2 j2 st2 => q A2 σ2 H2 j2 (gr.stt.trans st2)
/-- a, b = e1, e2 -/
theorem c_par {α2 : Type} [Enc α2] {f : Ac γ (α × (α2 × Unit))} (i k : Nat) (set : γ → α × (α2 × Unit) → γ) {x y : Str} {px py pt : Pos} {kt k2 pt2} (hx : XOk xj Ve) (he : SA X Ve [.val m, .val m2] p [e, e2] (fun t : α × (α2 × Unit) => [enc t.1, enc t.2.1]) f) (hc : X.calm = true)
    (hV : ∀ g t, at_ Ve' (set g t) = ((at_ Ve g).set i (.imm (frB m) (enc t.1))).set k (.imm (frB m2) (enc t.2.1)) := by exact fun _ _ => rfl) (hb1 : noBo m = true := by rfl) (hb2 : noBo m2 = true := by rfl) (hno : (ioIx C).contains i = false := by rfl) (hno2 : (ioIx C).contains k = false := by rfl)
    (hN : X.N.Nodup) (hi : X.N[i]? = some x := by rfl) (hk : X.N[k]? = some y := by rfl) (hik : i ≠ k := by decide) (hlx : X.env.scope.names.lookup x = some .local := by rfl) (hly : X.env.scope.names.lookup y = some .local := by rfl)
    (hw : swappedStores [.Tuple [.Name x px, .Name y py] kt pt] (.Tuple [e, e2] k2 pt2) X.env = pure (some [x, y]) := by rfl) (hs : swapsWithSole [.Tuple [.Name x px, .Name y py] kt pt] (.Tuple [e, e2] k2 pt2) pos.line X.env = pure false := by rfl) :
    SS X C xj Ve Ve' (.Assign [.Tuple [.Name x px, .Name y py] kt pt] (.Tuple [e, e2] k2 pt2) pos) (setS set f) := ⟨fun Z W hK hio tk => (ps_par hc hN hi hk hik hlx hly (he.run Z W hK tk) hw hs).weak fun D σ H q => by
  refine tS_doA hx q fun t g A vs H' j rv z => ?_
  obtain ⟨v, w, rfl, r1, r2⟩ : ∃ v w, vs = [v, w] ∧ Rm Z A Ve H' m v (enc t.1) ∧ Rm Z A Ve H' m2 w (enc t.2.1) := by
    cases vs with
    | nil => exact rv.elim
    | cons v vs =>
      cases vs with
      | nil => exact rv.2.elim
      | cons w vs =>
        cases vs with
        | nil => exact ⟨v, w, rfl, rv.1, rv.2.1⟩
        | cons _ _ => exact rv.2.2.elim
  have q1 := rm_frB hb1 r1
  have q2 := rm_frB hb2 r2
  rw [← ow_at (g := g)] at q1 q2
  have j1 := j.setImm (i := i) q1 (noio hio hno)
  have j2 := j1.setImm (i := k) (Rp.mono (Gr.hpO (ow_set imm_ne)) _ q2) (noio hio hno2)
  rw [← hV] at j2
  refine ⟨v, w, rfl, z A _ H' j2 fun x o n h => ⟨h, fun y => n ?_⟩⟩
  rw [← ow_at (g := set g t), hV] at y
  rw [← ow_at (g := g)]
  exact ow_set imm_ne x (ow_set imm_ne x y)⟩
end

/-! ### lists that are changed -/
def LIM : Nat := 1000000
def appS {γ α β : Type} (get : γ → List α) (put : γ → List α → γ) (f : Ac γ α) : Sc γ β := doS f fun a g => if (get g).length < LIM then .nx (put g (get g ++ [a])) else .bad
def extS {γ α β : Type} (get : γ → List α) (put : γ → List α → γ) (f : Ac γ (List α)) : Sc γ β := doS f fun a g => if (get g).length + a.length < LIM then .nx (put g (get g ++ a)) else .bad
def sixS {γ α β : Type} (get : γ → List α) (put : γ → List α → γ) (f : Ac γ α) (h : Ac γ Int) : Sc γ β := doS f fun a => doS h fun i g => match setAt (get g) i a with
  | some l => .nx (put g l)
  | none => .bad
section
variable {X : Cx} {γ α β : Type} [Enc α] {C : FC γ β} {xj : XJ γ} {Ve Ve' Ve2 : Ev γ} {m m2 : Md} {p p2 : Bool} {e e2 tg : Expr} {pos : Pos} {Z : Fix} {mg : Str → Option Value} {W : WX}
/-- the state behind a change of the list in slot i -/
theorem j_chg {A : Nat → Addr} {g : γ} {σ : L2.St} {H : Hp} {get : γ → List α} {put : γ → List α → γ} {i : Nat} (j : J Z A (at_ Ve g) σ H) (hi : Ve[i]? = some (.own fun g => (get g).map enc)) (hput : ∀ g l, at_ Ve (put g l) = (at_ Ve g).set i (.own (l.map enc))) {vs : List L2.V} {l : List α} (r : RpA Z.K (GH Z (OwV A Ve) H) vs (l.map enc)) :
    J Z A (at_ Ve (put g l)) σ (upd H (A i) (.lst vs)) ∧ Stt (OwV A Ve) (OwV A Ve) H (upd H (A i) (.lst vs)) := by
  have hr : (at_ Ve g)[i]? = some (.own ((get g).map enc)) := by rw [at_get, hi]; rfl
  rw [← ow_at (g := g)] at r
  have j2 := j.chg hr r
  rw [← hput] at j2
  exact ⟨j2, fun x o n h => ⟨by rw [upd_ne (fun e => n ⟨i, _, hi, e.symm⟩)]; exact h, n⟩⟩
/-- what a method's call asks of the text -/
def Bm1 (X : Cx) (o : Expr) (name : Str) (ap : Pos) (e : Expr) (cp : Pos) : Prop := attributeBase o name X.env (eval o X.env) = eval o X.env ∧
  ((((backTo cp (starEach [e] X.env)).all fun x => !x.1) && (backToKw cp (keywordEach [] X.env)).all fun x => x.1.isSome) && decide ((([e] : List Expr).length + ([] : List Keyword).length + if ([] : List Keyword).isEmpty = true then 0 else 1) < 30)) = true ∧
  (ap.endLine == cp.line) = true ∧ starEach [e] X.env = (false, eval e X.env) :: starEach [] X.env ∧ ((backTo cp (starEach [] X.env)).any fun x => x.1) = false
def Bm0 (X : Cx) (o : Expr) (name : Str) (ap cp : Pos) : Prop := attributeBase o name X.env (eval o X.env) = eval o X.env ∧ (ap.endLine == cp.line) = true
theorem c_app {f : Ac γ α} (i : Nat) (get : γ → List α) (put : γ → List α → γ) {n : Str} {p0 ap cp : Pos} (hx : XOk xj Ve) (he : SE X Ve .fr p e f) (hi : Ve[i]? = some (.own fun g => (get g).map enc) := by rfl) (hput : ∀ g l, at_ Ve (put g l) = (at_ Ve g).set i (.own (l.map enc)) := by exact fun _ _ => rfl)
    (hN : X.N[i]? = some n := by rfl) (hv : Vis X.env.scope n := by first | exact Or.inl rfl | exact Or.inr (Or.inl rfl) | exact Or.inr (Or.inr rfl)) (hd : (n == ("__debug__" : Str)) = false := by decide) (hcd : (n == ("__classdict__" : Str)) = false := by decide)
    (hm : Bm1 X (.Name n p0) "append" ap e cp := by exact ⟨rfl, rfl, rfl, rfl, rfl⟩) (hs : swapsWith (.Call (.Attribute (.Name n p0) "append" ap) [e] [] cp) none pos.line X.env = pure false := by rfl) :
    SS X C xj Ve Ve (.Expr (.Call (.Attribute (.Name n p0) "append" ap) [e] [] cp) pos) (appS get put f) := ⟨fun Z W hK hio tk => by
  obtain ⟨m1, m2, m3, m4, m5⟩ := hm
  refine (ps_expr (pe_bm PySem.F.plainAttrs_list PySem.F.slot_list_append PySem.F.type_list_append mt_append (pe_var hN hv hd hcd) (pa_cons (he.run Z W hK tk) pa_nil m4) m1 m2 m3 m4 m5) hs).weak fun D σ H q => ?_
  obtain ⟨g0, A0, j0, q0⟩ := id q
  have hr : (at_ Ve g0)[i]? = some (.own ((get g0).map enc)) := by rw [at_get, hi]; rfl
  obtain ⟨e1, vs0, e2, _⟩ := j0.own i _ hr
  refine ⟨_, e1, .inl ⟨rfl, vs0, seqL e2⟩, ?_⟩
  have key : ∀ {A : Nat → Addr}, A i = A0 i → True := fun _ => trivial
  refine ⟨g0, A0, j0, ?_⟩
  unfold appS doS at q0
  cases ef : f g0 with
  | bad => simp only [ef] at q0
  | exc x g1 =>
    simp only [ef] at q0
    exact fun c H' mc j' gr => q0 c A0 σ H' mc (hx _ _ _ _ _ j')
  | ok a g1 =>
    simp only [ef] at q0
    intro v H1 j1 gr sm rv
    by_cases hl : (get g1).length < LIM
    · rw [if_pos hl] at q0
      have hr1 : (at_ Ve g1)[i]? = some (.own ((get g1).map enc)) := by rw [at_get, hi]; rfl
      obtain ⟨_, vs, e3, e4⟩ := j1.own i _ hr1
      rw [ow_at] at e4
      have el := e4.length
      rw [List.length_map] at el
      refine ⟨A0 i, vs, v, rfl, rfl, e3, by rw [el]; exact Nat.lt_trans hl (by decide), ?_⟩
      obtain ⟨j2, st⟩ := j_chg (vs := vs ++ [v]) (l := get g1 ++ [a]) j1 hi hput (by rw [List.map_append]; exact e4.append (.cons rv .nil))
      exact q0 A0 σ _ j2 (gr.stt.trans st)
    · rw [if_neg hl] at q0
      exact q0.elim⟩
theorem c_ext {f : Ac γ (List α)} (i : Nat) (get : γ → List α) (put : γ → List α → γ) {n : Str} {p0 ap cp : Pos} (hx : XOk xj Ve) (he : SE X Ve m p e f) (hels : ElsT X (α := α) Ve m := by first | exact fun _ _ _ _ _ _ _ j r => rm_elsT rfl r | exact fun _ _ _ _ _ _ _ j r => rm_elsF j r) (hi : Ve[i]? = some (.own fun g => (get g).map enc) := by rfl) (hput : ∀ g l, at_ Ve (put g l) = (at_ Ve g).set i (.own (l.map enc)) := by exact fun _ _ => rfl)
    (hN : X.N[i]? = some n := by rfl) (hv : Vis X.env.scope n := by first | exact Or.inl rfl | exact Or.inr (Or.inl rfl) | exact Or.inr (Or.inr rfl)) (hd : (n == ("__debug__" : Str)) = false := by decide) (hcd : (n == ("__classdict__" : Str)) = false := by decide)
    (hm : Bm1 X (.Name n p0) "extend" ap e cp := by exact ⟨rfl, rfl, rfl, rfl, rfl⟩) (hs : swapsWith (.Call (.Attribute (.Name n p0) "extend" ap) [e] [] cp) none pos.line X.env = pure false := by rfl) :
    SS X C xj Ve Ve (.Expr (.Call (.Attribute (.Name n p0) "extend" ap) [e] [] cp) pos) (extS get put f) := ⟨fun Z W hK hio tk => by
  obtain ⟨m1, m2, m3, m4, m5⟩ := hm
  refine (ps_expr (pe_bm PySem.F.plainAttrs_list PySem.F.slot_list_extend PySem.F.type_list_extend mt_extend (pe_var hN hv hd hcd) (pa_cons (he.run Z W hK tk) pa_nil m4) m1 m2 m3 m4 m5) hs).weak fun D σ H q => ?_
  obtain ⟨g0, A0, j0, q0⟩ := id q
  have hr : (at_ Ve g0)[i]? = some (.own ((get g0).map enc)) := by rw [at_get, hi]; rfl
  obtain ⟨e1, vs0, e2, _⟩ := j0.own i _ hr
  refine ⟨_, e1, .inl ⟨rfl, vs0, seqL e2⟩, ?_⟩
  refine ⟨g0, A0, j0, ?_⟩
  unfold extS doS at q0
  cases ef : f g0 with
  | bad => simp only [ef] at q0
  | exc x g1 =>
    simp only [ef] at q0
    exact fun c H' mc j' gr => q0 c A0 σ H' mc (hx _ _ _ _ _ j')
  | ok a g1 =>
    simp only [ef] at q0
    intro v H1 j1 gr sm rv
    by_cases hl : (get g1).length + a.length < LIM
    · rw [if_pos hl] at q0
      have hr1 : (at_ Ve g1)[i]? = some (.own ((get g1).map enc)) := by rw [at_get, hi]; rfl
      obtain ⟨_, vs, e3, e4⟩ := j1.own i _ hr1
      rw [ow_at] at e4
      obtain ⟨t, ws, rfl, e5, e6⟩ := hels Z A0 g1 σ H1 v a j1 rv
      have el := e4.length
      have el2 := e6.length
      rw [List.length_map] at el el2
      refine ⟨A0 i, t, vs, ws, rfl, rfl, e3, e5, by rw [el, el2]; exact Nat.le_of_lt (Nat.lt_trans hl (by decide)), ?_⟩
      obtain ⟨j2, st⟩ := j_chg (vs := vs ++ ws) (l := get g1 ++ a) j1 hi hput (by rw [List.map_append]; exact e4.append e6)
      exact q0 A0 σ _ j2 (gr.stt.trans st)
    · rw [if_neg hl] at q0
      exact q0.elim⟩
/-- own[h] = e -/
theorem c_six {f : Ac γ α} {h : Ac γ Int} (i : Nat) (get : γ → List α) (put : γ → List α → γ) {n : Str} {p0 sp : Pos} (hx : XOk xj Ve) (he : SE X Ve .fr p e f) (hh : SE X Ve .fr p2 e2 h) (hi : Ve[i]? = some (.own fun g => (get g).map enc) := by rfl) (hput : ∀ g l, at_ Ve (put g l) = (at_ Ve g).set i (.own (l.map enc)) := by exact fun _ _ => rfl)
    (hN : X.N[i]? = some n := by rfl) (hv : Vis X.env.scope n := by first | exact Or.inl rfl | exact Or.inr (Or.inl rfl) | exact Or.inr (Or.inr rfl)) (hd : (n == ("__debug__" : Str)) = false := by decide) (hcd : (n == ("__classdict__" : Str)) = false := by decide)
    (ha : ∀ v, assign (.Subscript (.Name n p0) e2 sp) X.env v = (do
      let ov ← holding [v] (eval (.Name n p0) X.env)
      let iv ← holding [v, ov] (eval e2 X.env)
      standAt sp
      holding [v, ov, iv] (setItem ov iv v)
      release [v, ov, iv] []) := by intro _; rfl) (hs : swapsWithSole [.Subscript (.Name n p0) e2 sp] e pos.line X.env = pure false := by rfl) (hw : swappedStores [.Subscript (.Name n p0) e2 sp] e X.env = pure none := by rfl)
    (h1 : (assignEach [.Subscript (.Name n p0) e2 sp] X.env).map (·.2) = [assign (.Subscript (.Name n p0) e2 sp) X.env] := by rfl) :
    SS X C xj Ve Ve (.Assign [.Subscript (.Name n p0) e2 sp] e pos) (sixS get put f h) := ⟨fun Z W hK hio tk => by
  refine (ps_asg (he.run Z W hK tk) (pg_sub (pe_var hN hv hd hcd) (hh.run Z W hK tk) set_list ha) hs hw h1).weak fun D σ H q => ?_
  obtain ⟨g0, A0, j0, q0⟩ := q
  refine ⟨g0, A0, j0, ?_⟩
  unfold sixS doS at q0
  cases ef : f g0 with
  | bad => simp only [ef] at q0
  | exc x g1 =>
    simp only [ef] at q0
    exact fun c H' mc j' gr => q0 c A0 σ H' mc (hx _ _ _ _ _ j')
  | ok a g1 =>
    simp only [ef] at q0
    intro v H1 j1 gr sm rv
    have hr1 : (at_ Ve g1)[i]? = some (.own ((get g1).map enc)) := by rw [at_get, hi]; rfl
    obtain ⟨e1, _⟩ := j1.own i _ hr1
    refine ⟨_, e1, g1, A0, j1, ?_⟩
    cases eh : h g1 with
    | bad => simp only [eh] at q0
    | exc x g2 =>
      simp only [eh] at q0
      exact fun c H' mc j' gr => q0 c A0 σ H' mc (hx _ _ _ _ _ j')
    | ok k g2 =>
      simp only [eh] at q0
      intro w H2 j2 gr2 sm2 rw2
      cases rp_int rw2.full
      have hr2 : (at_ Ve g2)[i]? = some (.own ((get g2).map enc)) := by rw [at_get, hi]; rfl
      obtain ⟨_, vs, e3, e4⟩ := j2.own i _ hr2
      rw [ow_at] at e4
      have el := e4.length
      rw [List.length_map] at el
      unfold setAt at q0
      cases en : ixN (get g2).length k with
      | none => simp only [en, Option.map_none] at q0
      | some n' =>
        simp only [en, Option.map_some] at q0
        refine ⟨A0 i, vs, k, n', rfl, rfl, e3, by rw [el]; exact en, ?_⟩
        have rv2 : Rm Z A0 Ve H2 .fr v (enc a) := Rp.mono gr2.gh _ rv
        obtain ⟨j3, st⟩ := j_chg (vs := vs.set n' v) (l := (get g2).set n' a) j2 hi hput (by rw [List.map_set]; exact e4.set n' rv2)
        exact q0 A0 σ _ j3 ((gr.stt.trans gr2.stt).trans st)⟩
end

/-! ### loops -/
@[irreducible] def FUEL : Nat := 2 ^ 20000
def whS {γ β : Type} (c : Ac γ Bool) (body : Sc γ β) : Nat → Sc γ β
  | 0 => fun _ => .bad
  | n + 1 => doS c fun b => if b = true then bindS body (whS c body n) else nxS
def whileS {γ β : Type} (c : Ac γ Bool) (body : Sc γ β) : Sc γ β := whS c body FUEL
/-- what is wanted of a statement's end -/
def Fin {γ β : Type} (mg : Str → Option Value) (Z : Fix) (W : WX) (C : FC γ β) (xj : XJ γ) (Ve' : Ev γ) (D : Ends) (O : Addr → Prop) (H : Hp) (r : SRes γ β) : Prop :=
  match r with
  | .nx g' => ∀ A' σ' H', J Z A' (at_ Ve' g') σ' H' → Stt O (OwV A' Ve') H H' → D.nx σ' H'
  | .rt b g' => ∀ v H', RetOk Z C g' b v H' → D.rt v H'
  | .exc x g' => ∀ c A' σ' H', mg x = some c → xj Z A' g' σ' H' → W c none σ' H'
  | .bad => False
section
variable {X : Cx} {γ α β : Type} [Enc α] {C : FC γ β} {xj : XJ γ} {Ve Ve' Ve2 VL : Ev γ} {m m2 : Md} {p p2 : Bool} {e e2 tg : Expr} {pos : Pos} {Z : Fix} {mg : Str → Option Value} {W : WX}
theorem tS_fin {f : Sc γ β} {D : Ends} {σ : L2.St} {H : Hp} {g : γ} {A : Nat → Addr} (j : J Z A (at_ Ve g) σ H) (q : Fin mg Z W C xj Ve' D (OwV A Ve) H (f g)) : tS mg Z W C xj Ve Ve' f D σ H := ⟨g, A, j, q⟩
theorem Fin.step {D : Ends} {O O1 : Addr → Prop} {H H1 : Hp} {r : SRes γ β} (q : Fin mg Z W C xj Ve' D O H r) (st : Stt O O1 H H1) : Fin mg Z W C xj Ve' D O1 H1 r := by
  cases r with
  | bad => exact q
  | exc x g => exact q
  | rt b g => exact q
  | nx g => exact fun A' σ' H' j' st' => q A' σ' H' j' (st.trans st')
theorem c_while {c : Expr} {c0 : Ac γ Bool} {body : Sc γ β} {bs : List Stmt} (hx : XOk xj Ve) (hp : PassesOwn (model X.prog X.w) X.A X.env X.xe) (hc : ST X Ve p c c0) (hb : SB X C xj Ve Ve bs body) : SS X C xj Ve Ve (.While c bs [] pos) (whileS c0 body) :=
  ⟨fun Z W hK hio tk => (ps_while hp (hc.run Z W hK tk) (hb.run Z W hK hio tk)).weak fun D σ H q => by
  obtain ⟨g, A, j, q⟩ := q
  refine ⟨fun n σ' H' => ∃ g' A', J Z A' (at_ Ve g') σ' H' ∧ Fin X.mg Z W C xj Ve D (OwV A' Ve) H' (whS c0 body n g'), ⟨FUEL, g, A, j, q⟩, ?_⟩
  rintro n σ1 H1 ⟨g1, A1, j1, q1⟩
  refine ⟨g1, A1, j1, ?_⟩
  cases n with
  | zero => exact q1.elim
  | succ n =>
    have q1' : Fin X.mg Z W C xj Ve D (OwV A1 Ve) H1 (doS c0 (fun b => if b = true then bindS body (whS c0 body n) else nxS) g1) := q1
    unfold doS at q1'
    cases ec : c0 g1 with
    | bad => simp only [ec] at q1'; exact q1'
    | exc x g2 =>
      simp only [ec] at q1'
      exact fun c H' mc j' gr => q1' c A1 σ1 H' mc (hx _ _ _ _ _ j')
    | ok b g2 =>
      simp only [ec] at q1'
      intro H2 j2 gr sm
      have q2 := q1'.step gr.stt
      cases b with
      | false =>
        simp only [Bool.false_eq_true, if_false] at q2 ⊢
        exact q2 A1 σ1 H2 j2 .refl
      | true =>
        simp only [if_true] at q2 ⊢
        refine ⟨fun σ' H' => ∃ g' A', J Z A' (at_ Ve g') σ' H' ∧ Fin X.mg Z W C xj Ve D (OwV A' Ve) H' (whS c0 body n g'), fun σ' H' h => ⟨n, Nat.lt_succ_self n, h⟩, g2, A1, j2, ?_⟩
        unfold bindS at q2
        cases eb : body g2 with
        | bad => simp only [eb] at q2; exact q2
        | exc x g3 => simp only [eb] at q2; exact q2
        | rt b g3 => simp only [eb] at q2; exact q2
        | nx g3 =>
          simp only [eb] at q2
          exact fun A' σ' H' j' st => ⟨g3, A', j', q2.step st⟩⟩

/-- what stood at the start, and what is new -/
noncomputable def un (R H H2 : Hp) : Hp := fun a => match R a with
  | some o => some o
  | none => open Classical in if H a = none then H2 a else none
theorem un_le {R H H2 : Hp} : Same R (un R H H2) := fun a o h => by
  unfold un
  rw [h]
theorem un_new {R H H2 : Hp} {a : Addr} {o : HO} (h : H a = none) (hR : R a = none) (h2 : H2 a = some o) : un R H H2 a = some o := by
  unfold un
  rw [hR]
  simp only [h, if_true]
  exact h2
theorem un_cases {R H H2 : Hp} {a : Addr} {o : HO} (h : un R H H2 a = some o) : R a = some o ∨ (H a = none ∧ H2 a = some o) := by
  unfold un at h
  cases e : R a with
  | some u => rw [e] at h; exact .inl h
  | none =>
    rw [e] at h
    by_cases q : H a = none
    · simp only [q, if_true] at h
      exact .inr ⟨q, h⟩
    · simp only [q, if_false] at h
      cases h
/-- what is walked: a list, item by item, as long as what nobody owns stands -/
def ItOk (Z : Fix) (b : Bool) (O : Addr → Prop) (H1 : Hp) (it : It) (l : List D) : Prop := ∀ O' H, Stt O O' H1 H → ∀ i, (i < l.length → it.go i H) ∧ (l.length ≤ i → it.stop i H) ∧
  ∀ x H2 d, it.yld i H x H2 → l[i]? = some d → Same H H2 ∧ Rp Z.K (un (hp Z O H1 b) H H2) x d
def tI {γ α : Type} [Enc α] (mg : Str → Option Value) (Z : Fix) (W : WX) (Ve : Ev γ) (b : Bool) (p : Bool) (f : Ac γ (List α)) : TI := fun σ H R => ∃ g A, J Z A (at_ Ve g) σ H ∧
  match f g with
  | .ok l g' => ∀ it H', J Z A (at_ Ve g') σ H' → Gr (OwV A Ve) H H' → (p = true → Same H H') → ItOk Z b (OwV A Ve) H' it (l.map enc) → R it H'
  | .exc x g' => ∀ c H', mg x = some c → J Z A (at_ Ve g') σ H' → Gr (OwV A Ve) H H' → W c none σ H'
  | .bad => False
structure SI (X : Cx) {γ α : Type} [Enc α] (Ve : Ev γ) (b : Bool) (p : Bool) (tg iter : Expr) (f : Ac γ (List α)) : Prop where
  run : ∀ (Z : Fix) (W : WX), Z.K = X.K → Takes X W → PI X tg iter (tI X.mg Z W Ve b p f)
theorem _root_.L2.PI.weak {X : Cx} {tg e : Expr} {t t' : TI} (h : PI X tg e t) (w : ∀ σ H R, t' σ H R → t σ H R) : PI X tg e t' := ⟨fun pins s σ H R I q => h.run pins s σ H R I (w σ H R q)⟩
def forR {γ α β : Type} (set : γ → α → γ) (body : Sc γ β) : List α → Sc γ β
  | [] => nxS
  | a :: l => fun g => bindS body (forR set body l) (set g a)
def forS {γ α β : Type} (f : Ac γ (List α)) (set : γ → α → γ) (body : Sc γ β) : Sc γ β := doS f fun l => forR set body l
theorem stt_fh {O O' : Addr → Prop} {H H' : Hp} (st : Stt O O' H H') : Same (FH Z O H) (FH Z O' H') := hide_same fun a o n h => by
  have := st a o (fun z => n (.inr z)) h
  exact ⟨fun z => z.elim (fun z => n (.inl z)) this.2, this.1⟩
theorem stt_gh {O O' : Addr → Prop} {H H' : Hp} (st : Stt O O' H H') : Same (GH Z O H) (GH Z O' H') := hide_same fun a o n h => by
  have := st a o (fun z => n (.inr (.inl z))) h
  refine ⟨fun z => ?_, this.1⟩
  rcases z with z | z | z
  · exact n (.inl z)
  · exact this.2 z
  · exact n (.inr (.inr z))
theorem stt_hp {O O' : Addr → Prop} {H H' : Hp} {b : Bool} (st : Stt O O' H H') : Same (hp Z O H b) (hp Z O' H' b) := by
  unfold HL.hp
  cases b with
  | true => simpa using stt_gh st
  | false => simpa using stt_fh st
theorem un_hp {A : Nat → Addr} {r : List Slot} {σ : L2.St} {O : Addr → Prop} {H1 H H2 : Hp} {b : Bool} (j : J Z A r σ H) (st : Stt O (Ow A r) H1 H) (s2 : Same H H2) : Same (un (hp Z O H1 b) H H2) (hp Z (Ow A r) H2 b) := fun a o h => by
  rcases un_cases h with h2 | ⟨hn, h2⟩
  · have e1 := stt_hp st _ _ h2
    exact (Gr.of s2).hp _ _ e1
  · obtain ⟨h0, hS, hO⟩ := j.fresh hn
    unfold HL.hp
    cases b with
    | true =>
      show GH Z (Ow A r) H2 a = some o
      refine hide_mk ?_ h2
      rintro (z | z | z)
      · exact hS z
      · exact hO z
      · rw [h0] at z; exact z
    | false =>
      show FH Z (Ow A r) H2 a = some o
      refine hide_mk ?_ h2
      rintro (z | z)
      · exact hS z
      · exact hO z
theorem c_for {iter : Expr} {f : Ac γ (List α)} {set : γ → α → γ} {wr : Bool} {ix : List Nat} {b : Bool} {body : Sc γ β} {bs : List Stmt} (hx : XOk xj Ve) (hp : PassesOwn (model X.prog X.w) X.A X.env X.xe) (hc : X.calm = true) (hi : SI X Ve b p tg iter f) (hg : SG X Ve VL (mdB b) wr ix tg set) (hb : SB X C xj VL Ve bs body)
    (hs : ∀ x, foldedSetIterable iter X.env x = pure x := by intro _; rfl) : SS X C xj Ve Ve (.For tg iter bs [] pos) (forS f set body) :=
  ⟨fun Z W hK hio tk => (ps_for hp hc (hi.run Z W hK tk) (hg.run Z hK) (hb.run Z W hK hio tk) hs).weak fun D σ H q => by
  obtain ⟨g, A, j, q⟩ := q
  refine ⟨g, A, j, ?_⟩
  unfold forS doS at q
  cases ef : f g with
  | bad => simp only [ef] at q
  | exc x g1 =>
    simp only [ef] at q
    exact fun c H' mc j' gr => q c A σ H' mc (hx _ _ _ _ _ j')
  | ok l g1 =>
    simp only [ef] at q
    intro it H1 j1 gr sm hit
    have q0 : Fin X.mg Z W C xj Ve D (OwV A Ve) H (forR set body l g1) := q
    have q1 := q0.step gr.stt
    refine ⟨fun i n σ' H' => n = l.length - i ∧ i ≤ l.length ∧ ∃ g' A', J Z A' (at_ Ve g') σ' H' ∧ Stt (OwV A Ve) (OwV A' Ve) H1 H' ∧ Fin X.mg Z W C xj Ve D (OwV A' Ve) H' (forR set body (l.drop i) g'), ⟨l.length, rfl, Nat.zero_le _, g1, A, j1, .refl, q1⟩, ?_⟩
    rintro i n σ2 H2 ⟨rfl, hil, g2, A2, j2, st2, q2⟩
    obtain ⟨k1, k2, k3⟩ := hit (OwV A2 Ve) H2 st2 i
    rw [List.length_map] at k1 k2
    by_cases hlt : i < l.length
    · refine .inr ⟨k1 hlt, fun σ' H' => ∃ g' A', J Z A' (at_ Ve g') σ' H' ∧ Stt (OwV A Ve) (OwV A' Ve) H1 H' ∧ Fin X.mg Z W C xj Ve D (OwV A' Ve) H' (forR set body (l.drop (i + 1)) g'), fun σ' H' h => ⟨l.length - (i + 1), by omega, rfl, hlt, h⟩, fun x H3 y => ?_⟩
      have hd : l.drop i = l[i] :: l.drop (i + 1) := List.drop_eq_getElem_cons hlt
      rw [hd] at q2
      obtain ⟨s3, r3⟩ := k3 x H3 (enc l[i]) y (by rw [List.getElem?_map, List.getElem?_eq_getElem hlt]; rfl)
      have j3 := j2.same s3
      have r3 := Rp.mono (un_hp j2 (by rw [ow_at]; exact st2) s3) _ r3
      rw [ow_at] at r3
      refine ⟨g2, A2, l[i], j3, rm_hp r3, fun σ4 H4 j4 gr4 _ ow4 hσ4 => ⟨set g2 l[i], A2, j4, ?_⟩⟩
      have s4 : Stt (OwV A2 Ve) (OwV A2 VL) H2 H4 := fun x o n h => ⟨gr4 x o n (s3 _ _ h), fun z => n (ow4 x z)⟩
      have q3 : Fin X.mg Z W C xj Ve D (OwV A2 Ve) H2 (bindS body (forR set body (l.drop (i + 1))) (set g2 l[i])) := q2
      unfold bindS at q3
      cases eb : body (set g2 l[i]) with
      | bad => simp only [eb] at q3; exact q3
      | exc x g3 => simp only [eb] at q3; exact q3
      | rt b g3 => simp only [eb] at q3; exact q3
      | nx g3 =>
        simp only [eb] at q3
        intro A' σ' H' j' st'
        have s5 := s4.trans st'
        exact ⟨g3, A', j', st2.trans s5, q3.step s5⟩
    · have e : i = l.length := by omega
      refine .inl ⟨k2 (by omega), ?_⟩
      rw [e, List.drop_length] at q2
      exact q2 A2 σ2 H2 j2 .refl⟩
/-- over a list -/
theorem i_list {iter : Expr} {f : Ac γ (List α)} (h : SE X Ve m p iter f) (hm : noBo m = true := by rfl) : SI X Ve (frB m) p tg iter f := ⟨fun Z W hK tk => (pi_list (h.run Z W hK tk)).weak fun σ H R q => by
  obtain ⟨g, A, j, q⟩ := q
  refine ⟨g, A, j, ?_⟩
  cases ef : f g with
  | bad => simp only [ef] at q
  | exc x g1 => simp only [ef] at q; exact q
  | ok l g1 =>
    simp only [ef] at q
    intro v H1 j1 gr sm rv
    have rv' := rm_frB hm rv
    obtain ⟨a, vs, rfl, e2, e3⟩ := rp_list rv'
    have e1 : H1 a = some (.lst vs) := hp_le _ _ e2
    refine ⟨a, rfl, ⟨vs, seqL e1⟩, q _ H1 j1 gr sm fun O' H2 st i => ?_⟩
    have e4 := stt_hp st _ _ e2
    have e5 : H2 a = some (.lst vs) := hp_le _ _ e4
    have el := e3.length
    refine ⟨fun hi => ?_, fun hi => ⟨vs, seqL e5, by omega⟩, fun x H3 d y hd => ?_⟩
    · obtain ⟨d, hd⟩ : ∃ d, (l.map enc)[i]? = some d := ⟨_, List.getElem?_eq_getElem hi⟩
      obtain ⟨v, hv, _⟩ := e3.get hd
      exact ⟨vs, v, seqL e5, hv⟩
    · obtain ⟨rfl, y⟩ := y
      obtain ⟨v, hv, rv⟩ := e3.get hd
      have := y vs (seqL e5)
      rw [hv] at this
      cases this
      exact ⟨Same.refl _, Rp.mono un_le _ rv⟩⟩
def rangeL (lo : Int) (n : Nat) : List Int := (List.range n).map fun i => lo + (i : Nat)
theorem rangeL_get {lo : Int} {n i : Nat} (h : i < n) : (rangeL lo n)[i]? = some (lo + (i : Nat)) := by
  unfold rangeL
  rw [List.getElem?_map, List.getElem?_range h]
  rfl
@[irreducible] def rng1 (n : Int) : Option (List Int) := if -(2 ^ 62) ≤ n ∧ n < 2 ^ 62 then some (rangeL 0 n.toNat) else none
@[irreducible] def rng2 (lo hi : Int) : Option (List Int) := if (-(2 ^ 62) ≤ lo ∧ lo < 2 ^ 62) ∧ -(2 ^ 62) ≤ hi ∧ hi < 2 ^ 62 then some (rangeL lo (hi - lo).toNat) else none
theorem it_rng {O : Addr → Prop} {H : Hp} {lo : Int} {n : Nat} : ItOk Z true O H (Itr lo n) ((rangeL lo n).map enc) := fun O' H' st i => by
  have hl : ((rangeL lo n).map enc).length = n := by simp [rangeL]
  rw [hl]
  refine ⟨fun h => h, fun h => h, fun x H2 d y hd => ?_⟩
  obtain ⟨rfl, rfl⟩ := y
  have hi : i < n := by
    have := (List.getElem?_eq_some_iff.mp hd).1
    omega
  rw [List.getElem?_map, rangeL_get hi] at hd
  cases hd
  exact ⟨Same.refl _, .int _⟩
theorem i_rng1 {f : Ac γ Int} {a : Expr} {p0 pos : Pos} (hm : X.mg "range" = none) (h : SE X Ve m p a f) (hg : Gl X "range" := by rfl) (hs : starEach [a] X.env = [(false, eval a X.env)] := by rfl) : SI X Ve true p tg (.Call (.Name "range" p0) [a] [] pos) (op1 rng1 f) :=
  ⟨fun Z W hK tk => (pi_range1 hg hm (pa_cons (h.run Z W hK tk) pa_nil hs) hs).weak fun σ H R q => by
  obtain ⟨g, A, j, q⟩ := q
  refine ⟨g, A, j, ?_⟩
  unfold op1 bindA optA at q
  cases ef : f g with
  | bad => simp only [ef] at q
  | exc x g1 => simp only [ef] at q; exact q
  | ok n g1 =>
    simp only [ef] at q
    intro v H1 j1 gr sm rv
    cases rp_int rv.full
    unfold rng1 at q
    by_cases hn : -(2 ^ 62) ≤ n ∧ n < 2 ^ 62
    · rw [if_pos hn] at q
      exact ⟨n, rfl, hn.1, hn.2, q _ H1 j1 gr sm it_rng⟩
    · rw [if_neg hn] at q
      exact q.elim⟩
end
end HL
/-! Fh: the script, comprehensions, what is raised. -/
namespace HL
open PySem PySem.Spec PyProof.Rows L2

/-! ### the script -/
section
variable {X : Cx} {γ : Type} {Ve : Ev γ} {p p2 p3 : Bool} {e : Expr} {pos pos2 : Pos} {lo hi : Option Expr}
def scrOp {γ δ : Type} (x : γ → List Int) (k : List Int → Option δ) : Ac γ δ := fun g => match k (x g) with
  | some d => .ok d g
  | none => .bad
theorem tV_scr {Z : Fix} {A : Nat → Addr} {g : γ} {σ : L2.St} {H : Hp} {i : Nat} {x : γ → List Int} (j : J Z A (at_ Ve g) σ H) (hi : Ve[i]? = some (.scr x)) : ∃ a, σ[i]? = some (some (.ref a)) ∧ SqL Z.K H a ((x g).map V.int) := by
  have hr : (at_ Ve g)[i]? = some (.scr (x g)) := by rw [at_get, hi]; rfl
  obtain ⟨a, e1, e2⟩ := j.scr i _ hr
  exact ⟨a, e1, sqL_same fh_le e2⟩
theorem s_lenS (i : Nat) (x : γ → List Int) {n : Str} {p0 p1 : Pos} (hx : X.mg "len" = none) (hi : Ve[i]? = some (.scr x) := by rfl) (hN : X.N[i]? = some n := by rfl)
    (hv : Vis X.env.scope n := by first | exact Or.inl rfl | exact Or.inr (Or.inl rfl) | exact Or.inr (Or.inr rfl)) (hd : (n == ("__debug__" : Str)) = false := by decide) (hcd : (n == ("__classdict__" : Str)) = false := by decide) (hg : Gl X "len" := by rfl)
    (he : starEach (.Name n p1 :: []) X.env = (false, eval (.Name n p1) X.env) :: starEach [] X.env := by rfl) (hpl : (backTo pos (starEach [] X.env)).any (·.1) = false := by rfl) :
    SE X Ve .fr true (.Call (.Name "len" p0) [.Name n p1] [] pos) (pureA fun g => ((x g).length : Int)) := ⟨fun Z W hK tk => (pe_callB call_len_seq hg hx PySem.boot_len (pa_cons (pe_var hN hv hd hcd) pa_nil he) (by decide) (by decide) he hpl).weak fun σ H Q q => by
  obtain ⟨g, A, j, q⟩ := q
  obtain ⟨a, e1, e2⟩ := tV_scr j hi
  refine ⟨_, e1, a, _, rfl, .inl (hK ▸ e2), ?_⟩
  rw [List.length_map]
  exact q _ H j (.refl H) (fun _ => Same.refl H) (.int _)⟩
theorem s_ixS (i : Nat) (x : γ → List Int) {f : Ac γ Int} {n : Str} {b : Expr} {p1 : Pos} (hb : SE X Ve .fr p b f) (hi : Ve[i]? = some (.scr x) := by rfl) (hN : X.N[i]? = some n := by rfl)
    (hv : Vis X.env.scope n := by first | exact Or.inl rfl | exact Or.inr (Or.inl rfl) | exact Or.inr (Or.inr rfl)) (hd : (n == ("__debug__" : Str)) = false := by decide) (hcd : (n == ("__classdict__" : Str)) = false := by decide) (hs : PlainIx b := by exact fun _ _ => rfl) :
    SE X Ve .fr p (.Subscript (.Name n p1) b pos) (bindA f fun k => scrOp x fun l => atI l k) := ⟨fun Z W hK tk => (pe_ix (r := rIxL X.K) ix_list (pe_var hN hv hd hcd) (hb.run Z W hK tk) hs).weak fun σ H Q q => by
  obtain ⟨g, A, j, q⟩ := q
  obtain ⟨a, e1, _⟩ := tV_scr j hi
  refine ⟨_, e1, g, A, j, ?_⟩
  unfold bindA at q
  cases ef : f g with
  | bad => simp only [ef] at q
  | exc x g1 => simp only [ef] at q; exact q
  | ok k g1 =>
    simp only [ef] at q
    intro v H1 j1 gr sm rv
    cases rp_int rv.full
    obtain ⟨a', e1', e2⟩ := tV_scr j1 hi
    rw [e1] at e1'
    cases e1'
    unfold scrOp at q
    cases ea : atI (x g1) k with
    | none => simp only [ea] at q
    | some d =>
      simp only [ea] at q
      exact ⟨a, _, k, .int d, rfl, rfl, hK ▸ e2, by rw [atI_map, ea]; rfl, q _ H1 j1 gr sm (.int d)⟩⟩
theorem s_slS (i : Nat) (x : γ → List Int) {l h : Ac γ (Option Int)} {n : Str} {p1 : Pos} (hl : SO X Ve p lo l) (hh : SO X Ve p2 hi h) (hi' : Ve[i]? = some (.scr x) := by rfl) (hN : X.N[i]? = some n := by rfl)
    (hv : Vis X.env.scope n := by first | exact Or.inl rfl | exact Or.inr (Or.inl rfl) | exact Or.inr (Or.inr rfl)) (hd : (n == ("__debug__" : Str)) = false := by decide) (hcd : (n == ("__classdict__" : Str)) = false := by decide) :
    SN X Ve (p && p2) (.Subscript (.Name n p1) (.Slice lo hi none pos2) pos) (bindA l fun a => bindA h fun b => pureA fun g => cut a b (x g)) := ⟨fun Z W hK tk => (pe_slice sl_list (pe_var hN hv hd hcd) (hl.run Z W hK tk) (hh.run Z W hK tk)).weak fun σ H Q q => by
  obtain ⟨g, A, j, q⟩ := q
  obtain ⟨a, e1, _⟩ := tV_scr j hi'
  refine ⟨_, e1, g, A, j, ?_⟩
  unfold bindA at q
  cases el : l g with
  | bad => simp only [el] at q
  | exc x g1 => simp only [el] at q; exact q
  | ok lo' g1 =>
    simp only [el] at q
    intro H1 j1 gr1 sm1
    refine ⟨g1, A, j1, ?_⟩
    cases eh : h g1 with
    | bad => simp only [eh] at q
    | exc x g2 =>
      simp only [eh] at q
      exact fun c H2 mc j2 gr2 => q c H2 mc j2 (gr1.trans gr2)
    | ok hi'' g2 =>
      simp only [eh] at q
      intro H2 j2 gr2 sm2
      obtain ⟨a', e1', e2⟩ := tV_scr j2 hi'
      rw [e1] at e1'
      cases e1'
      refine ⟨a, _, rfl, hK ▸ e2, fun n hn => q n _ H2 hn j2 (gr1.trans gr2) (fun z => (sm1 (Bool.and_eq_true_iff.mp z).1).trans (sm2 (Bool.and_eq_true_iff.mp z).2)) ?_⟩
      have : ∀ {ns : List Int}, RpA Z.K (GH Z (OwV A Ve) H2) (ns.map V.int) (ns.map enc) := by
        intro ns
        induction ns with
        | nil => exact .nil
        | cons n ns ih => exact .cons (.int n) ih
      have e : cutV (List.map V.int (x g2)) lo' hi'' = (cut lo' hi'' (x g2)).map V.int := cut_map V.int lo' hi'' (x g2)
      rw [e]
      exact this⟩
end

/-! ### what is raised -/
def raiseS {γ β : Type} (x : Str) : Sc γ β := fun g => .exc x g
section
variable {X : Cx} {γ β : Type} {C : FC γ β} {xj : XJ γ} {Ve Ve' : Ev γ}
theorem c_raise {Ca : Addr} {x m : Str} {jj : Nat} {p p2 pos pos2 : Pos} (hx : XOk xj Ve) (hc : X.calm = true) (q : PySem.W.excIn X.K Ca [.type "ValueError", .type "Exception", .type "BaseException", .type "object"] "ValueError.__new__" = true) (gC : X.mg x = some (.ref Ca)) (kC : PySem.W.keepIn X.K (.ref Ca) = true)
    (h1 : PySem.W.subIn X.K (.ref Ca) (.type "BaseException") = some true) (h2 : PySem.W.typeIn X.K (.ref Ca) = some (.type "type")) (hg : Gl X x := by rfl) (hdb : (x == ("__debug__" : Str)) = false := by decide) :
    SS X C xj Ve Ve' (.Raise (some (.Call (.Name x p) [.Constant (.str m) jj p2] [] pos)) none pos2) (raiseS x) := ⟨fun Z W hK hio tk => (ps_raise hc tk (pmk_own PySem.F.excBase_ValueError q gC kC (raises_own h1 h2) hg hdb)).weak fun D σ H q => by
  obtain ⟨g, A, j, q⟩ := q
  exact q _ A σ H gC (hx _ _ _ _ _ j)⟩
end

/-! ### comprehensions -/
def Fix.hid (Z : Fix) (D : Addr) : Fix := { Z with S := fun a => Z.S a ∨ a = D }
noncomputable def wo (D : Addr) (H : Hp) : Hp := fun x => open Classical in if x = D then none else H x
theorem wo_at {D : Addr} {H : Hp} : wo D H D = none := by unfold wo; rw [if_pos rfl]
theorem wo_ne {D x : Addr} {H : Hp} (h : x ≠ D) : wo D H x = H x := by unfold wo; rw [if_neg h]
theorem wo_upd {D : Addr} {H : Hp} {vs : List L2.V} (h : H D = some (.lst vs)) : upd (wo D H) D (.lst vs) = H := by
  funext x
  by_cases e : x = D
  · rw [e, upd_same, h]
  · rw [upd_ne e, wo_ne e]
theorem wo_upd2 {D : Addr} {H : Hp} {o : HO} : upd (wo D H) D o = upd H D o := by
  funext x
  by_cases e : x = D
  · rw [e, upd_same, upd_same]
  · rw [upd_ne e, upd_ne e, wo_ne e]
theorem wo_same {D : Addr} {H H' : Hp} (h : H D = none) (s : Same H H') : Same H (wo D H') := fun x o e => by
  rw [wo_ne (fun z => by rw [z, h] at e; cases e)]
  exact s x o e
section
variable {Z : Fix} {A : Nat → Addr} {r : List Slot} {σ : L2.St} {H : Hp} {D : Addr}
theorem fh_hid {O : Addr → Prop} : FH (Z.hid D) O H = FH Z O (wo D H) := by
  funext x
  apply Option.ext
  intro o
  show hide _ H x = some o ↔ hide _ (wo D H) x = some o
  rw [hide_some, hide_some]
  by_cases e : x = D
  · subst e
    rw [wo_at]
    refine ⟨fun ⟨n, _⟩ => absurd (.inl (.inr rfl)) n, fun ⟨_, z⟩ => by cases z⟩
  · rw [wo_ne e]
    refine ⟨fun ⟨n, h⟩ => ⟨fun z => n (z.elim (fun z => .inl (.inl z)) .inr), h⟩, fun ⟨n, h⟩ => ⟨fun z => n ?_, h⟩⟩
    rcases z with (z | z) | z
    · exact .inl z
    · exact absurd z e
    · exact .inr z
theorem gh_hid {O : Addr → Prop} : GH (Z.hid D) O H = GH Z O (wo D H) := by
  funext x
  apply Option.ext
  intro o
  show hide _ H x = some o ↔ hide _ (wo D H) x = some o
  rw [hide_some, hide_some]
  by_cases e : x = D
  · subst e
    rw [wo_at]
    refine ⟨fun ⟨n, _⟩ => absurd (.inl (.inr rfl)) n, fun ⟨_, z⟩ => by cases z⟩
  · rw [wo_ne e]
    refine ⟨fun ⟨n, h⟩ => ⟨fun z => n (z.elim (fun z => .inl (.inl z)) .inr), h⟩, fun ⟨n, h⟩ => ⟨fun z => n ?_, h⟩⟩
    rcases z with (z | z) | z
    · exact .inl z
    · exact absurd z e
    · exact .inr z
theorem hp_hid {O : Addr → Prop} {b : Bool} : hp (Z.hid D) O H b = hp Z O (wo D H) b := by
  unfold hp
  rw [fh_hid, gh_hid]
theorem J.inD (j : J Z A r σ H) {vs : List L2.V} (hD : H D = none) : J (Z.hid D) A r σ (upd H D (.lst vs)) := by
  have e : wo D (upd H D (.lst vs)) = H := by
    funext x
    by_cases e : x = D
    · rw [e, wo_at, hD]
    · rw [wo_ne e, upd_ne e]
  have f := j.fresh hD
  have noto : ∀ {i : Nat} {ds : Ob}, r[i]? = some (.own ds) → A i ≠ D := fun {i ds} h z => f.2.2 ⟨i, ds, h, z⟩
  refine ⟨fun i fr d h => ?_, fun i ds h => ?_, fun i ns h => ?_, j.raw, fun i t h => ?_, j.inj, fun i ds h => ?_, fun a z => ?_, fun a o h n => ?_, j.newo, j.ioo, j.len⟩
  · rw [hp_hid, e]
    exact j.imm i fr d h
  · rw [gh_hid, e]
    obtain ⟨e1, e2⟩ := j.own i ds h
    exact ⟨e1, by rw [upd_ne (noto h)]; exact e2⟩
  · rw [fh_hid, e]
    exact j.scr i ns h
  · rw [gh_hid, e]
    exact j.pk i t h
  · rintro (z | z)
    · exact j.notS i ds h z
    · exact noto h z
  · rcases z with z | z
    · rw [upd_ne (fun q => f.2.1 (by rw [← q]; exact z))]
      exact j.smut a z
    · rw [z, upd_same]
      trivial
  · have h' : Z.H0 a = some o := h
    rw [upd_ne (fun q => by rw [q, f.1] at h'; cases h')]
    exact j.base a o h n
theorem J.outD (j : J (Z.hid D) A r σ H) (h0 : Z.H0 D = none) (hS : ¬ Z.S D) : J Z A r σ (wo D H) := by
  have noto : ∀ {i : Nat} {ds : Ob}, r[i]? = some (.own ds) → A i ≠ D := fun {i ds} h z => j.notS i ds h (.inr z)
  refine ⟨fun i fr d h => ?_, fun i ds h => ?_, fun i ns h => ?_, j.raw, fun i t h => ?_, j.inj, fun i ds h z => j.notS i ds h (.inl z), fun a z => ?_, fun a o h n => ?_, j.newo, j.ioo, j.len⟩
  · have := j.imm i fr d h
    rw [hp_hid] at this
    exact this
  · obtain ⟨e1, e2⟩ := j.own i ds h
    rw [gh_hid] at e2
    exact ⟨e1, by rw [wo_ne (noto h)]; exact e2⟩
  · have := j.scr i ns h
    rw [fh_hid] at this
    exact this
  · have := j.pk i t h
    rw [gh_hid] at this
    exact this
  · rw [wo_ne (fun q => hS (by rw [← q]; exact z))]
    exact j.smut a (.inl z)
  · rw [wo_ne (fun q => by rw [q, h0] at h; cases h)]
    exact j.base a o h n
/-- slots of which nothing is known may hold anything -/
theorem J.sig (j : J Z A r σ H) {σ' : L2.St} (hl : σ'.length = σ.length) (h : ∀ (i : Nat) s, r[i]? = some s → s ≠ .no → σ'[i]? = σ[i]?) : J Z A r σ' H :=
  ⟨fun i fr d e => by rw [h i _ e (fun z => by cases z)]; exact j.imm i fr d e, fun i ds e => by rw [h i _ e (fun z => by cases z)]; exact j.own i ds e, fun i ns e => by rw [h i _ e (fun z => by cases z)]; exact j.scr i ns e, fun i v e => by rw [h i _ e (fun z => by cases z)]; exact j.raw i v e, fun i q e => by rw [h i _ e (fun z => by cases z)]; exact j.pk i q e, j.inj, j.notS, j.smut, j.base, j.newo, j.ioo, by rw [hl]; exact j.len⟩
end
theorem wipe_get {σ : L2.St} {i : Nat} : ∀ {vs : List Nat}, (wipe σ vs)[i]? = if i ∈ vs then (if i < σ.length then some none else none) else σ[i]?
  | [] => by simp [wipe]
  | v :: vs => by
    unfold wipe
    rw [List.getElem?_set, wipe_length, wipe_get (vs := vs)]
    by_cases e : v = i
    · subst e
      simp
    · rw [if_neg e]
      by_cases m : i ∈ vs
      · simp [m]
      · simp [m, Ne.symm e]
def compR {γ α δ : Type} (set : γ → α → γ) (c : Ac γ Bool) (e : Ac γ δ) : List α → γ → Res γ (List δ)
  | [], g => .ok [] g
  | a :: l, g => match c (set g a) with
    | .ok true g1 => match e g1 with
      | .ok d g2 => match compR set c e l g2 with
        | .ok ds g3 => .ok (d :: ds) g3
        | .exc _ _ => .bad
        | .bad => .bad
      | .exc _ _ => .bad
      | .bad => .bad
    | .ok false g1 => compR set c e l g1
    | .exc _ _ => .bad
    | .bad => .bad
def compA {γ α δ : Type} (f : Ac γ (List α)) (set : γ → α → γ) (c : Ac γ Bool) (e : Ac γ δ) : Ac γ (List δ) := bindA f fun l g => if l.length ≤ LIM then compR set c e l g else .bad
def yesA {γ : Type} : Ac γ Bool := pureA fun _ => true
/-- the tests of a comprehension -/
structure STs (X : Cx) {γ : Type} (Ve : Ev γ) (p : Bool) (es : List Expr) (f : Ac γ Bool) : Prop where
  run : ∀ (Z : Fix) (W : WX), Z.K = X.K → Takes X W → PTs X es (tT X.mg Z W Ve p f)
section
variable {X : Cx} {γ : Type} {Ve : Ev γ} {p : Bool} {c : Expr} {f : Ac γ Bool}
theorem ts_nil : STs X Ve true [] yesA := ⟨fun Z W hK tk => ⟨fun pins s σ H Q I q => pts_nil.run pins s σ H Q I (by
  obtain ⟨g, A, j, q⟩ := q
  exact q H j (.refl H) fun _ => Same.refl H)⟩⟩
theorem ts_one (h : ST X Ve p c f) : STs X Ve p [c] f := ⟨fun Z W hK tk => pts_one (h.run Z W hK tk)⟩
end
abbrev W0 : WX := fun _ _ _ _ => False
section
variable {X : Cx} {γ α δ : Type} [Enc α] [Enc δ] {Ve VT : Ev γ} {b : Bool} {p p2 p3 : Bool} {elt tg iter : Expr} {ifs : List Expr} {scope : Scope} {own : List (Str × Nat)} {pos : Pos} {mg : Str → Option Value} {Z : Fix} {W : WX}
/-- what is wanted of a comprehension's rest -/
def CFin (mg : Str → Option Value) (Z : Fix) (A : Nat → Addr) (Ve : Ev γ) (σ : L2.St) (H : Hp) (p : Bool) (Q : VK) (acc : List δ) (r : Res γ (List δ)) : Prop :=
  match r with
  | .ok ds g' => ∀ q vs H', H' q = none → J Z A (at_ Ve g') σ H' → Gr (OwV A Ve) H H' → (p = true → Same H H') → RpA Z.K (GH Z (OwV A Ve) H') vs ((acc ++ ds).map enc) → Q (.ref q) (upd H' q (.lst vs))
  | _ => False
/-- slots forgotten -/
def noAt (V : Ev γ) : List Nat → Ev γ
  | [] => V
  | v :: vs => (noAt V vs).set v .no
theorem noAt_len {V : Ev γ} : ∀ {vs : List Nat}, (noAt V vs).length = V.length
  | [] => rfl
  | v :: vs => by unfold noAt; rw [List.length_set, noAt_len (vs := vs)]
theorem noAt_get {V : Ev γ} {i : Nat} : ∀ {vs : List Nat}, (noAt V vs)[i]? = if i ∈ vs then (if i < V.length then some .no else none) else V[i]?
  | [] => by simp [noAt]
  | v :: vs => by
    unfold noAt
    rw [List.getElem?_set, noAt_len, noAt_get (vs := vs)]
    by_cases e : v = i
    · subst e
      simp
    · rw [if_neg e]
      by_cases m : i ∈ vs
      · simp [m]
      · simp [m, Ne.symm e]
theorem ow_noAt {A : Nat → Addr} {V : Ev γ} {vs : List Nat} (h : noOwn V vs = true) : OwV A (noAt V vs) = OwV A V := by
  funext a
  refine propext ⟨fun ⟨i, ds, e, z⟩ => ⟨i, ds, ?_, z⟩, fun ⟨i, ds, e, z⟩ => ⟨i, ds, ?_, z⟩⟩
  · rw [noAt_get] at e
    by_cases m : i ∈ vs
    · rw [if_pos m] at e
      split at e <;> cases e
    · rw [if_neg m] at e; exact e
  · rw [noAt_get, if_neg (fun m => noOwn_get h m e)]
    exact e
theorem J.noAt {A : Nat → Addr} {V : Ev γ} {vs : List Nat} {g : γ} {σ : L2.St} {H : Hp} (j : J Z A (at_ V g) σ H) (h : noOwn V vs = true) : J Z A (at_ (noAt V vs) g) σ H := by
  have ow : Ow A (at_ (HL.noAt V vs) g) = Ow A (at_ V g) := by rw [ow_at, ow_at, ow_noAt h]
  have get : ∀ {i : Nat} {s : Slot}, (at_ (HL.noAt V vs) g)[i]? = some s → s ≠ .no → (at_ V g)[i]? = some s := fun {i s} e ns => by
    rw [at_get, noAt_get] at e
    rw [at_get]
    by_cases m : i ∈ vs
    · rw [if_pos m] at e
      split at e
      · exact absurd (Option.some.inj e).symm ns
      · cases e
    · rw [if_neg m] at e; exact e
  have put : ∀ {i : Nat} {ds : Ob}, (at_ V g)[i]? = some (.own ds) → (at_ (HL.noAt V vs) g)[i]? = some (.own ds) := fun {i ds} e => by
    rw [at_get] at e
    rw [at_get, noAt_get, if_neg]
    · exact e
    · intro m
      cases q : V[i]? with
      | none => rw [q] at e; cases e
      | some s =>
        rw [q] at e
        cases s with
        | own f => exact noOwn_get h m q
        | no => cases e
        | imm fr d => cases e
        | scr ns => cases e
        | raw v => cases e
        | pk q => cases e
  refine ⟨fun i fr d e => ?_, fun i ds e => ?_, fun i ns e => ?_, fun i v e => j.raw i v (get e (fun z => by cases z)), fun i q e => by rw [ow]; exact j.pk i q (get e (fun z => by cases z)), fun i k ds es e1 e2 => j.inj i k ds es (get e1 (fun z => by cases z)) (get e2 (fun z => by cases z)), fun i ds e => j.notS i ds (get e (fun z => by cases z)), j.smut, j.base, fun i ds e => j.newo i ds (get e (fun z => by cases z)), fun i a e => ?_, ?_⟩
  · rw [ow]; exact j.imm i fr d (get e (fun z => by cases z))
  · rw [ow]; exact j.own i ds (get e (fun z => by cases z))
  · rw [ow]; exact j.scr i ns (get e (fun z => by cases z))
  · obtain ⟨e1, ds, e2⟩ := j.ioo i a e
    exact ⟨e1, ds, put e2⟩
  · have := j.len
    rw [← this]
    simp [at_, noAt_len]
theorem tLc_ok {f : Ac γ (List α)} {set : γ → α → γ} {c : Ac γ Bool} {e : Ac γ δ} {wi : TI} {tg' : TG} {tt : TT} {te : TE} {ix : List Nat} {vs : List Nat} (hVT : noAt VT vs = Ve) (hnow : noOwn VT vs = true) (hix : ∀ i ∈ ix, i ∈ vs)
    (hwi : ∀ σ H R, tI mg Z W Ve b p f σ H R → wi σ H R) (hg : ∀ D v σ H Q, tG (Z.hid D) Ve VT (mdB b) false ix set v σ H Q → tg' v σ H Q) (ht : ∀ D σ H Q, tT mg (Z.hid D) W0 VT p2 c σ H Q → tt σ H Q) (he : ∀ D σ H Q, tE mg (Z.hid D) W0 VT .fr p3 e σ H Q → te σ H Q)
    {σ : L2.St} {H : Hp} {Q : VK} (q : tN mg Z W Ve (p && (p2 && p3)) (compA f set c e) σ H Q) : tLc wi tg' tt te vs σ H Q := by
  obtain ⟨g, A, j, q⟩ := q
  refine hwi _ _ _ ⟨g, A, j, ?_⟩
  unfold compA bindA at q
  cases ef : f g with
  | bad => simp only [ef] at q
  | exc x g1 => simp only [ef] at q; exact q
  | ok l g1 =>
    simp only [ef] at q
    by_cases hlim : l.length ≤ LIM
    · rw [if_pos hlim] at q
      intro it H1 j1 gr1 sm1 hit D hD
      obtain ⟨D0, DS, DO⟩ := j1.fresh hD
      have q1 : CFin mg Z A Ve σ H (p && (p2 && p3)) Q [] (compR set c e l g1) := by
        unfold CFin
        cases er : compR set c e l g1 with
        | bad => rw [er] at q; exact q
        | exc x g2 =>
          -- a comprehension gives no exception
          exfalso
          clear q
          have : ∀ (l : List α) (g : γ), ∀ x g2, compR set c e l g ≠ .exc x g2 := by
            intro l
            induction l with
            | nil => intro g x g2 z; cases z
            | cons a l ih =>
              intro g x g2 z
              unfold compR at z
              split at z
              · split at z
                · split at z <;> cases z
                · cases z
                · cases z
              · exact ih _ _ _ z
              · cases z
              · cases z
          exact this l g1 x g2 er
        | ok ds g2 => rw [er] at q; simpa using q
      -- the state within
      have jw : ∀ {g : γ} {H' : Hp}, J Z A (at_ Ve g) σ H' → J Z A (at_ Ve g) (wipe σ vs) H' := fun {g H'} j => j.sig (wipe_length σ vs) fun i s h ns => by
        rw [wipe_get, if_neg]
        intro hi
        rw [at_get, ← hVT, noAt_get, if_pos hi] at h
        split at h
        · exact ns (Option.some.inj h).symm
        · cases h
      have jb : ∀ {g : γ} {H' : Hp}, J Z A (at_ Ve g) (wipe σ vs) H' → J Z A (at_ Ve g) σ H' := fun {g H'} j => j.sig (wipe_length σ vs).symm fun i s h ns => by
        rw [wipe_get, if_neg]
        intro hi
        rw [at_get, ← hVT, noAt_get, if_pos hi] at h
        split at h
        · exact ns (Option.some.inj h).symm
        · cases h
      refine ⟨fun i n H' => n = l.length - i ∧ i ≤ l.length ∧ ∃ g' acc us Hm, H' = upd Hm D (.lst us) ∧ Hm D = none ∧ J Z A (at_ Ve g') (wipe σ vs) Hm ∧ Gr (OwV A Ve) H1 Hm ∧ ((p && (p2 && p3)) = true → Same H1 Hm) ∧ acc.length ≤ i ∧ RpA Z.K (GH Z (OwV A Ve) Hm) us (acc.map enc) ∧ CFin mg Z A Ve σ H (p && (p2 && p3)) Q acc (compR set c e (l.drop i) g'),
        ⟨l.length, rfl, Nat.zero_le _, g1, [], [], H1, rfl, hD, jw j1, .refl _, fun _ => Same.refl _, Nat.zero_le _, .nil, q1⟩, ?_⟩
      rintro i n H2 ⟨rfl, hil, g2, acc, us, Hm, rfl, hDm, jm, grm, smm, hacc, racc, qm⟩
      have stm : Stt (OwV A Ve) (OwV A Ve) H1 (upd Hm D (.lst us)) := fun x o n h => ⟨same_new hDm _ _ (grm x o n h), n⟩
      obtain ⟨k1, k2, k3⟩ := hit (OwV A Ve) _ stm i
      rw [List.length_map] at k1 k2
      by_cases hlt : i < l.length
      · have hd : l.drop i = l[i] :: l.drop (i + 1) := List.drop_eq_getElem_cons hlt
        rw [hd] at qm
        refine .inr ⟨k1 hlt, fun H' => ∃ g' acc us Hm, H' = upd Hm D (.lst us) ∧ Hm D = none ∧ J Z A (at_ Ve g') (wipe σ vs) Hm ∧ Gr (OwV A Ve) H1 Hm ∧ ((p && (p2 && p3)) = true → Same H1 Hm) ∧ acc.length ≤ i + 1 ∧ RpA Z.K (GH Z (OwV A Ve) Hm) us (acc.map enc) ∧ CFin mg Z A Ve σ H (p && (p2 && p3)) Q acc (compR set c e (l.drop (i + 1)) g'), fun H' h => ⟨l.length - (i + 1), by omega, rfl, hlt, h⟩, fun x H3 y => ?_⟩
        obtain ⟨s3, r3⟩ := k3 x H3 (enc l[i]) y (by rw [List.getElem?_map, List.getElem?_eq_getElem hlt]; rfl)
        have D3 : H3 D = some (.lst us) := s3 _ _ upd_same
        -- the item, known without the list that grows
        have r3' : Rp Z.K (hp (Z.hid D) (OwV A Ve) H3 b) x (enc l[i]) := by
          rw [hp_hid]
          refine Rp.mono (fun a o h => ?_) _ r3
          rcases un_cases h with h2 | ⟨hn, h2⟩
          · have ne : a ≠ D := fun z => by
              have := hp_le _ _ h2
              rw [z, hD] at this
              cases this
            have e1 := (Gr.hp (Z := Z) grm (fr := b)) _ _ h2
            have e2 : Same Hm (wo D H3) := wo_same hDm ((same_new hDm).trans s3)
            exact (Gr.of e2).hp _ _ e1
          · have ne : a ≠ D := fun z => by rw [z, upd_same] at hn; cases hn
            rw [upd_ne ne] at hn
            obtain ⟨h0, hS, hO⟩ := jm.fresh hn
            rw [ow_at] at hO
            have h3 : wo D H3 a = some o := by rw [wo_ne ne]; exact h2
            unfold hp
            cases b with
            | true =>
              show GH Z (OwV A Ve) (wo D H3) a = some o
              refine hide_mk ?_ h3
              rintro (z | z | z)
              · exact hS z
              · exact hO z
              · rw [h0] at z; exact z
            | false =>
              show FH Z (OwV A Ve) (wo D H3) a = some o
              refine hide_mk ?_ h3
              rintro (z | z)
              · exact hS z
              · exact hO z
        have j3 : J (Z.hid D) A (at_ Ve g2) (wipe σ vs) H3 := (jm.inD (vs := us) hDm).same s3
        refine hg D x (wipe σ vs) H3 _ ⟨g2, A, l[i], j3, rm_hp r3', fun σ4 H4 j4 gr4 sm4 ow4 hσ4 => ?_⟩
        have l4 : σ4.length = σ.length := by
          have a1 := j4.len
          have a2 := j3.len
          rw [wipe_length] at a2
          have a3 : VT.length = Ve.length := by rw [← hVT, noAt_len]
          simp only [at_, List.length_map] at a1 a2
          omega
        have w4 : wipe σ4 vs = wipe σ vs := by
          apply List.ext_getElem?
          intro k
          rw [wipe_get, wipe_get, l4]
          by_cases m : k ∈ vs
          · rw [if_pos m, if_pos m]
          · rw [if_neg m, if_neg m, hσ4 k (fun z => m (hix k z)), wipe_get, if_neg m]
        have owT : OwV A VT = OwV A Ve := by rw [← hVT, ow_noAt hnow]
        -- back from within
        have back : ∀ {g : γ} {H' : Hp}, J (Z.hid D) A (at_ VT g) σ4 H' → J Z A (at_ Ve g) (wipe σ vs) (wo D H') := fun {g H'} j' => by
          have k1 := (j'.noAt hnow).outD D0 DS
          rw [hVT] at k1
          refine k1.sig (by rw [wipe_length, l4]) fun k s hk ns => ?_
          rw [at_get, ← hVT, noAt_get] at hk
          by_cases m : k ∈ vs
          · rw [if_pos m] at hk
            split at hk
            · exact absurd (Option.some.inj hk).symm ns
            · cases hk
          · rw [← w4, wipe_get, if_neg m]
        refine ⟨w4, ht D σ4 H4 _ ⟨set g2 l[i], A, j4, ?_⟩⟩
        unfold compR at qm
        cases ec : c (set g2 l[i]) with
        | bad => simp only [ec] at qm; exact qm
        | exc x g3 => simp only [ec] at qm; exact qm.elim
        | ok bb g3 =>
          intro H5 j5 gr5 sm5
          have DnO : ¬ OwV A Ve D := by
            rw [ow_at] at DO
            exact DO
          have D4 : H4 D = some (.lst us) := gr4 D _ DnO D3
          have D5 : H5 D = some (.lst us) := gr5 D _ (by rw [owT]; exact DnO) D4
          have g15 : Gr (OwV A Ve) H1 (wo D H5) := fun x o n h => by
            have ne : x ≠ D := fun z => by rw [z, hD] at h; cases h
            rw [wo_ne ne]
            have e1 := grm x o n h
            have e2 := s3 x o (by rw [upd_ne ne]; exact e1)
            exact gr5 x o (by rw [owT]; exact n) (gr4 x o n e2)
          have s15 : (p && (p2 && p3)) = true → Same H1 (wo D H5) := fun z => wo_same hD (((smm z).trans (same_new hDm)).trans ((s3.trans (sm4 rfl)).trans (sm5 (Bool.and_eq_true_iff.mp (Bool.and_eq_true_iff.mp z).2).1)))
          have g5 : Gr (OwV A Ve) Hm (wo D H5) := fun x o n h => by
            have ne : x ≠ D := fun z => by rw [z, hDm] at h; cases h
            rw [wo_ne ne]
            have e2 := s3 x o (by rw [upd_ne ne]; exact h)
            exact gr5 x o (by rw [owT]; exact n) (gr4 x o n e2)
          cases bb with
          | false =>
            simp only [ec] at qm
            simp only [Bool.false_eq_true, if_false]
            exact ⟨g3, acc, us, wo D H5, (wo_upd D5).symm, wo_at, back j5, g15, s15, by omega, RpA.mono g5.gh _ racc, qm⟩
          | true =>
            simp only [ec] at qm
            simp only [if_true]
            refine he D σ4 H5 _ ⟨g3, A, j5, ?_⟩
            cases ee : e g3 with
            | bad => simp only [ee] at qm; exact qm
            | exc x g4 => simp only [ee] at qm; exact qm.elim
            | ok d g4 =>
              simp only [ee] at qm
              intro y H6 j6 gr6 sm6 ry
              have D6 : H6 D = some (.lst us) := gr6 D _ (by rw [owT]; exact DnO) D5
              have el := racc.length
              rw [List.length_map] at el
              have g6 : Gr (OwV A Ve) (wo D H5) (wo D H6) := fun x o n h => by
                have ne : x ≠ D := fun z => by rw [z, wo_at] at h; cases h
                rw [wo_ne ne] at h ⊢
                exact gr6 x o (by rw [owT]; exact n) h
              refine ⟨us, D6, by rw [el]; exact Nat.lt_of_le_of_lt (Nat.le_trans hacc (Nat.le_trans hil hlim)) (by decide), g4, acc ++ [d], us ++ [y], wo D H6, ?_, wo_at, back j6, g15.trans g6, fun z => (s15 z).trans fun x o h => ?_, by rw [List.length_append]; show acc.length + 1 ≤ i + 1; omega, ?_, ?_⟩
              · rw [wo_upd2]
              · have ne : x ≠ D := fun z => by rw [z, wo_at] at h; cases h
                rw [wo_ne ne] at h ⊢
                exact sm6 (Bool.and_eq_true_iff.mp (Bool.and_eq_true_iff.mp z).2).2 x o h
              · rw [List.map_append]
                refine (RpA.mono (g5.trans g6).gh _ racc).append (.cons ?_ .nil)
                have : Rp Z.K (GH (Z.hid D) (OwV A VT) H6) y (enc d) := ry
                rw [gh_hid, owT] at this
                exact this
              · cases er : compR set c e (l.drop (i + 1)) g4 with
                | bad => simp only [er] at qm; exact qm
                | exc x g5 => simp only [er] at qm; exact qm.elim
                | ok ds g5 =>
                  simp only [er] at qm
                  unfold CFin at qm ⊢
                  simpa using qm
      · have e : i = l.length := by omega
        refine .inl ⟨k2 (by omega), ?_⟩
        rw [e, List.drop_length] at qm
        unfold compR CFin at qm
        simp only [List.append_nil] at qm
        exact qm D us Hm hDm (jb jm) (gr1.trans grm) (fun z => (sm1 (Bool.and_eq_true_iff.mp z).1).trans (smm z)) racc
    · rw [if_neg hlim] at q
      exact q.elim
theorem s_lc {f : Ac γ (List α)} {set : γ → α → γ} {c : Ac γ Bool} {e : Ac γ δ} {ix : List Nat} (own : List (Str × Nat)) (VT : Ev γ) (hc : X.calm = true) (hN : X.N.Nodup) (hi : SI X Ve b p tg iter f)
    (hg : ∀ (s : Shared) (H : Hp) (C : Addr) (cl : List (Str × Addr)) (fp : List Addr), SG (X.blk s H scope (compEnvC scope cl C X.env) fp) Ve VT (mdB b) false ix tg set)
    (ht : ∀ (s : Shared) (H : Hp) (C : Addr) (cl : List (Str × Addr)) (fp : List Addr), STs (X.blk s H scope (compEnvC scope cl C X.env) fp) VT p2 ifs c)
    (he : ∀ (s : Shared) (H : Hp) (C : Addr) (cl : List (Str × Addr)) (fp : List Addr), SE (X.blk s H scope (compEnvC scope cl C X.env) fp) VT .fr p3 elt e)
    (ok : BlkOk X.N X.env.scope scope own := by exact blkOk_by (by decide +kernel)) (hVT : noAt VT (own.map (·.2)) = Ve := by rfl) (hnow : noOwn VT (own.map (·.2)) = true := by rfl) (hix : ix.all (fun i => (own.map (·.2)).contains i) = true := by rfl)
    (hs : ∀ x, foldedSetIterable iter X.env x = pure x := by intro _; rfl) : SN X Ve (p && (p2 && p3)) (.ListComp elt [⟨tg, iter, ifs, 0⟩] scope pos) (compA f set c e) := ⟨fun Z W hK tk => by
  have tk0 : ∀ {s : Shared} {H : Hp} {C : Addr} {cl : List (Str × Addr)} {fp : List Addr}, Takes (X.blk s H scope (compEnvC scope cl C X.env) fp) W0 := takes0
  -- what is told within holds whatever place the new list has
  refine (pe_lc (wi := tI X.mg Z W Ve b p f) (g := fun v σ H Q => ∃ D, tG (Z.hid D) Ve VT (mdB b) false ix set v σ H Q) (tt := fun σ H Q => ∃ D, tT X.mg (Z.hid D) W0 VT p2 c σ H Q) (te := fun σ H Q => ∃ D, tE X.mg (Z.hid D) W0 VT .fr p3 e σ H Q) hc hN (hi.run Z W hK tk) ok
    (fun s H C cl fp => ⟨fun pins s' σ H' v u Q I r ⟨D, q⟩ => ((hg s H C cl fp).run (Z.hid D) hK).run pins s' σ H' v u Q I r q⟩) (fun s H C cl fp => ⟨fun pins s' σ H' Q I ⟨D, q⟩ => ((ht s H C cl fp).run (Z.hid D) W0 hK tk0).run pins s' σ H' Q I q⟩)
    (fun s H C cl fp => ⟨fun pins s' σ H' Q I ⟨D, q⟩ => ((he s H C cl fp).run (Z.hid D) W0 hK tk0).run pins s' σ H' Q I q⟩) hs).weak fun σ H Q q => ?_
  exact tLc_ok hVT hnow (fun i h => by simpa using List.all_eq_true.mp hix i h) (fun _ _ _ h => h) (fun D _ _ _ _ h => ⟨D, h⟩) (fun D _ _ _ h => ⟨D, h⟩) (fun D _ _ _ h => ⟨D, h⟩) q⟩
end
end HL
/-! Fi: short forms: a callee, an optional value, name = [comprehension], op=. -/
namespace HL
open PySem PySem.Spec PyProof.Rows L2

/-- a def that may be called -/
structure Cal (P : Program) (w : World) (K : PySem.W.Frag) (mg : Str → Option Value) (base : Heap) (k : Nat) (x : Str) (ps : List Str) (sp : Sp) : Prop where
  ex : ∃ f fd, FnOk P w K mg base (L2.CX P w) k f fd ps sp ∧ mg x = some (.ref f) ∧ PySem.W.keepIn K (.ref f) = true ∧ Binds K fd ps []
section
variable {X : Cx} {γ τ α β ι : Type} {Ve : Ev γ} {ks : List AK} {p : Bool} {e : Expr} {es : List Expr} {bs : List Nat} {k : Nat} {ps : List Str} {rm : RM} {pa : α → List Par} {pio : ι → List (Nat × List D)} {m : Md}
theorem x_call [Enc β] {F : α → FRes β ι} {x : Str} {el : τ → List D} {fA : Ac γ τ} {p0 pos : Pos} (args : γ → τ → α) (c : Cal X.prog X.w X.K X.mg X.base k x ps (spOf X.K X.mg rm pa enc pio F)) (hr : Room k X.A)
    (ha : SA X Ve ks p (e :: es) el fA) (hargs : ∀ g t, ArgsOk Ve g bs ks (el t) (pa (args g t))) (hio : ∀ a, inoIx 0 (pa a) = [] := by exact fun _ => rfl) (hm : (rm = .fr ∧ m = .fr) ∨ (rm = .an ∧ m = .an ∧ bs = []) := by first | exact .inl ⟨rfl, rfl⟩ | exact .inr ⟨rfl, rfl, rfl⟩)
    (hg : Gl X x := by rfl) (hdb : (x == ("__debug__" : Str)) = false := by decide) (he : starEach (e :: es) X.env = (false, eval e X.env) :: starEach es X.env := by rfl) (hpl : (backTo pos (starEach es X.env)).any (·.1) = false := by rfl) :
    SE X Ve m p (.Call (.Name x p0) (e :: es) [] pos) (callA args F fA) := by
  obtain ⟨f, fd, h1, h2, h3, h4⟩ := c.ex
  exact s_call args h1 hr h2 h3 h4 ha hargs hio hm hg hdb he hpl
theorem x_callN [Enc β] {F : α → FRes (List β) ι} {x : Str} {el : τ → List D} {fA : Ac γ τ} {p0 pos : Pos} (args : γ → τ → α) (c : Cal X.prog X.w X.K X.mg X.base k x ps (spOf X.K X.mg .nw pa enc pio F)) (hr : Room k X.A)
    (ha : SA X Ve ks p (e :: es) el fA) (hargs : ∀ g t, ArgsOk Ve g bs ks (el t) (pa (args g t))) (hio : ∀ a, inoIx 0 (pa a) = [] := by exact fun _ => rfl)
    (hg : Gl X x := by rfl) (hdb : (x == ("__debug__" : Str)) = false := by decide) (he : starEach (e :: es) X.env = (false, eval e X.env) :: starEach es X.env := by rfl) (hpl : (backTo pos (starEach es X.env)).any (·.1) = false := by rfl) :
    SN X Ve p (.Call (.Name x p0) (e :: es) [] pos) (callA args F fA) := by
  obtain ⟨f, fd, h1, h2, h3, h4⟩ := c.ex
  exact s_callN args h1 hr h2 h3 h4 ha hargs hio hg hdb he hpl
theorem x_callIo [Enc β] {F : α → FRes β ι} {x : Str} {el : τ → List D} {fA : Ac γ τ} {p0 pos : Pos} (args : γ → τ → α) (put : γ → ι → γ) (i pi : Nat) (cont : ι → List D) (c : Cal X.prog X.w X.K X.mg X.base k x ps (spOf X.K X.mg rm pa enc pio F)) (hr : Room k X.A)
    (ha : SA X Ve ks p (e :: es) el fA) (hargs : ∀ g t, ArgsOk Ve g bs ks (el t) (pa (args g t))) (hio : ∀ a, inoIx 0 (pa a) = [pi] := by exact fun _ => rfl) (hpi : ks[pi]? = some (.slot i) := by rfl) (hown : ∃ f, Ve[i]? = some (.own f) := by exact ⟨_, rfl⟩) (hpio : ∀ y, pio y = [(pi, cont y)] := by exact fun _ => rfl) (hput : ∀ g y, at_ Ve (put g y) = (at_ Ve g).set i (.own (cont y)) := by exact fun _ _ => rfl)
    (hm : (rm = .fr ∧ m = .fr) ∨ (rm = .an ∧ m = .an ∧ bs = []) := by first | exact .inl ⟨rfl, rfl⟩ | exact .inr ⟨rfl, rfl, rfl⟩)
    (hg : Gl X x := by rfl) (hdb : (x == ("__debug__" : Str)) = false := by decide) (he : starEach (e :: es) X.env = (false, eval e X.env) :: starEach es X.env := by rfl) (hpl : (backTo pos (starEach es X.env)).any (·.1) = false := by rfl) :
    SE X Ve m false (.Call (.Name x p0) (e :: es) [] pos) (callIo args put F fA) := by
  obtain ⟨f, fd, h1, h2, h3, h4⟩ := c.ex
  exact s_callIo args put i pi cont h1 hr h2 h3 h4 ha hargs hio hpi hown hpio hput hm hg hdb he hpl
end
/-- a list handed back is new: promised as such, it is also data made since -/
theorem retR_nw {K : PySem.W.Frag} {H : Hp} {S : Addr → Prop} {H' : Hp} {v : L2.V} {d : D} (h : RetR K H S H' .nw v d) : RetR K H S H' .fr v d := by
  obtain ⟨q, us, ds, rfl, rfl, h0, h1, h2⟩ := h
  refine .lst (hide_mk (by rw [h0]; exact fun z => z) h1) (RpA.mono (hide_same fun x o n z => ⟨fun y => n (.inl y), z⟩) _ h2)
theorem spOf_nw {α β ι : Type} {K : PySem.W.Frag} {mg : Str → Option Value} {pa : α → List Par} {en : β → D} {pio : ι → List (Nat × List D)} {F : α → FRes β ι} : ∀ vs H Q E, spOf K mg .fr pa en pio F vs H Q E → spOf K mg .nw pa en pio F vs H Q E := fun vs H Q E ⟨a, S, h1, h2, h3, h4⟩ => by
  refine ⟨a, S, h1, h2, h3, ?_⟩
  cases e : F a with
  | bad => rw [e] at h4; exact h4
  | exc x => rw [e] at h4; exact h4
  | ok b i =>
    rw [e] at h4
    exact fun v H' c => h4 v H' ⟨c.frame, c.ios, retR_nw c.ret⟩
theorem Cal.fr {P : Program} {w : World} {K : PySem.W.Frag} {mg : Str → Option Value} {base : Heap} {k : Nat} {x : Str} {ps : List Str} {α β ι : Type} {pa : α → List Par} {en : β → D} {pio : ι → List (Nat × List D)} {F : α → FRes β ι} (c : Cal P w K mg base k x ps (spOf K mg .nw pa en pio F)) : Cal P w K mg base k x ps (spOf K mg .fr pa en pio F) := by
  obtain ⟨f, fd, h1, h2⟩ := c.ex
  exact ⟨f, fd, h1.imp spOf_nw, h2⟩

section
variable {X : Cx} {γ α β : Type} [Enc α] {Ve Ve' : Ev γ} {m : Md} {p : Bool} {e : Expr} {pos : Pos}
theorem tE_map {δ : Type} [Enc δ] {mg : Str → Option Value} {Z : Fix} {W : WX} {k : α → δ} (hk : ∀ a, enc (k a) = enc a) {f : Ac γ α} {σ : L2.St} {H : Hp} {Q : VK} (q : tE mg Z W Ve m p (op1 (fun a => some (k a)) f) σ H Q) : tE mg Z W Ve m p f σ H Q := by
  obtain ⟨g, A, j, q⟩ := q
  refine ⟨g, A, j, ?_⟩
  unfold op1 bindA optA at q
  cases ef : f g with
  | bad => simp only [ef] at q
  | exc x g1 => simp only [ef] at q; exact q
  | ok a g1 =>
    simp only [ef] at q
    rw [hk] at q
    exact q
/-- a thing as one that may be none -/
theorem SE.opt {f : Ac γ α} (h : SE X Ve m p e f) : SE X Ve m p e (op1 (fun a => some (some a)) f) := ⟨fun Z W hK tk => (h.run Z W hK tk).weak fun σ H Q q => tE_map (k := some) (fun _ => rfl) q⟩
end

/-! ### name = [comprehension] on one line -/
section
variable {X : Cx} {γ α δ β : Type} [Enc α] [Enc δ] {C : FC γ β} {xj : XJ γ} {Ve VT Ve' : Ev γ} {b : Bool} {p p2 p3 : Bool} {elt tg iter : Expr} {ifs : List Expr} {scope : Scope} {pos spos py : Pos}
theorem c_lc_core {f : Ac γ (List α)} {set : γ → α → γ} {c : Ac γ Bool} {e : Ac γ δ} {ix : List Nat} {i : Nat} {y : Str} {own : List (Str × Nat)} (hc : X.calm = true) (hN : X.N.Nodup) (hi : SI X Ve b p tg iter f)
    (hg : ∀ (s : Shared) (H : Hp) (C : Addr) (cl : List (Str × Addr)) (fp : List Addr), SG (X.blk s H scope (compEnvC scope cl C X.env) fp) Ve VT (mdB b) false ix tg set)
    (ht : ∀ (s : Shared) (H : Hp) (C : Addr) (cl : List (Str × Addr)) (fp : List Addr), STs (X.blk s H scope (compEnvC scope cl C X.env) fp) VT p2 ifs c)
    (he : ∀ (s : Shared) (H : Hp) (C : Addr) (cl : List (Str × Addr)) (fp : List Addr), SE (X.blk s H scope (compEnvC scope cl C X.env) fp) VT .fr p3 elt e)
    (hy : X.N[i]? = some y) (hyl : X.env.scope.names.lookup y = some .local) (hsw : swapsWith (.ListComp elt [⟨tg, iter, ifs, 0⟩] scope pos) (some (.Name y py)) spos.line X.env = pure true)
    (ok : BlkOk X.N X.env.scope scope own) (hVT : noAt VT (own.map (·.2)) = Ve) (hnow : noOwn VT (own.map (·.2)) = true) (hix : ix.all (fun i => (own.map (·.2)).contains i) = true)
    (hs : ∀ x, foldedSetIterable iter X.env x = pure x) {Z : Fix} {W : WX} (hK : Z.K = X.K) (tk : Takes X W) :
    PS X (.Assign [.Name y py] (.ListComp elt [⟨tg, iter, ifs, 0⟩] scope pos) spos) (fun D σ H => tN X.mg Z W Ve (p && (p2 && p3)) (compA f set c e) σ H fun x H1 => D.nx (σ.set i (some x)) H1) := by
  have tk0 : ∀ {s : Shared} {H : Hp} {C : Addr} {cl : List (Str × Addr)} {fp : List Addr}, Takes (X.blk s H scope (compEnvC scope cl C X.env) fp) W0 := takes0
  refine (ps_setLc (wi := tI X.mg Z W Ve b p f) (g := fun v σ H Q => ∃ D, tG (Z.hid D) Ve VT (mdB b) false ix set v σ H Q) (tt := fun σ H Q => ∃ D, tT X.mg (Z.hid D) W0 VT p2 c σ H Q) (te := fun σ H Q => ∃ D, tE X.mg (Z.hid D) W0 VT .fr p3 e σ H Q) hc hN hy hyl hsw (hi.run Z W hK tk) ok
    (fun s H C cl fp => ⟨fun pins s' σ H' v u Q I r ⟨D, q⟩ => ((hg s H C cl fp).run (Z.hid D) hK).run pins s' σ H' v u Q I r q⟩) (fun s H C cl fp => ⟨fun pins s' σ H' Q I ⟨D, q⟩ => ((ht s H C cl fp).run (Z.hid D) W0 hK tk0).run pins s' σ H' Q I q⟩)
    (fun s H C cl fp => ⟨fun pins s' σ H' Q I ⟨D, q⟩ => ((he s H C cl fp).run (Z.hid D) W0 hK tk0).run pins s' σ H' Q I q⟩) hs).weak fun D σ H q => ?_
  exact tLc_ok hVT hnow (fun i h => by simpa using List.all_eq_true.mp hix i h) (fun _ _ _ h => h) (fun D _ _ _ _ h => ⟨D, h⟩) (fun D _ _ _ h => ⟨D, h⟩) (fun D _ _ _ h => ⟨D, h⟩) q
/-- name = [..], data -/
theorem c_setLc {f : Ac γ (List α)} {set : γ → α → γ} {c : Ac γ Bool} {e : Ac γ δ} {ix : List Nat} (i : Nat) (put : γ → List δ → γ) {y : Str} (own : List (Str × Nat)) (VT : Ev γ) (hx : XOk xj Ve) (hc : X.calm = true) (hN : X.N.Nodup) (hi : SI X Ve b p tg iter f)
    (hg : ∀ (s : Shared) (H : Hp) (C : Addr) (cl : List (Str × Addr)) (fp : List Addr), SG (X.blk s H scope (compEnvC scope cl C X.env) fp) Ve VT (mdB b) false ix tg set)
    (ht : ∀ (s : Shared) (H : Hp) (C : Addr) (cl : List (Str × Addr)) (fp : List Addr), STs (X.blk s H scope (compEnvC scope cl C X.env) fp) VT p2 ifs c)
    (he : ∀ (s : Shared) (H : Hp) (C : Addr) (cl : List (Str × Addr)) (fp : List Addr), SE (X.blk s H scope (compEnvC scope cl C X.env) fp) VT .fr p3 elt e)
    (hV : ∀ g a, at_ Ve' (put g a) = (at_ Ve g).set i (.imm true (enc a)) := by exact fun _ _ => rfl) (hno : (ioIx C).contains i = false := by rfl)
    (hy : X.N[i]? = some y := by rfl) (hyl : X.env.scope.names.lookup y = some .local := by rfl) (hsw : swapsWith (.ListComp elt [⟨tg, iter, ifs, 0⟩] scope pos) (some (.Name y py)) spos.line X.env = pure true := by exact sw_true rfl rfl rfl (by decide +kernel))
    (ok : BlkOk X.N X.env.scope scope own := by exact blkOk_by (by decide +kernel)) (hVT : noAt VT (own.map (·.2)) = Ve := by rfl) (hnow : noOwn VT (own.map (·.2)) = true := by rfl) (hix : ix.all (fun i => (own.map (·.2)).contains i) = true := by rfl)
    (hs : ∀ x, foldedSetIterable iter X.env x = pure x := by intro _; rfl) : SS X C xj Ve Ve' (.Assign [.Name y py] (.ListComp elt [⟨tg, iter, ifs, 0⟩] scope pos) spos) (setS put (compA f set c e)) := ⟨fun Z W hK hio tk => (c_lc_core hc hN hi hg ht he hy hyl hsw ok hVT hnow hix hs hK tk).weak fun D σ H q => tN_tE (tS_do (m := .fr) hx q fun a g A v H' j rv z => by
  have j2 := j.setImm (i := i) (fr := true) (by rw [ow_at]; exact rv) (noio hio hno)
  rw [← hV] at j2
  refine z A _ H' j2 fun x o n h => ⟨h, fun y => n ?_⟩
  rw [← ow_at (g := put g a), hV] at y
  rw [← ow_at (g := g)]
  exact ow_set imm_ne x y)⟩
/-- name = [..], one's own -/
theorem c_ownLc {f : Ac γ (List α)} {set : γ → α → γ} {c : Ac γ Bool} {e : Ac γ δ} {ix : List Nat} (i : Nat) (put : γ → List δ → γ) {y : Str} (own : List (Str × Nat)) (VT : Ev γ) (hx : XOk xj Ve) (hc : X.calm = true) (hN : X.N.Nodup) (hi : SI X Ve b p tg iter f)
    (hg : ∀ (s : Shared) (H : Hp) (C : Addr) (cl : List (Str × Addr)) (fp : List Addr), SG (X.blk s H scope (compEnvC scope cl C X.env) fp) Ve VT (mdB b) false ix tg set)
    (ht : ∀ (s : Shared) (H : Hp) (C : Addr) (cl : List (Str × Addr)) (fp : List Addr), STs (X.blk s H scope (compEnvC scope cl C X.env) fp) VT p2 ifs c)
    (he : ∀ (s : Shared) (H : Hp) (C : Addr) (cl : List (Str × Addr)) (fp : List Addr), SE (X.blk s H scope (compEnvC scope cl C X.env) fp) VT .fr p3 elt e)
    (hV : ∀ g a, at_ Ve' (put g a) = (at_ Ve g).set i (.own (a.map enc)) := by exact fun _ _ => rfl) (hno : (ioIx C).contains i = false := by rfl) (hpk : noPk i Ve = true := by rfl)
    (hy : X.N[i]? = some y := by rfl) (hyl : X.env.scope.names.lookup y = some .local := by rfl) (hsw : swapsWith (.ListComp elt [⟨tg, iter, ifs, 0⟩] scope pos) (some (.Name y py)) spos.line X.env = pure true := by exact sw_true rfl rfl rfl (by decide +kernel))
    (ok : BlkOk X.N X.env.scope scope own := by exact blkOk_by (by decide +kernel)) (hVT : noAt VT (own.map (·.2)) = Ve := by rfl) (hnow : noOwn VT (own.map (·.2)) = true := by rfl) (hix : ix.all (fun i => (own.map (·.2)).contains i) = true := by rfl)
    (hs : ∀ x, foldedSetIterable iter X.env x = pure x := by intro _; rfl) : SS X C xj Ve Ve' (.Assign [.Name y py] (.ListComp elt [⟨tg, iter, ifs, 0⟩] scope pos) spos) (setS put (compA f set c e)) := ⟨fun Z W hK hio tk => (c_lc_core hc hN hi hg ht he hy hyl hsw ok hVT hnow hix hs hK tk).weak fun D σ H q => tS_doN hx q fun a g A v vs H' hn j rv z => by
  have j2 := j.setOwn (i := i) hn (by rw [ow_at]; exact rv) (noio hio hno) (fun k t e _ => noPk_all hpk k t e)
  rw [← hV] at j2
  refine z (fun k => if k = i then v else A k) _ _ j2 fun x o n h => ⟨same_new hn _ _ h, fun y => ?_⟩
  obtain ⟨k, ds, e1, e2⟩ := y
  by_cases ek : k = i
  · simp only [ek, if_true] at e2
    rw [← e2, hn] at h
    cases h
  · simp only [ek, if_false] at e2
    have h1 : (at_ Ve' (put g a))[k]? = some (.own (ds (put g a))) := by rw [at_get, e1]; rfl
    rw [hV, set_get, if_neg (Ne.symm ek)] at h1
    refine n ?_
    rw [← ow_at (g := g)]
    exact ⟨k, _, h1, e2⟩⟩
end

/-! ### name op= e -/
section
variable {X : Cx} {γ β : Type} {C : FC γ β} {xj : XJ γ} {Ve : Ev γ} {m : Md} {p : Bool} {e : Expr} {pos : Pos}
def augS {γ β : Type} (k : Int → Int → Option Int) (get : γ → Int) (set : γ → Int → γ) (f : Ac γ Int) : Sc γ β := fun g0 => doS f (fun b g => match k (get g0) b with
  | some c => .nx (set g c)
  | none => .bad) g0
theorem c_aug {op : Operator} {r : R2} {k : Int → Int → Option Int} {f : Ac γ Int} (i : Nat) (get : γ → Int) (set : γ → Int → γ) {n : Str} {pos' : Pos} (ho : OpR X (inplaceOp op) r) (hk : ∀ a b c H (Q : VK), k a b = some c → Q (.int c) H → r (.int a) (.int b) H Q) (hx : XOk xj Ve) (he : SE X Ve m p e f)
    (hi' : Ve[i]? = some (.imm true fun g => enc (get g)) := by rfl) (hV : ∀ g a, at_ Ve (set g a) = (at_ Ve g).set i (.imm true (enc a)) := by exact fun _ _ => rfl)
    (hN : X.N.Nodup) (hi : X.N[i]? = some n := by rfl) (hl : Loc X.env.scope n := by first | exact .inl rfl | exact .inr rfl) (hf : X.fn n = true ∨ X.env.scope.names.lookup n = some .local := by first | exact .inl rfl | exact .inr rfl) :
    SS X C xj Ve Ve (.AugAssign (.Name n pos') op e pos) (augS k get set f) := ⟨fun Z W hK hio tk => (ps_aug (ti := r) hN hi hl (he.run Z W hK tk) (fun pins s σ H x y v u Q I r1 r2 h => ho pins s σ H x y v u Q I r1 r2 h) hf).weak fun D σ H q => by
  obtain ⟨g, A, j, q⟩ := q
  have hr : (at_ Ve g)[i]? = some (.imm true (enc (get g))) := by rw [at_get, hi']; rfl
  obtain ⟨v, e1, e2⟩ := j.imm i true _ hr
  cases rp_int e2
  refine ⟨_, e1, g, A, j, ?_⟩
  unfold augS doS at q
  cases ef : f g with
  | bad => simp only [ef] at q
  | exc x g1 =>
    simp only [ef] at q
    exact fun c H' mc j' gr => q c A σ H' mc (hx _ _ _ _ _ j')
  | ok b g1 =>
    simp only [ef] at q
    intro w H1 j1 gr sm rw1
    cases rp_int rw1.full
    cases ek : k (get g) b with
    | none => simp only [ek] at q
    | some c =>
      simp only [ek] at q
      refine hk _ _ _ _ _ ek ?_
      have j2 := j1.setImm (i := i) (fr := true) (v := .int c) (d := enc c) (.int c) (noio' j1 (by unfold noOwn; simp [hi']))
      rw [← hV] at j2
      refine q A _ H1 j2 (gr.stt.trans fun x o n h => ⟨h, fun y => n ?_⟩)
      rw [← ow_at (g := set g1 c), hV] at y
      rw [← ow_at (g := g1)]
      exact ow_set imm_ne x y⟩
theorem c_augAdd {f : Ac γ Int} (i : Nat) (get : γ → Int) (set : γ → Int → γ) {n : Str} {pos' : Pos} (hx : XOk xj Ve) (he : SE X Ve m p e f)
    (hN : X.N.Nodup) (hi' : Ve[i]? = some (.imm true fun g => enc (get g)) := by rfl) (hV : ∀ g a, at_ Ve (set g a) = (at_ Ve g).set i (.imm true (enc a)) := by exact fun _ _ => rfl)
    (hi : X.N[i]? = some n := by rfl) (hl : Loc X.env.scope n := by first | exact .inl rfl | exact .inr rfl) (hf : X.fn n = true ∨ X.env.scope.names.lookup n = some .local := by first | exact .inl rfl | exact .inr rfl) :
    SS X C xj Ve Ve (.AugAssign (.Name n pos') .Add e pos) (augS addI get set f) := c_aug i get set iop_add (fun a b c H Q e q => by cases some_inj' e; exact ⟨a, b, rfl, rfl, q⟩) hx he hi' hV hN hi hl hf
theorem c_augMul {f : Ac γ Int} (i : Nat) (get : γ → Int) (set : γ → Int → γ) {n : Str} {pos' : Pos} (hx : XOk xj Ve) (he : SE X Ve m p e f)
    (hN : X.N.Nodup) (hi' : Ve[i]? = some (.imm true fun g => enc (get g)) := by rfl) (hV : ∀ g a, at_ Ve (set g a) = (at_ Ve g).set i (.imm true (enc a)) := by exact fun _ _ => rfl)
    (hi : X.N[i]? = some n := by rfl) (hl : Loc X.env.scope n := by first | exact .inl rfl | exact .inr rfl) (hf : X.fn n = true ∨ X.env.scope.names.lookup n = some .local := by first | exact .inl rfl | exact .inr rfl) :
    SS X C xj Ve Ve (.AugAssign (.Name n pos') .Mult e pos) (augS mulI get set f) := c_aug i get set iop_mulW (fun a b c H Q e q => by obtain ⟨hc, rfl⟩ := ite_some e; exact ⟨a, b, rfl, rfl, hc, q⟩) hx he hi' hV hN hi hl hf
theorem c_augDiv {f : Ac γ Int} (i : Nat) (get : γ → Int) (set : γ → Int → γ) {n : Str} {pos' : Pos} (hx : XOk xj Ve) (he : SE X Ve m p e f)
    (hN : X.N.Nodup) (hi' : Ve[i]? = some (.imm true fun g => enc (get g)) := by rfl) (hV : ∀ g a, at_ Ve (set g a) = (at_ Ve g).set i (.imm true (enc a)) := by exact fun _ _ => rfl)
    (hi : X.N[i]? = some n := by rfl) (hl : Loc X.env.scope n := by first | exact .inl rfl | exact .inr rfl) (hf : X.fn n = true ∨ X.env.scope.names.lookup n = some .local := by first | exact .inl rfl | exact .inr rfl) :
    SS X C xj Ve Ve (.AugAssign (.Name n pos') .FloorDiv e pos) (augS fdivI get set f) := c_aug i get set iop_fdivX (fun a b c H Q e q => by obtain ⟨hc, rfl⟩ := ite_some e; exact ⟨a, b, rfl, rfl, hc, q⟩) hx he hi' hV hN hi hl hf
end
end HL
/-! Fj: isinstance, tuple(list), count, own[i] op= e, sorted of ints. -/
namespace HL
open PySem PySem.Spec PyProof.Rows L2

/-! ### isinstance -/
class Ty1 (α : Type) [Enc α] where
  nm : String
  ok : ∀ {K : PySem.W.Frag} {H : Hp} {v : L2.V} (x : α), Rp K H v (enc x) → TyX K H v (.type nm)
theorem tyx_tup {K : PySem.W.Frag} {H : Hp} {a : Addr} {vs : List L2.V} (h : SqT K H a vs) : TyX K H (.ref a) (.type "tuple") := by
  rcases h with (h | ⟨o, h⟩) | ⟨o, its, n, h1, h2, _⟩
  · exact .base (.tup h)
  · exact .fTuple h
  · exact .kTuple h1 h2
instance : Ty1 Int := ⟨"int", fun x h => by cases rp_int h; exact .base (.int _)⟩
instance : Ty1 Bool := ⟨"bool", fun x h => by cases rp_bl h; exact .base (.bl _)⟩
instance : Ty1 Str := ⟨"str", fun x h => by cases rp_str h; exact .base (.str _)⟩
instance : Ty1 Unit := ⟨"NoneType", fun x h => by cases h; exact .base .non⟩
instance {α : Type} [Enc α] : Ty1 (List α) := ⟨"list", fun x h => by
  obtain ⟨a, vs, rfl, h1, _⟩ := rp_list h
  exact .base (.lst h1)⟩
instance {α β : Type} [Enc α] [Enc β] : Ty1 (α × β) := ⟨"tuple", fun x h => by
  obtain ⟨a, vs, rfl, h1, _⟩ := rp_tuple h
  exact tyx_tup h1⟩
instance {α β γ : Type} [Enc α] [Enc β] [Enc γ] : Ty1 (T3 α β γ) := ⟨"tuple", fun x h => by
  obtain ⟨a, vs, rfl, h1, _⟩ := rp_tuple h
  exact tyx_tup h1⟩
instance {α β γ δ : Type} [Enc α] [Enc β] [Enc γ] [Enc δ] : Ty1 (T4 α β γ δ) := ⟨"tuple", fun x h => by
  obtain ⟨a, vs, rfl, h1, _⟩ := rp_tuple h
  exact tyx_tup h1⟩
instance {α β γ δ ε : Type} [Enc α] [Enc β] [Enc γ] [Enc δ] [Enc ε] : Ty1 (T5 α β γ δ ε) := ⟨"tuple", fun x h => by
  obtain ⟨a, vs, rfl, h1, _⟩ := rp_tuple h
  exact tyx_tup h1⟩
section
variable {X : Cx} {γ α β δ : Type} [Enc α] [Enc β] [Enc δ] {Ve : Ev γ} {m m1 m2 : Md} {p p1 p2 p3 : Bool} {e a b : Expr} {pos : Pos}
theorem s_isi [Ty1 α] {c : Str} {cs : String} (r : Bool) {f : Ac γ α} {p0 p9 : Pos} (hx : X.mg "isinstance" = none) (hc : X.mg c = none) (ha : SE X Ve m p e f) (hk : kitB (Ty1.nm α) cs = some r := by decide +kernel) (hv : bootBuiltins c = some (.type cs) := by decide +kernel)
    (hg : Gl X "isinstance" := by rfl) (hgc : Gl X c := by rfl) (hn : c ≠ "__name__" := by decide) (hd : (c == ("__debug__" : Str)) = false := by decide)
    (he : starEach (e :: [.Name c p9]) X.env = (false, eval e X.env) :: starEach [.Name c p9] X.env := by rfl) (he2 : starEach (.Name c p9 :: []) X.env = (false, eval (.Name c p9) X.env) :: starEach [] X.env := by rfl) (hpl : (backTo pos (starEach [.Name c p9] X.env)).any (·.1) = false := by rfl) :
    SE X Ve .fr p (.Call (.Name "isinstance" p0) [e, .Name c p9] [] pos) (op1 (fun _ => some r) f) :=
  ⟨fun Z W hK tk => (pe_callB call_isi hg hx PyProof.Rows.boot_isinstance (pa_cons (ha.run Z W hK tk) (pa_cons (pe_bltn (v := .ty cs) hgc hc hv rfl hn hd) pa_nil he2) he) (by decide) (by decide) he hpl).weak fun σ H Q q =>
    tUn_ok (r := fun v H Q => rIsi X.K [v, .ty cs] H Q) (fun A g σ H x l c Q j rx ec q => by
      rw [some_inj' ec] at q
      exact ⟨x, .ty cs, _, _, r, rfl, .ty cs, hK ▸ Ty1.ok l rx.full, hk, q _ H (Same.refl H) j (.bl _)⟩) q⟩

/-! ### tuple(list) -/
theorem s_tupOf {mk : List α → Option δ} {f : Ac γ (List α)} {p0 : Pos} (hx : X.mg "tuple" = none) (ha : SE X Ve m p e f) (hmk : ∀ l d, mk l = some d → enc d = .tuple (l.map enc)) (hg : Gl X "tuple" := by rfl) (he : starEach (e :: []) X.env = (false, eval e X.env) :: starEach [] X.env := by rfl) :
    SE X Ve (mdB (elM m)) p (.Call (.Name "tuple" p0) [e] [] pos) (op1 mk f) :=
  ⟨fun Z W hK tk => (pe_tupleOf hg hx (ha.run Z W hK tk) he).weak fun σ H Q q => tUn_ok (r := kTup X.K) (fun A g σ H x l c Q j rx ec q => by
    obtain ⟨t, vs, rfl, e2, e3⟩ := rm_els rx
    refine .inl ⟨t, vs, rfl, seqL e2, fun n hn => q (.ref n) _ (same_new hn) (j.new hn) ?_⟩
    rw [hmk _ _ ec]
    have hn' := j.ghnew (o := .tup vs) hn
    rw [ow_at] at hn'
    have ra' := RpA.mono (Gr.of (same_new (o := .tup vs) hn)).hp _ e3
    cases em : elM m with
    | true =>
      rw [em] at ra'
      exact .tup hn' ra'
    | false =>
      rw [em] at ra'
      exact .tup (gh_fh _ _ hn') ra') q⟩
def tup1Q {α : Type} : List α → Option (Unit × α)
  | [a] => some ((), a)
  | _ => none
def tup2Q {α : Type} : List α → Option (α × α)
  | [a, b] => some (a, b)
  | _ => none
def tup3Q {α : Type} : List α → Option (T3 α α α)
  | [a, b, c] => some ⟨a, b, c⟩
  | _ => none
def tup4Q {α : Type} : List α → Option (T4 α α α α)
  | [a, b, c, d] => some ⟨a, b, c, d⟩
  | _ => none
theorem tup2_ok (l : List α) (d : α × α) (h : tup2Q l = some d) : enc d = .tuple (l.map enc) := by
  unfold tup2Q at h
  split at h
  · cases h; rfl
  · cases h
theorem tup3_ok (l : List α) (d : T3 α α α) (h : tup3Q l = some d) : enc d = .tuple (l.map enc) := by
  unfold tup3Q at h
  split at h
  · cases h; rfl
  · cases h
theorem tup4_ok (l : List α) (d : T4 α α α α) (h : tup4Q l = some d) : enc d = .tuple (l.map enc) := by
  unfold tup4Q at h
  split at h
  · cases h; rfl
  · cases h

/-! ### methods of lists, as expressions -/
theorem tBM_ok {T : String} {r : L2.V → List L2.V → Hp → VK → Prop} {mr : Md} {k : α → β → Option δ} {f : Ac γ α} {h2 : Ac γ β} {mg : Str → Option Value} {Z : Fix} {W : WX} (hk : OpK Z (fun x y H Q => r x [y] H Q) m1 m2 mr k Ve)
    (ht : ∀ (A : Nat → Addr) g σ H x (a : α), J Z A (at_ Ve g) σ H → Rm Z A Ve H m1 x (enc a) → tyV Z.K T x H) (hm : okM m1 p2 = true) {σ : L2.St} {H : Hp} {Q : VK} (h : tE mg Z W Ve mr (p1 && p2) (op2 k f h2) σ H Q) :
    tBM Z.K T r (tE mg Z W Ve m1 p1 f) (tCons (tE mg Z W Ve m2 p2 h2) tNil) σ H Q := by
  obtain ⟨g, A, j, h⟩ := h
  refine ⟨g, A, j, ?_⟩
  unfold op2 bindA at h
  cases ef : f g with
  | bad => rw [ef] at h; exact h
  | exc x g1 => rw [ef] at h; exact h
  | ok a g1 =>
    rw [ef] at h
    intro v H1 j1 gr sm rv
    refine ⟨ht A g1 σ H1 v a j1 rv, g1, A, j1, ?_⟩
    simp only at h
    cases eh : h2 g1 with
    | bad => simp only [eh] at h
    | exc x g2 =>
      simp only [eh] at h
      exact fun c H' mc j' gr' => h c H' mc j' (gr.trans gr')
    | ok b g2 =>
      simp only [eh] at h
      unfold optA at h
      cases ek : k a b with
      | none => simp only [ek] at h
      | some c =>
        simp only [ek] at h
        intro w H2 j2 gr2 sm2 rw2
        exact hk A g2 σ H2 v w a b c Q j2 (rv.step gr2 sm2 hm) rw2 ek fun u H3 s3 j3 ru => h u H3 j3 ((gr.trans gr2).trans (.of s3)) (fun z => ((sm (Bool.and_eq_true_iff.mp z).1).trans (sm2 (Bool.and_eq_true_iff.mp z).2)).trans s3) ru
theorem ty_list {Z : Fix} {A : Nat → Addr} {g : γ} {σ : L2.St} {H : Hp} {x : L2.V} {l : List α} (h : Rm Z A Ve H m x (enc l)) : tyV Z.K "list" x H := by
  obtain ⟨t, vs, rfl, e2, e3⟩ := rm_els h
  exact .inl ⟨rfl, vs, seqL e2⟩
def countI (l : List Int) (k : Int) : Option Int := some (l.count k : Nat)
theorem s_countI {f : Ac γ (List Int)} {h : Ac γ Int} {ap : Pos} (ha : SE X Ve m1 p1 a f) (hb : SE X Ve m2 p2 b h) (hm : okM m1 p2 = true := by rfl) (hmm : Bm1 X a "count" ap b pos := by exact ⟨rfl, rfl, rfl, rfl, rfl⟩) :
    SE X Ve .fr (p1 && p2) (.Call (.Attribute a "count" ap) [b] [] pos) (op2 countI f h) := ⟨fun Z W hK tk => by
  obtain ⟨h1, h2, h3, h4, h5⟩ := hmm
  refine (pe_bm PySem.F.plainAttrs_list PySem.F.slot_list_count PySem.F.type_list_count mt_lcount (ha.run Z W hK tk) (pa_cons (hb.run Z W hK tk) pa_nil h4) h1 h2 h3 h4 h5).weak fun σ H Q q => ?_
  rw [← hK]
  exact tBM_ok (r := rCntI Z.K) (fun A g σ H x y l k c Q j rx ry ec q => by
    obtain ⟨t, vs, rfl, e2, e3⟩ := rm_els rx
    cases rp_int ry.full
    obtain rfl := some_inj' ec
    have ev := rpA_ints (ns := l) e3
    subst ev
    exact ⟨t, l, k, rfl, rfl, seqL e2, q _ H (Same.refl H) j (.int _)⟩) (fun A g σ H x l j rx => ty_list (g := g) (σ := σ) rx) hm q⟩
end

/-! ### own[i] op= e -/
def rGetL (K : PySem.W.Frag) : L2.V → L2.V → Hp → VK → Prop := rIxL K
theorem get_list {X : Cx} : PGet X (rGetL X.K) := by
  intro pins s σ H x y v u Q I rx ry h
  obtain ⟨p, xs, i, z, rfl, rfl, hq, he, q⟩ := h
  cases rx
  obtain ⟨t, rfl⟩ := ry
  obtain ⟨its, r, pl, hz⟩ := I.list hq
  obtain ⟨j, h1, h2, h3, h4, h5⟩ := atI_get he
  obtain ⟨w, ew, rw'⟩ := r.get h2
  have hl := r.length
  have hn := line63
  have fin : EP X pins σ Q w s := ⟨z, H, I, rw', q⟩
  by_cases h0 : 0 ≤ i
  · have hj : i.toNat = j := by
      rw [seqIndex_of h0 h5] at h1
      exact Option.some.inj h1
    exact PyProof.Rows.getItem_listL pl.isList h0 (by omega) (by rw [hj]; simpa using ew) fin
  · have hj : (i + (its.toArray.size : Int)).toNat = j := by
      rw [seqIndex_neg (by omega) h4] at h1
      rw [List.size_toArray, ← hl]
      exact Option.some.inj h1
    exact wpAny_getItem_list_neg pl.isList (by omega) (by rw [List.size_toArray] <;> omega) (by omega) (by rw [hj]; simpa using ew) fin
def augIxS {γ β : Type} (k : Int → Int → Option Int) (get : γ → List Int) (put : γ → List Int → γ) (h : Ac γ Int) (f : Ac γ Int) : Sc γ β := doS h fun i => fun g => match atI (get g) i with
  | none => .bad
  | some x => doS f (fun b g => match k x b with
    | none => .bad
    | some c => match setAt (get g) i c with
      | some l => .nx (put g l)
      | none => .bad) g
section
variable {X : Cx} {γ β : Type} {C : FC γ β} {xj : XJ γ} {Ve : Ev γ} {m : Md} {p p2 : Bool} {e e2 : Expr} {pos : Pos}
theorem c_augIx {op : Operator} {r : R2} {k : Int → Int → Option Int} {f h : Ac γ Int} (i : Nat) (get : γ → List Int) (put : γ → List Int → γ) {n : Str} {p0 sp : Pos} (ho : OpR X (inplaceOp op) r) (hk : ∀ a b c H (Q : VK), k a b = some c → Q (.int c) H → r (.int a) (.int b) H Q) (hx : XOk xj Ve) (hh : SE X Ve .fr p2 e2 h) (he : SE X Ve .fr p e f)
    (hi : Ve[i]? = some (.own fun g => (get g).map enc) := by rfl) (hput : ∀ g l, at_ Ve (put g l) = (at_ Ve g).set i (.own (l.map enc)) := by exact fun _ _ => rfl)
    (hN : X.N[i]? = some n := by rfl) (hv : Vis X.env.scope n := by first | exact Or.inl rfl | exact Or.inr (Or.inl rfl) | exact Or.inr (Or.inr rfl)) (hd : (n == ("__debug__" : Str)) = false := by decide) (hcd : (n == ("__classdict__" : Str)) = false := by decide)
    (ha : ∀ ov iv new, augStore e2 ov iv new = (do holding [new, ov, iv] (setItem ov iv new); release [new, ov, iv] []; pure .next) := by intros; rfl) :
    SS X C xj Ve Ve (.AugAssign (.Subscript (.Name n p0) e2 sp) op e pos) (augIxS k get put h f) := ⟨fun Z W hK hio tk => by
  refine (ps_augS (pe_var hN hv hd hcd) (hh.run Z W hK tk) get_list (he.run Z W hK tk) (fun pins s σ H x y v u Q I r1 r2 h => ho pins s σ H x y v u Q I r1 r2 h) set_list ha).weak fun D σ H q => ?_
  obtain ⟨g0, A0, j0, q0⟩ := q
  have hr0 : (at_ Ve g0)[i]? = some (.own ((get g0).map enc)) := by rw [at_get, hi]; rfl
  obtain ⟨e1, _⟩ := j0.own i _ hr0
  refine ⟨_, e1, g0, A0, j0, ?_⟩
  unfold augIxS doS at q0
  cases ef : h g0 with
  | bad => simp only [ef] at q0
  | exc x g1 =>
    simp only [ef] at q0
    exact fun c H' mc j' gr => q0 c A0 σ H' mc (hx _ _ _ _ _ j')
  | ok ix g1 =>
    simp only [ef] at q0
    intro v H1 j1 gr sm rv
    cases rp_int rv.full
    have hr1 : (at_ Ve g1)[i]? = some (.own ((get g1).map enc)) := by rw [at_get, hi]; rfl
    obtain ⟨_, vs1, e2', e3'⟩ := j1.own i _ hr1
    cases ea : atI (get g1) ix with
    | none => simp only [ea] at q0
    | some x =>
      simp only [ea] at q0
      obtain ⟨w, e4, e5⟩ := rpA_at e3' (by rw [atI_map, ea]; rfl)
      cases rp_int e5
      refine ⟨A0 i, vs1, ix, _, rfl, rfl, seqL e2', e4, g1, A0, j1, ?_⟩
      cases eh : f g1 with
      | bad => simp only [eh] at q0
      | exc x g2 =>
        simp only [eh] at q0
        exact fun c H' mc j' gr => q0 c A0 σ H' mc (hx _ _ _ _ _ j')
      | ok b g2 =>
        simp only [eh] at q0
        intro w H2 j2 gr2 sm2 rw2
        cases rp_int rw2.full
        cases ek : k x b with
        | none => simp only [ek] at q0
        | some c =>
          simp only [ek] at q0
          refine hk _ _ _ _ _ ek ?_
          have hr2 : (at_ Ve g2)[i]? = some (.own ((get g2).map enc)) := by rw [at_get, hi]; rfl
          obtain ⟨_, vs, e3, e4⟩ := j2.own i _ hr2
          rw [ow_at] at e4
          have el := e4.length
          rw [List.length_map] at el
          unfold setAt at q0
          cases en : ixN (get g2).length ix with
          | none => simp only [en, Option.map_none] at q0
          | some n' =>
            simp only [en, Option.map_some] at q0
            refine ⟨A0 i, vs, ix, n', rfl, rfl, e3, by rw [el]; exact en, ?_⟩
            obtain ⟨j3, st⟩ := j_chg (vs := vs.set n' (.int c)) (l := (get g2).set n' c) j2 hi hput (by rw [List.map_set]; exact e4.set n' (.int c))
            exact q0 A0 σ _ j3 ((gr.stt.trans gr2.stt).trans st)⟩
theorem c_augIxAdd {f h : Ac γ Int} (i : Nat) (get : γ → List Int) (put : γ → List Int → γ) {n : Str} {p0 sp : Pos} (hx : XOk xj Ve) (hh : SE X Ve .fr p2 e2 h) (he : SE X Ve .fr p e f)
    (hi : Ve[i]? = some (.own fun g => (get g).map enc) := by rfl) (hput : ∀ g l, at_ Ve (put g l) = (at_ Ve g).set i (.own (l.map enc)) := by exact fun _ _ => rfl)
    (hN : X.N[i]? = some n := by rfl) (hv : Vis X.env.scope n := by first | exact Or.inl rfl | exact Or.inr (Or.inl rfl) | exact Or.inr (Or.inr rfl)) (hd : (n == ("__debug__" : Str)) = false := by decide) (hcd : (n == ("__classdict__" : Str)) = false := by decide)
    (ha : ∀ ov iv new, augStore e2 ov iv new = (do holding [new, ov, iv] (setItem ov iv new); release [new, ov, iv] []; pure .next) := by intros; rfl) :
    SS X C xj Ve Ve (.AugAssign (.Subscript (.Name n p0) e2 sp) .Add e pos) (augIxS addI get put h f) := c_augIx i get put iop_add (fun a b c H Q e q => by cases some_inj' e; exact ⟨a, b, rfl, rfl, q⟩) hx hh he hi hput hN hv hd hcd ha
end

/-! ### own[i], read behind the index's own doing -/
def ixO {γ α : Type} (x : γ → List α) (h : Ac γ Int) : Ac γ α := bindA h fun k => fun g => match atI (x g) k with
  | some d => .ok d g
  | none => .bad
section
variable {X : Cx} {γ α : Type} [Enc α] {Ve : Ev γ} {p : Bool} {pos : Pos}
theorem s_ixO (i : Nat) (x : γ → List α) {f : Ac γ Int} {n : Str} {b : Expr} {p1 : Pos} (hb : SE X Ve .fr p b f) (hi : Ve[i]? = some (.own fun g => (x g).map enc) := by rfl) (hN : X.N[i]? = some n := by rfl)
    (hv : Vis X.env.scope n := by first | exact Or.inl rfl | exact Or.inr (Or.inl rfl) | exact Or.inr (Or.inr rfl)) (hd : (n == ("__debug__" : Str)) = false := by decide) (hcd : (n == ("__classdict__" : Str)) = false := by decide) (hs : PlainIx b := by exact fun _ _ => rfl) :
    SE X Ve .fr p (.Subscript (.Name n p1) b pos) (ixO x f) := ⟨fun Z W hK tk => (pe_ix (r := rIxL X.K) ix_list (pe_var hN hv hd hcd) (hb.run Z W hK tk) hs).weak fun σ H Q q => by
  obtain ⟨g, A, j, q⟩ := q
  have hr : (at_ Ve g)[i]? = some (.own ((x g).map enc)) := by rw [at_get, hi]; rfl
  obtain ⟨e1, _⟩ := j.own i _ hr
  refine ⟨_, e1, g, A, j, ?_⟩
  unfold ixO bindA at q
  cases ef : f g with
  | bad => simp only [ef] at q
  | exc x g1 => simp only [ef] at q; exact q
  | ok k g1 =>
    simp only [ef] at q
    intro v H1 j1 gr sm rv
    cases rp_int rv.full
    have hr1 : (at_ Ve g1)[i]? = some (.own ((x g1).map enc)) := by rw [at_get, hi]; rfl
    obtain ⟨_, vs, e2, e3⟩ := j1.own i _ hr1
    rw [ow_at] at e3
    cases ea : atI (x g1) k with
    | none => simp only [ea] at q
    | some d =>
      simp only [ea] at q
      obtain ⟨w, e4, e5⟩ := rpA_at e3 (by rw [atI_map, ea]; rfl)
      exact ⟨A i, vs, k, w, rfl, rfl, seqL e2, e4, q w H1 j1 gr sm e5⟩⟩
end
end HL
/-! Fk: what is walked: tuples, ranges, reversed, enumerate, zip, texts. -/
namespace HL
open PySem PySem.Spec PyProof.Rows L2
section
variable {X : Cx} {γ α β δ : Type} [Enc α] [Enc β] [Enc δ] {Ve : Ev γ} {m m1 m2 : Md} {p p1 p2 p3 : Bool} {tg iter a b c : Expr} {pos : Pos} {Z : Fix}
/-- a list that is data stays as it is -/
theorem lst_on {A : Nat → Addr} {H : Hp} {v : L2.V} {l : List α} (hm : noBo m = true) (rv : Rm Z A Ve H m v (enc l)) : ∃ a vs, v = .ref a ∧ H a = some (.lst vs) ∧ RpA Z.K (hp Z (OwV A Ve) H (frB m)) vs (l.map enc) ∧
    ∀ O' H2, Stt (OwV A Ve) O' H H2 → H2 a = some (.lst vs) := by
  have rv' := rm_frB hm rv
  obtain ⟨a, vs, rfl, e2, e3⟩ := rp_list rv'
  refine ⟨a, vs, rfl, hp_le _ _ e2, e3, fun O' H2 st => ?_⟩
  have e4 := stt_hp st _ _ e2
  exact hp_le _ _ e4
theorem tup_on {A : Nat → Addr} {H : Hp} {v : L2.V} {ds : List D} (hm : noBo m = true) (rv : Rm Z A Ve H m v (.tuple ds)) : ∃ a vs, v = .ref a ∧ SqT Z.K H a vs ∧ RpA Z.K (hp Z (OwV A Ve) H (frB m)) vs ds ∧
    ∀ O' H2, Stt (OwV A Ve) O' H H2 → SqT Z.K H2 a vs := by
  have rv' := rm_frB hm rv
  obtain ⟨a, vs, rfl, e2, e3⟩ := rp_tuple rv'
  refine ⟨a, vs, rfl, sqT_same hp_le e2, e3, fun O' H2 st => ?_⟩
  exact sqT_same hp_le (sqT_same (stt_hp st) e2)
theorem hp_none {O O' : Addr → Prop} {H H2 : Hp} {bb : Bool} {T : Addr} (st : Stt O O' H H2) (hT : H2 T = none) : hp Z O H bb T = none := by
  cases e : hp Z O H bb T with
  | none => rfl
  | some o =>
    have := hp_le _ _ (stt_hp st _ _ e)
    rw [hT] at this
    cases this
/-- over a tuple -/
theorem i_tup {f : Ac γ β} (mk : β → List α) (h : SE X Ve m p iter f) (hmk : ∀ x, enc x = .tuple ((mk x).map enc) := by exact fun _ => rfl) (hm : noBo m = true := by rfl) : SI X Ve (frB m) p tg iter (op1 (fun x => some (mk x)) f) := ⟨fun Z W hK tk => (pi_tup (h.run Z W hK tk)).weak fun σ H R q => by
  obtain ⟨g, A, j, q⟩ := q
  refine ⟨g, A, j, ?_⟩
  unfold op1 bindA optA at q
  cases ef : f g with
  | bad => simp only [ef] at q
  | exc x g1 => simp only [ef] at q; exact q
  | ok x g1 =>
    simp only [ef] at q
    intro v H1 j1 gr sm rv
    rw [hmk] at rv
    obtain ⟨a, vs, rfl, e1, e3, on⟩ := tup_on hm rv
    rw [hK] at e1 on e3
    refine ⟨a, rfl, ⟨vs, e1⟩, q _ H1 j1 gr sm fun O' H2 st i => ?_⟩
    have e5 := on _ _ st
    have el := e3.length
    rw [hK]
    refine ⟨fun hi => ?_, fun hi => ⟨vs, e5, by omega⟩, fun x H3 d y hd => ?_⟩
    · obtain ⟨d, hd⟩ : ∃ d, ((mk x).map enc)[i]? = some d := ⟨_, List.getElem?_eq_getElem hi⟩
      obtain ⟨v, hv, _⟩ := e3.get hd
      exact ⟨vs, v, e5, hv⟩
    · obtain ⟨rfl, y⟩ := y
      obtain ⟨v, hv, rv⟩ := e3.get hd
      have := y vs e5
      rw [hv] at this
      cases this
      exact ⟨Same.refl _, Rp.mono un_le _ rv⟩⟩
def tl2 {α : Type} (p : α × α) : List α := [p.1, p.2]
def tl3 {α : Type} (p : T3 α α α) : List α := [p.a, p.b, p.c]
def tl4 {α : Type} (p : T4 α α α α) : List α := [p.a, p.b, p.c, p.d]
def tl5 {α : Type} (p : T5 α α α α α) : List α := [p.a, p.b, p.c, p.d, p.e]
/-- range(a, b) -/
theorem i_rng2 {f h : Ac γ Int} {p0 pos : Pos} (hx : X.mg "range" = none) (ha : SE X Ve m1 p1 a f) (hb : SE X Ve m2 p2 b h) (hm : okM m1 p2 = true := by rfl) (hg : Gl X "range" := by rfl) (hs : starEach [a, b] X.env = [(false, eval a X.env), (false, eval b X.env)] := by rfl) (hs2 : starEach [b] X.env = [(false, eval b X.env)] := by rfl) : SI X Ve true (p1 && p2) tg (.Call (.Name "range" p0) [a, b] [] pos) (op2 rng2 f h) :=
  ⟨fun Z W hK tk => (pi_range2 hg hx (pa_cons (ha.run Z W hK tk) (pa_cons (hb.run Z W hK tk) pa_nil hs2) (by rw [hs, hs2])) hs hs2).weak fun σ H R q => by
  obtain ⟨g, A, j, q⟩ := q
  refine ⟨g, A, j, ?_⟩
  unfold op2 bindA optA at q
  cases ef : f g with
  | bad => simp only [ef] at q
  | exc x g1 => simp only [ef] at q; exact q
  | ok n g1 =>
    simp only [ef] at q
    intro v H1 j1 gr sm rv
    cases rp_int rv.full
    refine ⟨g1, A, j1, ?_⟩
    cases eh : h g1 with
    | bad => simp only [eh] at q
    | exc x g2 =>
      simp only [eh] at q
      exact fun c H' mc j' gr' => q c H' mc j' (gr.trans gr')
    | ok k g2 =>
      simp only [eh] at q
      intro w H2 j2 gr2 sm2 rw2
      cases rp_int rw2.full
      unfold rng2 at q
      by_cases hn : (-(2 ^ 62) ≤ n ∧ n < 2 ^ 62) ∧ -(2 ^ 62) ≤ k ∧ k < 2 ^ 62
      · rw [if_pos hn] at q
        exact ⟨n, k, rfl, ⟨hn.1.1, hn.1.2, hn.2.1, hn.2.2⟩, q _ H2 j2 (gr.trans gr2) (fun z => (sm (Bool.and_eq_true_iff.mp z).1).trans (sm2 (Bool.and_eq_true_iff.mp z).2)) it_rng⟩
      · rw [if_neg hn] at q
        exact q.elim⟩
def revQ {α : Type} (l : List α) : Option (List α) := some l.reverse
/-- reversed(list) -/
theorem i_rev {f : Ac γ (List α)} {p0 pos : Pos} (hx : X.mg "reversed" = none) (h : SE X Ve m p a f) (hm : noBo m = true := by rfl) (hg : Gl X "reversed" := by rfl) (hs : starEach [a] X.env = [(false, eval a X.env)] := by rfl) : SI X Ve (frB m) p tg (.Call (.Name "reversed" p0) [a] [] pos) (op1 revQ f) :=
  ⟨fun Z W hK tk => (pi_reversed hg hx (pa_cons (h.run Z W hK tk) pa_nil hs) hs).weak fun σ H R q => by
  obtain ⟨g, A, j, q⟩ := q
  refine ⟨g, A, j, ?_⟩
  unfold op1 bindA optA revQ at q
  cases ef : f g with
  | bad => simp only [ef] at q
  | exc x g1 => simp only [ef] at q; exact q
  | ok l g1 =>
    simp only [ef] at q
    intro v H1 j1 gr sm rv
    obtain ⟨a, vs, rfl, e1, e3, on⟩ := lst_on hm rv
    have el := e3.length
    rw [List.length_map] at el
    refine ⟨a, vs, rfl, seqL e1, q _ H1 j1 gr sm fun O' H2 st i => ?_⟩
    have e5 := on _ _ st
    have hl : (l.reverse.map enc).length = vs.length := by rw [List.length_map, List.length_reverse, el]
    rw [hl]
    refine ⟨fun hi => ⟨hi, vs, vs[vs.length - 1 - i], seqL e5, List.getElem?_eq_getElem (by omega)⟩, fun hi => hi, fun x H3 d y hd => ?_⟩
    obtain ⟨rfl, y⟩ := y
    have hi : i < vs.length := by
      have := (List.getElem?_eq_some_iff.mp hd).1
      rw [hl] at this
      exact this
    rw [List.map_reverse, List.getElem?_reverse (by rw [List.length_map]; omega), List.length_map, ← el] at hd
    obtain ⟨v, hv, rv⟩ := e3.get hd
    have := y vs (seqL e5)
    rw [hv] at this
    cases this
    exact ⟨Same.refl _, Rp.mono un_le _ rv⟩⟩
def enumL {α : Type} (l : List α) : List (Int × α) := l.zipIdx.map fun q => ((q.2 : Int), q.1)
theorem enumL_get {α : Type} {l : List α} {i : Nat} : (enumL l)[i]? = (l[i]?).map fun a => ((i : Int), a) := by
  unfold enumL
  rw [List.getElem?_map, List.getElem?_zipIdx]
  cases l[i]? with
  | none => rfl
  | some a => simp
theorem enumL_length {α : Type} {l : List α} : (enumL l).length = l.length := by
  unfold enumL
  rw [List.length_map, List.length_zipIdx]
def enumQ {α : Type} (l : List α) : Option (List (Int × α)) := some (enumL l)
/-- enumerate(list) -/
theorem i_enum {f : Ac γ (List α)} {p0 pos tpos : Pos} {elts : List Expr} {kk : Nat} (hx : X.mg "enumerate" = none) (h : SE X Ve m p a f) (hm : noBo m = true := by rfl) (hg : Gl X "enumerate" := by rfl) (hs : starEach [a] X.env = [(false, eval a X.env)] := by rfl) : SI X Ve (frB m) p (.Tuple elts kk tpos) (.Call (.Name "enumerate" p0) [a] [] pos) (op1 enumQ f) :=
  ⟨fun Z W hK tk => (pi_enum hg hx (pa_cons (h.run Z W hK tk) pa_nil hs) hs).weak fun σ H R q => by
  obtain ⟨g, A, j, q⟩ := q
  refine ⟨g, A, j, ?_⟩
  unfold op1 bindA optA enumQ at q
  cases ef : f g with
  | bad => simp only [ef] at q
  | exc x g1 => simp only [ef] at q; exact q
  | ok l g1 =>
    simp only [ef] at q
    intro v H1 j1 gr sm rv
    obtain ⟨a, vs, rfl, e1, e3, on⟩ := lst_on hm rv
    have el := e3.length
    rw [List.length_map] at el
    refine ⟨a, vs, rfl, seqL e1, q _ H1 j1 gr sm fun O' H2 st i => ?_⟩
    have e5 := on _ _ st
    have hl : ((enumL l).map enc).length = vs.length := by rw [List.length_map, enumL_length, el]
    rw [hl]
    refine ⟨fun hi => ⟨vs, vs[i], seqL e5, List.getElem?_eq_getElem hi⟩, fun hi => ⟨vs, seqL e5, hi⟩, fun x H3 d y hd => ?_⟩
    obtain ⟨T, x', rfl, hT, rfl, y⟩ := y
    rw [List.getElem?_map, enumL_get, Option.map_map] at hd
    cases ea : l[i]? with
    | none => rw [ea] at hd; cases hd
    | some al =>
      rw [ea] at hd
      cases hd
      obtain ⟨v, hv, rv⟩ := e3.get (by rw [List.getElem?_map, ea]; rfl)
      have := y vs (seqL e5)
      rw [hv] at this
      cases this
      exact ⟨same_new hT, .tup (un_new hT (hp_none st hT) upd_same) (.cons (.int _) (.cons (Rp.mono un_le _ rv) .nil))⟩⟩
def zipQ {α β : Type} (l : List α) (k : List β) : Option (List (α × β)) := some (l.zip k)
/-- zip(list, list) -/
theorem i_zip {f : Ac γ (List α)} {h : Ac γ (List β)} {p0 pos tpos : Pos} {elts : List Expr} {kk : Nat} (hx : X.mg "zip" = none) (ha : SE X Ve m1 p1 a f) (hb : SE X Ve m2 p2 b h) (hm : okM m1 p2 = true := by rfl) (hm1 : noBo m1 = true := by rfl) (hm2 : noBo m2 = true := by rfl) (hg : Gl X "zip" := by rfl) (hs : starEach [a, b] X.env = (false, eval a X.env) :: starEach [b] X.env := by rfl) (hs2 : starEach [b] X.env = (false, eval b X.env) :: starEach [] X.env := by rfl) (hpl : (backTo pos (starEach [b] X.env)).any (·.1) = false := by rfl) :
    SI X Ve (frB m1 && frB m2) (p1 && p2) (.Tuple elts kk tpos) (.Call (.Name "zip" p0) [a, b] [] pos) (op2 zipQ f h) :=
  ⟨fun Z W hK tk => (pi_zip hg hx (pa_cons (ha.run Z W hK tk) (pa_cons (hb.run Z W hK tk) pa_nil hs2) hs) hs hpl).weak fun σ H R q => by
  obtain ⟨g, A, j, q⟩ := q
  refine ⟨g, A, j, ?_⟩
  unfold op2 bindA optA zipQ at q
  cases ef : f g with
  | bad => simp only [ef] at q
  | exc x g1 => simp only [ef] at q; exact q
  | ok l g1 =>
    simp only [ef] at q
    intro v H1 j1 gr sm rv
    refine ⟨g1, A, j1, ?_⟩
    cases eh : h g1 with
    | bad => simp only [eh] at q
    | exc x g2 =>
      simp only [eh] at q
      exact fun c H' mc j' gr' => q c H' mc j' (gr.trans gr')
    | ok k g2 =>
      simp only [eh] at q
      intro w H2 j2 gr2 sm2 rw2
      have rv2 := rv.step gr2 sm2 hm
      obtain ⟨a, vs, rfl, e1, e3, on⟩ := lst_on hm1 rv2
      obtain ⟨a', vs', rfl, e1', e3', on'⟩ := lst_on hm2 rw2
      have el := e3.length
      have el' := e3'.length
      rw [List.length_map] at el el'
      refine ⟨a, a', vs, vs', rfl, seqL e1, seqL e1', q _ H2 j2 (gr.trans gr2) (fun z => (sm (Bool.and_eq_true_iff.mp z).1).trans (sm2 (Bool.and_eq_true_iff.mp z).2)) fun O' H3 st i => ?_⟩
      have e5 := on _ _ st
      have e5' := on' _ _ st
      have hl : ((l.zip k).map enc).length = min vs.length vs'.length := by rw [List.length_map, List.length_zip, el, el']
      rw [hl]
      refine ⟨fun hi => ⟨vs, vs', vs[i], vs'[i], seqL e5, seqL e5', List.getElem?_eq_getElem (by omega), List.getElem?_eq_getElem (by omega)⟩, fun hi => ⟨vs, vs', seqL e5, seqL e5', by omega⟩, fun x H4 d y hd => ?_⟩
      obtain ⟨T, x', y', rfl, hT, rfl, y1, y2⟩ := y
      have hi : i < min vs.length vs'.length := by
        have := (List.getElem?_eq_some_iff.mp hd).1
        rw [hl] at this
        exact this
      have ea : l[i]? = some l[i] := List.getElem?_eq_getElem (by omega)
      have eb : k[i]? = some k[i] := List.getElem?_eq_getElem (by omega)
      have ez : (l.zip k)[i]? = some (l[i], k[i]) := List.getElem?_zip_eq_some.mpr ⟨ea, eb⟩
      rw [List.getElem?_map, ez] at hd
      cases hd
      obtain ⟨v, hv, rv⟩ := e3.get (by rw [List.getElem?_map, ea]; rfl)
      obtain ⟨v', hv', rv'⟩ := e3'.get (by rw [List.getElem?_map, eb]; rfl)
      have t1 := y1 vs (seqL e5)
      have t2 := y2 vs' (seqL e5')
      rw [hv] at t1
      rw [hv'] at t2
      cases t1
      cases t2
      have le1 : Same (hp Z (OwV A Ve) H2 (frB m1)) (hp Z (OwV A Ve) H2 (frB m1 && frB m2)) := by
        cases frB m1 with
        | true => cases frB m2 with
          | true => exact Same.refl _
          | false => exact gh_fh
        | false => exact Same.refl _
      have le2 : Same (hp Z (OwV A Ve) H2 (frB m2)) (hp Z (OwV A Ve) H2 (frB m1 && frB m2)) := by
        cases frB m1 with
        | true => exact Same.refl _
        | false => cases frB m2 with
          | true => exact gh_fh
          | false => exact Same.refl _
      exact ⟨same_new hT, .tup (un_new hT (hp_none st hT) upd_same) (.cons (Rp.mono (le1.trans un_le) _ rv) (.cons (Rp.mono (le2.trans un_le) _ rv') .nil))⟩⟩
end
/-! ### what the defs take: free built-in names, classes of refusals -/
structure Bi (mg : Str → Option Value) : Prop where
  len : mg "len" = none
  abs : mg "abs" = none
  max : mg "max" = none
  min : mg "min" = none
  int : mg "int" = none
  sum : mg "sum" = none
  all : mg "all" = none
  any : mg "any" = none
  list : mg "list" = none
  tuple : mg "tuple" = none
  sorted : mg "sorted" = none
  set : mg "set" = none
  range : mg "range" = none
  enumerate : mg "enumerate" = none
  zip : mg "zip" = none
  reversed : mg "reversed" = none
  isinstance : mg "isinstance" = none
  divmod : mg "divmod" = none
  str : mg "str" = none
  bool : mg "bool" = none
  dict : mg "dict" = none
  repr : mg "repr" = none
structure XCls (K : PySem.W.Frag) (mg : Str → Option Value) (x : Str) : Prop where
  ex : ∃ C : Addr, mg x = some (.ref C) ∧ PySem.W.excIn K C [.type "ValueError", .type "Exception", .type "BaseException", .type "object"] "ValueError.__new__" = true ∧ PySem.W.keepIn K (.ref C) = true ∧ PySem.W.subIn K (.ref C) (.type "BaseException") = some true ∧ PySem.W.typeIn K (.ref C) = some (.type "type")
theorem XCls.of {K : PySem.W.Frag} {mg : Str → Option Value} {x : Str} {C : Addr} (h : mg x = some (.ref C)) (e : PySem.W.excIn K C [.type "ValueError", .type "Exception", .type "BaseException", .type "object"] "ValueError.__new__" = true ∧ PySem.W.keepIn K (.ref C) = true ∧ PySem.W.subIn K (.ref C) (.type "BaseException") = some true ∧ PySem.W.typeIn K (.ref C) = some (.type "type")) : XCls K mg x := ⟨C, h, e⟩
theorem x_raise {X : Cx} {γ β : Type} {C : FC γ β} {xj : XJ γ} {Ve Ve' : Ev γ} {x m : Str} {jj : Nat} {p p2 pos pos2 : Pos} (hx : XOk xj Ve) (hc : X.calm = true) (c : XCls X.K X.mg x) (hg : Gl X x := by rfl) (hdb : (x == ("__debug__" : Str)) = false := by decide) :
    SS X C xj Ve Ve' (.Raise (some (.Call (.Name x p) [.Constant (.str m) jj p2] [] pos)) none pos2) (raiseS x) := by
  obtain ⟨_, h, a1, a2, a3, a4⟩ := c.ex
  exact c_raise hx hc a1 h a2 a3 a4 hg hdb
def CXw (P : Program) : CXT := fun outer H s E u s' => ∃ w, L2.CX P w outer H s E u s'
theorem no_exc {P : Program} {H : Hp} {s s' : Shared} {e : Value} (h : CXw P [] H s (fun _ _ _ => False) e s') : False := by
  obtain ⟨_, _, _, _, _, _, _, _, _, _, _, _, _, z⟩ := h
  exact z
theorem cxw {P : Program} {w : World} {K : PySem.W.Frag} {mg : Str → Option Value} {base : Heap} {k : Nat} {f : Addr} {fd : FuncData} {ps : List Str} {sp : Sp} (F : FnOk P w K mg base (L2.CX P w) k f fd ps sp) : FnOk P w K mg base (CXw P) k f fd ps sp :=
  ⟨F.len, fun A outer s H args us vs Q E hr he hb hv hs => codeAny_mono (F.run A outer s H args us vs Q E hr he hb hv hs) fun r s' c => by
    unfold CR at c ⊢
    split <;> simp_all
    exact ⟨w, c⟩⟩
/-- the law's promise at a script -/
theorem law_says {K : PySem.W.Frag} {mg : Str → Option Value} {F : List Int × Unit → FRes Bool Unit} {pa : List Int × Unit → List Par} (hpa : ∀ a, pa a = [.scr a.1]) {ns : List Int} (hF : F (ns, ()) = .ok true ()) {H : Hp} {a : Addr} (hS : SqL K H a (ns.map V.int)) :
    spOf K mg .fr pa enc (fun _ => []) F [.ref a] H (fun v _ => v = .bl true) fun _ _ _ => False := by
  refine ⟨(ns, ()), fun _ => False, fun x z => z.elim, ?_, ?_, ?_⟩
  · rw [hpa]
    exact ⟨⟨a, rfl, sqL_same (fun x o e => hide_mk (fun z => z) e) hS⟩, trivial⟩
  · rw [hpa]
    exact fun i j x h => nomatch h
  · rw [hF]
    intro v H' c
    have r : Rp K (hide (fun a => Mut (H a)) H') v (enc true) := c.ret
    exact rp_bl r
end HL
/-! Fl: what is known behind an action: the plain side. -/
namespace HL
open PySem PySem.Spec PyProof.Rows L2

section
variable {γ α β δ ε τ ι : Type}
def Res.post (r : Res γ α) (Q : α → γ → Prop) (X : Str → γ → Prop) : Prop := match r with
  | .ok a g => Q a g
  | .exc x g => X x g
  | .bad => False
def SRes.post (r : SRes γ β) (N : γ → Prop) (R : β → γ → Prop) (X : Str → γ → Prop) : Prop := match r with
  | .nx g => N g
  | .rt b g => R b g
  | .exc x g => X x g
  | .bad => False
def FRes.post (r : FRes β ι) (Q : β → ι → Prop) (X : Str → Prop) : Prop := match r with
  | .ok b i => Q b i
  | .exc x => X x
  | .bad => False
/-- no exception -/
def nX {γ : Type} : Str → γ → Prop := fun _ _ => False
def nXF : Str → Prop := fun _ => False
def opt (o : Option α) (Q : α → Prop) : Prop := match o with
  | some a => Q a
  | none => False
theorem rImp {r : Res γ α} {Q Q' : α → γ → Prop} {X X' : Str → γ → Prop} (h : r.post Q X) (hq : ∀ a g, Q a g → Q' a g) (hx : ∀ x g, X x g → X' x g) : r.post Q' X' := by
  cases r with
  | ok a g => exact hq _ _ h
  | exc x g => exact hx _ _ h
  | bad => exact h
theorem sImp {r : SRes γ β} {N N' : γ → Prop} {R R' : β → γ → Prop} {X X' : Str → γ → Prop} (h : r.post N R X) (hn : ∀ g, N g → N' g) (hr : ∀ a g, R a g → R' a g) (hx : ∀ x g, X x g → X' x g) : r.post N' R' X' := by
  cases r with
  | nx g => exact hn _ h
  | rt a g => exact hr _ _ h
  | exc x g => exact hx _ _ h
  | bad => exact h
theorem fImp {r : FRes β ι} {Q Q' : β → ι → Prop} {X X' : Str → Prop} (h : r.post Q X) (hq : ∀ a g, Q a g → Q' a g) (hx : ∀ x, X x → X' x) : r.post Q' X' := by
  cases r with
  | ok a g => exact hq _ _ h
  | exc x => exact hx _ h
  | bad => exact h
/-- .. with no exception -/
theorem fUse {r : FRes β ι} {Q Q' : β → ι → Prop} {X' : Str → Prop} (h : r.post Q nXF) (hq : ∀ a g, Q a g → Q' a g) : r.post Q' X' := fImp h hq fun x z => z.elim
theorem rUse {r : Res γ α} {Q Q' : α → γ → Prop} {X' : Str → γ → Prop} (h : r.post Q nX) (hq : ∀ a g, Q a g → Q' a g) : r.post Q' X' := rImp h hq fun x g z => z.elim
theorem sUse {r : SRes γ β} {N N' : γ → Prop} {R R' : β → γ → Prop} {X' : Str → γ → Prop} (h : r.post N R nX) (hn : ∀ g, N g → N' g) (hr : ∀ a g, R a g → R' a g) : r.post N' R' X' := sImp h hn hr fun x g z => z.elim
theorem FRes.post_eq {r : FRes β ι} {b : β} {i : ι} (h : r.post (fun x y => x = b ∧ y = i) nXF) : r = .ok b i := by
  cases r with
  | ok a g => obtain ⟨rfl, rfl⟩ := h; rfl
  | exc x => exact h.elim
  | bad => exact h.elim
theorem FRes.eq_post {r : FRes β ι} {b : β} {i : ι} {Q : β → ι → Prop} {X : Str → Prop} (h : r = .ok b i) (q : Q b i) : r.post Q X := by rw [h]; exact q

/-! ### expressions -/
variable {Q : α → γ → Prop} {X : Str → γ → Prop} {g : γ}
theorem p_pure {x : γ → α} : (pureA x g).post Q X ↔ Q (x g) g := Iff.rfl
theorem p_bind {f : Ac γ α} {k : α → Ac γ β} {Q : β → γ → Prop} : (bindA f k g).post Q X ↔ (f g).post (fun a g1 => (k a g1).post Q X) X := by
  unfold bindA
  cases f g <;> exact Iff.rfl
theorem p_opt {o : Option α} : (optA (γ := γ) o g).post Q X ↔ opt o fun a => Q a g := by
  unfold optA
  cases o <;> exact Iff.rfl
theorem p_op1 {k : α → Option β} {f : Ac γ α} {Q : β → γ → Prop} : (op1 k f g).post Q X ↔ (f g).post (fun a g1 => opt (k a) fun b => Q b g1) X := by
  unfold op1
  rw [p_bind]
  simp only [p_opt]
theorem p_op2 {k : α → β → Option δ} {f : Ac γ α} {h : Ac γ β} {Q : δ → γ → Prop} : (op2 k f h g).post Q X ↔ (f g).post (fun a g1 => (h g1).post (fun b g2 => opt (k a b) fun c => Q c g2) X) X := by
  unfold op2
  rw [p_bind]
  simp only [p_bind, p_opt]
theorem p_op3 {k : α → β → δ → Option ε} {f : Ac γ α} {h : Ac γ β} {l : Ac γ δ} {Q : ε → γ → Prop} : (op3 k f h l g).post Q X ↔ (f g).post (fun a g1 => (h g1).post (fun b g2 => (l g2).post (fun c g3 => opt (k a b c) fun d => Q d g3) X) X) X := by
  unfold op3
  rw [p_bind]
  simp only [p_bind, p_opt]
theorem p_and {f h : Ac γ Bool} {Q : Bool → γ → Prop} : (andA f h g).post Q X ↔ (f g).post (fun b g1 => if b = true then (h g1).post Q X else Q false g1) X := by
  unfold andA
  rw [p_bind]
  apply iff_of_eq
  congr 1
  funext b g1
  cases b <;> rfl
theorem p_or {f h : Ac γ Bool} {Q : Bool → γ → Prop} : (orA f h g).post Q X ↔ (f g).post (fun b g1 => if b = true then Q true g1 else (h g1).post Q X) X := by
  unfold orA
  rw [p_bind]
  apply iff_of_eq
  congr 1
  funext b g1
  cases b <;> rfl
theorem p_not {f : Ac γ Bool} {Q : Bool → γ → Prop} : (notA f g).post Q X ↔ (f g).post (fun b g1 => Q (!b) g1) X := by
  unfold notA
  rw [p_op1]
  exact Iff.rfl
theorem p_ite {c : Ac γ Bool} {f h : Ac γ α} : (iteA c f h g).post Q X ↔ (c g).post (fun b g1 => if b = true then (f g1).post Q X else (h g1).post Q X) X := by
  unfold iteA
  rw [p_bind]
  apply iff_of_eq
  congr 1
  funext b g1
  cases b <;> rfl
theorem p_pair {f : Ac γ α} {h : Ac γ τ} {Q : α × τ → γ → Prop} : (pairA f h g).post Q X ↔ (f g).post (fun a g1 => (h g1).post (fun b g2 => Q (a, b) g2) X) X := by
  unfold pairA
  rw [p_bind]
  simp only [p_bind, p_pure]
theorem p_scr {x : γ → List Int} {k : List Int → Option δ} {Q : δ → γ → Prop} : (scrOp x k g).post Q X ↔ opt (k (x g)) fun d => Q d g := by
  unfold scrOp
  cases k (x g) <;> exact Iff.rfl
theorem p_ixO {x : γ → List α} {h : Ac γ Int} : (ixO x h g).post Q X ↔ (h g).post (fun k g1 => opt (atI (x g1) k) fun d => Q d g1) X := by
  unfold ixO
  rw [p_bind]
  apply iff_of_eq
  congr 1
  funext k g1
  cases atI (x g1) k <;> rfl
theorem p_sl {f : Ac γ (List α)} {l h : Ac γ (Option Int)} {Q : List α → γ → Prop} : (slA f l h g).post Q X ↔ (f g).post (fun x g1 => (l g1).post (fun lo g2 => (h g2).post (fun hi g3 => Q (cut lo hi x) g3) X) X) X := by
  unfold slA
  rw [p_bind]
  simp only [p_bind, p_pure]
theorem p_call {args : γ → τ → α} {F : α → FRes β ι} {fA : Ac γ τ} {Q : β → γ → Prop} : (callA args F fA g).post Q X ↔ (fA g).post (fun t g1 => (F (args g1 t)).post (fun b _ => Q b g1) fun x => X x g1) X := by
  unfold callA
  rw [p_bind]
  apply iff_of_eq
  congr 1
  funext t g1
  cases F (args g1 t) <;> rfl
theorem p_callIo {args : γ → τ → α} {put : γ → ι → γ} {F : α → FRes β ι} {fA : Ac γ τ} {Q : β → γ → Prop} : (callIo args put F fA g).post Q X ↔ (fA g).post (fun t g1 => (F (args g1 t)).post (fun b i => Q b (put g1 i)) nXF) X := by
  unfold callIo
  rw [p_bind]
  apply iff_of_eq
  congr 1
  funext t g1
  cases F (args g1 t) <;> rfl
theorem p_comp {f : Ac γ (List α)} {set : γ → α → γ} {c : Ac γ Bool} {e : Ac γ δ} {Q : List δ → γ → Prop} : (compA f set c e g).post Q X ↔ (f g).post (fun l g1 => l.length ≤ LIM ∧ (compR set c e l g1).post Q X) X := by
  unfold compA
  rw [p_bind]
  apply iff_of_eq
  congr 1
  funext l g1
  by_cases h : l.length ≤ LIM
  · simp only [h, if_true, true_and]
  · simp only [h, if_false, false_and]
    rfl

/-! ### what the operators give -/
theorem o_some' {a : α} {Q : α → Prop} : opt (some a) Q ↔ Q a := Iff.rfl
theorem o_ite {c : Prop} [Decidable c] {a : α} {Q : α → Prop} : opt (if c then some a else none) Q ↔ c ∧ Q a := by
  by_cases h : c
  · simp only [h, if_true, true_and]; exact Iff.rfl
  · simp only [h, if_false, false_and]; exact Iff.rfl
def MulOk (a b : Int) : Prop := a.natAbs.log2 + b.natAbs.log2 < 1000000
def DivOk (b : Int) : Prop := b ≠ 0 ∧ b.natAbs.log2 < 9000
theorem o_add {a b : Int} {Q : Int → Prop} : opt (addI a b) Q ↔ Q (a + b) := Iff.rfl
theorem o_sub {a b : Int} {Q : Int → Prop} : opt (subI a b) Q ↔ Q (a - b) := Iff.rfl
theorem o_mul {a b : Int} {Q : Int → Prop} : opt (mulI a b) Q ↔ MulOk a b ∧ Q (a * b) := o_ite
theorem o_fdiv {a b : Int} {Q : Int → Prop} : opt (fdivI a b) Q ↔ DivOk b ∧ Q (a.fdiv b) := o_ite
theorem o_mod {a b : Int} {Q : Int → Prop} : opt (modI a b) Q ↔ b ≠ 0 ∧ Q (a.fmod b) := o_ite
theorem o_pow {a b : Int} {Q : Int → Prop} : opt (powI a b) Q ↔ (0 ≤ b ∧ b ≤ 1000000 ∧ a.natAbs < 2 ^ 64) ∧ Q (a ^ b.toNat) := o_ite
theorem o_lt {a b : Int} {Q : Bool → Prop} : opt (ltI a b) Q ↔ Q (decide (a < b)) := Iff.rfl
theorem o_le {a b : Int} {Q : Bool → Prop} : opt (leI a b) Q ↔ Q (decide (a ≤ b)) := Iff.rfl
theorem o_gt {a b : Int} {Q : Bool → Prop} : opt (gtI a b) Q ↔ Q (decide (b < a)) := Iff.rfl
theorem o_ge {a b : Int} {Q : Bool → Prop} : opt (geI a b) Q ↔ Q (decide (b ≤ a)) := Iff.rfl
theorem o_neg {a : Int} {Q : Int → Prop} : opt (negI a) Q ↔ Q (-a) := Iff.rfl
theorem o_eq [DecidableEq α] {a b : α} {Q : Bool → Prop} : opt (eqQ a b) Q ↔ Q (decide (a = b)) := Iff.rfl
theorem o_ne [DecidableEq α] {a b : α} {Q : Bool → Prop} : opt (neQ a b) Q ↔ Q (!decide (a = b)) := Iff.rfl
theorem o_len {l : List α} {Q : Int → Prop} : opt (lenQ l) Q ↔ Q (l.length : Int) := Iff.rfl
theorem o_abs {a : Int} {Q : Int → Prop} : opt (absQ a) Q ↔ Q (a.natAbs : Int) := by
  have : (if a < 0 then -a else a) = (a.natAbs : Int) := by split <;> omega
  unfold absQ
  rw [this]
  exact Iff.rfl
theorem o_max {a b : Int} {Q : Int → Prop} : opt (max2Q a b) Q ↔ Q (max a b) := by
  have : (if b > a then b else a) = max a b := by split <;> omega
  unfold max2Q
  rw [this]
  exact Iff.rfl
theorem o_min {a b : Int} {Q : Int → Prop} : opt (min2Q a b) Q ↔ Q (min a b) := by
  have : (if b < a then b else a) = min a b := by split <;> omega
  unfold min2Q
  rw [this]
  exact Iff.rfl
theorem o_intB {a : Bool} {Q : Int → Prop} : opt (intB a) Q ↔ Q (b2i a) := Iff.rfl
theorem o_sum {l : List Int} {Q : Int → Prop} : opt (sumQ l) Q ↔ Q l.sum := Iff.rfl
theorem o_all {l : List Bool} {Q : Bool → Prop} : opt (allQ l) Q ↔ Q (l.all id) := Iff.rfl
theorem o_any {l : List Bool} {Q : Bool → Prop} : opt (anyQ l) Q ↔ Q (l.any id) := Iff.rfl
theorem o_list {l : List α} {Q : List α → Prop} : opt (listQ l) Q ↔ Q l := Iff.rfl
theorem o_cat {l k : List α} {Q : List α → Prop} : opt (catQ l k) Q ↔ l.length + k.length ≤ 1000000 ∧ Q (l ++ k) := o_ite
theorem o_rev {l : List α} {Q : List α → Prop} : opt (revQ l) Q ↔ Q l.reverse := Iff.rfl
theorem o_enum {l : List α} {Q : List (Int × α) → Prop} : opt (enumQ l) Q ↔ Q (enumL l) := Iff.rfl
theorem o_zip {l : List α} {k : List β} {Q : List (α × β) → Prop} : opt (zipQ l k) Q ↔ Q (l.zip k) := Iff.rfl
theorem o_countI {l : List Int} {k : Int} {Q : Int → Prop} : opt (countI l k) Q ↔ Q (l.count k : Nat) := Iff.rfl
theorem o_rng1 {n : Int} {Q : List Int → Prop} : opt (rng1 n) Q ↔ (-(2 ^ 62) ≤ n ∧ n < 2 ^ 62) ∧ Q (rangeL 0 n.toNat) := by
  unfold rng1
  exact o_ite
theorem o_rng2 {a n : Int} {Q : List Int → Prop} : opt (rng2 a n) Q ↔ ((-(2 ^ 62) ≤ a ∧ a < 2 ^ 62) ∧ -(2 ^ 62) ≤ n ∧ n < 2 ^ 62) ∧ Q (rangeL a (n - a).toNat) := by
  unfold rng2
  exact o_ite
theorem at_nat {l : List α} {i : Nat} : atI l (i : Int) = l[i]? := by
  unfold atI ixN
  rw [if_pos (Int.natCast_nonneg i)]
  by_cases h : i < l.length
  · rw [if_pos (by omega)]
    simp
  · rw [if_neg (by omega)]
    simp [List.getElem?_eq_none (Nat.le_of_not_lt h)]
theorem at_int {l : List α} {k : Int} (h : 0 ≤ k) : atI l k = l[k.toNat]? := by
  have := at_nat (l := l) (i := k.toNat)
  rwa [Int.toNat_of_nonneg h] at this
/-- a place within -/
theorem at_mem {l : List α} {k : Int} (h : 0 ≤ k) (h2 : k < l.length) : ∃ a, atI l k = some a ∧ a ∈ l := by
  rw [at_int h]
  have : k.toNat < l.length := by omega
  exact ⟨l[k.toNat], List.getElem?_eq_getElem this, List.getElem_mem this⟩
theorem o_at {l : List α} {k : Int} {Q : α → Prop} (h : 0 ≤ k) (h2 : k < l.length) (q : ∀ a ∈ l, Q a) : opt (atI l k) Q := by
  obtain ⟨a, e, m⟩ := at_mem h h2
  rw [e]
  exact q a m
theorem o_at0 {a : α} {l : List α} {Q : α → Prop} : opt (atI (a :: l) 0) Q ↔ Q a := by
  have : atI (a :: l) 0 = some a := at_nat (l := a :: l) (i := 0)
  rw [this]
  exact Iff.rfl
theorem o_at1 {a b : α} {l : List α} {Q : α → Prop} : opt (atI (a :: b :: l) 1) Q ↔ Q b := by
  have : atI (a :: b :: l) 1 = some b := at_nat (l := a :: b :: l) (i := 1)
  rw [this]
  exact Iff.rfl
theorem o_at2 {a b c : α} {l : List α} {Q : α → Prop} : opt (atI (a :: b :: c :: l) 2) Q ↔ Q c := by
  have : atI (a :: b :: c :: l) 2 = some c := at_nat (l := a :: b :: c :: l) (i := 2)
  rw [this]
  exact Iff.rfl
theorem set_nat {l : List α} {i : Nat} {a : α} (h : i < l.length) : setAt l (i : Int) a = some (l.set i a) := by
  unfold setAt ixN
  rw [if_pos (Int.natCast_nonneg i), if_pos (by omega)]
  simp
theorem o_set0 {a c : α} {l : List α} {Q : List α → Prop} : opt (setAt (a :: l) 0 c) Q ↔ Q (c :: l) := by
  have : setAt (a :: l) 0 c = some (c :: l) := set_nat (l := a :: l) (i := 0) (a := c) (by simp)
  rw [this]
  exact Iff.rfl
theorem o_set1 {a b c : α} {l : List α} {Q : List α → Prop} : opt (setAt (a :: b :: l) 1 c) Q ↔ Q (a :: c :: l) := by
  have : setAt (a :: b :: l) 1 c = some (a :: c :: l) := set_nat (l := a :: b :: l) (i := 1) (a := c) (by simp)
  rw [this]
  exact Iff.rfl
theorem o_set2 {a b d c : α} {l : List α} {Q : List α → Prop} : opt (setAt (a :: b :: d :: l) 2 c) Q ↔ Q (a :: b :: c :: l) := by
  have : setAt (a :: b :: d :: l) 2 c = some (a :: b :: c :: l) := set_nat (l := a :: b :: d :: l) (i := 2) (a := c) (by simp)
  rw [this]
  exact Iff.rfl

/-! ### statements -/
variable {N : γ → Prop} {R : β → γ → Prop}
theorem q_bind {f h : Sc γ β} : (bindS f h g).post N R X ↔ (f g).post (fun g1 => (h g1).post N R X) R X := by
  unfold bindS
  cases f g <;> exact Iff.rfl
theorem q_do {f : Ac γ α} {k : α → Sc γ β} : (doS f k g).post N R X ↔ (f g).post (fun a g1 => (k a g1).post N R X) X := by
  unfold doS
  cases f g <;> exact Iff.rfl
theorem q_set {set : γ → α → γ} {f : Ac γ α} : (setS (β := β) set f g).post N R X ↔ (f g).post (fun a g1 => N (set g1 a)) X := q_do
theorem q_ret {f : Ac γ β} : (retS f g).post N R X ↔ (f g).post R X := q_do
theorem q_drop {f : Ac γ α} : (dropS (β := β) f g).post N R X ↔ (f g).post (fun _ g1 => N g1) X := q_do
theorem q_if {c : Ac γ Bool} {f h : Sc γ β} : (ifS c f h g).post N R X ↔ (c g).post (fun b g1 => if b = true then (f g1).post N R X else (h g1).post N R X) X := by
  unfold ifS
  rw [q_do]
  apply iff_of_eq
  congr 1
  funext b g1
  cases b <;> rfl
theorem q_nx : (nxS (β := β) g).post N R X ↔ N g := Iff.rfl
theorem q_raise {x : Str} : (raiseS (β := β) x g).post N R X ↔ X x g := Iff.rfl
theorem q_app {get : γ → List α} {put : γ → List α → γ} {f : Ac γ α} : (appS (β := β) get put f g).post N R X ↔ (f g).post (fun a g1 => (get g1).length < LIM ∧ N (put g1 (get g1 ++ [a]))) X := by
  unfold appS
  rw [q_do]
  apply iff_of_eq
  congr 1
  funext a g1
  by_cases h : (get g1).length < LIM
  · simp only [h, if_true, true_and]; rfl
  · simp only [h, if_false, false_and]; rfl
theorem q_ext {get : γ → List α} {put : γ → List α → γ} {f : Ac γ (List α)} : (extS (β := β) get put f g).post N R X ↔ (f g).post (fun a g1 => (get g1).length + a.length < LIM ∧ N (put g1 (get g1 ++ a))) X := by
  unfold extS
  rw [q_do]
  apply iff_of_eq
  congr 1
  funext a g1
  by_cases h : (get g1).length + a.length < LIM
  · simp only [h, if_true, true_and]; rfl
  · simp only [h, if_false, false_and]; rfl
theorem q_six {get : γ → List α} {put : γ → List α → γ} {f : Ac γ α} {h : Ac γ Int} : (sixS (β := β) get put f h g).post N R X ↔ (f g).post (fun a g1 => (h g1).post (fun i g2 => opt (setAt (get g2) i a) fun l => N (put g2 l)) X) X := by
  unfold sixS
  rw [q_do]
  apply iff_of_eq
  congr 1
  funext a g1
  rw [q_do]
  congr 1
  funext i g2
  cases setAt (get g2) i a <;> rfl
theorem q_aug {k : Int → Int → Option Int} {get : γ → Int} {set : γ → Int → γ} {f : Ac γ Int} : (augS (β := β) k get set f g).post N R X ↔ (f g).post (fun b g1 => opt (k (get g) b) fun c => N (set g1 c)) X := by
  unfold augS
  rw [q_do]
  apply iff_of_eq
  congr 1
  funext b g1
  cases k (get g) b <;> rfl
theorem q_augIx {k : Int → Int → Option Int} {get : γ → List Int} {put : γ → List Int → γ} {h f : Ac γ Int} : (augIxS (β := β) k get put h f g).post N R X ↔ (h g).post (fun i g1 => opt (atI (get g1) i) fun x => (f g1).post (fun b g2 => opt (k x b) fun c => opt (setAt (get g2) i c) fun l => N (put g2 l)) X) X := by
  unfold augIxS
  rw [q_do]
  apply iff_of_eq
  congr 1
  funext i g1
  cases atI (get g1) i with
  | none => rfl
  | some x =>
    show (doS f _ g1).post N R X = (f g1).post _ X
    rw [q_do]
    congr 1
    funext b g2
    cases k x b with
    | none => rfl
    | some c =>
      show (match setAt (get g2) i c with | some l => SRes.nx (put g2 l) | none => SRes.bad).post N R X = opt (setAt (get g2) i c) fun l => N (put g2 l)
      cases setAt (get g2) i c <;> rfl
theorem q_for {f : Ac γ (List α)} {set : γ → α → γ} {body : Sc γ β} : (forS f set body g).post N R X ↔ (f g).post (fun l g1 => (forR set body l g1).post N R X) X := q_do
theorem q_fin {body : Sc γ β} {init : τ → γ} {io : γ → ι} {nxr : Option β} {a : τ} {Q : β → ι → Prop} {X : Str → Prop} : (finF body init io nxr a).post Q X ↔ (body (init a)).post (fun g => opt nxr fun b => Q b (io g)) (fun b g => Q b (io g)) fun x _ => X x := by
  unfold finF
  cases body (init a) with
  | nx g => cases nxr <;> exact Iff.rfl
  | rt b g => exact Iff.rfl
  | exc x g => exact Iff.rfl
  | bad => exact Iff.rfl

/-! ### loops -/
/-- an invariant by what is walked and what is left -/
theorem for_inv {set : γ → α → γ} {body : Sc γ β} {l : List α} (I : List α → List α → γ → Prop) (h0 : I [] l g) (hN : ∀ g, I l [] g → N g)
    (hb : ∀ (d : List α) (a : α) (r : List α) (g : γ), l = d ++ a :: r → I d (a :: r) g → (body (set g a)).post (fun g' => I (d ++ [a]) r g') R X) : (forR set body l g).post N R X := by
  have : ∀ (r d : List α) (g : γ), l = d ++ r → I d r g → (forR set body r g).post N R X := by
    intro r
    induction r with
    | nil =>
      intro d g e h
      rw [List.append_nil] at e
      subst e
      exact hN g h
    | cons a r ih =>
      intro d g e h
      show (bindS body (forR set body r) (set g a)).post N R X
      rw [q_bind]
      exact sImp (hb d a r g e h) (fun g' h' => ih (d ++ [a]) g' (by rw [e]; simp) h') (fun _ _ z => z) fun _ _ z => z
  exact this l [] g rfl h0
/-- an invariant of the state alone -/
theorem for_all {set : γ → α → γ} {body : Sc γ β} {l : List α} (I : γ → Prop) (h0 : I g) (hN : ∀ g, I g → N g)
    (hb : ∀ a ∈ l, ∀ g, I g → (body (set g a)).post I R X) : (forR set body l g).post N R X :=
  for_inv (fun _ _ g => I g) h0 hN fun d a r g e h => hb a (by rw [e]; simp) g h
theorem while_inv {c : Ac γ Bool} {body : Sc γ β} (I : γ → Prop) (μ : γ → Nat) (h0 : I g) (hf : μ g < FUEL)
    (hs : ∀ g, I g → (c g).post (fun b g1 => if b = true then (body g1).post (fun g2 => I g2 ∧ μ g2 < μ g) R X else N g1) X) : (whileS c body g).post N R X := by
  have : ∀ (n : Nat) (g : γ), I g → μ g < n → (whS c body n g).post N R X := by
    intro n
    induction n with
    | zero => intro g _ h; exact absurd h (Nat.not_lt_zero _)
    | succ n ih =>
      intro g h hm
      show (doS c (fun b => if b = true then bindS body (whS c body n) else nxS) g).post N R X
      rw [q_do]
      refine rImp (hs g h) (fun b g1 q => ?_) fun _ _ z => z
      cases b with
      | false => exact q
      | true =>
        simp only [if_true] at q ⊢
        rw [q_bind]
        exact sImp q (fun g2 ⟨h2, m2⟩ => ih g2 h2 (Nat.lt_of_lt_of_le m2 (Nat.le_of_lt_succ hm))) (fun _ _ z => z) fun _ _ z => z
  exact this _ g h0 hf
/-- a comprehension: an invariant, and what the list is -/
theorem comp_inv {set : γ → α → γ} {c : Ac γ Bool} {e : Ac γ δ} {l : List α} {Q : List δ → γ → Prop} (I : List α → List δ → γ → Prop) (h0 : I [] [] g) (hQ : ∀ ds g, I l ds g → Q ds g)
    (hb : ∀ (d : List α) (a : α) (r : List α) (ds : List δ) (g : γ), l = d ++ a :: r → I d ds g → (c (set g a)).post (fun b g1 => if b = true then (e g1).post (fun x g2 => I (d ++ [a]) (ds ++ [x]) g2) nX else I (d ++ [a]) ds g1) nX) : (compR set c e l g).post Q X := by
  have : ∀ (r d : List α) (ds : List δ) (g : γ), l = d ++ r → I d ds g → (compR set c e r g).post (fun xs g => I l (ds ++ xs) g) nX := by
    intro r
    induction r with
    | nil =>
      intro d ds g e h
      rw [List.append_nil] at e
      subst e
      show I l (ds ++ []) g
      rw [List.append_nil]
      exact h
    | cons a r ih =>
      intro d ds g hl h
      have hc := hb d a r ds g hl h
      unfold compR
      cases ec : c (set g a) with
      | bad => rw [ec] at hc; exact hc.elim
      | exc x g1 => rw [ec] at hc; exact hc.elim
      | ok b g1 =>
        rw [ec] at hc
        have hc' : if b = true then (e g1).post (fun x g2 => I (d ++ [a]) (ds ++ [x]) g2) nX else I (d ++ [a]) ds g1 := hc
        cases b with
        | false =>
          simp only [Bool.false_eq_true, if_false] at hc' ⊢
          exact ih (d ++ [a]) ds g1 (by rw [hl]; simp) hc'
        | true =>
          simp only [if_true] at hc' ⊢
          cases ee : e g1 with
          | bad => rw [ee] at hc'; exact hc'.elim
          | exc x g2 => rw [ee] at hc'; exact hc'.elim
          | ok x g2 =>
            rw [ee] at hc'
            have h2 : I (d ++ [a]) (ds ++ [x]) g2 := hc'
            have h3 := ih (d ++ [a]) (ds ++ [x]) g2 (by rw [hl]; simp) h2
            simp only
            cases er : compR set c e r g2 with
            | bad => rw [er] at h3; exact h3.elim
            | exc y g3 => rw [er] at h3; exact h3.elim
            | ok xs g3 =>
              rw [er] at h3
              have h4 : I l ((ds ++ [x]) ++ xs) g3 := h3
              show I l (ds ++ (x :: xs)) g3
              simpa using h4
  refine rUse (this l [] [] g rfl h0) fun xs g h => hQ xs g ?_
  simpa using h
/-- a comprehension of which each item is worked out alike -/
theorem comp_map {set : γ → α → γ} {e : Ac γ δ} {l : List α} {Q : List δ → γ → Prop} (I : γ → Prop) (w : α → δ) (h0 : I g) (hQ : ∀ g, I g → Q (l.map w) g)
    (hb : ∀ a ∈ l, ∀ g, I g → (e (set g a)).post (fun x g2 => x = w a ∧ I g2) nX) : (compR set yesA e l g).post Q X := by
  refine comp_inv (fun d ds g => ds = d.map w ∧ I g) ⟨rfl, h0⟩ (fun ds g ⟨e, h⟩ => by rw [e]; exact hQ g h) fun d a r ds g hl ⟨e1, h⟩ => ?_
  unfold yesA
  rw [p_pure]
  simp only [if_true]
  exact rUse (hb a (by rw [hl]; simp) g h) fun x g2 ⟨e2, h2⟩ => ⟨by rw [e1, e2]; simp, h2⟩
/-- .. with tests -/
theorem comp_filter {set : γ → α → γ} {c : Ac γ Bool} {e : Ac γ δ} {l : List α} {Q : List δ → γ → Prop} (I : γ → Prop) (t : α → Bool) (w : α → δ) (h0 : I g) (hQ : ∀ g, I g → Q ((l.filter t).map w) g)
    (hb : ∀ a ∈ l, ∀ g, I g → (c (set g a)).post (fun b g1 => b = t a ∧ (t a = true → (e g1).post (fun x g2 => x = w a ∧ I g2) nX) ∧ (t a = false → I g1)) nX) : (compR set c e l g).post Q X := by
  refine comp_inv (fun d ds g => ds = (d.filter t).map w ∧ I g) ⟨rfl, h0⟩ (fun ds g ⟨e, h⟩ => by rw [e]; exact hQ g h) fun d a r ds g hl ⟨e1, h⟩ => ?_
  refine rUse (hb a (by rw [hl]; simp) g h) fun b g1 ⟨hb1, hb2, hb3⟩ => ?_
  subst hb1
  cases ht : t a with
  | true =>
    simp only [if_true]
    exact rUse (hb2 ht) fun x g2 ⟨e2, h2⟩ => ⟨by rw [e1, e2, List.filter_append]; simp [ht], h2⟩
  | false =>
    simp only [Bool.false_eq_true, if_false]
    exact ⟨by rw [e1, List.filter_append]; simp [ht], hb3 ht⟩
/-- a comprehension of which each item has a property -/
theorem comp_all {set : γ → α → γ} {e : Ac γ δ} {l : List α} {Q : List δ → γ → Prop} (I : γ → Prop) (P : δ → Prop) (h0 : I g) (hQ : ∀ ds g, ds.length = l.length → (∀ d ∈ ds, P d) → I g → Q ds g)
    (hb : ∀ a ∈ l, ∀ g, I g → (e (set g a)).post (fun x g2 => P x ∧ I g2) nX) : (compR set yesA e l g).post Q X := by
  refine comp_inv (fun d ds g => ds.length = d.length ∧ (∀ x ∈ ds, P x) ∧ I g) ⟨rfl, fun x h => (List.not_mem_nil h).elim, h0⟩ (fun ds g ⟨e1, e2, h⟩ => hQ ds g e1 e2 h) fun d a r ds g hl ⟨e1, e2, h⟩ => ?_
  unfold yesA
  rw [p_pure]
  simp only [if_true]
  refine rUse (hb a (by rw [hl]; simp) g h) fun x g2 ⟨p2, h2⟩ => ⟨by simp [e1], fun y hy => ?_, h2⟩
  rcases List.mem_append.mp hy with hy | hy
  · exact e2 y hy
  · rw [List.mem_singleton.mp hy]; exact p2
end

/-! ### how great a number is -/
@[irreducible] def Bd (n : Nat) (a : Int) : Prop := a.natAbs < 2 ^ n
theorem Bd.mono {n m : Nat} {a : Int} (h : Bd n a) (k : n ≤ m) : Bd m a := by
  unfold Bd at *
  exact Nat.lt_of_lt_of_le h (Nat.pow_le_pow_right (by decide) k)
theorem pow_add1 (n m : Nat) : 2 ^ n + 2 ^ m ≤ 2 ^ (n + m + 1) := by
  have h1 : 2 ^ n ≤ 2 ^ (n + m) := Nat.pow_le_pow_right (by decide) (Nat.le_add_right _ _)
  have h2 : 2 ^ m ≤ 2 ^ (n + m) := Nat.pow_le_pow_right (by decide) (Nat.le_add_left _ _)
  rw [Nat.pow_succ]
  omega
theorem Bd.add {n m : Nat} {a b : Int} (h : Bd n a) (k : Bd m b) : Bd (n + m + 1) (a + b) := by
  unfold Bd at *
  have := pow_add1 n m
  have := Int.natAbs_add_le a b
  omega
theorem Bd.sub {n m : Nat} {a b : Int} (h : Bd n a) (k : Bd m b) : Bd (n + m + 1) (a - b) := by
  unfold Bd at *
  have := pow_add1 n m
  have := Int.natAbs_sub_le a b
  omega
theorem Bd.neg {n : Nat} {a : Int} (h : Bd n a) : Bd n (-a) := by
  unfold Bd at *
  rwa [Int.natAbs_neg]
theorem Bd.mul {n m : Nat} {a b : Int} (h : Bd n a) (k : Bd m b) : Bd (n + m) (a * b) := by
  unfold Bd at *
  rw [Int.natAbs_mul, Nat.pow_add]
  rcases Nat.eq_zero_or_pos b.natAbs with e | e
  · rw [e, Nat.mul_zero]
    exact Nat.mul_pos (Nat.pow_pos (by decide)) (Nat.pow_pos (by decide))
  · exact Nat.mul_lt_mul_of_lt_of_le h (Nat.le_of_lt k) (Nat.pow_pos (by decide))
theorem Bd.of_le {n : Nat} {a b : Int} (h : Bd n a) (k : b.natAbs ≤ a.natAbs) : Bd n b := by
  unfold Bd at *
  exact Nat.lt_of_le_of_lt k h
theorem Bd.abs {n : Nat} {a : Int} (h : Bd n a) : Bd n (a.natAbs : Int) := by
  unfold Bd at *
  rwa [Int.natAbs_natCast]
theorem Bd.nat {n : Nat} {a : Int} (h0 : -(2 ^ n : Nat) < a) (h : a < (2 ^ n : Nat)) : Bd n a := by
  unfold Bd
  omega
theorem log2_le {n : Nat} {a : Int} (h : Bd n a) : a.natAbs.log2 ≤ n := by
  rcases Nat.eq_zero_or_pos a.natAbs with e | e
  · rw [e]; exact Nat.zero_le _
  · unfold Bd at h
    have : a.natAbs.log2 < n := (Nat.log2_lt (by omega)).mpr h
    omega
theorem mulOk {n m : Nat} {a b : Int} (h : Bd n a) (k : Bd m b) (e : n + m < 1000000) : MulOk a b := by
  have h1 := log2_le h
  have h2 := log2_le k
  unfold MulOk
  omega
theorem divOk {n : Nat} {b : Int} (h : Bd n b) (k : b ≠ 0) (e : n < 9000) : DivOk b := ⟨k, Nat.lt_of_le_of_lt (log2_le h) e⟩
theorem fuel {n : Nat} {a : Int} (h : Bd n a) (e : n ≤ 20000) : a.natAbs < FUEL := by
  unfold FUEL
  unfold Bd at h
  exact Nat.lt_of_lt_of_le h (Nat.pow_le_pow_right (by decide) e)
theorem fmod_lt {a b : Int} (h : 0 < b) : 0 ≤ a.fmod b ∧ a.fmod b < b := ⟨Int.fmod_nonneg_of_pos a h, Int.fmod_lt_of_pos a h⟩
theorem Bd.fdiv {n : Nat} {a b : Int} (h : Bd n a) (hb : b ≠ 0) : Bd n (a.fdiv b) := by
  refine h.of_le ?_
  rcases Int.lt_or_lt_of_ne hb with e | e
  · have h2 : a.fdiv b = (-a).fdiv (-b) := by simp
    rw [h2, ← Int.natAbs_neg a, Int.fdiv_eq_ediv_of_nonneg _ (by omega)]
    exact Int.natAbs_ediv_le_natAbs _ _
  · rw [Int.fdiv_eq_ediv_of_nonneg _ (by omega)]
    exact Int.natAbs_ediv_le_natAbs _ _
def lg (a : Int) : Nat := a.natAbs.log2 + 1
theorem bdLit {a : Int} : Bd (lg a) a := by
  unfold Bd
  exact Nat.lt_log2_self
theorem Bd.fmod {n : Nat} {a b : Int} (h : Bd n b) (k : 0 < b) : Bd n (a.fmod b) := by
  refine h.of_le ?_
  have := fmod_lt (a := a) k
  omega
theorem Bd.max {n m : Nat} {a b : Int} (h : Bd n a) (k : Bd m b) : Bd (Nat.max n m) (Max.max a b) := by
  rcases Int.le_total a b with e | e
  · rw [Int.max_eq_right e]; exact k.mono (Nat.le_max_right _ _)
  · rw [Int.max_eq_left e]; exact h.mono (Nat.le_max_left _ _)
theorem Bd.min {n m : Nat} {a b : Int} (h : Bd n a) (k : Bd m b) : Bd (Nat.max n m) (Min.min a b) := by
  rcases Int.le_total a b with e | e
  · rw [Int.min_eq_left e]; exact h.mono (Nat.le_max_left _ _)
  · rw [Int.min_eq_right e]; exact k.mono (Nat.le_max_right _ _)
theorem Bd.pow {n k : Nat} {a : Int} (h : Bd n a) : Bd (n * k + 1) (a ^ k) := by
  unfold Bd at *
  rw [Int.natAbs_pow, Nat.pow_succ, Nat.pow_mul]
  have h1 : a.natAbs ^ k ≤ (2 ^ n) ^ k := Nat.pow_le_pow_left (Nat.le_of_lt h) k
  have h2 : 0 < (2 ^ n) ^ k := Nat.pow_pos (Nat.pow_pos (by decide))
  omega
end HL
/-! Fm: divmod, own[k], name = e, in, is, chains, max, sorted, xs[::-1], range with steps. -/
namespace HL
open PySem PySem.Spec PyProof.Rows L2
theorem units65 {k : Nat} {A : Around} (h : Room k A) : A.units + 65 < cLine := by
  have := h.un
  omega
/-! ### divmod -/
def divmodQ (i j : Int) : Option (Int × Int) := if j ≠ 0 ∧ j.natAbs.log2 < 9000 then some (i.fdiv j, i.fmod j) else none
def rDivmod : List L2.V → Hp → VK → Prop := fun xs H Q => ∃ i j, xs = [.int i, .int j] ∧ CDivX i j ∧ ∀ p, H p = none → Q (.ref p) (upd H p (.tup [.int (i.fdiv j), .int (i.fmod j)]))
theorem call_divmodX {X : Cx} : CallR X (.builtin "divmod") rDivmod := by
  intro pins s σ H xs us Q I r h
  obtain ⟨i, j, rfl, hc, q⟩ := h
  obtain ⟨u, w', rfl, ⟨t, rfl⟩, ⟨t', rfl⟩⟩ := vals2 r
  refine divmod_int hc.1 ?_ (.inl (PyProof.noPylong_of_log2 hc.2))
  have hn : H s.heap.objs.size = none := I.hok.fresh (Nat.le_refl _)
  refine ⟨.ref s.heap.objs.size, upd H s.heap.objs.size (.tup [.int (i.fdiv j), .int (i.fmod j)]), ?_, rfl, q _ hn⟩
  exact I.laid (fun b o e => Heap.get?_push_of_some _ e) (Nat.le_refl _) ⟨by simp only [List.length_cons, List.length_nil]; rw [sizeLine_eq]; decide, [.int (i.fdiv j) s.toks, .int (i.fmod j) (s.toks + 1)], .cons ⟨_, rfl⟩ (.cons ⟨_, rfl⟩ .nil), ⟨_, Heap.get?_push_size s.heap rfl, rfl, 0, rfl⟩⟩
section
variable {X : Cx} {γ α β δ : Type} [Enc α] [Enc β] [Enc δ] {Ve : Ev γ} {m m1 m2 : Md} {p p1 p2 p3 : Bool} {e a b c : Expr} {pos : Pos}
theorem s_divmod {f h : Ac γ Int} {p0 : Pos} (hx : X.mg "divmod" = none) (ha : SE X Ve m1 p1 a f) (hb : SE X Ve m2 p2 b h) (hm : okM m1 p2 = true := by rfl) (hg : Gl X "divmod" := by rfl)
    (he : starEach (a :: [b]) X.env = (false, eval a X.env) :: starEach [b] X.env := by rfl) (he2 : starEach (b :: []) X.env = (false, eval b X.env) :: starEach [] X.env := by rfl) (hpl : (backTo pos (starEach [b] X.env)).any (·.1) = false := by rfl) :
    SE X Ve .fr (p1 && p2) (.Call (.Name "divmod" p0) [a, b] [] pos) (op2 divmodQ f h) :=
  s_b2 (id' := "divmod") (r := fun _ => rDivmod) call_divmodX (fun Z hK => fun A g σ H x y i k c Q j rx ry e q => by
    cases rp_int rx.full
    cases rp_int ry.full
    obtain ⟨hc, rfl⟩ := ite_some e
    refine ⟨i, k, rfl, hc, fun n hn => q (.ref n) _ (same_new hn) (j.new hn) ?_⟩
    have hn' := j.ghnew (o := .tup [.int (i.fdiv k), .int (i.fmod k)]) hn
    rw [ow_at] at hn'
    exact Rp.tup hn' (.cons (.int _) (.cons (.int _) .nil))) hx ha hb (by decide +kernel) hm hg (by decide) (by decide) he he2 hpl

/-! ### in, not in -/
def inQ {α : Type} [DecidableEq α] (a : α) (l : List α) : Option Bool := some (decide (a ∈ l))
def notinQ {α : Type} [DecidableEq α] (a : α) (l : List α) : Option Bool := some (!decide (a ∈ l))
variable [DecidableEq α] [EqE α]
theorem any_eqv (a : α) : ∀ l : List α, ((l.map enc).any fun z => PyData.eqv z (enc a)) = decide (a ∈ l)
  | [] => by simp
  | b :: l => by
    rw [List.map_cons, List.any_cons, any_eqv a l, EqE.eqv]
    by_cases h : b = a
    · simp [h]
    · have h' : ¬ a = b := fun z => h z.symm
      simp [h, h']
theorem kIn {Z : Fix} (hd : EqE.dep α < 64) : OpK Z (rInD Z.K) m1 m2 .fr (inQ (α := α)) Ve := opK_v fun H x y a b c Q rx ry e q => by
  obtain rfl := some_inj' e
  exact ⟨_, _, rx.dp _ (EqE.lay _), ry.dp _ (EqE.lay _), shaped_enc (Nat.le_of_lt hd) a, shaped_enc (α := List α) hd b, by rw [any_eqv]; exact q _ fun _ => .bl _⟩
theorem kNotin {Z : Fix} (hd : EqE.dep α < 64) : OpK Z (rNotInD Z.K) m1 m2 .fr (notinQ (α := α)) Ve := opK_v fun H x y a b c Q rx ry e q => by
  obtain rfl := some_inj' e
  exact ⟨_, _, rx.dp _ (EqE.lay _), ry.dp _ (EqE.lay _), shaped_enc (Nat.le_of_lt hd) a, shaped_enc (α := List α) hd b, by rw [any_eqv]; exact q _ fun _ => .bl _⟩
variable {f : Ac γ α} {h : Ac γ (List α)}
theorem s_in (hu : X.A.units + 65 < cLine) (ha : SE X Ve m1 p1 a f) (hb : SE X Ve m2 p2 b h) (hm : okM m1 p2 = true := by rfl) (hd : EqE.dep α < 64 := by decide) (hn : behindInMarks .In b = false := by rfl) : SE X Ve .fr (p1 && p2) (.Compare a [.In] [b] pos) (op2 inQ f h) :=
  s_cmp (r := fun K => rInD K) (op_inD hu) (fun Z hK => hK ▸ kIn hd) ha hb hm hn
theorem t_in (hu : X.A.units + 65 < cLine) (ha : SE X Ve m1 p1 a f) (hb : SE X Ve m2 p2 b h) (hm : okM m1 p2 = true := by rfl) (hd : EqE.dep α < 64 := by decide) (hn : behindInMarks .In b = false := by rfl) : ST X Ve (p1 && p2) (.Compare a [.In] [b] pos) (op2 inQ f h) :=
  t_cmp (r := fun K => rInD K) (op_inD hu) (fun Z hK => hK ▸ kIn hd) ha hb hm hn
theorem s_notin (hu : X.A.units + 65 < cLine) (ha : SE X Ve m1 p1 a f) (hb : SE X Ve m2 p2 b h) (hm : okM m1 p2 = true := by rfl) (hd : EqE.dep α < 64 := by decide) (hn : behindInMarks .NotIn b = false := by rfl) : SE X Ve .fr (p1 && p2) (.Compare a [.NotIn] [b] pos) (op2 notinQ f h) :=
  s_cmp (r := fun K => rNotInD K) (op_notInD hu) (fun Z hK => hK ▸ kNotin hd) ha hb hm hn
theorem t_notin (hu : X.A.units + 65 < cLine) (ha : SE X Ve m1 p1 a f) (hb : SE X Ve m2 p2 b h) (hm : okM m1 p2 = true := by rfl) (hd : EqE.dep α < 64 := by decide) (hn : behindInMarks .NotIn b = false := by rfl) : ST X Ve (p1 && p2) (.Compare a [.NotIn] [b] pos) (op2 notinQ f h) :=
  t_cmp (r := fun K => rNotInD K) (op_notInD hu) (fun Z hK => hK ▸ kNotin hd) ha hb hm hn
end
section
variable {X : Cx} {γ α β δ : Type} [Enc α] [Enc β] [Enc δ] {Ve : Ev γ} {m m1 m2 : Md} {p p1 p2 p3 : Bool} {e a b c : Expr} {pos : Pos}
/-! ### is -/
def isQ (a b : Bool) : Option Bool := some (decide (a = b))
def isntQ (a b : Bool) : Option Bool := some (!decide (a = b))
theorem kIs {Z : Fix} : OpK Z rIsB m1 m2 .fr isQ Ve := opK_v fun H x y a b c Q rx ry e q => by
  cases rp_bl rx
  cases rp_bl ry
  obtain rfl := some_inj' e
  exact ⟨a, b, rfl, rfl, q _ fun _ => .bl _⟩
theorem kIsnt {Z : Fix} : OpK Z rNotB m1 m2 .fr isntQ Ve := opK_v fun H x y a b c Q rx ry e q => by
  cases rp_bl rx
  cases rp_bl ry
  obtain rfl := some_inj' e
  exact ⟨a, b, rfl, rfl, q _ fun _ => .bl _⟩
theorem s_isB {f h : Ac γ Bool} (ha : SE X Ve m1 p1 a f) (hb : SE X Ve m2 p2 b h) (hm : okM m1 p2 = true := by rfl) : SE X Ve .fr (p1 && p2) (.Compare a [.Is] [b] pos) (op2 isQ f h) := s_cmp (r := fun _ => rIsB) op_isBl (fun Z hK => kIs) ha hb hm (nomark _)
theorem t_isB {f h : Ac γ Bool} (ha : SE X Ve m1 p1 a f) (hb : SE X Ve m2 p2 b h) (hm : okM m1 p2 = true := by rfl) : ST X Ve (p1 && p2) (.Compare a [.Is] [b] pos) (op2 isQ f h) := t_cmp (r := fun _ => rIsB) op_isBl (fun Z hK => kIs) ha hb hm (nomark _)
theorem s_isntB {f h : Ac γ Bool} (ha : SE X Ve m1 p1 a f) (hb : SE X Ve m2 p2 b h) (hm : okM m1 p2 = true := by rfl) : SE X Ve .fr (p1 && p2) (.Compare a [.IsNot] [b] pos) (op2 isntQ f h) := s_cmp (r := fun _ => rNotB) op_notBl (fun Z hK => kIsnt) ha hb hm (nomark _)
theorem t_isntB {f h : Ac γ Bool} (ha : SE X Ve m1 p1 a f) (hb : SE X Ve m2 p2 b h) (hm : okM m1 p2 = true := by rfl) : ST X Ve (p1 && p2) (.Compare a [.IsNot] [b] pos) (op2 isntQ f h) := t_cmp (r := fun _ => rNotB) op_notBl (fun Z hK => kIsnt) ha hb hm (nomark _)
/-- a thing that is not none as data -/
class NoN (α : Type) [Enc α] : Prop where
  nn : ∀ a : α, enc a ≠ .none
instance : NoN Int := ⟨fun _ h => nomatch h⟩
instance : NoN Bool := ⟨fun _ h => nomatch h⟩
instance : NoN Str := ⟨fun _ h => nomatch h⟩
instance {α : Type} [Enc α] : NoN (List α) := ⟨fun _ h => nomatch h⟩
instance {α β : Type} [Enc α] [Enc β] : NoN (α × β) := ⟨fun _ h => nomatch h⟩
instance {α β γ : Type} [Enc α] [Enc β] [Enc γ] : NoN (T3 α β γ) := ⟨fun _ h => nomatch h⟩
instance {α β γ δ : Type} [Enc α] [Enc β] [Enc γ] [Enc δ] : NoN (T4 α β γ δ) := ⟨fun _ h => nomatch h⟩
instance {α β γ δ ε : Type} [Enc α] [Enc β] [Enc γ] [Enc δ] [Enc ε] : NoN (T5 α β γ δ ε) := ⟨fun _ h => nomatch h⟩
theorem rp_non {K : PySem.W.Frag} {H : Hp} {v : L2.V} {d : D} (h : Rp K H v d) : (v = .non) ↔ d = .none := by
  cases h <;> simp [dkD]
theorem non_opt [NoN α] {K : PySem.W.Frag} {H : Hp} {v : L2.V} {o : Option α} (h : Rp K H v (enc o)) : decide (v = .non) = o.isNone := by
  have h1 := rp_non h
  cases o with
  | none =>
    have : v = .non := h1.mpr rfl
    simp [this]
  | some a =>
    have : ¬ v = .non := fun z => NoN.nn a (h1.mp z)
    simp [this]
def isNoneQ {α : Type} (o : Option α) : Option Bool := some o.isNone
def isSomeQ {α : Type} (o : Option α) : Option Bool := some (!o.isNone)
theorem uIsNone [NoN α] {Z : Fix} : UnK Z (fun v H Q => Q (.bl (decide (v = .non))) H) m1 .fr (isNoneQ (α := α)) Ve := unK_v fun H x o c Q rx e q => by
  obtain rfl := some_inj' e
  rw [non_opt rx]
  exact q _ fun _ => .bl _
theorem uNotNone [NoN α] {Z : Fix} : UnK Z (fun v H Q => Q (.bl (!decide (v = .non))) H) m1 .fr (isSomeQ (α := α)) Ve := unK_v fun H x o c Q rx e q => by
  obtain rfl := some_inj' e
  rw [non_opt rx]
  exact q _ fun _ => .bl _
theorem isN_pe {op : CmpOp} {r : L2.V → Hp → VK → Prop} {te : TE} {j p9} (ho : OpR X (compareOp op) (fun x y H Q => y = .non ∧ r x H Q)) (ha : PE X a te) (hn : behindInMarks op (.Constant .none j p9) = false) : PE X (.Compare a [op] [.Constant .none j p9] pos) (tUn r te) :=
  (pe_cmpR ho ha pe_non hn).weak fun σ H Q q => by
    show te σ H _
    exact (show te σ H fun x H1 => r x H1 Q from q) |> fun z => by
      have : (fun x H1 => (V.non = V.non ∧ r x H1 Q)) = fun x H1 => r x H1 Q := by
        funext x H1
        simp
      show te σ H (fun x H1 => tC .non σ H1 fun y H2 => y = .non ∧ r x H2 Q)
      show te σ H (fun x H1 => (V.non = V.non ∧ r x H1 Q))
      rw [this]
      exact z
theorem s_isNone [NoN α] {f : Ac γ (Option α)} {j p9} (ha : SE X Ve m p a f) : SE X Ve .fr p (.Compare a [.Is] [.Constant .none j p9] pos) (op1 isNoneQ f) := ⟨fun Z W hK tk => (isN_pe op_isN (ha.run Z W hK tk) (nomark _)).weak fun _ _ _ q => tUn_ok uIsNone q⟩
theorem s_notNone [NoN α] {f : Ac γ (Option α)} {j p9} (ha : SE X Ve m p a f) : SE X Ve .fr p (.Compare a [.IsNot] [.Constant .none j p9] pos) (op1 isSomeQ f) := ⟨fun Z W hK tk => (isN_pe op_notN (ha.run Z W hK tk) (nomark _)).weak fun _ _ _ q => tUn_ok uNotNone q⟩
theorem t_isNone [NoN α] {f : Ac γ (Option α)} {j p9} (ha : SE X Ve m p a f) (he : ∀ whole, isTrue (.Compare a [.Is] [.Constant .none j p9] pos) X.env whole = (do let v ← whole; standAt pos; holding [v] (truthy v)) := by intro _; rfl) : ST X Ve p (.Compare a [.Is] [.Constant .none j p9] pos) (op1 isNoneQ f) := t_val (s_isNone ha) he
/-! ### max, min of a list -/
def maxL (x : Int) (l : List Int) : Int := l.foldl max x
def minL (x : Int) (l : List Int) : Int := l.foldl min x
def maxLQ : List Int → Option Int
  | [] => none
  | x :: l => some (maxL x l)
def minLQ : List Int → Option Int
  | [] => none
  | x :: l => some (minL x l)
theorem maxL_spec : ∀ (l : List Int) (x : Int), (∀ m, m ∈ x :: l → (∀ y ∈ x :: l, y ≤ m) → m = maxL x l)
  | [], x => fun m hm _ => by
    show m = x
    simpa using hm
  | a :: l, x => fun m hm hy => by
    show m = maxL (max x a) l
    refine maxL_spec l (max x a) m ?_ fun y h => ?_
    · have h1 := hy x (by simp)
      have h2 := hy a (by simp)
      rcases List.mem_cons.mp hm with e | e
      · have : max x a = x := by omega
        rw [this, e]; simp
      · rcases List.mem_cons.mp e with e | e
        · have : max x a = a := by omega
          rw [this, e]; simp
        · simp [e]
    · rcases List.mem_cons.mp h with e | e
      · have h1 := hy x (by simp)
        have h2 := hy a (by simp)
        omega
      · exact hy y (by simp [e])
theorem minL_spec : ∀ (l : List Int) (x : Int), (∀ m, m ∈ x :: l → (∀ y ∈ x :: l, m ≤ y) → m = minL x l)
  | [], x => fun m hm _ => by
    show m = x
    simpa using hm
  | a :: l, x => fun m hm hy => by
    show m = minL (min x a) l
    refine minL_spec l (min x a) m ?_ fun y h => ?_
    · have h1 := hy x (by simp)
      have h2 := hy a (by simp)
      rcases List.mem_cons.mp hm with e | e
      · have : min x a = x := by omega
        rw [this, e]; simp
      · rcases List.mem_cons.mp e with e | e
        · have : min x a = a := by omega
          rw [this, e]; simp
        · simp [e]
    · rcases List.mem_cons.mp h with e | e
      · have h1 := hy x (by simp)
        have h2 := hy a (by simp)
        omega
      · exact hy y (by simp [e])
theorem s_maxL {f : Ac γ (List Int)} {p0 : Pos} (hc : X.calm = true) (hx : X.mg "max" = none) (ha : SE X Ve m p e f) (hg : Gl X "max" := by rfl) (he : starEach (e :: []) X.env = (false, eval e X.env) :: starEach [] X.env := by rfl) (hpl : (backTo pos (starEach [] X.env)).any (·.1) = false := by rfl) :
    SE X Ve .fr p (.Call (.Name "max" p0) [e] [] pos) (op1 maxLQ f) :=
  s_b1 (id := "max") (r := fun K => rMax K) (cr_max hc) (fun Z hK => fun A g σ H x l c Q j rx e q => by
    obtain ⟨t, vs, rfl, e2, e3⟩ := rm_els rx
    have ev := rpA_ints (ns := l) e3
    subst ev
    cases l with
    | nil => cases e
    | cons y l =>
      obtain rfl := some_inj' e
      exact ⟨t, y :: l, rfl, seqL e2, by simp, fun m hm hy => by rw [maxL_spec l y m hm hy]; exact q _ H (Same.refl H) j (.int _)⟩) hx ha (by decide +kernel) hg (by decide) (by decide) he he hpl
theorem s_minL {f : Ac γ (List Int)} {p0 : Pos} (hc : X.calm = true) (hx : X.mg "min" = none) (ha : SE X Ve m p e f) (hg : Gl X "min" := by rfl) (he : starEach (e :: []) X.env = (false, eval e X.env) :: starEach [] X.env := by rfl) (hpl : (backTo pos (starEach [] X.env)).any (·.1) = false := by rfl) :
    SE X Ve .fr p (.Call (.Name "min" p0) [e] [] pos) (op1 minLQ f) :=
  s_b1 (id := "min") (r := fun K => rMin K) (cr_min hc) (fun Z hK => fun A g σ H x l c Q j rx e q => by
    obtain ⟨t, vs, rfl, e2, e3⟩ := rm_els rx
    have ev := rpA_ints (ns := l) e3
    subst ev
    cases l with
    | nil => cases e
    | cons y l =>
      obtain rfl := some_inj' e
      exact ⟨t, y :: l, rfl, seqL e2, by simp, fun m hm hy => by rw [minL_spec l y m hm hy]; exact q _ H (Same.refl H) j (.int _)⟩) hx ha (by decide +kernel) hg (by decide) (by decide) he he hpl
/-! ### sorted ints -/
def sortIL (l : List Int) : List Int := l.mergeSort fun a b => decide (a ≤ b)
def sortIQ (l : List Int) : Option (List Int) := some (sortIL l)
theorem sortIL_perm (l : List Int) : (sortIL l).Perm l := List.mergeSort_perm l _
theorem sortIL_sorted (l : List Int) : (sortIL l).Pairwise (· ≤ ·) := by
  have h := List.pairwise_mergeSort (le := fun a b : Int => decide (a ≤ b)) (fun a b c h1 h2 => by simp at *; omega) (fun a b => by simp; omega) l
  exact h.imp fun h => by simpa using h
theorem sortIL_eq {l k : List Int} (hp : k.Perm l) (hs : k.Pairwise (· ≤ ·)) : k = sortIL l :=
  List.Perm.eq_of_pairwise (fun a b _ _ h1 h2 => Int.le_antisymm h1 h2) hs (sortIL_sorted l) (hp.trans (sortIL_perm l).symm)
theorem rpA_of_ints {K : PySem.W.Frag} {H : Hp} : ∀ ns : List Int, RpA K H (ns.map V.int) (ns.map enc)
  | [] => .nil
  | n :: ns => .cons (.int n) (rpA_of_ints ns)
theorem s_sortI {f : Ac γ (List Int)} {p0 : Pos} (hx : X.mg "sorted" = none) (ha : SE X Ve m p e f) (hg : Gl X "sorted" := by rfl) (he : starEach (e :: []) X.env = (false, eval e X.env) :: starEach [] X.env := by rfl) (hpl : (backTo pos (starEach [] X.env)).any (·.1) = false := by rfl) :
    SN X Ve p (.Call (.Name "sorted" p0) [e] [] pos) (op1 sortIQ f) :=
  s_b1N (id' := "sorted") (r := fun K => rSortedI K) cr_sortedI (fun Z hK => fun A g σ H x l c Q j rx e q => by
    obtain ⟨t, vs, rfl, e2, e3⟩ := rm_els rx
    obtain rfl := some_inj' e
    have ev := rpA_ints (ns := l) e3
    subst ev
    exact ⟨t, l, rfl, seqL e2, fun ns' n hp hs hn => by rw [sortIL_eq hp hs]; exact q n _ hn (rpA_of_ints _)⟩) hx ha (by decide +kernel) hg (by decide) (by decide) he hpl
/-! ### xs[::-1] -/
theorem s_rev {f : Ac γ (List α)} {k : Nat} {p1' p2' p3' : Pos} (ha : SE X Ve m p a f) (hels : ElsT X (α := α) Ve m := by first | exact fun _ _ _ _ _ _ _ j r => rm_elsT rfl r | exact fun _ _ _ _ _ _ _ j r => rm_elsF j r) :
    SN X Ve p (.Subscript a (.Slice none none (some (.UnaryOp .USub (.Constant (.int 1) k p1') p2')) p3') pos) (op1 revQ f) := ⟨fun Z W hK tk => (pe_revL (ha.run Z W hK tk)).weak fun σ H Q q =>
  tUnN_ok (r := fun x H Q => ∃ a xs, x = .ref a ∧ SqL X.K H a xs ∧ ∀ p, H p = none → Q (.ref p) (upd H p (.lst xs.reverse))) (m1 := m) (fun A g σ H x l c Q j rx e q => by
    obtain ⟨t, vs, rfl, e2, e3⟩ := hels Z A g σ H x l j rx
    obtain rfl := some_inj' e
    refine ⟨t, vs, rfl, seqL e2, fun n hn => q n _ hn ?_⟩
    rw [List.map_reverse]
    exact e3.reverse) q⟩
/-! ### a tuple's part from behind -/
theorem s_prN {f : Ac γ α} (n : Int) (pr : α → δ) {j p8 p9 : _} (ha : SE X Ve m p a f) (h : ∀ x : α, ∃ ds, enc x = .tuple ds ∧ atI ds (-n) = some (enc (pr x)) := by exact fun _ => ⟨_, rfl, rfl⟩) :
    SE X Ve (mdB (elM m)) p (.Subscript a (.UnaryOp .USub (.Constant (.int n) j p8) p9) pos) (op1 (fun x => some (pr x)) f) :=
  ⟨fun Z W hK tk => (pe_ix (r := rIxT X.K) ix_tup (ha.run Z W hK tk) (pe_un un_neg pe_int) (fun _ _ => rfl)).weak fun σ H Q q => by
    refine tUn_ok (r := fun x H Q => ∃ i, V.int n = .int i ∧ rIxT X.K x (.int (-i)) H Q) (m1 := m) (fun A g σ H x l c Q j rx e q => ?_) q
    obtain ⟨ds, e1, e2⟩ := h l
    rw [e1] at rx
    obtain ⟨t, vs, rfl, e3, e4⟩ := rm_tup (g := g) (σ := σ) rx
    obtain rfl := some_inj' e
    obtain ⟨v, e5, e6⟩ := rpA_at e4 e2
    exact ⟨n, rfl, t, vs, -n, v, rfl, rfl, hK ▸ e3, e5, q v H (Same.refl H) j (rm_hp e6)⟩⟩
end
end HL
/-! Fn: tuples of whole numbers of either sign: sorted, set, sorted(set), len(set). -/
namespace HL
open PySem PySem.Spec PyProof.Rows L2

/-! ### the order of tuples -/
def lexL : List Int → List Int → Bool
  | [], [] => false
  | [], _ :: _ => true
  | _ :: _, [] => false
  | a :: l, b :: k => if a = b then lexL l k else decide (a < b)
theorem lexL_asym : ∀ l k : List Int, lexL l k = true → lexL k l = false
  | [], [] => fun _ => rfl
  | [], _ :: _ => fun _ => rfl
  | _ :: _, [] => fun h => nomatch h
  | a :: l, b :: k => fun h => by
    unfold lexL at h ⊢
    by_cases e : a = b
    · rw [if_pos e] at h
      rw [if_pos e.symm]
      exact lexL_asym l k h
    · rw [if_neg e] at h
      rw [if_neg (Ne.symm e)]
      have := of_decide_eq_true h
      exact decide_eq_false (by omega)
theorem lexL_tr : ∀ x y z : List Int, lexL y x = false → lexL z y = false → lexL z x = false
  | [], [], [] => fun _ _ => rfl
  | [], [], _ :: _ => fun _ _ => rfl
  | [], _ :: _, [] => fun _ h => nomatch h
  | [], _ :: _, _ :: _ => fun _ _ => rfl
  | _ :: _, [], _ => fun h _ => nomatch h
  | _ :: _, _ :: _, [] => fun _ h => nomatch h
  | a :: l, b :: k, c :: m => fun h1 h2 => by
    unfold lexL at h1 h2 ⊢
    by_cases e1 : b = a
    · rw [if_pos e1] at h1
      by_cases e2 : c = b
      · rw [if_pos e2] at h2
        rw [if_pos (e2.trans e1)]
        exact lexL_tr l k m h1 h2
      · rw [if_neg e2] at h2
        rw [if_neg (by omega)]
        have := of_decide_eq_false h2
        exact decide_eq_false (by omega)
    · rw [if_neg e1] at h1
      have a1 := of_decide_eq_false h1
      by_cases e2 : c = b
      · rw [if_neg (by omega)]
        exact decide_eq_false (by omega)
      · rw [if_neg e2] at h2
        have a2 := of_decide_eq_false h2
        rw [if_neg (by omega)]
        exact decide_eq_false (by omega)
theorem lexL_anti : ∀ l k : List Int, lexL l k = false → lexL k l = false → l = k
  | [], [] => fun _ _ => rfl
  | [], _ :: _ => fun h _ => nomatch h
  | _ :: _, [] => fun _ h => nomatch h
  | a :: l, b :: k => fun h1 h2 => by
    unfold lexL at h1 h2
    by_cases e : a = b
    · rw [if_pos e] at h1
      rw [if_pos e.symm] at h2
      rw [e, lexL_anti l k h1 h2]
    · rw [if_neg e] at h1
      rw [if_neg (Ne.symm e)] at h2
      have a1 := of_decide_eq_false h1
      have a2 := of_decide_eq_false h2
      omega
theorem swoL {α : Type} (k : α → List Int) : SrtO.Swo fun v u => lexL (k v) (k u) := ⟨fun x y => lexL_asym _ _, fun x y z => lexL_tr _ _ _⟩
section
variable {prog : Program} {w : World} {A : Around} {s : Shared}
theorem kat_lex {fin : Bool} {Q : Bool → Shared → Prop} : ∀ {xs ys : List Value} {l k : List Int} (i : Nat), IntsAre xs l → IntsAre ys k → fin = decide (xs.length < ys.length) → Q (lexL l k) s → PySem.W.KatLex prog w A true fin Q (xs.zip ys) i s
  | _, _, _, _, i, .nil, .nil, hf, q => PySem.W.kat_nil (by rw [hf]; exact q)
  | _, _, _, _, i, .nil, .cons n t r, hf, q => PySem.W.kat_nil (by rw [hf]; exact q)
  | _, _, _, _, i, .cons n t r, .nil, hf, q => PySem.W.kat_nil (by rw [hf]; exact q)
  | _, _, _, _, i, .cons x t (vs := vs) (ns := l) r, .cons y u (vs := us) (ns := k) r', hf, q => by
    show PySem.W.KatLex prog w A true fin Q ((.int x t, .int y u) :: vs.zip us) i s
    refine PySem.W.kat_cons (SeqAt.EqAt.int_int x t y u prog w _ _ ?_)
    refine PySem.W.kat_go (fun e1 => ?_) (fun e1 => ?_)
    · have ex : x = y := by simpa using e1
      refine PySem.W.kat_yes (kat_lex (i + 1) r r' (by rw [hf]; simp) ?_)
      have : lexL (x :: l) (y :: k) = lexL l k := by
        show (if x = y then lexL l k else decide (x < y)) = _
        rw [if_pos ex]
      rw [this] at q
      exact q
    · have ex : ¬ x = y := by simpa using e1
      have e3 : lexL (x :: l) (y :: k) = decide (x < y) := by
        show (if x = y then lexL l k else decide (x < y)) = _
        rw [if_neg ex]
      rw [e3] at q
      refine PySem.W.kat_no ?_
      cases i with
      | zero => exact oneLt_int q
      | succ i => exact PySem.W.kat_one _ _ (PyProof.Rows.lt_int q)
theorem tups_cmp {vs : List Value} {k : Value → List Int} (hp : ∀ v ∈ vs, TS.TupInts s.heap v (k v)) : SrtO.Cmp prog w A s (tuples' true) (fun p => p.1 ∈ vs) (SrtO.lt2 fun v u => lexL (k v) (k u)) := by
  intro p q hm hm'
  obtain ⟨a, xs, e, ⟨o, ho, hc, n, hd⟩, hi⟩ := hp _ hm
  obtain ⟨a', xs', e', ⟨o', ho', hc', n', hd'⟩, hi'⟩ := hp _ hm'
  show wpAny (model prog w) A (keyLt' (tuples' true) p.1 q.1) (fun r s' => s' = s ∧ r = lexL (k p.1) (k q.1)) (fun _ _ => False) s
  rw [e] at hi ⊢
  rw [e'] at hi' ⊢
  refine PySem.W.kat_lt ho hd ho' hd' (kat_lex 0 hi hi' ?_ ⟨rfl, rfl⟩)
  simp
theorem firstsL {h : Heap} {k : Value → List Int} : ∀ {vs : List Value}, (∀ v ∈ vs, TS.TupInts h v (k v) ∧ k v ≠ []) → ∃ fs : List Value, PySem.W.KatTups h vs fs ∧ fs.length = vs.length ∧ ∀ f ∈ fs, ∃ x t, f = Value.int x t
  | [], _ => ⟨[], PySem.W.KatTups.nil, rfl, fun _ hm => by simp at hm⟩
  | v :: vs, hp => by
    obtain ⟨fs, h1, h2, h3⟩ := firstsL (vs := vs) fun v' hm => hp v' (List.mem_cons_of_mem _ hm)
    obtain ⟨⟨a, xs, e, ⟨o, ho, hc, n, hd⟩, hi⟩, hne⟩ := hp v List.mem_cons_self
    cases hk : k v with
    | nil => exact absurd hk hne
    | cons y l =>
      rw [hk] at hi
      obtain ⟨zs⟩ := xs
      cases hi with
      | cons n t r =>
        rw [e]
        refine ⟨_ :: fs, PySem.W.KatTups.cons ho hc hd rfl h1, by simp [h2], fun f hm => ?_⟩
        rcases List.mem_cons.mp hm with rfl | hm
        · exact ⟨_, _, rfl⟩
        · exact h3 f hm
theorem tups_sortable {a : Addr} {vs : List Value} {k : Value → List Int} (h0 : 0 < vs.length) (hp : ∀ v ∈ vs, TS.TupInts s.heap v (k v) ∧ k v ≠ []) (ha : ∀ o, s.heap.get? a = some o → o.cls ≠ .type "tuple") : SrtO.SortableO prog w A s a vs fun v u => lexL (k v) (k u) := by
  intro h' keep
  have hp' : ∀ v ∈ vs, TS.TupInts h' v (k v) ∧ k v ≠ [] := fun v hm => ⟨(hp v hm).1.keeps fun b o e c => keep b o (fun z => by subst z; exact ha o e c) e, (hp v hm).2⟩
  obtain ⟨fs, h1, h2, h3⟩ := firstsL hp'
  refine ⟨tuples' true, fun Q E hq => ?_, tups_cmp fun v hm => (hp' v hm).1⟩
  refine PySem.W.kat_kind (T := .type "int") h1 (by omega) (fun f hm => ?_) (by rfl) ?_
  · obtain ⟨x, t, rfl⟩ := h3 f hm
    exact PySem.W.Looks.now
  · have e : (Value.type "int" != Value.type "tuple") = true := by first | decide +kernel | rfl | decide
    rw [e]
    exact hq
end
end HL
/-! Fo: sorted of lists and of sets of tuples of whole numbers. -/
namespace HL
open PySem PySem.Spec PyProof.Rows L2

/-! ### kinds of tuples of whole numbers -/
class IT (α : Type) [Enc α] where
  key : α → List Int
  encI : ∀ a, enc a = dI (key a)
  inj : ∀ a b, key a = key b → a = b
  ne : ∀ a, key a ≠ []
instance : IT (Int × Int) := ⟨fun a => [a.1, a.2], fun _ => rfl, fun a b h => by
  obtain ⟨a1, a2⟩ := a
  obtain ⟨b1, b2⟩ := b
  simpa using h, fun _ h => nomatch h⟩
instance : IT (T3 Int Int Int) := ⟨fun a => [a.a, a.b, a.c], fun _ => rfl, fun a b h => by
  obtain ⟨a1, a2, a3⟩ := a
  obtain ⟨b1, b2, b3⟩ := b
  simpa using h, fun _ h => nomatch h⟩
instance : IT (T4 Int Int Int Int) := ⟨fun a => [a.a, a.b, a.c, a.d], fun _ => rfl, fun a b h => by
  obtain ⟨a1, a2, a3, a4⟩ := a
  obtain ⟨b1, b2, b3, b4⟩ := b
  simpa using h, fun _ h => nomatch h⟩
section
variable {α : Type} [Enc α] [IT α]
def leT (a b : α) : Bool := !lexL (IT.key b) (IT.key a)
def sortTL (l : List α) : List α := l.mergeSort leT
theorem sortTL_perm (l : List α) : (sortTL l).Perm l := List.mergeSort_perm l _
theorem leT_trans (a b c : α) (h1 : leT a b = true) (h2 : leT b c = true) : leT a c = true := by
  unfold leT at *
  simp only [Bool.not_eq_true'] at *
  exact lexL_tr _ _ _ h1 h2
theorem leT_total (a b : α) : (leT a b || leT b a) = true := by
  unfold leT
  cases h : lexL (IT.key b) (IT.key a) with
  | false => rfl
  | true => rw [lexL_asym _ _ h]; rfl
theorem leT_anti (a b : α) (h1 : leT a b = true) (h2 : leT b a = true) : a = b := by
  unfold leT at *
  simp only [Bool.not_eq_true'] at *
  exact IT.inj _ _ (lexL_anti _ _ h2 h1)
theorem sortTL_sorted (l : List α) : (sortTL l).Pairwise fun a b => leT a b = true := List.pairwise_mergeSort (le := leT) leT_trans leT_total l
theorem sortTL_eq {l k : List α} (hp : k.Perm l) (hs : k.Pairwise fun a b => leT a b = true) : k = sortTL l :=
  List.Perm.eq_of_pairwise (fun a b _ _ h1 h2 => leT_anti a b h1 h2) hs (sortTL_sorted l) (hp.trans (sortTL_perm l).symm)
def sortTQ (l : List α) : Option (List α) := some (sortTL l)
def uniq [DecidableEq α] : List α → List α
  | [] => []
  | a :: l => if a ∈ uniq l then uniq l else a :: uniq l
theorem mem_uniq [DecidableEq α] {a : α} : ∀ {l : List α}, a ∈ uniq l ↔ a ∈ l
  | [] => Iff.rfl
  | b :: l => by
    unfold uniq
    by_cases h : b ∈ uniq l
    · rw [if_pos h, mem_uniq, List.mem_cons]
      exact ⟨.inr, fun z => z.elim (fun e => e ▸ mem_uniq.mp h) fun z => z⟩
    · rw [if_neg h, List.mem_cons, List.mem_cons, mem_uniq]
theorem nodup_uniq [DecidableEq α] : ∀ l : List α, (uniq l).Nodup
  | [] => List.nodup_nil
  | a :: l => by
    unfold uniq
    by_cases h : a ∈ uniq l
    · rw [if_pos h]; exact nodup_uniq l
    · rw [if_neg h]; exact List.nodup_cons.mpr ⟨h, nodup_uniq l⟩
theorem len_uniq [DecidableEq α] : ∀ l : List α, (uniq l).length ≤ l.length
  | [] => Nat.le_refl _
  | a :: l => by
    unfold uniq
    have := len_uniq l
    by_cases h : a ∈ uniq l
    · rw [if_pos h, List.length_cons]; omega
    · rw [if_neg h, List.length_cons, List.length_cons]; omega
def sortSetL [DecidableEq α] (l : List α) : List α := sortTL (uniq l)
def sortSetQ [DecidableEq α] (l : List α) : Option (List α) := if l.length < 64 then some (sortSetL l) else none
def lenSetQ [DecidableEq α] (l : List α) : Option Int := if l.length < 64 then some ((uniq l).length : Int) else none
theorem sortSetL_eq [DecidableEq α] {l k : List α} (hm : ∀ a, a ∈ k ↔ a ∈ l) (hn : k.Nodup) (hs : k.Pairwise fun a b => leT a b = true) : k = sortSetL l :=
  sortTL_eq ((List.perm_ext_iff_of_nodup hn (nodup_uniq l)).mpr fun a => by rw [hm, mem_uniq]) hs
theorem mem_sortSetL [DecidableEq α] {l : List α} {a : α} : a ∈ sortSetL l ↔ a ∈ l := by
  unfold sortSetL
  rw [(sortTL_perm (uniq l)).mem_iff, mem_uniq]
theorem nodup_sortSetL [DecidableEq α] (l : List α) : (sortSetL l).Nodup := (sortTL_perm (uniq l)).nodup_iff.mpr (nodup_uniq l)
theorem sorted_sortSetL [DecidableEq α] (l : List α) : (sortSetL l).Pairwise fun a b => leT a b = true := sortTL_sorted _
/-! the values -/
variable {K : PySem.W.Frag} {Hv : Hp}
theorem rpI_sqT {t : Addr} {ns : List Int} (h : Rp K Hv (.ref t) (dI ns)) : SqT K Hv t (ns.map V.int) := by
  obtain ⟨a, vs, e, h1, h2⟩ := rp_tuple h
  cases e
  have : vs = ns.map V.int := rpA_ints (ns := ns) h2
  rw [← this]
  exact h1
theorem rpA_keys : ∀ {vs : List L2.V} (l : List α), RpA K Hv vs (l.map enc) → ∃ ks : List (Addr × List Int), vs = ks.map (fun p => V.ref p.1) ∧ ks.map (·.2) = l.map IT.key ∧ ∀ p ∈ ks, Rp K Hv (.ref p.1) (dI p.2)
  | _, [], .nil => ⟨[], rfl, rfl, fun p h => nomatch h⟩
  | _, a :: l, .cons r t => by
    obtain ⟨ks, h1, h2, h3⟩ := rpA_keys l t
    rw [IT.encI] at r
    obtain ⟨q, us, e, _⟩ := rp_tuple r
    subst e
    refine ⟨(q, IT.key a) :: ks, by rw [h1]; rfl, by simp [h2], fun p hp => ?_⟩
    rcases List.mem_cons.mp hp with e | hp
    · rw [e]; exact r
    · exact h3 p hp
theorem rpA_back : ∀ {ks : List (Addr × List Int)} {l : List α}, ks.map (·.2) = l.map IT.key → (∀ p ∈ ks, Rp K Hv (.ref p.1) (dI p.2)) → RpA K Hv (ks.map fun p => V.ref p.1) (l.map enc)
  | [], [], _, _ => .nil
  | [], _ :: _, h, _ => nomatch h
  | _ :: _, [], h, _ => nomatch h
  | p :: ks, a :: l, h, r => by
    rw [List.map_cons, List.map_cons, List.cons.injEq] at h
    refine .cons ?_ (rpA_back h.2 fun q hq => r q (List.mem_cons_of_mem _ hq))
    have := r p List.mem_cons_self
    rw [h.1, ← IT.encI] at this
    exact this
end
/-! ### sorted(list) -/
def rSortL (K : PySem.W.Frag) : List L2.V → Hp → VK → Prop := fun vs H Q => ∃ (a : Addr) (ks : List (Addr × List Int)), vs = [V.ref a] ∧ SqL K H a (ks.map fun p => V.ref p.1) ∧ (∀ p ∈ ks, SqT K H p.1 (p.2.map V.int) ∧ p.2 ≠ []) ∧
  ∀ (L : List (Addr × List Int)) (p : Addr), L.Perm ks → (L.Pairwise fun q r => lexL r.2 q.2 = false) → H p = none → Q (.ref p) (upd H p (.lst (L.map fun q => V.ref q.1)))
section
variable {X : Cx}
theorem tupI_of {pins : List (Addr × Obj)} {σ : L2.St} {H : Hp} {s : Shared} {t : Addr} {ns : List Int} (I : Inv X pins σ H s) (h : SqT X.K H t (ns.map V.int)) : TS.TupInts s.heap (.ref t) ns := by
  obtain ⟨its, r, pl, _⟩ := I.tuple h
  exact ⟨t, its.toArray, rfl, pl, by simpa using r.ints⟩
/-- addresses with their keys, in the order of their values -/
theorem back_keys {f : Addr → List Int} : ∀ {out : List Value} {ks : List (Addr × List Int)}, (∀ v ∈ out, ∃ p ∈ ks, v = Value.ref p.1) → (∀ p ∈ ks, f p.1 = p.2) → ∃ L : List (Addr × List Int), out = L.map (fun p => Value.ref p.1) ∧ ∀ p ∈ L, p ∈ ks
  | [], _, _, _ => ⟨[], rfl, fun _ h => nomatch h⟩
  | v :: out, ks, h, hf => by
    obtain ⟨p, hp, e⟩ := h v List.mem_cons_self
    obtain ⟨L, e1, e2⟩ := back_keys (out := out) (fun u hu => h u (List.mem_cons_of_mem _ hu)) hf
    refine ⟨p :: L, by rw [e, e1]; rfl, fun q hq => ?_⟩
    rcases List.mem_cons.mp hq with z | z
    · rw [z]; exact hp
    · exact e2 q z
theorem perm_keys {f : Addr → List Int} {L ks : List (Addr × List Int)} (h : (L.map fun p => Value.ref p.1).Perm (ks.map fun p => Value.ref p.1)) (hL : ∀ p ∈ L, f p.1 = p.2) (hk : ∀ p ∈ ks, f p.1 = p.2) : L.Perm ks := by
  have g : ∀ M : List (Addr × List Int), (∀ p ∈ M, f p.1 = p.2) → (M.map fun p => Value.ref p.1).map (fun v => match v with | .ref a => (a, f a) | _ => (0, [])) = M := by
    intro M hM
    rw [List.map_map]
    conv => rhs; rw [← List.map_id M]
    refine List.map_congr_left fun p hp => ?_
    show (p.1, f p.1) = p
    rw [hM p hp]
  have := h.map (fun v => match v with | .ref a => (a, f a) | _ => ((0 : Addr), ([] : List Int)))
  rw [g L hL, g ks hk] at this
  exact this
theorem vals_keys : ∀ (L : List (Addr × List Int)), Vals (L.map fun p => V.ref p.1) (L.map fun p => Value.ref p.1)
  | [] => .nil
  | p :: L => .cons rfl (vals_keys L)
theorem vals_keys_eq : ∀ {ks : List (Addr × List Int)} {us : List Value}, Vals (ks.map fun p => V.ref p.1) us → us = ks.map fun p => Value.ref p.1
  | [], _, .nil => rfl
  | p :: ks, _, .cons r t => by
    cases r
    rw [vals_keys_eq t]
    rfl
theorem cr_sortL : CallR X (.builtin "sorted") (rSortL X.K) := by
  intro pins s σ H vs us Q I r h
  obtain ⟨a, ks, rfl, hs, hk, q⟩ := h
  obtain ⟨its, rv, hl, hz⟩ := I.list hs
  have ei := vals_keys_eq rv
  rw [Vals.ref1 r]
  have hT : ∀ p ∈ ks, TS.TupInts s.heap (.ref p.1) p.2 := fun p hp => tupI_of I (hk p hp).1
  have hf : ∀ p ∈ ks, TS.intsOf s.heap (.ref p.1) = p.2 := fun p hp => (hT p hp).ints
  have hv : ∀ v ∈ its, TS.TupInts s.heap v (TS.intsOf s.heap v) ∧ TS.intsOf s.heap v ≠ [] := by
    intro v hv
    rw [ei] at hv
    obtain ⟨p, hp, rfl⟩ := List.mem_map.mp hv
    rw [hf p hp]
    exact ⟨hT p hp, (hk p hp).2⟩
  refine SrtO.sorted_ord (ltv := fun v u => lexL (TS.intsOf s.heap v) (TS.intsOf s.heap u)) (swoL (TS.intsOf s.heap)) hl.isList (by rw [← rv.length]; exact hz) (fun h2 h₁ b hb kk => ?_) fun out h1 h2 => ?_
  · refine tups_sortable (s := { s with heap := h₁ }) (by omega) (fun v hm => ⟨(hv v hm).1.keeps fun b o e _ => (kk b o e).2, (hv v hm).2⟩) fun o e => ?_
    have e' : some o = some (seqObj "list" its.toArray 0) := e.symm.trans hb
    cases e'
    intro c
    exact absurd (Value.type.inj c) (by decide)
  · obtain ⟨L, e1, e2⟩ := back_keys (f := fun a => TS.intsOf s.heap (.ref a)) (out := out) (ks := ks) (fun v hv => by
      have : v ∈ its := h2.perm.mem_iff.mp hv
      rw [ei] at this
      obtain ⟨p, hp, e⟩ := List.mem_map.mp this
      exact ⟨p, hp, e.symm⟩) hf
    have hp : L.Perm ks := perm_keys (f := fun a => TS.intsOf s.heap (.ref a)) (by rw [← e1, ← ei]; exact h2.perm) (fun p hp => hf p (e2 p hp)) hf
    have hw : L.Pairwise fun q r => lexL r.2 q.2 = false := by
      rw [e1] at h1
      refine List.Pairwise.imp_of_mem (fun {q r} hq hr hle => ?_) (List.pairwise_map.mp h1)
      rw [← hf q (e2 q hq), ← hf r (e2 r hr)]
      exact hle
    obtain ⟨n, hn⟩ := sortedAll_at s.heap its out.toArray
    refine ⟨.ref (s.heap.objs.size + 1), upd H (s.heap.objs.size + 1) (.lst (L.map fun q => V.ref q.1)), I.laid (t' := s.toks) (fun b o e => sortedAll_old e) (Nat.le_succ _) ⟨?_, out, n, by rw [e1]; exact vals_keys L, hn⟩, rfl, q L _ hp hw (I.hok.fresh (Nat.le_succ _))⟩
    rw [List.length_map, hp.length_eq]
    rw [List.length_map] at hz
    exact hz
/-! ### sorted(set) -/
def rSortS (K : PySem.W.Frag) (P : Program) (w : World) : List L2.V → Hp → VK → Prop := fun vs H Q => ∃ (a : Addr) (L : List (Addr × List Int)), vs = [V.ref a] ∧ H a = some (SetTO P w a L) ∧ (∀ p ∈ L, SqT K H p.1 (p.2.map V.int) ∧ p.2 ≠ []) ∧
  ∀ (M : List (Addr × List Int)) (p : Addr), M.Perm L → (M.map (·.2)).Nodup → (M.Pairwise fun q r => lexL r.2 q.2 = false) → H p = none → Q (.ref p) (upd H p (.lst (M.map fun q => V.ref q.1)))
theorem cr_sortS (hc : X.calm = true) : CallR X (.builtin "sorted") (rSortS X.K X.prog X.w) := by
  intro pins s σ H vs us Q I r h
  obtain ⟨a, L, rfl, ha, hk, q⟩ := h
  have R0 : SetT0 X.prog X.w s.heap a L := (I.hok a _ ha).1
  obtain ⟨es, ep, t, R⟩ := R0.full fun p hp => I.isT (hk p hp).1
  rw [Vals.ref1 r]
  obtain ⟨o, ho, hex, hd⟩ := R.ob
  have hsz := R.size
  have hfew := R.few
  refine Calls.call_function_entry kind_sorted plain_sorted entry_sorted (args_sorted1 _) ?_
  unfold Builtin.«sorted»
  refine wpAny_bind (m := checkCount "sorted" 1 1 _) (wpAny_pure ?_)
  refine wpAny_bind (collect_set (A := X.A.in1) (I.ok.hd hc) ⟨o, ho, hex.1, hd⟩ R.fits (by unfold scanBound; omega) R.tab.ris R.led fun s1 vs k1 hz g1 o1 pm => ?_)
  have hes : es.toList.map (·.2) = L.map fun q => Value.ref q.1 := by
    rw [R.rows]
    unfold rowsOf
    rw [List.map_map]
    rfl
  rw [hes] at pm
  have hT : ∀ p ∈ L, TS.TupInts s1.heap (.ref p.1) p.2 := fun p hp => (tupI_of I (hk p hp).1).keeps fun b o e _ => k1 b o e
  have hf : ∀ p ∈ L, TS.intsOf s1.heap (.ref p.1) = p.2 := fun p hp => (hT p hp).ints
  have hvl : vs.length = L.length := by rw [pm.length_eq, List.length_map]
  have hv : ∀ v ∈ vs, TS.TupInts s1.heap v (TS.intsOf s1.heap v) ∧ TS.intsOf s1.heap v ≠ [] := by
    intro v hv
    obtain ⟨p, hp, rfl⟩ := List.mem_map.mp (pm.mem_iff.mp hv)
    rw [hf p hp]
    exact ⟨hT p hp, (hk p hp).2⟩
  have hline : vs.length ≤ sizeLine := by rw [sizeLine_eq]; omega
  refine wpAny_bind (wpAny_newList ?_ hline)
  have hoL : (s1.heap.push (seqObj "list" vs.toArray 0)).get? s1.heap.objs.size = some (seqObj "list" vs.toArray 0) := Heap.get?_push_size _ rfl
  have kk : ∀ b o, s1.heap.get? b = some o → (s1.heap.push (seqObj "list" vs.toArray 0)).get? b = some o := fun b o e => Heap.get?_push_of_some _ e
  refine wpAny_bind (wpAny_holding (wpAny_call_entry (s := { s1 with heap := s1.heap.push (seqObj "list" vs.toArray 0) }) slot_list_sort ⟨_, hoL, rfl⟩ entry_list_sort
    (SrtO.list_sort_ord (ltv := fun v u => lexL (TS.intsOf s1.heap v) (TS.intsOf s1.heap u)) (swoL (TS.intsOf s1.heap)) hoL hline (fun h2 => ?_) fun out h1 h2 => ⟨_, rfl, ?_⟩) (args_list_sort _)))
  · refine tups_sortable (s := { s1 with heap := s1.heap.push (seqObj "list" vs.toArray 0) }) (by omega) (fun v hm => ⟨(hv v hm).1.keeps fun b o e _ => kk b o e, (hv v hm).2⟩) fun o e => ?_
    have e' : some o = some (seqObj "list" vs.toArray 0) := e.symm.trans hoL
    cases e'
    intro c
    exact absurd (Value.type.inj c) (by decide)
  · obtain ⟨M, e1, e2⟩ := back_keys (f := fun a => TS.intsOf s1.heap (.ref a)) (out := out) (ks := L) (fun v hv => by
      obtain ⟨p, hp, e⟩ := List.mem_map.mp (pm.mem_iff.mp (h2.perm.mem_iff.mp hv))
      exact ⟨p, hp, e.symm⟩) hf
    have hp : M.Perm L := perm_keys (f := fun a => TS.intsOf s1.heap (.ref a)) (by rw [← e1]; exact h2.perm.trans pm) (fun p hp => hf p (e2 p hp)) hf
    have hw : M.Pairwise fun q r => lexL r.2 q.2 = false := by
      rw [e1] at h1
      refine List.Pairwise.imp_of_mem (fun {q r} hq hr hle => ?_) (List.pairwise_map.mp h1)
      rw [← hf q (e2 q hq), ← hf r (e2 r hr)]
      exact hle
    obtain ⟨n, hn⟩ := sortedHeap_at (vs := vs) (out := out.toArray) hoL
    have old : ∀ b o, s.heap.get? b = some o → (sortedHeap (s1.heap.push (seqObj "list" vs.toArray 0)) s1.heap.objs.size vs out.toArray).get? b = some o := fun b o e => by
      have q := k1 b o e
      have hlt := Heap.lt_size q
      rw [sortedHeap_old (Nat.ne_of_lt hlt) (by rw [size_push']; exact Nat.lt_succ_of_lt hlt)]
      exact kk b o q
    have hn' : H s1.heap.objs.size = none := I.hok.fresh hz
    have hlen : (M.map fun q => V.ref q.1).length ≤ sizeLine := by rw [List.length_map, hp.length_eq, sizeLine_eq]; omega
    have J : Inv X pins σ (upd H s1.heap.objs.size (.lst (M.map fun q => V.ref q.1))) { s with heap := sortedHeap (s1.heap.push (seqObj "list" vs.toArray 0)) s1.heap.objs.size vs out.toArray, gens := s1.gens, drawn := s1.drawn, toks := s1.toks } :=
      I.call (ch := []) (Un.laid old hz hn') (I.hok.laid old hz ⟨hlen, out, n, by rw [e1]; exact vals_keys M, hn⟩) (by rw [g1]; exact I.bare) (fun _ z => nomatch z)
    refine wpAny_pure ⟨_, rfl, ?_⟩
    have e : ({ s1 with heap := sortedHeap (s1.heap.push (seqObj "list" vs.toArray 0)) s1.heap.objs.size vs out.toArray } : Shared) = { s with heap := sortedHeap (s1.heap.push (seqObj "list" vs.toArray 0)) s1.heap.objs.size vs out.toArray, gens := s1.gens, drawn := s1.drawn, toks := s1.toks } := by
      cases s1
      cases s
      cases o1
      rfl
    rw [e]
    exact ⟨.ref _, _, J, rfl, q M _ hp ((hp.map (·.2)).nodup_iff.mpr R.nd) hw hn'⟩
/-! ### len(set) -/
def rLenS (K : PySem.W.Frag) (P : Program) (w : World) : List L2.V → Hp → VK → Prop := fun vs H Q => ∃ (a : Addr) (L : List (Addr × List Int)), vs = [V.ref a] ∧ H a = some (SetTO P w a L) ∧ (∀ p ∈ L, SqT K H p.1 (p.2.map V.int)) ∧ ((L.map (·.2)).Nodup → Q (.int L.length) H)
theorem cr_lenS : CallR X (.builtin "len") (rLenS X.K X.prog X.w) := by
  intro pins s σ H vs us Q I r h
  obtain ⟨a, L, rfl, ha, hk, q⟩ := h
  have R0 : SetT0 X.prog X.w s.heap a L := (I.hok a _ ha).1
  obtain ⟨es, ep, t, R⟩ := R0.full fun p hp => I.isT (hk p hp)
  obtain ⟨o, ho, hex, hd⟩ := R.ob
  rw [Vals.ref1 r]
  have hsz := R.size
  have hfew := R.few
  exact call_len_set ho hex hd R.fits (by rw [hsz]; omega) ⟨.int L.length, H, I.tok _, ⟨_, by rw [hsz]⟩, q R.nd⟩
end
section
variable {X : Cx} {γ α : Type} [Enc α] [IT α] {Ve : Ev γ} {m : Md} {p : Bool} {e : Expr} {pos : Pos}
theorem s_sortT {f : Ac γ (List α)} {p0 : Pos} (hx : X.mg "sorted" = none) (ha : SE X Ve m p e f) (hels : ElsT X (α := α) Ve m := by first | exact fun _ _ _ _ _ _ _ j r => rm_elsT rfl r | exact fun _ _ _ _ _ _ _ j r => rm_elsF j r) (hg : Gl X "sorted" := by rfl) (he : starEach (e :: []) X.env = (false, eval e X.env) :: starEach [] X.env := by rfl) (hpl : (backTo pos (starEach [] X.env)).any (·.1) = false := by rfl) :
    SN X Ve p (.Call (.Name "sorted" p0) [e] [] pos) (op1 sortTQ f) :=
  s_b1N (id' := "sorted") (r := fun K => rSortL K) cr_sortL (fun Z hK => fun A g σ H x l c Q j rx e q => by
    obtain ⟨t, vs, rfl, e2, e3⟩ := hels Z A g σ H x l j rx
    obtain rfl := some_inj' e
    obtain ⟨ks, k1, k2, k3⟩ := rpA_keys l e3
    subst k1
    refine ⟨t, ks, rfl, seqL e2, fun y hy => ⟨hK ▸ sqT_same gh_le (rpI_sqT (k3 y hy)), ?_⟩, fun L n hp hs hn => ?_⟩
    · have : y.2 ∈ l.map IT.key := by rw [← k2]; exact List.mem_map.mpr ⟨y, hy, rfl⟩
      obtain ⟨a, _, ea⟩ := List.mem_map.mp this
      rw [← ea]
      exact IT.ne a
    · have h1 : (L.map (·.2)).Perm (l.map IT.key) := by rw [← k2]; exact hp.map _
      have h2 : L.map (·.2) = (sortTL l).map IT.key := by
        refine List.Perm.eq_of_pairwise (le := fun a b => lexL b a = false) (fun a b _ _ z1 z2 => lexL_anti a b z2 z1) (List.pairwise_map.mpr hs) (List.pairwise_map.mpr ((sortTL_sorted l).imp fun {a b} z => ?_)) (h1.trans ((sortTL_perm l).map _).symm)
        simpa [leT] using z
      exact q n _ hn (rpA_back h2 fun y hy => k3 y (hp.mem_iff.mp hy))) hx ha (by decide +kernel) hg (by decide) (by decide) he hpl
theorem tCBset {r1 r2 : List L2.V → Hp → VK → Prop} {te : TE} : tCB r1 (tCons (tCB r2 (tCons te tNil)) tNil) = tUn (fun x H Q => r2 [x] H fun y H2 => r1 [y] H2 Q) te := rfl
def UnN2 {δ : Type} [Enc δ] (Z : Fix) (r : L2.V → Hp → VK → Prop) (m1 : Md) (k : α → Option (List δ)) (Ve : Ev γ) : Prop :=
  ∀ (A : Nat → Addr) (g : γ) (σ : L2.St) (H : Hp) (x : L2.V) (a : α) (c : List δ) (Q : VK), J Z A (at_ Ve g) σ H → Rm Z A Ve H m1 x (enc a) → k a = some c →
    (∀ q vs H', Same H H' → H' q = none → RpA Z.K (GH Z (OwV A Ve) H') vs (c.map enc) → Q (.ref q) (upd H' q (.lst vs))) → r x H Q
theorem tUnN_ok2 {β δ : Type} [Enc β] [Enc δ] {mg : Str → Option Value} {Z : Fix} {W : WX} {r : L2.V → Hp → VK → Prop} {k : β → Option (List δ)} {f : Ac γ β} (hk : UnN2 Z r m k Ve) {σ : L2.St} {H : Hp} {Q : VK} (h : tN mg Z W Ve p (op1 k f) σ H Q) : tUn r (tE mg Z W Ve m p f) σ H Q := by
  obtain ⟨g, A, j, h⟩ := h
  refine ⟨g, A, j, ?_⟩
  unfold op1 bindA at h
  cases ef : f g with
  | bad => rw [ef] at h; exact h
  | exc x g1 => rw [ef] at h; exact h
  | ok a g1 =>
    rw [ef] at h
    unfold optA at h
    cases ek : k a with
    | none => simp only [ek] at h
    | some c =>
      simp only [ek] at h
      intro v H1 j1 gr sm rv
      exact hk A g1 σ H1 v a c Q j1 rv ek fun q vs H' s hq rq => h q vs H' hq (j1.same s) (gr.trans (.of s)) (fun z => (sm z).trans s) rq
/-- what stands behind set(l) -/
theorem set_keys [DecidableEq α] {l : List α} {ks L : List (Addr × List Int)} (hk : ks.map (·.2) = l.map IT.key) (h1 : ∀ p ∈ L, p ∈ ks) (h2 : ∀ p ∈ ks, p.2 ∈ L.map (·.2)) (hn : (L.map (·.2)).Nodup) :
    ∃ k : List α, L.map (·.2) = k.map IT.key ∧ k.Nodup ∧ ∀ a, a ∈ k ↔ a ∈ l := by
  have h3 : ∀ M : List (Addr × List Int), (∀ p ∈ M, p ∈ ks) → ∃ k : List α, M.map (·.2) = k.map IT.key ∧ ∀ a ∈ k, a ∈ l := by
    intro M
    induction M with
    | nil => intro _; exact ⟨[], rfl, fun a h => nomatch h⟩
    | cons p M ih =>
      intro hM
      obtain ⟨k, e1, e2⟩ := ih fun q hq => hM q (List.mem_cons_of_mem _ hq)
      have : p.2 ∈ l.map IT.key := by rw [← hk]; exact List.mem_map.mpr ⟨p, hM p List.mem_cons_self, rfl⟩
      obtain ⟨a, ha, ea⟩ := List.mem_map.mp this
      refine ⟨a :: k, by rw [List.map_cons, List.map_cons, e1, ea], fun b hb => ?_⟩
      rcases List.mem_cons.mp hb with e | hb
      · rw [e]; exact ha
      · exact e2 b hb
  obtain ⟨k, e1, e2⟩ := h3 L h1
  refine ⟨k, e1, ?_, fun a => ⟨e2 a, fun ha => ?_⟩⟩
  · rw [e1] at hn
    exact List.Pairwise.of_map _ (fun a b hne e => hne (by rw [e])) hn
  · have : IT.key a ∈ ks.map (·.2) := by rw [hk]; exact List.mem_map.mpr ⟨a, ha, rfl⟩
    obtain ⟨p, hp, ep⟩ := List.mem_map.mp this
    have := h2 p hp
    rw [ep, e1] at this
    obtain ⟨b, hb, eb⟩ := List.mem_map.mp this
    rw [← IT.inj b a eb]
    exact hb
theorem s_sortSet [DecidableEq α] {f : Ac γ (List α)} {p0 p1 pos2 : Pos} (hu : X.A.units + 64 < cLine) (hx : X.mg "sorted" = none) (hx2 : X.mg "set" = none) (hc : X.calm = true) (ha : SE X Ve m p e f) (hels : ElsT X (α := α) Ve m := by first | exact fun _ _ _ _ _ _ _ j r => rm_elsT rfl r | exact fun _ _ _ _ _ _ _ j r => rm_elsF j r) (hg : Gl X "sorted" := by rfl) (hg2 : Gl X "set" := by rfl)
    (he : starEach (e :: []) X.env = (false, eval e X.env) :: starEach [] X.env := by rfl) (he2 : starEach (.Call (.Name "set" p1) [e] [] pos2 :: []) X.env = (false, eval (.Call (.Name "set" p1) [e] [] pos2) X.env) :: starEach [] X.env := by rfl) (hpl : (backTo pos (starEach [] X.env)).any (·.1) = false := by rfl) (hpl2 : (backTo pos2 (starEach [] X.env)).any (·.1) = false := by rfl) :
    SN X Ve p (.Call (.Name "sorted" p0) [.Call (.Name "set" p1) [e] [] pos2] [] pos) (op1 sortSetQ f) :=
  ⟨fun Z W hK tk => (pe_callB (cr_sortS hc) hg hx (by decide +kernel) (pa_cons (pe_callTy (cr_setOfT hc hu) hg2 hx2 PyProof.Rows.boot_set (pa_cons (ha.run Z W hK tk) pa_nil he) (by decide) (by decide) he hpl2) pa_nil he2) (by decide) (by decide) he2 hpl).weak fun σ H Q q => by
    rw [tCBset]
    refine tUnN_ok2 (m := m) (fun A g σ H x l c Q j rx e q => ?_) q
    obtain ⟨t, vs, rfl, e2, e3⟩ := hels Z A g σ H x l j rx
    obtain ⟨h64, rfl⟩ := ite_some e
    obtain ⟨ks, k1, k2, k3⟩ := rpA_keys l e3
    subst k1
    have hlen : ks.length = l.length := by
      have := congrArg List.length k2
      simpa using this
    have hne : ∀ y ∈ ks, y.2 ≠ [] := by
      intro y hy
      have : y.2 ∈ l.map IT.key := by rw [← k2]; exact List.mem_map.mpr ⟨y, hy, rfl⟩
      obtain ⟨a, _, ea⟩ := List.mem_map.mp this
      rw [← ea]
      exact IT.ne a
    have hsq : ∀ y ∈ ks, SqT X.K H y.1 (y.2.map V.int) := fun y hy => hK ▸ sqT_same gh_le (rpI_sqT (k3 y hy))
    refine ⟨t, ks, rfl, seqL e2, hsq, by omega, fun a L hn h1 h2 => ?_⟩
    have j2 := j.new (o := SetTO X.prog X.w a L) hn
    have sm : Same H (upd H a (SetTO X.prog X.w a L)) := same_new hn
    refine ⟨a, L, rfl, upd_same, fun y hy => ⟨sqT_same sm (hsq y (h1 y hy)), hne y (h1 y hy)⟩, fun M n hp hnd hs hn2 => ?_⟩
    have hM1 : ∀ y ∈ M, y ∈ ks := fun y hy => h1 y (hp.mem_iff.mp hy)
    have hM2 : ∀ y ∈ ks, y.2 ∈ M.map (·.2) := fun y hy => (hp.map (·.2)).mem_iff.mpr (h2 y hy)
    obtain ⟨k, m1, m2, m3⟩ := set_keys k2 hM1 hM2 hnd
    have ek : k = sortSetL l := by
      refine sortSetL_eq m3 m2 ?_
      have hs' : (M.map (·.2)).Pairwise fun a b => lexL b a = false := List.pairwise_map.mpr hs
      rw [m1] at hs'
      exact (List.pairwise_map.mp hs').imp fun {a b} z => by simp [leT, z]
    subst ek
    refine q n _ _ sm hn2 (rpA_back m1 fun y hy => ?_)
    exact Rp.mono (Gr.of sm).gh _ (k3 y (hM1 y hy))⟩
theorem s_lenSet [DecidableEq α] {f : Ac γ (List α)} {p0 p1 pos2 : Pos} (hu : X.A.units + 64 < cLine) (hx : X.mg "len" = none) (hx2 : X.mg "set" = none) (hc : X.calm = true) (ha : SE X Ve m p e f) (hg : Gl X "len" := by rfl) (hg2 : Gl X "set" := by rfl)
    (he : starEach (e :: []) X.env = (false, eval e X.env) :: starEach [] X.env := by rfl) (he2 : starEach (.Call (.Name "set" p1) [e] [] pos2 :: []) X.env = (false, eval (.Call (.Name "set" p1) [e] [] pos2) X.env) :: starEach [] X.env := by rfl) (hpl : (backTo pos (starEach [] X.env)).any (·.1) = false := by rfl) (hpl2 : (backTo pos2 (starEach [] X.env)).any (·.1) = false := by rfl) :
    SE X Ve .fr p (.Call (.Name "len" p0) [.Call (.Name "set" p1) [e] [] pos2] [] pos) (op1 lenSetQ f) :=
  ⟨fun Z W hK tk => (pe_callB cr_lenS hg hx PySem.boot_len (pa_cons (pe_callTy (cr_setOfT hc hu) hg2 hx2 PyProof.Rows.boot_set (pa_cons (ha.run Z W hK tk) pa_nil he) (by decide) (by decide) he hpl2) pa_nil he2) (by decide) (by decide) he2 hpl).weak fun σ H Q q => by
    rw [tCBset]
    refine tUn_ok (m1 := m) (fun A g σ H x l c Q j rx e q => ?_) q
    obtain ⟨t, vs, rfl, e2, e3⟩ := rm_els rx
    obtain ⟨h64, rfl⟩ := ite_some e
    obtain ⟨ks, k1, k2, k3⟩ := rpA_keys l e3
    subst k1
    have hlen : ks.length = l.length := by
      have := congrArg List.length k2
      simpa using this
    have hsq : ∀ y ∈ ks, SqT X.K H y.1 (y.2.map V.int) := fun y hy => hK ▸ sqT_same hp_le (rpI_sqT (k3 y hy))
    refine ⟨t, ks, rfl, seqL e2, hsq, by omega, fun a L hn h1 h2 => ?_⟩
    have sm : Same H (upd H a (SetTO X.prog X.w a L)) := same_new hn
    refine ⟨a, L, rfl, upd_same, fun y hy => sqT_same sm (hsq y (h1 y hy)), fun hnd => ?_⟩
    obtain ⟨k, m1, m2, m3⟩ := set_keys k2 h1 h2 hnd
    have hl : L.length = (uniq l).length := by
      have e1 := congrArg List.length m1
      simp only [List.length_map] at e1
      rw [e1]
      exact ((List.perm_ext_iff_of_nodup m2 (nodup_uniq l)).mpr fun a => by rw [m3, mem_uniq]).length_eq
    rw [hl]
    exact q _ _ sm (j.new hn) (.int _)⟩
end
end HL
/-! Fp: chained comparisons, own[k], name = e, pop, list(reversed(..)), range with steps. -/
namespace HL
open PySem PySem.Spec PyProof.Rows L2

/-! ### a op b op c -/
def ltB (a b : Int) : Bool := decide (a < b)
def leB (a b : Int) : Bool := decide (a ≤ b)
def chA {γ : Type} (k1 k2 : Int → Int → Bool) (f h l : Ac γ Int) : Ac γ Bool := bindA f fun a => bindA h fun b => if k1 a b = true then bindA l fun c => pureA fun _ => k2 b c else pureA fun _ => false
section
variable {X : Cx} {γ α β : Type} [Enc α] {Ve : Ev γ} {m m1 m2 m3 : Md} {p p1 p2 p3 : Bool} {e a b c : Expr} {pos : Pos}
theorem ch_ok {k1 k2 : Int → Int → Bool} {f h l : Ac γ Int} {mg : Str → Option Value} {Z : Fix} {W : WX} {σ : L2.St} {H : Hp} {Q : VK} (q : tE mg Z W Ve .fr (p1 && (p2 && p3)) (chA k1 k2 f h l) σ H Q) :
    tChain (rI0 fun i j => .bl (k1 i j)) (rI0 fun i j => .bl (k2 i j)) (tE mg Z W Ve m1 p1 f) (tE mg Z W Ve m2 p2 h) (tE mg Z W Ve m3 p3 l) σ H Q := by
  obtain ⟨g, A, j, q⟩ := q
  refine ⟨g, A, j, ?_⟩
  unfold chA bindA pureA at q
  cases ef : f g with
  | bad => simp only [ef] at q
  | exc x g1 => simp only [ef] at q; exact q
  | ok i g1 =>
    simp only [ef] at q
    intro v H1 j1 gr1 sm1 rv
    cases rp_int rv.full
    refine ⟨g1, A, j1, ?_⟩
    cases eh : h g1 with
    | bad => simp only [eh] at q
    | exc x g2 =>
      simp only [eh] at q
      exact fun c H' mc j' gr' => q c H' mc j' (gr1.trans gr')
    | ok k g2 =>
      simp only [eh] at q
      intro w H2 j2 gr2 sm2 rw2
      cases rp_int rw2.full
      refine ⟨i, k, rfl, rfl, k1 i k, rfl, ?_⟩
      cases e1 : k1 i k with
      | false =>
        simp only [e1, Bool.false_eq_true, if_false] at q ⊢
        exact q _ H2 j2 (gr1.trans gr2) (fun z => (sm1 (Bool.and_eq_true_iff.mp z).1).trans (sm2 (Bool.and_eq_true_iff.mp (Bool.and_eq_true_iff.mp z).2).1)) (.bl _)
      | true =>
        simp only [e1, if_true] at q ⊢
        refine ⟨g2, A, j2, ?_⟩
        cases el : l g2 with
        | bad => simp only [el] at q
        | exc x g3 =>
          simp only [el] at q
          exact fun c H' mc j' gr' => q c H' mc j' ((gr1.trans gr2).trans gr')
        | ok n g3 =>
          simp only [el] at q
          intro u H3 j3 gr3 sm3 ru
          cases rp_int ru.full
          exact ⟨k, n, rfl, rfl, q _ H3 j3 ((gr1.trans gr2).trans gr3) (fun z => ((sm1 (Bool.and_eq_true_iff.mp z).1).trans (sm2 (Bool.and_eq_true_iff.mp (Bool.and_eq_true_iff.mp z).2).1)).trans (sm3 (Bool.and_eq_true_iff.mp (Bool.and_eq_true_iff.mp z).2).2)) (.bl _)⟩
theorem op_ltB : OpR X (compareOp .Lt) (rI0 fun i j => .bl (ltB i j)) := op_lt
theorem op_leB : OpR X (compareOp .LtE) (rI0 fun i j => .bl (leB i j)) := op_le
theorem s_ch {op op' : CmpOp} {k1 k2 : Int → Int → Bool} {f h l : Ac γ Int} (ho : OpR X (compareOp op) (rI0 fun i j => .bl (k1 i j))) (ho' : OpR X (compareOp op') (rI0 fun i j => .bl (k2 i j))) (ha : SE X Ve m1 p1 a f) (hb : SE X Ve m2 p2 b h) (hc : SE X Ve m3 p3 c l)
    (hm : lastMarks [op, op'] [b, c] = false := by with_unfolding_all rfl) : SE X Ve .fr (p1 && (p2 && p3)) (.Compare a [op, op'] [b, c] pos) (chA k1 k2 f h l) :=
  ⟨fun Z W hK tk => (pe_chain ho ho' (ha.run Z W hK tk) (hb.run Z W hK tk) (hc.run Z W hK tk) hm).weak fun _ _ _ q => ch_ok q⟩
theorem t_ch {op op' : CmpOp} {k1 k2 : Int → Int → Bool} {f h l : Ac γ Int} (ho : OpR X (compareOp op) (rI0 fun i j => .bl (k1 i j))) (ho' : OpR X (compareOp op') (rI0 fun i j => .bl (k2 i j))) (ha : SE X Ve m1 p1 a f) (hb : SE X Ve m2 p2 b h) (hc : SE X Ve m3 p3 c l)
    (hm : lastMarks [op, op'] [b, c] = false := by with_unfolding_all rfl) : ST X Ve (p1 && (p2 && p3)) (.Compare a [op, op'] [b, c] pos) (chA k1 k2 f h l) :=
  ⟨fun Z W hK tk => (pt_chain ho ho' (ha.run Z W hK tk) (hb.run Z W hK tk) (hc.run Z W hK tk) hm).weak fun _ _ _ q => ch_ok (tT_test q)⟩

/-! ### own[k], name = e -/
def sixNameS {γ α β δ : Type} (get : γ → List α) (put : γ → List α → γ) (k : Int) (set : γ → δ → γ) (f : Ac γ (α × δ)) : Sc γ β := doS f fun a g => match setAt (get g) k a.1 with
  | some l => .nx (set (put g l) a.2)
  | none => .bad
end
section
variable {X : Cx} {γ α β δ : Type} [Enc α] [Enc δ] {C : FC γ β} {xj : XJ γ} {Ve Ve' : Ev γ} {p : Bool} {e : Expr} {pos : Pos}
theorem c_sixName {f : Ac γ (α × δ)} (i i2 : Nat) (get : γ → List α) (put : γ → List α → γ) (k : Int) (set : γ → δ → γ) {n n2 : Str} {p0 sp p2 pt kp : Pos} {kt jk : _} (hx : XOk xj Ve) (hc : X.calm = true) (he : SE X Ve .fr p e f) (hNn : X.N.Nodup)
    (hi : Ve[i]? = some (.own fun g => (get g).map enc) := by rfl) (hput : ∀ g l, at_ Ve (put g l) = (at_ Ve g).set i (.own (l.map enc)) := by exact fun _ _ => rfl) (hV : ∀ g a, at_ Ve' (set g a) = (at_ Ve g).set i2 (.imm true (enc a)) := by exact fun _ _ => rfl) (hno : noOwn Ve [i2] = true := by rfl)
    (hN : X.N[i]? = some n := by rfl) (hv : Vis X.env.scope n := by first | exact Or.inl rfl | exact Or.inr (Or.inl rfl) | exact Or.inr (Or.inr rfl)) (hd : (n == ("__debug__" : Str)) = false := by decide) (hcd : (n == ("__classdict__" : Str)) = false := by decide)
    (hN2 : X.N[i2]? = some n2 := by rfl) (hl2 : Loc X.env.scope n2 := by first | exact .inl rfl | exact .inr rfl) (hf2 : X.fn n2 = true ∨ X.env.scope.names.lookup n2 = some .local := by first | exact .inl rfl | exact .inr rfl)
    (ha : ∀ v, assign (.Subscript (.Name n p0) (.Constant (.int k) jk kp) sp) X.env v = (do
      let ov ← holding [v] (eval (.Name n p0) X.env)
      let iv ← holding [v, ov] (eval (.Constant (.int k) jk kp) X.env)
      standAt sp
      holding [v, ov, iv] (setItem ov iv v)
      release [v, ov, iv] []) := by intro _; rfl)
    (ha1 : (assignEach [.Subscript (.Name n p0) (.Constant (.int k) jk kp) sp, .Name n2 p2] X.env).map (·.2) = assign (.Subscript (.Name n p0) (.Constant (.int k) jk kp) sp) X.env :: (assignEach [.Name n2 p2] X.env).map (·.2) := by rfl)
    (ha2 : (assignEach [.Name n2 p2] X.env).map (·.2) = assign (.Name n2 p2) X.env :: (assignEach [] X.env).map (·.2) := by rfl)
    (hn : (assignEach [.Subscript (.Name n p0) (.Constant (.int k) jk kp) sp, .Name n2 p2] X.env).length = 2 := by rfl) (hst : (assignEach [.Subscript (.Name n p0) (.Constant (.int k) jk kp) sp, .Name n2 p2] X.env).findIdx? (·.1) = none := by rfl)
    (hs : swapsWithSole [.Tuple [.Subscript (.Name n p0) (.Constant (.int k) jk kp) sp, .Name n2 p2] kt pt] e pos.line X.env = pure false := by rfl) (hw : swappedStores [.Tuple [.Subscript (.Name n p0) (.Constant (.int k) jk kp) sp, .Name n2 p2] kt pt] e X.env = pure none := by rfl)
    (h1 : (assignEach [.Tuple [.Subscript (.Name n p0) (.Constant (.int k) jk kp) sp, .Name n2 p2] kt pt] X.env).map (·.2) = [assign (.Tuple [.Subscript (.Name n p0) (.Constant (.int k) jk kp) sp, .Name n2 p2] kt pt) X.env] := by rfl) :
    SS X C xj Ve Ve' (.Assign [.Tuple [.Subscript (.Name n p0) (.Constant (.int k) jk kp) sp, .Name n2 p2] kt pt] e pos) (sixNameS get put k set f) := ⟨fun Z W hK hio tk => by
  refine (ps_asg (he.run Z W hK tk) (pg_tup hc (pgs_cons (pg_sub (pe_var hN hv hd hcd) pe_int set_list ha) (pgs_cons (pg_name hNn hN2 hl2 hf2) pgs_nil ha2) ha1) hn hst) hs hw h1).weak fun D σ H q => ?_
  obtain ⟨g0, A0, j0, q0⟩ := q
  refine ⟨g0, A0, j0, ?_⟩
  unfold sixNameS doS at q0
  cases ef : f g0 with
  | bad => simp only [ef] at q0
  | exc x g1 =>
    simp only [ef] at q0
    exact fun c H' mc j' gr => q0 c A0 σ H' mc (hx _ _ _ _ _ j')
  | ok a g1 =>
    simp only [ef] at q0
    intro v H1 j1 gr sm rv
    have rv' : Rp Z.K (GH Z (OwV A0 Ve) H1) v (.tuple [enc a.1, enc a.2]) := rv
    obtain ⟨t, vs, rfl, e2, e3⟩ := rp_tuple rv'
    obtain ⟨v1, v2, rfl, r1, r2⟩ : ∃ v1 v2, vs = [v1, v2] ∧ Rp Z.K (GH Z (OwV A0 Ve) H1) v1 (enc a.1) ∧ Rp Z.K (GH Z (OwV A0 Ve) H1) v2 (enc a.2) := by
      cases e3 with
      | cons r1 t1 =>
        cases t1 with
        | cons r2 t2 =>
          cases t2
          exact ⟨_, _, rfl, r1, r2⟩
    have hr1 : (at_ Ve g1)[i]? = some (.own ((get g1).map enc)) := by rw [at_get, hi]; rfl
    obtain ⟨e1, us, e4, e5⟩ := j1.own i _ hr1
    rw [ow_at] at e5
    have el := e5.length
    rw [List.length_map] at el
    unfold setAt at q0
    cases en : ixN (get g1).length k with
    | none => simp only [en, Option.map_none] at q0
    | some n' =>
      simp only [en, Option.map_some] at q0
      obtain ⟨j3, st⟩ := j_chg (vs := us.set n' v1) (l := (get g1).set n' a.1) j1 hi hput (by rw [List.map_set]; exact e5.set n' r1)
      refine ⟨t, [v1, v2], rfl, hK ▸ sqT_same gh_le e2, rfl, _, _, rfl, _, e1, A0 i, us, k, n', rfl, rfl, e4, by rw [el]; exact en, _, _, rfl, rfl, ?_⟩
      have r2' : Rp Z.K (GH Z (OwV A0 Ve) (upd H1 (A0 i) (.lst (us.set n' v1)))) v2 (enc a.2) := Rp.mono (stt_gh st) _ r2
      have j4 := j3.setImm (i := i2) (fr := true) (v := v2) (d := enc a.2) (by rw [ow_at]; exact r2') (noio' j3 hno)
      rw [← hV] at j4
      refine q0 A0 _ _ j4 ((gr.stt.trans st).trans fun x o n h => ⟨h, fun y => n ?_⟩)
      rw [← ow_at (g := set (put g1 ((get g1).set n' a.1)) a.2), hV] at y
      rw [← ow_at (g := put g1 ((get g1).set n' a.1))]
      exact ow_set imm_ne x y⟩
end
end HL
/-! Fq: a call that is handed a list made for it alone, and may change it. -/
namespace HL
open PySem PySem.Spec PyProof.Rows L2
section
variable {X : Cx} {γ α β ι : Type} [Enc α] [Flat α] [Enc β] {Ve : Ev γ} {p : Bool} {e : Expr} {k : Nat} {f : Addr} {fd : FuncData} {ps : List Str} {pa : List α × Unit → List Par} {pio : ι → List (Nat × List D)} {F : List α × Unit → FRes β ι}
theorem s_callT {x : Str} {fA : Ac γ (List α)} {p0 pos : Pos} (FO : FnOk X.prog X.w X.K X.mg X.base (L2.CX X.prog X.w) k f fd ps (spOf X.K X.mg .fr pa enc pio F)) (hr : Room k X.A) (hmg : X.mg x = some (.ref f)) (hk : PySem.W.keepIn X.K (.ref f) = true) (hb : Binds X.K fd ps [])
    (ha : SN X Ve p e fA) (hpa : ∀ a, pa a = [.ino (a.1.map enc)])
    (hg : Gl X x := by rfl) (hdb : (x == ("__debug__" : Str)) = false := by decide) (he : starEach (e :: []) X.env = (false, eval e X.env) :: starEach [] X.env := by rfl) (hpl : (backTo pos (starEach [] X.env)).any (·.1) = false := by rfl) :
    SE X Ve .fr p (.Call (.Name x p0) [e] [] pos) (callA (fun (_ : γ) t => t) F (pairA fA (pureA fun _ => ()))) := ⟨fun Z W hK tk => (pe_callS (E := WE W) FO hr hg hmg hk hb (fun σ => passAt tk σ) (pa_cons (ha.run Z W hK tk) pa_nil he) hdb he hpl).weak fun σ H Q q => by
  obtain ⟨g, A, j, q⟩ := q
  refine ⟨g, A, j, ?_⟩
  unfold callA pairA bindA pureA at q
  cases ef : fA g with
  | bad => simp only [ef] at q
  | exc x g1 => simp only [ef] at q; exact q
  | ok l g1 =>
    simp only [ef] at q
    intro qq vs H1 hn j1 gr1 sm1 rvs
    have jn := j1.new (o := .lst vs) hn
    have snew : Same H1 (upd H1 qq (.lst vs)) := same_new hn
    have hm : ∀ x, (SC Z A Ve [] x ∨ x = qq) → Mut (upd H1 qq (.lst vs) x) := by
      intro x h
      rcases h with h | h
      · exact sc_mut jn h
      · rw [h, upd_same]; trivial
    have hio : ioL 0 [V.ref qq] (pa (l, ())) = [(0, qq)] := by rw [hpa]; rfl
    refine ⟨(l, ()), fun x => SC Z A Ve [] x ∨ x = qq, hm, ?_, ?_, ?_⟩
    · rw [hpa]
      refine ⟨⟨qq, vs, rfl, upd_same, .inr rfl, ?_⟩, trivial⟩
      have r2 : RpA Z.K (upd H1 qq (.lst vs)) vs (l.map enc) := RpA.mono (gh_le.trans snew) _ rvs
      rw [hK] at r2
      exact rpA_nomut (flatA_map l) r2
    · rw [hio]
      intro i j a h1 h2
      simp at h1 h2
      rw [h1.1, h2.1]
    rw [hio]
    cases eF : F (l, ()) with
    | bad => simp only [eF] at q
    | exc x' =>
      simp only [eF] at q
      refine fun c H2 mc fr => ?_
      have sm : Same H1 H2 := fun y o h => fr y o (snew _ _ h) fun i z => by
        simp at z
        rw [z.2, hn] at h
        cases h
      exact q c H2 mc (j1.same sm) (gr1.trans (.of sm))
    | ok b i =>
      simp only [eF] at q
      refine fun v H2 co => ?_
      have sm : Same H1 H2 := fun y o h => co.frame y o (snew _ _ h) fun i z => by
        simp at z
        rw [z.2, hn] at h
        cases h
      have rr := co.ret
      rw [← hK] at rr
      refine q v H2 (j1.same sm) (gr1.trans (.of sm)) (fun z => (sm1 z).trans sm) ?_
      exact Rp.mono (hide_same fun x o n e => ⟨fun z => n (mut0 jn z), e⟩) _ rr⟩
theorem x_callT {x : Str} {fA : Ac γ (List α)} {p0 pos : Pos} (c : Cal X.prog X.w X.K X.mg X.base k x ps (spOf X.K X.mg .fr pa enc pio F)) (hr : Room k X.A) (ha : SN X Ve p e fA) (hpa : ∀ a, pa a = [.ino (a.1.map enc)] := by exact fun _ => rfl)
    (hg : Gl X x := by rfl) (hdb : (x == ("__debug__" : Str)) = false := by decide) (he : starEach (e :: []) X.env = (false, eval e X.env) :: starEach [] X.env := by rfl) (hpl : (backTo pos (starEach [] X.env)).any (·.1) = false := by rfl) :
    SE X Ve .fr p (.Call (.Name x p0) [e] [] pos) (callA (fun (_ : γ) t => t) F (pairA fA (pureA fun _ => ()))) := by
  obtain ⟨f, fd, h1, h2, h3, h4⟩ := c.ex
  exact s_callT h1 hr h2 h3 h4 ha hpa hg hdb he hpl
end
end HL
/-! Fr: the plain side of what came behind Fl. -/
namespace HL
open PySem PySem.Spec PyProof.Rows L2
section
variable {γ α β δ : Type} {Q : Bool → Prop} {g : γ} {X : Str → γ → Prop}
theorem o_in [DecidableEq α] {a : α} {l : List α} : opt (inQ a l) Q ↔ Q (decide (a ∈ l)) := Iff.rfl
theorem o_notin [DecidableEq α] {a : α} {l : List α} : opt (notinQ a l) Q ↔ Q (!decide (a ∈ l)) := Iff.rfl
theorem o_is {a b : Bool} : opt (isQ a b) Q ↔ Q (decide (a = b)) := Iff.rfl
theorem o_isnt {a b : Bool} : opt (isntQ a b) Q ↔ Q (!decide (a = b)) := Iff.rfl
theorem o_isNone {o : Option α} : opt (isNoneQ o) Q ↔ Q o.isNone := Iff.rfl
theorem o_isSome {o : Option α} : opt (isSomeQ o) Q ↔ Q (!o.isNone) := Iff.rfl
theorem o_sortI {l : List Int} {Q : List Int → Prop} : opt (sortIQ l) Q ↔ Q (sortIL l) := Iff.rfl
theorem o_sortT [Enc α] [IT α] {l : List α} {Q : List α → Prop} : opt (sortTQ l) Q ↔ Q (sortTL l) := Iff.rfl
theorem o_sortSet [Enc α] [IT α] [DecidableEq α] {l : List α} {Q : List α → Prop} : opt (sortSetQ l) Q ↔ l.length < 64 ∧ Q (sortSetL l) := o_ite
theorem o_lenSet [DecidableEq α] {l : List α} {Q : Int → Prop} : opt (lenSetQ l) Q ↔ l.length < 64 ∧ Q ((uniq l).length : Int) := o_ite
theorem o_divmod {a b : Int} {Q : Int × Int → Prop} : opt (divmodQ a b) Q ↔ DivOk b ∧ Q (a.fdiv b, a.fmod b) := o_ite
theorem p_ch {k1 k2 : Int → Int → Bool} {f h l : Ac γ Int} {Q : Bool → γ → Prop} : (chA k1 k2 f h l g).post Q X ↔ (f g).post (fun a g1 => (h g1).post (fun b g2 => if k1 a b = true then (l g2).post (fun c g3 => Q (k2 b c) g3) X else Q false g2) X) X := by
  unfold chA
  rw [p_bind]
  simp only [p_bind]
  apply iff_of_eq
  congr 1
  funext a g1
  congr 1
  funext b g2
  cases k1 a b
  · rfl
  · simp only [if_true]
    rw [p_bind]
    rfl
theorem q_sixName {get : γ → List α} {put : γ → List α → γ} {k : Int} {set : γ → δ → γ} {f : Ac γ (α × δ)} {N : γ → Prop} {R : β → γ → Prop} : (sixNameS (β := β) get put k set f g).post N R X ↔ (f g).post (fun a g1 => opt (setAt (get g1) k a.1) fun l => N (set (put g1 l) a.2)) X := by
  unfold sixNameS
  rw [q_do]
  apply iff_of_eq
  congr 1
  funext a g1
  cases setAt (get g1) k a.1 <;> rfl
end
end HL
/-! Fs: tuples put together, zip of tuples, a, b, c = x, y, z. -/
namespace HL
open PySem PySem.Spec PyProof.Rows L2 RZ
structure T1 (α : Type) where
  a : α
  deriving DecidableEq, Inhabited
instance {α : Type} [Enc α] : Enc (T1 α) := ⟨fun p => .tuple [enc p.a]⟩
instance {α : Type} [Enc α] [Flat α] : Flat (T1 α) := ⟨fun p => by
  show (flatD (enc p.a) && true) = true
  rw [Flat.flat]
  rfl⟩
section
variable {X : Cx} {γ α β δ τ1 τ2 : Type} [Enc α] [Enc β] [Enc δ] [Enc τ1] [Enc τ2] {Ve : Ev γ} {m m1 m2 : Md} {p p1 p2 : Bool} {a b : Expr} {pos : Pos}
theorem s_catT {f : Ac γ τ1} {h : Ac γ τ2} (mk : τ1 → τ2 → δ) (ha : SE X Ve .fr p1 a f) (hb : SE X Ve .fr p2 b h) (hmk : ∀ x y, ∃ xs ys, enc x = .tuple xs ∧ enc y = .tuple ys ∧ xs ≠ [] ∧ ys ≠ [] ∧ xs.length + ys.length ≤ 1000 ∧ enc (mk x y) = .tuple (xs ++ ys) := by exact fun _ _ => ⟨_, _, rfl, rfl, (fun h => nomatch h), (fun h => nomatch h), of_decide_eq_true rfl, rfl⟩) :
    SE X Ve .fr (p1 && p2) (.BinOp a .Add b pos) (op2 (fun x y => some (mk x y)) f h) :=
  s_op (r := fun K => rCatT K) op_catT (fun Z hK => fun A g σ H x y l k c Q j rx ry e q => by
    obtain rfl := some_inj' e
    obtain ⟨xs, ys, e1, e2, n1, n2, hl, e3⟩ := hmk l k
    have rx' : Rp Z.K (GH Z (OwV A Ve) H) x (enc l) := rx
    have ry' : Rp Z.K (GH Z (OwV A Ve) H) y (enc k) := ry
    rw [e1] at rx'
    rw [e2] at ry'
    obtain ⟨t, vs, rfl, s1, r1⟩ := rp_tuple rx'
    obtain ⟨u, ws, rfl, s2, r2⟩ := rp_tuple ry'
    have l1 := r1.length
    have l2 := r2.length
    have hv : vs ≠ [] := fun z => n1 (List.eq_nil_of_length_eq_zero (by rw [← l1, z]; rfl))
    have hw : ws ≠ [] := fun z => n2 (List.eq_nil_of_length_eq_zero (by rw [← l2, z]; rfl))
    refine ⟨t, u, vs, ws, rfl, rfl, hK ▸ sqT_same gh_le s1, hK ▸ sqT_same gh_le s2, hv, smallN (by omega), fun z => absurd z hw, fun _ n hn => q (.ref n) _ (same_new hn) (j.new hn) ?_⟩
    show Rp Z.K _ _ (enc (mk l k))
    rw [e3]
    have hn' := j.ghnew (o := .tup (vs ++ ws)) hn
    rw [ow_at] at hn'
    exact .tup hn' (RpA.mono (Gr.of (same_new hn)).gh _ (r1.append r2))) ha hb rfl
/-- zip(tuple, tuple) -/
theorem i_zipT {f : Ac γ τ1} {h : Ac γ τ2} (mk1 : τ1 → List α) (mk2 : τ2 → List β) {p0 pos tpos : Pos} {elts : List Expr} {kk : Nat} (hx : X.mg "zip" = none) (ha : SE X Ve .fr p1 a f) (hb : SE X Ve .fr p2 b h) (h1 : ∀ x, enc x = .tuple ((mk1 x).map enc) := by exact fun _ => rfl) (h2 : ∀ x, enc x = .tuple ((mk2 x).map enc) := by exact fun _ => rfl)
    (hg : Gl X "zip" := by rfl) (hs : starEach [a, b] X.env = (false, eval a X.env) :: starEach [b] X.env := by rfl) (hs2 : starEach [b] X.env = (false, eval b X.env) :: starEach [] X.env := by rfl) (hpl : (backTo pos (starEach [b] X.env)).any (·.1) = false := by rfl) :
    SI X Ve true (p1 && p2) (.Tuple elts kk tpos) (.Call (.Name "zip" p0) [a, b] [] pos) (op2 (fun x y => some ((mk1 x).zip (mk2 y))) f h) :=
  ⟨fun Z W hK tk => (RZ.pi_zipA hg hx (pa_cons (ha.run Z W hK tk) (pa_cons (hb.run Z W hK tk) pa_nil hs2) hs) hs hpl).weak fun σ H R q => by
  obtain ⟨g, A, j, q⟩ := q
  refine ⟨g, A, j, ?_⟩
  unfold op2 bindA optA at q
  cases ef : f g with
  | bad => simp only [ef] at q
  | exc x g1 => simp only [ef] at q; exact q
  | ok x g1 =>
    simp only [ef] at q
    intro v H1 j1 gr sm rv
    refine ⟨g1, A, j1, ?_⟩
    cases eh : h g1 with
    | bad => simp only [eh] at q
    | exc x g2 =>
      simp only [eh] at q
      exact fun c H' mc j' gr' => q c H' mc j' (gr.trans gr')
    | ok y g2 =>
      simp only [eh] at q
      intro w H2 j2 gr2 sm2 rw2
      have rv2 : Rm Z A Ve H2 .fr v (enc x) := rv.step (p := p2) gr2 sm2 rfl
      rw [h1] at rv2
      rw [h2] at rw2
      obtain ⟨a, vs, rfl, e1, e3, on⟩ := tup_on rfl rv2
      obtain ⟨a', vs', rfl, e1', e3', on'⟩ := tup_on rfl rw2
      have el := e3.length
      have el' := e3'.length
      rw [List.length_map] at el el'
      rw [hK] at e1 e1' on on'
      refine ⟨a, a', vs, vs', rfl, .inr ⟨e1, e1', q _ H2 j2 (gr.trans gr2) (fun z => (sm (Bool.and_eq_true_iff.mp z).1).trans (sm2 (Bool.and_eq_true_iff.mp z).2)) fun O' H3 st i => ?_⟩⟩
      have e5 := on _ _ st
      have e5' := on' _ _ st
      have hl : (((mk1 x).zip (mk2 y)).map enc).length = min vs.length vs'.length := by rw [List.length_map, List.length_zip, el, el']
      rw [hl]
      refine ⟨fun hi => ⟨vs, vs', vs[i], vs'[i], e5, e5', List.getElem?_eq_getElem (by omega), List.getElem?_eq_getElem (by omega)⟩, fun hi => ⟨vs, vs', e5, e5', by omega⟩, fun z H4 d y9 hd => ?_⟩
      obtain ⟨T, x', y', rfl, hT, rfl, y1, y2⟩ := y9
      have hi : i < min vs.length vs'.length := by
        have := (List.getElem?_eq_some_iff.mp hd).1
        rw [hl] at this
        exact this
      have ea : (mk1 x)[i]? = some (mk1 x)[i] := List.getElem?_eq_getElem (by omega)
      have eb : (mk2 y)[i]? = some (mk2 y)[i] := List.getElem?_eq_getElem (by omega)
      have ez : ((mk1 x).zip (mk2 y))[i]? = some ((mk1 x)[i], (mk2 y)[i]) := List.getElem?_zip_eq_some.mpr ⟨ea, eb⟩
      rw [List.getElem?_map, ez] at hd
      cases hd
      obtain ⟨v, hv, rv⟩ := e3.get (by rw [List.getElem?_map, ea]; rfl)
      obtain ⟨v', hv', rv'⟩ := e3'.get (by rw [List.getElem?_map, eb]; rfl)
      have t1 := y1 vs e5
      have t2 := y2 vs' e5'
      rw [hv] at t1
      rw [hv'] at t2
      cases t1
      cases t2
      exact ⟨same_new hT, .tup (un_new hT (hp_none st hT) upd_same) (.cons (Rp.mono un_le _ rv) (.cons (Rp.mono un_le _ rv') .nil))⟩⟩
end
section
variable {X : Cx} {γ β α1 α2 α3 : Type} [Enc α1] [Enc α2] [Enc α3] {C : FC γ β} {xj : XJ γ} {Ve Ve' : Ev γ} {p : Bool} {e e2 e3 : Expr} {pos : Pos}
/-- a, b, c = e1, e2, e3 -/
theorem c_par3 {f : Ac γ (α1 × (α2 × (α3 × Unit)))} (i k l : Nat) (set : γ → α1 × (α2 × (α3 × Unit)) → γ) {x y z : Str} {px py pz pt : Pos} {kt k2 pt2} (hx : XOk xj Ve) (he : SA X Ve [.val .fr, .val .fr, .val .fr] p [e, e2, e3] (fun t : α1 × (α2 × (α3 × Unit)) => [enc t.1, enc t.2.1, enc t.2.2.1]) f) (hc : X.calm = true)
    (hV : ∀ g t, at_ Ve' (set g t) = (((at_ Ve g).set i (.imm true (enc t.1))).set k (.imm true (enc t.2.1))).set l (.imm true (enc t.2.2.1)) := by exact fun _ _ => rfl) (hno : (ioIx C).contains i = false := by rfl) (hno2 : (ioIx C).contains k = false := by rfl) (hno3 : (ioIx C).contains l = false := by rfl)
    (hN : X.N.Nodup) (hi : X.N[i]? = some x := by rfl) (hk : X.N[k]? = some y := by rfl) (hl : X.N[l]? = some z := by rfl) (hik : i ≠ k := by decide) (hil : i ≠ l := by decide) (hkl : k ≠ l := by decide) (hlx : X.env.scope.names.lookup x = some .local := by rfl) (hly : X.env.scope.names.lookup y = some .local := by rfl) (hlz : X.env.scope.names.lookup z = some .local := by rfl)
    (hw : swappedStores [.Tuple [.Name x px, .Name y py, .Name z pz] kt pt] (.Tuple [e, e2, e3] k2 pt2) X.env = pure (some [x, y, z]) := by rfl) (hs : swapsWithSole [.Tuple [.Name x px, .Name y py, .Name z pz] kt pt] (.Tuple [e, e2, e3] k2 pt2) pos.line X.env = pure false := by rfl) :
    SS X C xj Ve Ve' (.Assign [.Tuple [.Name x px, .Name y py, .Name z pz] kt pt] (.Tuple [e, e2, e3] k2 pt2) pos) (setS set f) := ⟨fun Z W hK hio tk => (ps_par3 hc hN hi hk hl hik hil hkl hlx hly hlz (he.run Z W hK tk) hw hs).weak fun D σ H q => by
  refine tS_doA hx q fun t g A vs H' j rv z => ?_
  obtain ⟨v, w, u, rfl, r1, r2, r3⟩ : ∃ v w u, vs = [v, w, u] ∧ Rm Z A Ve H' .fr v (enc t.1) ∧ Rm Z A Ve H' .fr w (enc t.2.1) ∧ Rm Z A Ve H' .fr u (enc t.2.2.1) := by
    cases vs with
    | nil => exact rv.elim
    | cons v vs =>
      cases vs with
      | nil => exact rv.2.elim
      | cons w vs =>
        cases vs with
        | nil => exact rv.2.2.elim
        | cons u vs =>
          cases vs with
          | nil => exact ⟨v, w, u, rfl, rv.1, rv.2.1, rv.2.2.1⟩
          | cons _ _ => exact rv.2.2.2.elim
  have q1 : Rp Z.K (hp Z (Ow A (at_ Ve g)) H' true) v (enc t.1) := by rw [ow_at]; exact r1
  have q2 : Rp Z.K (hp Z (Ow A (at_ Ve g)) H' true) w (enc t.2.1) := by rw [ow_at]; exact r2
  have q3 : Rp Z.K (hp Z (Ow A (at_ Ve g)) H' true) u (enc t.2.2.1) := by rw [ow_at]; exact r3
  have j1 := j.setImm (i := i) q1 (noio hio hno)
  have j2 := j1.setImm (i := k) (Rp.mono (Gr.hpO (ow_set imm_ne)) _ q2) (noio hio hno2)
  have j3 := j2.setImm (i := l) (Rp.mono (Gr.hpO fun x y => ow_set imm_ne x (ow_set imm_ne x y)) _ q3) (noio hio hno3)
  rw [← hV] at j3
  refine ⟨v, w, u, rfl, z A _ H' j3 fun x o n h => ⟨h, fun y => n ?_⟩⟩
  rw [← ow_at (g := set g t), hV] at y
  rw [← ow_at (g := g)]
  exact ow_set imm_ne x (ow_set imm_ne x (ow_set imm_ne x y))⟩
end
end HL
/-! Ft: try: .. except C as e: .. -/
namespace HL
open PySem PySem.Spec PyProof.Rows L2
/-- where an exception leaves, the state stands as told by Ve -/
def xjJ {γ : Type} (Ve : Ev γ) : XJ γ := fun Z A g σ H => J Z A (at_ Ve g) σ H
theorem xjJ_ok {γ : Type} {Ve : Ev γ} : XOk (xjJ Ve) Ve := fun _ _ _ _ _ j => j
/-- which class is caught: told by name; none of others is known -/
def tryS {γ β : Type} (ct : Str → Option Bool) (f : Sc γ β) (h : Str → Sc γ β) : Sc γ β := fun g => match f g with
  | .exc x g1 => match ct x with
    | some true => match h x g1 with
      | .exc _ _ => .bad
      | r => r
    | some false => .exc x g1
    | none => .bad
  | r => r
section
variable {Z : Fix} {A : Nat → Addr} {r : List Slot} {σ : L2.St} {H : Hp}
theorem raw_ne {v : L2.V} : ∀ ds, Slot.raw v ≠ .own ds := fun _ z => by cases z
theorem J.setRaw (j : J Z A r σ H) {i : Nat} {v : L2.V} (hno : r[i]? = some .no) : J Z A (r.set i (.raw v)) (σ.set i (some v)) H := by
  have il : i < r.length := (List.getElem?_eq_some_iff.mp hno).1
  have get : ∀ {k : Nat} {s : Slot}, (r.set i (.raw v))[k]? = some s → (i = k ∧ s = .raw v) ∨ (i ≠ k ∧ r[k]? = some s) := fun {k s} h => by
    rw [set_get] at h
    by_cases e : i = k
    · rw [if_pos e, if_pos il] at h
      exact .inl ⟨e, (Option.some.inj h).symm⟩
    · rw [if_neg e] at h
      exact .inr ⟨e, h⟩
  have sig : ∀ {k : Nat}, i ≠ k → (σ.set i (some v))[k]? = σ[k]? := fun {k} e => by rw [List.getElem?_set, if_neg e]
  have ow : Ow A (r.set i (.raw v)) = Ow A r := by
    funext x
    refine propext ⟨ow_set raw_ne x, fun ⟨k, ds, h, e⟩ => ⟨k, ds, ?_, e⟩⟩
    rw [set_get, if_neg (fun z => by subst z; rw [hno] at h; cases h)]
    exact h
  have own' : ∀ {k : Nat} {ds : Ob}, (r.set i (.raw v))[k]? = some (.own ds) → r[k]? = some (.own ds) := fun h => (set_own raw_ne h).2
  refine ⟨fun k fr d h => ?_, fun k ds h => ?_, fun k ns h => ?_, fun k u h => ?_, fun k u h => ?_, fun k l ds es h1 h2 => j.inj k l ds es (own' h1) (own' h2), fun k ds h => j.notS k ds (own' h), j.smut, j.base, fun k ds h => j.newo k ds (own' h), fun k a h => ?_, ?_⟩
  · rcases get h with ⟨_, z⟩ | ⟨e, h⟩
    · cases z
    · rw [ow, sig e]; exact j.imm k fr d h
  · rcases get h with ⟨_, z⟩ | ⟨e, h⟩
    · cases z
    · rw [ow, sig e]; exact j.own k ds h
  · rcases get h with ⟨_, z⟩ | ⟨e, h⟩
    · cases z
    · rw [ow, sig e]; exact j.scr k ns h
  · rcases get h with ⟨e, z⟩ | ⟨e, h⟩
    · cases z
      subst e
      rw [List.getElem?_set, if_pos rfl, if_pos (by rw [← j.len]; exact il)]
    · rw [sig e]; exact j.raw k u h
  · rcases get h with ⟨_, z⟩ | ⟨e, h⟩
    · cases z
    · rw [ow, sig e]; exact j.pk k u h
  · obtain ⟨e1, ds, e2⟩ := j.ioo k a h
    refine ⟨e1, ds, ?_⟩
    rw [set_get, if_neg (fun z => by subst z; rw [hno] at e2; cases e2)]
    exact e2
  · rw [List.length_set, List.length_set, j.len]
end
theorem J.unraw {Z : Fix} {A : Nat → Addr} {r : List Slot} {σ : L2.St} {H : Hp} {i : Nat} {v : L2.V} (j : J Z A (r.set i (.raw v)) σ H) (hno : r[i]? = some .no) : J Z A r (σ.set i none) H := by
  have up : ∀ {k : Nat} {s : Slot}, r[k]? = some s → s ≠ .no → i ≠ k ∧ (r.set i (.raw v))[k]? = some s := fun {k s} h hs => by
    have e : i ≠ k := fun z => by
      subst z
      rw [hno] at h
      exact hs (Option.some.inj h).symm
    exact ⟨e, by rw [set_get, if_neg e]; exact h⟩
  have sig : ∀ {k : Nat}, i ≠ k → (σ.set i none)[k]? = σ[k]? := fun {k} e => by rw [List.getElem?_set, if_neg e]
  have ow : Ow A (r.set i (.raw v)) = Ow A r := by
    funext x
    refine propext ⟨ow_set raw_ne x, fun ⟨k, ds, h, e⟩ => ⟨k, ds, (up h (fun z => by cases z)).2, e⟩⟩
  have own' : ∀ {k : Nat} {ds : Ob}, r[k]? = some (.own ds) → (r.set i (.raw v))[k]? = some (.own ds) := fun h => (up h (fun z => by cases z)).2
  refine ⟨fun k fr d h => ?_, fun k ds h => ?_, fun k ns h => ?_, fun k u h => ?_, fun k u h => ?_, fun k l ds es h1 h2 => j.inj k l ds es (own' h1) (own' h2), fun k ds h => j.notS k ds (own' h), j.smut, j.base, fun k ds h => j.newo k ds (own' h), fun k a h => ?_, ?_⟩
  · obtain ⟨e, h'⟩ := up h (fun z => by cases z)
    rw [sig e, ← ow]; exact j.imm k fr d h'
  · obtain ⟨e, h'⟩ := up h (fun z => by cases z)
    rw [sig e, ← ow]; exact j.own k ds h'
  · obtain ⟨e, h'⟩ := up h (fun z => by cases z)
    rw [sig e, ← ow]; exact j.scr k ns h'
  · obtain ⟨e, h'⟩ := up h (fun z => by cases z)
    rw [sig e]; exact j.raw k u h'
  · obtain ⟨e, h'⟩ := up h (fun z => by cases z)
    rw [sig e, ← ow]; exact j.pk k u h'
  · obtain ⟨e1, ds, e2⟩ := j.ioo k a h
    exact ⟨e1, ds, (set_own raw_ne e2).2⟩
  · have := j.len
    rw [List.length_set] at this
    rw [List.length_set, this]
/-! ### another entry -/
open Classical in
noncomputable def Fix.now (Z : Fix) (O : Addr → Prop) (H : Hp) : Fix := { Z with H0 := fun a => if O a ∧ ∀ i, (i, a) ∉ Z.io then none else H a }
open Classical in
theorem now_some {Z : Fix} {O : Addr → Prop} {H : Hp} {a : Addr} {o : HO} : (Z.now O H).H0 a = some o ↔ ¬ (O a ∧ ∀ i, (i, a) ∉ Z.io) ∧ H a = some o := by
  show (if O a ∧ ∀ i, (i, a) ∉ Z.io then none else H a) = some o ↔ _
  by_cases h : O a ∧ ∀ i, (i, a) ∉ Z.io
  · simp [h]
  · simp [h]
def flatS : Slot → Prop
  | .imm true d => flatD d = true
  | .own (.ls ds) => flatA ds = true
  | .pk _ => False
  | _ => True
section
variable {Z : Fix} {A A0 : Nat → Addr} {r r0 : List Slot} {σ σ0 : L2.St} {H H2 : Hp}
theorem J.up (j : J Z A r σ H) (hfl : ∀ s ∈ r, flatS s) : J (Z.now (Ow A r) H) A r σ H := by
  have sq : ∀ a xs, H a = some (.tup xs) → GH (Z.now (Ow A r) H) (Ow A r) H a = some (.tup xs) := by
    intro a xs h
    have good : ∀ {o : HO}, H a = some o → ¬ Mut (some o) → GH (Z.now (Ow A r) H) (Ow A r) H a = some o := fun {o} e nm => by
      refine hide_mk (fun z => ?_) e
      rcases z with z | z | z
      · have := j.smut a z
        rw [e] at this
        exact nm this
      · obtain ⟨vs, q, mu⟩ := j.owl z
        rw [e] at q
        cases q
        exact nm mu
      · cases q : (Z.now (Ow A r) H).H0 a with
        | none => rw [q] at z; exact z
        | some u =>
          have := (now_some.mp q).2
          rw [e] at this
          cases this
          rw [q] at z
          exact nm z
    exact good h fun z => z
  refine ⟨fun i fr d h => ?_, fun i ds h => ?_, j.scr, j.raw, fun i t h => (hfl _ (List.mem_of_getElem? h)).elim, j.inj, j.notS, j.smut, fun a o h n => (now_some.mp h).2, fun i ds h => ?_, j.ioo, j.len⟩
  · obtain ⟨v, e1, e2⟩ := j.imm i fr d h
    refine ⟨v, e1, ?_⟩
    cases fr with
    | false => exact e2
    | true => exact Rp.flat sq d (hfl _ (List.mem_of_getElem? h)) (Rp.mono hp_le _ e2)
  · obtain ⟨e1, e2⟩ := j.own i ds h
    refine ⟨e1, ?_⟩
    cases ds with
    | ls ds =>
      obtain ⟨vs, e2, e3⟩ := e2
      exact ⟨vs, e2, RpA.flat sq ds (hfl _ (List.mem_of_getElem? h)) (RpA.mono gh_le _ e3)⟩
    | dk ks => exact e2
  · by_cases hio : ∀ k, (k, A i) ∉ Z.io
    · cases q : (Z.now (Ow A r) H).H0 (A i) with
      | none => exact .inr rfl
      | some u => exact absurd ⟨⟨i, ds, h, rfl⟩, hio⟩ (now_some.mp q).1
    · obtain ⟨k, hk⟩ := Classical.not_forall.mp hio
      have hk := Classical.not_not.mp hk
      obtain ⟨e1, es, e2⟩ := j.ioo k (A i) hk
      have := j.inj k i es ds e2 h e1
      subst this
      exact .inl hk
/-- what stood at the entry stands unowned at the later one, or is handed in to be changed -/
theorem J.ent (j : J Z A0 r0 σ0 H) {a : Addr} {o : HO} (h : Z.H0 a = some o) (n : ∀ i, (i, a) ∉ Z.io) : (Z.now (Ow A0 r0) H).H0 a = some o := by
  refine now_some.mpr ⟨fun ⟨⟨i, ds, e, z⟩, _⟩ => ?_, j.base a o h n⟩
  subst z
  rcases j.newo i ds e with q | q
  · exact n i q
  · rw [q] at h; cases h
theorem J.down (j0 : J Z A0 r0 σ0 H) (j : J (Z.now (Ow A0 r0) H) A r σ H2) : J Z A r σ H2 := by
  have g1 : Same (GH (Z.now (Ow A0 r0) H) (Ow A r) H2) (GH Z (Ow A r) H2) := hide_same fun a o n h => by
    refine ⟨fun z => ?_, h⟩
    rcases z with z | z | z
    · exact n (.inl z)
    · exact n (.inr (.inl z))
    · cases q : Z.H0 a with
      | none => rw [q] at z; exact z
      | some u =>
        by_cases hio : ∀ i, (i, a) ∉ Z.io
        · refine n (.inr (.inr ?_))
          rw [j0.ent q hio, ← q]
          exact z
        · obtain ⟨i, hi⟩ := Classical.not_forall.mp hio
          have hi := Classical.not_not.mp hi
          obtain ⟨e1, ds, e2⟩ := j.ioo i a hi
          exact n (.inr (.inl ⟨i, ds, e2, e1⟩))
  refine ⟨fun i fr d h => ?_, fun i ds h => ?_, j.scr, j.raw, fun i t h => (j.pk i t h).mono g1, j.inj, j.notS, j.smut, fun a o h n => j.base a o (j0.ent h n) n, fun i ds h => ?_, j.ioo, j.len⟩
  · obtain ⟨v, e1, e2⟩ := j.imm i fr d h
    refine ⟨v, e1, ?_⟩
    cases fr with
    | false => exact e2
    | true => exact Rp.mono g1 _ e2
  · obtain ⟨e1, e2⟩ := j.own i ds h
    exact ⟨e1, e2.mono g1⟩
  · cases q : Z.H0 (A i) with
    | none => exact .inr rfl
    | some u =>
      by_cases hio : ∀ k, (k, A i) ∉ Z.io
      · rcases j.newo i ds h with z | z
        · exact .inl z
        · rw [j0.ent q hio] at z; cases z
      · obtain ⟨k, hk⟩ := Classical.not_forall.mp hio
        have hk := Classical.not_not.mp hk
        obtain ⟨e1, es, e2⟩ := j.ioo k (A i) hk
        have := j.inj k i es ds e2 h e1
        subst this
        exact .inl hk
theorem J.entMut (j : J Z A0 r0 σ0 H) {a : Addr} (h : Mut (Z.H0 a)) : Mut ((Z.now (Ow A0 r0) H).H0 a) := by
  cases q : Z.H0 a with
  | none => rw [q] at h; exact h.elim
  | some u =>
    by_cases hio : ∀ i, (i, a) ∉ Z.io
    · rw [j.ent q hio, ← q]
      exact h
    · have hio2 := hio
      obtain ⟨i, hi⟩ := Classical.not_forall.mp hio
      have hi := Classical.not_not.mp hi
      obtain ⟨e1, ds, e2⟩ := j.ioo i a hi
      obtain ⟨vs, e3, mu⟩ := j.owl ⟨i, ds, e2, e1⟩
      rw [now_some.mpr ⟨fun z => hio2 z.2, e3⟩]
      exact mu
theorem RetOk.down {γ β : Type} {C : FC γ β} {g : γ} {b : β} {v : L2.V} (j0 : J Z A0 r0 σ0 H) (h : RetOk (Z.now (Ow A0 r0) H) C g b v H2) : RetOk Z C g b v H2 := by
  have s1 : Same (hide (fun x => Mut ((Z.now (Ow A0 r0) H).H0 x)) H2) (hide (fun x => Mut (Z.H0 x)) H2) := hide_same fun a o n h => ⟨fun z => n (j0.entMut z), h⟩
  refine ⟨fun a o e n => h.frame a o (j0.ent e n) n, fun i a ds e1 e2 => ?_, ?_⟩
  · obtain ⟨us, q1, q2⟩ := h.io i a ds e1 e2
    exact ⟨us, q1, RpA.mono s1 _ q2⟩
  · have r := h.ret
    cases e : C.rm with
    | an => rw [e] at r; exact r
    | fr => rw [e] at r; exact Rp.mono s1 _ r
    | nw =>
      rw [e] at r
      obtain ⟨q, us, ds, e1, e2, e3, e4, e5⟩ := r
      refine ⟨q, us, ds, e1, e2, ?_, e4, RpA.mono (hide_same fun a o n h => ⟨fun z => n (z.elim (fun z => .inl (j0.entMut z)) .inr), h⟩) _ e5⟩
      cases q0 : Z.H0 q with
      | none => rfl
      | some o =>
        by_cases hio : ∀ i, (i, q) ∉ Z.io
        · rw [j0.ent q0 hio] at e3
          cases e3
        · have hio2 := hio
          obtain ⟨i, hi⟩ := Classical.not_forall.mp hio
          have hi := Classical.not_not.mp hi
          obtain ⟨e1, ds, e2⟩ := j0.ioo i q hi
          obtain ⟨vs, e6, _⟩ := j0.owl ⟨i, ds, e2, e1⟩
          rw [now_some.mpr ⟨fun z => hio2 z.2, e6⟩] at e3
          cases e3
theorem J.stt (j0 : J Z A0 r0 σ0 H) (j : J (Z.now (Ow A0 r0) H) A r σ H2) : Stt (Ow A0 r0) (Ow A r) H H2 := fun a o n h => by
  have e0 : (Z.now (Ow A0 r0) H).H0 a = some o := now_some.mpr ⟨fun z => n z.1, h⟩
  have nio : ∀ i, (i, a) ∉ Z.io := fun i hi => by
    obtain ⟨e1, ds, e2⟩ := j0.ioo i a hi
    exact n ⟨i, ds, e2, e1⟩
  refine ⟨j.base a o e0 nio, fun ⟨i, ds, e, z⟩ => ?_⟩
  subst z
  rcases j.newo i ds e with q | q
  · exact nio i q
  · rw [e0] at q; cases q
end
section
variable {X : Cx} {γ β : Type} {C : FC γ β} {xj : XJ γ} {Ve Vx Vb Vs' Ve' : Ev γ}
/-- what the suite is given of the exception that it holds -/
structure ExA (X : Cx) (x : Str) (a : Addr) (oe : Obj) : Prop where
  ex : ∃ Cx : Addr, X.mg x = some (.ref Cx) ∧ Zc (.ref Cx) none oe
  fl : ∃ vs, oe.data = .fields vs
theorem c_try {n nc : Str} {i : Nat} {cv : Value} {ct : Str → Option Bool} {f : Sc γ β} {h : Str → Sc γ β} {body suite : List Stmt} {b₀ : Stmt} {np pos pos' : Pos} (hN : X.N.Nodup) (hs : X.stack = X.env :: X.outer) (hf : X.env.frame = some X.env.locals) (hc : Names X nc cv)
    (hct : ∀ x b c, ct x = some b → X.mg x = some c → PySem.W.exmOne X.K c cv = some b) (href : ∀ x c, ct x = some true → X.mg x = some c → ∃ Cx : Addr, c = .ref Cx)
    (hx : ∀ Z A g σ H, J Z A (at_ Vx g) σ H → xj Z A g σ H) (hfl : ∀ g, ∀ s ∈ at_ Ve g, flatS s)
    (hb : ∀ (pn : List (Addr × Obj)) (xe : Value → Shared → Prop), SB (X.tr pn xe) C (xjJ Vx) Ve Vb body f)
    (hsu : ∀ (x : Str) (a : Addr) (oe : Obj) (pn : List (Addr × Obj)), ct x = some true → ExA X x a oe → SB (X.suite a ((a, oe) :: pn)) C (xfr γ) (Vx.set i (.raw (.ref a))) (Vs'.set i (.raw (.ref a))) (b₀ :: suite) (h x))
    (hVx : Vx[i]? = some .no) (hVs : Vs'[i]? = some .no) (wb : Wkv Vb Ve') (ws : Wkv Vs' Ve') (kb : IosOk Vb C.ios) (ks : IosOk Vs' C.ios) (ke : IosOk Ve' C.ios)
    (hi : X.N[i]? = some n := by rfl) (hln : X.env.kindOf n = some .local := by rfl) :
    SS X C xj Ve Ve' (.Try body [.ExceptHandler (some (.Name nc np)) (some n) (b₀ :: suite) pos'] [] [] pos) (tryS ct f h) := ⟨fun Z W hK hio tk => by
  have key := ps_try_as (X := X) (i := i) (body := body) (suite := suite) (b₀ := b₀) (np := np) (pos := pos) (pos' := pos') hs hf hN hi hln hc tk
    (tb := fun W => fun D σ H => ∃ Z' : Fix, Z'.K = X.K ∧ Z'.io.map (·.1) = ioIx C ∧ tS X.mg Z' W C (xjJ Vx) Ve Vb f D σ H)
    (ts := fun a cls d => fun D σ H => ∃ (x : Str) (Z' : Fix), Z'.K = X.K ∧ Z'.io.map (·.1) = ioIx C ∧ ct x = some true ∧ X.mg x = some cls ∧ d = none ∧ tS X.mg Z' (fun _ _ _ _ => False) C (xfr γ) (Vx.set i (.raw (.ref a))) (Vs'.set i (.raw (.ref a))) (h x) D σ H)
    (fun W pn xe tk' _ => ⟨fun pins s σ H D I q => by
      obtain ⟨Z', k1, k2, q⟩ := q
      exact ((hb pn xe).run Z' W k1 k2 tk').run pins s σ H D I q⟩) (fun a oe cls d pn hz hfl => ⟨fun pins s σ H D I q => by
      obtain ⟨x, Z', k1, k2, h1, h2, rfl, q⟩ := q
      obtain ⟨Cx, rfl⟩ := href x cls h1 h2
      exact ((hsu x a oe pn h1 ⟨⟨Cx, h2, hz⟩, hfl⟩).run Z' (fun _ _ _ _ => False) k1 k2 (fun u s' z => by
        obtain ⟨_, _, _, _, _, _, _, _, _, _, _, _, _, _, _, _, z⟩ := z
        exact z)).run pins s σ H D I q⟩)
  refine key.weak fun D σ H q => ?_
  obtain ⟨g, A, j, q⟩ := q
  have ju := j.up (hfl g)
  refine ⟨Z.now (Ow A (at_ Ve g)) H, hK, hio, g, A, ju, ?_⟩
  unfold tryS at q
  cases ef : f g with
  | bad => simp only [ef] at q
  | rt b g1 =>
    simp only [ef] at q
    exact fun v H' r => q v H' (RetOk.down j r)
  | nx g1 =>
    simp only [ef] at q
    intro A' σ' H' j' st
    have j3 := j'.weak (wb g1) (wk_io (A := A') kb ke hio)
    have st3 := j.stt j3
    rw [ow_at, ow_at] at st3
    exact q A' σ' H' (j.down j3) st3
  | exc x g1 =>
    simp only [ef] at q
    intro c A' σ' H' mc jx
    have jx' : J (Z.now (Ow A (at_ Ve g)) H) A' (at_ Vx g1) σ' H' := jx
    cases ec : ct x with
    | none => simp only [ec] at q
    | some b =>
      refine ⟨b, hct x b c ec mc, fun hb1 a hna => ?_, fun hb0 => ?_⟩
      · subst hb1
        simp only [ec] at q
        have jr := jx'.setRaw (i := i) (v := .ref a) (by rw [at_get, hVx]; rfl)
        have ea : ∀ (V : Ev γ) (g : γ) (v : L2.V), (at_ V g).set i (.raw v) = at_ (V.set i (.raw v)) g := fun V g v => by
          unfold at_
          rw [List.map_set]
          rfl
        rw [ea] at jr
        refine ⟨x, Z.now (Ow A (at_ Ve g)) H, hK, hio, ec, mc, rfl, g1, A', jr, ?_⟩
        cases eh : h x g1 with
        | bad => simp only [eh] at q
        | exc y g2 => simp only [eh] at q
        | rt b g2 =>
          simp only [eh] at q
          exact fun v H2 r => q v H2 (RetOk.down j r)
        | nx g2 =>
          simp only [eh] at q
          intro A2 σ2 H2 j2 st2
          rw [← ea] at j2
          have il : i < (at_ Vs' g2).length := by
            have : i < Vs'.length := (List.getElem?_eq_some_iff.mp hVs).1
            unfold at_
            rw [List.length_map]
            exact this
          have hno : (at_ Vs' g2)[i]? = some .no := by rw [at_get, hVs]; rfl
          have j3 : J (Z.now (Ow A (at_ Ve g)) H) A2 (at_ Vs' g2) (σ2.set i none) H2 := j2.unraw hno
          have j4 := j3.weak (ws g2) (wk_io (A := A2) ks ke hio)
          have st4 := j.stt j4
          rw [ow_at, ow_at] at st4
          exact q A2 _ H2 (j.down j4) st4
      · subst hb0
        simp only [ec] at q
        have jd := j.down jx'
        exact q c A' σ' H' mc (hx _ _ _ _ _ jd)⟩
end
end HL
/-! Fu: isinstance of the exception that a suite holds. -/
namespace HL
open PySem PySem.Spec PyProof.Rows L2
/-- the class named x, asked whether it is one of the class named y: b -/
structure XIs (K : PySem.W.Frag) (mg : Str → Option Value) (x y : Str) (b : Bool) : Prop where
  ex : ∃ Cx Cy : Addr, mg x = some (.ref Cx) ∧ mg y = some (.ref Cy) ∧ ExcC K Cx ∧ PySem.W.kitOne K (.ref Cx) (.ref Cy) = some b
/-- .. of a built-in class -/
structure XIsB (K : PySem.W.Frag) (mg : Str → Option Value) (x y : Str) (b : Bool) : Prop where
  ex : ∃ (Cx : Addr) (T : String), mg x = some (.ref Cx) ∧ mg y = none ∧ bootBuiltins y = some (.type T) ∧ ExcC K Cx ∧ PySem.W.kitOne K (.ref Cx) (.type T) = some b
section
variable {X : Cx} {γ : Type} {Ve : Ev γ} {pos : Pos} {a : Addr} {oe : Obj} {pn : List (Addr × Obj)} {x : Str}
theorem exA_cls {Cx : Addr} (h : ExA X x a oe) (m : X.mg x = some (.ref Cx)) : Zc (.ref Cx) none oe := by
  obtain ⟨C', h1, h2⟩ := h.ex
  rw [m] at h1
  cases h1
  exact h2
theorem s_isE {n y : Str} {b : Bool} {p0 p1 p2 : Pos} (i : Nat) (hE : ExA X x a oe) (c : XIs X.K X.mg x y b) (hx : X.mg "isinstance" = none) (hi : Ve[i]? = some (.raw (.ref a)) := by rfl) (hN : X.N[i]? = some n := by rfl)
    (hv : Vis X.env.scope n := by first | exact Or.inl rfl | exact Or.inr (Or.inl rfl) | exact Or.inr (Or.inr rfl)) (hd : (n == ("__debug__" : Str)) = false := by decide) (hcd : (n == ("__classdict__" : Str)) = false := by decide) (hg : Gl X "isinstance" := by rfl) (hgy : Gl X y := by rfl) (hdy : (y == ("__debug__" : Str)) = false := by decide)
    (he : starEach (.Name n p1 :: [.Name y p2]) X.env = (false, eval (.Name n p1) X.env) :: starEach [.Name y p2] X.env := by rfl) (he2 : starEach (.Name y p2 :: []) X.env = (false, eval (.Name y p2) X.env) :: starEach [] X.env := by rfl) (hpl : (backTo pos (starEach [.Name y p2] X.env)).any (·.1) = false := by rfl) :
    SE (X.suite a ((a, oe) :: pn)) Ve .fr true (.Call (.Name "isinstance" p0) [.Name n p1, .Name y p2] [] pos) (pureA fun _ => b) := ⟨fun Z W hK tk => by
  obtain ⟨Cx, Cy, m1, m2, ec, ek⟩ := c.ex
  refine (pe_callB (X := X.suite a ((a, oe) :: pn)) (call_isE ec (exA_cls hE m1) hE.fl) hg hx PyProof.Rows.boot_isinstance (pa_cons (pe_var (X := X.suite a ((a, oe) :: pn)) hN hv hd hcd) (pa_cons (pe_glob (X := X.suite a ((a, oe) :: pn)) (v := .ref Cy) hgy m2 rfl hdy) pa_nil he2) he) (by decide) (by decide) he hpl).weak fun σ H Q q => ?_
  obtain ⟨g, A, j, q⟩ := q
  have hr : (at_ Ve g)[i]? = some (.raw (.ref a)) := by rw [at_get, hi]; rfl
  refine ⟨_, j.raw i _ hr, .ref Cy, .ref Cy, b, rfl, fun u h => h, ek, ?_⟩
  exact q _ H j (.refl H) (fun _ => Same.refl H) (.bl b)⟩
theorem s_isEB {n y : Str} {b : Bool} {p0 p1 p2 : Pos} (i : Nat) (hE : ExA X x a oe) (c : XIsB X.K X.mg x y b) (hx : X.mg "isinstance" = none) (hi : Ve[i]? = some (.raw (.ref a)) := by rfl) (hN : X.N[i]? = some n := by rfl)
    (hv : Vis X.env.scope n := by first | exact Or.inl rfl | exact Or.inr (Or.inl rfl) | exact Or.inr (Or.inr rfl)) (hd : (n == ("__debug__" : Str)) = false := by decide) (hcd : (n == ("__classdict__" : Str)) = false := by decide) (hg : Gl X "isinstance" := by rfl) (hgy : Gl X y := by rfl) (hny : y ≠ "__name__" := by decide) (hdy : (y == ("__debug__" : Str)) = false := by decide)
    (he : starEach (.Name n p1 :: [.Name y p2]) X.env = (false, eval (.Name n p1) X.env) :: starEach [.Name y p2] X.env := by rfl) (he2 : starEach (.Name y p2 :: []) X.env = (false, eval (.Name y p2) X.env) :: starEach [] X.env := by rfl) (hpl : (backTo pos (starEach [.Name y p2] X.env)).any (·.1) = false := by rfl) :
    SE (X.suite a ((a, oe) :: pn)) Ve .fr true (.Call (.Name "isinstance" p0) [.Name n p1, .Name y p2] [] pos) (pureA fun _ => b) := ⟨fun Z W hK tk => by
  obtain ⟨Cx, T, m1, m2, hb, ec, ek⟩ := c.ex
  refine (pe_callB (X := X.suite a ((a, oe) :: pn)) (call_isE ec (exA_cls hE m1) hE.fl) hg hx PyProof.Rows.boot_isinstance (pa_cons (pe_var (X := X.suite a ((a, oe) :: pn)) hN hv hd hcd) (pa_cons (pe_bltn (X := X.suite a ((a, oe) :: pn)) (v := .ty T) hgy m2 hb rfl hny hdy) pa_nil he2) he) (by decide) (by decide) he hpl).weak fun σ H Q q => ?_
  obtain ⟨g, A, j, q⟩ := q
  have hr : (at_ Ve g)[i]? = some (.raw (.ref a)) := by rw [at_get, hi]; rfl
  refine ⟨_, j.raw i _ hr, .ty T, .type T, b, rfl, fun u h => h, ek, ?_⟩
  exact q _ H j (.refl H) (fun _ => Same.refl H) (.bl b)⟩
end
/-! ### a tuple of classes -/
def rIsET (K : PySem.W.Frag) (D a : Addr) : List L2.V → Hp → VK → Prop := fun xs H Q => ∃ (tp : Addr) (cs : List L2.V) (us : List Value) (b : Bool), xs = [.ref a, .ref tp] ∧ H tp = some (.tup cs) ∧ Paired ClsV cs us ∧ PySem.W.kitAny K (.ref D) us = some b ∧ Q (.bl b) H
theorem call_isET {X : Cx} {a D : Addr} {oe : Obj} {pn : List (Addr × Obj)} (C : ExcC X.K D) (hz : Zc (.ref D) none oe) (hf : ∃ vs, oe.data = .fields vs) : CallR (X.suite a ((a, oe) :: pn)) (.builtin "isinstance") (rIsET X.K D a) := by
  intro pins s σ H xs us Q I r h
  obtain ⟨tp, cs, ws, b, rfl, hT, k, e, q⟩ := h
  obtain ⟨u1, u2, rfl, r1, r2⟩ := vals2 r
  cases (show u1 = Value.ref a from r1)
  cases (show u2 = Value.ref tp from r2)
  obtain ⟨hget, _⟩ := I.pin (a, oe) (List.mem_append.mpr (.inl List.mem_cons_self))
  obtain ⟨vs, hv⟩ := hf
  have J : PySem.W.InstAt s.heap a oe D none := by
    obtain ⟨oc, od, oda, osl⟩ := oe
    obtain ⟨h1, h2⟩ := hz
    dsimp only at h1 h2 hv
    subst h1 h2 hv
    exact ⟨hget, rfl, rfl, trivial⟩
  obtain ⟨_, its, rv, o, h1, h2, n, h3⟩ := (show ObjOk X.prog X.w H s.heap tp (.tup cs) from I.hok tp _ hT)
  have e3 := ClsV.all k rv
  subst e3
  obtain ⟨oc, od, dt, sl⟩ := o
  simp only at h2 h3
  subst h2 h3
  exact PySem.W.kia_tup (PySem.W.handS_kitx_exc C.hg C.hk C.hs C.hd C.ha C.hn C.ht C.hm) I.kIn J h1 e (fun z => nomatch z) fun tk => ⟨.bl b, H, I.kept (t' := tk) fun _ _ z => z, rfl, q⟩
/-- a list of names of classes -/
structure NA (X : Cx) (es : List Expr) (cs : List Addr) : Prop where
  run : PA X es (fun _ H Q => Q (cs.map V.ref) H)
theorem na_nil {X : Cx} : NA X [] [] := ⟨pa_nil⟩
theorem na_cons {X : Cx} {y : Str} {p : Pos} {es : List Expr} {cs : List Addr} (h : X.mg y = some (.ref (He.ga X.K y))) (r : NA X es cs) (hg : Gl X y := by rfl) (hd : (y == ("__debug__" : Str)) = false := by decide) (he : starEach (.Name y p :: es) X.env = (false, eval (.Name y p) X.env) :: starEach es X.env := by rfl) : NA X (.Name y p :: es) (He.ga X.K y :: cs) :=
  ⟨pa_cons (pe_glob (v := .ref (He.ga X.K y)) hg h rfl hd) r.run he⟩
theorem clsV_refs : ∀ cs : List Addr, Paired ClsV (cs.map V.ref) (cs.map Value.ref)
  | [] => .nil
  | c :: cs => .cons (.own c) (clsV_refs cs)
section
variable {X : Cx} {γ : Type} {Ve : Ev γ} {pos : Pos} {a : Addr} {oe : Obj} {pn : List (Addr × Obj)} {x : Str}
theorem s_isET {n : Str} {b : Bool} {p0 p1 p2 : Pos} {es : List Expr} {kt : _} {cs : List Addr} (i : Nat) (hE : ExA X x a oe) (m1 : X.mg x = some (.ref (He.ga X.K x))) (ec : ExcC X.K (He.ga X.K x)) (ek : PySem.W.kitAny X.K (.ref (He.ga X.K x)) (cs.map Value.ref) = some b) (hes : NA (X.suite a ((a, oe) :: pn)) es cs) (hx : X.mg "isinstance" = none) (hl : cs.length ≤ 1000) (hi : Ve[i]? = some (.raw (.ref a)) := by rfl) (hN : X.N[i]? = some n := by rfl)
    (hv : Vis X.env.scope n := by first | exact Or.inl rfl | exact Or.inr (Or.inl rfl) | exact Or.inr (Or.inr rfl)) (hd : (n == ("__debug__" : Str)) = false := by decide) (hcd : (n == ("__classdict__" : Str)) = false := by decide) (hg : Gl X "isinstance" := by rfl)
    (he : starEach (.Name n p1 :: [.Tuple es kt p2]) X.env = (false, eval (.Name n p1) X.env) :: starEach [.Tuple es kt p2] X.env := by rfl) (he2 : starEach (.Tuple es kt p2 :: []) X.env = (false, eval (.Tuple es kt p2) X.env) :: starEach [] X.env := by rfl) (hpl : (backTo pos (starEach [.Tuple es kt p2] X.env)).any (·.1) = false := by rfl) :
    SE (X.suite a ((a, oe) :: pn)) Ve .fr true (.Call (.Name "isinstance" p0) [.Name n p1, .Tuple es kt p2] [] pos) (pureA fun _ => b) := ⟨fun Z W hK tk => by
  refine (pe_callB (X := X.suite a ((a, oe) :: pn)) (call_isET ec (exA_cls hE m1) hE.fl) hg hx PyProof.Rows.boot_isinstance (pa_cons (pe_var (X := X.suite a ((a, oe) :: pn)) hN hv hd hcd) (pa_cons (pe_tup hes.run) pa_nil he2) he) (by decide) (by decide) he hpl).weak fun σ H Q q => ?_
  obtain ⟨g, A, j, q⟩ := q
  have hr : (at_ Ve g)[i]? = some (.raw (.ref a)) := by rw [at_get, hi]; rfl
  refine ⟨_, j.raw i _ hr, by rw [List.length_map]; exact smallN hl, fun tp htp => ⟨tp, cs.map V.ref, cs.map Value.ref, b, rfl, upd_same, clsV_refs cs, ek, ?_⟩⟩
  exact q _ _ (j.new htp) (.of (same_new htp)) (fun _ => same_new htp) (.bl b)⟩
end
end HL
/-! Fv: short forms for a try that one class may leave. -/
namespace HL
open PySem PySem.Spec PyProof.Rows L2
def flatR : List Slot → Prop
  | [] => True
  | s :: r => flatS s ∧ flatR r
theorem flat_all : ∀ {r : List Slot}, flatR r → ∀ s ∈ r, flatS s
  | [], _, s, h => nomatch h
  | t :: r, k, s, h => by
    rcases List.mem_cons.mp h with e | h
    · rw [e]; exact k.1
    · exact flat_all k.2 s h
/-- the class x is caught by a clause that names y -/
structure XCat (K : PySem.W.Frag) (mg : Str → Option Value) (x y : Str) : Prop where
  gx : mg x = some (.ref (He.ga K x))
  gy : mg y = some (.ref (He.ga K y))
  ex : PySem.W.exmOne K (.ref (He.ga K x)) (.ref (He.ga K y)) = some true
theorem cat_names {X : Cx} {x y : Str} (c : XCat X.K X.mg x y) (hg : Gl X y := by rfl) (hd : (y == ("__debug__" : Str)) = false := by decide) : Names X y (.ref (He.ga X.K y)) := ⟨hg, hd, .inl c.gy⟩
theorem ct_one {K : PySem.W.Frag} {mg : Str → Option Value} {x y : Str} (c : XCat K mg x y) : ∀ (z : Str) (b : Bool) (v : Value), (if z = x then some true else none) = some b → mg z = some v → PySem.W.exmOne K v (.ref (He.ga K y)) = some b := fun z b v h m => by
  by_cases e : z = x
  · rw [if_pos e] at h
    cases h
    rw [e, c.gx] at m
    cases m
    exact c.ex
  · rw [if_neg e] at h
    cases h
theorem ct_ref {K : PySem.W.Frag} {mg : Str → Option Value} {x y : Str} (c : XCat K mg x y) : ∀ (z : Str) (v : Value), (if z = x then some true else none) = some true → mg z = some v → ∃ Cx : Addr, v = .ref Cx := fun z v h m => by
  by_cases e : z = x
  · rw [e, c.gx] at m
    cases m
    exact ⟨_, rfl⟩
  · rw [if_neg e] at h
    cases h
theorem ct_suite {X : Cx} {x z : Str} {a : Addr} {oe : Obj} {P : Prop} (h : (if z = x then some true else none) = some true) (hE : ExA X z a oe) (k : ExA X x a oe → P) : P := by
  by_cases e : z = x
  · exact k (e ▸ hE)
  · rw [if_neg e] at h
    cases h
/-- what is asked of the held exception -/
structure XOne (K : PySem.W.Frag) (mg : Str → Option Value) (x y : Str) (b : Bool) : Prop where
  gx : mg x = some (.ref (He.ga K x))
  gy : mg y = some (.ref (He.ga K y))
  ec : ExcC K (He.ga K x)
  ek : PySem.W.kitOne K (.ref (He.ga K x)) (.ref (He.ga K y)) = some b
theorem XOne.is {K : PySem.W.Frag} {mg : Str → Option Value} {x y : Str} {b : Bool} (c : XOne K mg x y b) : XIs K mg x y b := ⟨_, _, c.gx, c.gy, c.ec, c.ek⟩
structure XOneB (K : PySem.W.Frag) (mg : Str → Option Value) (x y : Str) (T : String) (b : Bool) : Prop where
  gx : mg x = some (.ref (He.ga K x))
  gy : mg y = none
  ec : ExcC K (He.ga K x)
  ek : PySem.W.kitOne K (.ref (He.ga K x)) (.type T) = some b
theorem XOneB.is {K : PySem.W.Frag} {mg : Str → Option Value} {x y : Str} {T : String} {b : Bool} (c : XOneB K mg x y T b) (h : bootBuiltins y = some (.type T)) : XIsB K mg x y b := ⟨_, T, c.gx, c.gy, h, c.ec, c.ek⟩
end HL
/-! Fw: len of a tuple. -/
namespace HL
open PySem PySem.Spec PyProof.Rows L2
section
variable {X : Cx} {γ τ : Type} [Enc τ] {Ve : Ev γ} {m : Md} {p : Bool} {e : Expr} {pos : Pos}
theorem s_lenT (n : Int) {f : Ac γ τ} {p0 : Pos} (hx : X.mg "len" = none) (ha : SE X Ve m p e f) (hmk : ∀ x : τ, ∃ ds, enc x = .tuple ds ∧ (ds.length : Int) = n := by exact fun _ => ⟨_, rfl, rfl⟩) (hg : Gl X "len" := by rfl) (he : starEach (e :: []) X.env = (false, eval e X.env) :: starEach [] X.env := by rfl) (hpl : (backTo pos (starEach [] X.env)).any (·.1) = false := by rfl) :
    SE X Ve .fr p (.Call (.Name "len" p0) [e] [] pos) (op1 (fun _ => some n) f) :=
  s_b1 (id := "len") (r := fun K xs H Q => ∃ q ys, xs = [.ref q] ∧ (SqL K H q ys ∨ SqT K H q ys) ∧ Q (.int ys.length) H) call_len_seq (fun Z hK => fun A g σ H x l c Q j rx e q => by
    obtain ⟨ds, e1, e2⟩ := hmk l
    have r := rx.full
    rw [e1] at r
    obtain ⟨t, vs, rfl, s1, s2⟩ := rp_tuple r
    have ec := some_inj' e
    refine ⟨t, vs, rfl, .inr (hK ▸ s1), ?_⟩
    rw [s2.length, e2, ← ec]
    exact q _ H (Same.refl H) j (.int _)) hx ha PySem.boot_len hg (by decide) (by decide) he he hpl
/-- a part of a tuple, its bounds written -/
theorem s_slT {δ : Type} [Enc δ] {a : Expr} {lo hi : Option Expr} {pos2 : Pos} {f : Ac γ τ} {l h : Ac γ (Option Int)} (pr : τ → δ) (ha : SE X Ve .fr p a f) (hl : SO X Ve true lo l) (hh : SO X Ve true hi h)
    (hk : ∃ lo' hi', (∀ g, l g = .ok lo' g) ∧ (∀ g, h g = .ok hi' g) ∧ ∀ x, ∃ ds, enc x = .tuple ds ∧ decide (HT.sIx ds.length 0 lo' = 0 ∧ HT.sIx ds.length ds.length hi' = ds.length) = false ∧ enc (pr x) = .tuple (cut lo' hi' ds) := by exact ⟨_, _, fun _ => rfl, fun _ => rfl, fun _ => ⟨_, rfl, rfl, rfl⟩⟩) :
    SE X Ve .fr p (.Subscript a (.Slice lo hi none pos2) pos) (op1 (fun x => some (pr x)) f) := ⟨fun Z W hK tk => (pe_slice sl_tup (ha.run Z W hK tk) (hl.run Z W hK tk) (hh.run Z W hK tk)).weak fun σ H Q q => by
  obtain ⟨lo', hi', k1, k2, k3⟩ := hk
  obtain ⟨g, A, j, q⟩ := q
  refine ⟨g, A, j, ?_⟩
  unfold op1 bindA at q
  cases ef : f g with
  | bad => rw [ef] at q; exact q
  | exc x g1 => rw [ef] at q; exact q
  | ok x g1 =>
    simp only [ef] at q
    intro v H1 j1 gr1 sm1 rv
    refine ⟨g1, A, j1, ?_⟩
    rw [k1 g1]
    intro H2 j2 gr2 sm2
    refine ⟨g1, A, j2, ?_⟩
    rw [k2 g1]
    intro H3 j3 gr3 sm3
    obtain ⟨ds, e1, e2, e3⟩ := k3 x
    have r3 : Rp Z.K (GH Z (OwV A Ve) H3) v (enc x) := Rp.mono (gr2.trans gr3).gh _ rv
    rw [e1] at r3
    obtain ⟨t, vs, rfl, s1, s2⟩ := rp_tuple r3
    refine ⟨t, vs, rfl, hK ▸ sqT_same gh_le s1, by rw [s2.length]; exact of_decide_eq_false e2, fun n hn => q (.ref n) _ (j3.new hn) (((gr1.trans gr2).trans gr3).trans (.of (same_new hn))) (fun z => (((sm1 z).trans (sm2 rfl)).trans (sm3 rfl)).trans (same_new hn)) ?_⟩
    show Rp Z.K _ _ (enc (pr x))
    rw [e3]
    have hn' := j3.ghnew (o := .tup (cutV vs lo' hi')) hn
    rw [ow_at] at hn'
    exact .tup hn' (RpA.mono (Gr.of (same_new hn)).gh _ (rpA_cut s2))⟩
end
end HL
/-! Fx: casts, values of two kinds, == of what may be none; more of the plain side. -/
namespace HL
open PySem PySem.Spec PyProof.Rows L2
section
variable {X : Cx} {γ α δ : Type} [Enc α] [Enc δ] {Ve : Ev γ} {m : Md} {p : Bool} {e : Expr}
/-- one and the same thing, of another type -/
theorem SE.cast (k : α → Option δ) (hk : ∀ a b, k a = some b → enc b = enc a) {f : Ac γ α} (h : SE X Ve m p e f) : SE X Ve m p e (op1 k f) := ⟨fun Z W hK tk => (h.run Z W hK tk).weak fun σ H Q q => by
  obtain ⟨g, A, j, q⟩ := q
  refine ⟨g, A, j, ?_⟩
  unfold op1 bindA optA at q
  cases ef : f g with
  | bad => simp only [ef] at q
  | exc x g1 => simp only [ef] at q; exact q
  | ok a g1 =>
    simp only [ef] at q
    cases ek : k a with
    | none => simp only [ek] at q
    | some b =>
      simp only [ek] at q
      intro v H1 j1 gr sm rv
      exact q v H1 j1 gr sm (by rw [hk a b ek]; exact rv)⟩
end
section
variable {X : Cx} {γ δ τ : Type} [Enc δ] {Ve : Ev γ} {p : Bool} {es : List Expr} {ks : List AK} {pos : Pos}
/-- a written list of things that are known -/
theorem s_lstA {el : τ → List D} {f : Ac γ τ} (mk : τ → List δ) (ha : SA X Ve ks p es el f) (hk : allK false ks = true := by rfl) (hmk : ∀ t, (mk t).map enc = el t := by exact fun _ => rfl) (hl : ∀ t, (el t).length ≤ 1000 := by exact fun _ => of_decide_eq_true rfl) :
    SE X Ve .an p (.List es pos) (op1 (fun t => some (mk t)) f) := ⟨fun Z W hK tk => (pe_lst (ha.run Z W hK tk)).weak fun σ H Q q => by
  obtain ⟨g, A, j, q⟩ := q
  refine ⟨g, A, j, ?_⟩
  unfold op1 bindA at q
  cases ef : f g with
  | bad => rw [ef] at q; exact q
  | exc x g1 => rw [ef] at q; exact q
  | ok t g1 =>
    rw [ef] at q
    intro vs H1 j1 gr sm rvs
    have ra := rmA_all hk rvs
    refine ⟨by rw [ra.length]; exact smallN (hl t), fun n hn => q (.ref n) _ (j1.new hn) (gr.trans (.of (same_new hn))) (fun z => (sm z).trans (same_new hn)) ?_⟩
    have hn' := j1.ghnew (o := .lst vs) hn
    rw [ow_at] at hn'
    have ra' := RpA.mono (Gr.of (same_new (o := .lst vs) hn)).hp _ ra
    show Rp Z.K _ _ (.list ((mk t).map enc))
    rw [hmk]
    exact .lst (gh_fh _ _ hn') ra'⟩
end
/-- what may be none, as what is not -/
def unO {α : Type} (o : Option α) : Option α := o
theorem unO_ok {α : Type} [Enc α] (a : Option α) (b : α) (h : unO a = some b) : enc b = enc a := by
  unfold unO at h
  rw [h]
  rfl
/-! values of two kinds -/
instance {α β : Type} [Enc α] [Enc β] : Enc (α ⊕ β) := ⟨fun s => match s with | .inl a => enc a | .inr b => enc b⟩
instance {α β : Type} [Enc α] [Enc β] [Flat α] [Flat β] : Flat (α ⊕ β) := ⟨fun s => by
  cases s with
  | inl a => exact Flat.flat a
  | inr b => exact Flat.flat b⟩
def inL {α β : Type} (a : α) : Option (α ⊕ β) := some (.inl a)
def inR {α β : Type} (b : β) : Option (α ⊕ β) := some (.inr b)
def unL {α β : Type} (s : α ⊕ β) : Option α := match s with | .inl a => some a | .inr _ => none
def unR {α β : Type} (s : α ⊕ β) : Option β := match s with | .inl _ => none | .inr b => some b
theorem inL_ok {α β : Type} [Enc α] [Enc β] (a : α) (s : α ⊕ β) (h : inL a = some s) : enc s = enc a := by
  cases h
  rfl
theorem inR_ok {α β : Type} [Enc α] [Enc β] (b : β) (s : α ⊕ β) (h : inR b = some s) : enc s = enc b := by
  cases h
  rfl
theorem unL_ok {α β : Type} [Enc α] [Enc β] (s : α ⊕ β) (a : α) (h : unL s = some a) : enc a = enc s := by
  cases s with
  | inl b => cases h; rfl
  | inr b => cases h
theorem unR_ok {α β : Type} [Enc α] [Enc β] (s : α ⊕ β) (a : β) (h : unR s = some a) : enc a = enc s := by
  cases s with
  | inl b => cases h
  | inr b => cases h; rfl
/-! the type, by the thing -/
class TyV (α : Type) [Enc α] where
  nm : α → String
  ok : ∀ {K : PySem.W.Frag} {H : Hp} {v : L2.V} (x : α), Rp K H v (enc x) → TyX K H v (.type (nm x))
instance (priority := low) {α : Type} [Enc α] [Ty1 α] : TyV α := ⟨fun _ => Ty1.nm α, fun x h => Ty1.ok x h⟩
instance {α : Type} [Enc α] [Ty1 α] : TyV (Option α) := ⟨fun o => if o.isSome = true then Ty1.nm α else "NoneType", fun x h => by
  cases x with
  | none => cases h; exact .base .non
  | some a => exact Ty1.ok a h⟩
instance {α β : Type} [Enc α] [Enc β] [Ty1 α] [Ty1 β] : TyV (α ⊕ β) := ⟨fun s => if s.isLeft = true then Ty1.nm α else Ty1.nm β, fun x h => by
  cases x with
  | inl a => exact Ty1.ok a h
  | inr a => exact Ty1.ok a h⟩
section
variable {X : Cx} {γ α β δ : Type} [Enc α] [Enc β] [Enc δ] {Ve : Ev γ} {m : Md} {p : Bool} {e : Expr} {pos : Pos}
theorem s_isiV [TyV α] {c : Str} {cs : String} (k : α → Bool) {f : Ac γ α} {p0 p9 : Pos} (hx : X.mg "isinstance" = none) (hc : X.mg c = none) (ha : SE X Ve m p e f) (hk : ∀ a, kitB (TyV.nm a) cs = some (k a)) (hv : bootBuiltins c = some (.type cs) := by decide +kernel)
    (hg : Gl X "isinstance" := by rfl) (hgc : Gl X c := by rfl) (hn : c ≠ "__name__" := by decide) (hd : (c == ("__debug__" : Str)) = false := by decide)
    (he : starEach (e :: [.Name c p9]) X.env = (false, eval e X.env) :: starEach [.Name c p9] X.env := by rfl) (he2 : starEach (.Name c p9 :: []) X.env = (false, eval (.Name c p9) X.env) :: starEach [] X.env := by rfl) (hpl : (backTo pos (starEach [.Name c p9] X.env)).any (·.1) = false := by rfl) :
    SE X Ve .fr p (.Call (.Name "isinstance" p0) [e, .Name c p9] [] pos) (op1 (fun a => some (k a)) f) :=
  ⟨fun Z W hK tk => (pe_callB call_isi hg hx PyProof.Rows.boot_isinstance (pa_cons (ha.run Z W hK tk) (pa_cons (pe_bltn (v := .ty cs) hgc hc hv rfl hn hd) pa_nil he2) he) (by decide) (by decide) he hpl).weak fun σ H Q q =>
    tUn_ok (r := fun v H Q => rIsi X.K [v, .ty cs] H Q) (fun A g σ H x l c Q j rx ec q => by
      rw [some_inj' ec] at q
      exact ⟨x, .ty cs, _, _, k l, rfl, .ty cs, hK ▸ TyV.ok l rx.full, hk l, q _ H (Same.refl H) j (.bl _)⟩) q⟩
end
theorem kitO {α : Type} [Enc α] [Ty1 α] {cs : String} {r r2 : Bool} (h : kitB (Ty1.nm α) cs = some r := by decide +kernel) (h2 : kitB "NoneType" cs = some r2 := by decide +kernel) : ∀ a : Option α, kitB (TyV.nm a) cs = some (if a.isSome = true then r else r2) := fun a => by
  cases a with
  | none => exact h2
  | some a => exact h
theorem kitS {α β : Type} [Enc α] [Enc β] [Ty1 α] [Ty1 β] {cs : String} {r r2 : Bool} (h : kitB (Ty1.nm α) cs = some r := by decide +kernel) (h2 : kitB (Ty1.nm β) cs = some r2 := by decide +kernel) : ∀ a : α ⊕ β, kitB (TyV.nm a) cs = some (if a.isLeft = true then r else r2) := fun a => by
  cases a with
  | inl a => exact h
  | inr a => exact h2
/-- tuples -/
class Tup (α : Type) [Enc α] : Prop where
  tup : ∀ a : α, ∃ ds, enc a = .tuple ds
instance {α β : Type} [Enc α] [Enc β] : Tup (α × β) := ⟨fun _ => ⟨_, rfl⟩⟩
instance {α β γ : Type} [Enc α] [Enc β] [Enc γ] : Tup (T3 α β γ) := ⟨fun _ => ⟨_, rfl⟩⟩
instance {α β γ δ : Type} [Enc α] [Enc β] [Enc γ] [Enc δ] : Tup (T4 α β γ δ) := ⟨fun _ => ⟨_, rfl⟩⟩
instance {α : Type} [Enc α] [DecidableEq α] [EqE α] [Tup α] : EqE (Option α) := ⟨fun a b => by
  cases a with
  | none =>
    cases b with
    | none => rfl
    | some b =>
      obtain ⟨ds, e⟩ := Tup.tup b
      show PyData.eqv .none (enc b) = _
      rw [e]
      simp [PyData.eqv]
  | some a =>
    cases b with
    | none =>
      obtain ⟨ds, e⟩ := Tup.tup a
      show PyData.eqv (enc a) .none = _
      rw [e]
      simp [PyData.eqv]
    | some b =>
      show PyData.eqv (enc a) (enc b) = _
      rw [EqE.eqv]
      by_cases h : a = b <;> simp [h], fun a => by
  cases a with
  | none => rfl
  | some a => exact EqE.lay a, EqE.dep α, fun a => by
  cases a with
  | none => exact Nat.zero_le _
  | some a => exact EqE.depth a⟩
instance {α : Type} [Enc α] [DecidableEq α] [EqE α] [Tup α] : EqE (α ⊕ Bool) := ⟨fun a b => by
  cases a with
  | inr a =>
    cases b with
    | inr b =>
      show PyData.eqv (enc a) (enc b) = _
      rw [EqE.eqv]
      by_cases h : a = b <;> simp [h]
    | inl b =>
      obtain ⟨ds, e⟩ := Tup.tup b
      show PyData.eqv (.bool a) (enc b) = _
      rw [e]
      simp [PyData.eqv]
  | inl a =>
    cases b with
    | inr b =>
      obtain ⟨ds, e⟩ := Tup.tup a
      show PyData.eqv (enc a) (.bool b) = _
      rw [e]
      simp [PyData.eqv]
    | inl b =>
      show PyData.eqv (enc a) (enc b) = _
      rw [EqE.eqv]
      by_cases h : a = b <;> simp [h], fun a => by
  cases a with
  | inr a => rfl
  | inl a => exact EqE.lay a, EqE.dep α, fun a => by
  cases a with
  | inr a => exact Nat.zero_le _
  | inl a => exact EqE.depth a⟩
/-! ### the plain side -/
section
variable {γ α β : Type}
theorem rangeL_mem {lo : Int} {n : Nat} {a : Int} (h : a ∈ rangeL lo n) : lo ≤ a ∧ a < lo + n := by
  unfold rangeL at h
  obtain ⟨i, hi, rfl⟩ := List.mem_map.mp h
  have := List.mem_range.mp hi
  omega
theorem rangeL_len {lo : Int} {n : Nat} : (rangeL lo n).length = n := by
  unfold rangeL
  rw [List.length_map, List.length_range]
/-- the turn's number -/
theorem rangeL_at {lo a : Int} {n : Nat} {d r : List Int} (e : rangeL lo n = d ++ a :: r) : d.length < n ∧ a = lo + (d.length : Int) := by
  have h1 := congrArg List.length e
  rw [rangeL_len] at h1
  simp at h1
  have h2 := congrArg (fun l : List Int => l[d.length]?) e
  simp only [List.getElem?_append_right (Nat.le_refl _), Nat.sub_self, List.getElem?_cons_zero] at h2
  rw [rangeL_get (by omega)] at h2
  have := Option.some.inj h2
  omega
theorem at_neg {l : List α} {k : Int} (h : k < 0) (h2 : -(l.length : Int) ≤ k) : atI l k = l[(k + l.length).toNat]? := by
  unfold atI ixN
  rw [if_neg (by omega), if_pos h2]
  rfl
theorem o_atN {l : List α} {k : Int} {Q : α → Prop} (h : k < 0) (h2 : -(l.length : Int) ≤ k) (q : ∀ a ∈ l, Q a) : opt (atI l k) Q := by
  rw [at_neg h h2]
  have : (k + l.length).toNat < l.length := by omega
  rw [List.getElem?_eq_getElem this]
  exact q _ (List.getElem_mem this)
theorem o3m2 {a b c : α} {Q : α → Prop} : opt (atI [a, b, c] (-2)) Q ↔ Q b := Iff.rfl
theorem o3m1 {a b c : α} {Q : α → Prop} : opt (atI [a, b, c] (-1)) Q ↔ Q c := Iff.rfl
theorem q_forN {set : γ → α → γ} {body : Sc γ β} {g : γ} {N : γ → Prop} {R : β → γ → Prop} {X : Str → γ → Prop} : (forR set body [] g).post N R X ↔ N g := Iff.rfl
theorem q_forC {set : γ → α → γ} {body : Sc γ β} {a : α} {l : List α} {g : γ} {N : γ → Prop} {R : β → γ → Prop} {X : Str → γ → Prop} : (forR set body (a :: l) g).post N R X ↔ (body (set g a)).post (fun g' => (forR set body l g').post N R X) R X := q_bind
theorem q_try1 {c : Str} {f : Sc γ β} {h : Str → Sc γ β} {g : γ} {N : γ → Prop} {R : β → γ → Prop} {X : Str → γ → Prop} : (tryS (fun x => if x = c then some true else none) f h g).post N R X ↔ (f g).post N R (fun x g1 => x = c ∧ (h x g1).post N R nX) := by
  unfold tryS
  cases e : f g with
  | bad => exact Iff.rfl
  | nx g1 => exact Iff.rfl
  | rt b g1 => exact Iff.rfl
  | exc x g1 =>
    by_cases hx : x = c
    · simp only [hx, if_true]
      show _ ↔ (c = c ∧ (h c g1).post N R nX)
      cases h c g1 with
      | exc y g2 => exact ⟨fun z => z.elim, fun z => z.2.elim⟩
      | _ => exact ⟨fun z => ⟨rfl, z⟩, fun z => z.2⟩
    · simp only [hx, if_false]
      exact ⟨fun z => z.elim, fun z => hx z.1⟩
end
theorem and_if {b c : Bool} {P R : Prop} : (if b = true then (if c = true then P else R) else (if false = true then P else R)) = if (b && c) = true then P else R := by
  cases b <;> cases c <;> rfl
theorem and_if2 {b c : Bool} {P R : Prop} : (if b = true then (if c = true then P else R) else R) = if (b && c) = true then P else R := by
  cases b <;> cases c <;> rfl
theorem o_inL {α β : Type} {a : α} {Q : α ⊕ β → Prop} : opt (inL a) Q ↔ Q (.inl a) := Iff.rfl
theorem o_inR {α β : Type} {a : β} {Q : α ⊕ β → Prop} : opt (inR a) Q ↔ Q (.inr a) := Iff.rfl
theorem o_unL {α β : Type} {a : α} {Q : α → Prop} : opt (unL (.inl a : α ⊕ β)) Q ↔ Q a := Iff.rfl
theorem o_unR {α β : Type} {a : β} {Q : β → Prop} : opt (unR (.inr a : α ⊕ β)) Q ↔ Q a := Iff.rfl
theorem o_unO {α : Type} {a : α} {Q : α → Prop} : opt (unO (some a)) Q ↔ Q a := Iff.rfl
theorem gcd_step {a b : Int} (ha : 0 ≤ a) (hb : 0 < b) : Nat.gcd b.natAbs (a.fmod b).natAbs = Nat.gcd a.natAbs b.natAbs := by
  have e : (a.fmod b).natAbs = a.natAbs % b.natAbs := by
    rw [Int.fmod_eq_emod_of_nonneg _ (by omega)]
    have := Int.emod_nonneg a (b := b) (by omega)
    have h2 : ((a % b).natAbs : Int) = ((a.natAbs % b.natAbs : Nat) : Int) := by
      rw [Int.natAbs_of_nonneg this, Int.natCast_emod, Int.natAbs_of_nonneg ha, Int.natAbs_of_nonneg (by omega)]
    exact_mod_cast h2
  rw [e, Nat.gcd_comm a.natAbs b.natAbs, Nat.gcd_rec b.natAbs a.natAbs, Nat.gcd_comm]
theorem gcd_le (a b : Nat) : Nat.gcd a b ≤ a + b := by
  rcases Nat.eq_zero_or_pos a with e | e
  · rw [e, Nat.gcd_zero_left]; omega
  · have := Nat.gcd_le_left b e
    omega
theorem Bd.gcd {n m : Nat} {a b : Int} (h : Bd n a) (k : Bd m b) : Bd (n + m + 1) (Nat.gcd a.natAbs b.natAbs : Nat) := by
  unfold Bd at *
  have := pow_add1 n m
  have := gcd_le a.natAbs b.natAbs
  rw [Int.natAbs_natCast]
  omega
theorem fdiv_mul {e n : Int} (h : e ∣ n) : n.fdiv e * e = n := by
  rw [Int.fdiv_eq_ediv_of_dvd h]
  exact Int.ediv_mul_cancel h
theorem fdiv_abs {e n : Int} (h : e ∣ n) : (n.fdiv e).natAbs = n.natAbs / e.natAbs := by
  rw [Int.fdiv_eq_ediv_of_dvd h]
  exact Int.natAbs_ediv_of_dvd h
theorem sgn_div {e q n : Int} (h : q * e = n) (k : (0 < e ∧ 0 < n) ∨ (e < 0 ∧ n < 0)) : 0 < q := by
  rcases Int.lt_trichotomy q 0 with z | z | z
  · rcases k with ⟨k1, k2⟩ | ⟨k1, k2⟩
    · have := Int.mul_neg_of_neg_of_pos z k1
      omega
    · have := Int.mul_pos_of_neg_of_neg z k1
      omega
  · subst z
    omega
  · exact z
theorem zero_div {e q : Int} (h : q * e = 0) (k : e ≠ 0) : q = 0 := by
  rcases Int.mul_eq_zero.mp h with z | z
  · exact z
  · exact absurd z k
def sgn (n : Int) : Int := b2i (decide (0 < n)) - b2i (decide (n < 0))
end HL
/-! Fy: range with steps, [None] * n, max(.., default=..), lists of what may be none. -/
namespace HL
open PySem PySem.Spec PyProof.Rows L2
section
variable {X : Cx} {γ α β δ : Type} [Enc α] [Enc β] [Enc δ] {Ve : Ev γ} {m m1 m2 m3 : Md} {p p1 p2 p3 : Bool} {tg iter a b c e : Expr} {pos : Pos} {Z : Fix}
def rangeC (lo c : Int) (n : Nat) : List Int := (List.range n).map fun i => lo + (i : Nat) * c
theorem rangeC_get {lo c : Int} {n i : Nat} (h : i < n) : (rangeC lo c n)[i]? = some (lo + (i : Nat) * c) := by
  unfold rangeC
  rw [List.getElem?_map, List.getElem?_range h]
  rfl
theorem rangeC_len {lo c : Int} {n : Nat} : (rangeC lo c n).length = n := by
  unfold rangeC
  rw [List.length_map, List.length_range]
@[irreducible] def rng3 (i j c : Int) : Option (List Int) := if c ≠ 0 ∧ c.natAbs < 1073741824 ∧ Builtin.Range.small i j c = true then some (rangeC i c (Builtin.Range.rangeSize i j c).toNat) else none
theorem it_rngC {O : Addr → Prop} {H : Hp} {lo c : Int} {n : Nat} : ItOk Z true O H (Itc lo c n) ((rangeC lo c n).map enc) := fun O' H' st i => by
  have hl : ((rangeC lo c n).map enc).length = n := by simp [rangeC]
  rw [hl]
  refine ⟨fun h => h, fun h => h, fun x H2 d y hd => ?_⟩
  obtain ⟨rfl, rfl⟩ := y
  have hi : i < n := by
    have := (List.getElem?_eq_some_iff.mp hd).1
    omega
  rw [List.getElem?_map, rangeC_get hi] at hd
  cases hd
  exact ⟨Same.refl _, .int _⟩
theorem range_nn (i j c : Int) : 0 ≤ Builtin.Range.rangeSize i j c := by
  unfold Builtin.Range.rangeSize
  split
  · split
    · have := Int.ediv_nonneg (a := j - i - 1) (b := c) (by omega) (by omega)
      omega
    · omega
  · split
    · by_cases h : c = 0
      · subst h
        simp
      · have := Int.ediv_nonneg (a := i - j - 1) (b := -c) (by omega) (by omega)
        omega
    · omega
/-- range(a, b, c) -/
theorem i_rng3 {f h l : Ac γ Int} {p0 pos : Pos} (hx : X.mg "range" = none) (ha : SE X Ve m1 p1 a f) (hb : SE X Ve m2 p2 b h) (hc : SE X Ve m3 p3 c l) (hm : okM m1 (p2 && p3) = true := by rfl) (hm2 : okM m2 p3 = true := by rfl) (hg : Gl X "range" := by rfl) (hs : starEach [a, b, c] X.env = (false, eval a X.env) :: starEach [b, c] X.env := by rfl)
    (hs2 : starEach [b, c] X.env = (false, eval b X.env) :: starEach [c] X.env := by rfl) (hs3 : starEach [c] X.env = (false, eval c X.env) :: starEach [] X.env := by rfl) (hpl : (backTo pos (starEach [b, c] X.env)).any (·.1) = false := by rfl) : SI X Ve true (p1 && (p2 && p3)) tg (.Call (.Name "range" p0) [a, b, c] [] pos) (op3 rng3 f h l) :=
  ⟨fun Z W hK tk => (pi_range3 hg hx (pa_cons (ha.run Z W hK tk) (pa_cons (hb.run Z W hK tk) (pa_cons (hc.run Z W hK tk) pa_nil hs3) hs2) hs) hs hpl).weak fun σ H R q => by
  obtain ⟨g, A, j, q⟩ := q
  refine ⟨g, A, j, ?_⟩
  unfold op3 bindA optA at q
  cases ef : f g with
  | bad => simp only [ef] at q
  | exc x g1 => simp only [ef] at q; exact q
  | ok n g1 =>
    simp only [ef] at q
    intro v H1 j1 gr sm rv
    cases rp_int rv.full
    refine ⟨g1, A, j1, ?_⟩
    cases eh : h g1 with
    | bad => simp only [eh] at q
    | exc x g2 =>
      simp only [eh] at q
      exact fun c H' mc j' gr' => q c H' mc j' (gr.trans gr')
    | ok k g2 =>
      simp only [eh] at q
      intro w H2 j2 gr2 sm2 rw2
      cases rp_int rw2.full
      refine ⟨g2, A, j2, ?_⟩
      cases el : l g2 with
      | bad => simp only [el] at q
      | exc x g3 =>
        simp only [el] at q
        exact fun c H' mc j' gr' => q c H' mc j' ((gr.trans gr2).trans gr')
      | ok i g3 =>
        simp only [el] at q
        intro u H3 j3 gr3 sm3 rw3
        cases rp_int rw3.full
        unfold rng3 at q
        by_cases hn : i ≠ 0 ∧ i.natAbs < 1073741824 ∧ Builtin.Range.small n k i = true
        · rw [if_pos hn] at q
          exact ⟨n, k, i, _, rfl, ⟨hn.1, hn.2.1, hn.2.2, (Int.toNat_of_nonneg (range_nn n k i)).symm⟩, q _ H3 j3 ((gr.trans gr2).trans gr3) (fun z => ((sm (Bool.and_eq_true_iff.mp z).1).trans (sm2 (Bool.and_eq_true_iff.mp (Bool.and_eq_true_iff.mp z).2).1)).trans (sm3 (Bool.and_eq_true_iff.mp (Bool.and_eq_true_iff.mp z).2).2)) it_rngC⟩
        · rw [if_neg hn] at q
          exact q.elim⟩
/-! ### [x] * n -/
@[irreducible] def repQ {α : Type} (l : List α) (n : Int) : Option (List α) := if -(2 ^ 63) ≤ n ∧ n < 2 ^ 63 ∧ l.length * n.toNat ≤ 1000 then some (List.replicate n.toNat l).flatten else none
theorem rpA_rep {K : PySem.W.Frag} {H : Hp} {vs : List L2.V} {ds : List D} (h : RpA K H vs ds) : ∀ n : Nat, RpA K H (List.replicate n vs).flatten (List.replicate n ds).flatten
  | 0 => .nil
  | n + 1 => by
    rw [List.replicate_succ, List.replicate_succ, List.flatten_cons, List.flatten_cons]
    exact h.append (rpA_rep h n)
theorem s_rep {f : Ac γ (List α)} {h : Ac γ Int} (ha : SE X Ve .fr p1 a f) (hb : SE X Ve m2 p2 b h) : SN X Ve (p1 && p2) (.BinOp a .Mult b pos) (op2 repQ f h) :=
  s_opN (r := fun _ => rRep) op_rep (fun Z hK => fun A g σ H x y l k c Q j rx ry e q => by
    obtain ⟨t, vs, rfl, e2, e3⟩ := rm_elsT rfl rx
    cases rp_int ry.full
    unfold repQ at e
    obtain ⟨e0, rfl⟩ := ite_some e
    have el := e3.length
    rw [List.length_map] at el
    refine ⟨t, k, vs, rfl, rfl, e2, e0.1, e0.2.1, by rw [el]; exact smallN e0.2.2, fun n hn => q n _ hn ?_⟩
    have := rpA_rep e3 k.toNat
    rw [show (List.replicate k.toNat l).flatten.map enc = (List.replicate k.toNat (l.map enc)).flatten by rw [List.map_flatten, List.map_replicate]]
    exact this) ha hb rfl
end
/-! ### max(list, default=c) -/
def maxDf (l : List Int) (d : Int) : Int := match l with
  | [] => d
  | n :: ns => ns.foldl max n
theorem readsAll_ints {h : Heap} : ∀ {vs : List Value} {ns : List Int}, IntsAre vs ns → ReadsAll h vs (ns.map PyData.int) []
  | _, _, .nil => .nil
  | _, _, .cons _ _ hi => .cons (as := []) (bs := []) (.int _ _) (readsAll_ints hi)
def rMaxDf (K : PySem.W.Frag) : List L2.V → List L2.V → Hp → VK → Prop := fun xs zs H Q => ∃ (a : Addr) (ns : List Int) (d : Int), xs = [.ref a] ∧ zs = [.int d] ∧ SqL K H a (ns.map V.int) ∧ Q (.int (maxDf ns d)) H
theorem alike_ints (ns : List Int) : PySem.W.AlikeAll (ns.map PyData.int) := ⟨fun x hx y hy => by
  obtain ⟨i, _, rfl⟩ := List.mem_map.mp hx
  obtain ⟨k, _, rfl⟩ := List.mem_map.mp hy
  rfl, fun x hx z => by
  obtain ⟨i, _, rfl⟩ := List.mem_map.mp hx
  cases z⟩
theorem depth_ints : ∀ ns : List Int, PyData.depthAll (ns.map PyData.int) = 0
  | [] => rfl
  | n :: ns => by
    show max (PyData.depth (.int n)) (PyData.depthAll (ns.map PyData.int)) = 0
    rw [depth_ints ns]
    rfl
theorem cr_maxDf {X : Cx} (hc : X.calm = true) (hu : X.A.units + 64 < cLine) : CallRK X (.builtin "max") [Str.ofString "default"] (rMaxDf X.K) := by
  intro pins s σ H xs zs us ws Q I r1 r2 h
  obtain ⟨a, ns, d, rfl, rfl, hs, q⟩ := h
  obtain ⟨its, rv, hl, _⟩ := I.list hs
  rw [Vals.ref1 r1]
  obtain ⟨u, rfl, ru⟩ : ∃ u, ws = [u] ∧ RelV (.int d) u := by
    cases r2 with
    | cons h t => cases t; exact ⟨_, rfl, h⟩
  obtain ⟨t, rfl⟩ := ru
  refine PySem.W.max_list_default (I.ok.hd hc) hl.isList (readsAll_ints rv.ints) (alike_ints ns) (by rw [depth_ints]; omega) (fun e h' tk hk => ?_) fun y ys i v h' tk bs e hv hr hk => ?_
  · have : ns = [] := List.map_eq_nil_iff.mp e
    subst this
    exact ⟨.int d, H, I.kept hk, ⟨t, rfl⟩, q⟩
  · cases ns with
    | nil => cases e
    | cons n ns =>
      cases e
      rw [PySem.W.maxD_ints] at hr
      cases hr with
      | int _ t => exact ⟨.int _, H, I.kept hk, ⟨t, rfl⟩, q⟩
section
variable {X : Cx} {γ α : Type} [Enc α] {Ve : Ev γ} {m m2 : Md} {p p2 : Bool} {e c : Expr} {pos : Pos}
theorem s_maxDf {f : Ac γ (List Int)} (d : Int) {p0 kp cp : Pos} {cj} (hc : X.calm = true) (hu : X.A.units + 64 < cLine) (hx : X.mg "max" = none) (ha : SE X Ve m p e f) (hg : Gl X "max" := by rfl)
    (he0 : starEach (e :: []) X.env = (false, eval e X.env) :: starEach [] X.env := by rfl)
    (he : backTo pos (starEach (e :: []) X.env) = (false, eval e X.env) :: backTo pos (starEach [] X.env) := by rfl) (hpl : (backTo pos (starEach (e :: []) X.env)).any (·.1) = false := by rfl)
    (hall : (backToKw pos (keywordEach [⟨some "default", .Constant (.int d) cj cp, kp⟩] X.env)).all (·.1.isSome) = true := by rfl) (hnone : (backToKw pos (keywordEach [⟨some "default", .Constant (.int d) cj cp, kp⟩] X.env)).any (·.1.isNone) = false := by rfl) (hks : (backToKw pos (keywordEach [⟨some "default", .Constant (.int d) cj cp, kp⟩] X.env)).filterMap (·.1) = [Str.ofString "default"] := by rfl) :
    SE X Ve .fr p (.Call (.Name "max" p0) [e] [⟨some "default", .Constant (.int d) cj cp, kp⟩] pos) (op1 (fun l => some (maxDf l d)) f) :=
  ⟨fun Z W hK tk => (pe_callBK (cr_maxDf hc hu) hg hx (by decide +kernel) (pa_cons (ha.run Z W hK tk) pa_nil he0) (pk_cons pe_int pk_nil) (by decide) (by decide) he hpl hall hnone hks).weak fun σ H Q q => by
  obtain ⟨g, A, j, q⟩ := q
  refine ⟨g, A, j, ?_⟩
  unfold op1 bindA optA at q
  cases ef : f g with
  | bad => simp only [ef] at q
  | exc x g1 => simp only [ef] at q; exact q
  | ok l g1 =>
    simp only [ef] at q
    intro v H1 j1 gr sm rv
    obtain ⟨t, vs, rfl, e2, e3⟩ := rm_els rv
    have ev := rpA_ints (ns := l) e3
    subst ev
    exact ⟨t, l, d, rfl, rfl, seqL e2, q _ H1 j1 gr sm (.int _)⟩⟩
end
/-! ### lists of what may be none -/
def upO {α : Type} (l : List α) : Option (List (Option α)) := some (l.map some)
def unOs {α : Type} : List (Option α) → Option (List α)
  | [] => some []
  | none :: _ => none
  | some a :: l => (unOs l).map (a :: ·)
theorem upO_ok {α : Type} [Enc α] (l : List α) (k : List (Option α)) (h : upO l = some k) : enc k = enc l := by
  cases h
  show PyData.list _ = PyData.list _
  rw [List.map_map]
  rfl
theorem unOs_eq {α : Type} : ∀ {k : List (Option α)} {l : List α}, unOs k = some l → k = l.map some
  | [], l, h => by cases h; rfl
  | none :: k, l, h => by cases h
  | some a :: k, l, h => by
    unfold unOs at h
    cases e : unOs k with
    | none => rw [e] at h; cases h
    | some l' =>
      rw [e] at h
      cases h
      rw [unOs_eq e]
      rfl
theorem unOs_map {α : Type} : ∀ l : List α, unOs (l.map some) = some l
  | [] => rfl
  | a :: l => by
    show (unOs (l.map some)).map (a :: ·) = _
    rw [unOs_map l]
    rfl
theorem unOs_ok {α : Type} [Enc α] (k : List (Option α)) (l : List α) (h : unOs k = some l) : enc l = enc k := by
  rw [unOs_eq h]
  exact (upO_ok l _ rfl).symm
/-! ### the plain side -/
section
variable {α : Type}
theorem o_rep {l : List α} {n : Int} {Q : List α → Prop} : opt (repQ l n) Q ↔ (-(2 ^ 63) ≤ n ∧ n < 2 ^ 63 ∧ l.length * n.toNat ≤ 1000) ∧ Q (List.replicate n.toNat l).flatten := by
  unfold repQ
  exact o_ite
theorem o_rng3 {i j c : Int} {Q : List Int → Prop} : opt (rng3 i j c) Q ↔ (c ≠ 0 ∧ c.natAbs < 1073741824 ∧ Builtin.Range.small i j c = true) ∧ Q (rangeC i c (Builtin.Range.rangeSize i j c).toNat) := by
  unfold rng3
  exact o_ite
theorem o_upO {l : List α} {Q : List (Option α) → Prop} : opt (upO l) Q ↔ Q (l.map some) := Iff.rfl
theorem o_unOs {l : List α} {Q : List α → Prop} : opt (unOs (l.map some)) Q ↔ Q l := by rw [unOs_map]; exact Iff.rfl
end
end HL
/-! Fz: a list of lists of one's own: made, one of them read, one of them lengthened, given up. -/
namespace HL
open PySem PySem.Spec PyProof.Rows L2
/-! ### names that no text bears -/
theorem inv_ph {X : Cx} {pins : List (Addr × Obj)} {σ : L2.St} {H : Hp} {s : Shared} (I : Inv X pins σ H s) {j : Nat} {y : Str} (hN : X.N[j]? = some y) (hv : ¬ Vis X.env.scope y) (w : Option V) : Inv X pins (σ.set j w) H s :=
  ⟨I.ok, I.os, I.bare, I.base, by
    obtain ⟨m, h1, h2⟩ := I.loc
    refine ⟨m, h1, fun i x v hx hs hvis => h2 i x v hx ?_ hvis⟩
    rw [List.getElem?_set] at hs
    by_cases e : j = i
    · subst e
      rw [hN] at hx
      cases hx
      exact absurd hvis hv
    · rw [if_neg e] at hs
      exact hs, I.cell, I.free, I.freeC, I.pin, I.hok, by rw [List.length_set]; exact I.len⟩
theorem ps_ph {X : Cx} {st : Stmt} {t : TS} (h : PS X st t) {j1 j2 : Nat} {y1 y2 : Str} (h1 : X.N[j1]? = some y1) (v1 : ¬ Vis X.env.scope y1) (h2 : X.N[j2]? = some y2) (v2 : ¬ Vis X.env.scope y2) :
    PS X st (fun D σ H => t { D with nx := fun σ' H' => ∃ w1 w2, D.nx ((σ'.set j1 w1).set j2 w2) H' } σ H) := ⟨fun pins s σ H D I q => thn (h.run pins s σ H _ I q) fun f s' z => by
  cases f with
  | next =>
    obtain ⟨σ', H', I', w1, w2, d⟩ := z
    exact ⟨_, H', inv_ph (inv_ph I' h1 v1 w1) h2 v2 w2, d⟩
  | brk => exact z
  | cont => exact z
  | ret u => exact z⟩
theorem pe_anyZ {X : Cx} {γ α : Type} [Enc α] {Ve : Ev γ} {p : Bool} {e : Expr} {f : Ac γ (List α)} (h : SN X Ve p e f) {W : WX} (tk : Takes X W) : PE X e (fun σ H Q => ∃ Z : Fix, Z.K = X.K ∧ tN X.mg Z W Ve p f σ H Q) :=
  ⟨fun pins s σ H Q I q => by
    obtain ⟨Z, k, q⟩ := q
    exact (h.run Z W k tk).run pins s σ H Q I q⟩
section
variable {Z : Fix} {A : Nat → Addr} {r : List Slot} {σ : L2.St} {H : Hp}
theorem pk_ne {q : Pk} : ∀ ds, Slot.pk q ≠ .own ds := fun _ z => by cases z
theorem J.setPkW (j : J Z A r σ H) {i : Nat} {v : Option L2.V} {t : Pk} (hv : PkOk A (GH Z (Ow A r) H) (some v) t) (hio : ∀ a, (i, a) ∉ Z.io) : J Z A (r.set i (.pk t)) (σ.set i v) H := by
  have get : ∀ {k : Nat} {s : Slot}, (r.set i (.pk t))[k]? = some s → (i = k ∧ i < r.length ∧ s = .pk t) ∨ (i ≠ k ∧ r[k]? = some s) := fun {k s} h => by
    rw [set_get] at h
    by_cases e : i = k
    · rw [if_pos e] at h
      by_cases l : i < r.length
      · rw [if_pos l] at h
        cases h
        exact .inl ⟨e, l, rfl⟩
      · rw [if_neg l] at h; cases h
    · rw [if_neg e] at h
      exact .inr ⟨e, h⟩
  have sig : ∀ {k : Nat}, i ≠ k → (σ.set i v)[k]? = σ[k]? := fun {k} e => by rw [List.getElem?_set, if_neg e]
  have ow := ow_set (A := A) (r := r) (i := i) (s := .pk t) pk_ne
  refine ⟨fun k fr d h => ?_, fun k ds h => ?_, fun k ns h => ?_, fun k u h => ?_, fun k u h => ?_, fun k l ds es h1 h2 => j.inj k l ds es (set_own pk_ne h1).2 (set_own pk_ne h2).2, fun k ds h => j.notS k ds (set_own pk_ne h).2, j.smut, j.base, fun k ds h => j.newo k ds (set_own pk_ne h).2, fun k a h => ?_, ?_⟩
  · rcases get h with ⟨_, _, z⟩ | ⟨e, h⟩
    · cases z
    · obtain ⟨w, e1, e2⟩ := j.imm k fr d h
      exact ⟨w, by rw [sig e]; exact e1, Rp.mono (Gr.hpO ow) _ e2⟩
  · obtain ⟨e, h⟩ := set_own pk_ne h
    obtain ⟨e1, e2⟩ := j.own k ds h
    exact ⟨by rw [sig e]; exact e1, e2.mono (Gr.ghO ow)⟩
  · rcases get h with ⟨_, _, z⟩ | ⟨e, h⟩
    · cases z
    · obtain ⟨a, e1, e2⟩ := j.scr k ns h
      exact ⟨a, by rw [sig e]; exact e1, sqL_same (Gr.fhO ow) e2⟩
  · rcases get h with ⟨_, _, z⟩ | ⟨e, h⟩
    · cases z
    · rw [sig e]; exact j.raw k u h
  · rcases get h with ⟨e, l, z⟩ | ⟨e, h⟩
    · cases z
      subst e
      rw [List.getElem?_set, if_pos rfl, if_pos (by rw [← j.len]; exact l)]
      exact hv.mono (Gr.ghO ow)
    · rw [sig e]; exact (j.pk k u h).mono (Gr.ghO ow)
  · obtain ⟨e1, ds, e2⟩ := j.ioo k a h
    refine ⟨e1, ds, ?_⟩
    rw [set_get, if_neg (fun e => hio a (by subst e; exact h))]
    exact e2
  · rw [List.length_set, List.length_set, j.len]
theorem J.setPk (j : J Z A r σ H) {i : Nat} {v : L2.V} {t : Pk} (hv : PkOk A (GH Z (Ow A r) H) (some (some v)) t) (hio : ∀ a, (i, a) ∉ Z.io) : J Z A (r.set i (.pk t)) (σ.set i (some v)) H := j.setPkW hv hio
theorem ow_setOwn {i : Nat} {q : Addr} {ds : Ob} {a : Addr} : Ow (fun k => if k = i then q else A k) (r.set i (.own ds)) a → Ow A r a ∨ a = q := fun ⟨k, ds', h, e⟩ => by
  by_cases ek : k = i
  · simp only [ek, if_true] at e
    exact .inr e.symm
  · simp only [ek, if_false] at e
    rw [set_get, if_neg (Ne.symm ek)] at h
    exact .inl ⟨k, ds', h, e⟩
theorem wo_le {D : Addr} : Same (wo D H) H := fun x o e => by
  by_cases h : x = D
  · rw [h, wo_at] at e; cases e
  · rw [wo_ne h] at e; exact e
end
section
variable {X : Cx} {γ α α2 β : Type} [Enc α] [Enc α2] {C : FC γ β} {xj : XJ γ} {Ve Ve' : Ev γ} {m : Md} {p p1 p2 : Bool} {e e1 e2 : Expr} {pos : Pos}
/-- x = [e1, e2], of two new lists -/
theorem c_pack2 {f1 : Ac γ (List α)} {f2 : Ac γ (List α2)} (i j1 j2 : Nat) (set : γ → List α × (List α2 × Unit) → γ) {n y1 y2 : Str} {lp pos' : Pos} (hx : XOk xj Ve) (h1 : SN X Ve p1 e1 f1) (h2 : SN X Ve p2 e2 f2)
    (hN : X.N.Nodup) (v1 : ¬ Vis X.env.scope y1) (v2 : ¬ Vis X.env.scope y2)
    (hV : ∀ g t, at_ Ve' (set g t) = (((at_ Ve g).set j1 (.own (t.1.map enc))).set j2 (.own (t.2.1.map enc))).set i (.pk (.lst [j1, j2])) := by exact fun _ _ => rfl)
    (hno : (ioIx C).contains i = false := by rfl) (hno1 : (ioIx C).contains j1 = false := by rfl) (hno2 : (ioIx C).contains j2 = false := by rfl) (hpk1 : noPk j1 Ve = true := by rfl) (hpk2 : noPk j2 Ve = true := by rfl)
    (d12 : j1 ≠ j2 := by decide) (di1 : i ≠ j1 := by decide) (di2 : i ≠ j2 := by decide)
    (hi : X.N[i]? = some n := by rfl) (hj1 : X.N[j1]? = some y1 := by rfl) (hj2 : X.N[j2]? = some y2 := by rfl) (hl : Loc X.env.scope n := by first | exact .inl rfl | exact .inr rfl)
    (hse : starEach (e1 :: [e2]) X.env = (false, eval e1 X.env) :: starEach [e2] X.env := by rfl) (hse2 : starEach (e2 :: []) X.env = (false, eval e2 X.env) :: starEach [] X.env := by rfl)
    (hs : swapsWith (.List [e1, e2] lp) (some (.Name n pos')) pos.line X.env = pure false := by rfl) (hf : X.fn n = true ∨ X.env.scope.names.lookup n = some .local := by first | exact .inl rfl | exact .inr rfl) :
    SS X C xj Ve Ve' (.Assign [.Name n pos'] (.List [e1, e2] lp) pos) (setS set (pairA f1 (pairA f2 (pureA fun _ => ())))) := ⟨fun Z W hK hio tk => by
  refine (ps_ph (ps_set hN hi hl (pe_lst (pa_cons (h1.run Z W hK tk) (pa_cons (pe_anyZ h2 tk) pa_nil hse2) hse)) hs hf) hj1 v1 hj2 v2).weak fun D σ H q => ?_
  obtain ⟨g, A, j, q⟩ := q
  refine ⟨g, A, j, ?_⟩
  unfold setS doS pairA bindA pureA at q
  cases ef : f1 g with
  | bad => simp only [ef] at q
  | exc x g1 =>
    simp only [ef] at q
    exact fun c H' mc j' gr => q c A σ H' mc (hx _ _ _ _ _ j')
  | ok a g1 =>
    simp only [ef] at q
    intro q1 vs1 H1 hq1 j1' gr1 sm1 rv1
    refine ⟨Z.hid q1, hK, g1, A, j1'.inD hq1, ?_⟩
    obtain ⟨f0, fS, fO⟩ := j1'.fresh hq1
    rw [ow_at] at fO
    cases eh : f2 g1 with
    | bad => simp only [eh] at q
    | exc x g2 =>
      simp only [eh] at q
      intro c H' mc j' gr
      exact q c A σ H' mc (hx _ _ _ _ _ ((j'.outD f0 fS).same wo_le))
    | ok b g2 =>
      simp only [eh] at q
      intro q2 vs2 H2 hq2 j2' gr2 sm2 rv2
      have e21 : H2 q1 = some (.lst vs1) := gr2 q1 _ fO upd_same
      have jo := j2'.outD f0 fS
      have gh1 : Same (GH Z (OwV A Ve) H1) (GH Z (OwV A Ve) (wo q1 H2)) := hide_same fun x o n h => by
        have hne : x ≠ q1 := fun z => by rw [z, hq1] at h; cases h
        refine ⟨n, ?_⟩
        rw [wo_ne hne]
        exact gr2 x o (fun z => n (.inr (.inl z))) (by rw [upd_ne hne]; exact h)
      have ja := jo.setOwn (i := j1) (q := q1) (vs := vs1) (ds := a.map enc) wo_at (by rw [ow_at]; exact RpA.mono gh1 _ rv1) (noio hio hno1) (fun k t e _ => noPk_all hpk1 k t e)
      rw [wo_upd e21] at ja
      have gh2 : Same (GH (Z.hid q1) (OwV A Ve) H2) (GH Z (Ow (fun k => if k = j1 then q1 else A k) ((at_ Ve g2).set j1 (.own (a.map enc)))) H2) := by
        rw [gh_hid]
        refine hide_same fun x o n h => ⟨fun z => n ?_, wo_le x o h⟩
        rcases z with z | z | z
        · exact .inl z
        · rcases ow_setOwn z with z | z
          · rw [ow_at] at z
            exact .inr (.inl z)
          · rw [z, wo_at] at h; cases h
        · exact .inr (.inr z)
      have hpk2' : ∀ k t, ((at_ Ve g2).set j1 (.own (a.map enc)))[k]? = some (.pk t) → k ≠ j2 → j2 ∉ t.js := fun k t e _ => by
        rw [set_get] at e
        by_cases ek : j1 = k
        · rw [if_pos ek] at e
          split at e <;> cases e
        · rw [if_neg ek] at e
          exact noPk_all hpk2 k t e
      have jb := ja.setOwn (i := j2) (q := q2) (vs := vs2) (ds := b.map enc) hq2 (RpA.mono gh2 _ rv2) (noio hio hno2) hpk2'
      refine ⟨Nat.le_trans (show 2 ≤ 1000 by decide) (by rw [sizeLine_eq]; decide), fun q3 hq3 => ?_⟩
      have jn := jb.new (o := .lst [.ref q1, .ref q2]) hq3
      obtain ⟨k0, kS, kO⟩ := jb.fresh hq3
      have jc := jn.setPk (i := i) (v := .ref q3) (t := .lst [j1, j2]) ⟨q3, rfl, by
        refine hide_mk (fun z => z.elim kS fun z => z.elim kO fun z => by rw [k0] at z; exact z) ?_
        rw [upd_same]
        simp only [List.map_cons, List.map_nil, if_true, d12, if_false]⟩ (noio hio hno)
      have hv := hV g2 (a, b, ())
      rw [← hv] at jc
      refine ⟨some (.ref q1), some (.ref q2), ?_⟩
      rw [List.set_comm _ _ di1, List.set_comm _ _ di2]
      refine q _ _ _ jc fun x o n h => ?_
      have h1' : H1 x = some o := gr1 x o n h
      have n1 : x ≠ q1 := fun z => by rw [z, hq1] at h1'; cases h1'
      have h2' : H2 x = some o := gr2 x o n (by rw [upd_ne n1]; exact h1')
      have n2 : x ≠ q2 := fun z => by rw [z, hq2] at h2'; cases h2'
      have h3' : (upd H2 q2 (.lst vs2)) x = some o := by rw [upd_ne n2]; exact h2'
      have n3 : x ≠ q3 := fun z => by rw [z, hq3] at h3'; cases h3'
      refine ⟨by rw [upd_ne n3]; exact h3', fun z => n ?_⟩
      have z' : Ow (fun k => if k = j2 then q2 else if k = j1 then q1 else A k) (at_ Ve' (set g2 (a, b, ()))) x := by rw [ow_at]; exact z
      rw [hv] at z'
      rcases ow_setOwn (ow_set pk_ne x z') with z' | z'
      · rcases ow_setOwn z' with z' | z'
        · rw [ow_at] at z'; exact z'
        · exact absurd z' n1
      · exact absurd z' n2⟩
end
end HL
/-! Ga: a def that is handed the exception that a suite holds, called in that suite. -/
namespace HL
open PySem PySem.Spec PyProof.Rows L2
def CXF : CXT := fun _ _ _ _ _ _ => False
/-- the context of its body -/
abbrev cxE (P : Program) (w : World) (K : PySem.W.Frag) (mg : Str → Option Value) (base : Heap) (N : List Str) (qual : Str) (scope : Scope) (f : Addr) (cd : Value) (A : Around) (outer : List Env) (s : Shared) (H : Hp) (a : Addr) (oe : Obj) : Cx :=
  (cxOf CXF P w K mg base N qual scope f cd A outer s H (fun _ _ _ => False)).suite a [(a, oe)]
theorem run_ex {P : Program} {w : World} {K : PySem.W.Frag} {mg : Str → Option Value} {base : Heap} {x qual : Str} {st : Stmt} {f : Addr} {fd : FuncData} {N ps : List Str} {k : Nat} (F : Fun K x qual st f fd) (S : FnScope N ps (defScope st))
    {A0 : Around} {outer : List Env} {s : Shared} {H : Hp} {args : Args} {us : List Value} {vs : List V} {Q : VK} {a : Addr} {oe : Obj} (hr : Room (k + 1) A0) (hpin : L2H.PinOk outer H s (a, oe)) (e0 : Env0 P w K mg base (A0.mark (some (.ref a))) outer s H)
    (hb : BindsTo s fd args (ps.zip us)) (hl : vs.length = ps.length) (r : Vals vs us)
    (hbody : ∀ cdv, Room k (A0.deeper (envOfC qual (defScope st) s.heap.objs.size f cdv)) → ∃ t, PSs (cxE P w K mg base N qual (defScope st) f cdv A0 outer s H a oe) (defBody st) t ∧ t { nx := fun _ H' => Q .non H', rt := Q } (L2.start N vs) H) :
    codeAny (model P w) (A0.mark (some (.ref a))) (.call (.ref f) args) (CR CXF outer P w H s Q (fun _ _ _ => False)) s := by
  obtain ⟨oc, od, kV, doc, pm, an, cdv, ct, osl, rfl, lk, hcd⟩ := F.ex
  have KX : K.In s.heap := e0.mod.kin.keeps fun b o e => (e0.bs b o e).1
  have lim : s.heap.NoLimit := e0.mod.nolimit.keeps fun b o e => (e0.bs b o e).1
  have hkind : ∀ y ∈ ps.zip us, (defScope st).names.lookup y.1 = some .local ∨ ((defScope st).names.lookup y.1 = some .cell ∧ ((cellsFrom (s.heap.objs.size + 1) (defScope st).names []).lookup y.1).isSome = true) := fun ⟨n, v⟩ hy => by
    rcases S.par n (List.of_mem_zip hy).1 with q | q
    · exact .inl q
    · exact .inr ⟨q, PySem.W.cellsFrom_some _ _ _ (.inl q)⟩
  refine codeAny_call_function (show (A0.mark (some (.ref a))).depth < recursionLimit by have := hr.dp; show A0.depth < _; omega) (KX _ _ lk) rfl S.co S.gen rfl (PySem.W.codeRec_of KX hcd) (hb _ _ _ _ ?_)
  refine wpAny_newFunctionEnv_cells S.kind hkind fun env he s1 z => ?_
  subst he
  refine ⟨lim.keeps z.toInCall.keep, codeAny_func ?_⟩
  obtain ⟨t, ht, hq⟩ := hbody cdv (hr.deeper _)
  have I : Inv (cxE P w K mg base N qual (defScope st) f cdv A0 outer s H a oe) [] (L2.start N vs) H s1 := (L2H.inv_startH (CX := CXF) (E := fun _ _ _ => False) S hpin e0 hl r z).toTry (fun _ _ => False)
  refine wpAny_mono (ht.run [] s1 (L2.start N vs) H _ I hq) (fun fl s' hs => ?_) fun e s' hs => False.elim hs
  have fin : ∀ {σ' : L2.St} {H' : Hp} {v : V} {u : Value}, Inv (cxE P w K mg base N qual (defScope st) f cdv A0 outer s H a oe) [] σ' H' s' → RelV v u → Q v H' → CE outer P w H s Q u s' :=
    fun {σ' H' v u} J rv q => ⟨v, H', J.os, J.bare, J.base, J.hok, rv, q⟩
  cases fl with
  | ret u =>
    obtain ⟨v, σ', H', J, rv, q⟩ := hs
    exact fin J rv q
  | next =>
    obtain ⟨σ', H', J, q⟩ := hs
    exact fin (v := V.non) (u := Value.none) J rfl q
  | brk =>
    obtain ⟨_, _, _, q⟩ := hs
    exact False.elim q
  | cont =>
    obtain ⟨_, _, _, q⟩ := hs
    exact False.elim q
section
variable {X : Cx} {γ δ : Type} {Ve : Ev γ} {pos : Pos} {a : Addr} {oe : Obj} {pn : List (Addr × Obj)}
/-- f(e), e the exception that the suite holds, f a def that tells a truth of it -/
theorem s_exCall {x qual y n : Str} {st : Stmt} {f : Addr} {fd : FuncData} {N : List Str} {k : Nat} {p0 p1 : Pos} {V0 V1 : Ev δ} {body : Sc δ Bool} {b : Bool} (i : Nat) (g0 : δ) (F : Fun X.K x qual st f fd) (S : FnScope N [y] (defScope st)) (hr : Room (k + 1) X.A) (hmg : X.mg x = some (.ref f)) (hb : Binds X.K fd [y] [])
    (hbody : ∀ (cdv : Value) (A : Around) (outer : List Env) (s : Shared) (H : Hp), Room k (A.deeper (envOfC qual (defScope st) s.heap.objs.size f cdv)) →
      SB (cxE X.prog X.w X.K X.mg X.base N qual (defScope st) f cdv A outer s H a oe) ⟨.fr, enc, []⟩ (xfr δ) V0 V1 (defBody st) body)
    (hV : at_ V0 g0 = .raw (.ref a) :: List.replicate (N.length - 1) .no) (hrt : ∃ g1, body g0 = .rt b g1)
    (hi : Ve[i]? = some (.raw (.ref a)) := by rfl) (hN : X.N[i]? = some n := by rfl) (hg : Gl X x := by rfl)
    (hv : Vis X.env.scope n := by first | exact Or.inl rfl | exact Or.inr (Or.inl rfl) | exact Or.inr (Or.inr rfl)) (hd : (n == ("__debug__" : Str)) = false := by decide) (hcd : (n == ("__classdict__" : Str)) = false := by decide) (hdb : (x == ("__debug__" : Str)) = false := by decide)
    (he : starEach (.Name n p1 :: []) X.env = (false, eval (.Name n p1) X.env) :: starEach [] X.env := by rfl) (hpl : (backTo pos (starEach [] X.env)).any (·.1) = false := by rfl) :
    SE (X.suite a ((a, oe) :: pn)) Ve .fr true (.Call (.Name x p0) [.Name n p1] [] pos) (pureA fun _ => b) := ⟨fun Z W hK tk => by
  refine ⟨fun pins s σ H Q I q => ?_⟩
  obtain ⟨g, A, j, q⟩ := q
  have hraw : (at_ Ve g)[i]? = some (.raw (.ref a)) := by rw [at_get, hi]; rfl
  refine wpAny_Call_Name_kw (ld_glob (X := X.suite a ((a, oe) :: pn)) I hg hmg ?_ hdb)
  have pa : PA (X.suite a ((a, oe) :: pn)) [.Name n p1] _ := pa_cons (pe_var (X := X.suite a ((a, oe) :: pn)) hN hv hd hcd) pa_nil he
  refine PySem.W.callWith_K (h₀ := X.base) I.ok.mod.kin F.kp (thn (pa.run pos pins s σ H (fun vs H1 => vs = [.ref a] ∧ H1 = H) I ⟨_, j.raw i _ hraw, rfl, rfl⟩) fun us s1 ⟨vs, H1, I1, r, e1, e2⟩ => ⟨I1.kIn, ?_⟩) he hpl
  subst e1 e2
  have hl : us.length = 1 := by rw [← r.length]; rfl
  have b1 := hb s1 us I1.kIn (by rw [List.append_nil]; exact hl)
  rw [List.append_nil] at b1
  have P1 := I1.pin (a, oe) (List.mem_append_left _ List.mem_cons_self)
  have hpin : L2H.PinOk X.stack H1 s1 (a, oe) := ⟨P1.1, P1.2.1, fun hm => (List.mem_cons.mp (I1.stkSub a hm)).elim P1.2.2.1 P1.2.2.2.1, P1.2.2.2.2⟩
  refine wpAny_call (codeAny_mono (run_ex (Q := fun v H' => v = .bl b ∧ Same H1 H') F S hr hpin I1.env0 b1 rfl r fun cdv hr' => ?_) fun rr s' hq => ?_)
  · refine ⟨_, (hbody cdv X.A X.stack s1 H1 hr').run ⟨X.K, H1, fun _ => False, []⟩ (fun _ _ _ _ => False) rfl rfl takes0, g0, fun _ => 0, ?_, ?_⟩
    · unfold L2.start
      rw [hV]
      have get : ∀ {i : Nat} {t : Slot}, (Slot.raw (.ref a) :: List.replicate (N.length - 1) Slot.no)[i]? = some t → t ≠ .no → i = 0 ∧ t = .raw (.ref a) := fun {i t} h n => by
        cases i with
        | zero => exact ⟨rfl, (Option.some.inj h).symm⟩
        | succ i =>
          rw [List.getElem?_cons_succ, List.getElem?_replicate] at h
          split at h
          · exact absurd (Option.some.inj h).symm n
          · cases h
      refine ⟨fun i fr d h => ?_, fun i ds h => ?_, fun i ns h => ?_, fun i v h => ?_, fun i t h => ?_, fun i l ds es h1 h2 e => ?_, fun i ds h => ?_, fun _ z => z.elim, fun _ _ h _ => h, fun i ds h => ?_, fun i a h => (by cases h), ?_⟩
      · obtain ⟨_, z⟩ := get h (fun z => by cases z); cases z
      · obtain ⟨_, z⟩ := get h (fun z => by cases z); cases z
      · obtain ⟨_, z⟩ := get h (fun z => by cases z); cases z
      · obtain ⟨rfl, z⟩ := get h (fun z => by cases z)
        cases z
        rfl
      · obtain ⟨_, z⟩ := get h (fun z => by cases z); cases z
      · obtain ⟨_, z⟩ := get h1 (fun z => by cases z); cases z
      · obtain ⟨_, z⟩ := get h (fun z => by cases z); cases z
      · obtain ⟨_, z⟩ := get h (fun z => by cases z); cases z
      · simp
    · obtain ⟨g1, e⟩ := hrt
      rw [e]
      intro v H' ro
      refine ⟨?_, fun x o h => ro.frame x o h fun _ z => by cases z⟩
      have rr : Rp _ _ v (.bool b) := ro.ret
      cases rr
      rfl
  · cases rr with
    | error e => exact hq.elim
    | ok fl =>
      cases fl with
      | ret u =>
        obtain ⟨v, H', I2, rv, rfl, sm⟩ := I1.after hq
        exact ⟨_, H', I2, rv, q _ H' (j.same sm) (.of sm) (fun _ => sm) (.bl b)⟩
      | next => exact False.elim hq
      | brk => exact False.elim hq
      | cont => exact False.elim hq⟩
end
/-- a def that may be called so, of an exception of the class cls: b -/
structure ExCal (P : Program) (w : World) (K : PySem.W.Frag) (mg : Str → Option Value) (base : Heap) (k : Nat) (x cls : Str) (b : Bool) : Prop where
  ex : ∃ (qual y : Str) (st : Stmt) (f : Addr) (fd : FuncData) (N : List Str) (j : Nat) (δ : Type) (V0 V1 : Addr → Ev δ) (body : Sc δ Bool) (g0 : δ), k = j + 1 ∧ Fun K x qual st f fd ∧ FnScope N [y] (defScope st) ∧ mg x = some (.ref f) ∧ Binds K fd [y] [] ∧
    (∀ (a : Addr) (oe : Obj) (cdv : Value) (A : Around) (outer : List Env) (s : Shared) (H : Hp), Room j (A.deeper (envOfC qual (defScope st) s.heap.objs.size f cdv)) → ExA (cxOf CXF P w K mg base N qual (defScope st) f cdv A outer s H (fun _ _ _ => False)) cls a oe →
      SB (cxE P w K mg base N qual (defScope st) f cdv A outer s H a oe) ⟨.fr, enc, []⟩ (xfr δ) (V0 a) (V1 a) (defBody st) body) ∧ (∀ a, at_ (V0 a) g0 = .raw (.ref a) :: List.replicate (N.length - 1) .no) ∧ ∃ g1, body g0 = .rt b g1
section
variable {X : Cx} {γ : Type} {Ve : Ev γ} {pos : Pos} {a : Addr} {oe : Obj} {pn : List (Addr × Obj)}
theorem x_exCall {x cls n : Str} {k : Nat} {p0 p1 : Pos} {b : Bool} (i : Nat) (hE : ExA X cls a oe) (c : ExCal X.prog X.w X.K X.mg X.base k x cls b) (hr : Room k X.A)
    (hi : Ve[i]? = some (.raw (.ref a)) := by rfl) (hN : X.N[i]? = some n := by rfl) (hg : Gl X x := by rfl)
    (hv : Vis X.env.scope n := by first | exact Or.inl rfl | exact Or.inr (Or.inl rfl) | exact Or.inr (Or.inr rfl)) (hd : (n == ("__debug__" : Str)) = false := by decide) (hcd : (n == ("__classdict__" : Str)) = false := by decide) (hdb : (x == ("__debug__" : Str)) = false := by decide)
    (he : starEach (.Name n p1 :: []) X.env = (false, eval (.Name n p1) X.env) :: starEach [] X.env := by rfl) (hpl : (backTo pos (starEach [] X.env)).any (·.1) = false := by rfl) :
    SE (X.suite a ((a, oe) :: pn)) Ve .fr true (.Call (.Name x p0) [.Name n p1] [] pos) (pureA fun _ => b) := by
  obtain ⟨qual, y, st, f, fd, N, j, δ, V0, V1, body, g0, rfl, F, S, hmg, hb, hbody, hV, hrt⟩ := c.ex
  exact s_exCall i g0 F S hr hmg hb (fun cdv A outer s H hr' => hbody a oe cdv A outer s H hr' ⟨hE.ex, hE.fl⟩) (hV a) hrt hi hN hg hv hd hcd hdb he hpl
end
/-! ### a call with nothing handed in -/
section
variable {X : Cx} {γ α β ι : Type} [Enc β] {Ve : Ev γ} {k : Nat} {rm : RM} {pa : α → List Par} {pio : ι → List (Nat × List D)} {F : α → FRes β ι} {m : Md}
theorem pe_call0S {CX : CXT} {f : Addr} {fd : FuncData} {sp : Sp} {E : L2.St → XK} {x : Str} {p pos : Pos} (F : FnOk X.prog X.w X.K X.mg X.base CX k f fd [] sp) (hr : Room k X.A) (hg : Gl X x) (hm : X.mg x = some (.ref f)) (hk : PySem.W.keepIn X.K (.ref f) = true) (hb : Binds X.K fd [] []) (hx : ∀ σ, PassesAt CX X σ (E σ))
    (hdb : (x == ("__debug__" : Str)) = false := by decide) : PE X (.Call (.Name x p) [] [] pos) (fun σ H Q => sp [] H Q (E σ)) := by
  refine ⟨fun pins s σ H Q I h => ?_⟩
  refine wpAny_Call_Name_kw (ld_glob I hg hm ?_ hdb)
  exact PySem.W.callWith_K0 I.kIn hk (run_fnSD (us := []) (vs := []) (dvs := []) F hr hb .nil (hx σ) I .nil h)
theorem x_call0 {x : Str} {p0 pos : Pos} (args : γ → Unit → α) (c : Cal X.prog X.w X.K X.mg X.base k x [] (spOf X.K X.mg rm pa enc pio F)) (hr : Room k X.A) (hpa : ∀ a, pa a = [] := by exact fun _ => rfl) (hm : (rm = .fr ∧ m = .fr) ∨ (rm = .an ∧ m = .an) := by first | exact .inl ⟨rfl, rfl⟩ | exact .inr ⟨rfl, rfl⟩)
    (hg : Gl X x := by rfl) (hdb : (x == ("__debug__" : Str)) = false := by decide) :
    SE X Ve m true (.Call (.Name x p0) [] [] pos) (callA args F (pureA fun _ => ())) := ⟨fun Z W hK tk => by
  obtain ⟨f, fd, h1, h2, h3, h4⟩ := c.ex
  refine (pe_call0S (E := WE W) h1 hr hg h2 h3 h4 (fun σ => passAt tk σ) hdb).weak fun σ H Q q => ?_
  obtain ⟨g, A, j, q⟩ := q
  unfold callA bindA pureA at q
  simp only at q
  refine ⟨args g (), SC Z A Ve [], fun x h => sc_mut j h, by rw [hpa]; exact trivial, by rw [hpa]; exact fun i j a h => (by cases h), ?_⟩
  have ion : ioL 0 [] (pa (args g ())) = [] := by rw [hpa]; rfl
  rw [ion]
  cases eF : F (args g ()) with
  | bad => simp only [eF] at q
  | exc x' =>
    simp only [eF] at q
    refine fun c H2 mc fr => ?_
    have sm : Same H H2 := fun y o h => fr y o h fun i z => by cases z
    exact q c H2 mc (j.same sm) (.of sm)
  | ok b i =>
    simp only [eF] at q
    refine fun v H2 co => ?_
    have sm : Same H H2 := fun y o h => co.frame y o h fun i z => by cases z
    have rr := co.ret
    rw [← hK] at rr
    exact q v H2 (j.same sm) (.of sm) (fun _ => sm) (ret_rm j rr (hm.imp id fun z => ⟨z.1, z.2, rfl⟩))⟩
end
end HL
/-! Gb: lists of lists of one's own: one of them read, lengthened; all given up; walked. -/
namespace HL
open PySem PySem.Spec PyProof.Rows L2
section
variable {X : Cx} {γ α β : Type} [Enc α] {C : FC γ β} {xj : XJ γ} {Ve Ve' V2 : Ev γ} {m : Md} {p p2 : Bool} {e b : Expr} {pos : Pos}
/-- x[k], x a list of lists of one's own -/
theorem s_pkIx (i j : Nat) (k : Int) (js : List Nat) (get : γ → List α) {n : Str} {p1 : Pos} (hb : SE X Ve .fr true b (pureA fun _ => k)) (hi : Ve[i]? = some (.pk (.lst js)) := by rfl) (hk : atI js k = some j := by rfl) (hj : Ve[j]? = some (.own fun g => (get g).map enc) := by rfl) (hN : X.N[i]? = some n := by rfl)
    (hv : Vis X.env.scope n := by first | exact Or.inl rfl | exact Or.inr (Or.inl rfl) | exact Or.inr (Or.inr rfl)) (hd : (n == ("__debug__" : Str)) = false := by decide) (hcd : (n == ("__classdict__" : Str)) = false := by decide) (hs : PlainIx b := by exact fun _ _ => rfl) :
    SE X Ve (.bo j) true (.Subscript (.Name n p1) b pos) (pureA get) := ⟨fun Z W hK tk => (pe_ix (r := rIxL X.K) ix_list (pe_var hN hv hd hcd) (hb.run Z W hK tk) hs).weak fun σ H Q q => by
  obtain ⟨g, A, j0, q⟩ := q
  have hr : (at_ Ve g)[i]? = some (.pk (.lst js)) := by rw [at_get, hi]; rfl
  obtain ⟨a, e1, e2⟩ := j0.pk i _ hr
  refine ⟨_, e1, g, A, j0, ?_⟩
  show ∀ v H', _ → _ → _ → _ → _
  intro v H1 j1 gr sm rv
  cases rp_int rv.full
  obtain ⟨a', e1', e2'⟩ := j1.pk i _ hr
  rw [e1] at e1'
  cases e1'
  have hrj : (at_ Ve g)[j]? = some (.own ((get g).map enc)) := by rw [at_get, hj]; rfl
  obtain ⟨_, vs, e3, e4⟩ := j1.own j _ hrj
  rw [ow_at] at e4
  refine ⟨a, _, k, .ref (A j), rfl, rfl, seqL (gh_le _ _ e2'), by rw [atI_map, hk]; rfl, ?_⟩
  exact q _ H1 j1 gr sm ⟨rfl, j1.notS j _ hrj, vs, _, rfl, e3, e4⟩⟩
def appK {γ α β : Type} (get1 : γ → List α) (put1 : γ → List α → γ) (get2 : γ → List α) (put2 : γ → List α → γ) (h : Ac γ Int) (f : Ac γ α) : Sc γ β := doS h fun k => match ixN 2 k with
  | some 0 => appS get1 put1 f
  | some 1 => appS get2 put2 f
  | _ => fun _ => .bad
/-- x[h].append(e), x a list of two lists of one's own -/
theorem c_appK {h : Ac γ Int} {f : Ac γ α} (i j1 j2 : Nat) (get1 : γ → List α) (put1 : γ → List α → γ) (get2 : γ → List α) (put2 : γ → List α → γ) {n : Str} {p0 sp ap cp : Pos} (hx : XOk xj Ve) (hb : SE X Ve .fr p2 b h) (he : SE X Ve .fr p e f)
    (hi : Ve[i]? = some (.pk (.lst [j1, j2])) := by rfl) (h1 : Ve[j1]? = some (.own fun g => (get1 g).map enc) := by rfl) (h2 : Ve[j2]? = some (.own fun g => (get2 g).map enc) := by rfl)
    (hp1 : ∀ g l, at_ Ve (put1 g l) = (at_ Ve g).set j1 (.own (l.map enc)) := by exact fun _ _ => rfl) (hp2 : ∀ g l, at_ Ve (put2 g l) = (at_ Ve g).set j2 (.own (l.map enc)) := by exact fun _ _ => rfl)
    (hN : X.N[i]? = some n := by rfl) (hv : Vis X.env.scope n := by first | exact Or.inl rfl | exact Or.inr (Or.inl rfl) | exact Or.inr (Or.inr rfl)) (hd : (n == ("__debug__" : Str)) = false := by decide) (hcd : (n == ("__classdict__" : Str)) = false := by decide) (hsx : PlainIx b := by exact fun _ _ => rfl)
    (hm : Bm1 X (.Subscript (.Name n p0) b sp) "append" ap e cp := by exact ⟨rfl, rfl, rfl, rfl, rfl⟩) (hs : swapsWith (.Call (.Attribute (.Subscript (.Name n p0) b sp) "append" ap) [e] [] cp) none pos.line X.env = pure false := by rfl) :
    SS X C xj Ve Ve (.Expr (.Call (.Attribute (.Subscript (.Name n p0) b sp) "append" ap) [e] [] cp) pos) (appK get1 put1 get2 put2 h f) := ⟨fun Z W hK hio tk => by
  obtain ⟨m1, m2, m3, m4, m5⟩ := hm
  refine (ps_expr (pe_bm PySem.F.plainAttrs_list PySem.F.slot_list_append PySem.F.type_list_append mt_append (pe_ix (r := rIxL X.K) ix_list (pe_var hN hv hd hcd) (hb.run Z W hK tk) hsx) (pa_cons (he.run Z W hK tk) pa_nil m4) m1 m2 m3 m4 m5) hs).weak fun D σ H q => ?_
  obtain ⟨g0, A, j0, q⟩ := q
  have hr : ∀ g, (at_ Ve g)[i]? = some (.pk (.lst [j1, j2])) := fun g => by rw [at_get, hi]; rfl
  obtain ⟨a, e1, _⟩ := j0.pk i _ (hr g0)
  refine ⟨_, e1, g0, A, j0, ?_⟩
  unfold appK doS at q
  cases eh : h g0 with
  | bad => simp only [eh] at q
  | exc x g1 =>
    simp only [eh] at q
    exact fun c H' mc j' gr => q c A σ H' mc (hx _ _ _ _ _ j')
  | ok k g1 =>
    simp only [eh] at q
    intro v H1 j1' gr1 sm1 rv1
    cases rp_int rv1.full
    obtain ⟨a', e1', e2'⟩ := j1'.pk i _ (hr g1)
    rw [e1] at e1'
    cases e1'
    have hat : ∀ n, ixN 2 k = some n → atI [j1, j2] k = [j1, j2][n]? := fun n hn => by
      show (ixN 2 k).bind _ = _
      rw [hn]
      rfl
    have q' : Fin X.mg Z W C xj Ve D (OwV A Ve) H ((match ixN 2 k with
      | some 0 => appS get1 put1 f
      | some 1 => appS get2 put2 f
      | _ => fun _ => .bad) g1) := q
    have key : ∃ (j : Nat) (get : γ → List α) (put : γ → List α → γ), Ve[j]? = some (.own fun g => (get g).map enc) ∧ (∀ g l, at_ Ve (put g l) = (at_ Ve g).set j (.own (l.map enc))) ∧ atI [j1, j2] k = some j ∧ Fin X.mg Z W C xj Ve D (OwV A Ve) H (appS get put f g1) := by
      match hk : ixN 2 k with
      | none => rw [hk] at q'; exact q'.elim
      | some 0 => rw [hk] at q'; exact ⟨j1, get1, put1, h1, hp1, hat 0 hk, q'⟩
      | some 1 => rw [hk] at q'; exact ⟨j2, get2, put2, h2, hp2, hat 1 hk, q'⟩
      | some (n + 2) => rw [hk] at q'; exact q'.elim
    obtain ⟨j, get, put, hj, hput, hkj, q0⟩ := key
    have hrj : ∀ g, (at_ Ve g)[j]? = some (.own ((get g).map enc)) := fun g => by rw [at_get, hj]; rfl
    obtain ⟨_, vs0, e3, _⟩ := j1'.own j _ (hrj g1)
    refine ⟨a, _, k, .ref (A j), rfl, rfl, seqL (gh_le _ _ e2'), by rw [atI_map, hkj]; rfl, .inl ⟨rfl, vs0, seqL e3⟩, ?_⟩
    refine ⟨g1, A, j1', ?_⟩
    unfold appS doS at q0
    cases ef : f g1 with
    | bad => simp only [ef] at q0; exact q0
    | exc x g2 =>
      simp only [ef] at q0
      exact fun c H' mc j' gr => q0 c A σ H' mc (hx _ _ _ _ _ j')
    | ok w g2 =>
      simp only [ef] at q0
      intro v H2 j2' gr2 sm2 rv2
      by_cases hl : (get g2).length < LIM
      · rw [if_pos hl] at q0
        obtain ⟨_, vs, e5, e6⟩ := j2'.own j _ (hrj g2)
        rw [ow_at] at e6
        have el := e6.length
        rw [List.length_map] at el
        refine ⟨A j, vs, v, rfl, rfl, e5, by rw [el]; exact Nat.lt_trans hl (by decide), ?_⟩
        obtain ⟨j3, st⟩ := j_chg (vs := vs ++ [v]) (l := get g2 ++ [w]) j2' hj hput (by rw [List.map_append]; exact e6.append (.cons rv2 .nil))
        exact q0 A σ _ j3 ((gr1.stt.trans gr2.stt).trans st)
      · rw [if_neg hl] at q0
        exact q0.elim⟩
end
section
variable {X : Cx} {γ α β : Type} [Enc α] {C : FC γ β} {xj : XJ γ} {Ve Ve' V2 V3 : Ev γ} {m : Md} {p p2 : Bool} {e b : Expr} {pos : Pos} {st : Stmt}
/-- y.append(e), y another name of the list in slot j -/
theorem c_appA {f : Ac γ α} (i j : Nat) (get : γ → List α) (put : γ → List α → γ) {n : Str} {p0 ap cp : Pos} (hx : XOk xj Ve) (he : SE X Ve .fr p e f) (hi : Ve[i]? = some (.pk (.ali j)) := by rfl) (hj : Ve[j]? = some (.own fun g => (get g).map enc) := by rfl) (hput : ∀ g l, at_ Ve (put g l) = (at_ Ve g).set j (.own (l.map enc)) := by exact fun _ _ => rfl)
    (hN : X.N[i]? = some n := by rfl) (hv : Vis X.env.scope n := by first | exact Or.inl rfl | exact Or.inr (Or.inl rfl) | exact Or.inr (Or.inr rfl)) (hd : (n == ("__debug__" : Str)) = false := by decide) (hcd : (n == ("__classdict__" : Str)) = false := by decide)
    (hm : Bm1 X (.Name n p0) "append" ap e cp := by exact ⟨rfl, rfl, rfl, rfl, rfl⟩) (hs : swapsWith (.Call (.Attribute (.Name n p0) "append" ap) [e] [] cp) none pos.line X.env = pure false := by rfl) :
    SS X C xj Ve Ve (.Expr (.Call (.Attribute (.Name n p0) "append" ap) [e] [] cp) pos) (appS get put f) := ⟨fun Z W hK hio tk => by
  obtain ⟨m1, m2, m3, m4, m5⟩ := hm
  refine (ps_expr (pe_bm PySem.F.plainAttrs_list PySem.F.slot_list_append PySem.F.type_list_append mt_append (pe_var hN hv hd hcd) (pa_cons (he.run Z W hK tk) pa_nil m4) m1 m2 m3 m4 m5) hs).weak fun D σ H q => ?_
  obtain ⟨g0, A0, j0, q0⟩ := id q
  have hr : ∀ g, (at_ Ve g)[j]? = some (.own ((get g).map enc)) := fun g => by rw [at_get, hj]; rfl
  have hi0 : (at_ Ve g0)[i]? = some (.pk (.ali j)) := by rw [at_get, hi]; rfl
  have e1 : σ[i]? = some (some (.ref (A0 j))) := j0.pk i _ hi0
  obtain ⟨_, vs0, e2, _⟩ := j0.own j _ (hr g0)
  refine ⟨_, e1, .inl ⟨rfl, vs0, seqL e2⟩, ?_⟩
  refine ⟨g0, A0, j0, ?_⟩
  unfold appS doS at q0
  cases ef : f g0 with
  | bad => simp only [ef] at q0
  | exc x g1 =>
    simp only [ef] at q0
    exact fun c H' mc j' gr => q0 c A0 σ H' mc (hx _ _ _ _ _ j')
  | ok a g1 =>
    simp only [ef] at q0
    intro v H1 j1 gr sm rv
    by_cases hl : (get g1).length < LIM
    · rw [if_pos hl] at q0
      obtain ⟨_, vs, e3, e4⟩ := j1.own j _ (hr g1)
      rw [ow_at] at e4
      have el := e4.length
      rw [List.length_map] at el
      refine ⟨A0 j, vs, v, rfl, rfl, e3, by rw [el]; exact Nat.lt_trans hl (by decide), ?_⟩
      obtain ⟨j2, st⟩ := j_chg (vs := vs ++ [v]) (l := get g1 ++ [a]) j1 hj hput (by rw [List.map_append]; exact e4.append (.cons rv .nil))
      exact q0 A0 σ _ j2 (gr.stt.trans st)
    · rw [if_neg hl] at q0
      exact q0.elim⟩
def upS {γ β : Type} (up : γ → γ) (h : Sc γ β) : Sc γ β := fun g => h (up g)
theorem no_ne : ∀ ds, Slot.no ≠ .own ds := fun _ z => by cases z
theorem wks_refl : ∀ r : List Slot, Wks r r
  | [] => trivial
  | a :: r => ⟨.refl a, wks_refl r⟩
theorem wks_set : ∀ {r : List Slot} {i : Nat} {s s' : Slot}, r[i]? = some s → Wk1 s s' → Wks r (r.set i s')
  | [], _, _, _, h, _ => by simp at h
  | a :: r, 0, s, s', h, w => by
    simp at h
    subst h
    exact ⟨w, wks_refl r⟩
  | a :: r, i + 1, s, s', h, w => ⟨.refl a, wks_set (i := i) (by simpa using h) w⟩
theorem set_self {σ : L2.St} {i : Nat} {w : Option V} (h : σ[i]? = some w) : σ.set i w = σ := by
  obtain ⟨hl, e⟩ := List.getElem?_eq_some_iff.mp h
  rw [← e]
  exact List.set_getElem_self hl
/-- a list of two lists of one's own is given up: it is data from now on -/
theorem j_up2 {Z : Fix} {A : Nat → Addr} {r : List Slot} {σ : L2.St} {H : Hp} {i j1 j2 : Nat} {ds1 ds2 : List D} (j : J Z A r σ H) (hi : r[i]? = some (.pk (.lst [j1, j2]))) (h1 : r[j1]? = some (.own ds1)) (h2 : r[j2]? = some (.own ds2)) (n1 : ∀ a, (j1, a) ∉ Z.io) (n2 : ∀ a, (j2, a) ∉ Z.io) (ni : ∀ a, (i, a) ∉ Z.io) (d12 : j1 ≠ j2) (d1 : j1 ≠ i) (d2 : j2 ≠ i) :
    J Z A ((((r.set j1 .no).set j2 .no).set i (.imm true (.list [.list ds1, .list ds2])))) σ H := by
  have w1 : Wks r (r.set j1 (.imm true (.list ds1))) := wks_set h1 (.give (.ls ds1))
  have ja := j.weak w1 fun k a ds hk e => by
    have : j1 ≠ k := fun z => n1 a (z ▸ hk)
    rw [set_get, if_neg this]
    exact e
  have h2' : (r.set j1 (.imm true (.list ds1)))[j2]? = some (.own ds2) := by rw [set_get, if_neg d12]; exact h2
  have jb : J Z A ((r.set j1 (.imm true (.list ds1))).set j2 (.imm true (.list ds2))) σ H := ja.weak (wks_set h2' (.give (.ls ds2))) fun k a ds hk e => by
    have : j2 ≠ k := fun z => n2 a (z ▸ hk)
    rw [set_get, if_neg this]
    exact e
  obtain ⟨a, e1, e2⟩ := j.pk i _ hi
  have hib : ((r.set j1 (.imm true (.list ds1))).set j2 (.imm true (.list ds2)))[i]? = some (.pk (.lst [j1, j2])) := by
    rw [set_get, if_neg d2, set_get, if_neg d1]; exact hi
  obtain ⟨a', e1', e3⟩ := jb.pk i _ hib
  rw [e1] at e1'
  cases e1'
  have il1 : j1 < r.length := (List.getElem?_eq_some_iff.mp h1).1
  have il2 : j2 < r.length := (List.getElem?_eq_some_iff.mp h2).1
  obtain ⟨v1, f1, f2⟩ := jb.imm j1 true (.list ds1) (by rw [set_get, if_neg (Ne.symm d12), set_get, if_pos rfl, if_pos il1])
  obtain ⟨v2, f3, f4⟩ := jb.imm j2 true (.list ds2) (by rw [set_get, if_pos rfl, if_pos (by rw [List.length_set]; exact il2)])
  rw [(j.own j1 _ h1).1] at f1
  rw [(j.own j2 _ h2).1] at f3
  cases f1
  cases f3
  have jc := jb.setImm (i := i) (v := .ref a) (fr := true) (d := .list [.list ds1, .list ds2]) (.lst (xs := [.ref (A j1), .ref (A j2)]) (by simpa [HL.hp] using e3) (.cons f2 (.cons f4 .nil))) ni
  rw [set_self e1] at jc
  have k1 : (((r.set j1 (.imm true (.list ds1))).set j2 (.imm true (.list ds2))).set i (.imm true (.list [.list ds1, .list ds2])))[j1]? = some (.imm true (.list ds1)) := by
    rw [set_get, if_neg (Ne.symm d1), set_get, if_neg (Ne.symm d12), set_get, if_pos rfl, if_pos il1]
  have jd := jc.weak (wks_set k1 (.no _)) fun k a ds hk e => by
    have : j1 ≠ k := fun z => n1 a (z ▸ hk)
    rw [set_get, if_neg this]
    exact e
  have k2 : ((((r.set j1 (.imm true (.list ds1))).set j2 (.imm true (.list ds2))).set i (.imm true (.list [.list ds1, .list ds2]))).set j1 .no)[j2]? = some (.imm true (.list ds2)) := by
    rw [set_get, if_neg d12, set_get, if_neg (Ne.symm d2), set_get, if_pos rfl, if_pos (by rw [List.length_set]; exact il2)]
  have je := jd.weak (wks_set k2 (.no _)) fun k a ds hk e => by
    have : j2 ≠ k := fun z => n2 a (z ▸ hk)
    rw [set_get, if_neg this]
    exact e
  have e : ((((r.set j1 (.imm true (.list ds1))).set j2 (.imm true (.list ds2))).set i (.imm true (.list [.list ds1, .list ds2]))).set j1 .no).set j2 .no = ((r.set j1 .no).set j2 .no).set i (.imm true (.list [.list ds1, .list ds2])) := by
    refine List.ext_getElem? fun k => ?_
    simp only [List.getElem?_set, List.length_set]
    by_cases z1 : j2 = k
    · subst z1
      simp [d12, Ne.symm d2, d2, il2, il1, Ne.symm d12]
    · by_cases z2 : j1 = k
      · subst z2
        simp [z1, Ne.symm d1, il1, d1]
      · simp [z1, z2]
  rw [e] at je
  exact je
theorem SS.up2 {h : Sc γ β} (i j1 j2 : Nat) (get1 get2 : γ → List α) (up : γ → γ) (hk : SS X C xj V2 V3 st h) (hi : Ve[i]? = some (.pk (.lst [j1, j2])) := by rfl) (h1 : Ve[j1]? = some (.own fun g => (get1 g).map enc) := by rfl) (h2 : Ve[j2]? = some (.own fun g => (get2 g).map enc) := by rfl)
    (hV : ∀ g, at_ V2 (up g) = (((at_ Ve g).set j1 .no).set j2 .no).set i (.imm true (enc [get1 g, get2 g])) := by exact fun _ => rfl)
    (n1 : (ioIx C).contains j1 = false := by rfl) (n2 : (ioIx C).contains j2 = false := by rfl) (ni : (ioIx C).contains i = false := by rfl) (d12 : j1 ≠ j2 := by decide) (d1 : j1 ≠ i := by decide) (d2 : j2 ≠ i := by decide) : SS X C xj Ve V3 st (upS up h) := ⟨fun Z W hK hio tk => (hk.run Z W hK hio tk).weak fun D σ H q => by
  obtain ⟨g, A, j, q⟩ := q
  have j2 := j_up2 j (i := i) (j1 := j1) (j2 := j2) (ds1 := (get1 g).map enc) (ds2 := (get2 g).map enc) (by rw [at_get, hi]; rfl) (by rw [at_get, h1]; rfl) (by rw [at_get, h2]; rfl) (noio hio n1) (noio hio n2) (noio hio ni) d12 d1 d2
  have hv := hV g
  have j3 : J Z A (at_ V2 (up g)) σ H := by
    rw [hv]
    exact j2
  refine ⟨up g, A, j3, ?_⟩
  have q' : Fin X.mg Z W C xj V3 D (OwV A Ve) H (h (up g)) := q
  have st0 : Stt (OwV A Ve) (OwV A V2) H H := fun x o n hx => ⟨hx, fun z => n (by
    rw [← ow_at (g := up g), hv] at z
    rw [← ow_at (g := g)]
    exact ow_set no_ne x (ow_set no_ne x (ow_set imm_ne x z)))⟩
  exact q'.step st0⟩
end
/-! ### for y in x -/
theorem owv_set {γ : Type} {A : Nat → Addr} {V : Ev γ} {k : Nat} {s : SlotG γ} (h : V[k]? = some .no) (ns : ∀ ds, s ≠ .own ds) : OwV A (V.set k s) = OwV A V := by
  funext a
  refine propext ⟨fun ⟨i, ds, e, z⟩ => ?_, fun ⟨i, ds, e, z⟩ => ?_⟩
  · rw [List.getElem?_set] at e
    by_cases q : k = i
    · rw [if_pos q] at e
      split at e
      · exact absurd (Option.some.inj e) (ns ds)
      · cases e
    · rw [if_neg q] at e
      exact ⟨i, ds, e, z⟩
  · have q : k ≠ i := fun q => by rw [q, e] at h; cases h
    exact ⟨i, ds, by rw [List.getElem?_set, if_neg q]; exact e, z⟩
theorem at_setV {γ : Type} (V : Ev γ) (g : γ) (k : Nat) (s : SlotG γ) : at_ (V.set k s) g = (at_ V g).set k (s.at g) := by
  unfold at_
  rw [List.map_set]
theorem set_no {r : List Slot} {k : Nat} {s : Slot} (h : r[k]? = some .no) : (r.set k s).set k .no = r := by
  rw [List.set_set]
  obtain ⟨hl, e⟩ := List.getElem?_eq_some_iff.mp h
  rw [← e]
  exact List.set_getElem_self hl
section
variable {X : Cx} {γ β : Type} {C : FC γ β} {xj : XJ γ} {Ve : Ev γ} {pos : Pos}
/-- a slot that holds no list is forgotten again -/
theorem j_drop {Z : Fix} {A : Nat → Addr} {g : γ} {σ : L2.St} {H : Hp} {V : Ev γ} {k : Nat} {q : Pk} (h : V[k]? = some .no) (hno : (ioIx C).contains k = false) (hio : Z.io.map (·.1) = ioIx C) (j : J Z A (at_ (V.set k (.pk q)) g) σ H) : J Z A (at_ V g) σ H := by
  rw [at_setV] at j
  have hk : (at_ V g)[k]? = some .no := by rw [at_get, h]; rfl
  have hl : k < (at_ V g).length := (List.getElem?_eq_some_iff.mp hk).1
  have j2 := j.weak (wks_set (i := k) (s' := .no) (by rw [set_get, if_pos rfl, if_pos hl]) (.no _)) fun i a ds hi e => by
    have : k ≠ i := fun z => noio hio hno a (z ▸ hi)
    rw [set_get, if_neg this]
    exact e
  rw [set_no hk] at j2
  exact j2
theorem c_forPk {b1 b2 : Sc γ β} {bs : List Stmt} (i k p j1 j2 : Nat) {x y : Str} {px py : Pos} (hp : PassesOwn (model X.prog X.w) X.A X.env X.xe) (hc : X.calm = true) (hNd : X.N.Nodup)
    (hb1 : ∀ a, SB X C xj ((Ve.set p (.pk (.at a [j1, j2]))).set k (.pk (.ali j1))) ((Ve.set p (.pk (.at a [j1, j2]))).set k (.pk (.ali j1))) bs b1)
    (hb2 : ∀ a, SB X C xj ((Ve.set p (.pk (.at a [j1, j2]))).set k (.pk (.ali j2))) ((Ve.set p (.pk (.at a [j1, j2]))).set k (.pk (.ali j2))) bs b2)
    (hi : Ve[i]? = some (.pk (.lst [j1, j2])) := by rfl) (hk0 : Ve[k]? = some .no := by rfl) (hp0 : Ve[p]? = some .no := by rfl) (hkp : p ≠ k := by decide) (nk : (ioIx C).contains k = false := by rfl) (np : (ioIx C).contains p = false := by rfl)
    (hN : X.N[i]? = some x := by rfl) (hv : Vis X.env.scope x := by first | exact Or.inl rfl | exact Or.inr (Or.inl rfl) | exact Or.inr (Or.inr rfl)) (hd : (x == ("__debug__" : Str)) = false := by decide) (hcd : (x == ("__classdict__" : Str)) = false := by decide)
    (hNk : X.N[k]? = some y := by rfl) (hly : Loc X.env.scope y := by first | exact .inl rfl | exact .inr rfl) (hf : X.fn y = true ∨ X.env.scope.names.lookup y = some .local := by first | exact .inl rfl | exact .inr rfl)
    (hs : ∀ v, foldedSetIterable (.Name x px) X.env v = pure v := by intro _; rfl) : SS X C xj Ve Ve (.For (.Name y py) (.Name x px) bs [] pos) (bindS b1 b2) := ⟨fun Z W hK hio tk => by
  have hb : PSs X bs (fun D σ H => ∃ a, tS X.mg Z W C xj ((Ve.set p (.pk (.at a [j1, j2]))).set k (.pk (.ali j1))) ((Ve.set p (.pk (.at a [j1, j2]))).set k (.pk (.ali j1))) b1 D σ H ∨ tS X.mg Z W C xj ((Ve.set p (.pk (.at a [j1, j2]))).set k (.pk (.ali j2))) ((Ve.set p (.pk (.at a [j1, j2]))).set k (.pk (.ali j2))) b2 D σ H) := ⟨fun pins s σ H D I q => by
    obtain ⟨a, q | q⟩ := q
    · exact ((hb1 a).run Z W hK hio tk).run pins s σ H D I q
    · exact ((hb2 a).run Z W hK hio tk).run pins s σ H D I q⟩
  refine (ps_for hp hc (pi_list (pe_var hN hv hd hcd)) (pg_name hNd hNk hly hf) hb hs).weak fun D σ H q => ?_
  obtain ⟨g, A, j, q⟩ := q
  have hr : (at_ Ve g)[i]? = some (.pk (.lst [j1, j2])) := by rw [at_get, hi]; rfl
  obtain ⟨a, e1, e2⟩ := j.pk i _ hr
  refine ⟨_, e1, a, rfl, ⟨_, seqL (gh_le _ _ e2)⟩, ?_⟩
  have pl : p < σ.length := by
    rw [← j.len]
    unfold at_
    rw [List.length_map]
    exact (List.getElem?_eq_some_iff.mp hp0).1
  have jp : J Z A (at_ (Ve.set p (.pk (.at a [j1, j2]))) g) σ H := by
    rw [at_setV]
    have := j.setPkW (i := p) (v := σ[p]) (t := .at a [j1, j2]) e2 (noio hio np)
    rw [set_self (List.getElem?_eq_getElem pl)] at this
    exact this
  have hk1 : ∀ a, (Ve.set p (.pk (.at a [j1, j2])))[k]? = some .no := fun a => by rw [List.getElem?_set, if_neg hkp]; exact hk0
  have ow1 : ∀ (A : Nat → Addr) (a : Addr) (q : Pk), OwV A ((Ve.set p (.pk (.at a [j1, j2]))).set k (.pk q)) = OwV A Ve := fun A a q => by
    rw [owv_set (hk1 a) (fun _ z => by cases z), owv_set hp0 (fun _ z => by cases z)]
  let rest : Nat → Sc γ β := fun t => match t with
    | 0 => bindS b1 b2
    | 1 => b2
    | _ => nxS
  have pg : ∀ {A : Nat → Addr} {g : γ} {σ : L2.St} {H : Hp}, J Z A (at_ (Ve.set p (.pk (.at a [j1, j2]))) g) σ H → GH Z (Ow A (at_ (Ve.set p (.pk (.at a [j1, j2]))) g)) H a = some (.lst [.ref (A j1), .ref (A j2)]) := fun {A g σ H} jj => by
    have hl : p < Ve.length := (List.getElem?_eq_some_iff.mp hp0).1
    exact jj.pk p (.at a [j1, j2]) (by rw [at_get, List.getElem?_set, if_pos rfl, if_pos hl]; rfl)
  refine ⟨fun t m σ' H' => m = 2 - t ∧ t ≤ 2 ∧ ∃ g' A', J Z A' (at_ (Ve.set p (.pk (.at a [j1, j2]))) g') σ' H' ∧ Stt (OwV A Ve) (OwV A' Ve) H H' ∧ Fin X.mg Z W C xj Ve D (OwV A' Ve) H' (rest t g'), ⟨2, rfl, by decide, g, A, jp, .refl, q⟩, ?_⟩
  rintro t m σ2 H2 ⟨rfl, ht, g2, A2, j2', st2, q2⟩
  have ea := pg j2'
  have turn : ∀ (jt : Nat) (bt : Sc γ β), t < 2 → [j1, j2][t]? = some jt → (rest t = bindS bt (rest (t + 1)) ∨ (rest t = bt ∧ rest (t + 1) = nxS)) →
      (∀ {D' : Ends} {σ' : L2.St} {H' : Hp}, tS X.mg Z W C xj ((Ve.set p (.pk (.at a [j1, j2]))).set k (.pk (.ali jt))) ((Ve.set p (.pk (.at a [j1, j2]))).set k (.pk (.ali jt))) bt D' σ' H' → ∃ a, tS X.mg Z W C xj ((Ve.set p (.pk (.at a [j1, j2]))).set k (.pk (.ali j1))) ((Ve.set p (.pk (.at a [j1, j2]))).set k (.pk (.ali j1))) b1 D' σ' H' ∨ tS X.mg Z W C xj ((Ve.set p (.pk (.at a [j1, j2]))).set k (.pk (.ali j2))) ((Ve.set p (.pk (.at a [j1, j2]))).set k (.pk (.ali j2))) b2 D' σ' H') →
      ((Itl X.K a).go t H2 ∧ ∃ N : L2.St → Hp → Prop, (∀ σ' H', N σ' H' → ∃ m', m' < 2 - t ∧ (m' = 2 - (t + 1) ∧ t + 1 ≤ 2 ∧ ∃ g' A', J Z A' (at_ (Ve.set p (.pk (.at a [j1, j2]))) g') σ' H' ∧ Stt (OwV A Ve) (OwV A' Ve) H H' ∧ Fin X.mg Z W C xj Ve D (OwV A' Ve) H' (rest (t + 1) g'))) ∧
        ∀ x H', (Itl X.K a).yld t H2 x H' → gName k x σ2 H' fun σ2 H2 => ∃ a, tS X.mg Z W C xj ((Ve.set p (.pk (.at a [j1, j2]))).set k (.pk (.ali j1))) ((Ve.set p (.pk (.at a [j1, j2]))).set k (.pk (.ali j1))) b1 { D with nx := N, ct := N, bk := D.nx } σ2 H2 ∨ tS X.mg Z W C xj ((Ve.set p (.pk (.at a [j1, j2]))).set k (.pk (.ali j2))) ((Ve.set p (.pk (.at a [j1, j2]))).set k (.pk (.ali j2))) b2 { D with nx := N, ct := N, bk := D.nx } σ2 H2) := fun jt bt hlt hjt hrest hsel => by
    have hx : ([j1, j2].map fun j => L2.V.ref (A2 j))[t]? = some (.ref (A2 jt)) := by rw [List.getElem?_map, hjt]; rfl
    refine ⟨⟨_, _, seqL (gh_le _ _ ea), hx⟩, fun σ' H' => ∃ g' A', J Z A' (at_ (Ve.set p (.pk (.at a [j1, j2]))) g') σ' H' ∧ Stt (OwV A Ve) (OwV A' Ve) H H' ∧ Fin X.mg Z W C xj Ve D (OwV A' Ve) H' (rest (t + 1) g'), fun σ' H' h => ⟨2 - (t + 1), by omega, rfl, by omega, h⟩, ?_⟩
    rintro x H3 ⟨rfl, hy⟩
    have ex := hy _ (seqL (gh_le _ _ ea))
    rw [show ([L2.V.ref (A2 j1), L2.V.ref (A2 j2)] : List L2.V)[t]? = ([j1, j2].map fun j => L2.V.ref (A2 j))[t]? from rfl, hx] at ex
    cases ex
    refine hsel ⟨g2, A2, ?_, ?_⟩
    · rw [at_setV]
      exact j2'.setPk (i := k) (v := .ref (A2 jt)) (t := .ali jt) rfl (noio hio nk)
    · have step : ∀ g3, (∀ A' σ' H', J Z A' (at_ ((Ve.set p (.pk (.at a [j1, j2]))).set k (.pk (.ali jt))) g3) σ' H' → Stt (OwV A2 ((Ve.set p (.pk (.at a [j1, j2]))).set k (.pk (.ali jt)))) (OwV A' ((Ve.set p (.pk (.at a [j1, j2]))).set k (.pk (.ali jt)))) H3 H' → Fin X.mg Z W C xj Ve D (OwV A' Ve) H' (rest (t + 1) g3) → (∃ g' A', J Z A' (at_ (Ve.set p (.pk (.at a [j1, j2]))) g') σ' H' ∧ Stt (OwV A Ve) (OwV A' Ve) H H' ∧ Fin X.mg Z W C xj Ve D (OwV A' Ve) H' (rest (t + 1) g'))) := fun g3 A' σ' H' j' st' qq => by
        rw [ow1, ow1] at st'
        exact ⟨g3, A', j_drop (C := C) (hk1 a) nk hio j', st2.trans st', qq⟩
      rcases hrest with hrest | ⟨hr1, hr2⟩
      · rw [hrest] at q2
        unfold bindS at q2
        cases eb : bt g2 with
        | bad => simp only [eb] at q2; exact q2
        | exc x g3 => simp only [eb] at q2; exact q2
        | rt b g3 => simp only [eb] at q2; exact q2
        | nx g3 =>
          simp only [eb] at q2
          intro A' σ' H' j' st'
          have st'' := st'
          rw [ow1, ow1] at st''
          exact step g3 A' σ' H' j' st' (q2.step st'')
      · rw [hr1] at q2
        cases eb : bt g2 with
        | bad => rw [eb] at q2; exact q2
        | exc x g3 => rw [eb] at q2; exact q2
        | rt b g3 => rw [eb] at q2; exact q2
        | nx g3 =>
          rw [eb] at q2
          intro A' σ' H' j' st'
          have st'' := st'
          rw [ow1, ow1] at st''
          refine step g3 A' σ' H' j' st' ?_
          rw [hr2]
          exact fun A3 σ3 H3' j3 st3 => q2 A3 σ3 H3' j3 (st''.trans st3)
  match t, ht, turn, q2 with
  | 0, _, turn, q2 => exact .inr (turn j1 b1 (by decide) rfl (.inl rfl) fun h => ⟨a, .inl h⟩)
  | 1, _, turn, q2 => exact .inr (turn j2 b2 (by decide) rfl (.inr ⟨rfl, rfl⟩) fun h => ⟨a, .inr h⟩)
  | 2, _, turn, q2 => exact .inl ⟨⟨_, seqL (gh_le _ _ ea), Nat.le_refl 2⟩, q2 A2 σ2 H2 (j_drop (C := C) hp0 np hio j2') .refl⟩
  | t + 3, h, _, _ => omega⟩
end
theorem nv_of {sc : Scope} {x : Str} (h : sc.names.lookup x = none) : ¬ Vis sc x := fun z => by
  unfold Vis at z
  rw [h] at z
  rcases z with z | z | z <;> cases z
/-! ### plain side -/
def pick2 (k : Int) (P Q : Prop) : Prop := match ixN 2 k with
  | some 0 => P
  | some 1 => Q
  | _ => False
theorem pick2_of {k : Int} {P Q : Prop} (h0 : 0 ≤ k) (h2 : k < 2) (p : P) (q : Q) : pick2 k P Q := by
  have : k = 0 ∨ k = 1 := by omega
  rcases this with e | e
  · subst e; exact p
  · subst e; exact q
section
variable {γ α β : Type} {g : γ} {N : γ → Prop} {R : β → γ → Prop} {X : Str → γ → Prop}
theorem q_up {up : γ → γ} {h : Sc γ β} : (upS up h g).post N R X ↔ (h (up g)).post N R X := Iff.rfl
theorem q_appK {get1 get2 : γ → List α} {put1 put2 : γ → List α → γ} {h : Ac γ Int} {f : Ac γ α} : (appK (β := β) get1 put1 get2 put2 h f g).post N R X ↔
    (h g).post (fun k g1 => pick2 k ((f g1).post (fun a g2 => (get1 g2).length < LIM ∧ N (put1 g2 (get1 g2 ++ [a]))) X) ((f g1).post (fun a g2 => (get2 g2).length < LIM ∧ N (put2 g2 (get2 g2 ++ [a]))) X)) X := by
  unfold appK
  rw [q_do]
  apply iff_of_eq
  congr 1
  funext k g1
  unfold pick2
  match ixN 2 k with
  | none => rfl
  | some 0 => exact propext q_app
  | some 1 => exact propext q_app
  | some (n + 2) => rfl
end
end HL
/-! Gc: a call that is handed a list made for it alone, and one thing more. -/
namespace HL
open PySem PySem.Spec PyProof.Rows L2
theorem pe_anyE {X : Cx} {γ α : Type} [Enc α] {Ve : Ev γ} {m : Md} {p : Bool} {e : Expr} {f : Ac γ α} (h : SE X Ve m p e f) {W : WX} (tk : Takes X W) : PE X e (fun σ H Q => ∃ Z : Fix, Z.K = X.K ∧ tE X.mg Z W Ve m p f σ H Q) :=
  ⟨fun pins s σ H Q I q => by
    obtain ⟨Z, k, q⟩ := q
    exact (h.run Z W k tk).run pins s σ H Q I q⟩
section
variable {X : Cx} {γ α α2 β ι : Type} [Enc α] [Flat α] [Enc α2] [Flat α2] [Enc β] {Ve : Ev γ} {p p2 : Bool} {e e2 : Expr} {k : Nat} {ps : List Str} {pa : List α × α2 × Unit → List Par} {pio : ι → List (Nat × List D)} {F : List α × α2 × Unit → FRes β ι}
theorem x_callT2 {x : Str} {fA : Ac γ (List α)} {f2 : Ac γ α2} {p0 pos : Pos} (c : Cal X.prog X.w X.K X.mg X.base k x ps (spOf X.K X.mg .fr pa enc pio F)) (hr : Room k X.A) (ha : SN X Ve p e fA) (h2 : SE X Ve .fr p2 e2 f2) (hpa : ∀ a, pa a = [.ino (a.1.map enc), .imm true (enc a.2.1)] := by exact fun _ => rfl)
    (hg : Gl X x := by rfl) (hdb : (x == ("__debug__" : Str)) = false := by decide) (he : starEach (e :: [e2]) X.env = (false, eval e X.env) :: starEach [e2] X.env := by rfl) (he2 : starEach (e2 :: []) X.env = (false, eval e2 X.env) :: starEach [] X.env := by rfl) (hpl : (backTo pos (starEach [e2] X.env)).any (·.1) = false := by rfl) :
    SE X Ve .fr (p && p2) (.Call (.Name x p0) [e, e2] [] pos) (callA (fun (_ : γ) t => t) F (pairA fA (pairA f2 (pureA fun _ => ())))) := ⟨fun Z W hK tk => by
  obtain ⟨f, fd, FO, hmg, hk, hb⟩ := c.ex
  refine (pe_callS (E := WE W) FO hr hg hmg hk hb (fun σ => passAt tk σ) (pa_cons (ha.run Z W hK tk) (pa_cons (pe_anyE h2 tk) pa_nil he2) he) hdb he hpl).weak fun σ H Q q => ?_
  obtain ⟨g, A, j, q⟩ := q
  refine ⟨g, A, j, ?_⟩
  unfold callA pairA bindA pureA at q
  cases ef : fA g with
  | bad => simp only [ef] at q
  | exc x g1 =>
    simp only [ef] at q
    exact q
  | ok l g1 =>
    simp only [ef] at q
    intro qq vs H1 hn j1 gr1 sm1 rvs
    have snew : Same H1 (upd H1 qq (.lst vs)) := same_new hn
    obtain ⟨k0, kS, kO⟩ := j1.fresh hn
    rw [ow_at] at kO
    refine ⟨Z.hid qq, hK, g1, A, j1.inD hn, ?_⟩
    cases eh : f2 g1 with
    | bad => simp only [eh] at q
    | exc x g2 =>
      simp only [eh] at q
      exact fun c H' mc j' gr => q c H' mc ((j'.outD k0 kS).same wo_le) (gr1.trans fun y o n h => gr y o n (snew _ _ h))
    | ok b g2 =>
      simp only [eh] at q
      intro w H2 j2 gr2 sm2 rw2
      have e2q : H2 qq = some (.lst vs) := gr2 qq _ kO upd_same
      have jo := j2.outD k0 kS
      have mutW : ∀ {x : Addr}, Mut (wo qq H2 x) → Mut (H2 x) := fun {x} h => by
        by_cases e : x = qq
        · rw [e, wo_at] at h; exact h.elim
        · rw [wo_ne e] at h; exact h
      have hm : ∀ x, (SC Z A Ve [] x ∨ x = qq) → Mut (H2 x) := by
        intro x h
        rcases h with h | h
        · exact mutW (sc_mut jo h)
        · rw [h, e2q]; trivial
      have hio : ioL 0 [V.ref qq, w] (pa (l, b, ())) = [(0, qq)] := by
        rw [hpa]
        cases w <;> rfl
      have g12 : Gr (OwV A Ve) H1 H2 := fun y o n h => gr2 y o n (snew _ _ h)
      refine ⟨(l, b, ()), fun x => SC Z A Ve [] x ∨ x = qq, hm, ?_, ?_, ?_⟩
      · rw [hpa]
        refine ⟨⟨qq, vs, rfl, e2q, .inr rfl, ?_⟩, ⟨?_, fun _ => Flat.flat _⟩, trivial⟩
        · have r2 : RpA Z.K H2 vs (l.map enc) := RpA.mono ((Gr.gh (Z := Z) g12).trans gh_le) _ rvs
          rw [hK] at r2
          exact rpA_nomut (flatA_map l) r2
        · have r3 : RpA Z.K H2 [w] [enc b] := .cons (Rp.mono gh_le _ rw2) .nil
          rw [hK] at r3
          have r4 := rpA_nomut (show flatA [enc b] = true by
            show (flatD (enc b) && true) = true
            rw [Flat.flat]
            rfl) r3
          cases r4 with
          | cons r5 _ => exact Rp.mono (hide_same fun y o n h => ⟨fun z => n (hm y z), h⟩) _ r5
      · rw [hio]
        intro i j a h1 h2
        simp at h1 h2
        rw [h1.1, h2.1]
      rw [hio]
      have keep : ∀ {H3 : Hp}, (∀ y o, H2 y = some o → (∀ i, (i, y) ∉ [(0, qq)]) → H3 y = some o) → Same (wo qq H2) H3 := fun {H3} fr y o h => by
        have hne : y ≠ qq := fun z => by rw [z, wo_at] at h; cases h
        rw [wo_ne hne] at h
        exact fr y o h fun i z => by
          simp at z
          exact hne z.2
      have gr3 : ∀ {H3 : Hp}, Same (wo qq H2) H3 → Gr (OwV A Ve) H1 H3 := fun {H3} sm y o n h => sm y o (by
        have hne : y ≠ qq := fun z => by rw [z, hn] at h; cases h
        rw [wo_ne hne]
        exact g12 y o n h)
      cases eF : F (l, b, ()) with
      | bad => simp only [eF] at q
      | exc x' =>
        simp only [eF] at q
        refine fun c H3 mc fr => ?_
        exact q c H3 mc (jo.same (keep fr)) (gr1.trans (gr3 (keep fr)))
      | ok b' i =>
        simp only [eF] at q
        refine fun v H3 co => ?_
        have sm := keep co.frame
        have rr := co.ret
        rw [← hK] at rr
        refine q v H3 (jo.same sm) (gr1.trans (gr3 sm)) (fun z => ?_) ?_
        · obtain ⟨z1, z2⟩ := Bool.and_eq_true_iff.mp z
          refine (sm1 z1).trans fun y o h => sm y o ?_
          have hne : y ≠ qq := fun z => by rw [z, hn] at h; cases h
          rw [wo_ne hne]
          exact sm2 z2 y o (snew _ _ h)
        · exact Rp.mono (hide_same fun x o n e => ⟨fun z => n (mutW (mut0 jo z)), e⟩) _ rr⟩
end
end HL
/-! Gd: things of any kind. -/
namespace HL
open PySem PySem.Spec PyProof.Rows L2
def nmD : D → String
  | .none => "NoneType"
  | .bool _ => "bool"
  | .int _ => "int"
  | .str _ => "str"
  | .list _ => "list"
  | .tuple _ => "tuple"
  | .dict _ => "dict"
instance : TyV D := ⟨nmD, fun {K H v} x h => by
  have h : Rp K H v x := h
  cases x with
  | none => exact Ty1.ok () h
  | bool b => exact Ty1.ok b h
  | int n => exact Ty1.ok n h
  | str s => exact Ty1.ok s h
  | list ds => exact Ty1.ok ds (by
      show Rp K H v (.list (ds.map id))
      rw [List.map_id]
      exact h)
  | tuple ds =>
    obtain ⟨a, vs, rfl, s1, _⟩ := rp_tuple h
    exact tyx_tup s1
  | dict _ =>
    cases h with
    | dic h1 => exact .base (.dT h1)⟩
def isTupD : D → Bool
  | .tuple _ => true
  | _ => false
def isIntD : D → Bool
  | .int _ => true
  | .bool _ => true
  | _ => false
def isBoolD : D → Bool
  | .bool _ => true
  | _ => false
def isListD : D → Bool
  | .list _ => true
  | _ => false
def isStrD : D → Bool
  | .str _ => true
  | _ => false
theorem kD_of {cs : String} {k : D → Bool} {n0 n1 n2 n3 n4 n5 n6 : Bool} (h0 : kitB "NoneType" cs = some n0) (h1 : kitB "bool" cs = some n1) (h2 : kitB "int" cs = some n2) (h3 : kitB "str" cs = some n3) (h4 : kitB "list" cs = some n4) (h5 : kitB "tuple" cs = some n5) (h6 : kitB "dict" cs = some n6)
    (e0 : k .none = n0) (e1 : ∀ b, k (.bool b) = n1) (e2 : ∀ b, k (.int b) = n2) (e3 : ∀ b, k (.str b) = n3) (e4 : ∀ b, k (.list b) = n4) (e5 : ∀ b, k (.tuple b) = n5) (e6 : ∀ b, k (.dict b) = n6) : ∀ a : D, kitB (TyV.nm a) cs = some (k a) := fun a => by
  cases a with
  | none => rw [e0]; exact h0
  | bool b => rw [e1]; exact h1
  | int b => rw [e2]; exact h2
  | str b => rw [e3]; exact h3
  | list b => rw [e4]; exact h4
  | tuple b => rw [e5]; exact h5
  | dict b => rw [e6]; exact h6
theorem kD_tuple : ∀ a : D, kitB (TyV.nm a) "tuple" = some (isTupD a) := kD_of (n0 := false) (n1 := false) (n2 := false) (n3 := false) (n4 := false) (n5 := true) (n6 := false) (by decide +kernel) (by decide +kernel) (by decide +kernel) (by decide +kernel) (by decide +kernel) (by decide +kernel) (by decide +kernel) rfl (fun _ => rfl) (fun _ => rfl) (fun _ => rfl) (fun _ => rfl) (fun _ => rfl) (fun _ => rfl)
theorem kD_int : ∀ a : D, kitB (TyV.nm a) "int" = some (isIntD a) := kD_of (n0 := false) (n1 := true) (n2 := true) (n3 := false) (n4 := false) (n5 := false) (n6 := false) (by decide +kernel) (by decide +kernel) (by decide +kernel) (by decide +kernel) (by decide +kernel) (by decide +kernel) (by decide +kernel) rfl (fun _ => rfl) (fun _ => rfl) (fun _ => rfl) (fun _ => rfl) (fun _ => rfl) (fun _ => rfl)
theorem kD_bool : ∀ a : D, kitB (TyV.nm a) "bool" = some (isBoolD a) := kD_of (n0 := false) (n1 := true) (n2 := false) (n3 := false) (n4 := false) (n5 := false) (n6 := false) (by decide +kernel) (by decide +kernel) (by decide +kernel) (by decide +kernel) (by decide +kernel) (by decide +kernel) (by decide +kernel) rfl (fun _ => rfl) (fun _ => rfl) (fun _ => rfl) (fun _ => rfl) (fun _ => rfl) (fun _ => rfl)
theorem kD_list : ∀ a : D, kitB (TyV.nm a) "list" = some (isListD a) := kD_of (n0 := false) (n1 := false) (n2 := false) (n3 := false) (n4 := true) (n5 := false) (n6 := false) (by decide +kernel) (by decide +kernel) (by decide +kernel) (by decide +kernel) (by decide +kernel) (by decide +kernel) (by decide +kernel) rfl (fun _ => rfl) (fun _ => rfl) (fun _ => rfl) (fun _ => rfl) (fun _ => rfl) (fun _ => rfl)
theorem kD_str : ∀ a : D, kitB (TyV.nm a) "str" = some (isStrD a) := kD_of (n0 := false) (n1 := false) (n2 := false) (n3 := true) (n4 := false) (n5 := false) (n6 := false) (by decide +kernel) (by decide +kernel) (by decide +kernel) (by decide +kernel) (by decide +kernel) (by decide +kernel) (by decide +kernel) rfl (fun _ => rfl) (fun _ => rfl) (fun _ => rfl) (fun _ => rfl) (fun _ => rfl) (fun _ => rfl)
def upD {α : Type} [Enc α] (a : α) : Option D := some (enc a)
theorem upD_ok {α : Type} [Enc α] (a : α) (d : D) (h : upD a = some d) : enc d = enc a := by
  cases h
  rfl
def unI : D → Option Int
  | .int n => some n
  | _ => none
theorem unI_ok (d : D) (n : Int) (h : unI d = some n) : enc n = enc d := by
  cases d with
  | int m => cases h; rfl
  | none => cases h
  | bool b => cases h
  | str s => cases h
  | list l => cases h
  | tuple l => cases h
  | dict l => cases h
def lenD : D → Option Int
  | .tuple ds => some ds.length
  | _ => none
def tuD : D → Option (List D)
  | .tuple ds => some ds
  | _ => none
def ixD (n : Int) : D → Option D
  | .tuple ds => atI ds n
  | _ => none
def catD (d : D) (l : List D) : Option D := match d with
  | .tuple ds => if ds ≠ [] ∧ ds.length ≤ 900 then some (.tuple (ds ++ l)) else none
  | _ => none
section
variable {X : Cx} {γ τ : Type} [Enc τ] {Ve : Ev γ} {m : Md} {p p1 p2 : Bool} {e a b tg iter : Expr} {pos : Pos}
theorem s_lenD {f : Ac γ D} {p0 : Pos} (hx : X.mg "len" = none) (ha : SE X Ve m p e f) (hg : Gl X "len" := by rfl) (he : starEach (e :: []) X.env = (false, eval e X.env) :: starEach [] X.env := by rfl) (hpl : (backTo pos (starEach [] X.env)).any (·.1) = false := by rfl) :
    SE X Ve .fr p (.Call (.Name "len" p0) [e] [] pos) (op1 lenD f) :=
  s_b1 (id := "len") (r := fun K xs H Q => ∃ q ys, xs = [.ref q] ∧ (SqL K H q ys ∨ SqT K H q ys) ∧ Q (.int ys.length) H) call_len_seq (fun Z hK => fun A g σ H x l c Q j rx e q => by
    have r : Rp Z.K H x l := rx.full
    cases l with
    | tuple ds =>
      obtain ⟨t, vs, rfl, s1, s2⟩ := rp_tuple r
      have ec := some_inj' e
      refine ⟨t, vs, rfl, .inr (hK ▸ s1), ?_⟩
      rw [s2.length, ← ec]
      exact q _ H (Same.refl H) j (.int _)
    | none => cases e
    | bool _ => cases e
    | int _ => cases e
    | str _ => cases e
    | list _ => cases e
    | dict _ => cases e) hx ha PySem.boot_len hg (by decide) (by decide) he he hpl
theorem s_catD {f : Ac γ D} {h : Ac γ τ} (ys : τ → List D) (ha : SE X Ve .an p1 a f) (hb : SE X Ve .an p2 b h) (hy : ∀ y, enc y = .tuple (ys y) ∧ ys y ≠ [] ∧ (ys y).length ≤ 50 := by exact fun _ => ⟨rfl, (fun h => nomatch h), of_decide_eq_true rfl⟩) :
    SE X Ve .an (p1 && p2) (.BinOp a .Add b pos) (op2 (fun x y => catD x (ys y)) f h) :=
  s_op (r := fun K => rCatT K) op_catT (fun Z hK => fun A g σ H x y l k c Q j rx ry e q => by
    obtain ⟨e2, n2, hl2⟩ := hy k
    have rx' : Rp Z.K (FH Z (OwV A Ve) H) x l := rx
    have ry' : Rp Z.K (FH Z (OwV A Ve) H) y (enc k) := ry
    rw [e2] at ry'
    cases l with
    | tuple xs =>
      have e : (if xs ≠ [] ∧ xs.length ≤ 900 then some (PyData.tuple (xs ++ ys k)) else none) = some c := e
      by_cases hc : xs ≠ [] ∧ xs.length ≤ 900
      · rw [if_pos hc] at e
        obtain ⟨n1, hl1⟩ := hc
        have e := some_inj' e
        subst e
        obtain ⟨t, vs, rfl, s1, r1⟩ := rp_tuple rx'
        obtain ⟨u, ws, rfl, s2, r2⟩ := rp_tuple ry'
        have l1 := r1.length
        have l2 := r2.length
        have hv : vs ≠ [] := fun z => n1 (List.eq_nil_of_length_eq_zero (by rw [← l1, z]; rfl))
        have hw : ws ≠ [] := fun z => n2 (List.eq_nil_of_length_eq_zero (by rw [← l2, z]; rfl))
        refine ⟨t, u, vs, ws, rfl, rfl, hK ▸ sqT_same fh_le s1, hK ▸ sqT_same fh_le s2, hv, smallN (by omega), fun z => absurd z hw, fun _ n hn => q (.ref n) _ (same_new hn) (j.new hn) ?_⟩
        have hn' := j.ghnew (o := .tup (vs ++ ws)) hn
        rw [ow_at] at hn'
        exact .tup (gh_fh _ _ hn') (RpA.mono (Gr.of (same_new hn)).fh _ (r1.append r2))
      · rw [if_neg hc] at e
        cases e
    | none => cases e
    | bool _ => cases e
    | int _ => cases e
    | str _ => cases e
    | list _ => cases e
    | dict _ => cases e) ha hb rfl
theorem i_tupD {f : Ac γ D} (h : SE X Ve m p iter f) (hm : noBo m = true := by rfl) : SI X Ve (frB m) p tg iter (op1 tuD f) := ⟨fun Z W hK tk => (pi_tup (h.run Z W hK tk)).weak fun σ H R q => by
  obtain ⟨g, A, j, q⟩ := q
  refine ⟨g, A, j, ?_⟩
  unfold op1 bindA optA at q
  cases ef : f g with
  | bad => simp only [ef] at q
  | exc x g1 => simp only [ef] at q; exact q
  | ok x g1 =>
    simp only [ef] at q
    intro v H1 j1 gr sm rv
    cases x with
    | tuple ds =>
      have rv : Rm Z A Ve H1 m v (.tuple ds) := rv
      have em : ds.map enc = ds := List.map_id ds
      obtain ⟨a, vs, rfl, e1, e3, on⟩ := tup_on hm rv
      rw [hK] at e1 on e3
      refine ⟨a, rfl, ⟨vs, e1⟩, q _ H1 j1 gr sm fun O' H2 st i => ?_⟩
      have e5 := on _ _ st
      rw [em]
      have el := e3.length
      rw [hK]
      refine ⟨fun hi => ?_, fun hi => ⟨vs, e5, by omega⟩, fun x H3 d y hd => ?_⟩
      · obtain ⟨d, hd⟩ : ∃ d, ds[i]? = some d := ⟨_, List.getElem?_eq_getElem hi⟩
        obtain ⟨v, hv, _⟩ := e3.get hd
        exact ⟨vs, v, e5, hv⟩
      · obtain ⟨rfl, y⟩ := y
        obtain ⟨v, hv, rv⟩ := e3.get hd
        have := y vs e5
        rw [hv] at this
        cases this
        exact ⟨Same.refl _, Rp.mono un_le _ rv⟩
    | none => simp only [tuD] at q
    | bool _ => simp only [tuD] at q
    | int _ => simp only [tuD] at q
    | str _ => simp only [tuD] at q
    | list _ => simp only [tuD] at q
    | dict _ => simp only [tuD] at q⟩
theorem s_ixD {f : Ac γ D} (n : Int) {j pos' : _} (ha : SE X Ve m p a f) : SE X Ve (mdB (elM m)) p (.Subscript a (.Constant (.int n) j pos') pos) (op1 (ixD n) f) :=
  ⟨fun Z W hK tk => (pe_ix (r := rIxT X.K) ix_tup (ha.run Z W hK tk) pe_int (fun _ _ => rfl)).weak fun σ H Q q => by
    refine tUn_ok (r := fun x H Q => rIxT X.K x (.int n) H Q) (m1 := m) (fun A g σ H x l c Q j rx e q => ?_) q
    cases l with
    | tuple ds =>
      obtain ⟨t, vs, rfl, e3, e4⟩ := rm_tup (g := g) (σ := σ) rx
      obtain ⟨v, e5, e6⟩ := rpA_at e4 (show atI ds n = some (enc c) from e)
      exact ⟨t, vs, n, v, rfl, rfl, hK ▸ e3, e5, q v H (Same.refl H) j (rm_hp e6)⟩
    | none => cases e
    | bool _ => cases e
    | int _ => cases e
    | str _ => cases e
    | list _ => cases e
    | dict _ => cases e⟩
end
end HL
/-! Ge: dicts whose keys are tuples of whole numbers, each to True. -/
namespace HL
open PySem PySem.Spec PyProof.Rows L2

structure Dk (α : Type) where
  ks : List α
  deriving DecidableEq, Inhabited
instance {α : Type} [Enc α] [IT α] : Enc (Dk α) := ⟨fun d => dkD (d.ks.map IT.key)⟩
/-- a key put -/
def addK {α : Type} [DecidableEq α] (l : List α) (a : α) : List α := if a ∈ l then l else l ++ [a]
section
variable {α : Type} [Enc α] [IT α] [DecidableEq α]
theorem inl_inj {a b : List Int} (h : a.map (Sum.inl : Int → L2.Key) = b.map Sum.inl) : a = b := (List.map_inj_right fun _ _ e => Sum.inl.inj e).mp h
theorem kV_inl (k : List Int) : (k.map (Sum.inl : Int → L2.Key)).map kV = k.map V.int := by
  rw [List.map_map]
  rfl
theorem val_dk (a : α) : ∀ l : List α, valV (dkV (l.map IT.key)) ((IT.key a).map Sum.inl) = if a ∈ l then some (V.bl true) else none
  | [] => by simp [dkV, valV]
  | b :: l => by
    have ih := val_dk a l
    show valV (((IT.key b).map Sum.inl, V.bl true) :: dkV (l.map IT.key)) _ = _
    by_cases e : b = a
    · subst e
      rw [valV_pos rfl, if_pos List.mem_cons_self]
    · rw [valV_neg (fun z => e (IT.inj _ _ (inl_inj z))), ih]
      have : (a ∈ b :: l) ↔ a ∈ l := by
        rw [List.mem_cons]
        exact ⟨fun z => z.elim (fun z => absurd z.symm e) id, .inr⟩
      by_cases h : a ∈ l
      · rw [if_pos h, if_pos (this.mpr h)]
      · rw [if_neg h, if_neg (fun z => h (this.mp z))]
theorem put_dk (l : List α) (a : α) : putK (dkV (l.map IT.key)) ((IT.key a).map Sum.inl) (V.bl true) = dkV ((addK l a).map IT.key) := by
  have hv := val_dk a l
  unfold addK
  by_cases h : a ∈ l
  · rw [if_pos h] at hv ⊢
    unfold putK
    rw [valV_any, hv]
    show (if true = true then _ else _) = _
    rw [if_pos rfl]
    unfold dkV
    rw [List.map_map]
    refine List.map_congr_left fun k hk => ?_
    simp only [Function.comp]
    split <;> rfl
  · rw [if_neg h] at hv ⊢
    rw [putK_new _ hv]
    simp [dkV]
theorem len_dk (l : List (List Int)) : (dkV l).length = l.length := by simp [dkV]
theorem rp_dk {K : PySem.W.Frag} {H : Hp} {v : L2.V} {d : Dk α} (h : Rp K H v (enc d)) : ∃ a, v = .ref a ∧ H a = some (.dT (dkV (d.ks.map IT.key))) := by
  have h : Rp K H v (dkD (d.ks.map IT.key)) := h
  generalize hd : dkD (d.ks.map IT.key) = dd at h
  cases h with
  | dic h1 =>
    rename_i a ks
    refine ⟨a, rfl, ?_⟩
    have : ks = d.ks.map IT.key := by
      have e := PyData.dict.inj hd
      have inj : ∀ x y : List Int, (dI x, PyData.bool true) = (dI y, PyData.bool true) → x = y := fun x y z => by
        have := PyData.tuple.inj (Prod.mk.inj z).1
        exact (List.map_inj_right fun _ _ e => PyData.int.inj e).mp this
      exact ((List.map_inj_right inj).mp e).symm
    rw [this] at h1
    exact h1
  | _ => simp [dkD] at hd
theorem rp_key {K : PySem.W.Frag} {H : Hp} {v : L2.V} {a : α} (h : Rp K H v (enc a)) : ∃ t, v = .ref t ∧ H t = some (.tup ((IT.key a).map V.int)) := by
  rw [IT.encI] at h
  obtain ⟨t, vs, e, h1, h2⟩ := rp_tupleH h
  have : vs = (IT.key a).map V.int := rpA_ints h2
  exact ⟨t, e, by rw [← this]; exact h1⟩
end

theorem isN_pt {X : Cx} {a : Expr} {pos : Pos} {op : CmpOp} {r : L2.V → Hp → VK → Prop} {te : TE} {j p9} (ho : OpR X (compareOp op) (fun x y H Q => y = .non ∧ r x H Q)) (ha : PE X a te) (hn : behindInMarks op (.Constant .none j p9) = false) : PT X (.Compare a [op] [.Constant .none j p9] pos) (fun σ H Q => tUn r te σ H fun x H' => ∃ k, x = .bl k ∧ Q k H') :=
  (pt_cmpR ho ha pe_non hn).weak fun σ H Q q => by
    have : (fun x H1 => (V.non = V.non ∧ r x H1 fun x H' => ∃ k, x = V.bl k ∧ Q k H')) = fun x H1 => r x H1 fun x H' => ∃ k, x = V.bl k ∧ Q k H' := by
      funext x H1
      simp
    show te σ H (fun x H1 => (V.non = V.non ∧ r x H1 fun x H' => ∃ k, x = V.bl k ∧ Q k H'))
    rw [this]
    exact q
theorem t_notNone {X : Cx} {γ α : Type} [Enc α] [NoN α] {Ve : Ev γ} {m : Md} {p : Bool} {a : Expr} {pos : Pos} {f : Ac γ (Option α)} {j p9} (ha : SE X Ve m p a f) : ST X Ve p (.Compare a [.IsNot] [.Constant .none j p9] pos) (op1 isSomeQ f) :=
  ⟨fun Z W hK tk => (isN_pt op_notN (ha.run Z W hK tk) (nomark _)).weak fun _ _ _ q => tUn_ok uNotNone (tT_test q)⟩
/-! ### read -/
def inK {α : Type} [DecidableEq α] (a : α) (d : Dk α) : Option Bool := some (decide (a ∈ d.ks))
def notinK {α : Type} [DecidableEq α] (a : α) (d : Dk α) : Option Bool := some (!decide (a ∈ d.ks))
def lenK {α : Type} (d : Dk α) : Option Int := some (d.ks.length : Int)
def listK {α : Type} (d : Dk α) : Option (List α) := some d.ks
section
variable {X : Cx} {γ α : Type} [Enc α] [IT α] [DecidableEq α] {Ve : Ev γ} {m1 m2 m : Md} {p p1 p2 : Bool} {a b e : Expr} {pos : Pos} {f : Ac γ α} {h : Ac γ (Dk α)}
theorem rm_key {Z : Fix} {A : Nat → Addr} {g : γ} {σ : L2.St} {H : Hp} {v : L2.V} {x : α} (hm : noBo m = true) (r : Rm Z A Ve H m v (enc x)) : ∃ t, v = .ref t ∧ H t = some (.tup ((IT.key x).map V.int)) := by
  obtain ⟨t, e1, e2⟩ := rp_key (rm_frB hm r)
  exact ⟨t, e1, hp_le _ _ e2⟩
theorem rm_dk {Z : Fix} {A : Nat → Addr} {g : γ} {σ : L2.St} {H : Hp} {v : L2.V} {d : Dk α} (hm : noBo m = true) (r : Rm Z A Ve H m v (enc d)) : ∃ t, v = .ref t ∧ H t = some (.dT (dkV (d.ks.map IT.key))) := by
  obtain ⟨t, e1, e2⟩ := rp_dk (rm_frB hm r)
  exact ⟨t, e1, hp_le _ _ e2⟩
theorem get_dk {H : Hp} {t u : Addr} {x : α} {d : Dk α} (e1 : H t = some (.tup ((IT.key x).map V.int))) (e2 : H u = some (.dT (dkV (d.ks.map IT.key)))) : DGet H u (.ref t) (if x ∈ d.ks then some (V.bl true) else none) := by
  rw [← val_dk]
  exact DGet.t e2 (by rw [kV_inl]; exact e1)
def rInK : R2 := fun y x H Q => ∃ a o, x = .ref a ∧ DGet H a y o ∧ Q (.bl o.isSome) H
def rNotInK : R2 := fun y x H Q => ∃ a o, x = .ref a ∧ DGet H a y o ∧ Q (.bl (!o.isSome)) H
theorem kInK {Z : Fix} (h1 : noBo m1 = true) (h2 : noBo m2 = true) : OpK Z rInK m1 m2 .fr (inK (α := α)) Ve := fun A g σ H x y a b c Q j rx ry e q => by
  obtain rfl := some_inj' e
  obtain ⟨t, rfl, e1⟩ := rm_key (g := g) (σ := σ) h1 rx
  obtain ⟨u, rfl, e2⟩ := rm_dk (g := g) (σ := σ) h2 ry
  refine ⟨u, _, rfl, get_dk e1 e2, ?_⟩
  have : (if a ∈ b.ks then some (V.bl true) else none : Option V).isSome = decide (a ∈ b.ks) := by by_cases hh : a ∈ b.ks <;> simp [hh]
  rw [this]
  exact q _ H (Same.refl H) j (.bl _)
theorem kNotInK {Z : Fix} (h1 : noBo m1 = true) (h2 : noBo m2 = true) : OpK Z rNotInK m1 m2 .fr (notinK (α := α)) Ve := fun A g σ H x y a b c Q j rx ry e q => by
  obtain rfl := some_inj' e
  obtain ⟨t, rfl, e1⟩ := rm_key (g := g) (σ := σ) h1 rx
  obtain ⟨u, rfl, e2⟩ := rm_dk (g := g) (σ := σ) h2 ry
  refine ⟨u, _, rfl, get_dk e1 e2, ?_⟩
  have : (if a ∈ b.ks then some (V.bl true) else none : Option V).isSome = decide (a ∈ b.ks) := by by_cases hh : a ∈ b.ks <;> simp [hh]
  rw [this]
  exact q _ H (Same.refl H) j (.bl _)
theorem s_inK (hu : X.A.units + 65 < cLine) (ha : SE X Ve m1 p1 a f) (hb : SE X Ve m2 p2 b h) (hm : okM m1 p2 = true := by rfl) (h1 : noBo m1 = true := by rfl) (h2 : noBo m2 = true := by rfl) (hn : behindInMarks .In b = false := by rfl) : SE X Ve .fr (p1 && p2) (.Compare a [.In] [b] pos) (op2 inK f h) :=
  ⟨fun Z W hK tk => (pe_cmp (pc_din (by omega) (ha.run Z W hK tk) (hb.run Z W hK tk)) hn).weak fun σ H Q q => tOp_ok (kInK h1 h2) hm q⟩
theorem t_inK (hu : X.A.units + 65 < cLine) (ha : SE X Ve m1 p1 a f) (hb : SE X Ve m2 p2 b h) (hm : okM m1 p2 = true := by rfl) (h1 : noBo m1 = true := by rfl) (h2 : noBo m2 = true := by rfl) (hn : behindInMarks .In b = false := by rfl) : ST X Ve (p1 && p2) (.Compare a [.In] [b] pos) (op2 inK f h) :=
  ⟨fun Z W hK tk => (pt_cmp (pc_din (by omega) (ha.run Z W hK tk) (hb.run Z W hK tk)) hn).weak fun σ H Q q => tOp_ok (kInK h1 h2) hm (tT_test q)⟩
theorem s_notinK (hu : X.A.units + 65 < cLine) (ha : SE X Ve m1 p1 a f) (hb : SE X Ve m2 p2 b h) (hm : okM m1 p2 = true := by rfl) (h1 : noBo m1 = true := by rfl) (h2 : noBo m2 = true := by rfl) (hn : behindInMarks .NotIn b = false := by rfl) : SE X Ve .fr (p1 && p2) (.Compare a [.NotIn] [b] pos) (op2 notinK f h) :=
  ⟨fun Z W hK tk => (pe_cmp (pc_dnotin (by omega) (ha.run Z W hK tk) (hb.run Z W hK tk)) hn).weak fun σ H Q q => tOp_ok (kNotInK h1 h2) hm q⟩
theorem t_notinK (hu : X.A.units + 65 < cLine) (ha : SE X Ve m1 p1 a f) (hb : SE X Ve m2 p2 b h) (hm : okM m1 p2 = true := by rfl) (h1 : noBo m1 = true := by rfl) (h2 : noBo m2 = true := by rfl) (hn : behindInMarks .NotIn b = false := by rfl) : ST X Ve (p1 && p2) (.Compare a [.NotIn] [b] pos) (op2 notinK f h) :=
  ⟨fun Z W hK tk => (pt_cmp (pc_dnotin (by omega) (ha.run Z W hK tk) (hb.run Z W hK tk)) hn).weak fun σ H Q q => tOp_ok (kNotInK h1 h2) hm (tT_test q)⟩
theorem s_lenK {p0 : Pos} (hx : X.mg "len" = none) (ha : SE X Ve m p e h) (hm : noBo m = true := by rfl) (hg : Gl X "len" := by rfl) (he : starEach (e :: []) X.env = (false, eval e X.env) :: starEach [] X.env := by rfl) (hpl : (backTo pos (starEach [] X.env)).any (·.1) = false := by rfl) :
    SE X Ve .fr p (.Call (.Name "len" p0) [e] [] pos) (op1 lenK h) :=
  s_b1 (id := "len") (r := fun K => rLenT) call_len_dT (fun Z hK => fun A g σ H x l c Q j rx e q => by
    obtain ⟨u, rfl, e2⟩ := rm_dk (g := g) (σ := σ) hm rx
    obtain rfl := some_inj' e
    refine ⟨u, _, rfl, e2, ?_⟩
    rw [len_dk, List.length_map]
    exact q _ H (Same.refl H) j (.int _)) hx ha (by decide +kernel) hg (by decide) (by decide) he he hpl
theorem rpA_ofInts {K : PySem.W.Frag} {H : Hp} : ∀ {ns : List Int}, RpA K H (ns.map V.int) (ns.map PyData.int)
  | [] => .nil
  | n :: ns => .cons (.int n) rpA_ofInts
theorem keys_rp {K : PySem.W.Frag} {H H' : Hp} (hs : ∀ b xs, H b = some (.tup xs) → H' b = some (.tup xs)) : ∀ {l : List α} {bs : List Addr}, IsKeys H (dkV (l.map IT.key)) bs → RpA K H' (bs.map V.ref) (l.map enc)
  | [], bs, h => by cases h; exact .nil
  | a :: l, bs, h => by
    have h : Paired (fun p b => H b = some (.tup (p.1.map kV))) (((IT.key a).map Sum.inl, V.bl true) :: dkV (l.map IT.key)) bs := h
    cases h with
    | cons h1 h2 =>
      refine .cons ?_ (keys_rp hs h2)
      rw [IT.encI]
      exact .tup (hs _ ((IT.key a).map V.int) (by rw [← kV_inl]; exact h1)) rpA_ofInts
theorem s_listK {p0 : Pos} (hc : X.calm = true) (hx : X.mg "list" = none) (ha : SE X Ve m p e h) (hm : noBo m = true := by rfl) (hg : Gl X "list" := by rfl)
    (he : starEach (e :: []) X.env = (false, eval e X.env) :: starEach [] X.env := by rfl) (hpl : (backTo pos (starEach [] X.env)).any (·.1) = false := by rfl) : SN X Ve p (.Call (.Name "list" p0) [e] [] pos) (op1 listK h) :=
  s_t1N (r := fun K xs H Q => ∃ d kvs, xs = [V.ref d] ∧ Rd H d (.dT kvs) ∧ ∀ p bs, H p = none → IsKeys H kvs bs → Q (.ref p) (upd H p (.lst (bs.map V.ref)))) (call_list_dT hc) (fun Z hK => fun A g σ H x l c Q j rx e q => by
    obtain ⟨u, rfl, e2⟩ := rm_dk (g := g) (σ := σ) hm rx
    obtain rfl := some_inj' e
    refine ⟨u, _, rfl, .inl e2, fun n bs hn hk => q n _ hn (keys_rp (fun b xs hb => ?_) hk)⟩
    rw [← ow_at (g := g)]
    exact j.tupT hb) hx ha (by decide +kernel) hg (by decide) (by decide) he hpl
end

/-! ### made, changed -/
def newK {γ α β : Type} (set : γ → Dk α → γ) : Sc γ β := fun g => .nx (set g ⟨[]⟩)
def putKS {γ α β : Type} [DecidableEq α] (get : γ → Dk α) (put : γ → Dk α → γ) (f : Ac γ α) : Sc γ β := doS f fun a g => if (get g).ks.length < LIM then .nx (put g ⟨addK (get g).ks a⟩) else .bad
section
variable {X : Cx} {γ α β : Type} [Enc α] [IT α] [DecidableEq α] {C : FC γ β} {xj : XJ γ} {Ve Ve' : Ev γ} {m : Md} {p : Bool} {e : Expr} {pos : Pos}
theorem c_dnew (i : Nat) (set : γ → Dk α → γ) {n : Str} {pos' dp : Pos} (hx : XOk xj Ve) (hV : ∀ g a, at_ Ve' (set g a) = (at_ Ve g).set i (.own (.dk (a.ks.map IT.key))) := by exact fun _ _ => rfl) (hno : (ioIx C).contains i = false := by rfl) (hpk : noPk i Ve = true := by rfl)
    (hN : X.N.Nodup) (hi : X.N[i]? = some n := by rfl) (hl : Loc X.env.scope n := by first | exact .inl rfl | exact .inr rfl) (hs : swapsWith (.Dict [] [] dp) (some (.Name n pos')) pos.line X.env = pure false := by rfl) (hf : X.fn n = true ∨ X.env.scope.names.lookup n = some .local := by first | exact .inl rfl | exact .inr rfl) :
    SS X C xj Ve Ve' (.Assign [.Name n pos'] (.Dict [] [] dp) pos) (newK set) := ⟨fun Z W hK hio tk => (ps_set hN hi hl pe_dnewT hs hf).weak fun D σ H q => by
  obtain ⟨g, A, j, q⟩ := q
  have q : ∀ A' σ' H', J Z A' (at_ Ve' (set g ⟨[]⟩)) σ' H' → Stt (OwV A Ve) (OwV A' Ve') H H' → D.nx σ' H' := q
  intro v hn
  have j2 := j.setOwnO (i := i) (q := v) (ob := .dT []) (ds := .dk []) hn rfl (noio hio hno) (fun k t e _ => noPk_all hpk k t e)
  have hV' := hV g ⟨[]⟩
  rw [show (at_ Ve g).set i (.own (.dk [])) = at_ Ve' (set g ⟨[]⟩) from hV'.symm] at j2
  refine q (fun k => if k = i then v else A k) _ _ j2 fun x o n h => ⟨same_new hn _ _ h, fun y => ?_⟩
  obtain ⟨k, ds, e1, e2⟩ := y
  by_cases ek : k = i
  · simp only [ek, if_true] at e2
    rw [← e2, hn] at h
    cases h
  · simp only [ek, if_false] at e2
    have h1 : (at_ Ve' (set g ⟨[]⟩))[k]? = some (.own (ds (set g ⟨[]⟩))) := by rw [at_get, e1]; rfl
    rw [hV, set_get, if_neg (Ne.symm ek)] at h1
    refine n ?_
    rw [← ow_at (g := g)]
    exact ⟨k, _, h1, e2⟩⟩
theorem c_dput {f : Ac γ α} (i : Nat) (get : γ → Dk α) (put : γ → Dk α → γ) {n : Str} {p0 sp bp : Pos} {jb} (hx : XOk xj Ve) (hu : X.A.units + 65 < cLine) (he : SE X Ve m p e f) (hm : noBo m = true := by rfl) (hi : Ve[i]? = some (.own fun g => .dk ((get g).ks.map IT.key)) := by rfl) (hput : ∀ g l, at_ Ve (put g l) = (at_ Ve g).set i (.own (.dk (l.ks.map IT.key))) := by exact fun _ _ => rfl)
    (hN : X.N[i]? = some n := by rfl) (hv : Vis X.env.scope n := by first | exact Or.inl rfl | exact Or.inr (Or.inl rfl) | exact Or.inr (Or.inr rfl)) (hd : (n == ("__debug__" : Str)) = false := by decide) (hcd : (n == ("__classdict__" : Str)) = false := by decide)
    (hs : swapsWith (.Constant (.bool true) jb bp) (some (.Subscript (.Name n p0) e sp)) pos.line X.env = pure false := by rfl) :
    SS X C xj Ve Ve (.Assign [.Subscript (.Name n p0) e sp] (.Constant (.bool true) jb bp) pos) (putKS get put f) := ⟨fun Z W hK hio tk => by
  refine (ps_dput (by omega) (pe_var hN hv hd hcd) (he.run Z W hK tk) pe_bl hs).weak fun D σ H q => ?_
  obtain ⟨g0, A0, j0, q0⟩ := id q
  have hr : (at_ Ve g0)[i]? = some (.own (.dk ((get g0).ks.map IT.key))) := by rw [at_get, hi]; rfl
  obtain ⟨e1, _⟩ := j0.own i _ hr
  refine ⟨_, e1, g0, A0, j0, ?_⟩
  unfold putKS doS at q0
  cases ef : f g0 with
  | bad => simp only [ef] at q0
  | exc x g1 =>
    simp only [ef] at q0
    exact fun c H' mc j' gr => q0 c A0 σ H' mc (hx _ _ _ _ _ j')
  | ok a g1 =>
    simp only [ef] at q0
    intro v H1 j1 gr sm rv
    by_cases hl : (get g1).ks.length < LIM
    · rw [if_pos hl] at q0
      have hr1 : (at_ Ve g1)[i]? = some (.own (.dk ((get g1).ks.map IT.key))) := by rw [at_get, hi]; rfl
      have e3 : H1 (A0 i) = some (.dT (dkV ((get g1).ks.map IT.key))) := (j1.own i _ hr1).2
      obtain ⟨t, rfl, e4⟩ := rm_key (g := g1) (σ := σ) hm rv
      have dp := DPut.t (v := V.bl true) e3 (b := t) (k := (IT.key a).map Sum.inl) (by rw [kV_inl]; exact e4) (by rw [len_dk, List.length_map]; exact Nat.lt_trans hl (by decide))
      rw [put_dk] at dp
      refine ⟨A0 i, _, rfl, dp, ?_⟩
      have j2 := j1.chgO (ob := .dT (dkV ((addK (get g1).ks a).map IT.key))) (ds := .dk ((addK (get g1).ks a).map IT.key)) hr1 rfl
      rw [show (at_ Ve g1).set i (.own (.dk ((addK (get g1).ks a).map IT.key))) = at_ Ve (put g1 ⟨addK (get g1).ks a⟩) from (hput g1 ⟨addK (get g1).ks a⟩).symm] at j2
      exact q0 A0 σ _ j2 (gr.stt.trans fun x o n h => ⟨by rw [upd_ne (fun e => n ⟨i, _, hi, e.symm⟩)]; exact h, n⟩)
    · rw [if_neg hl] at q0
      exact q0.elim⟩
theorem q_newK {set : γ → Dk α → γ} {g : γ} {N : γ → Prop} {R : β → γ → Prop} {X : Str → γ → Prop} : (newK (β := β) set g).post N R X ↔ N (set g ⟨[]⟩) := Iff.rfl
theorem q_putK {get : γ → Dk α} {put : γ → Dk α → γ} {f : Ac γ α} {g : γ} {N : γ → Prop} {R : β → γ → Prop} {X : Str → γ → Prop} : (putKS (β := β) get put f g).post N R X ↔ (f g).post (fun a g1 => (get g1).ks.length < LIM ∧ N (put g1 ⟨addK (get g1).ks a⟩)) X := by
  unfold putKS
  rw [q_do]
  refine iff_of_eq (congrArg (fun z => (f g).post z X) (funext fun a => funext fun g1 => propext ?_))
  split
  · rename_i h
    exact ⟨fun z => ⟨h, z⟩, fun z => z.2⟩
  · rename_i h
    exact ⟨fun z => z.elim, fun z => absurd z.1 h⟩
end
section
variable {α : Type} [DecidableEq α]
theorem o_inK {a : α} {d : Dk α} {Q : Bool → Prop} : opt (inK a d) Q ↔ Q (decide (a ∈ d.ks)) := Iff.rfl
theorem o_notinK {a : α} {d : Dk α} {Q : Bool → Prop} : opt (notinK a d) Q ↔ Q (!decide (a ∈ d.ks)) := Iff.rfl
theorem o_lenK {d : Dk α} {Q : Int → Prop} : opt (lenK d) Q ↔ Q (d.ks.length : Int) := Iff.rfl
theorem o_listK {d : Dk α} {Q : List α → Prop} : opt (listK d) Q ↔ Q d.ks := Iff.rfl
theorem mem_addK {l : List α} {a x : α} : x ∈ addK l a ↔ x ∈ l ∨ x = a := by
  unfold addK
  split
  · rename_i h
    exact ⟨.inl, fun z => z.elim id fun z => z ▸ h⟩
  · simp
theorem len_addK {l : List α} {a : α} : (addK l a).length ≤ l.length + 1 := by
  unfold addK
  split <;> simp
theorem nd_addK {l : List α} {a : α} (h : l.Nodup) : (addK l a).Nodup := by
  unfold addK
  split
  · exact h
  · rename_i n
    rw [List.nodup_append]
    refine ⟨h, by simp, fun x hx y hy e => n ?_⟩
    rw [List.mem_singleton.mp hy] at e
    exact e ▸ hx
end

/-! ### two lists of a pack changed at once -/
def pkParS {γ α β : Type} (get1 : γ → List α) (put1 : γ → List α → γ) (get2 : γ → List α) (put2 : γ → List α → γ) (k1 k2 : γ → Int) (f : Ac γ (α × α)) : Sc γ β := doS f fun a g => match setAt (get1 g) (k1 g) a.1 with
  | some l => match setAt (get2 (put1 g l)) (k2 (put1 g l)) a.2 with
    | some l2 => .nx (put2 (put1 g l) l2)
    | none => .bad
  | none => .bad
section
variable {X : Cx} {γ α β : Type} [Enc α] {C : FC γ β} {xj : XJ γ} {Ve : Ev γ} {p : Bool} {e o1 o2 i1 i2 : Expr} {pos : Pos}
theorem q_pkPar {get1 get2 : γ → List α} {put1 put2 : γ → List α → γ} {k1 k2 : γ → Int} {f : Ac γ (α × α)} {g : γ} {N : γ → Prop} {R : β → γ → Prop} {X : Str → γ → Prop} : (pkParS (β := β) get1 put1 get2 put2 k1 k2 f g).post N R X ↔ (f g).post (fun a g1 => opt (setAt (get1 g1) (k1 g1) a.1) fun l => opt (setAt (get2 (put1 g1 l)) (k2 (put1 g1 l)) a.2) fun l2 => N (put2 (put1 g1 l) l2)) X := by
  unfold pkParS
  rw [q_do]
  refine iff_of_eq (congrArg (fun z => (f g).post z X) (funext fun a => funext fun g1 => ?_))
  cases setAt (get1 g1) (k1 g1) a.1 with
  | none => rfl
  | some l =>
    show SRes.post (match setAt (get2 (put1 g1 l)) (k2 (put1 g1 l)) a.2 with | some l2 => _ | none => _) _ _ _ = opt (setAt (get2 (put1 g1 l)) (k2 (put1 g1 l)) a.2) _
    cases setAt (get2 (put1 g1 l)) (k2 (put1 g1 l)) a.2 <;> rfl
theorem c_pkPar {f : Ac γ (α × α)} (j1 j2 : Nat) (get1 : γ → List α) (put1 : γ → List α → γ) (get2 : γ → List α) (put2 : γ → List α → γ) (k1 k2 : γ → Int) {sp1 sp2 pt : Pos} {kt : _} (hx : XOk xj Ve) (hc : X.calm = true) (he : SE X Ve .fr p e f)
    (ho1 : SE X Ve (.bo j1) true o1 (pureA get1)) (hi1 : SE X Ve .fr true i1 (pureA k1)) (ho2 : SE X Ve (.bo j2) true o2 (pureA get2)) (hi2 : SE X Ve .fr true i2 (pureA k2))
    (h1 : Ve[j1]? = some (.own fun g => (get1 g).map enc) := by rfl) (h2 : Ve[j2]? = some (.own fun g => (get2 g).map enc) := by rfl)
    (hp1 : ∀ g l, at_ Ve (put1 g l) = (at_ Ve g).set j1 (.own (l.map enc)) := by exact fun _ _ => rfl) (hp2 : ∀ g l, at_ Ve (put2 g l) = (at_ Ve g).set j2 (.own (l.map enc)) := by exact fun _ _ => rfl)
    (ha1 : ∀ v, assign (.Subscript o1 i1 sp1) X.env v = (do
      let ov ← holding [v] (eval o1 X.env)
      let iv ← holding [v, ov] (eval i1 X.env)
      standAt sp1
      holding [v, ov, iv] (setItem ov iv v)
      release [v, ov, iv] []) := by intro _; rfl)
    (ha2 : ∀ v, assign (.Subscript o2 i2 sp2) X.env v = (do
      let ov ← holding [v] (eval o2 X.env)
      let iv ← holding [v, ov] (eval i2 X.env)
      standAt sp2
      holding [v, ov, iv] (setItem ov iv v)
      release [v, ov, iv] []) := by intro _; rfl)
    (hb1 : (assignEach [.Subscript o1 i1 sp1, .Subscript o2 i2 sp2] X.env).map (·.2) = assign (.Subscript o1 i1 sp1) X.env :: (assignEach [.Subscript o2 i2 sp2] X.env).map (·.2) := by rfl)
    (hb2 : (assignEach [.Subscript o2 i2 sp2] X.env).map (·.2) = assign (.Subscript o2 i2 sp2) X.env :: (assignEach [] X.env).map (·.2) := by rfl)
    (hn : (assignEach [.Subscript o1 i1 sp1, .Subscript o2 i2 sp2] X.env).length = 2 := by rfl) (hst : (assignEach [.Subscript o1 i1 sp1, .Subscript o2 i2 sp2] X.env).findIdx? (·.1) = none := by rfl)
    (hs : swapsWithSole [.Tuple [.Subscript o1 i1 sp1, .Subscript o2 i2 sp2] kt pt] e pos.line X.env = pure false := by rfl) (hw : swappedStores [.Tuple [.Subscript o1 i1 sp1, .Subscript o2 i2 sp2] kt pt] e X.env = pure none := by rfl)
    (hq : (assignEach [.Tuple [.Subscript o1 i1 sp1, .Subscript o2 i2 sp2] kt pt] X.env).map (·.2) = [assign (.Tuple [.Subscript o1 i1 sp1, .Subscript o2 i2 sp2] kt pt) X.env] := by rfl) :
    SS X C xj Ve Ve (.Assign [.Tuple [.Subscript o1 i1 sp1, .Subscript o2 i2 sp2] kt pt] e pos) (pkParS get1 put1 get2 put2 k1 k2 f) := ⟨fun Z W hK hio tk => by
  refine (ps_asg (he.run Z W hK tk) (pg_tup hc (pgs_cons (pg_sub (ho1.run Z W hK tk) (hi1.run Z W hK tk) set_list ha1) (pgs_cons (pg_sub (ho2.run Z W hK tk) (hi2.run Z W hK tk) set_list ha2) pgs_nil hb2) hb1) hn hst) hs hw hq).weak fun D σ H q => ?_
  obtain ⟨g0, A0, j0, q0⟩ := q
  refine ⟨g0, A0, j0, ?_⟩
  unfold pkParS doS at q0
  cases ef : f g0 with
  | bad => simp only [ef] at q0
  | exc x g1 =>
    simp only [ef] at q0
    exact fun c H' mc j' gr => q0 c A0 σ H' mc (hx _ _ _ _ _ j')
  | ok a g1 =>
    simp only [ef] at q0
    intro v H1 j1' gr sm rv
    have rv' : Rp Z.K (GH Z (OwV A0 Ve) H1) v (.tuple [enc a.1, enc a.2]) := rv
    obtain ⟨t, vs, rfl, e2, e3⟩ := rp_tuple rv'
    obtain ⟨v1, v2, rfl, r1, r2⟩ : ∃ v1 v2, vs = [v1, v2] ∧ Rp Z.K (GH Z (OwV A0 Ve) H1) v1 (enc a.1) ∧ Rp Z.K (GH Z (OwV A0 Ve) H1) v2 (enc a.2) := by
      cases e3 with
      | cons r1 t1 =>
        cases t1 with
        | cons r2 t2 =>
          cases t2
          exact ⟨_, _, rfl, r1, r2⟩
    refine ⟨t, [v1, v2], rfl, hK ▸ sqT_same gh_le e2, rfl, _, _, rfl, g1, A0, j1', ?_⟩
    show ∀ v H', _ → _ → _ → _ → _
    intro w H2 j2' gr2 sm2 rw2
    have eH2 := sm2 rfl
    refine ⟨g1, A0, j2', ?_⟩
    show ∀ v H', _ → _ → _ → _ → _
    intro w2 H3 j3' gr3 sm3 rw3
    cases rp_int rw3.full
    obtain ⟨rfl, _⟩ := rw2
    have hr1 : (at_ Ve g1)[j1]? = some (.own ((get1 g1).map enc)) := by rw [at_get, h1]; rfl
    obtain ⟨_, us, e4, e5⟩ := j3'.own j1 _ hr1
    rw [ow_at] at e5
    have el := e5.length
    rw [List.length_map] at el
    have g13 : Same (GH Z (OwV A0 Ve) H1) (GH Z (OwV A0 Ve) H3) := gr2.gh.trans gr3.gh
    unfold setAt at q0
    cases en : ixN (get1 g1).length (k1 g1) with
    | none => simp only [en, Option.map_none] at q0
    | some n1 =>
      simp only [en, Option.map_some] at q0
      obtain ⟨j4, st4⟩ := j_chg (vs := us.set n1 v1) (l := (get1 g1).set n1 a.1) j3' h1 hp1 (by rw [List.map_set]; exact e5.set n1 (Rp.mono g13 _ r1))
      refine ⟨A0 j1, us, _, n1, rfl, rfl, e4, by rw [el]; exact en, _, _, rfl, _, A0, j4, ?_⟩
      generalize put1 g1 ((get1 g1).set n1 a.1) = g2 at *
      show ∀ v H', _ → _ → _ → _ → _
      intro w4 H5 j5 gr5 sm5 rw5
      refine ⟨g2, A0, j5, ?_⟩
      show ∀ v H', _ → _ → _ → _ → _
      intro w6 H6 j6 gr6 sm6 rw6
      cases rp_int rw6.full
      obtain ⟨rfl, _⟩ := rw5
      have hr2 : (at_ Ve g2)[j2]? = some (.own ((get2 g2).map enc)) := by rw [at_get, h2]; rfl
      obtain ⟨_, us2, e6, e7⟩ := j6.own j2 _ hr2
      rw [ow_at] at e7
      have el2 := e7.length
      rw [List.length_map] at el2
      have g36 : Same (GH Z (OwV A0 Ve) H3) (GH Z (OwV A0 Ve) H6) := (stt_gh st4).trans (gr5.gh.trans gr6.gh)
      cases en2 : ixN (get2 g2).length (k2 g2) with
      | none => simp only [en2, Option.map_none] at q0
      | some n2 =>
        simp only [en2, Option.map_some] at q0
        obtain ⟨j7, st7⟩ := j_chg (vs := us2.set n2 v2) (l := (get2 g2).set n2 a.2) j6 h2 hp2 (by rw [List.map_set]; exact e7.set n2 (Rp.mono (g13.trans g36) _ r2))
        refine ⟨A0 j2, us2, _, n2, rfl, rfl, e6, by rw [el2]; exact en2, rfl, ?_⟩
        exact q0 A0 σ _ j7 ((((gr.trans gr2).trans gr3).stt.trans st4).trans ((gr5.trans gr6).stt.trans st7))⟩
end

/-! ### tuples of whole numbers by order -/
def ltTQ {α : Type} [Enc α] [IT α] (a b : α) : Option Bool := some (HT.lexLt (IT.key a) (IT.key b))
section
variable {X : Cx} {γ α : Type} [Enc α] [IT α] {Ve : Ev γ} {m1 m2 : Md} {p1 p2 : Bool} {a b : Expr} {pos : Pos} {f h : Ac γ α}
theorem kLtT {Z : Fix} (h1 : noBo m1 = true) (h2 : noBo m2 = true) : OpK Z (rLtT Z.K) m1 m2 .fr (ltTQ (α := α)) Ve := fun A g σ H x y a b c Q j rx ry e q => by
  obtain rfl := some_inj' e
  have key : ∀ {m : Md} {v : L2.V} {z : α}, noBo m = true → Rm Z A Ve H m v (enc z) → ∃ t, v = .ref t ∧ SqT Z.K H t ((IT.key z).map V.int) := fun {m v z} hm r => by
    have r' := rm_frB hm r
    rw [IT.encI] at r'
    obtain ⟨t, vs, e, k1, k2⟩ := rp_tuple r'
    have : vs = (IT.key z).map V.int := rpA_ints k2
    rw [this] at k1
    exact ⟨t, e, sqT_same hp_le k1⟩
  obtain ⟨t, rfl, e1⟩ := key h1 rx
  obtain ⟨u, rfl, e2⟩ := key h2 ry
  exact ⟨t, u, _, _, rfl, rfl, e1, e2, q _ H (Same.refl H) j (.bl _)⟩
theorem s_ltT (hu : X.A.units < cLine) (ha : SE X Ve m1 p1 a f) (hb : SE X Ve m2 p2 b h) (hm : okM m1 p2 = true := by rfl) (h1 : noBo m1 = true := by rfl) (h2 : noBo m2 = true := by rfl) : SE X Ve .fr (p1 && p2) (.Compare a [.Lt] [b] pos) (op2 ltTQ f h) :=
  s_cmp (r := fun K => rLtT K) (op_ltT hu) (fun Z hK => hK ▸ kLtT h1 h2) ha hb hm (nomark _)
theorem t_ltT (hu : X.A.units < cLine) (ha : SE X Ve m1 p1 a f) (hb : SE X Ve m2 p2 b h) (hm : okM m1 p2 = true := by rfl) (h1 : noBo m1 = true := by rfl) (h2 : noBo m2 = true := by rfl) : ST X Ve (p1 && p2) (.Compare a [.Lt] [b] pos) (op2 ltTQ f h) :=
  t_cmp (r := fun K => rLtT K) (op_ltT hu) (fun Z hK => hK ▸ kLtT h1 h2) ha hb hm (nomark _)
theorem o_ltT2 {a b : Int × Int} {Q : Bool → Prop} : opt (ltTQ a b) Q ↔ Q (decide (a.1 < b.1 ∨ (a.1 = b.1 ∧ a.2 < b.2))) := by
  have : HT.lexLt (IT.key a) (IT.key b) = decide (a.1 < b.1 ∨ (a.1 = b.1 ∧ a.2 < b.2)) := by
    show HT.lexLt [a.1, a.2] [b.1, b.2] = _
    simp only [HT.lexLt]
    by_cases h1 : a.1 = b.1
    · simp only [h1, if_true]
      by_cases h2 : a.2 = b.2
      · simp [h2]
      · simp [h2]
    · simp [h1]
  show Q _ ↔ _
  rw [this]
end

/-! ### one list of a pack handed on; a pack compared -/
section
variable {X : Cx} {γ α τ : Type} [Enc α] {Ve : Ev γ} {ks : List AK} {p : Bool} {e : Expr} {es : List Expr} {m : Md} {b : Expr} {pos : Pos}
theorem a_slotB {el : τ → List D} {h : Ac γ τ} (i : Nat) (get : γ → List α) (he : SE X Ve (.bo i) true e (pureA get)) (hr : SA X Ve ks p es el h)
    (hs : starEach (e :: es) X.env = (false, eval e X.env) :: starEach es X.env := by rfl) :
    SA X Ve (.slot i :: ks) p (e :: es) (fun t => .none :: el t) h := ⟨fun Z W hK tk => (pa_cons (he.run Z W hK tk) (hr.run Z W hK tk) hs).weak fun σ H Q q => by
  obtain ⟨g, A, j, q⟩ := q
  refine ⟨g, A, j, ?_⟩
  show ∀ v H', _ → _ → _ → _ → _
  intro v H1 j1 gr sm rv
  have sm1 := sm rfl
  refine ⟨g, A, j1, ?_⟩
  cases eh : h g with
  | bad => simp only [eh] at q
  | exc x g2 =>
    simp only [eh] at q
    exact fun c H2 mc j2 gr2 => q c H2 mc j2 (gr.trans gr2)
  | ok t g2 =>
    simp only [eh] at q
    intro vs H2 j2 gr2 sm2 rvs
    exact q (v :: vs) H2 j2 (gr.trans gr2) (fun z => sm1.trans (sm2 z)) ⟨rv.1, rvs⟩⟩
variable [DecidableEq α] [EqE α]
theorem t_nePk {h : Ac γ (List (List α))} (i j1 j2 : Nat) (get1 get2 : γ → List α) {n : Str} {p0 : Pos} (hu : X.A.units + 64 < cLine) (hb : SE X Ve m true b h)
    (hi : Ve[i]? = some (.pk (.lst [j1, j2])) := by rfl) (h1 : Ve[j1]? = some (.own fun g => (get1 g).map enc) := by rfl) (h2 : Ve[j2]? = some (.own fun g => (get2 g).map enc) := by rfl)
    (hN : X.N[i]? = some n := by rfl) (hv : Vis X.env.scope n := by first | exact Or.inl rfl | exact Or.inr (Or.inl rfl) | exact Or.inr (Or.inr rfl)) (hd : (n == ("__debug__" : Str)) = false := by decide) (hcd : (n == ("__classdict__" : Str)) = false := by decide)
    (he : EqE.dep (List (List α)) ≤ 64 := by decide) : ST X Ve true (.Compare (.Name n p0) [.NotEq] [b] pos) (op2 neQ (pureA fun g => [get1 g, get2 g]) h) :=
  ⟨fun Z W hK tk => (pt_cmpR (op_neD hu) (pe_var hN hv hd hcd) (hb.run Z W hK tk) (nomark _)).weak fun σ H Q q => by
    obtain ⟨g, A, j, q⟩ := q
    have hr : (at_ Ve g)[i]? = some (.pk (.lst [j1, j2])) := by rw [at_get, hi]; rfl
    obtain ⟨a, e1, e2⟩ := j.pk i _ hr
    have hr1 : (at_ Ve g)[j1]? = some (.own ((get1 g).map enc)) := by rw [at_get, h1]; rfl
    have hr2 : (at_ Ve g)[j2]? = some (.own ((get2 g).map enc)) := by rw [at_get, h2]; rfl
    obtain ⟨_, vs1, a1, b1⟩ := j.own j1 _ hr1
    obtain ⟨_, vs2, a2, b2⟩ := j.own j2 _ hr2
    have rx : Rp Z.K H (.ref a) (enc [get1 g, get2 g]) := .lst (gh_le _ _ e2) (.cons (.lst a1 (RpA.mono gh_le _ b1)) (.cons (.lst a2 (RpA.mono gh_le _ b2)) .nil))
    refine ⟨_, e1, g, A, j, ?_⟩
    unfold op2 bindA pureA at q
    simp only at q
    cases ef : h g with
    | bad => simp only [ef] at q
    | exc x g1 => simp only [ef] at q; exact q
    | ok c g1 =>
      simp only [ef, optA, neQ] at q
      have q : ∀ H', J Z A (at_ Ve g1) σ H' → Gr (OwV A Ve) H H' → (True → Same H H') → Q (!decide ([get1 g, get2 g] = c)) H' := q
      intro v H1 j1' gr sm rv
      rw [← hK]
      exact ⟨_, _, (Rp.mono (sm rfl) _ rx).dp _ (EqE.lay _), rv.full.dp _ (EqE.lay _), shaped_enc he _, shaped_enc he _, by rw [EqE.eqv]; exact ⟨_, rfl, q H1 j1' gr fun _ => sm rfl⟩⟩⟩
end
end HL
/-! Gf: things of any kind: {}, list(..), tuple(..), parts; statements that are not reached; a def that calls itself, so deep; calls that hand back what they were handed of what was made since. -/
namespace HL
open PySem PySem.Spec PyProof.Rows L2

/-! ### what is not reached -/
section
variable {X : Cx} {γ α β : Type} [Enc α] {C : FC γ β} {xj : XJ γ} {Ve Ve' : Ev γ} {st : Stmt} {e : Expr} {m : Md} {p : Bool}
def badS {γ β : Type} : Sc γ β := fun _ => .bad
def badA {γ α : Type} : Ac γ α := fun _ => .bad
theorem PS_false {X : Cx} {st : Stmt} : PS X st (fun _ _ _ => False) := ⟨fun pins s σ H D I q => q.elim⟩
theorem PE_false {X : Cx} {e : Expr} : PE X e (fun _ _ _ => False) := ⟨fun pins s σ H D I q => q.elim⟩
theorem c_bad : SS X C xj Ve Ve' st badS := ⟨fun Z W hK hio tk => PS_false.weak fun D σ H q => by
  obtain ⟨g, A, j, q⟩ := q
  exact q⟩
theorem PSs_false {X : Cx} {st : List Stmt} : PSs X st (fun _ _ _ => False) := ⟨fun pins s σ H D I q => q.elim⟩
theorem sb_bad {sts : List Stmt} : SB X C xj Ve Ve' sts badS := ⟨fun Z W hK hio tk => PSs_false.weak fun D σ H q => by
  obtain ⟨g, A, j, q⟩ := q
  exact q⟩
theorem s_bad : SE X Ve m p e (badA (α := α)) := ⟨fun Z W hK tk => PE_false.weak fun σ H Q q => by
  obtain ⟨g, A, j, q⟩ := q
  exact q⟩
theorem q_badS {g : γ} {N : γ → Prop} {R : β → γ → Prop} {X : Str → γ → Prop} : (badS (γ := γ) (β := β) g).post N R X ↔ False := Iff.rfl
theorem p_badA {g : γ} {Q : α → γ → Prop} {X : Str → γ → Prop} : (badA (γ := γ) (α := α) g).post Q X ↔ False := Iff.rfl
end

/-- a module's number -/
def CstI (mg : Str → Option Value) (x : Str) (i : Int) : Prop := ∃ u, mg x = some u ∧ RelV (.int i) u
theorem CstI.of {mg : Str → Option Value} {x : Str} {i : Int} (h : ∃ t, mg x = some (.int i t)) : CstI mg x i := by
  obtain ⟨t, h⟩ := h
  exact ⟨_, h, t, rfl⟩
theorem s_cI {X : Cx} {γ : Type} {Ve : Ev γ} {x : Str} {i : Int} {pos : Pos} (c : CstI X.mg x i) (hg : Gl X x := by rfl) (hd : (x == ("__debug__" : Str)) = false := by decide) : SE X Ve .fr true (.Name x pos) (pureA fun _ => i) := by
  obtain ⟨u, h1, h2⟩ := c
  exact sg i h1 h2 (fun _ _ => .int _) hg hd
/-! ### {} among things of any kind; casts; list(..), tuple(..) -/
def liD : D → Option (List D)
  | .list ds => some ds
  | _ => none
theorem liD_ok (d : D) (l : List D) (h : liD d = some l) : enc l = enc d := by
  cases d with
  | list ds => cases h; exact congrArg PyData.list (List.map_id _)
  | none => cases h
  | bool b => cases h
  | int b => cases h
  | str b => cases h
  | tuple b => cases h
  | dict b => cases h
def t3D : D → Option (T3 D D D)
  | .tuple [a, b, c] => some ⟨a, b, c⟩
  | _ => none
theorem t3D_ok (d : D) (l : T3 D D D) (h : t3D d = some l) : enc l = enc d := by
  unfold t3D at h
  split at h
  · cases h; rfl
  · cases h
def toL (l : List D) : Option D := some (.list l)
def toT (l : List D) : Option D := some (.tuple l)
section
variable {X : Cx} {γ : Type} {Ve : Ev γ} {m : Md} {p : Bool} {e : Expr} {pos : Pos}
theorem s_dict0 : SE X Ve .fr true (.Dict [] [] pos) (pureA fun _ => (PyData.dict [] : D)) := ⟨fun Z W hK tk => pe_dnewT.weak fun σ H Q q => by
  obtain ⟨g, A, j, q⟩ := q
  intro v hn
  have q : ∀ v H', J Z A (at_ Ve g) σ H' → Gr (OwV A Ve) H H' → (true = true → Same H H') → Rm Z A Ve H' .fr v (enc (PyData.dict [] : D)) → Q v H' := q
  refine q _ _ (j.new hn) (.of (same_new hn)) (fun _ => same_new hn) ?_
  have hn' := j.ghnew (o := .dT []) hn
  rw [ow_at] at hn'
  exact Rp.dic (ks := []) hn'⟩
theorem s_toL {f : Ac γ (List D)} {p0 : Pos} (hx : X.mg "list" = none) (ha : SE X Ve m p e f) (hm : noBo m = true := by rfl) (hg : Gl X "list" := by rfl)
    (he : starEach (e :: []) X.env = (false, eval e X.env) :: starEach [] X.env := by rfl) (hpl : (backTo pos (starEach [] X.env)).any (·.1) = false := by rfl) : SE X Ve (mdB (frB m)) p (.Call (.Name "list" p0) [e] [] pos) (op1 toL f) :=
  s_t1 (T := "list") (r := fun K xs H Q => ∃ q ys, xs = [.ref q] ∧ (SqL K H q ys ∨ SqT K H q ys) ∧ ∀ l, H l = none → Q (.ref l) (upd H l (.lst ys))) call_list_of (fun Z hK => fun A g σ H x l c Q j rx e q => by
    have r := rm_frB hm rx
    obtain ⟨t, vs, rfl, e2, e3⟩ := rp_list r
    have em : l.map enc = l := List.map_id l
    rw [em] at e3
    have ec := some_inj' e
    refine ⟨t, vs, rfl, .inl (seqL (hp_le _ _ e2)), fun n hn => q _ _ (same_new hn) (j.new hn) (rm_hp ?_)⟩
    rw [ec]
    show Rp Z.K _ _ (PyData.list l)
    refine .lst ?_ (RpA.mono (Gr.of (same_new hn)).hp _ e3)
    have hn' := j.ghnew (o := .lst vs) hn
    rw [ow_at] at hn'
    unfold HL.hp
    cases frB m with
    | true => simpa using hn'
    | false => simpa using gh_fh _ _ hn') hx ha (by decide +kernel) hg (by decide) (by decide) he hpl
theorem s_toT {f : Ac γ (List D)} {p0 : Pos} (hx : X.mg "tuple" = none) (ha : SE X Ve m p e f) (hm : noBo m = true := by rfl) (hg : Gl X "tuple" := by rfl)
    (he : starEach (e :: []) X.env = (false, eval e X.env) :: starEach [] X.env := by rfl) (hpl : (backTo pos (starEach [] X.env)).any (·.1) = false := by rfl) : SE X Ve (mdB (frB m)) p (.Call (.Name "tuple" p0) [e] [] pos) (op1 toT f) :=
  s_t1 (T := "tuple") (r := fun K xs H Q => ∃ p ys, xs = [.ref p] ∧ ((SqL K H p ys ∧ ∀ l, H l = none → Q (.ref l) (upd H l (.tup ys))) ∨ (SqT K H p ys ∧ Q (.ref p) H))) call_tuple_of (fun Z hK => fun A g σ H x l c Q j rx e q => by
    have r := rm_frB hm rx
    obtain ⟨t, vs, rfl, e2, e3⟩ := rp_list r
    have em : l.map enc = l := List.map_id l
    rw [em] at e3
    have ec := some_inj' e
    refine ⟨t, vs, rfl, .inl ⟨seqL (hp_le _ _ e2), fun n hn => q _ _ (same_new hn) (j.new hn) (rm_hp ?_)⟩⟩
    rw [ec]
    show Rp Z.K _ _ (PyData.tuple l)
    refine .tup ?_ (RpA.mono (Gr.of (same_new hn)).hp _ e3)
    have hn' := j.ghnew (o := .tup vs) hn
    rw [ow_at] at hn'
    unfold HL.hp
    cases frB m with
    | true => simpa using hn'
    | false => simpa using gh_fh _ _ hn') hx ha (by decide +kernel) hg (by decide) (by decide) he hpl
theorem o_toL {l : List D} {Q : D → Prop} : opt (toL l) Q ↔ Q (.list l) := Iff.rfl
theorem o_toT {l : List D} {Q : D → Prop} : opt (toT l) Q ↔ Q (.tuple l) := Iff.rfl
theorem o_upD {α : Type} [Enc α] {a : α} {Q : D → Prop} : opt (upD a) Q ↔ Q (enc a) := Iff.rfl
end
section
variable {X : Cx} {γ τ : Type} [Enc τ] {Ve : Ev γ} {m : Md} {p : Bool} {e : Expr} {pos : Pos}
theorem s_slTA {δ : Type} [Enc δ] {a : Expr} {lo hi : Option Expr} {pos2 : Pos} {f : Ac γ τ} {l h : Ac γ (Option Int)} (pr : τ → δ) (ha : SE X Ve .an p a f) (hl : SO X Ve true lo l) (hh : SO X Ve true hi h)
    (hk : ∃ lo' hi', (∀ g, l g = .ok lo' g) ∧ (∀ g, h g = .ok hi' g) ∧ ∀ x, ∃ ds, enc x = .tuple ds ∧ decide (HT.sIx ds.length 0 lo' = 0 ∧ HT.sIx ds.length ds.length hi' = ds.length) = false ∧ enc (pr x) = .tuple (cut lo' hi' ds) := by exact ⟨_, _, fun _ => rfl, fun _ => rfl, fun _ => ⟨_, rfl, rfl, rfl⟩⟩) :
    SE X Ve .an p (.Subscript a (.Slice lo hi none pos2) pos) (op1 (fun x => some (pr x)) f) := ⟨fun Z W hK tk => (pe_slice sl_tup (ha.run Z W hK tk) (hl.run Z W hK tk) (hh.run Z W hK tk)).weak fun σ H Q q => by
  obtain ⟨lo', hi', k1, k2, k3⟩ := hk
  obtain ⟨g, A, j, q⟩ := q
  refine ⟨g, A, j, ?_⟩
  unfold op1 bindA at q
  cases ef : f g with
  | bad => rw [ef] at q; exact q
  | exc x g1 => rw [ef] at q; exact q
  | ok x g1 =>
    simp only [ef] at q
    intro v H1 j1 gr1 sm1 rv
    refine ⟨g1, A, j1, ?_⟩
    rw [k1 g1]
    intro H2 j2 gr2 sm2
    refine ⟨g1, A, j2, ?_⟩
    rw [k2 g1]
    intro H3 j3 gr3 sm3
    obtain ⟨ds, e1, e2, e3⟩ := k3 x
    have r3 : Rp Z.K (FH Z (OwV A Ve) H3) v (enc x) := Rp.mono (gr2.trans gr3).fh _ rv
    rw [e1] at r3
    obtain ⟨t, vs, rfl, s1, s2⟩ := rp_tuple r3
    refine ⟨t, vs, rfl, hK ▸ sqT_same fh_le s1, by rw [s2.length]; exact of_decide_eq_false e2, fun n hn => q (.ref n) _ (j3.new hn) (((gr1.trans gr2).trans gr3).trans (.of (same_new hn))) (fun z => (((sm1 z).trans (sm2 rfl)).trans (sm3 rfl)).trans (same_new hn)) ?_⟩
    show Rp Z.K _ _ (enc (pr x))
    rw [e3]
    have hn' := j3.ghnew (o := .tup (cutV vs lo' hi')) hn
    rw [ow_at] at hn'
    exact .tup (gh_fh _ _ hn') (RpA.mono (Gr.of (same_new hn)).fh _ (rpA_cut s2))⟩
end

/-! ### calls whose answer may hold what was handed in, all of it made since -/
def frK : List AK → Bool
  | [] => true
  | .val .fr :: ks => frK ks
  | .slot _ :: ks => frK ks
  | _ => false
def GS {γ : Type} (Z : Fix) (A : Nat → Addr) (Ve : Ev γ) (x : Addr) : Prop := Z.S x ∨ OwV A Ve x ∨ Mut (Z.H0 x)
section
variable {γ : Type} {Z : Fix} {A : Nat → Addr} {Ve : Ev γ} {g : γ} {σ : L2.St} {H : Hp}
theorem args_parF (j : J Z A (at_ Ve g) σ H) : ∀ {ks : List AK} {vs : List L2.V} {ds : List D} {ps : List Par}, frK ks = true → RmA Z A Ve H ks vs ds → ArgsOk Ve g [] ks ds ps → ParOk Z.K (GS Z A Ve) H vs ps
  | [], [], [], [], _, _, _ => trivial
  | .val .fr :: ks, v :: vs, d :: ds, .imm fr d' :: ps, hk, r, a => by
    obtain ⟨⟨rfl, a2⟩, a3⟩ := a
    exact ⟨⟨r.1, a2⟩, args_parF j (ks := ks) hk r.2 a3⟩
  | .slot i :: ks, v :: vs, d :: ds, .imm fr d' :: ps, hk, r, a => by
    obtain ⟨⟨_, hb, _⟩, a3⟩ := a
    simp at hb
  | .slot i :: ks, v :: vs, d :: ds, .ino es :: ps, hk, r, a => by
    obtain ⟨⟨⟨hb, hfl⟩, f, hf, rfl⟩, a3⟩ := a
    obtain ⟨rfl, r2⟩ := r
    have hr : (at_ Ve g)[i]? = some (.own (.ls (f g))) := by rw [at_get, hf]; rfl
    obtain ⟨_, us, e2, e3⟩ := j.own i _ hr
    exact ⟨⟨A i, us, rfl, e2, .inr (.inl ⟨i, _, hf, rfl⟩), rpA_nomut hfl (RpA.mono gh_le _ e3)⟩, args_parF j (ks := ks) hk r2 a3⟩
  | .val (.bo _) :: _, _, _, _, hk, _, _ => by cases hk
  | .val .an :: _, _, _, _, hk, _, _ => by cases hk
  | .scr :: _, _, _, _, hk, _, _ => by cases hk
  | .val .fr :: _, _ :: _, _ :: _, .ino _ :: _, _, _, a => by cases a.1
  | .val .fr :: _, _ :: _, _ :: _, .scr _ :: _, _, _, a => by cases a.1
  | .slot _ :: _, _ :: _, _ :: _, .scr _ :: _, _, _, a => by cases a.1
  | [], _, _ :: _, _, _, _, a => by cases a
  | [], _, [], _ :: _, _, _, a => by cases a
  | .val .fr :: _, _, [], _, _, _, a => by cases a
  | .slot _ :: _, _, [], _, _, _, a => by cases a
  | .val .fr :: _, _, _ :: _, [], _, _, a => by cases a
  | .slot _ :: _, _, _ :: _, [], _, _, a => by cases a
  | [], _ :: _, [], _, _, r, _ => by cases r
  | .val .fr :: _, [], _ :: _, _ :: _, _, r, _ => by cases r
  | .slot _ :: _, [], _ :: _, _ :: _, _, r, _ => by cases r
end
section
variable {X : Cx} {γ τ α β ι : Type} [Enc β] {Ve : Ev γ} {ks : List AK} {p : Bool} {e : Expr} {es : List Expr} {k : Nat} {f : Addr} {fd : FuncData} {ps : List Str} {pa : α → List Par} {pio : ι → List (Nat × List D)} {F : α → FRes β ι}
/-- a call that changes a list of the asker's, the one in slot i -/
theorem s_callIoF {x : Str} {el : τ → List D} {fA : Ac γ τ} {p0 pos : Pos} (args : γ → τ → α) (put : γ → ι → γ) (i pi : Nat) (cont : ι → List D) (FO : FnOk X.prog X.w X.K X.mg X.base (L2.CX X.prog X.w) k f fd ps (spOf X.K X.mg .an pa enc pio F)) (hr : Room k X.A) (hmg : X.mg x = some (.ref f)) (hk : PySem.W.keepIn X.K (.ref f) = true) (hb : Binds X.K fd ps [])
    (ha : SA X Ve ks p (e :: es) el fA) (hfr : frK ks = true) (hargs : ∀ g t, ArgsOk Ve g [] ks (el t) (pa (args g t))) (hio : ∀ a, inoIx 0 (pa a) = [pi]) (hpi : ks[pi]? = some (.slot i) := by rfl) (hown : ∃ f, Ve[i]? = some (.own f) := by exact ⟨_, rfl⟩) (hpio : ∀ y, pio y = [(pi, cont y)] := by exact fun _ => rfl) (hput : ∀ g y, at_ Ve (put g y) = (at_ Ve g).set i (.own (cont y)) := by exact fun _ _ => rfl)
    (hg : Gl X x := by rfl) (hdb : (x == ("__debug__" : Str)) = false := by decide) (he : starEach (e :: es) X.env = (false, eval e X.env) :: starEach es X.env := by rfl) (hpl : (backTo pos (starEach es X.env)).any (·.1) = false := by rfl) :
    SE X Ve .fr false (.Call (.Name x p0) (e :: es) [] pos) (callIo args put F fA) := ⟨fun Z W hK tk => (pe_callS (E := fun _ _ _ _ => False) FO hr hg hmg hk hb (fun σ pins H s e s' I c => absurd c fun z => by
    obtain ⟨_, _, _, _, _, _, _, _, _, _, _, _, z⟩ := z
    exact z) (ha.run Z W hK tk) hdb he hpl).weak fun σ H Q q => by
  obtain ⟨g, A, j, q⟩ := q
  refine ⟨g, A, j, ?_⟩
  unfold callIo bindA at q
  cases ef : fA g with
  | bad => simp only [ef] at q
  | exc x g1 => simp only [ef] at q; exact q
  | ok t g1 =>
    simp only [ef] at q
    intro vs H1 j1 gr1 sm1 rvs
    have par := args_parF j1 hfr rvs (hargs g1 t)
    rw [hK] at par
    have ix := ioL_ix (k := 0) par
    rw [hio] at ix
    -- the argument at the place pi is the list in slot i
    have at_pi : ∀ {ks : List AK} {vs : List L2.V} {ds : List D} {n : Nat}, RmA Z A Ve H1 ks vs ds → ks[n]? = some (.slot i) → vs[n]? = some (.ref (A i)) := by
      intro ks
      induction ks with
      | nil => intro vs ds n r h; simp at h
      | cons a ks ih =>
        intro vs ds n r h
        cases vs with
        | nil => cases a <;> cases ds <;> exact r.elim
        | cons v vs =>
          cases ds with
          | nil => cases a <;> exact r.elim
          | cons d ds =>
            cases n with
            | zero =>
              simp at h
              subst h
              rw [r.1]
              rfl
            | succ n =>
              have r2 : RmA Z A Ve H1 ks vs ds := by
                cases a with
                | val m => exact r.2
                | slot k => exact r.2
                | scr => exact r.2
              have := ih r2 (n := n) (by simpa using h)
              simpa using this
    have hv := at_pi rvs hpi
    obtain ⟨q0, hq⟩ : ∃ q0, ioL 0 vs (pa (args g1 t)) = [(pi, q0)] := by
      cases e : ioL 0 vs (pa (args g1 t)) with
      | nil => rw [e] at ix; cases ix
      | cons y l =>
        rw [e] at ix
        simp at ix
        obtain ⟨rfl, rfl⟩ := ix
        exact ⟨y.2, rfl⟩
    have hq0 : q0 = A i := by
      have : (pi, q0) ∈ ioL 0 vs (pa (args g1 t)) := by rw [hq]; exact List.mem_cons_self
      obtain ⟨_, h2, _⟩ := (ioL_get par).mp this
      rw [show pi - 0 = pi from rfl, hv] at h2
      exact (V.ref.inj (Option.some.inj h2)).symm
    subst hq0
    refine ⟨args g1 t, GS Z A Ve, fun x h => mut0 j1 h, par, by
      rw [hq]
      intro i j a h1 h2
      simp at h1 h2
      rw [h1.1, h2.1], ?_⟩
    rw [hq]
    cases eF : F (args g1 t) with
    | bad => simp only [eF] at q
    | exc x' => simp only [eF] at q
    | ok b y =>
      simp only [eF] at q
      refine fun v H2 co => ?_
      obtain ⟨fo, hfo⟩ := hown
      have hr' : (at_ Ve g1)[i]? = some (.own (fo g1)) := by rw [at_get, hfo]; rfl
      obtain ⟨us0, e0, mu0⟩ := (j1.own i _ hr').2.is
      obtain ⟨us, e1, e2⟩ := co.ios pi (A i) (cont y) (by exact List.mem_cons_self) (by rw [hpio]; exact List.mem_cons_self)
      -- the heap behind, but for the list
      let H3 : Hp := fun x => if x = A i then H1 x else H2 x
      have sm : Same H1 H3 := fun x o h => by
        show (if x = A i then H1 x else H2 x) = some o
        by_cases ex : x = A i
        · rw [if_pos ex]; exact h
        · rw [if_neg ex]
          exact co.frame x o h fun k z => by
            simp at z
            exact ex z.2
      have j3 := j1.same sm
      have up : upd H3 (A i) (.lst us) = H2 := by
        funext x
        by_cases ex : x = A i
        · rw [ex, upd_same, e1]
        · rw [upd_ne ex]
          show (if x = A i then H1 x else H2 x) = H2 x
          rw [if_neg ex]
      have rc : RpA Z.K (GH Z (Ow A (at_ Ve g1)) H3) us (cont y) := by
        rw [← hK] at e2
        refine RpA.mono (hide_same fun x o n hx => ⟨fun z => n (mut0 j1 (by rw [← ow_at (g := g1)]; exact z)), ?_⟩) _ e2
        have ex : x ≠ A i := fun ex => n (by rw [ex, e0]; exact mu0)
        show (if x = A i then H1 x else H2 x) = some o
        rw [if_neg ex]
        exact hx
      have j4 := j3.chg hr' rc
      rw [up, ← hput] at j4
      have gr : Gr (OwV A Ve) H1 H2 := fun x o n h => co.frame x o h fun k z => by
        simp at z
        exact n ⟨i, fo, hfo, z.2.symm⟩
      have rr := co.ret
      rw [← hK] at rr
      exact q v H2 j4 (gr1.trans gr) (fun z => by cases z) rr⟩
end
section
variable {X : Cx} {γ τ α β ι : Type} {Ve : Ev γ} {ks : List AK} {p : Bool} {e : Expr} {es : List Expr} {bs : List Nat} {k : Nat} {ps : List Str} {rm : RM} {pa : α → List Par} {pio : ι → List (Nat × List D)} {m : Md}
theorem x_callIoF [Enc β] {F : α → FRes β ι} {x : Str} {el : τ → List D} {fA : Ac γ τ} {p0 pos : Pos} (args : γ → τ → α) (put : γ → ι → γ) (i pi : Nat) (cont : ι → List D) (c : Cal X.prog X.w X.K X.mg X.base k x ps (spOf X.K X.mg .an pa enc pio F)) (hr : Room k X.A)
    (ha : SA X Ve ks p (e :: es) el fA) (hargs : ∀ g t, ArgsOk Ve g [] ks (el t) (pa (args g t))) (hfr : frK ks = true := by rfl) (hio : ∀ a, inoIx 0 (pa a) = [pi] := by exact fun _ => rfl) (hpi : ks[pi]? = some (.slot i) := by rfl) (hown : ∃ f, Ve[i]? = some (.own f) := by exact ⟨_, rfl⟩) (hpio : ∀ y, pio y = [(pi, cont y)] := by exact fun _ => rfl) (hput : ∀ g y, at_ Ve (put g y) = (at_ Ve g).set i (.own (cont y)) := by exact fun _ _ => rfl)
    (hg : Gl X x := by rfl) (hdb : (x == ("__debug__" : Str)) = false := by decide) (he : starEach (e :: es) X.env = (false, eval e X.env) :: starEach es X.env := by rfl) (hpl : (backTo pos (starEach es X.env)).any (·.1) = false := by rfl) :
    SE X Ve .fr false (.Call (.Name x p0) (e :: es) [] pos) (callIo args put F fA) := by
  obtain ⟨f, fd, h1, h2, h3, h4⟩ := c.ex
  exact s_callIoF args put i pi cont h1 hr h2 h3 h4 ha hfr hargs hio hpi hown hpio hput hg hdb he hpl
end
end HL
/-! Gg: a suite for exceptions of two classes; a def that is handed the exception and tells a text. -/
namespace HL
open PySem PySem.Spec PyProof.Rows L2
section
variable {X : Cx} {γ δ : Type} {Ve : Ev γ} {pos : Pos} {a : Addr} {oe : Obj} {pn : List (Addr × Obj)}
/-- f(e), e the exception that the suite holds, f a def that tells a truth of it -/
theorem s_exCallS {x qual y n : Str} {st : Stmt} {f : Addr} {fd : FuncData} {N : List Str} {k : Nat} {p0 p1 : Pos} {V0 V1 : Ev δ} {body : Sc δ Str} {b : Str} (i : Nat) (g0 : δ) (F : Fun X.K x qual st f fd) (S : FnScope N [y] (defScope st)) (hr : Room (k + 1) X.A) (hmg : X.mg x = some (.ref f)) (hb : Binds X.K fd [y] [])
    (hbody : ∀ (cdv : Value) (A : Around) (outer : List Env) (s : Shared) (H : Hp), Room k (A.deeper (envOfC qual (defScope st) s.heap.objs.size f cdv)) →
      SB (cxE X.prog X.w X.K X.mg X.base N qual (defScope st) f cdv A outer s H a oe) ⟨.fr, enc, []⟩ (xfr δ) V0 V1 (defBody st) body)
    (hV : at_ V0 g0 = .raw (.ref a) :: List.replicate (N.length - 1) .no) (hrt : ∃ g1, body g0 = .rt b g1)
    (hi : Ve[i]? = some (.raw (.ref a)) := by rfl) (hN : X.N[i]? = some n := by rfl) (hg : Gl X x := by rfl)
    (hv : Vis X.env.scope n := by first | exact Or.inl rfl | exact Or.inr (Or.inl rfl) | exact Or.inr (Or.inr rfl)) (hd : (n == ("__debug__" : Str)) = false := by decide) (hcd : (n == ("__classdict__" : Str)) = false := by decide) (hdb : (x == ("__debug__" : Str)) = false := by decide)
    (he : starEach (.Name n p1 :: []) X.env = (false, eval (.Name n p1) X.env) :: starEach [] X.env := by rfl) (hpl : (backTo pos (starEach [] X.env)).any (·.1) = false := by rfl) :
    SE (X.suite a ((a, oe) :: pn)) Ve .fr true (.Call (.Name x p0) [.Name n p1] [] pos) (pureA fun _ => b) := ⟨fun Z W hK tk => by
  refine ⟨fun pins s σ H Q I q => ?_⟩
  obtain ⟨g, A, j, q⟩ := q
  have hraw : (at_ Ve g)[i]? = some (.raw (.ref a)) := by rw [at_get, hi]; rfl
  refine wpAny_Call_Name_kw (ld_glob (X := X.suite a ((a, oe) :: pn)) I hg hmg ?_ hdb)
  have pa : PA (X.suite a ((a, oe) :: pn)) [.Name n p1] _ := pa_cons (pe_var (X := X.suite a ((a, oe) :: pn)) hN hv hd hcd) pa_nil he
  refine PySem.W.callWith_K (h₀ := X.base) I.ok.mod.kin F.kp (thn (pa.run pos pins s σ H (fun vs H1 => vs = [.ref a] ∧ H1 = H) I ⟨_, j.raw i _ hraw, rfl, rfl⟩) fun us s1 ⟨vs, H1, I1, r, e1, e2⟩ => ⟨I1.kIn, ?_⟩) he hpl
  subst e1 e2
  have hl : us.length = 1 := by rw [← r.length]; rfl
  have b1 := hb s1 us I1.kIn (by rw [List.append_nil]; exact hl)
  rw [List.append_nil] at b1
  have P1 := I1.pin (a, oe) (List.mem_append_left _ List.mem_cons_self)
  have hpin : L2H.PinOk X.stack H1 s1 (a, oe) := ⟨P1.1, P1.2.1, fun hm => (List.mem_cons.mp (I1.stkSub a hm)).elim P1.2.2.1 P1.2.2.2.1, P1.2.2.2.2⟩
  refine wpAny_call (codeAny_mono (run_ex (Q := fun v H' => v = .str b ∧ Same H1 H') F S hr hpin I1.env0 b1 rfl r fun cdv hr' => ?_) fun rr s' hq => ?_)
  · refine ⟨_, (hbody cdv X.A X.stack s1 H1 hr').run ⟨X.K, H1, fun _ => False, []⟩ (fun _ _ _ _ => False) rfl rfl takes0, g0, fun _ => 0, ?_, ?_⟩
    · unfold L2.start
      rw [hV]
      have get : ∀ {i : Nat} {t : Slot}, (Slot.raw (.ref a) :: List.replicate (N.length - 1) Slot.no)[i]? = some t → t ≠ .no → i = 0 ∧ t = .raw (.ref a) := fun {i t} h n => by
        cases i with
        | zero => exact ⟨rfl, (Option.some.inj h).symm⟩
        | succ i =>
          rw [List.getElem?_cons_succ, List.getElem?_replicate] at h
          split at h
          · exact absurd (Option.some.inj h).symm n
          · cases h
      refine ⟨fun i fr d h => ?_, fun i ds h => ?_, fun i ns h => ?_, fun i v h => ?_, fun i t h => ?_, fun i l ds es h1 h2 e => ?_, fun i ds h => ?_, fun _ z => z.elim, fun _ _ h _ => h, fun i ds h => ?_, fun i a h => (by cases h), ?_⟩
      · obtain ⟨_, z⟩ := get h (fun z => by cases z); cases z
      · obtain ⟨_, z⟩ := get h (fun z => by cases z); cases z
      · obtain ⟨_, z⟩ := get h (fun z => by cases z); cases z
      · obtain ⟨rfl, z⟩ := get h (fun z => by cases z)
        cases z
        rfl
      · obtain ⟨_, z⟩ := get h (fun z => by cases z); cases z
      · obtain ⟨_, z⟩ := get h1 (fun z => by cases z); cases z
      · obtain ⟨_, z⟩ := get h (fun z => by cases z); cases z
      · obtain ⟨_, z⟩ := get h (fun z => by cases z); cases z
      · simp
    · obtain ⟨g1, e⟩ := hrt
      rw [e]
      intro v H' ro
      refine ⟨?_, fun x o h => ro.frame x o h fun _ z => by cases z⟩
      have rr : Rp _ _ v (.str b) := ro.ret
      cases rr
      rfl
  · cases rr with
    | error e => exact hq.elim
    | ok fl =>
      cases fl with
      | ret u =>
        obtain ⟨v, H', I2, rv, rfl, sm⟩ := I1.after hq
        exact ⟨_, H', I2, rv, q _ H' (j.same sm) (.of sm) (fun _ => sm) (.str b)⟩
      | next => exact False.elim hq
      | brk => exact False.elim hq
      | cont => exact False.elim hq⟩
end
/-- a def that may be called so, of an exception of the class cls: b -/
structure ExCalS (P : Program) (w : World) (K : PySem.W.Frag) (mg : Str → Option Value) (base : Heap) (k : Nat) (x cls : Str) (b : Str) : Prop where
  ex : ∃ (qual y : Str) (st : Stmt) (f : Addr) (fd : FuncData) (N : List Str) (j : Nat) (δ : Type) (V0 V1 : Addr → Ev δ) (body : Sc δ Str) (g0 : δ), k = j + 1 ∧ Fun K x qual st f fd ∧ FnScope N [y] (defScope st) ∧ mg x = some (.ref f) ∧ Binds K fd [y] [] ∧
    (∀ (a : Addr) (oe : Obj) (cdv : Value) (A : Around) (outer : List Env) (s : Shared) (H : Hp), Room j (A.deeper (envOfC qual (defScope st) s.heap.objs.size f cdv)) → ExA (cxOf CXF P w K mg base N qual (defScope st) f cdv A outer s H (fun _ _ _ => False)) cls a oe →
      SB (cxE P w K mg base N qual (defScope st) f cdv A outer s H a oe) ⟨.fr, enc, []⟩ (xfr δ) (V0 a) (V1 a) (defBody st) body) ∧ (∀ a, at_ (V0 a) g0 = .raw (.ref a) :: List.replicate (N.length - 1) .no) ∧ ∃ g1, body g0 = .rt b g1
section
variable {X : Cx} {γ : Type} {Ve : Ev γ} {pos : Pos} {a : Addr} {oe : Obj} {pn : List (Addr × Obj)}
theorem x_exCallS {x cls n : Str} {k : Nat} {p0 p1 : Pos} {b : Str} (i : Nat) (hE : ExA X cls a oe) (c : ExCalS X.prog X.w X.K X.mg X.base k x cls b) (hr : Room k X.A)
    (hi : Ve[i]? = some (.raw (.ref a)) := by rfl) (hN : X.N[i]? = some n := by rfl) (hg : Gl X x := by rfl)
    (hv : Vis X.env.scope n := by first | exact Or.inl rfl | exact Or.inr (Or.inl rfl) | exact Or.inr (Or.inr rfl)) (hd : (n == ("__debug__" : Str)) = false := by decide) (hcd : (n == ("__classdict__" : Str)) = false := by decide) (hdb : (x == ("__debug__" : Str)) = false := by decide)
    (he : starEach (.Name n p1 :: []) X.env = (false, eval (.Name n p1) X.env) :: starEach [] X.env := by rfl) (hpl : (backTo pos (starEach [] X.env)).any (·.1) = false := by rfl) :
    SE (X.suite a ((a, oe) :: pn)) Ve .fr true (.Call (.Name x p0) [.Name n p1] [] pos) (pureA fun _ => b) := by
  obtain ⟨qual, y, st, f, fd, N, j, δ, V0, V1, body, g0, rfl, F, S, hmg, hb, hbody, hV, hrt⟩ := c.ex
  exact s_exCallS i g0 F S hr hmg hb (fun cdv A outer s H hr' => hbody a oe cdv A outer s H hr' ⟨hE.ex, hE.fl⟩) (hV a) hrt hi hN hg hv hd hcd hdb he hpl
end

/-! ### two classes -/
theorem ct2_one {K : PySem.W.Frag} {mg : Str → Option Value} {x1 x2 y : Str} (c1 : XCat K mg x1 y) (c2 : XCat K mg x2 y) : ∀ (z : Str) (b : Bool) (v : Value), (if z = x1 then some true else if z = x2 then some true else none) = some b → mg z = some v → PySem.W.exmOne K v (.ref (He.ga K y)) = some b := fun z b v h m => by
  by_cases e : z = x1
  · exact ct_one c1 z b v (by rw [if_pos e] at h ⊢; exact h) m
  · rw [if_neg e] at h
    exact ct_one c2 z b v h m
theorem ct2_ref {K : PySem.W.Frag} {mg : Str → Option Value} {x1 x2 y : Str} (c1 : XCat K mg x1 y) (c2 : XCat K mg x2 y) : ∀ (z : Str) (v : Value), (if z = x1 then some true else if z = x2 then some true else none) = some true → mg z = some v → ∃ Cx : Addr, v = .ref Cx := fun z v h m => by
  by_cases e : z = x1
  · exact ct_ref c1 z v (by rw [if_pos e]) m
  · rw [if_neg e] at h
    exact ct_ref c2 z v h m
theorem ct2_suite {X X' : Cx} {γ β : Type} {C : FC γ β} {xj : XJ γ} {V V' : Ev γ} {sts : List Stmt} {s1 s2 : Sc γ β} {x1 x2 z : Str} {a : Addr} {oe : Obj} (h : (if z = x1 then some true else if z = x2 then some true else none) = some true) (hE : ExA X z a oe) (ne : x2 ≠ x1) (k1 : ExA X x1 a oe → SB X' C xj V V' sts s1) (k2 : ExA X x2 a oe → SB X' C xj V V' sts s2) : SB X' C xj V V' sts (if z = x1 then s1 else s2) := by
  by_cases e : z = x1
  · rw [if_pos e]
    exact k1 (e ▸ hE)
  · rw [if_neg e] at h ⊢
    by_cases e2 : z = x2
    · exact k2 (e2 ▸ hE)
    · rw [if_neg e2] at h
      cases h
section
variable {γ β : Type}
theorem q_try2 {c1 c2 : Str} {f s1 s2 : Sc γ β} {g : γ} {N : γ → Prop} {R : β → γ → Prop} {X : Str → γ → Prop} (ne : c2 ≠ c1) : (tryS (fun x => if x = c1 then some true else if x = c2 then some true else none) f (fun x => if x = c1 then s1 else s2) g).post N R X ↔ (f g).post N R (fun x g1 => (x = c1 ∧ (s1 g1).post N R nX) ∨ (x = c2 ∧ (s2 g1).post N R nX)) := by
  unfold tryS
  cases e : f g with
  | bad => exact Iff.rfl
  | nx g1 => exact Iff.rfl
  | rt b g1 => exact Iff.rfl
  | exc x g1 =>
    by_cases hx : x = c1
    · subst hx
      simp only [if_true]
      show _ ↔ (x = x ∧ (s1 g1).post N R nX) ∨ (x = c2 ∧ (s2 g1).post N R nX)
      cases s1 g1 with
      | exc y g2 => exact ⟨fun z => z.elim, fun z => z.elim (fun z => z.2.elim) fun z => absurd z.1.symm ne⟩
      | bad => exact ⟨fun z => .inl ⟨rfl, z⟩, fun z => z.elim (fun z => z.2) fun z => absurd z.1.symm ne⟩
      | nx g2 => exact ⟨fun z => .inl ⟨rfl, z⟩, fun z => z.elim (fun z => z.2) fun z => absurd z.1.symm ne⟩
      | rt b g2 => exact ⟨fun z => .inl ⟨rfl, z⟩, fun z => z.elim (fun z => z.2) fun z => absurd z.1.symm ne⟩
    · simp only [hx, if_false]
      by_cases hx2 : x = c2
      · subst hx2
        simp only [if_true]
        show _ ↔ (x = c1 ∧ (s1 g1).post N R nX) ∨ (x = x ∧ (s2 g1).post N R nX)
        cases s2 g1 with
        | exc y g2 => exact ⟨fun z => z.elim, fun z => z.elim (fun z => absurd z.1 hx) fun z => z.2.elim⟩
        | bad => exact ⟨fun z => .inr ⟨rfl, z⟩, fun z => z.elim (fun z => absurd z.1 hx) fun z => z.2⟩
        | nx g2 => exact ⟨fun z => .inr ⟨rfl, z⟩, fun z => z.elim (fun z => absurd z.1 hx) fun z => z.2⟩
        | rt b g2 => exact ⟨fun z => .inr ⟨rfl, z⟩, fun z => z.elim (fun z => absurd z.1 hx) fun z => z.2⟩
      · simp only [hx2, if_false]
        exact ⟨fun z => z.elim, fun z => z.elim (fun z => hx z.1) fun z => hx2 z.1⟩
end
/-! ### texts alike -/
def eqSQ (a b : Str) : Option Bool := some (decide (a = b))
def neSQ (a b : Str) : Option Bool := some (!decide (a = b))
section
variable {X : Cx} {γ : Type} {Ve : Ev γ} {m1 m2 : Md} {p1 p2 : Bool} {a b : Expr} {pos : Pos} {f h : Ac γ Str}
theorem dec_str (a b : Str) : decide (V.str a = V.str b) = decide (a = b) := decide_eq_decide.mpr ⟨fun z => by cases z; rfl, fun z => by rw [z]⟩
theorem kEqS {Z : Fix} : OpK Z rEq m1 m2 .fr eqSQ Ve := opK_v fun H x y a b c Q rx ry e q => by
  obtain rfl := some_inj' e
  cases rp_str rx
  cases rp_str ry
  refine ⟨rfl, ?_⟩
  rw [dec_str]
  exact q _ fun _ => .bl _
theorem kNeS {Z : Fix} : OpK Z rNe m1 m2 .fr neSQ Ve := opK_v fun H x y a b c Q rx ry e q => by
  obtain rfl := some_inj' e
  cases rp_str rx
  cases rp_str ry
  refine ⟨rfl, ?_⟩
  rw [dec_str]
  exact q _ fun _ => .bl _
theorem t_eqS {hu : X.A.units + 64 < cLine} (ha : SE X Ve m1 p1 a f) (hb : SE X Ve m2 p2 b h) (hm : okM m1 p2 = true := by rfl) : ST X Ve (p1 && p2) (.Compare a [.Eq] [b] pos) (op2 eqSQ f h) := t_cmp (r := fun _ => rEq) op_eq (fun Z _ => kEqS) ha hb hm (nomark _)
theorem t_neS (hu : X.A.units + 64 < cLine) (ha : SE X Ve m1 p1 a f) (hb : SE X Ve m2 p2 b h) (hm : okM m1 p2 = true := by rfl) : ST X Ve (p1 && p2) (.Compare a [.NotEq] [b] pos) (op2 neSQ f h) := t_cmp (r := fun _ => rNe) op_ne (fun Z _ => kNeS) ha hb hm (nomark _)
theorem o_neS {a b : Str} {Q : Bool → Prop} : opt (neSQ a b) Q ↔ Q (!decide (a = b)) := Iff.rfl
theorem o_eqS {a b : Str} {Q : Bool → Prop} : opt (eqSQ a b) Q ↔ Q (decide (a = b)) := Iff.rfl
end
end HL
/-! Gh: dict([(t, True), ..]) of tuples; dicts of such told apart. -/
namespace PySem.W
open Lean Elab Tactic Meta PySem PySem.Calls PyProof.Rows PyProof.V PySem.Spec
section
variable {prog : Program} {w : World} {K : Type} [DecidableEq K] {knd : HeapKind prog w K} {A : Around} {E : Value → Shared → Prop} {s : Shared}
def keysIn (ka kb : List (K × Addr × Value)) : Bool := ka.all fun x => decide (x.1 ∈ kb.map (·.1))
theorem keysIn_map (ka kb : List (K × Addr × Value)) : keysIn ka kb = (ka.map Prod.fst).all fun k => decide (k ∈ kb.map Prod.fst) := by
  unfold keysIn
  rw [List.all_map]
  rfl
theorem samePairsT {nm : String} {a b : Addr} {ka kb : List (K × Addr × Value)} {Q : Bool → Shared → Prop} (hu : knd.room A) (ha : (a == sysModules) = false) (hb : (b == sysModules) = false)
    (da : s.heap.DictOfH knd a ka) (db : s.heap.DictOfH knd b kb) (ta : ∀ x ∈ ka, x.2.2 = .bool true) (tb : ∀ x ∈ kb, x.2.2 = .bool true) (h : Q (ka.length == kb.length && keysIn ka kb) s) :
    wpAny (model prog w) A (Builtin.Dict.samePairs nm a b) Q E s := by
  obtain ⟨oa, es, ep, hoa, _, hda, hea, hka, hna⟩ := da
  obtain ⟨ob, es', ep', hob, _, hdb, heb, hkb, hnb⟩ := db
  have hla : ka.length = es.size := (size_of_entries hea).symm
  have hlb : kb.length = es'.size := (size_of_entries heb).symm
  rw [hla, hlb] at h
  unfold Builtin.Dict.samePairs Builtin.Dict.showsAll
  rw [if_neg (show ¬ (a == sysModules) = true by rw [ha]; exact Bool.false_ne_true), if_neg (show ¬ (b == sysModules) = true by rw [hb]; exact Bool.false_ne_true)]
  refine wpAny_bind (wpAny_pure (wpAny_bind (wpAny_pure ?_)))
  refine wpAny_bind (wpAny_dictEntries hoa hda ?_)
  dsimp only
  refine wpAny_bind (wpAny_dictEntries hob hdb ?_)
  by_cases hsz : es.size = es'.size
  case neg =>
    rw [if_pos (by simpa using hsz)]
    have hbf : (es.size == es'.size) = false := by simpa using hsz
    rw [hbf, Bool.false_and] at h
    exact wpAny_bind (wpAny_rule (wpAny_pure h))
  case pos =>
    obtain ⟨r, hr⟩ : ∃ r, keysIn ka kb = r := ⟨_, rfl⟩
    have h' : Q r s := by rw [hr] at h; simpa [hsz] using h
    rw [if_neg (by rw [hsz]; simp)]
    refine wpAny_bind (wpAny_dictEpoch hoa hda ?_)
    refine wpAny_bind ?_
    rw [Std.Legacy.Range.forIn_eq_forIn_range']
    simp only [Std.Legacy.Range.size, Nat.sub_zero, Nat.add_sub_cancel, Nat.div_one]
    refine wpAny_forIn_list _
      (fun rest q s' => s' = s ∧ q = (none, ()) ∧ ∃ i, rest = List.range' i (es.size - i) ∧ i ≤ es.size ∧ keysIn (ka.drop i) kb = r)
      _ ?_ ?_ _ _ ⟨rfl, rfl, 0, by simp, Nat.zero_le _, hr⟩
    · rintro x rest q s' ⟨rfl, rfl, i, hr, hi, hpre⟩
      have hlt : i < es.size := by
        rcases Nat.lt_or_ge i es.size with h | h
        · exact h
        · rw [Nat.sub_eq_zero_of_le h] at hr; simp at hr
      obtain ⟨rfl, hrest⟩ : x = i ∧ rest = List.range' (i + 1) (es.size - (i + 1)) := by
        have e : es.size - i = (es.size - (i + 1)) + 1 := by omega
        rw [e, List.range'_succ] at hr
        injection hr with h1 h2
        exact ⟨h1, h2⟩
      refine wpAny_bind (wpAny_dictEntries hoa hda ?_)
      have hlt' : x < ka.length := by rw [hla]; exact hlt
      obtain ⟨k, p, v, hkv⟩ : ∃ k p v, ka[x] = (k, p, v) := ⟨_, _, _, rfl⟩
      have hmem : (k, p, v) ∈ ka := hkv ▸ List.getElem_mem hlt'
      have hdrop : ka.drop x = (k, p, v) :: ka.drop (x + 1) := by rw [← hkv]; exact List.drop_eq_getElem_cons hlt'
      have hv : v = .bool true := ta _ hmem
      have hent : es[x]? = some ⟨knd.hash k, .ref p, .bool true⟩ := by rw [entry_at hea x, List.getElem?_eq_getElem hlt', hkv, hv]; rfl
      rw [hent]
      show wpAny _ _ (holding [Value.ref p, Value.bool true] _ >>= _) _ _ _
      rw [hdrop] at hpre
      have hpre : (decide (k ∈ kb.map (·.1)) && keysIn (ka.drop (x + 1)) kb) = r := hpre
      refine wpAny_bind (wpAny_holding (wpAny_bind (wpAny_dictFind_heap hu (hka _ hmem) hob hdb heb hkb hnb ?_ ?_)))
      · intro hn
        have hn' : ¬ k ∈ kb.map (·.1) := fun z => by
          obtain ⟨y, hy, ey⟩ := List.mem_map.mp z
          obtain ⟨j, hj, e⟩ := List.mem_iff_getElem.mp hy
          exact hn j y.2 (by rw [List.getElem?_eq_getElem hj, e, ← ey])
        rw [decide_eq_false hn', Bool.false_and] at hpre
        refine wpAny_pure ?_
        show wpAny _ _ (if (!false) = true then _ else _) _ _ _
        rw [if_pos (by decide)]
        rw [← hpre] at h'
        exact wpAny_pure (wpAny_pure h')
      · intro j y hj
        have hy : k ∈ kb.map (·.1) := List.mem_map.mpr ⟨(k, y), List.mem_of_getElem? hj, rfl⟩
        have hyv : y.2 = .bool true := tb _ (List.mem_of_getElem? hj)
        rw [decide_eq_true hy, Bool.true_and] at hpre
        refine wpAny_bind (wpAny_dictEntries hob hdb ?_)
        have hent' : es'[j]? = some ⟨knd.hash k, .ref y.1, .bool true⟩ := by rw [entry_at heb j, hj, ← hyv]; rfl
        rw [hent']
        refine wpAny_holding ((SeqAt.EqAt.bool_bool (A := A) (s := s') true true) prog w _ _ ?_)
        show wpAny _ _ (if (!true) = true then _ else _) _ _ _
        rw [if_neg (by decide)]
        refine wpAny_bind (wpAny_dictEpoch hoa hda ?_)
        rw [if_neg (by simp)]
        exact wpAny_pure ⟨rfl, rfl, x + 1, hrest, hlt, hpre⟩
    · rintro q s' ⟨rfl, rfl, i, hr, hi, hpre⟩
      have hin : i = es.size := by
        rcases Nat.lt_or_ge i es.size with h | h
        · have e : es.size - i = (es.size - (i + 1)) + 1 := by omega
          rw [e, List.range'_succ] at hr; exact nomatch hr
        · exact Nat.le_antisymm hi h
      refine wpAny_pure ?_
      rw [hin, ← hla, List.drop_length] at hpre
      rw [show r = true from hpre.symm] at h'
      exact h'
theorem ne_dictsT {a b : Addr} {ka kb : List (K × Addr × Value)} {Q : Value → Shared → Prop} (hr : knd.room A.in1) (ha : (a == sysModules) = false) (hb : (b == sysModules) = false)
    (da : s.heap.DictOfH knd a ka) (db : s.heap.DictOfH knd b kb) (hu : A.units < cLine) (ta : ∀ x ∈ ka, x.2.2 = .bool true) (tb : ∀ x ∈ kb, x.2.2 = .bool true) (h : Q (.bool (!(ka.length == kb.length && keysIn ka kb))) s) :
    wpAny (model prog w) A (compareOp .NotEq (.ref a) (.ref b)) Q E s := by
  refine wpAny_richCompare_same_room (op := .NotEq) da.typeIs db.typeIs PySem.F.slot_dict_ne (wpAny_call_entry PySem.F.slot_dict_ne da.typeIs PySem.F.entry_dict_ne ?_ (PySem.F.args_dict_ne_2 _ _)) hu
  show wpAny _ _ (Builtin.Dict.dictSlotArgs "__ne__" ⟨[.ref a, .ref b], []⟩ >>= _) _ _ s
  refine wpAny_bind ?_
  unfold Builtin.Dict.dictSlotArgs
  refine wpAny_bind (wpAny_notOrdered_dict da.typeIs ?_)
  show wpAny _ _ (pure (Value.ref a, Value.ref b)) _ _ s
  refine wpAny_pure ?_
  refine wpAny_bind (wpAny_isInstance (T := "dict") db.typeIs PySem.F.sub_dict_dict ?_)
  simp only [Bool.not_true, Bool.false_eq_true, if_false]
  refine wpAny_bind (wpAny_pure (wpAny_bind (wpAny_pure ?_)))
  refine wpAny_bind (samePairsT hr ha hb da db ta tb ?_)
  refine wpAny_pure ⟨_, rfl, ?_, ?_⟩
  · exact fun x => nomatch x
  · simpa using h
end
end PySem.W

namespace L2
open PySem PySem.Spec PyProof.Rows
theorem KT.keys {H : Hp} : ∀ {kvs : List (List Key × V)} {xs : List (List Key × Addr × Value)}, KT H kvs xs → xs.map (·.1) = kvs.map (·.1)
  | _, _, .nil => rfl
  | _, _, .cons r t => by rw [List.map_cons, List.map_cons, r.1, KT.keys t]
theorem KT.vals {H : Hp} : ∀ {kvs : List (List Key × V)} {xs : List (List Key × Addr × Value)}, KT H kvs xs → (∀ p ∈ kvs, p.2 = V.bl true) → ∀ x ∈ xs, x.2.2 = Value.bool true
  | _, _, .nil, _, x, hx => nomatch hx
  | _, _, .cons (a := p) (b := q) r t, h, x, hx => by
    rcases List.mem_cons.mp hx with e | hx
    · subst e
      have := r.2.2
      rw [h p List.mem_cons_self] at this
      exact this
    · exact KT.vals t (fun y hy => h y (List.mem_cons_of_mem _ hy)) x hx
end L2

namespace HL
open PySem PySem.Spec PyProof.Rows L2
def addAll {α : Type} [DecidableEq α] (l ks : List α) : List α := ks.foldl addK l
theorem dkV_true {ks : List (List Int)} : ∀ p ∈ dkV ks, p.2 = V.bl true := fun p hp => by
  obtain ⟨k, _, rfl⟩ := List.mem_map.mp hp
  rfl
theorem dkV_keys (ks : List (List Int)) : (dkV ks).map (·.1) = ks.map fun k => k.map Sum.inl := by
  unfold dkV
  rw [List.map_map]
  rfl
section
variable {α : Type} [Enc α] [IT α] [DecidableEq α]
def eqK (c d : Dk α) : Bool := c.ks.length == d.ks.length && c.ks.all fun k => decide (k ∈ d.ks)
theorem keysIn_dk {ka kb : List (List Key × Addr × Value)} {c d : List α} (ha : ka.map (·.1) = (dkV (c.map IT.key)).map (·.1)) (hb : kb.map (·.1) = (dkV (d.map IT.key)).map (·.1)) : PySem.W.keysIn ka kb = c.all fun k => decide (k ∈ d) := by
  have h1 := PySem.W.keysIn_map ka kb
  rw [h1, ha, hb, dkV_keys, dkV_keys, List.map_map, List.map_map, List.all_map]
  refine List.all_congr rfl fun k => decide_eq_decide.mpr ?_
  refine ⟨fun z => ?_, fun z => List.mem_map.mpr ⟨k, z, rfl⟩⟩
  obtain ⟨y, hy, e⟩ := List.mem_map.mp z
  have := IT.inj _ _ (inl_inj e)
  exact this ▸ hy
end
section
variable {X : Cx} {α : Type} [Enc α] [IT α] [DecidableEq α]
def rNeK (α : Type) [Enc α] [IT α] [DecidableEq α] : R2 := fun x y H Q => ∃ (a b : Addr) (c d : Dk α), x = .ref a ∧ y = .ref b ∧ H a = some (.dT (dkV (c.ks.map IT.key))) ∧ H b = some (.dT (dkV (d.ks.map IT.key))) ∧ Q (.bl (!eqK c d)) H
theorem op_neK (hu : X.A.units + 1 < cLine) : OpR X (compareOp .NotEq) (rNeK α) := by
  intro pins s σ H x y v u Q I rx ry r
  obtain ⟨a, b, c, d, rfl, rfl, e1, e2, q⟩ := r
  cases rx
  cases ry
  obtain ⟨z1, hd1, xs, rel1, dd1⟩ := dt_of I.hok e1
  obtain ⟨z2, hd2, ys, rel2, dd2⟩ := dt_of I.hok e2
  refine PySem.W.ne_dictsT (tupleKind_room_in1 hu) hd1 hd2 dd1 dd2 (by omega) (KT.vals rel1 dkV_true) (KT.vals rel2 dkV_true) ?_
  rw [keysIn_dk (KT.keys rel1) (KT.keys rel2)]
  have l1 : xs.length = c.ks.length := by rw [← Paired.length rel1, len_dk, List.length_map]
  have l2 : ys.length = d.ks.length := by rw [← Paired.length rel2, len_dk, List.length_map]
  rw [l1, l2]
  exact ⟨.bl _, H, I, rfl, q⟩
/-! ### dict of a list of pairs -/
def rDictP (α : Type) [Enc α] [IT α] [DecidableEq α] (K : PySem.W.Frag) : List V → Hp → VK → Prop := fun xs H Q => ∃ (a : Addr) (ps : List Addr) (ks : List α), xs = [.ref a] ∧ SqL K H a (ps.map V.ref) ∧ Paired (fun p k => ∃ kt, H p = some (.tup [.ref kt, .bl true]) ∧ H kt = some (.tup ((IT.key k).map V.int))) ps ks ∧
    ∀ p, H p = none → Q (.ref p) (upd H p (.dT (dkV ((addAll [] ks).map IT.key))))
theorem pairs_dk {P : Program} {w : World} {H : Hp} {h : Heap} (ok : HOk P w H h) : ∀ {ps : List Addr} {ks : List α}, Paired (fun p k => ∃ kt, H p = some (.tup [.ref kt, .bl true]) ∧ H kt = some (.tup ((IT.key k).map V.int))) ps ks →
    ∃ qs : List (List Key × Addr × Value), qs.length = ps.length ∧ ks.length = ps.length ∧ (∀ x ∈ qs, H x.2.1 = some (.tup (x.1.map kV))) ∧ (∀ (j : Nat) q, qs[j]? = some q → ∃ b, ps[j]? = some b ∧ IsTup h b #[.ref q.2.1, .bool true] ∧ q.2.2 = .bool true) ∧ ∀ acc xs, KT H (dkV (acc.map IT.key)) xs → KT H (dkV ((addAll acc ks).map IT.key)) (storedAllH xs qs)
  | _, _, .nil => ⟨[], rfl, rfl, fun x hx => (by cases hx), fun j q e => by simp at e, fun _ _ h => h⟩
  | _, _, .cons (a := p) (b := k) r t => by
    obtain ⟨qs, h1, h1', h2, h3, h4⟩ := pairs_dk ok t
    obtain ⟨kt, e1, e2⟩ := r
    have e2' : H kt = some (.tup (((IT.key k).map Sum.inl).map kV)) := by rw [kV_inl]; exact e2
    obtain ⟨_, its, rv, ht⟩ := (show ObjOk P w H h p (.tup [.ref kt, .bl true]) from ok p _ e1)
    obtain ⟨u, y, ei, ru, ry⟩ := vals2 rv
    subst ei
    cases ru
    cases ry
    refine ⟨((IT.key k).map Sum.inl, kt, .bool true) :: qs, by simp [h1], by simp [h1'], fun x hx => ?_, fun j q e => ?_, fun acc xs h => ?_⟩
    · rcases List.mem_cons.mp hx with e | hx
      · subst e
        exact e2'
      · exact h2 x hx
    · cases j with
      | zero =>
        have e' := Option.some.inj e
        subst e'
        exact ⟨p, rfl, ht, rfl⟩
      | succ j =>
        obtain ⟨b, e1, e2⟩ := h3 j q (by simpa using e)
        exact ⟨b, by simpa using e1, e2⟩
    · have := KT.put h ((IT.key k).map Sum.inl) (b := kt) (y := V.bl true) (u := Value.bool true) e2' rfl
      rw [put_dk] at this
      exact h4 (addK acc k) _ this
theorem call_dictPT (hcalm : X.calm = true) (hu : X.A.units + 2 < cLine) : CallR X (.type "dict") (rDictP α X.K) := by
  intro pins s σ H xs us Q I r q
  obtain ⟨a, ps, ks, ex, hq, hp, q⟩ := q
  subst ex
  obtain ⟨u, eu, rx⟩ := vals1 r
  subst eu
  cases rx
  obtain ⟨its, rv, pl, hz⟩ := I.list hq
  have ei := refs_at rv
  subst ei
  rw [List.length_map] at hz
  obtain ⟨qs, hl, hl', hk, hit, hst⟩ := pairs_dk I.hok hp
  obtain ⟨o, n, ho, hc, hd, hdat⟩ := pl
  have key : ∀ h', (∀ b o, b ≠ s.heap.objs.size → s.heap.get? b = some o → h'.get? b = some o) → ∀ x ∈ qs, (tupleKind (mixKind X.prog X.w)).is h' x.1 x.2.1 := fun h' k x hx => by
    obtain ⟨o', its', n', h1, h2⟩ := key_of I.hok (hk x hx)
    exact ⟨o', its', n', k _ _ (Nat.ne_of_lt (Heap.lt_size h1)) h1, h2⟩
  have hpl : (s.heap.objs.size == sysModules) = false := beq_eq_false_iff_ne.mpr (Nat.ne_of_gt I.big)
  refine call_dict_pairsH (knd := tupleKind (mixKind X.prog X.w)) (ps := qs) (PairArg.list a (ps.map Value.ref).toArray (fun j => ps.getD j 0) (qs.map fun x => (Value.ref x.2.1, Value.bool true))) (I.ok.hd hcalm) (show X.A.in1.in1.units < cLine from ?_) ⟨⟨o, n, ho, hc, hd, hdat⟩, by simp [hl], fun j k v e => ?_⟩ ⟨by simp, fun i kk v e => ?_⟩ (fun h' k x hx => key h' (fun b o hb e => k b o hb (fun z => nomatch z) e) x hx) (by simp [hl]; exact hz) fun h' tk hd' k => ?_
  · show X.A.units + 2 < cLine
    exact hu
  · rw [List.getElem?_map] at e
    obtain ⟨q', e', e2⟩ := Option.map_eq_some_iff.mp e
    obtain ⟨b, e3, e4, e5⟩ := hit j q' e'
    cases e2
    have : ps.getD j 0 = b := by rw [List.getD_eq_getElem?_getD, e3]; rfl
    dsimp only
    rw [this]
    exact ⟨by simp [e3], .inl e4⟩
  · have e : (qs.map fun x => (Value.ref x.2.1, Value.bool true))[i]? = some (kk, v) := e
    rw [List.getElem?_map] at e
    obtain ⟨q', e', e2⟩ := Option.map_eq_some_iff.mp e
    obtain ⟨b, e3, e4, e5⟩ := hit i q' e'
    cases e2
    exact ⟨q'.1, q'.2.1, by rw [e', ← e5], rfl⟩
  · have kt := hst [] [] .nil
    obtain ⟨q', es, ep, hq', h2, h3, h4, h5, h6⟩ := hd'
    have hn : H s.heap.objs.size = none := I.hok.fresh (Nat.le_refl _)
    have hlen : (dkV ((addAll [] ks).map IT.key)).length ≤ sizeLine := by
      rw [Paired.length kt]
      refine Nat.le_trans (storedAllH_length qs []) ?_
      rw [List.length_nil, Nat.zero_add, hl]
      exact hz
    refine ⟨.ref s.heap.objs.size, _, I.laid (t' := tk) (o := .dT (dkV ((addAll [] ks).map IT.key))) (fun b o e => k b o (fun z => nomatch z) e) (Nat.le_refl _) ⟨hlen, hpl, _, kt.keeps fun c ys ec => ?_, q', es, ep, hq', h2, h3, h4, h6⟩, rfl, q _ hn⟩
    rw [upd_ne (fun z => by rw [z, hn] at ec; cases ec)]
    exact ec
end
/-! ### printed -/
def dictPQ {α : Type} [DecidableEq α] (l : List (α × Bool)) : Option (Dk α) := if l.all (·.2) then some ⟨addAll [] (l.map (·.1))⟩ else none
def neKQ {α : Type} [DecidableEq α] [Enc α] [IT α] (c d : Dk α) : Option Bool := some (!eqK c d)
section
variable {X : Cx} {γ α : Type} [Enc α] [IT α] [DecidableEq α] {Ve : Ev γ} {m1 m2 m : Md} {p p1 p2 : Bool} {a b e : Expr} {pos : Pos}
theorem rp_pairs {K : PySem.W.Frag} {H : Hp} : ∀ {l : List (α × Bool)} {vs : List V}, RpA K H vs (l.map enc) → l.all (·.2) = true → ∃ ps, vs = ps.map V.ref ∧ Paired (fun p k => ∃ kt, H p = some (.tup [.ref kt, .bl true]) ∧ H kt = some (.tup ((IT.key k).map V.int))) ps (l.map (·.1))
  | [], vs, r, _ => by
    cases r
    exact ⟨[], rfl, .nil⟩
  | x :: l, vs, r, hb => by
    cases r with
    | cons r1 r2 =>
      simp only [List.all_cons, Bool.and_eq_true] at hb
      obtain ⟨ps, rfl, h⟩ := rp_pairs r2 hb.2
      have r1 : Rp K H _ (.tuple [enc x.1, enc x.2]) := r1
      obtain ⟨t, ws, rfl, h1, h2⟩ := rp_tupleH r1
      cases h2 with
      | cons q1 q2 =>
        cases q2 with
        | cons q2 q3 =>
          cases q3
          obtain ⟨kt, rfl, hk⟩ := rp_key q1
          have q2 : Rp K H _ (.bool x.2) := q2
          rw [hb.1] at q2
          cases q2
          exact ⟨t :: ps, rfl, .cons ⟨kt, h1, hk⟩ h⟩
theorem s_dictP {f : Ac γ (List (α × Bool))} {p0 : Pos} (hu : X.A.units + 65 < cLine) (hc : X.calm = true) (hx : X.mg "dict" = none) (ha : SE X Ve m p e f) (hm : noBo m = true := by rfl) (hg : Gl X "dict" := by rfl)
    (he : starEach (e :: []) X.env = (false, eval e X.env) :: starEach [] X.env := by rfl) (hpl : (backTo pos (starEach [] X.env)).any (·.1) = false := by rfl) : SE X Ve .fr p (.Call (.Name "dict" p0) [e] [] pos) (op1 dictPQ f) :=
  s_t1 (T := "dict") (r := rDictP α) (call_dictPT hc (by omega)) (fun Z hK => fun A g σ H x l c Q j rx e q => by
    obtain ⟨t, vs, rfl, e2, e3⟩ := rp_list (rm_frB hm rx)
    unfold dictPQ at e
    by_cases hb : l.all (·.2) = true
    · rw [if_pos hb] at e
      have ec := some_inj' e
      subst ec
      obtain ⟨ps, rfl, hp⟩ := rp_pairs e3 hb
      refine ⟨t, ps, l.map (·.1), rfl, seqL (hp_le _ _ e2), L2.Paired.mapP hp fun p k ⟨kt, h1, h2⟩ => ⟨kt, hp_le _ _ h1, hp_le _ _ h2⟩, fun n hn => q _ _ (same_new hn) (j.new hn) ?_⟩
      have hn' := j.ghnew (o := .dT (dkV ((addAll [] (l.map (·.1))).map IT.key))) hn
      rw [ow_at] at hn'
      exact Rp.dic hn'
    · rw [if_neg hb] at e
      cases e) hx ha (by decide +kernel) hg (by decide) (by decide) he hpl
theorem kNeK {Z : Fix} (h1 : noBo m1 = true) (h2 : noBo m2 = true) : OpK Z (rNeK α) m1 m2 .fr (neKQ (α := α)) Ve := fun A g σ H x y a b c Q j rx ry e q => by
  obtain rfl := some_inj' e
  obtain ⟨t, rfl, e1⟩ := rm_dk (g := g) (σ := σ) h1 rx
  obtain ⟨u, rfl, e2⟩ := rm_dk (g := g) (σ := σ) h2 ry
  exact ⟨t, u, a, b, rfl, rfl, e1, e2, q _ H (Same.refl H) j (.bl _)⟩
theorem t_neK {f h : Ac γ (Dk α)} (hu : X.A.units + 65 < cLine) (ha : SE X Ve m1 p1 a f) (hb : SE X Ve m2 p2 b h) (hm : okM m1 p2 = true := by rfl) (h1 : noBo m1 = true := by rfl) (h2 : noBo m2 = true := by rfl) : ST X Ve (p1 && p2) (.Compare a [.NotEq] [b] pos) (op2 neKQ f h) := t_cmp (r := fun _ => rNeK α) (op_neK (by omega)) (fun Z _ => kNeK h1 h2) ha hb hm (nomark _)
theorem o_dictP {l : List (α × Bool)} {Q : Dk α → Prop} : opt (dictPQ l) Q ↔ (l.all (·.2) = true ∧ Q ⟨addAll [] (l.map (·.1))⟩) := by
  unfold dictPQ
  split
  · rename_i h
    exact ⟨fun z => ⟨h, z⟩, fun z => z.2⟩
  · rename_i h
    exact ⟨fun z => z.elim, fun z => absurd z.1 h⟩
theorem o_neK {c d : Dk α} {Q : Bool → Prop} : opt (neKQ c d) Q ↔ Q (!eqK c d) := Iff.rfl
end
theorem mem_addAll {α : Type} [DecidableEq α] {x : α} : ∀ {ks l : List α}, x ∈ addAll l ks ↔ x ∈ l ∨ x ∈ ks
  | [], l => by simp [addAll]
  | k :: ks, l => by
    show x ∈ addAll (addK l k) ks ↔ _
    rw [mem_addAll, mem_addK, List.mem_cons, or_assoc]
theorem nd_addAll {α : Type} [DecidableEq α] : ∀ {ks l : List α}, l.Nodup → (addAll l ks).Nodup
  | [], l, h => h
  | k :: ks, l, h => nd_addAll (ks := ks) (nd_addK h)
theorem addAll_nd {α : Type} [DecidableEq α] : ∀ {ks l : List α}, (l ++ ks).Nodup → addAll l ks = l ++ ks
  | [], l, _ => by simp [addAll]
  | k :: ks, l, h => by
    have hk : addK l k = l ++ [k] := by
      unfold addK
      rw [if_neg]
      intro z
      rw [List.nodup_append] at h
      exact h.2.2 k z k List.mem_cons_self rfl
    show addAll (addK l k) ks = _
    rw [hk, addAll_nd (by simpa using h)]
    simp

/-! ### a test that reads a list of one's own as what nobody owns -/
def KeepT {γ α : Type} (Ve : Ev γ) (f : Ac γ α) : Prop := ∀ g, match f g with
  | .ok _ g' => at_ Ve g' = at_ Ve g
  | .exc _ g' => at_ Ve g' = at_ Ve g
  | .bad => True
section
variable {γ α β δ τ ι : Type} {Ve : Ev γ}
theorem keep_pure {x : γ → α} : KeepT Ve (pureA x) := fun g => rfl
theorem keep_opt {o : Option α} : KeepT Ve (optA o) := fun g => by
  unfold optA
  cases o with
  | none => trivial
  | some a => rfl
theorem keep_bind {f : Ac γ α} {k : α → Ac γ β} (hf : KeepT Ve f) (hk : ∀ a, KeepT Ve (k a)) : KeepT Ve (bindA f k) := fun g => by
  unfold bindA
  have h1 := hf g
  cases e : f g with
  | bad => trivial
  | exc x g1 => rw [e] at h1; exact h1
  | ok a g1 =>
    rw [e] at h1
    have h2 := hk a g1
    show (match k a g1 with | .ok _ g' => at_ Ve g' = at_ Ve g | .exc _ g' => at_ Ve g' = at_ Ve g | .bad => True)
    cases e2 : k a g1 with
    | bad => trivial
    | exc x g2 => rw [e2] at h2; exact h2.trans h1
    | ok b g2 => rw [e2] at h2; exact h2.trans h1
theorem keep_op1 {k : α → Option β} {f : Ac γ α} (hf : KeepT Ve f) : KeepT Ve (op1 k f) := keep_bind hf fun _ => keep_opt
theorem keep_op2 {k : α → β → Option δ} {f : Ac γ α} {h : Ac γ β} (hf : KeepT Ve f) (hh : KeepT Ve h) : KeepT Ve (op2 k f h) := keep_bind hf fun _ => keep_bind hh fun _ => keep_opt
theorem keep_pair {f : Ac γ α} {h : Ac γ β} (hf : KeepT Ve f) (hh : KeepT Ve h) : KeepT Ve (pairA f h) := keep_bind hf fun _ => keep_bind hh fun _ => keep_pure
theorem keep_and {f h : Ac γ Bool} (hf : KeepT Ve f) (hh : KeepT Ve h) : KeepT Ve (andA f h) := keep_bind hf fun b => by
  by_cases e : b = true
  · rw [if_pos e]; exact hh
  · rw [if_neg e]; exact keep_pure
theorem keep_or {f h : Ac γ Bool} (hf : KeepT Ve f) (hh : KeepT Ve h) : KeepT Ve (orA f h) := keep_bind hf fun b => by
  by_cases e : b = true
  · rw [if_pos e]; exact keep_pure
  · rw [if_neg e]; exact hh
theorem keep_not {f : Ac γ Bool} (hf : KeepT Ve f) : KeepT Ve (notA f) := keep_op1 hf
theorem keep_call {args : γ → τ → α} {F : α → FRes β ι} {fA : Ac γ τ} (hf : KeepT Ve fA) : KeepT Ve (callA args F fA) := keep_bind hf fun t g => by
  cases F (args g t) with
  | ok b i => rfl
  | exc x => rfl
  | bad => trivial
theorem keep_compR {set : γ → α → γ} {c : Ac γ Bool} {e : Ac γ δ} (hs : ∀ g a, at_ Ve (set g a) = at_ Ve g) (hc : KeepT Ve c) (he : KeepT Ve e) : ∀ l, KeepT Ve (compR set c e l)
  | [] => fun g => rfl
  | a :: l => fun g => by
    have ih := keep_compR hs hc he l
    unfold compR
    have h1 := hc (set g a)
    cases e1 : c (set g a) with
    | bad => trivial
    | exc x g1 => trivial
    | ok b g1 =>
      rw [e1] at h1
      replace h1 : at_ Ve g1 = at_ Ve g := Eq.trans h1 (hs g a)
      cases b with
      | false =>
        have h2 := ih g1
        dsimp only
        cases e2 : compR set c e l g1 with
        | bad => trivial
        | exc x g2 => rw [e2] at h2; exact h2.trans h1
        | ok b g2 => rw [e2] at h2; exact h2.trans h1
      | true =>
        have h2 := he g1
        cases e2 : e g1 with
        | bad => simp [e2]
        | exc x g2 => simp [e2]
        | ok d g2 =>
          rw [e2] at h2
          have h3 := ih g2
          cases e3 : compR set c e l g2 with
          | bad => simp [e2, e3]
          | exc x g3 => simp [e2, e3]
          | ok ds g3 =>
            rw [e3] at h3
            simp only [e2, e3]
            exact (h3.trans h2).trans h1
theorem keep_comp {f : Ac γ (List α)} {set : γ → α → γ} {c : Ac γ Bool} {e : Ac γ δ} (hs : ∀ g a, at_ Ve (set g a) = at_ Ve g) (hf : KeepT Ve f) (hc : KeepT Ve c) (he : KeepT Ve e) : KeepT Ve (compA f set c e) := keep_bind hf fun l g => by
  by_cases h : l.length ≤ LIM
  · rw [if_pos h]; exact keep_compR hs hc he l g
  · rw [if_neg h]; trivial
theorem keep_yes : KeepT Ve (yesA (γ := γ)) := keep_pure
end
section
variable {X : Cx} {γ α β : Type} [Enc α] {C : FC γ β} {xj : XJ γ} {Ve Ve' V2 : Ev γ} {p : Bool} {pos : Pos} {as bs : List Stmt}
theorem pt_unown {e : Expr} {f : Ac γ Bool} {Z : Fix} {W : WX} (i : Nat) (get : γ → List α) (h : PT X e (tT X.mg Z W V2 p f)) (hio : ∀ a, (i, a) ∉ Z.io) (hi : Ve[i]? = some (.own fun g => (get g).map enc)) (hV : ∀ g, at_ V2 g = (at_ Ve g).set i (.imm true (enc (get g)))) (ho : ∀ x A, ¬ OwV A V2 x) (hk : KeepT Ve f) : PT X e (tT X.mg Z W Ve p f) := h.weak fun σ H Q q => by
  obtain ⟨g, A, j, q⟩ := q
  have hr : (at_ Ve g)[i]? = some (.own ((get g).map enc)) := by rw [at_get, hi]; rfl
  have j2 : J Z A (at_ V2 g) σ H := by
    rw [hV]
    exact j.weak (wks_set hr (.give (.ls ((get g).map enc)))) fun k a ds hk e => by
      have : i ≠ k := fun z => hio a (z ▸ hk)
      rw [set_get, if_neg this]
      exact e
  refine ⟨g, A, j2, ?_⟩
  have hk := hk g
  have same : ∀ {H'}, Gr (OwV A V2) H H' → Same H H' := fun gr x o hx => gr x o (ho x A) hx
  cases ef : f g with
  | bad => rw [ef] at q; exact q
  | exc x g1 =>
    rw [ef] at q hk
    have hk : at_ Ve g1 = at_ Ve g := hk
    exact fun c H' mc _ gr => q c H' mc (by rw [hk]; exact j.same (same gr)) (.of (same gr))
  | ok b g1 =>
    rw [ef] at q hk
    have hk : at_ Ve g1 = at_ Ve g := hk
    exact fun H' _ gr _ => q H' (by rw [hk]; exact j.same (same gr)) (.of (same gr)) fun _ => same gr
def noOwnV {γ : Type} (Ve : Ev γ) : Bool := (List.range Ve.length).all fun k => match Ve[k]? with
  | some (.own _) => false
  | _ => true
theorem noOwnV_ok {γ : Type} {Ve : Ev γ} (h : noOwnV Ve = true) : ∀ x A, ¬ OwV A Ve x := fun x A z => by
  obtain ⟨k, ds, e, _⟩ := z
  have hk : k < Ve.length := (List.getElem?_eq_some_iff.mp e).1
  have := List.all_eq_true.mp h k (List.mem_range.mpr hk)
  rw [e] at this
  cases this
/-- if, the test reading the list in slot i -/
theorem c_ifU {c : Expr} {c0 : Ac γ Bool} {f h : Sc γ β} (i : Nat) (get : γ → List α) (V2 : Ev γ) (hx : XOk xj Ve) (hc : ST X V2 p c c0) (hk : KeepT Ve c0) (ha : SB X C xj Ve Ve' as f) (hb : SB X C xj Ve Ve' bs h)
    (hi : Ve[i]? = some (.own fun g => (get g).map enc) := by rfl) (hV : ∀ g, at_ V2 g = (at_ Ve g).set i (.imm true (enc (get g))) := by exact fun _ => rfl) (ho : noOwnV V2 = true := by rfl) (hn : (ioIx C).contains i = false := by rfl) : SS X C xj Ve Ve' (.If c as bs pos) (ifS c0 f h) :=
  ⟨fun Z W hK hio tk => (ps_if (pt_unown i get (hc.run Z W hK tk) (noio hio hn) hi hV (noOwnV_ok ho) hk) (ha.run Z W hK hio tk) (hb.run Z W hK hio tk)).weak fun D σ H q => tT_do hx q⟩
end
end HL
/-! Gi: sets made of long lists with few unlike tuples; list.count of data. -/
namespace L2
open PySem PySem.Spec PyProof.Rows
section
variable {P : Program} {w : World} {A : Around} {E : Value → Shared → Prop} {s : Shared}
/-- few unlike ones -/
def FewK (ks : List (Addr × List Int)) : Prop := ∃ D : List (List Int), D.length < 63 ∧ ∀ p ∈ ks, p.2 ∈ D
theorem nodup_sub {α : Type} [DecidableEq α] : ∀ {l D : List α}, l.Nodup → (∀ x ∈ l, x ∈ D) → l.length ≤ D.length
  | [], D, _, _ => Nat.zero_le _
  | a :: l, D, hn, hs => by
    rw [List.nodup_cons] at hn
    have h1 : l.length ≤ (D.erase a).length := nodup_sub hn.2 fun x hx => (List.mem_erase_of_ne (fun z => hn.1 (by rw [← z]; exact hx))).mpr (hs x (List.mem_cons_of_mem _ hx))
    rw [List.length_erase_of_mem (hs a List.mem_cons_self)] at h1
    have h2 : 0 < D.length := List.length_pos_of_mem (hs a List.mem_cons_self)
    simp only [List.length_cons]
    omega
theorem FewK.len {ks L : List (Addr × List Int)} (h : FewK ks) (hs : ∀ p ∈ L, p ∈ ks) (hn : (L.map (·.2)).Nodup) : L.length + 1 < 64 := by
  obtain ⟨D, hD, hk⟩ := h
  have := nodup_sub (D := D) hn fun x hx => by
    obtain ⟨p, hp, rfl⟩ := List.mem_map.mp hx
    exact hk p (hs p hp)
  rw [List.length_map] at this
  omega
/-- the loop that puts the items into the set -/
theorem fill_few {I : Addr} {fp wr : List Addr} {G : Array GenState → Array GenState → Prop} {n : Nat} {Pv : Nat → Value → Prop} {St : Nat → Shared → Prop} {R : Result → Shared → Prop}
    (W : WalksS P w A.in1 I fp wr G n Pv St) (S : Addr) (nS : S ∉ fp) (ks : List (Addr × List Int)) (hn : n = ks.length) (few : FewK ks) (at_ : ∀ i v, Pv i v → ∃ p, ks[i]? = some p ∧ v = .ref p.1)
    (hp0 : Heap) (tup : ∀ p ∈ ks, IsT P w hp0 p.2 p.1) (newS : hp0.get? S = none) (newW : ∀ b ∈ wr, hp0.get? b = none) (hu : A.in1.units < cLine) :
    ∀ (left i : Nat) (s : Shared), n - i = left → i ≤ n → St i s → (∀ b o, hp0.get? b = some o → s.heap.get? b = some o) → (∃ L es ep t, SetTR P w s.heap S L es ep t ∧ Got ks i L) →
      (∀ s' L es ep t, Moved (S :: wr) G s s' → SetTR P w s'.heap S L es ep t → Got ks n L → (∀ b o, hp0.get? b = some o → s'.heap.get? b = some o) → R (.ok (.ret .none)) s') →
      codeAny (model P w) A (.builtin "set.update.loop" ⟨[.ref S, .ref I], []⟩) R s := by
  have wS : S ∉ wr := fun z => nS (W.sub _ z)
  have wider : ∀ b ∈ wr, b ∈ S :: wr := fun b z => List.mem_cons_of_mem _ z
  have stay : ∀ {s s' : Shared}, Moved wr G s s' → (∀ b o, hp0.get? b = some o → s.heap.get? b = some o) → ∀ b o, hp0.get? b = some o → s'.heap.get? b = some o := fun mv kp b o e =>
    mv.heap b o (fun z => by rw [newW b z] at e; cases e) (kp b o e)
  intro left
  induction left with
  | zero =>
    intro i s e0 hi st kp ⟨L, es, ep, t, R0, g⟩ fin
    obtain rfl : i = n := by omega
    refine codeAny_builtin F.entry_set_update_loop ?_
    rw [Around.under_plainId F.plain_set_update_loop _]
    show wpAny _ A.in1 (pyNext (.ref I) >>= _) _ _ s
    refine wpAny_bind (W.done s _ _ st fun s' mv => ?_)
    show wpAny _ A.in1 (ret Value.none) _ _ s'
    have kp' := stay mv kp
    have inks : ∀ p ∈ L, p ∈ ks := fun p z => List.mem_of_mem_take (g.sub p z)
    exact wpAny_pure (fin s' L es ep t (mv.mono wider) (R0.keep (fun o e => mv.heap S o wS e) fun p z => isT_keep (tup p (inks p z)) kp') g kp')
  | succ left ih =>
    intro i s e0 hi st kp ⟨L, es, ep, t, R0, g⟩ fin
    have lt : i < n := by omega
    refine codeAny_builtin F.entry_set_update_loop ?_
    rw [Around.under_plainId F.plain_set_update_loop _]
    show wpAny _ A.in1 (pyNext (.ref I) >>= _) _ _ s
    refine wpAny_bind (W.item i s _ _ lt st fun v s' pv st' mv => ?_)
    obtain ⟨p, ep', rfl⟩ := at_ i v pv
    have kp' := stay mv kp
    have inks : ∀ p ∈ L, p ∈ ks := fun p z => List.mem_of_mem_take (g.sub p z)
    have R1 : SetTR P w s'.heap S L es ep t := R0.keep (fun o e => mv.heap S o wS e) fun q z => isT_keep (tup q (inks q z)) kp'
    have tp : IsT P w s'.heap p.2 p.1 := isT_keep (tup p (List.mem_of_getElem? ep')) kp'
    show wpAny _ A.in1 (holding [Value.ref p.1] (setAdd S (.ref p.1)) >>= _) _ _ s'
    refine wpAny_bind (wpAny_holding ?_)
    unfold setAdd
    refine wpAny_holding ?_
    refine wpAny_bind (wpAny_pyHash_tuple hu tp ?_)
    refine add_at (s := { s' with toks := s'.toks + (p.2.length + 1) }) R1 tp hu (few.len inks R0.nd) fun b h2 L2 es2 ep2 t2 sb R2 c1 c2 => ?_
    have g2 : Got ks (i + 1) L2 := by
      by_cases c : p.2 ∈ L.map (·.2)
      · rw [c1 c]; exact g.same ep' c
      · exact g.more ep' (c2 c)
    have kp2 : ∀ b o, hp0.get? b = some o → h2.get? b = some o := fun b o e => (sb.2 b (fun z => by rw [z, newS] at e; cases e)).trans (kp' b o e)
    refine wpAny_pure ⟨plainId_quiet F.plain_set_update_loop _, ih (i + 1) _ (by omega) lt (W.frame _ s' _ _ st' (Nat.le_add_right _ _) fun b z o e => ?_) kp2 ⟨L2, es2, ep2, t2, R2, g2⟩ fun s3 L3 es3 ep3 t3 mv3 R3 g3 kp3 => ?_⟩
    · rw [sb.2 b (fun z : b = S => nS (by rw [← z]; assumption))]; exact e
    · refine fin s3 L3 es3 ep3 t3 (Moved.trans W.gtrans ((mv.mono wider).then_heap (Nat.le_add_right _ _) fun b o z e => ?_) mv3) R3 g3 kp3
      rw [sb.2 b (fun y : b = S => z (by rw [y]; exact List.mem_cons_self))]; exact e
set_option maxHeartbeats 3200000 in
theorem call_set_few {l : Addr} {items : Array Value} (ks : List (Addr × List Int)) {Q : Value → Shared → Prop} (calm : A.handled = none) (il : s.heap.IsList l items) (eit : items.toList = ks.map fun p => Value.ref p.1)
    (tup : ∀ p ∈ ks, IsT P w s.heap p.2 p.1) (few : FewK ks) (hu : A.units + 3 < cLine)
    (h : ∀ (h2 : Heap) (tk : Nat) L es ep t, SetTR P w h2 s.heap.objs.size L es ep t → Got ks ks.length L → (∀ b o, s.heap.get? b = some o → h2.get? b = some o) → Q (.ref s.heap.objs.size) { s with heap := h2, toks := tk }) :
    wpAny (model P w) A (call (.type "set") [.ref l]) Q E s := by
  let nso : Obj := { cls := .type "set", dict := none, data := .set #[] 0 (.fresh 0 0 (!w.params.followText "set-order")) }
  have esz : items.size = ks.length := by simpa using congrArg List.length eit
  obtain ⟨c, tl, hmro⟩ := F.called_set.mro
  have hmade := F.called_set.made
  have hsub := F.called_set.sub
  refine wpAny_call (codeAny_of_tree ?_)
  show wpAny _ _ (callAny (.type "set") _) _ _ _
  refine wpAny_pure ⟨Code.quiet_builtin _ (by decide +kernel), codeAny_builtin F.entry_type_call ?_⟩
  rw [Around.under_plain (weight_type_call_type "set" [.ref l] []) rfl]
  have hnt := F.called_set.notType
  have hcc := F.called_set.canCreate
  have htc := F.typeCall_set_1 (.ref l)
  repeat (any_goals (first | assumption | wp_step))
  refine codeAny_mono (code_set_led1 (.ref l) (E := E) (Q₁ := fun obj s1 => obj = .ref s.heap.objs.size ∧ s1 = { s with heap := s.heap.push nso }) ⟨rfl, rfl⟩) fun r s1 hr => ?_
  cases r with
  | error e => exact hr
  | ok fl =>
    cases fl with
    | ret obj =>
      obtain ⟨rfl, rfl⟩ := hr
      have gS : (s.heap.push nso).get? s.heap.objs.size = some nso := Heap.get?_push_size _ rfl
      have tS : Shared.TypeIs { s with heap := s.heap.push nso } (.ref s.heap.objs.size) "set" := ⟨_, gS, rfl⟩
      have hli := F.called_set.init.lookup
      have hbi := F.called_set.init.bind (.ref s.heap.objs.size)
      repeat (any_goals (first | assumption | wp_step))
      refine codeAny_mono (codeAny_call_builtin (R := wants (fun r s2 => r = .none ∧ ∃ h2 tk L es ep t, s2 = { s with heap := h2, toks := tk } ∧ SetTR P w h2 s.heap.objs.size L es ep t ∧ Got ks ks.length L ∧
          (∀ b o, s.heap.get? b = some o → h2.get? b = some o)) E) F.called_set.init.plain F.entry_set_init (check_set_init_1 tS ?_)) fun r2 s2 hr2 => ?_
      · obtain ⟨ol, eol, ecl, nl, edl⟩ := il
        obtain ⟨ocls, odict, odata, oslots⟩ := ol
        simp only at ecl edl
        subst ecl; subst edl
        have eol' : (s.heap.push nso).get? l = some { cls := .type "list", dict := odict, data := .seq items nl, slots := oslots } := Heap.get?_push_of_some _ eol
        have hsls := F.sub_list_set
        have hslf := F.sub_list_frozenset
        have hne : (Value.type "list" == Value.type "dict") = false := by decide
        have il1 : (s.heap.push nso).IsList l items := ⟨_, eol', rfl, nl, rfl⟩
        unfold Builtin.«set.__init__» noKeywords Builtin.Frozenset.updateFrom
        generalize hPI : pyIter = PI
        wp_walk
        subst hPI
        refine wpAny_pyIter_list il1 ?_
        refine wpAny_bind (wpAny_runValue ?_)
        have ltl : l < s.heap.objs.size := Heap.lt_size eol
        have calm3 : A.in1.in1.in1.handled = none := by simp [calm]
        have esz1 : (s.heap.push nso).objs.size = s.heap.objs.size + 1 := Heap.size_push ..
        have neI : l ≠ (s.heap.push nso).objs.size := fun z => absurd (show l < (s.heap.push nso).objs.size by rw [esz1]; exact Nat.lt_succ_of_lt ltl) (by rw [z]; exact Nat.lt_irrefl _)
        have nin : s.heap.objs.size ∉ [(s.heap.push nso).objs.size, l] := by
          rw [esz1]
          simp only [List.mem_cons, List.not_mem_nil, or_false, not_or]
          exact ⟨Nat.ne_of_lt (Nat.lt_succ_self _), Nat.ne_of_gt ltl⟩
        have at_ : ∀ (i : Nat) (v : Value), items[i]? = some v → ∃ p, ks[i]? = some p ∧ v = .ref p.1 := fun i v ev => by
          have q : items.toList[i]? = some v := by rw [Array.getElem?_toList]; exact ev
          rw [eit, List.getElem?_map] at q
          obtain ⟨p, e1, e2⟩ := Option.map_eq_some_iff.mp q
          exact ⟨p, e1, e2.symm⟩
        have isnone : ∀ b, s.heap.objs.size ≤ b → s.heap.get? b = none := fun b hb => by
          cases q : s.heap.get? b with
          | none => rfl
          | some o => exact absurd (Nat.lt_of_lt_of_le (Heap.lt_size q) hb) (Nat.lt_irrefl _)
        refine fill_few ((Walks.list calm3 _ l neI items).toS) s.heap.objs.size
          nin ks esz few at_ s.heap tup (isnone _ (Nat.le_refl _)) (fun b hb => isnone b (by
            rw [List.mem_singleton.mp hb, esz1]
            omega)) hu (items.size - 0) 0 _ (by omega) (Nat.zero_le _)
          ⟨⟨_, Heap.get?_push_size _ rfl, rfl, rfl⟩, (il1.push _)⟩ (fun b o e => Heap.get?_push_of_some _ (Heap.get?_push_of_some _ e)) ?start ?fin
        case start =>
          have hget : ((s.heap.push nso).push { cls := .type "list_iterator", data := .fields #[.ref l, .int 0 0] }).get? s.heap.objs.size = some nso := Heap.get?_push_of_some _ gS
          exact ⟨[], #[], 0, _, setTR_fresh hget, Got.zero ks⟩
        case fin =>
          intro s' L es ep t mv R1 g1 kp
          obtain ⟨h', g2, d', tk', os'⟩ := s'
          have eg : g2 = s.gens := mv.gens
          have ed : d' = s.drawn := mv.drawn
          have eo : os' = s.os := mv.os
          subst eg; subst ed; subst eo
          show wpAny _ _ _ _ _ _
          refine wpAny_pure ?_
          show wpAny _ _ (ret Value.none) _ _ _
          rw [esz] at g1
          exact wpAny_pure ⟨rfl, h', tk', L, es, ep, t, rfl, R1, g1, kp⟩
      · cases r2 with
        | error e => exact hr2
        | ok fl2 =>
          cases fl2 with
          | ret r =>
            obtain ⟨rfl, h', tk, L, es, ep, t, rfl, R1, g1, kp⟩ := hr2
            repeat (any_goals (first | assumption | wp_step))
            exact h _ _ _ _ _ _ R1 g1 kp
          | _ => exact hr2.elim
    | _ => exact hr.elim
end
section
variable {X : Cx}
def rSetOfG (K : PySem.W.Frag) (P : Program) (w : World) : List V → Hp → VK → Prop := fun xs H Q => ∃ (l : Addr) (ks : List (Addr × List Int)), xs = [V.ref l] ∧ SqL K H l (ks.map fun p => V.ref p.1) ∧ (∀ p ∈ ks, SqT K H p.1 (p.2.map V.int)) ∧ FewK ks ∧
  ∀ a L, H a = none → (∀ p ∈ L, p ∈ ks) → (∀ p ∈ ks, p.2 ∈ L.map (·.2)) → Q (.ref a) (upd H a (SetTO P w a L))
theorem cr_setOfG (hc : X.calm = true) (hu : X.A.units + 64 < cLine) : CallR X (.type "set") (rSetOfG X.K X.prog X.w) := by
  intro pins s σ H xs us Q I r h
  obtain ⟨l, ks, rfl, hl, hk, hf, q⟩ := h
  rw [Vals.ref1 r]
  obtain ⟨its, rv, pl, hz⟩ := I.list hl
  have hn : H s.heap.objs.size = none := I.hok.fresh (Nat.le_refl _)
  refine call_set_few (P := X.prog) (w := X.w) ks (I.ok.hd hc) pl.isList (by simpa using refs_of_vals rv) (fun p hp => I.isT (hk p hp)) hf (by omega) fun h' tk L es ep t R g k => ?_
  have h1 : ∀ p ∈ L, p ∈ ks := fun p hp => List.mem_of_mem_take (g.sub p hp)
  have h2 : ∀ p ∈ ks, p.2 ∈ L.map (·.2) := fun p hp => g.all p (by rw [List.take_length]; exact hp)
  exact ⟨.ref s.heap.objs.size, upd H s.heap.objs.size (SetTO X.prog X.w s.heap.objs.size L), I.laid (t' := tk) k (Nat.le_refl _) (setTO_new R.t0), rfl, q _ L hn h1 h2⟩
end
end L2
/-! Gj: list.count of data, sorted(set), len(set) of long lists, xs[::1] and xs[::-1] by a value, xs.pop(), xs.clear(). -/
namespace L2
open PySem PySem.Spec PyProof.Rows
section
variable {X : Cx}
def rCntD (K : PySem.W.Frag) : V → List V → Hp → VK → Prop := fun x xs H Q => ∃ (a : Addr) (y : V) (d : PyData) (ds : List PyData), x = V.ref a ∧ xs = [y] ∧ Dp K H (V.ref a) (.list ds) ∧ Dp K H y d ∧
  SeqAt.shaped (.list ds) = true ∧ SeqAt.shaped d = true ∧ Q (.int (ds.countP fun z => PyData.eqv z d : Nat)) H
theorem mt_cntD (hu : X.A.units + 65 < cLine) : MtR X "list.count" (rCntD X.K) := by
  intro pins s σ H x xs v us Q I rx rxs h
  obtain ⟨a, y, d, ds, rfl, rfl, hl, hy, sl, sd, q⟩ := h
  cases rx
  obtain ⟨uy, rfl, ry⟩ := rxs.one
  obtain ⟨bs, r1⟩ := Dp.reads I d y uy hy ry
  have can : PyData.canLayAll0 ds = true := SeqAt.canLay_of_shaped sl
  have room : X.A.units + 1 + min (PyData.depthAll ds) d.depth < cLine := room_in_shaped sd hu
  cases hl with
  | lst hs ha =>
    obtain ⟨its, rv, ⟨⟨cls, dd, data, sls⟩, n, ho, hc, hdn, hdt⟩, hlen⟩ := I.list hs
    simp only at hc hdt
    subst hc hdt
    obtain ⟨as, h4⟩ := Dp.readsAll I ds _ its ha rv
    have hmap : its.map (SeqAt.readOf s.heap) = ds := SeqAt.readsAll_map ds its as can h4
    refine call_meets PySem.F.slot_list_count ⟨_, ho, rfl⟩ PySem.F.entry_list_count (PySem.F.args_list_count_2 _ _)
      (SeqAt.list_countAt a its.toArray n dd sls uy fun u => PyData.eqv (SeqAt.readOf s.heap u) d) ⟨ho, SeqAt.items_eqAt (vs := its.toArray) (show ReadsAll s.heap its.toArray.toList ds as from h4) r1 can (SeqAt.canLay_of_shaped sd) room, ?_⟩
    have ec : its.toArray.toList.countP (fun u => PyData.eqv (SeqAt.readOf s.heap u) d) = ds.countP fun z => PyData.eqv z d := by
      rw [← hmap, List.countP_map]
      rfl
    exact ⟨.int (ds.countP fun z => PyData.eqv z d : Nat), H, I.tok _, ⟨_, by rw [ec]⟩, q⟩
/-! ### xs[::k], k 1 or -1 -/
theorem pick_one (items : Array Value) : slicePick items none none (some 1) = items := by
  have e : (1 : Int) = ((1 : Nat) : Int) := rfl
  unfold slicePick
  show ((sliceRange 0 (items.size : Int) 1).filterMap (items[·]?)).toArray = _
  have er : sliceRange 0 (items.size : Int) 1 = List.range items.size := by
    unfold sliceRange
    by_cases h : (0 : Int) < items.size
    · have e : ((items.size : Int) - 0 + 1 - 1) / 1 = (items.size : Int) := by omega
      simp only [show (1 : Int) > 0 by decide, if_true, h, e, Int.toNat_natCast]
      apply List.ext_getElem
      · simp
      · intro i h1 h2
        simp
    · have e : items.size = 0 := by omega
      simp [e]
  rw [er, PySem.W.krv_all]
def tStepL (K : PySem.W.Frag) (te ts : TE) : TE := fun σ H Q => te σ H fun x H1 => tPart ts σ H1 fun o H2 => ∃ i, o = some i ∧ ∃ a xs, x = .ref a ∧ SqL K H2 a xs ∧ (i = 1 ∨ i = -1) ∧ ∀ p, H2 p = none → Q (.ref p) (upd H2 p (.lst (if i = 1 then xs else xs.reverse)))
theorem pe_stepL {e st : Expr} {te ts : TE} {p3 pos : Pos} (he : PE X e te) (hst : PE X st ts) : PE X (.Subscript e (.Slice none none (some st) p3) pos) (tStepL X.K te ts) := by
  refine ⟨fun pins s σ H Q I h => ?_⟩
  refine Subscript_ (thn (he.run pins s σ H _ I h) fun v s1 ⟨x, H1, I1, r1, q1⟩ => ?_)
  have po : PO X (some st) (tPart ts) := po_some hst
  refine wpAny_Slice (thn (po_none.run pins s1 σ H1 (fun o H2 => o = none ∧ H2 = H1) I1 ⟨rfl, rfl⟩) fun vl s2 ⟨l, H2, I2, pl, el, e2⟩ => ?_)
  subst el e2
  refine thn (po_none.run pins s2 σ H2 (fun o H3 => o = none ∧ H3 = H2) I2 ⟨rfl, rfl⟩) fun vu s3 ⟨u, H3, I3, pu, eu, e3⟩ => ?_
  subst eu e3
  refine thn (po.run pins s3 σ H3 _ I3 q1) fun vs s4 ⟨o, H4, I4, ps, i, eo, a, xs, ex, hx, hi, q⟩ => ?_
  subst eo ex
  cases r1
  have I5 : Inv X pins σ H4 { s4 with heap := s4.heap.push { cls := .type "slice", data := .fields #[vl, vu, vs] } } := I4.kept (t' := s4.toks) fun b ob q => Heap.get?_push_of_some _ q
  obtain ⟨its, r, ht, hz⟩ := I5.list hx
  have hlen := r.length
  show wpAny (model X.prog X.w) X.A (subscriptTail e (.Slice none none (some st) p3) (.ref a) (.ref s4.heap.objs.size)) (EP X pins σ Q) X.xe { s4 with heap := s4.heap.push { cls := .type "slice", data := .fields #[vl, vu, vs] } }
  refine tail_any (ops := [.ref a, .ref s4.heap.objs.size]) ht.isList.typeIs (PySem.slot_list_getitem.lookup) ?_ (by with_unfolding_all rfl)
  refine wpAny_getItem_list_slice ht.isList (Heap.IsSliceOf.new _ vl vu vs) pl pu ps (by rcases hi with rfl | rfl <;> decide) ?_ (by rw [List.size_toArray]; omega)
  have big : ∀ b ob, s4.heap.get? b = some ob → (s4.heap.push { cls := .type "slice", data := .fields #[vl, vu, vs] }).get? b = some ob := fun b ob q => Heap.get?_push_of_some _ q
  rcases hi with rfl | rfl
  · rw [pick_one]
    refine ⟨.ref _, _, I5.laid (t' := s4.toks) (o := .lst xs) (fun b ob q => Heap.get?_push_of_some _ q) (Nat.le_refl _) ?_, rfl, q _ (I5.hok.fresh (Nat.le_refl _))⟩
    exact ⟨hz, _, 0, r, Heap.get?_push_size _ rfl⟩
  · rw [PySem.W.krv_pick]
    refine ⟨.ref _, _, I5.laid (t' := s4.toks) (o := .lst xs.reverse) (fun b ob q => Heap.get?_push_of_some _ q) (Nat.le_refl _) ?_, rfl, q _ (I5.hok.fresh (Nat.le_refl _))⟩
    exact ⟨by rw [List.length_reverse]; exact hz, _, 0, r.reverse, Heap.get?_push_size _ rfl⟩
end
end L2

namespace HL
open PySem PySem.Spec PyProof.Rows L2
def countQ {α : Type} [DecidableEq α] (l : List α) (a : α) : Option Int := some (l.count a : Nat)
def sortSetGQ {α : Type} [Enc α] [IT α] [DecidableEq α] (l : List α) : Option (List α) := if (uniq l).length < 63 then some (sortSetL l) else none
def lenSetGQ {α : Type} [DecidableEq α] (l : List α) : Option Int := if (uniq l).length < 63 then some ((uniq l).length : Nat) else none
def stepQ {α : Type} (l : List α) (k : Int) : Option (List α) := if k = 1 ∨ k = -1 then some (if k = 1 then l else l.reverse) else none
section
variable {X : Cx} {γ α : Type} [Enc α] [DecidableEq α] [EqE α] {Ve : Ev γ} {m m1 m2 : Md} {p p1 p2 : Bool} {a b e : Expr} {pos : Pos}
theorem count_enc (l : List α) (x : α) : (l.map enc).countP (fun z => PyData.eqv z (enc x)) = l.count x := by
  rw [List.countP_map, List.count]
  refine List.countP_congr fun y _ => ?_
  show PyData.eqv (enc y) (enc x) = true ↔ (y == x) = true
  rw [EqE.eqv]
  simp
theorem s_count {f : Ac γ (List α)} {h : Ac γ α} {ap : Pos} (hu : X.A.units + 65 < cLine) (ha : SE X Ve m1 p1 a f) (hb : SE X Ve m2 p2 b h) (hm : okM m1 p2 = true := by rfl) (hd : EqE.dep α < 64 := by decide) (hmm : Bm1 X a "count" ap b pos := by exact ⟨rfl, rfl, rfl, rfl, rfl⟩) :
    SE X Ve .fr (p1 && p2) (.Call (.Attribute a "count" ap) [b] [] pos) (op2 countQ f h) := ⟨fun Z W hK tk => by
  obtain ⟨h1, h2, h3, h4, h5⟩ := hmm
  refine (pe_bm PySem.F.plainAttrs_list PySem.F.slot_list_count PySem.F.type_list_count (mt_cntD hu) (ha.run Z W hK tk) (pa_cons (hb.run Z W hK tk) pa_nil h4) h1 h2 h3 h4 h5).weak fun σ H Q q => ?_
  rw [← hK]
  exact tBM_ok (r := rCntD Z.K) (fun A g σ H x y l k c Q j rx ry ec q => by
    obtain rfl := some_inj' ec
    have fx : Rp Z.K H x (enc l) := rx.full
    obtain ⟨t, vs, rfl, e2, e3⟩ := rp_list fx
    have dl : Dp Z.K H (.ref t) (.list (l.map enc)) := fx.dp _ (EqE.lay l)
    have dk : Dp Z.K H y (enc k) := ry.full.dp _ (EqE.lay k)
    refine ⟨t, y, enc k, l.map enc, rfl, rfl, dl, dk, shaped_enc (α := List α) (show EqE.dep α + 1 ≤ 64 by omega) l, shaped_enc (Nat.le_of_lt hd) k, ?_⟩
    rw [count_enc]
    exact q _ H (Same.refl H) j (.int _)) (fun A g σ H x l j rx => ty_list (g := g) (σ := σ) rx) hm q⟩
theorem s_step {f : Ac γ (List α)} {h : Ac γ Int} {p3' : Pos} (ha : SE X Ve m1 p1 a f) (hb : SE X Ve m2 p2 b h) (hm : okM m1 p2 = true := by rfl) (hels : ElsT X (α := α) Ve m1 := by first | exact fun _ _ _ _ _ _ _ j r => rm_elsT rfl r | exact fun _ _ _ _ _ _ _ j r => rm_elsF j r) :
    SN X Ve (p1 && p2) (.Subscript a (.Slice none none (some b) p3') pos) (op2 stepQ f h) := ⟨fun Z W hK tk => (pe_stepL (ha.run Z W hK tk) (hb.run Z W hK tk)).weak fun σ H Q q =>
  tOpN_ok (r := fun x y H Q => ∃ i, y = .int i ∧ ∃ i', some i = some i' ∧ ∃ a xs, x = .ref a ∧ SqL X.K H a xs ∧ (i' = 1 ∨ i' = -1) ∧ ∀ p, H p = none → Q (.ref p) (upd H p (.lst (if i' = 1 then xs else xs.reverse)))) (m1 := m1) (m2 := m2) (fun A g σ H x y l k c Q j rx ry ec q => by
    obtain ⟨t, vs, rfl, e2, e3⟩ := hels Z A g σ H x l j rx
    cases rp_int ry.full
    obtain ⟨hk, rfl⟩ := ite_some ec
    refine ⟨k, rfl, k, rfl, t, vs, rfl, seqL e2, hk, fun n hn => q n _ hn ?_⟩
    by_cases h1 : k = 1
    · rw [if_pos h1, if_pos h1]; exact e3
    · rw [if_neg h1, if_neg h1, List.map_reverse]; exact e3.reverse) hm q⟩
end
section
variable {X : Cx} {γ α β : Type} [Enc α] {C : FC γ β} {xj : XJ γ} {Ve : Ev γ} {pos : Pos}
def popS {γ α β : Type} (get : γ → List α) (put : γ → List α → γ) : Sc γ β := fun g => if (get g).isEmpty then .bad else .nx (put g (get g).dropLast)
def clearS {γ α β : Type} (get : γ → List α) (put : γ → List α → γ) : Sc γ β := fun g => .nx (put g [])
theorem c_pop (i : Nat) (get : γ → List α) (put : γ → List α → γ) {n : Str} {p0 ap cp : Pos} (hi : Ve[i]? = some (.own fun g => (get g).map enc) := by rfl) (hput : ∀ g l, at_ Ve (put g l) = (at_ Ve g).set i (.own (l.map enc)) := by exact fun _ _ => rfl)
    (hN : X.N[i]? = some n := by rfl) (hv : Vis X.env.scope n := by first | exact Or.inl rfl | exact Or.inr (Or.inl rfl) | exact Or.inr (Or.inr rfl)) (hd : (n == ("__debug__" : Str)) = false := by decide) (hcd : (n == ("__classdict__" : Str)) = false := by decide)
    (hm : Bm0 X (.Name n p0) "pop" ap cp := by exact ⟨rfl, rfl⟩) (hs : swapsWith (.Call (.Attribute (.Name n p0) "pop" ap) [] [] cp) none pos.line X.env = pure false := by rfl) :
    SS X C xj Ve Ve (.Expr (.Call (.Attribute (.Name n p0) "pop" ap) [] [] cp) pos) (popS get put) := ⟨fun Z W hK hio tk => by
  obtain ⟨m1, m2⟩ := hm
  refine (ps_expr (pe_bm0 PySem.F.plainAttrs_list PySem.F.slot_list_pop PySem.F.type_list_pop mt_pop (pe_var hN hv hd hcd) m1 m2) hs).weak fun D σ H q => ?_
  obtain ⟨g0, A0, j0, q0⟩ := q
  have hr : (at_ Ve g0)[i]? = some (.own ((get g0).map enc)) := by rw [at_get, hi]; rfl
  obtain ⟨e1, vs, e2, e3⟩ := j0.own i _ hr
  rw [ow_at] at e3
  refine ⟨_, e1, .inl ⟨rfl, vs, seqL e2⟩, ?_⟩
  unfold popS at q0
  have el := e3.length
  rw [List.length_map] at el
  by_cases hl : (get g0).isEmpty = true
  · rw [if_pos hl] at q0
    exact q0.elim
  · rw [if_neg hl] at q0
    have ne : 0 < vs.length := by
      rw [el]
      exact List.length_pos_iff.mpr fun z => hl (by rw [z]; rfl)
    refine ⟨A0 i, vs, vs[vs.length - 1], rfl, rfl, e2, List.getElem?_eq_getElem (by omega), ?_⟩
    have rd : RpA Z.K (GH Z (OwV A0 Ve) H) vs.dropLast ((get g0).dropLast.map enc) := by
      rw [List.map_dropLast, List.dropLast_eq_take, List.dropLast_eq_take, el, List.length_map]
      exact e3.take _
    obtain ⟨j2, st⟩ := j_chg (vs := vs.dropLast) (l := (get g0).dropLast) j0 hi hput rd
    exact q0 A0 σ _ j2 st⟩
theorem c_clear (i : Nat) (get : γ → List α) (put : γ → List α → γ) {n : Str} {p0 ap cp : Pos} (hi : Ve[i]? = some (.own fun g => (get g).map enc) := by rfl) (hput : ∀ g l, at_ Ve (put g l) = (at_ Ve g).set i (.own (l.map enc)) := by exact fun _ _ => rfl)
    (hN : X.N[i]? = some n := by rfl) (hv : Vis X.env.scope n := by first | exact Or.inl rfl | exact Or.inr (Or.inl rfl) | exact Or.inr (Or.inr rfl)) (hd : (n == ("__debug__" : Str)) = false := by decide) (hcd : (n == ("__classdict__" : Str)) = false := by decide)
    (hm : Bm0 X (.Name n p0) "clear" ap cp := by exact ⟨rfl, rfl⟩) (hs : swapsWith (.Call (.Attribute (.Name n p0) "clear" ap) [] [] cp) none pos.line X.env = pure false := by rfl) :
    SS X C xj Ve Ve (.Expr (.Call (.Attribute (.Name n p0) "clear" ap) [] [] cp) pos) (clearS get put) := ⟨fun Z W hK hio tk => by
  obtain ⟨m1, m2⟩ := hm
  refine (ps_expr (pe_bm0 PySem.F.plainAttrs_list PySem.F.slot_list_clear PySem.F.type_list_clear mt_clear (pe_var hN hv hd hcd) m1 m2) hs).weak fun D σ H q => ?_
  obtain ⟨g0, A0, j0, q0⟩ := q
  have hr : (at_ Ve g0)[i]? = some (.own ((get g0).map enc)) := by rw [at_get, hi]; rfl
  obtain ⟨e1, vs, e2, e3⟩ := j0.own i _ hr
  refine ⟨_, e1, .inl ⟨rfl, vs, seqL e2⟩, ?_⟩
  unfold clearS at q0
  obtain ⟨j2, st⟩ := j_chg (vs := []) (l := []) j0 hi hput .nil
  exact ⟨A0 i, vs, rfl, rfl, e2, q0 A0 σ _ j2 st⟩⟩
end
/-! ### sorted(set(l)), len(set(l)), l long with few unlike ones -/
section
variable {X : Cx} {γ α : Type} [Enc α] [IT α] {Ve : Ev γ} {m : Md} {p : Bool} {e : Expr} {pos : Pos}
theorem few_uniq [DecidableEq α] {l : List α} {ks : List (Addr × List Int)} (k2 : ks.map (·.2) = l.map IT.key) (h : (uniq l).length < 63) : FewK ks := by
  refine ⟨(uniq l).map IT.key, by rw [List.length_map]; exact h, fun p hp => ?_⟩
  have : p.2 ∈ l.map IT.key := by rw [← k2]; exact List.mem_map.mpr ⟨p, hp, rfl⟩
  obtain ⟨a, ha, ea⟩ := List.mem_map.mp this
  exact List.mem_map.mpr ⟨a, mem_uniq.mpr ha, ea⟩
theorem s_sortSetG [DecidableEq α] {f : Ac γ (List α)} {p0 p1 pos2 : Pos} (hu : X.A.units + 64 < cLine) (hx : X.mg "sorted" = none) (hx2 : X.mg "set" = none) (hc : X.calm = true) (ha : SE X Ve m p e f) (hels : ElsT X (α := α) Ve m := by first | exact fun _ _ _ _ _ _ _ j r => rm_elsT rfl r | exact fun _ _ _ _ _ _ _ j r => rm_elsF j r) (hg : Gl X "sorted" := by rfl) (hg2 : Gl X "set" := by rfl)
    (he : starEach (e :: []) X.env = (false, eval e X.env) :: starEach [] X.env := by rfl) (he2 : starEach (.Call (.Name "set" p1) [e] [] pos2 :: []) X.env = (false, eval (.Call (.Name "set" p1) [e] [] pos2) X.env) :: starEach [] X.env := by rfl) (hpl : (backTo pos (starEach [] X.env)).any (·.1) = false := by rfl) (hpl2 : (backTo pos2 (starEach [] X.env)).any (·.1) = false := by rfl) :
    SN X Ve p (.Call (.Name "sorted" p0) [.Call (.Name "set" p1) [e] [] pos2] [] pos) (op1 sortSetGQ f) :=
  ⟨fun Z W hK tk => (pe_callB (cr_sortS hc) hg hx (by decide +kernel) (pa_cons (pe_callTy (cr_setOfG hc hu) hg2 hx2 PyProof.Rows.boot_set (pa_cons (ha.run Z W hK tk) pa_nil he) (by decide) (by decide) he hpl2) pa_nil he2) (by decide) (by decide) he2 hpl).weak fun σ H Q q => by
    rw [tCBset]
    refine tUnN_ok2 (m := m) (fun A g σ H x l c Q j rx e q => ?_) q
    obtain ⟨t, vs, rfl, e2, e3⟩ := hels Z A g σ H x l j rx
    obtain ⟨hfew, rfl⟩ := ite_some e
    obtain ⟨ks, k1, k2, k3⟩ := rpA_keys l e3
    subst k1
    have hne : ∀ y ∈ ks, y.2 ≠ [] := by
      intro y hy
      have : y.2 ∈ l.map IT.key := by rw [← k2]; exact List.mem_map.mpr ⟨y, hy, rfl⟩
      obtain ⟨a, _, ea⟩ := List.mem_map.mp this
      rw [← ea]
      exact IT.ne a
    have hsq : ∀ y ∈ ks, SqT X.K H y.1 (y.2.map V.int) := fun y hy => hK ▸ sqT_same gh_le (rpI_sqT (k3 y hy))
    refine ⟨t, ks, rfl, seqL e2, hsq, few_uniq k2 hfew, fun a L hn h1 h2 => ?_⟩
    have sm : Same H (upd H a (SetTO X.prog X.w a L)) := same_new hn
    refine ⟨a, L, rfl, upd_same, fun y hy => ⟨sqT_same sm (hsq y (h1 y hy)), hne y (h1 y hy)⟩, fun M n hp hnd hs hn2 => ?_⟩
    have hM1 : ∀ y ∈ M, y ∈ ks := fun y hy => h1 y (hp.mem_iff.mp hy)
    have hM2 : ∀ y ∈ ks, y.2 ∈ M.map (·.2) := fun y hy => (hp.map (·.2)).mem_iff.mpr (h2 y hy)
    obtain ⟨k, m1, m2, m3⟩ := set_keys k2 hM1 hM2 hnd
    have ek : k = sortSetL l := by
      refine sortSetL_eq m3 m2 ?_
      have hs' : (M.map (·.2)).Pairwise fun a b => lexL b a = false := List.pairwise_map.mpr hs
      rw [m1] at hs'
      exact (List.pairwise_map.mp hs').imp fun {a b} z => by simp [leT, z]
    subst ek
    refine q n _ _ sm hn2 (rpA_back m1 fun y hy => ?_)
    exact Rp.mono (Gr.of sm).gh _ (k3 y (hM1 y hy))⟩
theorem s_lenSetG [DecidableEq α] {f : Ac γ (List α)} {p0 p1 pos2 : Pos} (hu : X.A.units + 64 < cLine) (hx : X.mg "len" = none) (hx2 : X.mg "set" = none) (hc : X.calm = true) (ha : SE X Ve m p e f) (hg : Gl X "len" := by rfl) (hg2 : Gl X "set" := by rfl)
    (he : starEach (e :: []) X.env = (false, eval e X.env) :: starEach [] X.env := by rfl) (he2 : starEach (.Call (.Name "set" p1) [e] [] pos2 :: []) X.env = (false, eval (.Call (.Name "set" p1) [e] [] pos2) X.env) :: starEach [] X.env := by rfl) (hpl : (backTo pos (starEach [] X.env)).any (·.1) = false := by rfl) (hpl2 : (backTo pos2 (starEach [] X.env)).any (·.1) = false := by rfl) :
    SE X Ve .fr p (.Call (.Name "len" p0) [.Call (.Name "set" p1) [e] [] pos2] [] pos) (op1 lenSetGQ f) :=
  ⟨fun Z W hK tk => (pe_callB cr_lenS hg hx PySem.boot_len (pa_cons (pe_callTy (cr_setOfG hc hu) hg2 hx2 PyProof.Rows.boot_set (pa_cons (ha.run Z W hK tk) pa_nil he) (by decide) (by decide) he hpl2) pa_nil he2) (by decide) (by decide) he2 hpl).weak fun σ H Q q => by
    rw [tCBset]
    refine tUn_ok (m1 := m) (fun A g σ H x l c Q j rx e q => ?_) q
    obtain ⟨t, vs, rfl, e2, e3⟩ := rm_els rx
    obtain ⟨hfew, rfl⟩ := ite_some e
    obtain ⟨ks, k1, k2, k3⟩ := rpA_keys l e3
    subst k1
    have hsq : ∀ y ∈ ks, SqT X.K H y.1 (y.2.map V.int) := fun y hy => hK ▸ sqT_same hp_le (rpI_sqT (k3 y hy))
    refine ⟨t, ks, rfl, seqL e2, hsq, few_uniq k2 hfew, fun a L hn h1 h2 => ?_⟩
    have sm : Same H (upd H a (SetTO X.prog X.w a L)) := same_new hn
    refine ⟨a, L, rfl, upd_same, fun y hy => sqT_same sm (hsq y (h1 y hy)), fun hnd => ?_⟩
    obtain ⟨k, m1, m2, m3⟩ := set_keys k2 h1 h2 hnd
    have hl : L.length = (uniq l).length := by
      have e1 := congrArg List.length m1
      simp only [List.length_map] at e1
      rw [e1]
      exact ((List.perm_ext_iff_of_nodup m2 (nodup_uniq l)).mpr fun a => by rw [m3, mem_uniq]).length_eq
    rw [hl]
    exact q _ _ sm (j.new hn) (.int _)⟩
end
end HL
/-! Gk: list(reversed(xs)). -/
namespace HL
open PySem PySem.Spec PyProof.Rows L2 RT
section
variable {prog : Program} {w : World} {A : Around} {E : Value → Shared → Prop} {s : Shared}
abbrev lo0 : Obj := { cls := .type "list", data := .seq #[] }
set_option maxHeartbeats 1000000 in
theorem call_list_rev {it l : Addr} {items : Array Value} {Q : Value → Shared → Prop} (calm : A.handled = none) (ir : s.heap.IsRevIter it l ((items.size : Int) - 1)) (il : s.heap.IsList l items) (ne : l ≠ it) (small : items.size ≤ sizeLine)
    (fin : ∀ (h2 : Heap) (tk : Nat) (acc : Array Value) (c : Nat), (∀ b o, b ≠ it → s.heap.get? b = some o → h2.get? b = some o) → h2.get? s.heap.objs.size = some { cls := .type "list", dict := none, data := .seq acc c, slots := #[] } → ItemsOf (fun i v => items[items.size - 1 - i]? = some v) acc items.size →
      Q (.ref s.heap.objs.size) { s with heap := h2, toks := tk }) :
    wpAny (model prog w) A (call (.type "list") [.ref it]) Q E s := by
  obtain ⟨oi, goi, _⟩ := id ir
  obtain ⟨ol, gol, _⟩ := id il
  have nei : s.heap.objs.size ≠ it := Nat.ne_of_gt (Heap.lt_size goi)
  have nel : s.heap.objs.size ≠ l := Nat.ne_of_gt (Heap.lt_size gol)
  have nin : s.heap.objs.size ∉ [it, l] := by simp only [List.mem_cons, List.not_mem_nil, or_false, not_or]; exact ⟨nei, nel⟩
  refine callType_codes (Q₁ := fun ob s1 => ob = .ref s.heap.objs.size ∧ s1 = { s with heap := s.heap.push lo0 }) F.called_list (F.typeCall_list_1 _) F.entry_list_init
    (code_list_new _ ⟨rfl, rfl⟩) fun ob s1 e1 => ?_
  obtain ⟨rfl, rfl⟩ := e1
  have gS : (s.heap.push lo0).get? s.heap.objs.size = some lo0 := Heap.get?_push_size _ rfl
  refine ⟨⟨_, gS, rfl⟩, F.args_list_init_2 _ _, ?_⟩
  show wpAny _ A.in1.in1 (do let old ← Builtin.List.listItems (.ref s.heap.objs.size); Builtin.List.listUpdate (.ref s.heap.objs.size) (fun _ => #[]); letGo old.toList.reverse; Builtin.List.listExtendWith (.ref s.heap.objs.size) (.ref it) .none) _ _ _
  refine wpAny_bind ?_
  unfold Builtin.List.listItems
  refine wpAny_bind (wpAny_seqItems (s := { s with heap := s.heap.push lo0 }) gS rfl (wpAny_pure ?_))
  show wpAny _ A.in1.in1 (updateSeq s.heap.objs.size (fun _ => #[]) >>= fun _ => letGo (#[] : Array Value).toList.reverse >>= fun _ => Builtin.List.listExtendWith (.ref s.heap.objs.size) (.ref it) .none) _ _ _
  refine wpAny_bind (wpAny_updateSeq (s := { s with heap := s.heap.push lo0 }) gS rfl ?_)
  have gS2 := Heap.get?_update_self (Obj.mapSeq (fun _ => (#[] : Array Value))) gS rfl
  have oth : ∀ b o, b ≠ s.heap.objs.size → (s.heap.push lo0).get? b = some o → ((s.heap.push lo0).update s.heap.objs.size (Obj.mapSeq (fun _ => (#[] : Array Value)))).get? b = some o :=
    fun b o hb e => (Heap.get?_update_other _ _ (Ne.symm hb)).trans e
  refine wpAny_bind (wpAny_letGo ?_)
  dsimp only at gS2 oth ⊢
  generalize hh2 : (s.heap.push lo0).update s.heap.objs.size (Obj.mapSeq (fun _ => (#[] : Array Value))) = h2 at gS2 oth ⊢
  have keep : ∀ b o, b ≠ s.heap.objs.size → s.heap.get? b = some o → h2.get? b = some o := fun b o hb e => oth b o hb (Heap.get?_push_of_some _ e)
  have ir2 : h2.IsRevIter it l ((items.size : Int) - 1) := ir.at fun o e => keep it o (Ne.symm nei) e
  have il2 : h2.IsList l items := by
    obtain ⟨o, e, r⟩ := il
    exact ⟨o, keep l o (Ne.symm nel) e, r⟩
  have tit : ({ s with heap := h2 } : Shared).TypeIs (.ref it) "list_reverseiterator" := Heap.IsRevIter.typeIs (s := { s with heap := h2 }) ir2
  have ns : Builtin.List.listSameRef (.ref s.heap.objs.size) (.ref it) = false := by simp [Builtin.List.listSameRef, nei]
  have W := (Walks.listRev (prog := prog) (w := w) (A := A.in1.in1) calm it l ne items).toS
  unfold Builtin.List.listExtendWith
  refine wpAny_bind (wpAny_typeOf tit ?_)
  rw [if_neg (by rw [ns]; decide)]
  refine wpAny_bind (wpAny_pyIter_revIter (s := { s with heap := h2 }) ir2 ?_)
  refine wpAny_bind (wpAny_holding ?_)
  unfold Builtin.List.listLengthHint
  refine wpAny_bind (wpAny_specialOf tit nolen_lri ?_)
  show wpAny _ A.in1.in1 (specialOf (Value.ref it) (Str.ofString "__length_hint__") >>= _) _ _ _
  refine wpAny_bind (wpAny_specialOf tit hint_lri ?_)
  generalize eid : ("list_reverseiterator.__length_hint__" : String) = id0
  wp_delta
  rw [show splitId id0 = some ("list_reverseiterator", "__length_hint__") from by subst eid; decide +kernel]
  subst eid
  refine wpAny_bind (wpAny_isInstance (b := true) tit (by rw [isSubtype_type]; kernel_rfl) ?_)
  refine wpAny_pure ?_
  rw [if_neg (by decide)]
  have e0 : ((items.size : Nat) : Int) - 1 - ((0 : Nat) : Int) = (items.size : Int) - 1 := by omega
  refine wpAny_pure ⟨plainId_quiet F.plain_extend_loop _, codeAny_extend_loopS W small _ nin _ items.size 0 _ _ _ rfl (Nat.zero_le _) ⟨Nat.zero_le _, by rw [e0]; exact ir2, il2⟩ gS2 (ItemsOf.nil _) fun s3 acc c mv g3 ac => ?_⟩
  rw [Moved.eq_with mv]
  refine ⟨rfl, fin s3.heap s3.toks acc c (fun b o hb e => mv.heap b o (fun z => ?_) (keep b o (Nat.ne_of_lt (Heap.lt_size e)) e)) g3 ac⟩
  rcases List.mem_cons.mp z with z | z
  · exact absurd (Heap.lt_size e) (by rw [z]; exact Nat.lt_irrefl _)
  · exact hb (List.mem_singleton.mp z)
end
section
variable {X : Cx}
def tLstRev (K : PySem.W.Frag) (te : TE) : TE := fun σ H Q => te σ H fun v H1 => ∃ (a : Addr) (xs : List V), v = .ref a ∧ SqL K H1 a xs ∧ ∀ q, H1 q = none → Q (.ref q) (upd H1 q (.lst xs.reverse))
theorem pe_lstRev {e : Expr} {te : TE} {p p2 pos pos2 : Pos} (hc : X.calm = true) (hg : Gl X "list") (hm : X.mg "list" = none) (hg2 : Gl X "reversed") (hm2 : X.mg "reversed" = none) (he : PE X e te)
    (hs : starEach [e] X.env = (false, eval e X.env) :: starEach [] X.env)
    (hs2 : starEach [.Call (.Name "reversed" p2) [e] [] pos2] X.env = (false, eval (.Call (.Name "reversed" p2) [e] [] pos2) X.env) :: starEach [] X.env) :
    PE X (.Call (.Name "list" p) [.Call (.Name "reversed" p2) [e] [] pos2] [] pos) (tLstRev X.K te) := by
  refine ⟨fun pins s σ H Q I h => ?_⟩
  refine Call_ (ld_blt I hg hm boot_list (PyProof.Rows.callWith_type1 (args_cons (Call_ (ld_blt I hg2 hm2 PyProof.Rows.boot_reversed (PyProof.Rows.callWith_type1 (args_cons (thn (he.run pins s σ H _ I h) fun u s1 ⟨v, H1, I1, r1, q1⟩ => args_nil ?_) hs) hs rfl))) hs2) hs2 rfl))
  obtain ⟨a, xs, ev, hq, q⟩ := q1
  subst ev
  obtain rfl : u = Value.ref a := r1
  obtain ⟨its, rv, p', hz⟩ := I1.list hq
  refine call_reversed_list p'.isList (args_nil ?_)
  have k0 : ∀ b o, s1.heap.get? b = some o → (s1.heap.push (revObj a ((its.toArray.size : Int) - 1))).get? b = some o := fun b o e => Heap.get?_push_of_some _ e
  have I2 : Inv X pins σ H1 { s1 with heap := s1.heap.push (revObj a ((its.toArray.size : Int) - 1)) } := I1.kept (t' := s1.toks) k0
  obtain ⟨f0, f1, f2, f3, f4, f5⟩ := I1.fpOk (H' := H1) (b := s1.heap.objs.size) (Nat.le_refl _) (I1.hok.fresh (Nat.le_refl _))
  have hl := p'.isList
  obtain ⟨ol, hol, _⟩ := id hl
  have hne : a ≠ s1.heap.objs.size := Nat.ne_of_lt (Heap.lt_size hol)
  have hn : its.toArray.size ≤ sizeLine := by rw [List.size_toArray, ← rv.length]; exact hz
  refine call_list_rev (s := { s1 with heap := s1.heap.push (revObj a ((its.toArray.size : Int) - 1)) }) (I1.ok.hd hc) ⟨_, Heap.get?_push_size _ rfl, rfl, rfl⟩ (hl.push _) hne hn fun h' tk acc c hk ho hi => ?_
  have sz : (s1.heap.push (revObj a ((its.toArray.size : Int) - 1))).objs.size = s1.heap.objs.size + 1 := Heap.size_push ..
  have le : s1.heap.objs.size ≤ (s1.heap.push (revObj a ((its.toArray.size : Int) - 1))).objs.size := by rw [sz]; exact Nat.le_succ _
  refine ⟨.ref _, upd H1 _ (.lst xs.reverse), I1.laid (t' := tk) (o := .lst xs.reverse) (fun b o e => hk b o (Nat.ne_of_lt (Heap.lt_size e)) (Heap.get?_push_of_some _ e)) le ?_, rfl, q _ (I1.hok.fresh le)⟩
  exact ⟨by rw [List.length_reverse]; exact hz, acc.toList, c, vals_rev rv hi, by rw [Array.toArray_toList]; exact ho⟩
end
section
variable {X : Cx} {γ α : Type} [Enc α] {Ve : Ev γ} {m : Md} {p : Bool} {e : Expr} {pos : Pos}
theorem s_lstRev {f : Ac γ (List α)} {p0 p2 pos2 : Pos} (hc : X.calm = true) (hx : X.mg "list" = none) (hx2 : X.mg "reversed" = none) (ha : SE X Ve m p e f) (hels : ElsT X (α := α) Ve m := by first | exact fun _ _ _ _ _ _ _ j r => rm_elsT rfl r | exact fun _ _ _ _ _ _ _ j r => rm_elsF j r) (hg : Gl X "list" := by rfl) (hg2 : Gl X "reversed" := by rfl)
    (he : starEach [e] X.env = (false, eval e X.env) :: starEach [] X.env := by rfl) (he2 : starEach [.Call (.Name "reversed" p2) [e] [] pos2] X.env = (false, eval (.Call (.Name "reversed" p2) [e] [] pos2) X.env) :: starEach [] X.env := by rfl) :
    SN X Ve p (.Call (.Name "list" p0) [.Call (.Name "reversed" p2) [e] [] pos2] [] pos) (op1 revQ f) := ⟨fun Z W hK tk => (pe_lstRev hc hg hx hg2 hx2 (ha.run Z W hK tk) he he2).weak fun σ H Q q =>
  tUnN_ok (r := fun x H Q => ∃ a xs, x = .ref a ∧ SqL X.K H a xs ∧ ∀ p, H p = none → Q (.ref p) (upd H p (.lst xs.reverse))) (m1 := m) (fun A g σ H x l c Q j rx e q => by
    obtain ⟨t, vs, rfl, e2, e3⟩ := hels Z A g σ H x l j rx
    obtain rfl := some_inj' e
    refine ⟨t, vs, rfl, seqL e2, fun n hn => q n _ hn ?_⟩
    rw [List.map_reverse]
    exact e3.reverse) q⟩
end
/-! ### plain side -/
section
variable {γ α β : Type} {N : γ → Prop} {R : β → γ → Prop} {X : Str → γ → Prop} {g : γ}
theorem o_count [DecidableEq α] {l : List α} {a : α} {Q : Int → Prop} : opt (countQ l a) Q ↔ Q (l.count a : Nat) := Iff.rfl
theorem o_sortSetG [Enc α] [IT α] [DecidableEq α] {l : List α} {Q : List α → Prop} : opt (sortSetGQ l) Q ↔ (uniq l).length < 63 ∧ Q (sortSetL l) := o_ite
theorem o_lenSetG [DecidableEq α] {l : List α} {Q : Int → Prop} : opt (lenSetGQ l) Q ↔ (uniq l).length < 63 ∧ Q ((uniq l).length : Nat) := o_ite
theorem o_step {l : List α} {k : Int} {Q : List α → Prop} : opt (stepQ l k) Q ↔ (k = 1 ∨ k = -1) ∧ Q (if k = 1 then l else l.reverse) := o_ite
theorem q_pop {get : γ → List α} {put : γ → List α → γ} : (popS (β := β) get put g).post N R X ↔ get g ≠ [] ∧ N (put g (get g).dropLast) := by
  unfold popS
  cases e : get g with
  | nil => simp [SRes.post]
  | cons a l => simp [SRes.post]
theorem q_clear {get : γ → List α} {put : γ → List α → γ} : (clearS (β := β) get put g).post N R X ↔ N (put g []) := Iff.rfl
end
end HL
namespace HL
open PySem PySem.Spec PyProof.Rows L2
def topS (i : Nat) : Stmt := PySem.Challenge.pw_halveline_k71_cakes_and_areas.main.body.getD i (.Pass ⟨0, 0, 0, 0⟩)
/-! sign_of -/
structure G_sign_of where
  v_number : Int
abbrev V_sign_of_0 : Ev G_sign_of := [.imm true fun g => enc g.v_number]
abbrev A_sign_of := Int × Unit
def pa_sign_of (a : A_sign_of) : List Par := [.imm true (enc a.1)]
def in_sign_of (a : A_sign_of) : G_sign_of := { v_number := a.1 }
def io_sign_of (g : G_sign_of) : Unit := ()
def po_sign_of (y : Unit) : List (Nat × List D) := []
abbrev C_sign_of : FC G_sign_of Int := ⟨.fr, enc, []⟩
abbrev b_sign_of : Sc G_sign_of Int :=
      (retS (op2 subI (op1 intB (op2 gtI (pureA (fun g : G_sign_of => g.v_number)) (pureA fun _ => (0 : Int)))) (op1 intB (op2 ltI (pureA (fun g : G_sign_of => g.v_number)) (pureA fun _ => (0 : Int))))))
def F_sign_of : A_sign_of → FRes Int Unit := finF b_sign_of in_sign_of io_sign_of (none)
abbrev sS_sign_of : Stmt := topS 1
abbrev N_sign_of : List Str := ["number"]
theorem sc_sign_of : FnScope N_sign_of ["number"] (defScope sS_sign_of) := ⟨rfl, rfl, rfl, by decide +kernel, rfl, by decide +kernel, by decide +kernel⟩
abbrev P_sign_of (K : PySem.W.Frag) (mg : Str → Option Value) : Sp := spOf K mg .fr pa_sign_of enc po_sign_of F_sign_of
set_option maxHeartbeats 4000000 in
theorem ok_sign_of {P : Program} {w : World} {K : PySem.W.Frag} {mg : Str → Option Value} {base : Heap} {f : Addr} {fd : FuncData} (F : Fun K "sign_of" "sign_of" sS_sign_of f fd) (B : Bi mg) : FnOk P w K mg base (L2.CX P w) 1 f fd ["number"] (P_sign_of K mg) := by
  refine fn_ok F sc_sign_of C_sign_of V_sign_of_0 V_sign_of_0 pa_sign_of in_sign_of io_sign_of po_sign_of (none) (body := b_sign_of) (fun _ => rfl) (fun _ => rfl) (fun _ => rfl) (fun _ => rfl) (by intro b h; cases h) fun cdv A outer s H E hr => ?_
  exact (s_last (c_ret xfr_ok (s_sub (s_intB B.int (s_gt (svT 0 (fun g : G_sign_of => g.v_number)) (si 0))) (s_intB B.int (s_lt (svT 0 (fun g : G_sign_of => g.v_number)) (si 0))))))
/-! turn -/
structure G_turn where
  v_one : (Int × Int)
  v_two : (Int × Int)
  v_three : (Int × Int)
  v_across : Int
abbrev V_turn_0 : Ev G_turn := [.imm true fun g => enc g.v_one, .imm true fun g => enc g.v_two, .imm true fun g => enc g.v_three, .imm true fun g => enc g.v_across]
abbrev V_turn_1 : Ev G_turn := [.imm true fun g => enc g.v_one, .imm true fun g => enc g.v_two, .imm true fun g => enc g.v_three, .no]
abbrev A_turn := (Int × Int) × (Int × Int) × (Int × Int) × Unit
def pa_turn (a : A_turn) : List Par := [.imm true (enc a.1), .imm true (enc a.2.1), .imm true (enc a.2.2.1)]
def in_turn (a : A_turn) : G_turn := { v_one := a.1, v_two := a.2.1, v_three := a.2.2.1, v_across := 0 }
def io_turn (g : G_turn) : Unit := ()
def po_turn (y : Unit) : List (Nat × List D) := []
abbrev C_turn : FC G_turn Int := ⟨.fr, enc, []⟩
abbrev b_turn : Sc G_turn Int :=
      (bindS (setS (fun g a => { g with v_across := a }) (op2 subI (op2 mulI (op2 subI (op1 (fun x => some ((fun x : (Int × Int) => x.1) x)) (pureA (fun g : G_turn => g.v_two))) (op1 (fun x => some ((fun x : (Int × Int) => x.1) x)) (pureA (fun g : G_turn => g.v_one)))) (op2 subI (op1 (fun x => some ((fun x : (Int × Int) => x.2) x)) (pureA (fun g : G_turn => g.v_three))) (op1 (fun x => some ((fun x : (Int × Int) => x.2) x)) (pureA (fun g : G_turn => g.v_one))))) (op2 mulI (op2 subI (op1 (fun x => some ((fun x : (Int × Int) => x.2) x)) (pureA (fun g : G_turn => g.v_two))) (op1 (fun x => some ((fun x : (Int × Int) => x.2) x)) (pureA (fun g : G_turn => g.v_one)))) (op2 subI (op1 (fun x => some ((fun x : (Int × Int) => x.1) x)) (pureA (fun g : G_turn => g.v_three))) (op1 (fun x => some ((fun x : (Int × Int) => x.1) x)) (pureA (fun g : G_turn => g.v_one)))))))
      (retS (callA (fun (g : G_turn) (t : Int × Unit) => (t.1, ())) F_sign_of (pairA (pureA (fun g : G_turn => g.v_across)) (pureA fun _ => ())))))
def F_turn : A_turn → FRes Int Unit := finF b_turn in_turn io_turn (none)
abbrev sS_turn : Stmt := topS 2
abbrev N_turn : List Str := ["one", "two", "three", "across"]
theorem sc_turn : FnScope N_turn ["one", "two", "three"] (defScope sS_turn) := ⟨rfl, rfl, rfl, by decide +kernel, rfl, by decide +kernel, by decide +kernel⟩
abbrev P_turn (K : PySem.W.Frag) (mg : Str → Option Value) : Sp := spOf K mg .fr pa_turn enc po_turn F_turn
set_option maxHeartbeats 4000000 in
theorem ok_turn {P : Program} {w : World} {K : PySem.W.Frag} {mg : Str → Option Value} {base : Heap} {f : Addr} {fd : FuncData} (F : Fun K "turn" "turn" sS_turn f fd) (B : Bi mg) (c_sign_of : Cal P w K mg base 1 "sign_of" ["number"] (P_sign_of K mg)) : FnOk P w K mg base (L2.CX P w) 2 f fd ["one", "two", "three"] (P_turn K mg) := by
  refine fn_ok F sc_turn C_turn V_turn_1 V_turn_1 pa_turn in_turn io_turn po_turn (none) (body := b_turn) (fun _ => rfl) (fun _ => rfl) (fun _ => rfl) (fun _ => rfl) (by intro b h; cases h) fun cdv A outer s H E hr => ?_
  exact (s_cons (c_set (Ve' := V_turn_0) 3 (fun g a => { g with v_across := a }) xfr_ok (s_sub (s_mul (s_sub (s_pr 0 (fun x : (Int × Int) => x.1) (svT 1 (fun g : G_turn => g.v_two))) (s_pr 0 (fun x : (Int × Int) => x.1) (svT 0 (fun g : G_turn => g.v_one)))) (s_sub (s_pr 1 (fun x : (Int × Int) => x.2) (svT 2 (fun g : G_turn => g.v_three))) (s_pr 1 (fun x : (Int × Int) => x.2) (svT 0 (fun g : G_turn => g.v_one))))) (s_mul (s_sub (s_pr 1 (fun x : (Int × Int) => x.2) (svT 1 (fun g : G_turn => g.v_two))) (s_pr 1 (fun x : (Int × Int) => x.2) (svT 0 (fun g : G_turn => g.v_one)))) (s_sub (s_pr 0 (fun x : (Int × Int) => x.1) (svT 2 (fun g : G_turn => g.v_three))) (s_pr 0 (fun x : (Int × Int) => x.1) (svT 0 (fun g : G_turn => g.v_one)))))) (hN := sc_turn.nd))
      (s_last (c_ret xfr_ok (x_call (bs := []) (fun (g : G_turn) (t : Int × Unit) => (t.1, ())) c_sign_of hr (a_cons (svT 3 (fun g : G_turn => g.v_across)) a_nil) (by exact fun _ _ => ⟨⟨rfl, fun _ => Flat.flat _⟩, trivial⟩)))))
/-! sides_of -/
structure G_sides_of where
  v_cake : (List (Int × Int))
  v_k : Int
abbrev V_sides_of_0 : Ev G_sides_of := [.imm false fun g => enc g.v_cake, .imm true fun g => enc g.v_k]
abbrev V_sides_of_1 : Ev G_sides_of := [.imm false fun g => enc g.v_cake, .no]
abbrev A_sides_of := (List (Int × Int)) × Unit
def pa_sides_of (a : A_sides_of) : List Par := [.imm false (enc a.1)]
def in_sides_of (a : A_sides_of) : G_sides_of := { v_cake := a.1, v_k := 0 }
def io_sides_of (g : G_sides_of) : Unit := ()
def po_sides_of (y : Unit) : List (Nat × List D) := []
abbrev C_sides_of : FC G_sides_of (List ((Int × Int) × (Int × Int))) := ⟨.nw, enc, []⟩
abbrev b_sides_of : Sc G_sides_of (List ((Int × Int) × (Int × Int))) :=
      (retS (compA (op1 rng1 (op1 lenQ (pureA (fun g : G_sides_of => g.v_cake)))) (fun (g : G_sides_of) (a : Int) => { g with v_k := a }) yesA (op1 (fun t => some ((fun t : (Int × Int) × (Int × Int) × Unit => ((t.1, t.2.1) : ((Int × Int) × (Int × Int)))) t)) (pairA (op2 atI (pureA (fun g : G_sides_of => g.v_cake)) (op2 subI (pureA (fun g : G_sides_of => g.v_k)) (pureA fun _ => (1 : Int)))) (pairA (op2 atI (pureA (fun g : G_sides_of => g.v_cake)) (pureA (fun g : G_sides_of => g.v_k))) (pureA fun _ => ()))))))
def F_sides_of : A_sides_of → FRes (List ((Int × Int) × (Int × Int))) Unit := finF b_sides_of in_sides_of io_sides_of (none)
abbrev sS_sides_of : Stmt := topS 4
abbrev N_sides_of : List Str := ["cake", "k"]
theorem sc_sides_of : FnScope N_sides_of ["cake"] (defScope sS_sides_of) := ⟨rfl, rfl, rfl, by decide +kernel, rfl, by decide +kernel, by decide +kernel⟩
abbrev P_sides_of (K : PySem.W.Frag) (mg : Str → Option Value) : Sp := spOf K mg .nw pa_sides_of enc po_sides_of F_sides_of
set_option maxHeartbeats 4000000 in
theorem ok_sides_of {P : Program} {w : World} {K : PySem.W.Frag} {mg : Str → Option Value} {base : Heap} {f : Addr} {fd : FuncData} (F : Fun K "sides_of" "sides_of" sS_sides_of f fd) (B : Bi mg) : FnOk P w K mg base (L2.CX P w) 1 f fd ["cake"] (P_sides_of K mg) := by
  refine fn_ok F sc_sides_of C_sides_of V_sides_of_1 V_sides_of_1 pa_sides_of in_sides_of io_sides_of po_sides_of (none) (body := b_sides_of) (fun _ => rfl) (fun _ => rfl) (fun _ => rfl) (fun _ => rfl) (by intro b h; cases h) fun cdv A outer s H E hr => ?_
  exact (s_last (c_retN xfr_ok (s_lc (α := Int) (set := (fun (g : G_sides_of) (a : Int) => { g with v_k := a })) (ok := blkOk_by (N := N_sides_of) (sc := defScope sS_sides_of) (by decide +kernel)) [("k", 1)] V_sides_of_0  rfl sc_sides_of.nd (i_rng1 B.range (s_len B.len (svF 0 (fun g : G_sides_of => g.v_cake)))) (fun _ _ _ _ _ => (g_name (Ve' := V_sides_of_0) 1 (fun (g : G_sides_of) (a : Int) => { g with v_k := a }) (hN := sc_sides_of.nd))) (fun _ _ _ _ _ => ts_nil) (fun _ _ _ _ _ => (s_tup (fun t : (Int × Int) × (Int × Int) × Unit => ((t.1, t.2.1) : ((Int × Int) × (Int × Int)))) true (a_cons (SE.flat (s_ix (svF 0 (fun g : G_sides_of => g.v_cake)) (s_sub (svT 1 (fun g : G_sides_of => g.v_k)) (si 1)))) (a_cons (SE.flat (s_ix (svF 0 (fun g : G_sides_of => g.v_cake)) (svT 1 (fun g : G_sides_of => g.v_k)))) a_nil)))))))
/-! is_cake -/
structure G_is_cake where
  v_thing : (List (Int × Int))
  v_k : Int
  v_j : Int
abbrev V_is_cake_0 : Ev G_is_cake := [.imm false fun g => enc g.v_thing, .no, .no]
abbrev V_is_cake_1 : Ev G_is_cake := [.imm false fun g => enc g.v_thing, .imm true fun g => enc g.v_k, .no]
abbrev V_is_cake_2 : Ev G_is_cake := [.imm false fun g => enc g.v_thing, .imm true fun g => enc g.v_k, .imm true fun g => enc g.v_j]
abbrev A_is_cake := (List (Int × Int)) × Unit
def pa_is_cake (a : A_is_cake) : List Par := [.imm false (enc a.1)]
def in_is_cake (a : A_is_cake) : G_is_cake := { v_thing := a.1, v_k := 0, v_j := 0 }
def io_is_cake (g : G_is_cake) : Unit := ()
def po_is_cake (y : Unit) : List (Nat × List D) := []
abbrev C_is_cake : FC G_is_cake Bool := ⟨.fr, enc, []⟩
abbrev b_is_cake : Sc G_is_cake Bool :=
      (bindS (ifS (op2 ltI (op1 lenQ (pureA (fun g : G_is_cake => g.v_thing))) (pureA fun _ => (3 : Int))) (retS (pureA fun _ => false))
      nxS)
      (bindS (forS (op1 rng1 (op1 lenQ (pureA (fun g : G_is_cake => g.v_thing)))) (fun (g : G_is_cake) (a : Int) => { g with v_k := a }) (forS (op1 rng1 (op2 subI (op1 lenQ (pureA (fun g : G_is_cake => g.v_thing))) (pureA fun _ => (2 : Int)))) (fun (g : G_is_cake) (a : Int) => { g with v_j := a }) (ifS (op2 neQ (callA (fun (g : G_is_cake) (t : (Int × Int) × (Int × Int) × (Int × Int) × Unit) => (t.1, t.2.1, t.2.2.1, ())) F_turn (pairA (op2 atI (pureA (fun g : G_is_cake => g.v_thing)) (op2 subI (pureA (fun g : G_is_cake => g.v_k)) (pureA fun _ => (1 : Int)))) (pairA (op2 atI (pureA (fun g : G_is_cake => g.v_thing)) (pureA (fun g : G_is_cake => g.v_k))) (pairA (op2 atI (pureA (fun g : G_is_cake => g.v_thing)) (op2 modI (op2 addI (op2 addI (pureA (fun g : G_is_cake => g.v_k)) (pureA fun _ => (1 : Int))) (pureA (fun g : G_is_cake => g.v_j))) (op1 lenQ (pureA (fun g : G_is_cake => g.v_thing))))) (pureA fun _ => ()))))) (pureA fun _ => (1 : Int))) (retS (pureA fun _ => false))
      nxS)))
      (retS (pureA fun _ => true))))
def F_is_cake : A_is_cake → FRes Bool Unit := finF b_is_cake in_is_cake io_is_cake (none)
abbrev sS_is_cake : Stmt := topS 5
abbrev N_is_cake : List Str := ["thing", "k", "j"]
theorem sc_is_cake : FnScope N_is_cake ["thing"] (defScope sS_is_cake) := ⟨rfl, rfl, rfl, by decide +kernel, rfl, by decide +kernel, by decide +kernel⟩
abbrev P_is_cake (K : PySem.W.Frag) (mg : Str → Option Value) : Sp := spOf K mg .fr pa_is_cake enc po_is_cake F_is_cake
set_option maxHeartbeats 4000000 in
theorem ok_is_cake {P : Program} {w : World} {K : PySem.W.Frag} {mg : Str → Option Value} {base : Heap} {f : Addr} {fd : FuncData} (F : Fun K "is_cake" "is_cake" sS_is_cake f fd) (B : Bi mg) (c_turn : Cal P w K mg base 2 "turn" ["one", "two", "three"] (P_turn K mg)) : FnOk P w K mg base (L2.CX P w) 3 f fd ["thing"] (P_is_cake K mg) := by
  refine fn_ok F sc_is_cake C_is_cake V_is_cake_0 V_is_cake_0 pa_is_cake in_is_cake io_is_cake po_is_cake (none) (body := b_is_cake) (fun _ => rfl) (fun _ => rfl) (fun _ => rfl) (fun _ => rfl) (by intro b h; cases h) fun cdv A outer s H E hr => ?_
  exact (s_cons (c_if (Ve' := V_is_cake_0) xfr_ok (t_lt (s_len B.len (svF 0 (fun g : G_is_cake => g.v_thing))) (si 3)) (s_last (c_ret xfr_ok (sb false)))
      s_nil)
      (s_cons (c_for (Ve := V_is_cake_0) (VL := V_is_cake_1) (set := (fun (g : G_is_cake) (a : Int) => { g with v_k := a })) xfr_ok (passes_of rfl) rfl (i_rng1 B.range (s_len B.len (svF 0 (fun g : G_is_cake => g.v_thing)))) (g_name (Ve' := V_is_cake_1) 1 (fun (g : G_is_cake) (a : Int) => { g with v_k := a }) (hN := sc_is_cake.nd))
      (SB.wk (Ve' := V_is_cake_1) (s_last (c_for (Ve := V_is_cake_1) (VL := V_is_cake_2) (set := (fun (g : G_is_cake) (a : Int) => { g with v_j := a })) xfr_ok (passes_of rfl) rfl (i_rng1 B.range (s_sub (s_len B.len (svF 0 (fun g : G_is_cake => g.v_thing))) (si 2))) (g_name (Ve' := V_is_cake_2) 2 (fun (g : G_is_cake) (a : Int) => { g with v_j := a }) (hN := sc_is_cake.nd))
      (SB.wk (Ve' := V_is_cake_2) (s_last (c_if (Ve' := V_is_cake_2) xfr_ok (t_ne hr.units (x_call (bs := []) (fun (g : G_is_cake) (t : (Int × Int) × (Int × Int) × (Int × Int) × Unit) => (t.1, t.2.1, t.2.2.1, ())) c_turn hr (a_cons (SE.flat (s_ix (svF 0 (fun g : G_is_cake => g.v_thing)) (s_sub (svT 1 (fun g : G_is_cake => g.v_k)) (si 1)))) (a_cons (SE.flat (s_ix (svF 0 (fun g : G_is_cake => g.v_thing)) (svT 1 (fun g : G_is_cake => g.v_k)))) (a_cons (SE.flat (s_ix (svF 0 (fun g : G_is_cake => g.v_thing)) (s_mod (s_add (s_add (svT 1 (fun g : G_is_cake => g.v_k)) (si 1)) (svT 2 (fun g : G_is_cake => g.v_j))) (s_len B.len (svF 0 (fun g : G_is_cake => g.v_thing)))))) a_nil))) (by exact fun _ _ => ⟨⟨rfl, fun _ => Flat.flat _⟩, ⟨rfl, fun _ => Flat.flat _⟩, ⟨rfl, fun _ => Flat.flat _⟩, trivial⟩)) (si 1)) (s_last (c_ret xfr_ok (sb false)))
      s_nil)) (fun _ => ⟨.refl _, .refl _, .no _, trivial⟩) (by exact trivial) (by exact trivial)))) (fun _ => ⟨.refl _, .no _, .no _, trivial⟩) (by exact trivial) (by exact trivial)))
      (s_last (c_ret xfr_ok (sb true)))))
/-! area -/
structure G_area where
  v_cake : (List (Int × Int))
  v_one : (Int × Int)
  v_other : (Int × Int)
abbrev V_area_0 : Ev G_area := [.imm false fun g => enc g.v_cake, .imm true fun g => enc g.v_one, .no]
abbrev V_area_1 : Ev G_area := [.imm false fun g => enc g.v_cake, .imm true fun g => enc g.v_one, .imm true fun g => enc g.v_other]
abbrev V_area_2 : Ev G_area := [.imm false fun g => enc g.v_cake, .no, .no]
abbrev A_area := (List (Int × Int)) × Unit
def pa_area (a : A_area) : List Par := [.imm false (enc a.1)]
def in_area (a : A_area) : G_area := { v_cake := a.1, v_one := (0, 0), v_other := (0, 0) }
def io_area (g : G_area) : Unit := ()
def po_area (y : Unit) : List (Nat × List D) := []
abbrev C_area : FC G_area Int := ⟨.fr, enc, []⟩
abbrev b_area : Sc G_area Int :=
      (retS (op1 sumQ (compA (callA (fun (g : G_area) (t : (List (Int × Int)) × Unit) => (t.1, ())) F_sides_of (pairA (pureA (fun g : G_area => g.v_cake)) (pureA fun _ => ()))) (fun (g : G_area) (a : ((Int × Int) × (Int × Int))) => { g with v_one := a.1, v_other := a.2 }) yesA (op2 subI (op2 mulI (op1 (fun x => some ((fun x : (Int × Int) => x.1) x)) (pureA (fun g : G_area => g.v_one))) (op1 (fun x => some ((fun x : (Int × Int) => x.2) x)) (pureA (fun g : G_area => g.v_other)))) (op2 mulI (op1 (fun x => some ((fun x : (Int × Int) => x.1) x)) (pureA (fun g : G_area => g.v_other))) (op1 (fun x => some ((fun x : (Int × Int) => x.2) x)) (pureA (fun g : G_area => g.v_one))))))))
def F_area : A_area → FRes Int Unit := finF b_area in_area io_area (none)
abbrev sS_area : Stmt := topS 6
abbrev N_area : List Str := ["cake", "one", "other"]
theorem sc_area : FnScope N_area ["cake"] (defScope sS_area) := ⟨rfl, rfl, rfl, by decide +kernel, rfl, by decide +kernel, by decide +kernel⟩
abbrev P_area (K : PySem.W.Frag) (mg : Str → Option Value) : Sp := spOf K mg .fr pa_area enc po_area F_area
set_option maxHeartbeats 4000000 in
theorem ok_area {P : Program} {w : World} {K : PySem.W.Frag} {mg : Str → Option Value} {base : Heap} {f : Addr} {fd : FuncData} (F : Fun K "area" "area" sS_area f fd) (B : Bi mg) (c_sides_of : Cal P w K mg base 1 "sides_of" ["cake"] (P_sides_of K mg)) : FnOk P w K mg base (L2.CX P w) 2 f fd ["cake"] (P_area K mg) := by
  refine fn_ok F sc_area C_area V_area_2 V_area_2 pa_area in_area io_area po_area (none) (body := b_area) (fun _ => rfl) (fun _ => rfl) (fun _ => rfl) (fun _ => rfl) (by intro b h; cases h) fun cdv A outer s H E hr => ?_
  exact (s_last (c_ret xfr_ok (s_sum rfl B.sum (SN.se (s_lc (α := ((Int × Int) × (Int × Int))) (set := (fun (g : G_area) (a : ((Int × Int) × (Int × Int))) => { g with v_one := a.1, v_other := a.2 })) (ok := blkOk_by (N := N_area) (sc := defScope sS_area) (by decide +kernel)) [("one", 1), ("other", 2)] V_area_1  rfl sc_area.nd (i_list (SN.se (x_callN (bs := []) (fun (g : G_area) (t : (List (Int × Int)) × Unit) => (t.1, ())) c_sides_of hr (a_cons (svF 0 (fun g : G_area => g.v_cake)) a_nil) (by exact fun _ _ => ⟨⟨rfl, fun h => nomatch h⟩, trivial⟩)))) (fun _ _ _ _ _ => (g_tup (fun a : ((Int × Int) × (Int × Int)) => (a.1, a.2, ())) rfl (gs_cons (g_name (Ve' := V_area_0) 1 (fun (g : G_area) (a : (Int × Int)) => { g with v_one := a }) (hN := sc_area.nd)) (gs_cons (g_name (Ve' := V_area_1) 2 (fun (g : G_area) (a : (Int × Int)) => { g with v_other := a }) (hN := sc_area.nd)) gs_nil)))) (fun _ _ _ _ _ => ts_nil) (fun _ _ _ _ _ => (s_sub (s_mul (s_pr 0 (fun x : (Int × Int) => x.1) (svT 1 (fun g : G_area => g.v_one))) (s_pr 1 (fun x : (Int × Int) => x.2) (svT 2 (fun g : G_area => g.v_other)))) (s_mul (s_pr 0 (fun x : (Int × Int) => x.1) (svT 2 (fun g : G_area => g.v_other))) (s_pr 1 (fun x : (Int × Int) => x.2) (svT 1 (fun g : G_area => g.v_one)))))))))))
/-! _law_pot -/
structure G_l_pot where
  v_script : List Int
  v_k : Int
  v_cell : Int
  v_mixed : Int
  v_one : Int
abbrev V_l_pot_0 : Ev G_l_pot := [.scr fun g => g.v_script, .imm true fun g => enc g.v_k, .imm true fun g => enc g.v_cell, .no, .no]
abbrev V_l_pot_1 : Ev G_l_pot := [.scr fun g => g.v_script, .imm true fun g => enc g.v_k, .imm true fun g => enc g.v_cell, .imm true fun g => enc g.v_mixed, .no]
abbrev V_l_pot_2 : Ev G_l_pot := [.scr fun g => g.v_script, .imm true fun g => enc g.v_k, .imm true fun g => enc g.v_cell, .imm true fun g => enc g.v_mixed, .imm true fun g => enc g.v_one]
abbrev V_l_pot_3 : Ev G_l_pot := [.scr fun g => g.v_script, .imm true fun g => enc g.v_k, .no, .no, .no]
abbrev A_l_pot := List Int × Int × Unit
def pa_l_pot (a : A_l_pot) : List Par := [.scr a.1, .imm true (enc a.2.1)]
def in_l_pot (a : A_l_pot) : G_l_pot := { v_script := a.1, v_k := a.2.1, v_cell := 0, v_mixed := 0, v_one := 0 }
def io_l_pot (g : G_l_pot) : Unit := ()
def po_l_pot (y : Unit) : List (Nat × List D) := []
abbrev C_l_pot : FC G_l_pot (List Int) := ⟨.nw, enc, []⟩
abbrev b_l_pot : Sc G_l_pot (List Int) :=
      (bindS (setS (fun g a => { g with v_cell := a }) (iteA (op2 ltI (pureA (fun g : G_l_pot => g.v_k)) (pureA fun g : G_l_pot => (g.v_script.length : Int))) (bindA (pureA (fun g : G_l_pot => g.v_k)) fun k => scrOp (fun g : G_l_pot => g.v_script) fun l => atI l k) (pureA fun _ => (0 : Int))))
      (bindS (setS (fun g a => { g with v_mixed := a }) (op2 addI (pureA fun _ => (1000003 : Int)) (op2 mulI (pureA fun _ => (7919 : Int)) (pureA (fun g : G_l_pot => g.v_k)))))
      (bindS (forS (bindA (pureA fun _ => none) fun a => bindA (op1 (fun i => some (some i)) (pureA fun _ => (40 : Int))) fun b => pureA fun g : G_l_pot => cut a b g.v_script) (fun (g : G_l_pot) (a : Int) => { g with v_one := a }) (setS (fun g a => { g with v_mixed := a }) (op2 modI (op2 addI (op2 mulI (pureA (fun g : G_l_pot => g.v_mixed)) (pureA fun _ => (39373 : Int))) (pureA (fun g : G_l_pot => g.v_one))) (pureA fun _ => (2147483629 : Int)))))
      (retS (op1 (fun t => some ((fun t : Int × Int × Unit => ([t.1, t.2.1] : List Int)) t)) (pairA (op2 max2Q (pureA fun _ => (0 : Int)) (op2 subI (pureA (fun g : G_l_pot => g.v_cell)) (op2 powI (pureA fun _ => (10 : Int)) (pureA fun _ => (18 : Int))))) (pairA (pureA (fun g : G_l_pot => g.v_mixed)) (pureA fun _ => ()))))))))
def F_l_pot : A_l_pot → FRes (List Int) Unit := finF b_l_pot in_l_pot io_l_pot (none)
abbrev sS_l_pot : Stmt := topS 8
abbrev N_l_pot : List Str := ["_law_script", "_law_k", "_law_cell", "_law_mixed", "_law_one"]
theorem sc_l_pot : FnScope N_l_pot ["_law_script", "_law_k"] (defScope sS_l_pot) := ⟨rfl, rfl, rfl, by decide +kernel, rfl, by decide +kernel, by decide +kernel⟩
abbrev P_l_pot (K : PySem.W.Frag) (mg : Str → Option Value) : Sp := spOf K mg .nw pa_l_pot enc po_l_pot F_l_pot
set_option maxHeartbeats 4000000 in
theorem ok_l_pot {P : Program} {w : World} {K : PySem.W.Frag} {mg : Str → Option Value} {base : Heap} {f : Addr} {fd : FuncData} (F : Fun K "_law_pot" "_law_pot" sS_l_pot f fd) (B : Bi mg) : FnOk P w K mg base (L2.CX P w) 1 f fd ["_law_script", "_law_k"] (P_l_pot K mg) := by
  refine fn_ok F sc_l_pot C_l_pot V_l_pot_3 V_l_pot_3 pa_l_pot in_l_pot io_l_pot po_l_pot (none) (body := b_l_pot) (fun _ => rfl) (fun _ => rfl) (fun _ => rfl) (fun _ => rfl) (by intro b h; cases h) fun cdv A outer s H E hr => ?_
  exact (s_cons (c_set (Ve' := V_l_pot_0) 2 (fun g a => { g with v_cell := a }) xfr_ok (s_ife (t_lt (svT 1 (fun g : G_l_pot => g.v_k)) (s_lenS 0 (fun g : G_l_pot => g.v_script) B.len)) (s_ixS 0 (fun g : G_l_pot => g.v_script) (svT 1 (fun g : G_l_pot => g.v_k))) (si 0)) (hN := sc_l_pot.nd))
      (s_cons (c_set (Ve' := V_l_pot_1) 3 (fun g a => { g with v_mixed := a }) xfr_ok (s_add (si 1000003) (s_mul (si 7919) (svT 1 (fun g : G_l_pot => g.v_k)))) (hN := sc_l_pot.nd))
      (s_cons (c_for (Ve := V_l_pot_1) (VL := V_l_pot_2) (set := (fun (g : G_l_pot) (a : Int) => { g with v_one := a })) xfr_ok (passes_of rfl) rfl (i_list (SN.se (s_slS 0 (fun g : G_l_pot => g.v_script) o_none (o_some (si 40))))) (g_name (Ve' := V_l_pot_2) 4 (fun (g : G_l_pot) (a : Int) => { g with v_one := a }) (hN := sc_l_pot.nd))
      (SB.wk (Ve' := V_l_pot_2) (s_last (c_set (Ve' := V_l_pot_2) 3 (fun g a => { g with v_mixed := a }) xfr_ok (s_mod (s_add (s_mul (svT 3 (fun g : G_l_pot => g.v_mixed)) (si 39373)) (svT 4 (fun g : G_l_pot => g.v_one))) (si 2147483629)) (hN := sc_l_pot.nd))) (fun _ => ⟨.refl _, .refl _, .refl _, .refl _, .no _, trivial⟩) (by exact trivial) (by exact trivial)))
      (s_last (c_retN xfr_ok (s_lst (fun t : Int × Int × Unit => ([t.1, t.2.1] : List Int)) (a_cons (s_max2 rfl B.max (si 0) (s_sub (svT 2 (fun g : G_l_pot => g.v_cell)) (s_pow (si 10) (si 18)))) (a_cons (svT 3 (fun g : G_l_pot => g.v_mixed)) a_nil))))))))
/-! _law_take -/
structure G_l_take where
  v_pot_here : (List Int)
  v_many : Int
  v_digit : Int
abbrev V_l_take_0 : Ev G_l_take := [.own fun g => g.v_pot_here.map enc, .imm true fun g => enc g.v_many, .imm true fun g => enc g.v_digit]
abbrev V_l_take_1 : Ev G_l_take := [.own fun g => g.v_pot_here.map enc, .imm true fun g => enc g.v_many, .no]
abbrev A_l_take := (List Int) × Int × Unit
def pa_l_take (a : A_l_take) : List Par := [.ino (a.1.map enc), .imm true (enc a.2.1)]
def in_l_take (a : A_l_take) : G_l_take := { v_pot_here := a.1, v_many := a.2.1, v_digit := 0 }
def io_l_take (g : G_l_take) : (List Int) := g.v_pot_here
def po_l_take (y : (List Int)) : List (Nat × List D) := [(0, y.map enc)]
abbrev C_l_take : FC G_l_take Int := ⟨.fr, enc, [(0, fun g => g.v_pot_here.map enc)]⟩
abbrev b_l_take : Sc G_l_take Int :=
      (bindS (ifS (op2 gtI (op2 atI (pureA (fun g : G_l_take => g.v_pot_here)) (pureA fun _ => (0 : Int))) (pureA fun _ => (0 : Int))) (bindS (setS (fun g a => { g with v_digit := a }) (op2 modI (op2 atI (pureA (fun g : G_l_take => g.v_pot_here)) (pureA fun _ => (0 : Int))) (pureA (fun g : G_l_take => g.v_many))))
      (bindS (sixS (fun g : G_l_take => g.v_pot_here) (fun g l => { g with v_pot_here := l }) (op2 fdivI (op2 atI (pureA (fun g : G_l_take => g.v_pot_here)) (pureA fun _ => (0 : Int))) (pureA (fun g : G_l_take => g.v_many))) (pureA fun _ => (0 : Int)))
      (retS (pureA (fun g : G_l_take => g.v_digit)))))
      nxS)
      (bindS (sixS (fun g : G_l_take => g.v_pot_here) (fun g l => { g with v_pot_here := l }) (op2 modI (op2 addI (op2 mulI (op2 atI (pureA (fun g : G_l_take => g.v_pot_here)) (pureA fun _ => (1 : Int))) (pureA fun _ => (39373 : Int))) (pureA fun _ => (2311 : Int))) (pureA fun _ => (2147483629 : Int))) (pureA fun _ => (1 : Int)))
      (retS (op2 modI (op2 fdivI (op2 modI (op2 mulI (op2 atI (pureA (fun g : G_l_take => g.v_pot_here)) (pureA fun _ => (1 : Int))) (op2 atI (pureA (fun g : G_l_take => g.v_pot_here)) (pureA fun _ => (1 : Int)))) (pureA fun _ => (2147483587 : Int))) (pureA fun _ => (17 : Int))) (pureA (fun g : G_l_take => g.v_many))))))
def F_l_take : A_l_take → FRes Int (List Int) := finF b_l_take in_l_take io_l_take (none)
abbrev sS_l_take : Stmt := topS 9
abbrev N_l_take : List Str := ["_law_pot_here", "_law_many", "_law_digit"]
theorem sc_l_take : FnScope N_l_take ["_law_pot_here", "_law_many"] (defScope sS_l_take) := ⟨rfl, rfl, rfl, by decide +kernel, rfl, by decide +kernel, by decide +kernel⟩
abbrev P_l_take (K : PySem.W.Frag) (mg : Str → Option Value) : Sp := spOf K mg .fr pa_l_take enc po_l_take F_l_take
set_option maxHeartbeats 4000000 in
theorem ok_l_take {P : Program} {w : World} {K : PySem.W.Frag} {mg : Str → Option Value} {base : Heap} {f : Addr} {fd : FuncData} (F : Fun K "_law_take" "_law_take" sS_l_take f fd) (B : Bi mg) : FnOk P w K mg base (L2.CX P w) 1 f fd ["_law_pot_here", "_law_many"] (P_l_take K mg) := by
  refine fn_ok F sc_l_take C_l_take V_l_take_1 V_l_take_1 pa_l_take in_l_take io_l_take po_l_take (none) (body := b_l_take) (fun _ => rfl) (fun _ => rfl) (fun _ => rfl) (fun _ => rfl) (by intro b h; cases h) fun cdv A outer s H E hr => ?_
  exact (s_cons (c_if (Ve' := V_l_take_1) xfr_ok (t_gt (s_ix (so 0 (fun g : G_l_take => g.v_pot_here)) (si 0)) (si 0)) (s_cons (c_set (Ve' := V_l_take_0) 2 (fun g a => { g with v_digit := a }) xfr_ok (s_mod (s_ix (so 0 (fun g : G_l_take => g.v_pot_here)) (si 0)) (svT 1 (fun g : G_l_take => g.v_many))) (hN := sc_l_take.nd))
      (s_cons (c_six 0 (fun g : G_l_take => g.v_pot_here) (fun g l => { g with v_pot_here := l }) xfr_ok (s_fdiv (s_ix (so 0 (fun g : G_l_take => g.v_pot_here)) (si 0)) (svT 1 (fun g : G_l_take => g.v_many))) (si 0))
      (s_last (c_ret xfr_ok (svT 2 (fun g : G_l_take => g.v_digit))))))
      s_nil)
      (s_cons (c_six 0 (fun g : G_l_take => g.v_pot_here) (fun g l => { g with v_pot_here := l }) xfr_ok (s_mod (s_add (s_mul (s_ix (so 0 (fun g : G_l_take => g.v_pot_here)) (si 1)) (si 39373)) (si 2311)) (si 2147483629)) (si 1))
      (s_last (c_ret xfr_ok (s_mod (s_fdiv (s_mod (s_mul (s_ix (so 0 (fun g : G_l_take => g.v_pot_here)) (si 1)) (s_ix (so 0 (fun g : G_l_take => g.v_pot_here)) (si 1))) (si 2147483587)) (si 17)) (svT 1 (fun g : G_l_take => g.v_many)))))))
/-! _law_wide -/
structure G_l_wide where
  v_pot_here : (List Int)
  v_found : Int
  v_k : Int
abbrev V_l_wide_0 : Ev G_l_wide := [.own fun g => g.v_pot_here.map enc, .imm true fun g => enc g.v_found, .no]
abbrev V_l_wide_1 : Ev G_l_wide := [.own fun g => g.v_pot_here.map enc, .imm true fun g => enc g.v_found, .imm true fun g => enc g.v_k]
abbrev V_l_wide_2 : Ev G_l_wide := [.own fun g => g.v_pot_here.map enc, .no, .no]
abbrev A_l_wide := (List Int) × Unit
def pa_l_wide (a : A_l_wide) : List Par := [.ino (a.1.map enc)]
def in_l_wide (a : A_l_wide) : G_l_wide := { v_pot_here := a.1, v_found := 0, v_k := 0 }
def io_l_wide (g : G_l_wide) : (List Int) := g.v_pot_here
def po_l_wide (y : (List Int)) : List (Nat × List D) := [(0, y.map enc)]
abbrev C_l_wide : FC G_l_wide Int := ⟨.fr, enc, [(0, fun g => g.v_pot_here.map enc)]⟩
abbrev b_l_wide : Sc G_l_wide Int :=
      (bindS (setS (fun g a => { g with v_found := a }) (pureA fun _ => (0 : Int)))
      (bindS (forS (op1 rng1 (pureA fun _ => (4 : Int))) (fun (g : G_l_wide) (a : Int) => { g with v_k := a }) (setS (fun g a => { g with v_found := a }) (op2 addI (op2 mulI (pureA (fun g : G_l_wide => g.v_found)) (op2 powI (pureA fun _ => (10 : Int)) (pureA fun _ => (8 : Int)))) (callIo (fun (g : G_l_wide) (t : Int × Unit) => (g.v_pot_here, t.1, ())) (fun (g : G_l_wide) y => { g with v_pot_here := y }) F_l_take (pairA (op2 powI (pureA fun _ => (10 : Int)) (pureA fun _ => (8 : Int))) (pureA fun _ => ()))))))
      (retS (op2 addI (op2 subI (op2 modI (pureA (fun g : G_l_wide => g.v_found)) (op2 subI (op2 mulI (pureA fun _ => (2 : Int)) (op2 powI (pureA fun _ => (10 : Int)) (pureA fun _ => (30 : Int)))) (pureA fun _ => (1 : Int)))) (op2 powI (pureA fun _ => (10 : Int)) (pureA fun _ => (30 : Int)))) (pureA fun _ => (1 : Int))))))
def F_l_wide : A_l_wide → FRes Int (List Int) := finF b_l_wide in_l_wide io_l_wide (none)
abbrev sS_l_wide : Stmt := topS 10
abbrev N_l_wide : List Str := ["_law_pot_here", "_law_found", "_law_k"]
theorem sc_l_wide : FnScope N_l_wide ["_law_pot_here"] (defScope sS_l_wide) := ⟨rfl, rfl, rfl, by decide +kernel, rfl, by decide +kernel, by decide +kernel⟩
abbrev P_l_wide (K : PySem.W.Frag) (mg : Str → Option Value) : Sp := spOf K mg .fr pa_l_wide enc po_l_wide F_l_wide
set_option maxHeartbeats 4000000 in
theorem ok_l_wide {P : Program} {w : World} {K : PySem.W.Frag} {mg : Str → Option Value} {base : Heap} {f : Addr} {fd : FuncData} (F : Fun K "_law_wide" "_law_wide" sS_l_wide f fd) (B : Bi mg) (c_l_take : Cal P w K mg base 1 "_law_take" ["_law_pot_here", "_law_many"] (P_l_take K mg)) : FnOk P w K mg base (L2.CX P w) 2 f fd ["_law_pot_here"] (P_l_wide K mg) := by
  refine fn_ok F sc_l_wide C_l_wide V_l_wide_2 V_l_wide_2 pa_l_wide in_l_wide io_l_wide po_l_wide (none) (body := b_l_wide) (fun _ => rfl) (fun _ => rfl) (fun _ => rfl) (fun _ => rfl) (by intro b h; cases h) fun cdv A outer s H E hr => ?_
  exact (s_cons (c_set (Ve' := V_l_wide_0) 1 (fun g a => { g with v_found := a }) xfr_ok (si 0) (hN := sc_l_wide.nd))
      (s_cons (c_for (Ve := V_l_wide_0) (VL := V_l_wide_1) (set := (fun (g : G_l_wide) (a : Int) => { g with v_k := a })) xfr_ok (passes_of rfl) rfl (i_rng1 B.range (si 4)) (g_name (Ve' := V_l_wide_1) 2 (fun (g : G_l_wide) (a : Int) => { g with v_k := a }) (hN := sc_l_wide.nd))
      (SB.wk (Ve' := V_l_wide_1) (s_last (c_set (Ve' := V_l_wide_1) 1 (fun g a => { g with v_found := a }) xfr_ok (s_add (s_mul (svT 1 (fun g : G_l_wide => g.v_found)) (s_pow (si 10) (si 8))) (x_callIo (bs := []) (fun (g : G_l_wide) (t : Int × Unit) => (g.v_pot_here, t.1, ())) (fun (g : G_l_wide) y => { g with v_pot_here := y }) 0 0 (fun y => y.map enc) c_l_take hr (a_slot 0 (a_cons (s_pow (si 10) (si 8)) a_nil)) (by exact fun _ _ => ⟨⟨⟨rfl, flatA_map _⟩, _, rfl, rfl⟩, ⟨rfl, fun _ => Flat.flat _⟩, trivial⟩))) (hN := sc_l_wide.nd))) (fun _ => ⟨.refl _, .refl _, .no _, trivial⟩) (by exact ⟨rfl, trivial⟩) (by exact ⟨rfl, trivial⟩)))
      (s_last (c_ret xfr_ok (s_add (s_sub (s_mod (svT 1 (fun g : G_l_wide => g.v_found)) (s_sub (s_mul (si 2) (s_pow (si 10) (si 30))) (si 1))) (s_pow (si 10) (si 30))) (si 1))))))
/-! _law_number -/
structure G_l_number where
  v_pot_here : (List Int)
abbrev V_l_number_0 : Ev G_l_number := [.own fun g => g.v_pot_here.map enc]
abbrev A_l_number := (List Int) × Unit
def pa_l_number (a : A_l_number) : List Par := [.ino (a.1.map enc)]
def in_l_number (a : A_l_number) : G_l_number := { v_pot_here := a.1 }
def io_l_number (g : G_l_number) : (List Int) := g.v_pot_here
def po_l_number (y : (List Int)) : List (Nat × List D) := [(0, y.map enc)]
abbrev C_l_number : FC G_l_number Int := ⟨.fr, enc, [(0, fun g => g.v_pot_here.map enc)]⟩
abbrev b_l_number : Sc G_l_number Int :=
      (bindS (ifS (op2 eqQ (callIo (fun (g : G_l_number) (t : Int × Unit) => (g.v_pot_here, t.1, ())) (fun (g : G_l_number) y => { g with v_pot_here := y }) F_l_take (pairA (pureA fun _ => (8 : Int)) (pureA fun _ => ()))) (pureA fun _ => (7 : Int))) (retS (callIo (fun (g : G_l_number) (t : Unit) => (g.v_pot_here, ())) (fun (g : G_l_number) y => { g with v_pot_here := y }) F_l_wide (pureA fun _ => ())))
      nxS)
      (retS (op2 subI (callIo (fun (g : G_l_number) (t : Int × Unit) => (g.v_pot_here, t.1, ())) (fun (g : G_l_number) y => { g with v_pot_here := y }) F_l_take (pairA (pureA fun _ => (13 : Int)) (pureA fun _ => ()))) (pureA fun _ => (6 : Int)))))
def F_l_number : A_l_number → FRes Int (List Int) := finF b_l_number in_l_number io_l_number (none)
abbrev sS_l_number : Stmt := topS 11
abbrev N_l_number : List Str := ["_law_pot_here"]
theorem sc_l_number : FnScope N_l_number ["_law_pot_here"] (defScope sS_l_number) := ⟨rfl, rfl, rfl, by decide +kernel, rfl, by decide +kernel, by decide +kernel⟩
abbrev P_l_number (K : PySem.W.Frag) (mg : Str → Option Value) : Sp := spOf K mg .fr pa_l_number enc po_l_number F_l_number
set_option maxHeartbeats 4000000 in
theorem ok_l_number {P : Program} {w : World} {K : PySem.W.Frag} {mg : Str → Option Value} {base : Heap} {f : Addr} {fd : FuncData} (F : Fun K "_law_number" "_law_number" sS_l_number f fd) (B : Bi mg) (c_l_take : Cal P w K mg base 1 "_law_take" ["_law_pot_here", "_law_many"] (P_l_take K mg)) (c_l_wide : Cal P w K mg base 2 "_law_wide" ["_law_pot_here"] (P_l_wide K mg)) : FnOk P w K mg base (L2.CX P w) 3 f fd ["_law_pot_here"] (P_l_number K mg) := by
  refine fn_ok F sc_l_number C_l_number V_l_number_0 V_l_number_0 pa_l_number in_l_number io_l_number po_l_number (none) (body := b_l_number) (fun _ => rfl) (fun _ => rfl) (fun _ => rfl) (fun _ => rfl) (by intro b h; cases h) fun cdv A outer s H E hr => ?_
  exact (s_cons (c_if (Ve' := V_l_number_0) xfr_ok (t_eq hr.units (x_callIo (bs := []) (fun (g : G_l_number) (t : Int × Unit) => (g.v_pot_here, t.1, ())) (fun (g : G_l_number) y => { g with v_pot_here := y }) 0 0 (fun y => y.map enc) c_l_take (hr.mono (by decide)) (a_slot 0 (a_cons (si 8) a_nil)) (by exact fun _ _ => ⟨⟨⟨rfl, flatA_map _⟩, _, rfl, rfl⟩, ⟨rfl, fun _ => Flat.flat _⟩, trivial⟩)) (si 7)) (s_last (c_ret xfr_ok (x_callIo (bs := []) (fun (g : G_l_number) (t : Unit) => (g.v_pot_here, ())) (fun (g : G_l_number) y => { g with v_pot_here := y }) 0 0 (fun y => y.map enc) c_l_wide hr (a_slot 0 a_nil) (by exact fun _ _ => ⟨⟨⟨rfl, flatA_map _⟩, _, rfl, rfl⟩, trivial⟩))))
      s_nil)
      (s_last (c_ret xfr_ok (s_sub (x_callIo (bs := []) (fun (g : G_l_number) (t : Int × Unit) => (g.v_pot_here, t.1, ())) (fun (g : G_l_number) y => { g with v_pot_here := y }) 0 0 (fun y => y.map enc) c_l_take (hr.mono (by decide)) (a_slot 0 (a_cons (si 13) a_nil)) (by exact fun _ _ => ⟨⟨⟨rfl, flatA_map _⟩, _, rfl, rfl⟩, ⟨rfl, fun _ => Flat.flat _⟩, trivial⟩)) (si 6)))))
/-! _law_across -/
structure G_l_across where
  v_one : (Int × Int)
  v_two : (Int × Int)
  v_three : (Int × Int)
  v_found : Int
abbrev V_l_across_0 : Ev G_l_across := [.imm true fun g => enc g.v_one, .imm true fun g => enc g.v_two, .imm true fun g => enc g.v_three, .imm true fun g => enc g.v_found]
abbrev V_l_across_1 : Ev G_l_across := [.imm true fun g => enc g.v_one, .imm true fun g => enc g.v_two, .imm true fun g => enc g.v_three, .no]
abbrev A_l_across := (Int × Int) × (Int × Int) × (Int × Int) × Unit
def pa_l_across (a : A_l_across) : List Par := [.imm true (enc a.1), .imm true (enc a.2.1), .imm true (enc a.2.2.1)]
def in_l_across (a : A_l_across) : G_l_across := { v_one := a.1, v_two := a.2.1, v_three := a.2.2.1, v_found := 0 }
def io_l_across (g : G_l_across) : Unit := ()
def po_l_across (y : Unit) : List (Nat × List D) := []
abbrev C_l_across : FC G_l_across Int := ⟨.fr, enc, []⟩
abbrev b_l_across : Sc G_l_across Int :=
      (bindS (setS (fun g a => { g with v_found := a }) (op2 mulI (op2 subI (op1 (fun x => some ((fun x : (Int × Int) => x.1) x)) (pureA (fun g : G_l_across => g.v_two))) (op1 (fun x => some ((fun x : (Int × Int) => x.1) x)) (pureA (fun g : G_l_across => g.v_one)))) (op2 subI (op1 (fun x => some ((fun x : (Int × Int) => x.2) x)) (pureA (fun g : G_l_across => g.v_three))) (op1 (fun x => some ((fun x : (Int × Int) => x.2) x)) (pureA (fun g : G_l_across => g.v_one))))))
      (retS (op2 subI (pureA (fun g : G_l_across => g.v_found)) (op2 mulI (op2 subI (op1 (fun x => some ((fun x : (Int × Int) => x.2) x)) (pureA (fun g : G_l_across => g.v_two))) (op1 (fun x => some ((fun x : (Int × Int) => x.2) x)) (pureA (fun g : G_l_across => g.v_one)))) (op2 subI (op1 (fun x => some ((fun x : (Int × Int) => x.1) x)) (pureA (fun g : G_l_across => g.v_three))) (op1 (fun x => some ((fun x : (Int × Int) => x.1) x)) (pureA (fun g : G_l_across => g.v_one))))))))
def F_l_across : A_l_across → FRes Int Unit := finF b_l_across in_l_across io_l_across (none)
abbrev sS_l_across : Stmt := topS 12
abbrev N_l_across : List Str := ["_law_one", "_law_two", "_law_three", "_law_found"]
theorem sc_l_across : FnScope N_l_across ["_law_one", "_law_two", "_law_three"] (defScope sS_l_across) := ⟨rfl, rfl, rfl, by decide +kernel, rfl, by decide +kernel, by decide +kernel⟩
abbrev P_l_across (K : PySem.W.Frag) (mg : Str → Option Value) : Sp := spOf K mg .fr pa_l_across enc po_l_across F_l_across
set_option maxHeartbeats 4000000 in
theorem ok_l_across {P : Program} {w : World} {K : PySem.W.Frag} {mg : Str → Option Value} {base : Heap} {f : Addr} {fd : FuncData} (F : Fun K "_law_across" "_law_across" sS_l_across f fd) (B : Bi mg) : FnOk P w K mg base (L2.CX P w) 1 f fd ["_law_one", "_law_two", "_law_three"] (P_l_across K mg) := by
  refine fn_ok F sc_l_across C_l_across V_l_across_1 V_l_across_1 pa_l_across in_l_across io_l_across po_l_across (none) (body := b_l_across) (fun _ => rfl) (fun _ => rfl) (fun _ => rfl) (fun _ => rfl) (by intro b h; cases h) fun cdv A outer s H E hr => ?_
  exact (s_cons (c_set (Ve' := V_l_across_0) 3 (fun g a => { g with v_found := a }) xfr_ok (s_mul (s_sub (s_pr 0 (fun x : (Int × Int) => x.1) (svT 1 (fun g : G_l_across => g.v_two))) (s_pr 0 (fun x : (Int × Int) => x.1) (svT 0 (fun g : G_l_across => g.v_one)))) (s_sub (s_pr 1 (fun x : (Int × Int) => x.2) (svT 2 (fun g : G_l_across => g.v_three))) (s_pr 1 (fun x : (Int × Int) => x.2) (svT 0 (fun g : G_l_across => g.v_one))))) (hN := sc_l_across.nd))
      (s_last (c_ret xfr_ok (s_sub (svT 3 (fun g : G_l_across => g.v_found)) (s_mul (s_sub (s_pr 1 (fun x : (Int × Int) => x.2) (svT 1 (fun g : G_l_across => g.v_two))) (s_pr 1 (fun x : (Int × Int) => x.2) (svT 0 (fun g : G_l_across => g.v_one)))) (s_sub (s_pr 0 (fun x : (Int × Int) => x.1) (svT 2 (fun g : G_l_across => g.v_three))) (s_pr 0 (fun x : (Int × Int) => x.1) (svT 0 (fun g : G_l_across => g.v_one)))))))))
/-! _law_chain -/
structure G_l_chain where
  v_points : (List (Int × Int))
  v_found : (List (Int × Int))
  v_point : (Int × Int)
abbrev V_l_chain_0 : Ev G_l_chain := [.imm false fun g => enc g.v_points, .own fun g => g.v_found.map enc, .no]
abbrev V_l_chain_1 : Ev G_l_chain := [.imm false fun g => enc g.v_points, .own fun g => g.v_found.map enc, .imm false fun g => enc g.v_point]
abbrev V_l_chain_2 : Ev G_l_chain := [.imm false fun g => enc g.v_points, .imm true fun g => enc g.v_found, .no]
abbrev V_l_chain_3 : Ev G_l_chain := [.imm false fun g => enc g.v_points, .no, .no]
abbrev A_l_chain := (List (Int × Int)) × Unit
def pa_l_chain (a : A_l_chain) : List Par := [.imm false (enc a.1)]
def in_l_chain (a : A_l_chain) : G_l_chain := { v_points := a.1, v_found := [], v_point := (0, 0) }
def io_l_chain (g : G_l_chain) : Unit := ()
def po_l_chain (y : Unit) : List (Nat × List D) := []
abbrev C_l_chain : FC G_l_chain (List (Int × Int)) := ⟨.nw, enc, []⟩
abbrev b_l_chain : Sc G_l_chain (List (Int × Int)) :=
      (bindS (setS (fun g l => { g with v_found := l }) (op1 (fun t => some ((fun t : Unit => ([] : List (Int × Int))) t)) (pureA fun _ => ())))
      (bindS (forS (pureA (fun g : G_l_chain => g.v_points)) (fun (g : G_l_chain) (a : (Int × Int)) => { g with v_point := a }) (bindS (whileS (andA (op2 gtI (op1 lenQ (pureA (fun g : G_l_chain => g.v_found))) (pureA fun _ => (1 : Int))) (op2 leI (callA (fun (g : G_l_chain) (t : (Int × Int) × (Int × Int) × (Int × Int) × Unit) => (t.1, t.2.1, t.2.2.1, ())) F_l_across (pairA (op2 atI (pureA (fun g : G_l_chain => g.v_found)) (op1 negI (pureA fun _ => (2 : Int)))) (pairA (op2 atI (pureA (fun g : G_l_chain => g.v_found)) (op1 negI (pureA fun _ => (1 : Int)))) (pairA (pureA (fun g : G_l_chain => g.v_point)) (pureA fun _ => ()))))) (pureA fun _ => (0 : Int)))) (popS (fun g : G_l_chain => g.v_found) (fun g l => { g with v_found := l })))
      (appS (fun g : G_l_chain => g.v_found) (fun g l => { g with v_found := l }) (pureA (fun g : G_l_chain => g.v_point)))))
      (retS (slA (pureA (fun g : G_l_chain => g.v_found)) (pureA fun _ => none) (op1 (fun i => some (some i)) (op1 negI (pureA fun _ => (1 : Int))))))))
def F_l_chain : A_l_chain → FRes (List (Int × Int)) Unit := finF b_l_chain in_l_chain io_l_chain (none)
abbrev sS_l_chain : Stmt := topS 13
abbrev N_l_chain : List Str := ["_law_points", "_law_found", "_law_point"]
theorem sc_l_chain : FnScope N_l_chain ["_law_points"] (defScope sS_l_chain) := ⟨rfl, rfl, rfl, by decide +kernel, rfl, by decide +kernel, by decide +kernel⟩
abbrev P_l_chain (K : PySem.W.Frag) (mg : Str → Option Value) : Sp := spOf K mg .nw pa_l_chain enc po_l_chain F_l_chain
set_option maxHeartbeats 4000000 in
theorem ok_l_chain {P : Program} {w : World} {K : PySem.W.Frag} {mg : Str → Option Value} {base : Heap} {f : Addr} {fd : FuncData} (F : Fun K "_law_chain" "_law_chain" sS_l_chain f fd) (B : Bi mg) (c_l_across : Cal P w K mg base 1 "_law_across" ["_law_one", "_law_two", "_law_three"] (P_l_across K mg)) : FnOk P w K mg base (L2.CX P w) 2 f fd ["_law_points"] (P_l_chain K mg) := by
  refine fn_ok F sc_l_chain C_l_chain V_l_chain_3 V_l_chain_3 pa_l_chain in_l_chain io_l_chain po_l_chain (none) (body := b_l_chain) (fun _ => rfl) (fun _ => rfl) (fun _ => rfl) (fun _ => rfl) (by intro b h; cases h) fun cdv A outer s H E hr => ?_
  exact (s_cons (c_own (Ve' := V_l_chain_0) 1 (fun g l => { g with v_found := l }) xfr_ok (s_lst (fun t : Unit => ([] : List (Int × Int))) a_nil) (hN := sc_l_chain.nd))
      (s_cons (c_for (Ve := V_l_chain_0) (VL := V_l_chain_1) (set := (fun (g : G_l_chain) (a : (Int × Int)) => { g with v_point := a })) xfr_ok (passes_of rfl) rfl (i_list (svF 0 (fun g : G_l_chain => g.v_points))) (g_name (Ve' := V_l_chain_1) 2 (fun (g : G_l_chain) (a : (Int × Int)) => { g with v_point := a }) (hN := sc_l_chain.nd))
      (SB.wk (Ve' := V_l_chain_1) (s_cons (c_while (Ve := V_l_chain_1) xfr_ok (passes_of rfl) (SW.t (w_and (t_gt (s_len B.len (so 1 (fun g : G_l_chain => g.v_found))) (si 1)) (w_and1 (t_le (x_call (bs := []) (fun (g : G_l_chain) (t : (Int × Int) × (Int × Int) × (Int × Int) × Unit) => (t.1, t.2.1, t.2.2.1, ())) c_l_across hr (a_cons (s_ix (so 1 (fun g : G_l_chain => g.v_found)) (s_neg (si 2))) (a_cons (s_ix (so 1 (fun g : G_l_chain => g.v_found)) (s_neg (si 1))) (a_cons (SE.flat (svF 2 (fun g : G_l_chain => g.v_point))) a_nil))) (by exact fun _ _ => ⟨⟨rfl, fun _ => Flat.flat _⟩, ⟨rfl, fun _ => Flat.flat _⟩, ⟨rfl, fun _ => Flat.flat _⟩, trivial⟩)) (si 0))))) (s_last (c_pop 1 (fun g : G_l_chain => g.v_found) (fun g l => { g with v_found := l }))))
      (s_last (c_app 1 (fun g : G_l_chain => g.v_found) (fun g l => { g with v_found := l }) xfr_ok (SE.flat (svF 2 (fun g : G_l_chain => g.v_point)))))) (fun _ => ⟨.refl _, .refl _, .no _, trivial⟩) (by exact trivial) (by exact trivial)))
      (s_last (SS.pre (Ve := V_l_chain_0) (Ve' := V_l_chain_2) (c_retN xfr_ok (s_sl (svT 1 (fun g : G_l_chain => g.v_found)) o_none (o_some (s_neg (si 1))))) (fun _ => ⟨.refl _, .give (.ls _), .no _, trivial⟩) (by exact trivial) (by exact trivial)))))
/-! _law_outer -/
structure G_l_outer where
  v_some : (List (Int × Int))
  v_row : (List (Int × Int))
abbrev V_l_outer_0 : Ev G_l_outer := [.imm false fun g => enc g.v_some, .imm true fun g => enc g.v_row]
abbrev V_l_outer_1 : Ev G_l_outer := [.imm false fun g => enc g.v_some, .no]
abbrev A_l_outer := (List (Int × Int)) × Unit
def pa_l_outer (a : A_l_outer) : List Par := [.imm false (enc a.1)]
def in_l_outer (a : A_l_outer) : G_l_outer := { v_some := a.1, v_row := [] }
def io_l_outer (g : G_l_outer) : Unit := ()
def po_l_outer (y : Unit) : List (Nat × List D) := []
abbrev C_l_outer : FC G_l_outer (List (Int × Int)) := ⟨.nw, enc, []⟩
abbrev b_l_outer : Sc G_l_outer (List (Int × Int)) :=
      (bindS (setS (fun g a => { g with v_row := a }) (op1 sortSetQ (pureA (fun g : G_l_outer => g.v_some))))
      (retS (op2 catQ (callA (fun (g : G_l_outer) (t : (List (Int × Int)) × Unit) => (t.1, ())) F_l_chain (pairA (pureA (fun g : G_l_outer => g.v_row)) (pureA fun _ => ()))) (callA (fun (g : G_l_outer) (t : (List (Int × Int)) × Unit) => (t.1, ())) F_l_chain (pairA (op1 revQ (pureA (fun g : G_l_outer => g.v_row))) (pureA fun _ => ()))))))
def F_l_outer : A_l_outer → FRes (List (Int × Int)) Unit := finF b_l_outer in_l_outer io_l_outer (none)
abbrev sS_l_outer : Stmt := topS 14
abbrev N_l_outer : List Str := ["_law_some", "_law_row"]
theorem sc_l_outer : FnScope N_l_outer ["_law_some"] (defScope sS_l_outer) := ⟨rfl, rfl, rfl, by decide +kernel, rfl, by decide +kernel, by decide +kernel⟩
abbrev P_l_outer (K : PySem.W.Frag) (mg : Str → Option Value) : Sp := spOf K mg .nw pa_l_outer enc po_l_outer F_l_outer
set_option maxHeartbeats 4000000 in
theorem ok_l_outer {P : Program} {w : World} {K : PySem.W.Frag} {mg : Str → Option Value} {base : Heap} {f : Addr} {fd : FuncData} (F : Fun K "_law_outer" "_law_outer" sS_l_outer f fd) (B : Bi mg) (c_l_chain : Cal P w K mg base 2 "_law_chain" ["_law_points"] (P_l_chain K mg)) : FnOk P w K mg base (L2.CX P w) 3 f fd ["_law_some"] (P_l_outer K mg) := by
  refine fn_ok F sc_l_outer C_l_outer V_l_outer_1 V_l_outer_1 pa_l_outer in_l_outer io_l_outer po_l_outer (none) (body := b_l_outer) (fun _ => rfl) (fun _ => rfl) (fun _ => rfl) (fun _ => rfl) (by intro b h; cases h) fun cdv A outer s H E hr => ?_
  exact (s_cons (c_set (Ve' := V_l_outer_0) 1 (fun g a => { g with v_row := a }) xfr_ok (SN.se (s_sortSet hr.units B.sorted B.set rfl (svF 0 (fun g : G_l_outer => g.v_some)))) (hN := sc_l_outer.nd))
      (s_last (c_retN xfr_ok (s_cat (SN.se (x_callN (bs := []) (fun (g : G_l_outer) (t : (List (Int × Int)) × Unit) => (t.1, ())) c_l_chain hr (a_cons (svT 1 (fun g : G_l_outer => g.v_row)) a_nil) (by exact fun _ _ => ⟨⟨rfl, fun h => nomatch h⟩, trivial⟩))) (SN.se (x_callN (bs := []) (fun (g : G_l_outer) (t : (List (Int × Int)) × Unit) => (t.1, ())) c_l_chain hr (a_cons (SN.se (s_lstRev rfl B.list B.reversed (svT 1 (fun g : G_l_outer => g.v_row)))) a_nil) (by exact fun _ _ => ⟨⟨rfl, fun h => nomatch h⟩, trivial⟩)))))))
/-! _law_mark -/
structure G_l_mark where
  v_pot_here : (List Int)
  v_are_great : Bool
abbrev V_l_mark_0 : Ev G_l_mark := [.own fun g => g.v_pot_here.map enc, .imm true fun g => enc g.v_are_great]
abbrev A_l_mark := (List Int) × Bool × Unit
def pa_l_mark (a : A_l_mark) : List Par := [.ino (a.1.map enc), .imm true (enc a.2.1)]
def in_l_mark (a : A_l_mark) : G_l_mark := { v_pot_here := a.1, v_are_great := a.2.1 }
def io_l_mark (g : G_l_mark) : (List Int) := g.v_pot_here
def po_l_mark (y : (List Int)) : List (Nat × List D) := [(0, y.map enc)]
abbrev C_l_mark : FC G_l_mark Int := ⟨.fr, enc, [(0, fun g => g.v_pot_here.map enc)]⟩
abbrev b_l_mark : Sc G_l_mark Int :=
      (bindS (ifS (andA (pureA (fun g : G_l_mark => g.v_are_great)) (op2 eqQ (callIo (fun (g : G_l_mark) (t : Int × Unit) => (g.v_pot_here, t.1, ())) (fun (g : G_l_mark) y => { g with v_pot_here := y }) F_l_take (pairA (pureA fun _ => (2 : Int)) (pureA fun _ => ()))) (pureA fun _ => (0 : Int)))) (retS (callIo (fun (g : G_l_mark) (t : Unit) => (g.v_pot_here, ())) (fun (g : G_l_mark) y => { g with v_pot_here := y }) F_l_wide (pureA fun _ => ())))
      nxS)
      (retS (op2 subI (callIo (fun (g : G_l_mark) (t : Int × Unit) => (g.v_pot_here, t.1, ())) (fun (g : G_l_mark) y => { g with v_pot_here := y }) F_l_take (pairA (pureA fun _ => (13 : Int)) (pureA fun _ => ()))) (pureA fun _ => (6 : Int)))))
def F_l_mark : A_l_mark → FRes Int (List Int) := finF b_l_mark in_l_mark io_l_mark (none)
abbrev sS_l_mark : Stmt := topS 15
abbrev N_l_mark : List Str := ["_law_pot_here", "_law_are_great"]
theorem sc_l_mark : FnScope N_l_mark ["_law_pot_here", "_law_are_great"] (defScope sS_l_mark) := ⟨rfl, rfl, rfl, by decide +kernel, rfl, by decide +kernel, by decide +kernel⟩
abbrev P_l_mark (K : PySem.W.Frag) (mg : Str → Option Value) : Sp := spOf K mg .fr pa_l_mark enc po_l_mark F_l_mark
set_option maxHeartbeats 4000000 in
theorem ok_l_mark {P : Program} {w : World} {K : PySem.W.Frag} {mg : Str → Option Value} {base : Heap} {f : Addr} {fd : FuncData} (F : Fun K "_law_mark" "_law_mark" sS_l_mark f fd) (B : Bi mg) (c_l_wide : Cal P w K mg base 2 "_law_wide" ["_law_pot_here"] (P_l_wide K mg)) (c_l_take : Cal P w K mg base 1 "_law_take" ["_law_pot_here", "_law_many"] (P_l_take K mg)) : FnOk P w K mg base (L2.CX P w) 3 f fd ["_law_pot_here", "_law_are_great"] (P_l_mark K mg) := by
  refine fn_ok F sc_l_mark C_l_mark V_l_mark_0 V_l_mark_0 pa_l_mark in_l_mark io_l_mark po_l_mark (none) (body := b_l_mark) (fun _ => rfl) (fun _ => rfl) (fun _ => rfl) (fun _ => rfl) (by intro b h; cases h) fun cdv A outer s H E hr => ?_
  exact (s_cons (c_if (Ve' := V_l_mark_0) xfr_ok (SW.t (w_and (t_val (svT 1 (fun g : G_l_mark => g.v_are_great))) (w_and1 (t_eq hr.units (x_callIo (bs := []) (fun (g : G_l_mark) (t : Int × Unit) => (g.v_pot_here, t.1, ())) (fun (g : G_l_mark) y => { g with v_pot_here := y }) 0 0 (fun y => y.map enc) c_l_take (hr.mono (by decide)) (a_slot 0 (a_cons (si 2) a_nil)) (by exact fun _ _ => ⟨⟨⟨rfl, flatA_map _⟩, _, rfl, rfl⟩, ⟨rfl, fun _ => Flat.flat _⟩, trivial⟩)) (si 0))))) (s_last (c_ret xfr_ok (x_callIo (bs := []) (fun (g : G_l_mark) (t : Unit) => (g.v_pot_here, ())) (fun (g : G_l_mark) y => { g with v_pot_here := y }) 0 0 (fun y => y.map enc) c_l_wide hr (a_slot 0 a_nil) (by exact fun _ _ => ⟨⟨⟨rfl, flatA_map _⟩, _, rfl, rfl⟩, trivial⟩))))
      s_nil)
      (s_last (c_ret xfr_ok (s_sub (x_callIo (bs := []) (fun (g : G_l_mark) (t : Int × Unit) => (g.v_pot_here, t.1, ())) (fun (g : G_l_mark) y => { g with v_pot_here := y }) 0 0 (fun y => y.map enc) c_l_take (hr.mono (by decide)) (a_slot 0 (a_cons (si 13) a_nil)) (by exact fun _ _ => ⟨⟨⟨rfl, flatA_map _⟩, _, rfl, rfl⟩, ⟨rfl, fun _ => Flat.flat _⟩, trivial⟩)) (si 6)))))
/-! _law_cake -/
structure G_l_cake where
  v_pot_here : (List Int)
  v_are_great : Bool
  v_many : Int
  v_k : Int
  v_found : (List (Int × Int))
  v_x : Int
  v_y : Int
  v_at : Int
abbrev V_l_cake_0 : Ev G_l_cake := [.own fun g => g.v_pot_here.map enc, .imm true fun g => enc g.v_are_great, .no, .no, .no, .no, .no, .no]
abbrev V_l_cake_1 : Ev G_l_cake := [.own fun g => g.v_pot_here.map enc, .imm true fun g => enc g.v_are_great, .imm true fun g => enc g.v_many, .no, .no, .no, .no, .no]
abbrev V_l_cake_2 : Ev G_l_cake := [.own fun g => g.v_pot_here.map enc, .imm true fun g => enc g.v_are_great, .imm true fun g => enc g.v_many, .no, .no, .no, .no, .imm true fun g => enc g.v_k]
abbrev V_l_cake_3 : Ev G_l_cake := [.own fun g => g.v_pot_here.map enc, .imm true fun g => enc g.v_are_great, .imm true fun g => enc g.v_many, .imm true fun g => enc g.v_found, .no, .no, .no, .no]
abbrev V_l_cake_4 : Ev G_l_cake := [.own fun g => g.v_pot_here.map enc, .imm true fun g => enc g.v_are_great, .imm true fun g => enc g.v_many, .imm true fun g => enc g.v_found, .no, .imm true fun g => enc g.v_x, .imm true fun g => enc g.v_y, .no]
abbrev V_l_cake_5 : Ev G_l_cake := [.own fun g => g.v_pot_here.map enc, .imm true fun g => enc g.v_are_great, .imm true fun g => enc g.v_many, .imm true fun g => enc g.v_found, .imm true fun g => enc g.v_at, .no, .no, .no]
abbrev V_l_cake_6 : Ev G_l_cake := [.own fun g => g.v_pot_here.map enc, .no, .no, .no, .no, .no, .no, .no]
abbrev A_l_cake := (List Int) × Unit
def pa_l_cake (a : A_l_cake) : List Par := [.ino (a.1.map enc)]
def in_l_cake (a : A_l_cake) : G_l_cake := { v_pot_here := a.1, v_are_great := false, v_many := 0, v_k := 0, v_found := [], v_x := 0, v_y := 0, v_at := 0 }
def io_l_cake (g : G_l_cake) : (List Int) := g.v_pot_here
def po_l_cake (y : (List Int)) : List (Nat × List D) := [(0, y.map enc)]
abbrev C_l_cake : FC G_l_cake (List (Int × Int)) := ⟨.nw, enc, [(0, fun g => g.v_pot_here.map enc)]⟩
abbrev b_l_cake : Sc G_l_cake (List (Int × Int)) :=
      (bindS (setS (fun g a => { g with v_are_great := a }) (op2 eqQ (callIo (fun (g : G_l_cake) (t : Int × Unit) => (g.v_pot_here, t.1, ())) (fun (g : G_l_cake) y => { g with v_pot_here := y }) F_l_take (pairA (pureA fun _ => (8 : Int)) (pureA fun _ => ()))) (pureA fun _ => (7 : Int))))
      (bindS (setS (fun g a => { g with v_many := a }) (op2 addI (pureA fun _ => (3 : Int)) (callIo (fun (g : G_l_cake) (t : Int × Unit) => (g.v_pot_here, t.1, ())) (fun (g : G_l_cake) y => { g with v_pot_here := y }) F_l_take (pairA (pureA fun _ => (10 : Int)) (pureA fun _ => ())))))
      (bindS (setS (fun g a => { g with v_found := a }) (callA (fun (g : G_l_cake) (t : (List (Int × Int)) × Unit) => (t.1, ())) F_l_outer (pairA (compA (op1 rng1 (pureA (fun g : G_l_cake => g.v_many))) (fun (g : G_l_cake) (a : Int) => { g with v_k := a }) yesA (op1 (fun t => some ((fun t : Int × Int × Unit => ((t.1, t.2.1) : (Int × Int))) t)) (pairA (callIo (fun (g : G_l_cake) (t : Bool × Unit) => (g.v_pot_here, t.1, ())) (fun (g : G_l_cake) y => { g with v_pot_here := y }) F_l_mark (pairA (pureA (fun g : G_l_cake => g.v_are_great)) (pureA fun _ => ()))) (pairA (callIo (fun (g : G_l_cake) (t : Bool × Unit) => (g.v_pot_here, t.1, ())) (fun (g : G_l_cake) y => { g with v_pot_here := y }) F_l_mark (pairA (pureA (fun g : G_l_cake => g.v_are_great)) (pureA fun _ => ()))) (pureA fun _ => ()))))) (pureA fun _ => ()))))
      (bindS (ifS (op2 ltI (op1 lenQ (pureA (fun g : G_l_cake => g.v_found))) (pureA fun _ => (3 : Int))) (bindS (setS (fun g t => { g with v_x := t.1, v_y := t.2.1 }) (pairA (op2 subI (callIo (fun (g : G_l_cake) (t : Int × Unit) => (g.v_pot_here, t.1, ())) (fun (g : G_l_cake) y => { g with v_pot_here := y }) F_l_take (pairA (pureA fun _ => (9 : Int)) (pureA fun _ => ()))) (pureA fun _ => (4 : Int))) (pairA (op2 subI (callIo (fun (g : G_l_cake) (t : Int × Unit) => (g.v_pot_here, t.1, ())) (fun (g : G_l_cake) y => { g with v_pot_here := y }) F_l_take (pairA (pureA fun _ => (9 : Int)) (pureA fun _ => ()))) (pureA fun _ => (4 : Int))) (pureA fun _ => ()))))
      (setS (fun g a => { g with v_found := a }) (op1 (fun t => some ((fun t : (Int × Int) × (Int × Int) × (Int × Int) × Unit => ([t.1, t.2.1, t.2.2.1] : List (Int × Int))) t)) (pairA (op1 (fun t => some ((fun t : Int × Int × Unit => ((t.1, t.2.1) : (Int × Int))) t)) (pairA (pureA (fun g : G_l_cake => g.v_x)) (pairA (pureA (fun g : G_l_cake => g.v_y)) (pureA fun _ => ())))) (pairA (op1 (fun t => some ((fun t : Int × Int × Unit => ((t.1, t.2.1) : (Int × Int))) t)) (pairA (op2 addI (op2 addI (pureA (fun g : G_l_cake => g.v_x)) (pureA fun _ => (1 : Int))) (callIo (fun (g : G_l_cake) (t : Int × Unit) => (g.v_pot_here, t.1, ())) (fun (g : G_l_cake) y => { g with v_pot_here := y }) F_l_take (pairA (pureA fun _ => (5 : Int)) (pureA fun _ => ())))) (pairA (pureA (fun g : G_l_cake => g.v_y)) (pureA fun _ => ())))) (pairA (op1 (fun t => some ((fun t : Int × Int × Unit => ((t.1, t.2.1) : (Int × Int))) t)) (pairA (op2 addI (pureA (fun g : G_l_cake => g.v_x)) (callIo (fun (g : G_l_cake) (t : Int × Unit) => (g.v_pot_here, t.1, ())) (fun (g : G_l_cake) y => { g with v_pot_here := y }) F_l_take (pairA (pureA fun _ => (4 : Int)) (pureA fun _ => ())))) (pairA (op2 addI (op2 addI (pureA (fun g : G_l_cake => g.v_y)) (pureA fun _ => (1 : Int))) (callIo (fun (g : G_l_cake) (t : Int × Unit) => (g.v_pot_here, t.1, ())) (fun (g : G_l_cake) y => { g with v_pot_here := y }) F_l_take (pairA (pureA fun _ => (5 : Int)) (pureA fun _ => ())))) (pureA fun _ => ())))) (pureA fun _ => ())))))))
      nxS)
      (bindS (setS (fun g a => { g with v_at := a }) (callIo (fun (g : G_l_cake) (t : Int × Unit) => (g.v_pot_here, t.1, ())) (fun (g : G_l_cake) y => { g with v_pot_here := y }) F_l_take (pairA (op1 lenQ (pureA (fun g : G_l_cake => g.v_found))) (pureA fun _ => ()))))
      (retS (op2 catQ (slA (pureA (fun g : G_l_cake => g.v_found)) (op1 (fun i => some (some i)) (pureA (fun g : G_l_cake => g.v_at))) (pureA fun _ => none)) (slA (pureA (fun g : G_l_cake => g.v_found)) (pureA fun _ => none) (op1 (fun i => some (some i)) (pureA (fun g : G_l_cake => g.v_at)))))))))))
def F_l_cake : A_l_cake → FRes (List (Int × Int)) (List Int) := finF b_l_cake in_l_cake io_l_cake (none)
abbrev sS_l_cake : Stmt := topS 16
abbrev N_l_cake : List Str := ["_law_pot_here", "_law_are_great", "_law_many", "_law_found", "_law_at", "_law_x", "_law_y", "_law_k"]
theorem sc_l_cake : FnScope N_l_cake ["_law_pot_here"] (defScope sS_l_cake) := ⟨rfl, rfl, rfl, by decide +kernel, rfl, by decide +kernel, by decide +kernel⟩
abbrev P_l_cake (K : PySem.W.Frag) (mg : Str → Option Value) : Sp := spOf K mg .nw pa_l_cake enc po_l_cake F_l_cake
set_option maxHeartbeats 4000000 in
theorem ok_l_cake {P : Program} {w : World} {K : PySem.W.Frag} {mg : Str → Option Value} {base : Heap} {f : Addr} {fd : FuncData} (F : Fun K "_law_cake" "_law_cake" sS_l_cake f fd) (B : Bi mg) (c_l_outer : Cal P w K mg base 3 "_law_outer" ["_law_some"] (P_l_outer K mg)) (c_l_take : Cal P w K mg base 1 "_law_take" ["_law_pot_here", "_law_many"] (P_l_take K mg)) (c_l_mark : Cal P w K mg base 3 "_law_mark" ["_law_pot_here", "_law_are_great"] (P_l_mark K mg)) : FnOk P w K mg base (L2.CX P w) 4 f fd ["_law_pot_here"] (P_l_cake K mg) := by
  refine fn_ok F sc_l_cake C_l_cake V_l_cake_6 V_l_cake_6 pa_l_cake in_l_cake io_l_cake po_l_cake (none) (body := b_l_cake) (fun _ => rfl) (fun _ => rfl) (fun _ => rfl) (fun _ => rfl) (by intro b h; cases h) fun cdv A outer s H E hr => ?_
  exact (s_cons (c_set (Ve' := V_l_cake_0) 1 (fun g a => { g with v_are_great := a }) xfr_ok (s_eq hr.units (x_callIo (bs := []) (fun (g : G_l_cake) (t : Int × Unit) => (g.v_pot_here, t.1, ())) (fun (g : G_l_cake) y => { g with v_pot_here := y }) 0 0 (fun y => y.map enc) c_l_take (hr.mono (by decide)) (a_slot 0 (a_cons (si 8) a_nil)) (by exact fun _ _ => ⟨⟨⟨rfl, flatA_map _⟩, _, rfl, rfl⟩, ⟨rfl, fun _ => Flat.flat _⟩, trivial⟩)) (si 7)) (hN := sc_l_cake.nd))
      (s_cons (c_set (Ve' := V_l_cake_1) 2 (fun g a => { g with v_many := a }) xfr_ok (s_add (si 3) (x_callIo (bs := []) (fun (g : G_l_cake) (t : Int × Unit) => (g.v_pot_here, t.1, ())) (fun (g : G_l_cake) y => { g with v_pot_here := y }) 0 0 (fun y => y.map enc) c_l_take (hr.mono (by decide)) (a_slot 0 (a_cons (si 10) a_nil)) (by exact fun _ _ => ⟨⟨⟨rfl, flatA_map _⟩, _, rfl, rfl⟩, ⟨rfl, fun _ => Flat.flat _⟩, trivial⟩))) (hN := sc_l_cake.nd))
      (s_cons (c_set (Ve' := V_l_cake_3) 3 (fun g a => { g with v_found := a }) xfr_ok (SN.se (x_callN (bs := []) (fun (g : G_l_cake) (t : (List (Int × Int)) × Unit) => (t.1, ())) c_l_outer hr (a_cons (SN.se (s_lc (α := Int) (set := (fun (g : G_l_cake) (a : Int) => { g with v_k := a })) (ok := blkOk_by (N := N_l_cake) (sc := defScope sS_l_cake) (by decide +kernel)) [("_law_k", 7)] V_l_cake_2  rfl sc_l_cake.nd (i_rng1 B.range (svT 2 (fun g : G_l_cake => g.v_many))) (fun _ _ _ _ _ => (g_name (Ve' := V_l_cake_2) 7 (fun (g : G_l_cake) (a : Int) => { g with v_k := a }) (hN := sc_l_cake.nd))) (fun _ _ _ _ _ => ts_nil) (fun _ _ _ _ _ => (s_tup (fun t : Int × Int × Unit => ((t.1, t.2.1) : (Int × Int))) true (a_cons (x_callIo (bs := []) (fun (g : G_l_cake) (t : Bool × Unit) => (g.v_pot_here, t.1, ())) (fun (g : G_l_cake) y => { g with v_pot_here := y }) 0 0 (fun y => y.map enc) c_l_mark hr (a_slot 0 (a_cons (svT 1 (fun g : G_l_cake => g.v_are_great)) a_nil)) (by exact fun _ _ => ⟨⟨⟨rfl, flatA_map _⟩, _, rfl, rfl⟩, ⟨rfl, fun _ => Flat.flat _⟩, trivial⟩)) (a_cons (x_callIo (bs := []) (fun (g : G_l_cake) (t : Bool × Unit) => (g.v_pot_here, t.1, ())) (fun (g : G_l_cake) y => { g with v_pot_here := y }) 0 0 (fun y => y.map enc) c_l_mark hr (a_slot 0 (a_cons (svT 1 (fun g : G_l_cake => g.v_are_great)) a_nil)) (by exact fun _ _ => ⟨⟨⟨rfl, flatA_map _⟩, _, rfl, rfl⟩, ⟨rfl, fun _ => Flat.flat _⟩, trivial⟩)) a_nil)))))) a_nil) (by exact fun _ _ => ⟨⟨rfl, fun h => nomatch h⟩, trivial⟩))) (hN := sc_l_cake.nd))
      (s_cons (c_if (Ve' := V_l_cake_3) xfr_ok (t_lt (s_len B.len (svT 3 (fun g : G_l_cake => g.v_found))) (si 3)) (SB.wk (Ve' := V_l_cake_4) (s_cons (c_par (Ve' := V_l_cake_4) 5 6 (fun g t => { g with v_x := t.1, v_y := t.2.1 }) xfr_ok (a_cons (s_sub (x_callIo (bs := []) (fun (g : G_l_cake) (t : Int × Unit) => (g.v_pot_here, t.1, ())) (fun (g : G_l_cake) y => { g with v_pot_here := y }) 0 0 (fun y => y.map enc) c_l_take (hr.mono (by decide)) (a_slot 0 (a_cons (si 9) a_nil)) (by exact fun _ _ => ⟨⟨⟨rfl, flatA_map _⟩, _, rfl, rfl⟩, ⟨rfl, fun _ => Flat.flat _⟩, trivial⟩)) (si 4)) (a_cons (s_sub (x_callIo (bs := []) (fun (g : G_l_cake) (t : Int × Unit) => (g.v_pot_here, t.1, ())) (fun (g : G_l_cake) y => { g with v_pot_here := y }) 0 0 (fun y => y.map enc) c_l_take (hr.mono (by decide)) (a_slot 0 (a_cons (si 9) a_nil)) (by exact fun _ _ => ⟨⟨⟨rfl, flatA_map _⟩, _, rfl, rfl⟩, ⟨rfl, fun _ => Flat.flat _⟩, trivial⟩)) (si 4)) a_nil)) rfl (hN := sc_l_cake.nd))
      (s_last (c_set (Ve' := V_l_cake_4) 3 (fun g a => { g with v_found := a }) xfr_ok (SN.se (s_lst (fun t : (Int × Int) × (Int × Int) × (Int × Int) × Unit => ([t.1, t.2.1, t.2.2.1] : List (Int × Int))) (a_cons (s_tup (fun t : Int × Int × Unit => ((t.1, t.2.1) : (Int × Int))) true (a_cons (svT 5 (fun g : G_l_cake => g.v_x)) (a_cons (svT 6 (fun g : G_l_cake => g.v_y)) a_nil))) (a_cons (s_tup (fun t : Int × Int × Unit => ((t.1, t.2.1) : (Int × Int))) true (a_cons (s_add (s_add (svT 5 (fun g : G_l_cake => g.v_x)) (si 1)) (x_callIo (bs := []) (fun (g : G_l_cake) (t : Int × Unit) => (g.v_pot_here, t.1, ())) (fun (g : G_l_cake) y => { g with v_pot_here := y }) 0 0 (fun y => y.map enc) c_l_take (hr.mono (by decide)) (a_slot 0 (a_cons (si 5) a_nil)) (by exact fun _ _ => ⟨⟨⟨rfl, flatA_map _⟩, _, rfl, rfl⟩, ⟨rfl, fun _ => Flat.flat _⟩, trivial⟩))) (a_cons (svT 6 (fun g : G_l_cake => g.v_y)) a_nil))) (a_cons (s_tup (fun t : Int × Int × Unit => ((t.1, t.2.1) : (Int × Int))) true (a_cons (s_add (svT 5 (fun g : G_l_cake => g.v_x)) (x_callIo (bs := []) (fun (g : G_l_cake) (t : Int × Unit) => (g.v_pot_here, t.1, ())) (fun (g : G_l_cake) y => { g with v_pot_here := y }) 0 0 (fun y => y.map enc) c_l_take (hr.mono (by decide)) (a_slot 0 (a_cons (si 4) a_nil)) (by exact fun _ _ => ⟨⟨⟨rfl, flatA_map _⟩, _, rfl, rfl⟩, ⟨rfl, fun _ => Flat.flat _⟩, trivial⟩))) (a_cons (s_add (s_add (svT 6 (fun g : G_l_cake => g.v_y)) (si 1)) (x_callIo (bs := []) (fun (g : G_l_cake) (t : Int × Unit) => (g.v_pot_here, t.1, ())) (fun (g : G_l_cake) y => { g with v_pot_here := y }) 0 0 (fun y => y.map enc) c_l_take (hr.mono (by decide)) (a_slot 0 (a_cons (si 5) a_nil)) (by exact fun _ _ => ⟨⟨⟨rfl, flatA_map _⟩, _, rfl, rfl⟩, ⟨rfl, fun _ => Flat.flat _⟩, trivial⟩))) a_nil))) a_nil))))) (hN := sc_l_cake.nd)))) (fun _ => ⟨.refl _, .refl _, .refl _, .refl _, .no _, .no _, .no _, .no _, trivial⟩) (by exact ⟨rfl, trivial⟩) (by exact ⟨rfl, trivial⟩))
      s_nil)
      (s_cons (c_set (Ve' := V_l_cake_5) 4 (fun g a => { g with v_at := a }) xfr_ok (x_callIo (bs := []) (fun (g : G_l_cake) (t : Int × Unit) => (g.v_pot_here, t.1, ())) (fun (g : G_l_cake) y => { g with v_pot_here := y }) 0 0 (fun y => y.map enc) c_l_take (hr.mono (by decide)) (a_slot 0 (a_cons (s_len B.len (svT 3 (fun g : G_l_cake => g.v_found))) a_nil)) (by exact fun _ _ => ⟨⟨⟨rfl, flatA_map _⟩, _, rfl, rfl⟩, ⟨rfl, fun _ => Flat.flat _⟩, trivial⟩)) (hN := sc_l_cake.nd))
      (s_last (c_retN xfr_ok (s_cat (SN.se (s_sl (svT 3 (fun g : G_l_cake => g.v_found)) (o_some (svT 4 (fun g : G_l_cake => g.v_at))) o_none)) (SN.se (s_sl (svT 3 (fun g : G_l_cake => g.v_found)) o_none (o_some (svT 4 (fun g : G_l_cake => g.v_at)))))))))))))
/-! _law_is_cake -/
structure G_l_is_cake where
  v_some : (List (Int × Int))
  v_many : Int
  v_k : Int
  v_j : Int
abbrev V_l_is_cake_0 : Ev G_l_is_cake := [.imm false fun g => enc g.v_some, .imm true fun g => enc g.v_many, .no, .no]
abbrev V_l_is_cake_1 : Ev G_l_is_cake := [.imm false fun g => enc g.v_some, .imm true fun g => enc g.v_many, .imm true fun g => enc g.v_k, .no]
abbrev V_l_is_cake_2 : Ev G_l_is_cake := [.imm false fun g => enc g.v_some, .imm true fun g => enc g.v_many, .imm true fun g => enc g.v_k, .imm true fun g => enc g.v_j]
abbrev V_l_is_cake_3 : Ev G_l_is_cake := [.imm false fun g => enc g.v_some, .no, .no, .no]
abbrev A_l_is_cake := (List (Int × Int)) × Unit
def pa_l_is_cake (a : A_l_is_cake) : List Par := [.imm false (enc a.1)]
def in_l_is_cake (a : A_l_is_cake) : G_l_is_cake := { v_some := a.1, v_many := 0, v_k := 0, v_j := 0 }
def io_l_is_cake (g : G_l_is_cake) : Unit := ()
def po_l_is_cake (y : Unit) : List (Nat × List D) := []
abbrev C_l_is_cake : FC G_l_is_cake Bool := ⟨.fr, enc, []⟩
abbrev b_l_is_cake : Sc G_l_is_cake Bool :=
      (bindS (setS (fun g a => { g with v_many := a }) (op1 lenQ (pureA (fun g : G_l_is_cake => g.v_some))))
      (bindS (forS (op1 rng1 (pureA (fun g : G_l_is_cake => g.v_many))) (fun (g : G_l_is_cake) (a : Int) => { g with v_k := a }) (forS (op1 rng1 (pureA (fun g : G_l_is_cake => g.v_many))) (fun (g : G_l_is_cake) (a : Int) => { g with v_j := a }) (ifS (andA (op2 neQ (pureA (fun g : G_l_is_cake => g.v_j)) (pureA (fun g : G_l_is_cake => g.v_k))) (andA (op2 neQ (pureA (fun g : G_l_is_cake => g.v_j)) (op2 modI (op2 addI (pureA (fun g : G_l_is_cake => g.v_k)) (pureA fun _ => (1 : Int))) (pureA (fun g : G_l_is_cake => g.v_many)))) (op2 leI (callA (fun (g : G_l_is_cake) (t : (Int × Int) × (Int × Int) × (Int × Int) × Unit) => (t.1, t.2.1, t.2.2.1, ())) F_l_across (pairA (op2 atI (pureA (fun g : G_l_is_cake => g.v_some)) (pureA (fun g : G_l_is_cake => g.v_k))) (pairA (op2 atI (pureA (fun g : G_l_is_cake => g.v_some)) (op2 modI (op2 addI (pureA (fun g : G_l_is_cake => g.v_k)) (pureA fun _ => (1 : Int))) (pureA (fun g : G_l_is_cake => g.v_many)))) (pairA (op2 atI (pureA (fun g : G_l_is_cake => g.v_some)) (pureA (fun g : G_l_is_cake => g.v_j))) (pureA fun _ => ()))))) (pureA fun _ => (0 : Int))))) (retS (pureA fun _ => false))
      nxS)))
      (retS (op2 gtI (pureA (fun g : G_l_is_cake => g.v_many)) (pureA fun _ => (2 : Int))))))
def F_l_is_cake : A_l_is_cake → FRes Bool Unit := finF b_l_is_cake in_l_is_cake io_l_is_cake (none)
abbrev sS_l_is_cake : Stmt := topS 17
abbrev N_l_is_cake : List Str := ["_law_some", "_law_many", "_law_k", "_law_j"]
theorem sc_l_is_cake : FnScope N_l_is_cake ["_law_some"] (defScope sS_l_is_cake) := ⟨rfl, rfl, rfl, by decide +kernel, rfl, by decide +kernel, by decide +kernel⟩
abbrev P_l_is_cake (K : PySem.W.Frag) (mg : Str → Option Value) : Sp := spOf K mg .fr pa_l_is_cake enc po_l_is_cake F_l_is_cake
set_option maxHeartbeats 4000000 in
theorem ok_l_is_cake {P : Program} {w : World} {K : PySem.W.Frag} {mg : Str → Option Value} {base : Heap} {f : Addr} {fd : FuncData} (F : Fun K "_law_is_cake" "_law_is_cake" sS_l_is_cake f fd) (B : Bi mg) (c_l_across : Cal P w K mg base 1 "_law_across" ["_law_one", "_law_two", "_law_three"] (P_l_across K mg)) : FnOk P w K mg base (L2.CX P w) 2 f fd ["_law_some"] (P_l_is_cake K mg) := by
  refine fn_ok F sc_l_is_cake C_l_is_cake V_l_is_cake_3 V_l_is_cake_3 pa_l_is_cake in_l_is_cake io_l_is_cake po_l_is_cake (none) (body := b_l_is_cake) (fun _ => rfl) (fun _ => rfl) (fun _ => rfl) (fun _ => rfl) (by intro b h; cases h) fun cdv A outer s H E hr => ?_
  exact (s_cons (c_set (Ve' := V_l_is_cake_0) 1 (fun g a => { g with v_many := a }) xfr_ok (s_len B.len (svF 0 (fun g : G_l_is_cake => g.v_some))) (hN := sc_l_is_cake.nd))
      (s_cons (c_for (Ve := V_l_is_cake_0) (VL := V_l_is_cake_1) (set := (fun (g : G_l_is_cake) (a : Int) => { g with v_k := a })) xfr_ok (passes_of rfl) rfl (i_rng1 B.range (svT 1 (fun g : G_l_is_cake => g.v_many))) (g_name (Ve' := V_l_is_cake_1) 2 (fun (g : G_l_is_cake) (a : Int) => { g with v_k := a }) (hN := sc_l_is_cake.nd))
      (SB.wk (Ve' := V_l_is_cake_1) (s_last (c_for (Ve := V_l_is_cake_1) (VL := V_l_is_cake_2) (set := (fun (g : G_l_is_cake) (a : Int) => { g with v_j := a })) xfr_ok (passes_of rfl) rfl (i_rng1 B.range (svT 1 (fun g : G_l_is_cake => g.v_many))) (g_name (Ve' := V_l_is_cake_2) 3 (fun (g : G_l_is_cake) (a : Int) => { g with v_j := a }) (hN := sc_l_is_cake.nd))
      (SB.wk (Ve' := V_l_is_cake_2) (s_last (c_if (Ve' := V_l_is_cake_2) xfr_ok (SW.t (w_and (t_ne hr.units (svT 3 (fun g : G_l_is_cake => g.v_j)) (svT 2 (fun g : G_l_is_cake => g.v_k))) (w_and (t_ne hr.units (svT 3 (fun g : G_l_is_cake => g.v_j)) (s_mod (s_add (svT 2 (fun g : G_l_is_cake => g.v_k)) (si 1)) (svT 1 (fun g : G_l_is_cake => g.v_many)))) (w_and1 (t_le (x_call (bs := []) (fun (g : G_l_is_cake) (t : (Int × Int) × (Int × Int) × (Int × Int) × Unit) => (t.1, t.2.1, t.2.2.1, ())) c_l_across hr (a_cons (SE.flat (s_ix (svF 0 (fun g : G_l_is_cake => g.v_some)) (svT 2 (fun g : G_l_is_cake => g.v_k)))) (a_cons (SE.flat (s_ix (svF 0 (fun g : G_l_is_cake => g.v_some)) (s_mod (s_add (svT 2 (fun g : G_l_is_cake => g.v_k)) (si 1)) (svT 1 (fun g : G_l_is_cake => g.v_many))))) (a_cons (SE.flat (s_ix (svF 0 (fun g : G_l_is_cake => g.v_some)) (svT 3 (fun g : G_l_is_cake => g.v_j)))) a_nil))) (by exact fun _ _ => ⟨⟨rfl, fun _ => Flat.flat _⟩, ⟨rfl, fun _ => Flat.flat _⟩, ⟨rfl, fun _ => Flat.flat _⟩, trivial⟩)) (si 0)))))) (s_last (c_ret xfr_ok (sb false)))
      s_nil)) (fun _ => ⟨.refl _, .refl _, .refl _, .no _, trivial⟩) (by exact trivial) (by exact trivial)))) (fun _ => ⟨.refl _, .refl _, .no _, .no _, trivial⟩) (by exact trivial) (by exact trivial)))
      (s_last (c_ret xfr_ok (s_gt (svT 1 (fun g : G_l_is_cake => g.v_many)) (si 2))))))
/-! _law_others -/
structure G_l_others where
  v_pot_here : (List Int)
  v_cake_here : (List (Int × Int))
  v_at : Int
  v_point : (Int × Int)
  v_one : (Int × Int)
  v_two : (Int × Int)
  v_found : (List (List (Int × Int)))
  v_k : Int
abbrev V_l_others_0 : Ev G_l_others := [.own fun g => g.v_pot_here.map enc, .imm false fun g => enc g.v_cake_here, .imm true fun g => enc g.v_at, .no, .no, .no, .no, .no]
abbrev V_l_others_1 : Ev G_l_others := [.own fun g => g.v_pot_here.map enc, .imm false fun g => enc g.v_cake_here, .imm true fun g => enc g.v_at, .imm true fun g => enc g.v_point, .no, .no, .no, .no]
abbrev V_l_others_2 : Ev G_l_others := [.own fun g => g.v_pot_here.map enc, .imm false fun g => enc g.v_cake_here, .imm true fun g => enc g.v_at, .imm true fun g => enc g.v_point, .no, .imm true fun g => enc g.v_one, .imm true fun g => enc g.v_two, .no]
abbrev V_l_others_3 : Ev G_l_others := [.own fun g => g.v_pot_here.map enc, .imm false fun g => enc g.v_cake_here, .imm true fun g => enc g.v_at, .imm true fun g => enc g.v_point, .own fun g => g.v_found.map enc, .imm true fun g => enc g.v_one, .imm true fun g => enc g.v_two, .no]
abbrev V_l_others_4 : Ev G_l_others := [.own fun g => g.v_pot_here.map enc, .imm false fun g => enc g.v_cake_here, .imm true fun g => enc g.v_at, .imm true fun g => enc g.v_point, .own fun g => g.v_found.map enc, .imm true fun g => enc g.v_one, .imm true fun g => enc g.v_two, .imm true fun g => enc g.v_k]
abbrev V_l_others_5 : Ev G_l_others := [.own fun g => g.v_pot_here.map enc, .imm false fun g => enc g.v_cake_here, .imm true fun g => enc g.v_at, .imm true fun g => enc g.v_point, .imm true fun g => enc g.v_found, .imm true fun g => enc g.v_one, .imm true fun g => enc g.v_two, .no]
abbrev V_l_others_6 : Ev G_l_others := [.own fun g => g.v_pot_here.map enc, .imm false fun g => enc g.v_cake_here, .no, .no, .no, .no, .no, .no]
abbrev A_l_others := (List Int) × (List (Int × Int)) × Unit
def pa_l_others (a : A_l_others) : List Par := [.ino (a.1.map enc), .imm false (enc a.2.1)]
def in_l_others (a : A_l_others) : G_l_others := { v_pot_here := a.1, v_cake_here := a.2.1, v_at := 0, v_point := (0, 0), v_one := (0, 0), v_two := (0, 0), v_found := [], v_k := 0 }
def io_l_others (g : G_l_others) : (List Int) := g.v_pot_here
def po_l_others (y : (List Int)) : List (Nat × List D) := [(0, y.map enc)]
abbrev C_l_others : FC G_l_others (List (List (Int × Int))) := ⟨.nw, enc, [(0, fun g => g.v_pot_here.map enc)]⟩
abbrev b_l_others : Sc G_l_others (List (List (Int × Int))) :=
      (bindS (setS (fun g a => { g with v_at := a }) (callIo (fun (g : G_l_others) (t : Int × Unit) => (g.v_pot_here, t.1, ())) (fun (g : G_l_others) y => { g with v_pot_here := y }) F_l_take (pairA (op1 lenQ (pureA (fun g : G_l_others => g.v_cake_here))) (pureA fun _ => ()))))
      (bindS (setS (fun g a => { g with v_point := a }) (op1 (fun t => some ((fun t : Int × Int × Unit => ((t.1, t.2.1) : (Int × Int))) t)) (pairA (callIo (fun (g : G_l_others) (t : Unit) => (g.v_pot_here, ())) (fun (g : G_l_others) y => { g with v_pot_here := y }) F_l_number (pureA fun _ => ())) (pairA (callIo (fun (g : G_l_others) (t : Unit) => (g.v_pot_here, ())) (fun (g : G_l_others) y => { g with v_pot_here := y }) F_l_number (pureA fun _ => ())) (pureA fun _ => ())))))
      (bindS (setS (fun g t => { g with v_one := t.1, v_two := t.2.1 }) (pairA (op2 atI (pureA (fun g : G_l_others => g.v_cake_here)) (op2 subI (pureA (fun g : G_l_others => g.v_at)) (pureA fun _ => (1 : Int)))) (pairA (op2 atI (pureA (fun g : G_l_others => g.v_cake_here)) (pureA (fun g : G_l_others => g.v_at))) (pureA fun _ => ()))))
      (bindS (setS (fun g l => { g with v_found := l }) (op1 (fun t => some ((fun t : (List (Int × Int)) × (List (Int × Int)) × (List (Int × Int)) × (List (Int × Int)) × Unit => ([t.1, t.2.1, t.2.2.1, t.2.2.2.1] : List (List (Int × Int)))) t)) (pairA (op1 revQ (pureA (fun g : G_l_others => g.v_cake_here))) (pairA (op2 catQ (op2 catQ (slA (pureA (fun g : G_l_others => g.v_cake_here)) (pureA fun _ => none) (op1 (fun i => some (some i)) (pureA (fun g : G_l_others => g.v_at)))) (op1 (fun t => some ((fun t : (Int × Int) × Unit => ([t.1] : List (Int × Int))) t)) (pairA (pureA (fun g : G_l_others => g.v_point)) (pureA fun _ => ())))) (slA (pureA (fun g : G_l_others => g.v_cake_here)) (op1 (fun i => some (some i)) (pureA (fun g : G_l_others => g.v_at))) (pureA fun _ => none))) (pairA (op2 catQ (slA (pureA (fun g : G_l_others => g.v_cake_here)) (pureA fun _ => none) (op1 (fun i => some (some i)) (pureA (fun g : G_l_others => g.v_at)))) (slA (pureA (fun g : G_l_others => g.v_cake_here)) (op1 (fun i => some (some i)) (op2 addI (pureA (fun g : G_l_others => g.v_at)) (pureA fun _ => (1 : Int)))) (pureA fun _ => none))) (pairA (op2 catQ (op2 catQ (slA (pureA (fun g : G_l_others => g.v_cake_here)) (pureA fun _ => none) (op1 (fun i => some (some i)) (pureA (fun g : G_l_others => g.v_at)))) (op1 (fun t => some ((fun t : (Int × Int) × Unit => ([t.1] : List (Int × Int))) t)) (pairA (pureA (fun g : G_l_others => g.v_two)) (pureA fun _ => ())))) (slA (pureA (fun g : G_l_others => g.v_cake_here)) (op1 (fun i => some (some i)) (pureA (fun g : G_l_others => g.v_at))) (pureA fun _ => none))) (pureA fun _ => ())))))))
      (bindS (appS (fun g : G_l_others => g.v_found) (fun g l => { g with v_found := l }) (op2 catQ (op2 catQ (slA (pureA (fun g : G_l_others => g.v_cake_here)) (pureA fun _ => none) (op1 (fun i => some (some i)) (pureA (fun g : G_l_others => g.v_at)))) (op1 (fun t => some ((fun t : (Int × Int) × Unit => ([t.1] : List (Int × Int))) t)) (pairA (op1 (fun t => some ((fun t : Int × Int × Unit => ((t.1, t.2.1) : (Int × Int))) t)) (pairA (op2 subI (op2 mulI (pureA fun _ => (2 : Int)) (op1 (fun x => some ((fun x : (Int × Int) => x.1) x)) (pureA (fun g : G_l_others => g.v_one)))) (op1 (fun x => some ((fun x : (Int × Int) => x.1) x)) (pureA (fun g : G_l_others => g.v_two)))) (pairA (op2 subI (op2 mulI (pureA fun _ => (2 : Int)) (op1 (fun x => some ((fun x : (Int × Int) => x.2) x)) (pureA (fun g : G_l_others => g.v_one)))) (op1 (fun x => some ((fun x : (Int × Int) => x.2) x)) (pureA (fun g : G_l_others => g.v_two)))) (pureA fun _ => ())))) (pureA fun _ => ())))) (slA (pureA (fun g : G_l_others => g.v_cake_here)) (op1 (fun i => some (some i)) (pureA (fun g : G_l_others => g.v_at))) (pureA fun _ => none))))
      (bindS (appS (fun g : G_l_others => g.v_found) (fun g l => { g with v_found := l }) (compA (op1 rng1 (callIo (fun (g : G_l_others) (t : Int × Unit) => (g.v_pot_here, t.1, ())) (fun (g : G_l_others) y => { g with v_pot_here := y }) F_l_take (pairA (pureA fun _ => (7 : Int)) (pureA fun _ => ())))) (fun (g : G_l_others) (a : Int) => { g with v_k := a }) yesA (op1 (fun t => some ((fun t : Int × Int × Unit => ((t.1, t.2.1) : (Int × Int))) t)) (pairA (callIo (fun (g : G_l_others) (t : Unit) => (g.v_pot_here, ())) (fun (g : G_l_others) y => { g with v_pot_here := y }) F_l_number (pureA fun _ => ())) (pairA (callIo (fun (g : G_l_others) (t : Unit) => (g.v_pot_here, ())) (fun (g : G_l_others) y => { g with v_pot_here := y }) F_l_number (pureA fun _ => ())) (pureA fun _ => ()))))))
      (bindS (appS (fun g : G_l_others => g.v_found) (fun g l => { g with v_found := l }) (op2 stepQ (op1 (fun t => some ((fun t : (Int × Int) × (Int × Int) × (Int × Int) × (Int × Int) × (Int × Int) × Unit => ([t.1, t.2.1, t.2.2.1, t.2.2.2.1, t.2.2.2.2.1] : List (Int × Int))) t)) (pairA (op1 (fun t => some ((fun t : Int × Int × Unit => ((t.1, t.2.1) : (Int × Int))) t)) (pairA (pureA fun _ => (0 : Int)) (pairA (pureA fun _ => (3 : Int)) (pureA fun _ => ())))) (pairA (op1 (fun t => some ((fun t : Int × Int × Unit => ((t.1, t.2.1) : (Int × Int))) t)) (pairA (pureA fun _ => (2 : Int)) (pairA (op1 negI (pureA fun _ => (3 : Int))) (pureA fun _ => ())))) (pairA (op1 (fun t => some ((fun t : Int × Int × Unit => ((t.1, t.2.1) : (Int × Int))) t)) (pairA (op1 negI (pureA fun _ => (3 : Int))) (pairA (pureA fun _ => (1 : Int)) (pureA fun _ => ())))) (pairA (op1 (fun t => some ((fun t : Int × Int × Unit => ((t.1, t.2.1) : (Int × Int))) t)) (pairA (pureA fun _ => (3 : Int)) (pairA (pureA fun _ => (1 : Int)) (pureA fun _ => ())))) (pairA (op1 (fun t => some ((fun t : Int × Int × Unit => ((t.1, t.2.1) : (Int × Int))) t)) (pairA (op1 negI (pureA fun _ => (2 : Int))) (pairA (op1 negI (pureA fun _ => (3 : Int))) (pureA fun _ => ())))) (pureA fun _ => ()))))))) (op2 atI (op1 (fun t => some ((fun t : Int × Int × Unit => ([t.1, t.2.1] : List Int)) t)) (pairA (pureA fun _ => (1 : Int)) (pairA (op1 negI (pureA fun _ => (1 : Int))) (pureA fun _ => ())))) (callIo (fun (g : G_l_others) (t : Int × Unit) => (g.v_pot_here, t.1, ())) (fun (g : G_l_others) y => { g with v_pot_here := y }) F_l_take (pairA (pureA fun _ => (2 : Int)) (pureA fun _ => ()))))))
      (retS (op2 catQ (pureA (fun g : G_l_others => g.v_found)) (op1 (fun t => some ((fun t : (List (Int × Int)) × (List (Int × Int)) × Unit => ([t.1, t.2.1] : List (List (Int × Int)))) t)) (pairA (slA (pureA (fun g : G_l_others => g.v_cake_here)) (pureA fun _ => none) (op1 (fun i => some (some i)) (pureA fun _ => (2 : Int)))) (pairA (op2 catQ (pureA (fun g : G_l_others => g.v_cake_here)) (pureA (fun g : G_l_others => g.v_cake_here))) (pureA fun _ => ())))))))))))))
def F_l_others : A_l_others → FRes (List (List (Int × Int))) (List Int) := finF b_l_others in_l_others io_l_others (none)
abbrev sS_l_others : Stmt := topS 18
abbrev N_l_others : List Str := ["_law_pot_here", "_law_cake_here", "_law_at", "_law_point", "_law_found", "_law_one", "_law_two", "_law_k"]
theorem sc_l_others : FnScope N_l_others ["_law_pot_here", "_law_cake_here"] (defScope sS_l_others) := ⟨rfl, rfl, rfl, by decide +kernel, rfl, by decide +kernel, by decide +kernel⟩
abbrev P_l_others (K : PySem.W.Frag) (mg : Str → Option Value) : Sp := spOf K mg .nw pa_l_others enc po_l_others F_l_others
set_option maxHeartbeats 4000000 in
theorem ok_l_others {P : Program} {w : World} {K : PySem.W.Frag} {mg : Str → Option Value} {base : Heap} {f : Addr} {fd : FuncData} (F : Fun K "_law_others" "_law_others" sS_l_others f fd) (B : Bi mg) (c_l_take : Cal P w K mg base 1 "_law_take" ["_law_pot_here", "_law_many"] (P_l_take K mg)) (c_l_number : Cal P w K mg base 3 "_law_number" ["_law_pot_here"] (P_l_number K mg)) : FnOk P w K mg base (L2.CX P w) 4 f fd ["_law_pot_here", "_law_cake_here"] (P_l_others K mg) := by
  refine fn_ok F sc_l_others C_l_others V_l_others_6 V_l_others_6 pa_l_others in_l_others io_l_others po_l_others (none) (body := b_l_others) (fun _ => rfl) (fun _ => rfl) (fun _ => rfl) (fun _ => rfl) (by intro b h; cases h) fun cdv A outer s H E hr => ?_
  exact (s_cons (c_set (Ve' := V_l_others_0) 2 (fun g a => { g with v_at := a }) xfr_ok (x_callIo (bs := []) (fun (g : G_l_others) (t : Int × Unit) => (g.v_pot_here, t.1, ())) (fun (g : G_l_others) y => { g with v_pot_here := y }) 0 0 (fun y => y.map enc) c_l_take (hr.mono (by decide)) (a_slot 0 (a_cons (s_len B.len (svF 1 (fun g : G_l_others => g.v_cake_here))) a_nil)) (by exact fun _ _ => ⟨⟨⟨rfl, flatA_map _⟩, _, rfl, rfl⟩, ⟨rfl, fun _ => Flat.flat _⟩, trivial⟩)) (hN := sc_l_others.nd))
      (s_cons (c_set (Ve' := V_l_others_1) 3 (fun g a => { g with v_point := a }) xfr_ok (s_tup (fun t : Int × Int × Unit => ((t.1, t.2.1) : (Int × Int))) true (a_cons (x_callIo (bs := []) (fun (g : G_l_others) (t : Unit) => (g.v_pot_here, ())) (fun (g : G_l_others) y => { g with v_pot_here := y }) 0 0 (fun y => y.map enc) c_l_number hr (a_slot 0 a_nil) (by exact fun _ _ => ⟨⟨⟨rfl, flatA_map _⟩, _, rfl, rfl⟩, trivial⟩)) (a_cons (x_callIo (bs := []) (fun (g : G_l_others) (t : Unit) => (g.v_pot_here, ())) (fun (g : G_l_others) y => { g with v_pot_here := y }) 0 0 (fun y => y.map enc) c_l_number hr (a_slot 0 a_nil) (by exact fun _ _ => ⟨⟨⟨rfl, flatA_map _⟩, _, rfl, rfl⟩, trivial⟩)) a_nil))) (hN := sc_l_others.nd))
      (s_cons (c_par (Ve' := V_l_others_2) 5 6 (fun g t => { g with v_one := t.1, v_two := t.2.1 }) xfr_ok (a_cons (SE.flat (s_ix (svF 1 (fun g : G_l_others => g.v_cake_here)) (s_sub (svT 2 (fun g : G_l_others => g.v_at)) (si 1)))) (a_cons (SE.flat (s_ix (svF 1 (fun g : G_l_others => g.v_cake_here)) (svT 2 (fun g : G_l_others => g.v_at)))) a_nil)) rfl (hN := sc_l_others.nd))
      (s_cons (c_own (Ve' := V_l_others_3) 4 (fun g l => { g with v_found := l }) xfr_ok (s_lst (fun t : (List (Int × Int)) × (List (Int × Int)) × (List (Int × Int)) × (List (Int × Int)) × Unit => ([t.1, t.2.1, t.2.2.1, t.2.2.2.1] : List (List (Int × Int)))) (a_cons (SN.se (s_rev (svF 1 (fun g : G_l_others => g.v_cake_here)))) (a_cons (SN.se (s_cat (SN.se (s_cat (SN.se (s_sl (svF 1 (fun g : G_l_others => g.v_cake_here)) o_none (o_some (svT 2 (fun g : G_l_others => g.v_at))))) (SN.se (s_lst (fun t : (Int × Int) × Unit => ([t.1] : List (Int × Int))) (a_cons (svT 3 (fun g : G_l_others => g.v_point)) a_nil))))) (SN.se (s_sl (svF 1 (fun g : G_l_others => g.v_cake_here)) (o_some (svT 2 (fun g : G_l_others => g.v_at))) o_none)))) (a_cons (SN.se (s_cat (SN.se (s_sl (svF 1 (fun g : G_l_others => g.v_cake_here)) o_none (o_some (svT 2 (fun g : G_l_others => g.v_at))))) (SN.se (s_sl (svF 1 (fun g : G_l_others => g.v_cake_here)) (o_some (s_add (svT 2 (fun g : G_l_others => g.v_at)) (si 1))) o_none)))) (a_cons (SN.se (s_cat (SN.se (s_cat (SN.se (s_sl (svF 1 (fun g : G_l_others => g.v_cake_here)) o_none (o_some (svT 2 (fun g : G_l_others => g.v_at))))) (SN.se (s_lst (fun t : (Int × Int) × Unit => ([t.1] : List (Int × Int))) (a_cons (svT 6 (fun g : G_l_others => g.v_two)) a_nil))))) (SN.se (s_sl (svF 1 (fun g : G_l_others => g.v_cake_here)) (o_some (svT 2 (fun g : G_l_others => g.v_at))) o_none)))) a_nil))))) (hN := sc_l_others.nd))
      (s_cons (c_app 4 (fun g : G_l_others => g.v_found) (fun g l => { g with v_found := l }) xfr_ok (SN.se (s_cat (SN.se (s_cat (SN.se (s_sl (svF 1 (fun g : G_l_others => g.v_cake_here)) o_none (o_some (svT 2 (fun g : G_l_others => g.v_at))))) (SN.se (s_lst (fun t : (Int × Int) × Unit => ([t.1] : List (Int × Int))) (a_cons (s_tup (fun t : Int × Int × Unit => ((t.1, t.2.1) : (Int × Int))) true (a_cons (s_sub (s_mul (si 2) (s_pr 0 (fun x : (Int × Int) => x.1) (svT 5 (fun g : G_l_others => g.v_one)))) (s_pr 0 (fun x : (Int × Int) => x.1) (svT 6 (fun g : G_l_others => g.v_two)))) (a_cons (s_sub (s_mul (si 2) (s_pr 1 (fun x : (Int × Int) => x.2) (svT 5 (fun g : G_l_others => g.v_one)))) (s_pr 1 (fun x : (Int × Int) => x.2) (svT 6 (fun g : G_l_others => g.v_two)))) a_nil))) a_nil))))) (SN.se (s_sl (svF 1 (fun g : G_l_others => g.v_cake_here)) (o_some (svT 2 (fun g : G_l_others => g.v_at))) o_none)))))
      (s_cons (c_app 4 (fun g : G_l_others => g.v_found) (fun g l => { g with v_found := l }) xfr_ok (SN.se (s_lc (α := Int) (set := (fun (g : G_l_others) (a : Int) => { g with v_k := a })) (ok := blkOk_by (N := N_l_others) (sc := defScope sS_l_others) (by decide +kernel)) [("_law_k", 7)] V_l_others_4  rfl sc_l_others.nd (i_rng1 B.range (x_callIo (bs := []) (fun (g : G_l_others) (t : Int × Unit) => (g.v_pot_here, t.1, ())) (fun (g : G_l_others) y => { g with v_pot_here := y }) 0 0 (fun y => y.map enc) c_l_take (hr.mono (by decide)) (a_slot 0 (a_cons (si 7) a_nil)) (by exact fun _ _ => ⟨⟨⟨rfl, flatA_map _⟩, _, rfl, rfl⟩, ⟨rfl, fun _ => Flat.flat _⟩, trivial⟩))) (fun _ _ _ _ _ => (g_name (Ve' := V_l_others_4) 7 (fun (g : G_l_others) (a : Int) => { g with v_k := a }) (hN := sc_l_others.nd))) (fun _ _ _ _ _ => ts_nil) (fun _ _ _ _ _ => (s_tup (fun t : Int × Int × Unit => ((t.1, t.2.1) : (Int × Int))) true (a_cons (x_callIo (bs := []) (fun (g : G_l_others) (t : Unit) => (g.v_pot_here, ())) (fun (g : G_l_others) y => { g with v_pot_here := y }) 0 0 (fun y => y.map enc) c_l_number hr (a_slot 0 a_nil) (by exact fun _ _ => ⟨⟨⟨rfl, flatA_map _⟩, _, rfl, rfl⟩, trivial⟩)) (a_cons (x_callIo (bs := []) (fun (g : G_l_others) (t : Unit) => (g.v_pot_here, ())) (fun (g : G_l_others) y => { g with v_pot_here := y }) 0 0 (fun y => y.map enc) c_l_number hr (a_slot 0 a_nil) (by exact fun _ _ => ⟨⟨⟨rfl, flatA_map _⟩, _, rfl, rfl⟩, trivial⟩)) a_nil)))))))
      (s_cons (c_app 4 (fun g : G_l_others => g.v_found) (fun g l => { g with v_found := l }) xfr_ok (SN.se (s_step (SN.se (s_lst (fun t : (Int × Int) × (Int × Int) × (Int × Int) × (Int × Int) × (Int × Int) × Unit => ([t.1, t.2.1, t.2.2.1, t.2.2.2.1, t.2.2.2.2.1] : List (Int × Int))) (a_cons (s_tup (fun t : Int × Int × Unit => ((t.1, t.2.1) : (Int × Int))) true (a_cons (si 0) (a_cons (si 3) a_nil))) (a_cons (s_tup (fun t : Int × Int × Unit => ((t.1, t.2.1) : (Int × Int))) true (a_cons (si 2) (a_cons (s_neg (si 3)) a_nil))) (a_cons (s_tup (fun t : Int × Int × Unit => ((t.1, t.2.1) : (Int × Int))) true (a_cons (s_neg (si 3)) (a_cons (si 1) a_nil))) (a_cons (s_tup (fun t : Int × Int × Unit => ((t.1, t.2.1) : (Int × Int))) true (a_cons (si 3) (a_cons (si 1) a_nil))) (a_cons (s_tup (fun t : Int × Int × Unit => ((t.1, t.2.1) : (Int × Int))) true (a_cons (s_neg (si 2)) (a_cons (s_neg (si 3)) a_nil))) a_nil))))))) (s_ix (SN.se (s_lst (fun t : Int × Int × Unit => ([t.1, t.2.1] : List Int)) (a_cons (si 1) (a_cons (s_neg (si 1)) a_nil)))) (x_callIo (bs := []) (fun (g : G_l_others) (t : Int × Unit) => (g.v_pot_here, t.1, ())) (fun (g : G_l_others) y => { g with v_pot_here := y }) 0 0 (fun y => y.map enc) c_l_take (hr.mono (by decide)) (a_slot 0 (a_cons (si 2) a_nil)) (by exact fun _ _ => ⟨⟨⟨rfl, flatA_map _⟩, _, rfl, rfl⟩, ⟨rfl, fun _ => Flat.flat _⟩, trivial⟩))))))
      (s_last (SS.pre (Ve := V_l_others_3) (Ve' := V_l_others_5) (c_retN xfr_ok (s_cat (svT 4 (fun g : G_l_others => g.v_found)) (SN.se (s_lst (fun t : (List (Int × Int)) × (List (Int × Int)) × Unit => ([t.1, t.2.1] : List (List (Int × Int)))) (a_cons (SN.se (s_sl (svF 1 (fun g : G_l_others => g.v_cake_here)) o_none (o_some (si 2)))) (a_cons (SN.se (s_cat (svF 1 (fun g : G_l_others => g.v_cake_here)) (svF 1 (fun g : G_l_others => g.v_cake_here)))) a_nil)))))) (fun _ => ⟨.refl _, .refl _, .refl _, .refl _, .give (.ls _), .refl _, .refl _, .no _, trivial⟩) (by exact ⟨rfl, trivial⟩) (by exact ⟨rfl, trivial⟩))))))))))
/-! _law_are_points -/
structure G_l_are_points where
  v_some : (List (Int × Int))
  v_x : Int
  v_y : Int
abbrev V_l_are_points_0 : Ev G_l_are_points := [.imm false fun g => enc g.v_some, .imm false fun g => enc g.v_x, .no]
abbrev V_l_are_points_1 : Ev G_l_are_points := [.imm false fun g => enc g.v_some, .imm false fun g => enc g.v_x, .imm false fun g => enc g.v_y]
abbrev V_l_are_points_2 : Ev G_l_are_points := [.imm false fun g => enc g.v_some, .no, .no]
abbrev A_l_are_points := (List (Int × Int)) × Unit
def pa_l_are_points (a : A_l_are_points) : List Par := [.imm false (enc a.1)]
def in_l_are_points (a : A_l_are_points) : G_l_are_points := { v_some := a.1, v_x := 0, v_y := 0 }
def io_l_are_points (g : G_l_are_points) : Unit := ()
def po_l_are_points (y : Unit) : List (Nat × List D) := []
abbrev C_l_are_points : FC G_l_are_points Bool := ⟨.fr, enc, []⟩
abbrev b_l_are_points : Sc G_l_are_points Bool :=
      (retS (op2 ltI (op1 maxLQ (op2 catQ (compA (pureA (fun g : G_l_are_points => g.v_some)) (fun (g : G_l_are_points) (a : (Int × Int)) => { g with v_x := a.1, v_y := a.2 }) yesA (op2 max2Q (op1 absQ (pureA (fun g : G_l_are_points => g.v_x))) (op1 absQ (pureA (fun g : G_l_are_points => g.v_y))))) (op1 (fun t => some ((fun t : Int × Unit => ([t.1] : List Int)) t)) (pairA (pureA fun _ => (0 : Int)) (pureA fun _ => ()))))) (op2 powI (pureA fun _ => (10 : Int)) (pureA fun _ => (30 : Int)))))
def F_l_are_points : A_l_are_points → FRes Bool Unit := finF b_l_are_points in_l_are_points io_l_are_points (none)
abbrev sS_l_are_points : Stmt := topS 19
abbrev N_l_are_points : List Str := ["_law_some", "_law_x", "_law_y"]
theorem sc_l_are_points : FnScope N_l_are_points ["_law_some"] (defScope sS_l_are_points) := ⟨rfl, rfl, rfl, by decide +kernel, rfl, by decide +kernel, by decide +kernel⟩
abbrev P_l_are_points (K : PySem.W.Frag) (mg : Str → Option Value) : Sp := spOf K mg .fr pa_l_are_points enc po_l_are_points F_l_are_points
set_option maxHeartbeats 4000000 in
theorem ok_l_are_points {P : Program} {w : World} {K : PySem.W.Frag} {mg : Str → Option Value} {base : Heap} {f : Addr} {fd : FuncData} (F : Fun K "_law_are_points" "_law_are_points" sS_l_are_points f fd) (B : Bi mg) : FnOk P w K mg base (L2.CX P w) 1 f fd ["_law_some"] (P_l_are_points K mg) := by
  refine fn_ok F sc_l_are_points C_l_are_points V_l_are_points_2 V_l_are_points_2 pa_l_are_points in_l_are_points io_l_are_points po_l_are_points (none) (body := b_l_are_points) (fun _ => rfl) (fun _ => rfl) (fun _ => rfl) (fun _ => rfl) (by intro b h; cases h) fun cdv A outer s H E hr => ?_
  exact (s_last (c_ret xfr_ok (s_lt (s_maxL rfl B.max (SN.se (s_cat (SN.se (s_lc (α := (Int × Int)) (set := (fun (g : G_l_are_points) (a : (Int × Int)) => { g with v_x := a.1, v_y := a.2 })) (ok := blkOk_by (N := N_l_are_points) (sc := defScope sS_l_are_points) (by decide +kernel)) [("_law_x", 1), ("_law_y", 2)] V_l_are_points_1  rfl sc_l_are_points.nd (i_list (svF 0 (fun g : G_l_are_points => g.v_some))) (fun _ _ _ _ _ => (g_tup (fun a : (Int × Int) => (a.1, a.2, ())) rfl (gs_cons (g_name (Ve' := V_l_are_points_0) 1 (fun (g : G_l_are_points) (a : Int) => { g with v_x := a }) (hN := sc_l_are_points.nd)) (gs_cons (g_name (Ve' := V_l_are_points_1) 2 (fun (g : G_l_are_points) (a : Int) => { g with v_y := a }) (hN := sc_l_are_points.nd)) gs_nil)))) (fun _ _ _ _ _ => ts_nil) (fun _ _ _ _ _ => (s_max2 rfl B.max (s_abs B.abs (SE.flat (svF 1 (fun g : G_l_are_points => g.v_x)))) (s_abs B.abs (SE.flat (svF 2 (fun g : G_l_are_points => g.v_y)))))))) (SN.se (s_lst (fun t : Int × Unit => ([t.1] : List Int)) (a_cons (si 0) a_nil)))))) (s_pow (si 10) (si 30)))))
/-! _law_right -/
structure G_l_right where
  v_pot_here : (List Int)
  v_cake_here : (List (Int × Int))
  v_handed : (List (Int × Int))
  v_k : Int
  v_due : Int
  v_at : Int
  v_some : (List (Int × Int))
  v_found : Int
  v_told : Bool
abbrev V_l_right_0 : Ev G_l_right := [.own fun g => g.v_pot_here.map enc, .imm true fun g => enc g.v_cake_here, .no, .no, .no, .no, .no, .no, .no]
abbrev V_l_right_1 : Ev G_l_right := [.own fun g => g.v_pot_here.map enc, .imm true fun g => enc g.v_cake_here, .imm true fun g => enc g.v_handed, .no, .no, .no, .no, .no, .no]
abbrev V_l_right_2 : Ev G_l_right := [.own fun g => g.v_pot_here.map enc, .imm true fun g => enc g.v_cake_here, .imm true fun g => enc g.v_handed, .no, .no, .no, .no, .no, .imm true fun g => enc g.v_k]
abbrev V_l_right_3 : Ev G_l_right := [.own fun g => g.v_pot_here.map enc, .imm true fun g => enc g.v_cake_here, .imm true fun g => enc g.v_handed, .imm true fun g => enc g.v_due, .no, .no, .no, .no, .no]
abbrev V_l_right_4 : Ev G_l_right := [.own fun g => g.v_pot_here.map enc, .imm true fun g => enc g.v_cake_here, .imm true fun g => enc g.v_handed, .imm true fun g => enc g.v_due, .imm true fun g => enc g.v_at, .no, .no, .no, .no]
abbrev V_l_right_5 : Ev G_l_right := [.own fun g => g.v_pot_here.map enc, .imm true fun g => enc g.v_cake_here, .imm true fun g => enc g.v_handed, .imm true fun g => enc g.v_due, .imm true fun g => enc g.v_at, .imm true fun g => enc g.v_some, .no, .no, .no]
abbrev V_l_right_6 : Ev G_l_right := [.own fun g => g.v_pot_here.map enc, .imm true fun g => enc g.v_cake_here, .imm true fun g => enc g.v_handed, .imm true fun g => enc g.v_due, .imm true fun g => enc g.v_at, .imm true fun g => enc g.v_some, .imm true fun g => enc g.v_found, .no, .no]
abbrev V_l_right_7 : Ev G_l_right := [.own fun g => g.v_pot_here.map enc, .imm true fun g => enc g.v_cake_here, .imm true fun g => enc g.v_handed, .imm true fun g => enc g.v_due, .imm true fun g => enc g.v_at, .imm true fun g => enc g.v_some, .no, .imm true fun g => enc g.v_told, .no]
abbrev V_l_right_8 : Ev G_l_right := [.own fun g => g.v_pot_here.map enc, .no, .no, .no, .no, .no, .no, .no, .no]
abbrev A_l_right := (List Int) × Unit
def pa_l_right (a : A_l_right) : List Par := [.ino (a.1.map enc)]
def in_l_right (a : A_l_right) : G_l_right := { v_pot_here := a.1, v_cake_here := [], v_handed := [], v_k := 0, v_due := 0, v_at := 0, v_some := [], v_found := 0, v_told := false }
def io_l_right (g : G_l_right) : (List Int) := g.v_pot_here
def po_l_right (y : (List Int)) : List (Nat × List D) := [(0, y.map enc)]
abbrev C_l_right : FC G_l_right Bool := ⟨.fr, enc, [(0, fun g => g.v_pot_here.map enc)]⟩
abbrev b_l_right : Sc G_l_right Bool :=
      (bindS (setS (fun g a => { g with v_cake_here := a }) (callIo (fun (g : G_l_right) (t : Unit) => (g.v_pot_here, ())) (fun (g : G_l_right) y => { g with v_pot_here := y }) F_l_cake (pureA fun _ => ())))
      (bindS (setS (fun g a => { g with v_handed := a }) (op1 listQ (pureA (fun g : G_l_right => g.v_cake_here))))
      (bindS (ifS (orA (op2 isntQ (callA (fun (g : G_l_right) (t : (List (Int × Int)) × Unit) => (t.1, ())) F_is_cake (pairA (pureA (fun g : G_l_right => g.v_handed)) (pureA fun _ => ()))) (pureA fun _ => true)) (op2 neQ (pureA (fun g : G_l_right => g.v_handed)) (pureA (fun g : G_l_right => g.v_cake_here)))) (retS (pureA fun _ => false))
      nxS)
      (bindS (setS (fun g a => { g with v_due := a }) (op1 sumQ (compA (op2 rng2 (pureA fun _ => (1 : Int)) (op2 subI (op1 lenQ (pureA (fun g : G_l_right => g.v_cake_here))) (pureA fun _ => (1 : Int)))) (fun (g : G_l_right) (a : Int) => { g with v_k := a }) yesA (callA (fun (g : G_l_right) (t : (Int × Int) × (Int × Int) × (Int × Int) × Unit) => (t.1, t.2.1, t.2.2.1, ())) F_l_across (pairA (op2 atI (pureA (fun g : G_l_right => g.v_cake_here)) (pureA fun _ => (0 : Int))) (pairA (op2 atI (pureA (fun g : G_l_right => g.v_cake_here)) (pureA (fun g : G_l_right => g.v_k))) (pairA (op2 atI (pureA (fun g : G_l_right => g.v_cake_here)) (op2 addI (pureA (fun g : G_l_right => g.v_k)) (pureA fun _ => (1 : Int)))) (pureA fun _ => ()))))))))
      (bindS (setS (fun g a => { g with v_at := a }) (callIo (fun (g : G_l_right) (t : Int × Unit) => (g.v_pot_here, t.1, ())) (fun (g : G_l_right) y => { g with v_pot_here := y }) F_l_take (pairA (op1 lenQ (pureA (fun g : G_l_right => g.v_cake_here))) (pureA fun _ => ()))))
      (bindS (forS (op1 (fun t => some ((fun t : (List (Int × Int)) × (List (Int × Int)) × Unit => ([t.1, t.2.1] : List (List (Int × Int)))) t)) (pairA (pureA (fun g : G_l_right => g.v_handed)) (pairA (op2 catQ (slA (pureA (fun g : G_l_right => g.v_cake_here)) (op1 (fun i => some (some i)) (pureA (fun g : G_l_right => g.v_at))) (pureA fun _ => none)) (slA (pureA (fun g : G_l_right => g.v_cake_here)) (pureA fun _ => none) (op1 (fun i => some (some i)) (pureA (fun g : G_l_right => g.v_at))))) (pureA fun _ => ())))) (fun (g : G_l_right) (a : (List (Int × Int))) => { g with v_some := a }) (bindS (setS (fun g a => { g with v_found := a }) (callA (fun (g : G_l_right) (t : (List (Int × Int)) × Unit) => (t.1, ())) F_area (pairA (pureA (fun g : G_l_right => g.v_some)) (pureA fun _ => ()))))
      (ifS (orA (notA (op1 (fun _ => some true) (pureA (fun g : G_l_right => g.v_found)))) (orA (op1 (fun _ => some false) (pureA (fun g : G_l_right => g.v_found))) (orA (op2 neQ (pureA (fun g : G_l_right => g.v_found)) (pureA (fun g : G_l_right => g.v_due))) (op2 leI (pureA (fun g : G_l_right => g.v_found)) (pureA fun _ => (0 : Int)))))) (retS (pureA fun _ => false))
      nxS)))
      (bindS (forS (callIo (fun (g : G_l_right) (t : (List (Int × Int)) × Unit) => (g.v_pot_here, t.1, ())) (fun (g : G_l_right) y => { g with v_pot_here := y }) F_l_others (pairA (pureA (fun g : G_l_right => g.v_cake_here)) (pureA fun _ => ()))) (fun (g : G_l_right) (a : (List (Int × Int))) => { g with v_some := a }) (ifS (callA (fun (g : G_l_right) (t : (List (Int × Int)) × Unit) => (t.1, ())) F_l_are_points (pairA (pureA (fun g : G_l_right => g.v_some)) (pureA fun _ => ()))) (bindS (setS (fun g a => { g with v_told := a }) (callA (fun (g : G_l_right) (t : (List (Int × Int)) × Unit) => (t.1, ())) F_is_cake (pairA (op1 listQ (pureA (fun g : G_l_right => g.v_some))) (pureA fun _ => ()))))
      (ifS (orA (notA (op1 (fun _ => some true) (pureA (fun g : G_l_right => g.v_told)))) (op2 neQ (pureA (fun g : G_l_right => g.v_told)) (callA (fun (g : G_l_right) (t : (List (Int × Int)) × Unit) => (t.1, ())) F_l_is_cake (pairA (pureA (fun g : G_l_right => g.v_some)) (pureA fun _ => ()))))) (retS (pureA fun _ => false))
      nxS))
      nxS))
      (retS (op2 eqQ (pureA (fun g : G_l_right => g.v_handed)) (pureA (fun g : G_l_right => g.v_cake_here)))))))))))
def F_l_right : A_l_right → FRes Bool (List Int) := finF b_l_right in_l_right io_l_right (none)
abbrev sS_l_right : Stmt := topS 20
abbrev N_l_right : List Str := ["_law_pot_here", "_law_cake_here", "_law_handed", "_law_due", "_law_at", "_law_some", "_law_found", "_law_told", "_law_k"]
theorem sc_l_right : FnScope N_l_right ["_law_pot_here"] (defScope sS_l_right) := ⟨rfl, rfl, rfl, by decide +kernel, rfl, by decide +kernel, by decide +kernel⟩
abbrev P_l_right (K : PySem.W.Frag) (mg : Str → Option Value) : Sp := spOf K mg .fr pa_l_right enc po_l_right F_l_right
set_option maxHeartbeats 4000000 in
theorem ok_l_right {P : Program} {w : World} {K : PySem.W.Frag} {mg : Str → Option Value} {base : Heap} {f : Addr} {fd : FuncData} (F : Fun K "_law_right" "_law_right" sS_l_right f fd) (B : Bi mg) (c_l_cake : Cal P w K mg base 4 "_law_cake" ["_law_pot_here"] (P_l_cake K mg)) (c_l_take : Cal P w K mg base 1 "_law_take" ["_law_pot_here", "_law_many"] (P_l_take K mg)) (c_l_others : Cal P w K mg base 4 "_law_others" ["_law_pot_here", "_law_cake_here"] (P_l_others K mg)) (c_area : Cal P w K mg base 2 "area" ["cake"] (P_area K mg)) (c_l_are_points : Cal P w K mg base 1 "_law_are_points" ["_law_some"] (P_l_are_points K mg)) (c_is_cake : Cal P w K mg base 3 "is_cake" ["thing"] (P_is_cake K mg)) (c_l_across : Cal P w K mg base 1 "_law_across" ["_law_one", "_law_two", "_law_three"] (P_l_across K mg)) (c_l_is_cake : Cal P w K mg base 2 "_law_is_cake" ["_law_some"] (P_l_is_cake K mg)) : FnOk P w K mg base (L2.CX P w) 5 f fd ["_law_pot_here"] (P_l_right K mg) := by
  refine fn_ok F sc_l_right C_l_right V_l_right_8 V_l_right_8 pa_l_right in_l_right io_l_right po_l_right (none) (body := b_l_right) (fun _ => rfl) (fun _ => rfl) (fun _ => rfl) (fun _ => rfl) (by intro b h; cases h) fun cdv A outer s H E hr => ?_
  exact (s_cons (c_set (Ve' := V_l_right_0) 1 (fun g a => { g with v_cake_here := a }) xfr_ok (x_callIo (bs := []) (fun (g : G_l_right) (t : Unit) => (g.v_pot_here, ())) (fun (g : G_l_right) y => { g with v_pot_here := y }) 0 0 (fun y => y.map enc) (Cal.fr c_l_cake) hr (a_slot 0 a_nil) (by exact fun _ _ => ⟨⟨⟨rfl, flatA_map _⟩, _, rfl, rfl⟩, trivial⟩)) (hN := sc_l_right.nd))
      (s_cons (c_set (Ve' := V_l_right_1) 2 (fun g a => { g with v_handed := a }) xfr_ok (SN.se (s_list B.list (svT 1 (fun g : G_l_right => g.v_cake_here)))) (hN := sc_l_right.nd))
      (s_cons (c_if (Ve' := V_l_right_1) xfr_ok (SW.t (w_or (t_isntB (x_call (bs := []) (fun (g : G_l_right) (t : (List (Int × Int)) × Unit) => (t.1, ())) c_is_cake (hr.mono (by decide)) (a_cons (svT 2 (fun g : G_l_right => g.v_handed)) a_nil) (by exact fun _ _ => ⟨⟨rfl, fun h => nomatch h⟩, trivial⟩)) (sb true)) (w_or1 (t_ne hr.units (svT 2 (fun g : G_l_right => g.v_handed)) (svT 1 (fun g : G_l_right => g.v_cake_here)))))) (s_last (c_ret xfr_ok (sb false)))
      s_nil)
      (s_cons (c_set (Ve' := V_l_right_3) 3 (fun g a => { g with v_due := a }) xfr_ok (s_sum rfl B.sum (SN.se (s_lc (α := Int) (set := (fun (g : G_l_right) (a : Int) => { g with v_k := a })) (ok := blkOk_by (N := N_l_right) (sc := defScope sS_l_right) (by decide +kernel)) [("_law_k", 8)] V_l_right_2  rfl sc_l_right.nd (i_rng2 B.range (si 1) (s_sub (s_len B.len (svT 1 (fun g : G_l_right => g.v_cake_here))) (si 1))) (fun _ _ _ _ _ => (g_name (Ve' := V_l_right_2) 8 (fun (g : G_l_right) (a : Int) => { g with v_k := a }) (hN := sc_l_right.nd))) (fun _ _ _ _ _ => ts_nil) (fun _ _ _ _ _ => (x_call (bs := []) (fun (g : G_l_right) (t : (Int × Int) × (Int × Int) × (Int × Int) × Unit) => (t.1, t.2.1, t.2.2.1, ())) c_l_across (hr.mono (by decide)) (a_cons (s_ix (svT 1 (fun g : G_l_right => g.v_cake_here)) (si 0)) (a_cons (s_ix (svT 1 (fun g : G_l_right => g.v_cake_here)) (svT 8 (fun g : G_l_right => g.v_k))) (a_cons (s_ix (svT 1 (fun g : G_l_right => g.v_cake_here)) (s_add (svT 8 (fun g : G_l_right => g.v_k)) (si 1))) a_nil))) (by exact fun _ _ => ⟨⟨rfl, fun _ => Flat.flat _⟩, ⟨rfl, fun _ => Flat.flat _⟩, ⟨rfl, fun _ => Flat.flat _⟩, trivial⟩)))))) (hN := sc_l_right.nd))
      (s_cons (c_set (Ve' := V_l_right_4) 4 (fun g a => { g with v_at := a }) xfr_ok (x_callIo (bs := []) (fun (g : G_l_right) (t : Int × Unit) => (g.v_pot_here, t.1, ())) (fun (g : G_l_right) y => { g with v_pot_here := y }) 0 0 (fun y => y.map enc) c_l_take (hr.mono (by decide)) (a_slot 0 (a_cons (s_len B.len (svT 1 (fun g : G_l_right => g.v_cake_here))) a_nil)) (by exact fun _ _ => ⟨⟨⟨rfl, flatA_map _⟩, _, rfl, rfl⟩, ⟨rfl, fun _ => Flat.flat _⟩, trivial⟩)) (hN := sc_l_right.nd))
      (s_cons (c_for (Ve := V_l_right_4) (VL := V_l_right_5) (set := (fun (g : G_l_right) (a : (List (Int × Int))) => { g with v_some := a })) xfr_ok (passes_of rfl) rfl (i_list (SN.se (s_lst (fun t : (List (Int × Int)) × (List (Int × Int)) × Unit => ([t.1, t.2.1] : List (List (Int × Int)))) (a_cons (svT 2 (fun g : G_l_right => g.v_handed)) (a_cons (SN.se (s_cat (SN.se (s_sl (svT 1 (fun g : G_l_right => g.v_cake_here)) (o_some (svT 4 (fun g : G_l_right => g.v_at))) o_none)) (SN.se (s_sl (svT 1 (fun g : G_l_right => g.v_cake_here)) o_none (o_some (svT 4 (fun g : G_l_right => g.v_at))))))) a_nil))))) (g_name (Ve' := V_l_right_5) 5 (fun (g : G_l_right) (a : (List (Int × Int))) => { g with v_some := a }) (hN := sc_l_right.nd))
      (SB.wk (Ve' := V_l_right_6) (s_cons (c_set (Ve' := V_l_right_6) 6 (fun g a => { g with v_found := a }) xfr_ok (x_call (bs := []) (fun (g : G_l_right) (t : (List (Int × Int)) × Unit) => (t.1, ())) c_area (hr.mono (by decide)) (a_cons (svT 5 (fun g : G_l_right => g.v_some)) a_nil) (by exact fun _ _ => ⟨⟨rfl, fun h => nomatch h⟩, trivial⟩)) (hN := sc_l_right.nd))
      (s_last (c_if (Ve' := V_l_right_6) xfr_ok (SW.t (w_or (t_not (t_val (s_isi (cs := "int") true B.isinstance B.int (svT 6 (fun g : G_l_right => g.v_found))))) (w_or (t_val (s_isi (cs := "bool") false B.isinstance B.bool (svT 6 (fun g : G_l_right => g.v_found)))) (w_or (t_ne hr.units (svT 6 (fun g : G_l_right => g.v_found)) (svT 3 (fun g : G_l_right => g.v_due))) (w_or1 (t_le (svT 6 (fun g : G_l_right => g.v_found)) (si 0))))))) (s_last (c_ret xfr_ok (sb false)))
      s_nil))) (fun _ => ⟨.refl _, .refl _, .refl _, .refl _, .refl _, .no _, .no _, .no _, .no _, trivial⟩) (by exact ⟨rfl, trivial⟩) (by exact ⟨rfl, trivial⟩)))
      (s_cons (c_for (Ve := V_l_right_4) (VL := V_l_right_5) (set := (fun (g : G_l_right) (a : (List (Int × Int))) => { g with v_some := a })) xfr_ok (passes_of rfl) rfl (i_list (x_callIo (bs := []) (fun (g : G_l_right) (t : (List (Int × Int)) × Unit) => (g.v_pot_here, t.1, ())) (fun (g : G_l_right) y => { g with v_pot_here := y }) 0 0 (fun y => y.map enc) (Cal.fr c_l_others) hr (a_slot 0 (a_cons (svT 1 (fun g : G_l_right => g.v_cake_here)) a_nil)) (by exact fun _ _ => ⟨⟨⟨rfl, flatA_map _⟩, _, rfl, rfl⟩, ⟨rfl, fun h => nomatch h⟩, trivial⟩))) (g_name (Ve' := V_l_right_5) 5 (fun (g : G_l_right) (a : (List (Int × Int))) => { g with v_some := a }) (hN := sc_l_right.nd))
      (SB.wk (Ve' := V_l_right_5) (s_last (c_if (Ve' := V_l_right_5) xfr_ok (t_val (x_call (bs := []) (fun (g : G_l_right) (t : (List (Int × Int)) × Unit) => (t.1, ())) c_l_are_points (hr.mono (by decide)) (a_cons (svT 5 (fun g : G_l_right => g.v_some)) a_nil) (by exact fun _ _ => ⟨⟨rfl, fun h => nomatch h⟩, trivial⟩))) (SB.wk (Ve' := V_l_right_7) (s_cons (c_set (Ve' := V_l_right_7) 7 (fun g a => { g with v_told := a }) xfr_ok (x_call (bs := []) (fun (g : G_l_right) (t : (List (Int × Int)) × Unit) => (t.1, ())) c_is_cake (hr.mono (by decide)) (a_cons (SN.se (s_list B.list (svT 5 (fun g : G_l_right => g.v_some)))) a_nil) (by exact fun _ _ => ⟨⟨rfl, fun h => nomatch h⟩, trivial⟩)) (hN := sc_l_right.nd))
      (s_last (c_if (Ve' := V_l_right_7) xfr_ok (SW.t (w_or (t_not (t_val (s_isi (cs := "bool") true B.isinstance B.bool (svT 7 (fun g : G_l_right => g.v_told))))) (w_or1 (t_ne hr.units (svT 7 (fun g : G_l_right => g.v_told)) (x_call (bs := []) (fun (g : G_l_right) (t : (List (Int × Int)) × Unit) => (t.1, ())) c_l_is_cake (hr.mono (by decide)) (a_cons (svT 5 (fun g : G_l_right => g.v_some)) a_nil) (by exact fun _ _ => ⟨⟨rfl, fun h => nomatch h⟩, trivial⟩)))))) (s_last (c_ret xfr_ok (sb false)))
      s_nil))) (fun _ => ⟨.refl _, .refl _, .refl _, .refl _, .refl _, .refl _, .no _, .no _, .no _, trivial⟩) (by exact ⟨rfl, trivial⟩) (by exact ⟨rfl, trivial⟩))
      s_nil)) (fun _ => ⟨.refl _, .refl _, .refl _, .refl _, .refl _, .no _, .no _, .no _, .no _, trivial⟩) (by exact ⟨rfl, trivial⟩) (by exact ⟨rfl, trivial⟩)))
      (s_last (c_ret xfr_ok (s_eq hr.units (svT 2 (fun g : G_l_right => g.v_handed)) (svT 1 (fun g : G_l_right => g.v_cake_here))))))))))))
/-! law -/
structure G_law where
  v_script : List Int
  v_k : Int
abbrev V_law_0 : Ev G_law := [.scr fun g => g.v_script, .imm true fun g => enc g.v_k]
abbrev V_law_1 : Ev G_law := [.scr fun g => g.v_script, .no]
abbrev A_law := List Int × Unit
def pa_law (a : A_law) : List Par := [.scr a.1]
def in_law (a : A_law) : G_law := { v_script := a.1, v_k := 0 }
def io_law (g : G_law) : Unit := ()
def po_law (y : Unit) : List (Nat × List D) := []
abbrev C_law : FC G_law Bool := ⟨.fr, enc, []⟩
abbrev b_law : Sc G_law Bool :=
      (retS (op1 allQ (compA (op1 rng1 (op2 max2Q (pureA fun _ => (1 : Int)) (op2 min2Q (pureA fun g : G_law => (g.v_script.length : Int)) (pureA fun _ => (5 : Int))))) (fun (g : G_law) (a : Int) => { g with v_k := a }) yesA (callA (fun (_ : G_law) (t : (List Int) × Unit) => t) F_l_right (pairA (callA (fun (g : G_law) (t : List Int × Int × Unit) => (t.1, t.2.1, ())) F_l_pot (pairA (pureA fun g : G_law => g.v_script) (pairA (pureA (fun g : G_law => g.v_k)) (pureA fun _ => ())))) (pureA fun _ => ()))))))
def F_law : A_law → FRes Bool Unit := finF b_law in_law io_law (none)
abbrev sS_law : Stmt := topS 21
abbrev N_law : List Str := ["_law_script", "_law_k"]
theorem sc_law : FnScope N_law ["_law_script"] (defScope sS_law) := ⟨rfl, rfl, rfl, by decide +kernel, rfl, by decide +kernel, by decide +kernel⟩
abbrev P_law (K : PySem.W.Frag) (mg : Str → Option Value) : Sp := spOf K mg .fr pa_law enc po_law F_law
set_option maxHeartbeats 4000000 in
theorem ok_law {P : Program} {w : World} {K : PySem.W.Frag} {mg : Str → Option Value} {base : Heap} {f : Addr} {fd : FuncData} (F : Fun K "law" "law" sS_law f fd) (B : Bi mg) (c_l_right : Cal P w K mg base 5 "_law_right" ["_law_pot_here"] (P_l_right K mg)) (c_l_pot : Cal P w K mg base 1 "_law_pot" ["_law_script", "_law_k"] (P_l_pot K mg)) : FnOk P w K mg base (L2.CX P w) 6 f fd ["_law_script"] (P_law K mg) := by
  refine fn_ok F sc_law C_law V_law_1 V_law_1 pa_law in_law io_law po_law (none) (body := b_law) (fun _ => rfl) (fun _ => rfl) (fun _ => rfl) (fun _ => rfl) (by intro b h; cases h) fun cdv A outer s H E hr => ?_
  exact (s_last (c_ret xfr_ok (s_all rfl B.all (SN.se (s_lc (α := Int) (set := (fun (g : G_law) (a : Int) => { g with v_k := a })) (ok := blkOk_by (N := N_law) (sc := defScope sS_law) (by decide +kernel)) [("_law_k", 1)] V_law_0  rfl sc_law.nd (i_rng1 B.range (s_max2 rfl B.max (si 1) (s_min2 rfl B.min (s_lenS 0 (fun g : G_law => g.v_script) B.len) (si 5)))) (fun _ _ _ _ _ => (g_name (Ve' := V_law_0) 1 (fun (g : G_law) (a : Int) => { g with v_k := a }) (hN := sc_law.nd))) (fun _ _ _ _ _ => ts_nil) (fun _ _ _ _ _ => (x_callT c_l_right hr (x_callN (bs := []) (fun (g : G_law) (t : List Int × Int × Unit) => (t.1, t.2.1, ())) c_l_pot (hr.mono (by decide)) (a_scr 0 (fun g : G_law => g.v_script) (a_cons (svT 1 (fun g : G_law => g.v_k)) a_nil)) (by exact fun _ _ => ⟨rfl, ⟨rfl, fun _ => Flat.flat _⟩, trivial⟩)))))))))
end HL
namespace HL
open PySem PySem.Spec PyProof.Rows L2
abbrev Pn := Int × Int
abbrev Ln3 := T3 Int Int Int
def gcd2 (a b : Int) : Nat := Nat.gcd a.natAbs b.natAbs
def dvl (a b : Int) : Int := if a < 0 ∨ (a = 0 ∧ b < 0) then -(gcd2 a b : Int) else (gcd2 a b : Int)
def nrl (a b : Int) : Pn := (a.fdiv (dvl a b), b.fdiv (dvl a b))
def thr (p q : Pn) : Ln3 := ⟨(nrl (q.2 - p.2) (p.1 - q.1)).1, (nrl (q.2 - p.2) (p.1 - q.1)).2, (nrl (q.2 - p.2) (p.1 - q.1)).1 * p.1 + (nrl (q.2 - p.2) (p.1 - q.1)).2 * p.2⟩
/-- the one form of a line's normal -/
def Nml (a b : Int) : Prop := gcd2 a b = 1 ∧ (0 < a ∨ (a = 0 ∧ b = 1))
def val (l : Ln3) (q : Pn) : Int := l.a * q.1 + l.b * q.2
theorem gcd2_pos {a b : Int} (h : ¬ (a = 0 ∧ b = 0)) : 0 < gcd2 a b := by
  rcases Nat.eq_zero_or_pos (gcd2 a b) with e | e
  · unfold gcd2 at e
    rw [Nat.gcd_eq_zero_iff] at e
    exact absurd ⟨by omega, by omega⟩ h
  · exact e
theorem dvl_ne {a b : Int} (h : ¬ (a = 0 ∧ b = 0)) : dvl a b ≠ 0 := by
  have := gcd2_pos h
  unfold dvl
  split <;> omega
theorem dvl_abs (a b : Int) : (dvl a b).natAbs = gcd2 a b := by
  unfold dvl
  split <;> omega
theorem dvl_a (a b : Int) : dvl a b ∣ a := by
  have h : gcd2 a b ∣ a.natAbs := Nat.gcd_dvd_left _ _
  rw [← dvl_abs] at h
  exact Int.natAbs_dvd_natAbs.mp h
theorem dvl_b (a b : Int) : dvl a b ∣ b := by
  have h : gcd2 a b ∣ b.natAbs := Nat.gcd_dvd_right _ _
  rw [← dvl_abs] at h
  exact Int.natAbs_dvd_natAbs.mp h
theorem nrl_mul (a b : Int) : (nrl a b).1 * dvl a b = a ∧ (nrl a b).2 * dvl a b = b := ⟨fdiv_mul (dvl_a a b), fdiv_mul (dvl_b a b)⟩
theorem nrl_gcd {a b : Int} (h : ¬ (a = 0 ∧ b = 0)) : gcd2 (nrl a b).1 (nrl a b).2 = 1 := by
  have hp := gcd2_pos h
  show Nat.gcd (a.fdiv (dvl a b)).natAbs (b.fdiv (dvl a b)).natAbs = 1
  rw [fdiv_abs (dvl_a a b), fdiv_abs (dvl_b a b), dvl_abs, Nat.gcd_div (show gcd2 a b ∣ a.natAbs from Nat.gcd_dvd_left _ _) (show gcd2 a b ∣ b.natAbs from Nat.gcd_dvd_right _ _)]
  exact Nat.div_self hp
theorem nrl_form {a b : Int} (h : ¬ (a = 0 ∧ b = 0)) : Nml (nrl a b).1 (nrl a b).2 := by
  refine ⟨nrl_gcd h, ?_⟩
  obtain ⟨h1, h2⟩ := nrl_mul a b
  have hp := gcd2_pos h
  have hn := dvl_ne h
  have hs : ((a < 0 ∨ (a = 0 ∧ b < 0)) ∧ dvl a b < 0) ∨ (¬ (a < 0 ∨ (a = 0 ∧ b < 0)) ∧ 0 < dvl a b) := by
    unfold dvl
    split
    · rename_i c
      exact .inl ⟨c, by omega⟩
    · rename_i c
      exact .inr ⟨c, by omega⟩
  by_cases ca : a = 0
  · have za := zero_div (h1.trans ca) hn
    have hb : 0 < (nrl a b).2 := sgn_div h2 (by omega)
    have hg := nrl_gcd h
    unfold gcd2 at hg
    rw [za] at hg
    simp at hg
    exact .inr ⟨za, by omega⟩
  · exact .inl (sgn_div h1 (by omega))
theorem pn_ne {p q : Pn} (h : p ≠ q) : ¬ (q.2 - p.2 = 0 ∧ p.1 - q.1 = 0) := fun z => h (Prod.ext (by omega) (by omega))
theorem thr_form {p q : Pn} (h : p ≠ q) : Nml (thr p q).a (thr p q).b := nrl_form (pn_ne h)
theorem nrl_neg {a b : Int} (h : ¬ (a = 0 ∧ b = 0)) : nrl (-a) (-b) = nrl a b := by
  have e : gcd2 (-a) (-b) = gcd2 a b := by
    unfold gcd2
    rw [Int.natAbs_neg, Int.natAbs_neg]
  have e2 : dvl (-a) (-b) = - dvl a b := by
    unfold dvl
    rw [e]
    by_cases c : a < 0 ∨ (a = 0 ∧ b < 0)
    · rw [if_pos c, if_neg (by omega)]
      omega
    · rw [if_neg c, if_pos (by omega)]
  unfold nrl
  rw [e2, Int.neg_fdiv_neg, Int.neg_fdiv_neg]
theorem thr_on1 {p q : Pn} : val (thr p q) p = (thr p q).c := rfl
theorem thr_on2 {p q : Pn} (h : p ≠ q) : val (thr p q) q = (thr p q).c := by
  obtain ⟨h1, h2⟩ := nrl_mul (q.2 - p.2) (p.1 - q.1)
  have hn := dvl_ne (pn_ne h)
  have : (val (thr p q) q - (thr p q).c) * dvl (q.2 - p.2) (p.1 - q.1) = 0 := by
    unfold val thr
    simp only
    grind
  have := zero_div this hn
  omega
theorem thr_swap {p q : Pn} (h : p ≠ q) : thr q p = thr p q := by
  have e := nrl_neg (pn_ne h)
  have e2 : nrl (p.2 - q.2) (q.1 - p.1) = nrl (q.2 - p.2) (p.1 - q.1) := by
    rw [← e]
    congr 1 <;> omega
  have h3 := thr_on2 h
  unfold thr val at *
  simp only at *
  rw [e2, h3]
/-- how far a third point lies to the side -/
def crs (p q r : Pn) : Int := (q.1 - p.1) * (r.2 - p.2) - (q.2 - p.2) * (r.1 - p.1)
theorem thr_far {p q r : Pn} : (val (thr p q) r - (thr p q).c) * dvl (q.2 - p.2) (p.1 - q.1) = - crs p q r := by
  obtain ⟨h1, h2⟩ := nrl_mul (q.2 - p.2) (p.1 - q.1)
  unfold val thr crs
  simp only
  grind
theorem thr_on {p q r : Pn} (h : p ≠ q) : val (thr p q) r = (thr p q).c ↔ crs p q r = 0 := by
  have e := thr_far (p := p) (q := q) (r := r)
  have hn := dvl_ne (pn_ne h)
  constructor
  · intro z
    rw [z] at e
    simp at e
    omega
  · intro z
    rw [z] at e
    have := zero_div (by simpa using e) hn
    omega
/-- a line in the one form is told by two of its points -/
theorem nml_unique {a b a' b' : Int} (h : Nml a b) (h' : Nml a' b') (e : a * b' = a' * b) : a = a' ∧ b = b' := by
  obtain ⟨g, s⟩ := h
  obtain ⟨g', s'⟩ := h'
  have d1 : a.natAbs ∣ a'.natAbs := by
    have : a.natAbs ∣ a'.natAbs * b.natAbs := ⟨b'.natAbs, by rw [← Int.natAbs_mul, ← Int.natAbs_mul, e]⟩
    exact Nat.Coprime.dvd_of_dvd_mul_right g this
  have d2 : a'.natAbs ∣ a.natAbs := by
    have : a'.natAbs ∣ a.natAbs * b'.natAbs := ⟨b.natAbs, by rw [← Int.natAbs_mul, ← Int.natAbs_mul, e]⟩
    exact Nat.Coprime.dvd_of_dvd_mul_right g' this
  have ea := Nat.dvd_antisymm d1 d2
  have ha : a = a' := by omega
  refine ⟨ha, ?_⟩
  subst ha
  rcases s with s | s
  · exact (Int.eq_of_mul_eq_mul_left (by omega) e).symm
  · rcases s' with s' | s'
    · omega
    · omega
theorem thr_unique {p q : Pn} {l : Ln3} (h : p ≠ q) (hl : Nml l.a l.b) (hp : val l p = l.c) (hq : val l q = l.c) : l = thr p q := by
  have e1 := thr_on1 (p := p) (q := q)
  have e2 := thr_on2 h
  have hn : l.a * (thr p q).b = (thr p q).a * l.b := by
    have k1 : l.a * (p.1 - q.1) + l.b * (p.2 - q.2) = 0 := by
      unfold val at hp hq
      grind
    have k2 : (thr p q).a * (p.1 - q.1) + (thr p q).b * (p.2 - q.2) = 0 := by
      unfold val at e1 e2
      grind
    have m1 : (l.a * (thr p q).b - (thr p q).a * l.b) * (p.1 - q.1) = 0 := by grind
    have m2 : (l.a * (thr p q).b - (thr p q).a * l.b) * (p.2 - q.2) = 0 := by grind
    have hne := pn_ne h
    by_cases c : p.1 - q.1 = 0
    · have := zero_div m2 (by omega)
      omega
    · have := zero_div m1 c
      omega
  obtain ⟨ea, eb⟩ := nml_unique hl (thr_form h) hn
  cases l with
  | mk a b c =>
    simp only at *
    have : c = (thr p q).c := by
      rw [← hp, ← e1]
      unfold val
      simp only
      rw [ea, eb]
    rw [ea, eb, this]

def PotOk (p : List Int) : Prop := ∃ a b, p = [a, b] ∧ Bd 60 b
theorem sp_pot {ns : List Int} {k : Int} (hk : Bd 20 k) (h0 : 0 ≤ k) : (F_l_pot (ns, k, ())).post (fun p _ => PotOk p) nXF := by
  have main : ∀ d : Int, MulOk 7919 k ∧
        (forR
              (fun (g : G_l_pot) a =>
                { v_script := g.v_script, v_k := g.v_k, v_cell := g.v_cell, v_mixed := g.v_mixed, v_one := a })
              (setS
                (fun g a =>
                  { v_script := g.v_script, v_k := g.v_k, v_cell := g.v_cell, v_mixed := a, v_one := g.v_one })
                (op2 modI
                  (op2 addI (op2 mulI (pureA fun g => g.v_mixed) (pureA fun x => 39373)) (pureA fun g => g.v_one))
                  (pureA fun x => 2147483629)))
              (cut none (some 40) ns)
              { v_script := ns, v_k := k, v_cell := d, v_mixed := 1000003 + 7919 * k, v_one := 0 }).post
          (fun g1 =>
            ((0 : Int) ≤ 18 ∧ (18 : Int) ≤ 1000000 ∧ Int.natAbs 10 < 2 ^ 64) ∧
              PotOk [max 0 (g1.v_cell - 1000000000000000000), g1.v_mixed])
          (fun b g => PotOk b) fun x x_1 => nXF x := by
    intro d
    refine ⟨(mulOk (by (repeat (first | assumption | with_reducible apply Bd.add | with_reducible apply Bd.sub | with_reducible apply Bd.mul | with_reducible apply Bd.neg | with_reducible apply Bd.fmod | with_reducible apply Bd.fdiv | with_reducible apply Bd.abs | with_reducible apply Bd.max | with_reducible apply Bd.min | with_reducible apply Bd.pow | with_reducible exact bdLit | decide | omega))) (by (repeat (first | assumption | with_reducible apply Bd.add | with_reducible apply Bd.sub | with_reducible apply Bd.mul | with_reducible apply Bd.neg | with_reducible apply Bd.fmod | with_reducible apply Bd.fdiv | with_reducible apply Bd.abs | with_reducible apply Bd.max | with_reducible apply Bd.min | with_reducible apply Bd.pow | with_reducible exact bdLit | decide | omega))) (by decide +kernel)), for_all (fun g => Bd 60 g.v_mixed) ?_ (fun g h => ?_) fun a ha g h => ?_⟩
    · exact Bd.mono (by (repeat (first | assumption | with_reducible apply Bd.add | with_reducible apply Bd.sub | with_reducible apply Bd.mul | with_reducible apply Bd.neg | with_reducible apply Bd.fmod | with_reducible apply Bd.fdiv | with_reducible apply Bd.abs | with_reducible apply Bd.max | with_reducible apply Bd.min | with_reducible apply Bd.pow | with_reducible exact bdLit | decide | omega))) (show _ ≤ _ by decide +kernel)
    · exact ⟨by decide, _, _, rfl, h⟩
    · simp only [p_pure, p_bind, p_op1, p_op2, p_op3, p_and, p_or, p_not, p_ite, p_pair, p_scr, p_ixO, p_sl, p_call, p_callIo, p_comp, o_some', o_add, o_sub, o_mul, o_fdiv, o_mod, o_pow, o_lt, o_le, o_gt, o_ge, o_neg, o_eq, o_ne, o_len, o_abs, o_max, o_min, o_intB, o_sum, o_all, o_any, o_list, o_cat, o_rev, o_enum, o_zip, o_countI, o_rng1, o_rng2, o_at0, o_at1, o_at2, o_set0, o_set1, o_set2, o_in, o_notin, o_is, o_isnt, o_isNone, o_isSome, o_sortI, o_sortT, o_sortSet, o_lenSet, o_divmod, p_ch, q_sixName, q_bind, q_set, q_ret, q_drop, q_if, q_nx, q_raise, q_app, q_ext, q_six, q_aug, q_augIx, q_for, q_try1, q_up, q_appK, q_pkPar, q_newK, q_putK, o_dictP, o_neK, o_inK, o_notinK, o_lenK, o_listK, o_inL, o_inR, o_unL, o_unR, o_unO, o_rep, o_rng3, o_upO, o_unOs, o_count, o_sortSetG, o_lenSetG, o_step, q_pop, q_clear, Int.reduceToNat, Int.reducePow, Int.reduceMul, Int.reduceAdd, Int.reduceSub]
      refine ⟨(mulOk (by (repeat (first | assumption | with_reducible apply Bd.add | with_reducible apply Bd.sub | with_reducible apply Bd.mul | with_reducible apply Bd.neg | with_reducible apply Bd.fmod | with_reducible apply Bd.fdiv | with_reducible apply Bd.abs | with_reducible apply Bd.max | with_reducible apply Bd.min | with_reducible apply Bd.pow | with_reducible exact bdLit | decide | omega))) (by (repeat (first | assumption | with_reducible apply Bd.add | with_reducible apply Bd.sub | with_reducible apply Bd.mul | with_reducible apply Bd.neg | with_reducible apply Bd.fmod | with_reducible apply Bd.fdiv | with_reducible apply Bd.abs | with_reducible apply Bd.max | with_reducible apply Bd.min | with_reducible apply Bd.pow | with_reducible exact bdLit | decide | omega))) (by decide +kernel)), by decide, ?_⟩
      exact Bd.mono (by (repeat (first | assumption | with_reducible apply Bd.add | with_reducible apply Bd.sub | with_reducible apply Bd.mul | with_reducible apply Bd.neg | with_reducible apply Bd.fmod | with_reducible apply Bd.fdiv | with_reducible apply Bd.abs | with_reducible apply Bd.max | with_reducible apply Bd.min | with_reducible apply Bd.pow | with_reducible exact bdLit | decide | omega))) (show _ ≤ _ by decide +kernel)
  unfold F_l_pot
  rw [q_fin]
  simp only [b_l_pot, in_l_pot, io_l_pot, p_pure, p_bind, p_op1, p_op2, p_op3, p_and, p_or, p_not, p_ite, p_pair, p_scr, p_ixO, p_sl, p_call, p_callIo, p_comp, o_some', o_add, o_sub, o_mul, o_fdiv, o_mod, o_pow, o_lt, o_le, o_gt, o_ge, o_neg, o_eq, o_ne, o_len, o_abs, o_max, o_min, o_intB, o_sum, o_all, o_any, o_list, o_cat, o_rev, o_enum, o_zip, o_countI, o_rng1, o_rng2, o_at0, o_at1, o_at2, o_set0, o_set1, o_set2, o_in, o_notin, o_is, o_isnt, o_isNone, o_isSome, o_sortI, o_sortT, o_sortSet, o_lenSet, o_divmod, p_ch, q_sixName, q_bind, q_set, q_ret, q_drop, q_if, q_nx, q_raise, q_app, q_ext, q_six, q_aug, q_augIx, q_for, q_try1, q_up, q_appK, q_pkPar, q_newK, q_putK, o_dictP, o_neK, o_inK, o_notinK, o_lenK, o_listK, o_inL, o_inR, o_unL, o_unR, o_unO, o_rep, o_rng3, o_upO, o_unOs, o_count, o_sortSetG, o_lenSetG, o_step, q_pop, q_clear, Int.reduceToNat, Int.reducePow, Int.reduceMul, Int.reduceAdd, Int.reduceSub]
  split
  · rename_i hl
    exact o_at h0 (by simpa using hl) fun d _ => main d
  · exact main 0
theorem sp_take {p : List Int} {m : Int} (hp : PotOk p) (hm : 0 < m) (hm2 : Bd 8000 m) : (F_l_take (p, m, ())).post (fun d q => 0 ≤ d ∧ d < m ∧ PotOk q) nXF := by
  obtain ⟨a, b, rfl, hb⟩ := hp
  unfold F_l_take
  rw [q_fin]
  simp only [b_l_take, in_l_take, io_l_take, p_pure, p_bind, p_op1, p_op2, p_op3, p_and, p_or, p_not, p_ite, p_pair, p_scr, p_ixO, p_sl, p_call, p_callIo, p_comp, o_some', o_add, o_sub, o_mul, o_fdiv, o_mod, o_pow, o_lt, o_le, o_gt, o_ge, o_neg, o_eq, o_ne, o_len, o_abs, o_max, o_min, o_intB, o_sum, o_all, o_any, o_list, o_cat, o_rev, o_enum, o_zip, o_countI, o_rng1, o_rng2, o_at0, o_at1, o_at2, o_set0, o_set1, o_set2, o_in, o_notin, o_is, o_isnt, o_isNone, o_isSome, o_sortI, o_sortT, o_sortSet, o_lenSet, o_divmod, p_ch, q_sixName, q_bind, q_set, q_ret, q_drop, q_if, q_nx, q_raise, q_app, q_ext, q_six, q_aug, q_augIx, q_for, q_try1, q_up, q_appK, q_pkPar, q_newK, q_putK, o_dictP, o_neK, o_inK, o_notinK, o_lenK, o_listK, o_inL, o_inR, o_unL, o_unR, o_unO, o_rep, o_rng3, o_upO, o_unOs, o_count, o_sortSetG, o_lenSetG, o_step, q_pop, q_clear, Int.reduceToNat, Int.reducePow, Int.reduceMul, Int.reduceAdd, Int.reduceSub]
  split
  · exact ⟨by omega, divOk hm2 (by omega) (by decide), (fmod_lt hm).1, (fmod_lt hm).2, _, _, rfl, hb⟩
  · refine ⟨(mulOk (by (repeat (first | assumption | with_reducible apply Bd.add | with_reducible apply Bd.sub | with_reducible apply Bd.mul | with_reducible apply Bd.neg | with_reducible apply Bd.fmod | with_reducible apply Bd.fdiv | with_reducible apply Bd.abs | with_reducible apply Bd.max | with_reducible apply Bd.min | with_reducible apply Bd.pow | with_reducible exact bdLit | decide | omega))) (by (repeat (first | assumption | with_reducible apply Bd.add | with_reducible apply Bd.sub | with_reducible apply Bd.mul | with_reducible apply Bd.neg | with_reducible apply Bd.fmod | with_reducible apply Bd.fdiv | with_reducible apply Bd.abs | with_reducible apply Bd.max | with_reducible apply Bd.min | with_reducible apply Bd.pow | with_reducible exact bdLit | decide | omega))) (by decide +kernel)), by decide, (mulOk (by (repeat (first | assumption | with_reducible apply Bd.add | with_reducible apply Bd.sub | with_reducible apply Bd.mul | with_reducible apply Bd.neg | with_reducible apply Bd.fmod | with_reducible apply Bd.fdiv | with_reducible apply Bd.abs | with_reducible apply Bd.max | with_reducible apply Bd.min | with_reducible apply Bd.pow | with_reducible exact bdLit | decide | omega))) (by (repeat (first | assumption | with_reducible apply Bd.add | with_reducible apply Bd.sub | with_reducible apply Bd.mul | with_reducible apply Bd.neg | with_reducible apply Bd.fmod | with_reducible apply Bd.fdiv | with_reducible apply Bd.abs | with_reducible apply Bd.max | with_reducible apply Bd.min | with_reducible apply Bd.pow | with_reducible exact bdLit | decide | omega))) (by decide +kernel)), by decide, (divOk (by (repeat (first | assumption | with_reducible apply Bd.add | with_reducible apply Bd.sub | with_reducible apply Bd.mul | with_reducible apply Bd.neg | with_reducible apply Bd.fmod | with_reducible apply Bd.fdiv | with_reducible apply Bd.abs | with_reducible apply Bd.max | with_reducible apply Bd.min | with_reducible apply Bd.pow | with_reducible exact bdLit | decide | omega))) (by omega) (by decide +kernel)), by omega, (fmod_lt hm).1, (fmod_lt hm).2, _, _, rfl, ?_⟩
    exact Bd.mono (by (repeat (first | assumption | with_reducible apply Bd.add | with_reducible apply Bd.sub | with_reducible apply Bd.mul | with_reducible apply Bd.neg | with_reducible apply Bd.fmod | with_reducible apply Bd.fdiv | with_reducible apply Bd.abs | with_reducible apply Bd.max | with_reducible apply Bd.min | with_reducible apply Bd.pow | with_reducible exact bdLit | decide | omega))) (show _ ≤ _ by decide +kernel)
theorem sp_wide {p : List Int} (hp : PotOk p) : (F_l_wide (p, ())).post (fun d q => d.natAbs < 10 ^ 30 ∧ PotOk q) nXF := by
  unfold F_l_wide
  rw [q_fin]
  simp only [b_l_wide, in_l_wide, io_l_wide, p_pure, p_bind, p_op1, p_op2, p_op3, p_and, p_or, p_not, p_ite, p_pair, p_scr, p_ixO, p_sl, p_call, p_callIo, p_comp, o_some', o_add, o_sub, o_mul, o_fdiv, o_mod, o_pow, o_lt, o_le, o_gt, o_ge, o_neg, o_eq, o_ne, o_len, o_abs, o_max, o_min, o_intB, o_sum, o_all, o_any, o_list, o_cat, o_rev, o_enum, o_zip, o_countI, o_rng1, o_rng2, o_at0, o_at1, o_at2, o_set0, o_set1, o_set2, o_in, o_notin, o_is, o_isnt, o_isNone, o_isSome, o_sortI, o_sortT, o_sortSet, o_lenSet, o_divmod, p_ch, q_sixName, q_bind, q_set, q_ret, q_drop, q_if, q_nx, q_raise, q_app, q_ext, q_six, q_aug, q_augIx, q_for, q_try1, q_up, q_appK, q_pkPar, q_newK, q_putK, o_dictP, o_neK, o_inK, o_notinK, o_lenK, o_listK, o_inL, o_inR, o_unL, o_unR, o_unO, o_rep, o_rng3, o_upO, o_unOs, o_count, o_sortSetG, o_lenSetG, o_step, q_pop, q_clear, Int.reduceToNat, Int.reducePow, Int.reduceMul, Int.reduceAdd, Int.reduceSub]
  refine ⟨by decide, for_inv (fun d r g => PotOk g.v_pot_here ∧ Bd (100 * d.length + 1) g.v_found) ?_ ?_ ?_⟩
  · exact ⟨hp, by unfold Bd; exact Nat.pow_pos (by decide)⟩
  · rintro g ⟨h1, h2⟩
    have := fmod_lt (a := g.v_found) (b := 1999999999999999999999999999999) (by decide)
    refine ⟨by decide, (mulOk (by (repeat (first | assumption | with_reducible apply Bd.add | with_reducible apply Bd.sub | with_reducible apply Bd.mul | with_reducible apply Bd.neg | with_reducible apply Bd.fmod | with_reducible apply Bd.fdiv | with_reducible apply Bd.abs | with_reducible apply Bd.max | with_reducible apply Bd.min | with_reducible apply Bd.pow | with_reducible exact bdLit | decide | omega))) (by (repeat (first | assumption | with_reducible apply Bd.add | with_reducible apply Bd.sub | with_reducible apply Bd.mul | with_reducible apply Bd.neg | with_reducible apply Bd.fmod | with_reducible apply Bd.fdiv | with_reducible apply Bd.abs | with_reducible apply Bd.max | with_reducible apply Bd.min | with_reducible apply Bd.pow | with_reducible exact bdLit | decide | omega))) (by decide +kernel)), by decide, by decide, ?_, h1⟩
    omega
  · rintro d a r g e ⟨h1, h2⟩
    simp only [p_pure, p_bind, p_op1, p_op2, p_op3, p_and, p_or, p_not, p_ite, p_pair, p_scr, p_ixO, p_sl, p_call, p_callIo, p_comp, o_some', o_add, o_sub, o_mul, o_fdiv, o_mod, o_pow, o_lt, o_le, o_gt, o_ge, o_neg, o_eq, o_ne, o_len, o_abs, o_max, o_min, o_intB, o_sum, o_all, o_any, o_list, o_cat, o_rev, o_enum, o_zip, o_countI, o_rng1, o_rng2, o_at0, o_at1, o_at2, o_set0, o_set1, o_set2, o_in, o_notin, o_is, o_isnt, o_isNone, o_isSome, o_sortI, o_sortT, o_sortSet, o_lenSet, o_divmod, p_ch, q_sixName, q_bind, q_set, q_ret, q_drop, q_if, q_nx, q_raise, q_app, q_ext, q_six, q_aug, q_augIx, q_for, q_try1, q_up, q_appK, q_pkPar, q_newK, q_putK, o_dictP, o_neK, o_inK, o_notinK, o_lenK, o_listK, o_inL, o_inR, o_unL, o_unR, o_unO, o_rep, o_rng3, o_upO, o_unOs, o_count, o_sortSetG, o_lenSetG, o_step, q_pop, q_clear, Int.reduceToNat, Int.reducePow, Int.reduceMul, Int.reduceAdd, Int.reduceSub]
    have hl : d.length ≤ 3 := by
      have := congrArg List.length e
      simp [rangeL] at this
      omega
    have h3 : Bd 400 g.v_found := h2.mono (by omega)
    refine ⟨by decide, (mulOk (by (repeat (first | assumption | with_reducible apply Bd.add | with_reducible apply Bd.sub | with_reducible apply Bd.mul | with_reducible apply Bd.neg | with_reducible apply Bd.fmod | with_reducible apply Bd.fdiv | with_reducible apply Bd.abs | with_reducible apply Bd.max | with_reducible apply Bd.min | with_reducible apply Bd.pow | with_reducible exact bdLit | decide | omega))) (by (repeat (first | assumption | with_reducible apply Bd.add | with_reducible apply Bd.sub | with_reducible apply Bd.mul | with_reducible apply Bd.neg | with_reducible apply Bd.fmod | with_reducible apply Bd.fdiv | with_reducible apply Bd.abs | with_reducible apply Bd.max | with_reducible apply Bd.min | with_reducible apply Bd.pow | with_reducible exact bdLit | decide | omega))) (by decide +kernel)), by decide, fUse (sp_take h1 (by decide) (by unfold Bd; decide +kernel)) fun b i ⟨h4, h5, h6⟩ => ⟨h6, ?_⟩⟩
    have h5' : Bd 40 b := by
      unfold Bd
      omega
    clear h3
    refine Bd.mono (by (repeat (first | assumption | with_reducible apply Bd.add | with_reducible apply Bd.sub | with_reducible apply Bd.mul | with_reducible apply Bd.neg | with_reducible apply Bd.fmod | with_reducible apply Bd.fdiv | with_reducible apply Bd.abs | with_reducible apply Bd.max | with_reducible apply Bd.min | with_reducible apply Bd.pow | with_reducible exact bdLit | decide | omega))) (m := _) ?_
    have : lg 100000000 = 27 := by decide
    rw [this, List.length_append, List.length_singleton]
    omega
theorem sp_number {p : List Int} (hp : PotOk p) : (F_l_number (p, ())).post (fun d q => d.natAbs < 10 ^ 30 ∧ PotOk q) nXF := by
  unfold F_l_number
  rw [q_fin]
  simp only [b_l_number, in_l_number, io_l_number, p_pure, p_bind, p_op1, p_op2, p_op3, p_and, p_or, p_not, p_ite, p_pair, p_scr, p_ixO, p_sl, p_call, p_callIo, p_comp, o_some', o_add, o_sub, o_mul, o_fdiv, o_mod, o_pow, o_lt, o_le, o_gt, o_ge, o_neg, o_eq, o_ne, o_len, o_abs, o_max, o_min, o_intB, o_sum, o_all, o_any, o_list, o_cat, o_rev, o_enum, o_zip, o_countI, o_rng1, o_rng2, o_at0, o_at1, o_at2, o_set0, o_set1, o_set2, o_in, o_notin, o_is, o_isnt, o_isNone, o_isSome, o_sortI, o_sortT, o_sortSet, o_lenSet, o_divmod, p_ch, q_sixName, q_bind, q_set, q_ret, q_drop, q_if, q_nx, q_raise, q_app, q_ext, q_six, q_aug, q_augIx, q_for, q_try1, q_up, q_appK, q_pkPar, q_newK, q_putK, o_dictP, o_neK, o_inK, o_notinK, o_lenK, o_listK, o_inL, o_inR, o_unL, o_unR, o_unO, o_rep, o_rng3, o_upO, o_unOs, o_count, o_sortSetG, o_lenSetG, o_step, q_pop, q_clear, Int.reduceToNat, Int.reducePow, Int.reduceMul, Int.reduceAdd, Int.reduceSub]
  refine fUse (sp_take hp (by decide) (by unfold Bd; decide +kernel)) fun b i ⟨h4, h5, h6⟩ => ?_
  split
  · exact sp_wide h6
  · refine fUse (sp_take h6 (by decide) (by unfold Bd; decide +kernel)) fun b i ⟨h4, h5, h6⟩ => ⟨?_, h6⟩
    omega

/-! ### outer corners -/
def cr (u v : Pn) : Int := u.1 * v.2 - u.2 * v.1
def sbp (p q : Pn) : Pn := (p.1 - q.1, p.2 - q.2)
def Lp (u : Pn) : Prop := 0 < u.1 ∨ (u.1 = 0 ∧ 0 < u.2)
def Ld (d : Bool) (u : Pn) : Prop := Lp (if d = true then u else (-u.1, -u.2))
def Lx (d : Bool) (p q : Pn) : Prop := Ld d (sbp q p)
theorem crs_cr {p q r : Pn} : crs p q r = cr (sbp q p) (sbp r p) := rfl
theorem cr_tr {u v t : Pn} (hu : Lp u) (hv : Lp v) (ht : Lp t) (h1 : 0 ≤ cr u v) (h2 : 0 ≤ cr v t) : 0 ≤ cr u t := by
  have id : v.1 * cr u t = u.1 * cr v t + t.1 * cr u v := by unfold cr; grind
  have u1 : 0 ≤ u.1 := by unfold Lp at hu; omega
  have t1 : 0 ≤ t.1 := by unfold Lp at ht; omega
  have r0 : 0 ≤ u.1 * cr v t + t.1 * cr u v := Int.add_nonneg (Int.mul_nonneg u1 h2) (Int.mul_nonneg t1 h1)
  rcases hv with hv | ⟨v1, v2⟩
  · rw [← id] at r0
    exact Int.le_of_not_gt fun z => absurd (Int.mul_neg_of_pos_of_neg hv z) (Int.not_lt.mpr r0)
  · have e : t.1 = 0 := by
      unfold cr at h2
      rw [v1] at h2
      rcases Int.lt_or_eq_of_le t1 with z | z
      · have := Int.mul_pos v2 z
        omega
      · exact z.symm
    have t2 : 0 < t.2 := by unfold Lp at ht; omega
    unfold cr
    rw [e]
    have := Int.mul_nonneg u1 (Int.le_of_lt t2)
    omega
theorem cr_trS {u v t : Pn} (hu : Lp u) (hv : Lp v) (ht : Lp t) (h1 : 0 < cr u v) (h2 : 0 < cr v t) : 0 < cr u t := by
  have id : v.1 * cr u t = u.1 * cr v t + t.1 * cr u v := by unfold cr; grind
  have u1 : 0 < u.1 := by
    rcases hu with z | ⟨z1, z2⟩
    · exact z
    · exfalso
      unfold cr at h1
      rw [z1] at h1
      have : 0 ≤ v.1 := by unfold Lp at hv; omega
      have := Int.mul_nonneg (Int.le_of_lt z2) this
      omega
  have t1 : 0 ≤ t.1 := by unfold Lp at ht; omega
  have r0 : 0 < u.1 * cr v t + t.1 * cr u v := Int.add_pos_of_pos_of_nonneg (Int.mul_pos u1 h2) (Int.mul_nonneg t1 (Int.le_of_lt h1))
  rw [← id] at r0
  have v1 : 0 ≤ v.1 := by unfold Lp at hv; omega
  exact Int.lt_of_not_ge fun z => absurd (Int.mul_nonpos_of_nonneg_of_nonpos v1 z) (Int.not_le.mpr r0)
theorem cr_neg {u v : Pn} : cr (-u.1, -u.2) (-v.1, -v.2) = cr u v := by unfold cr; grind
theorem ld_tr {d : Bool} {u v t : Pn} (hu : Ld d u) (hv : Ld d v) (ht : Ld d t) (h1 : 0 ≤ cr u v) (h2 : 0 ≤ cr v t) : 0 ≤ cr u t := by
  cases d with
  | true => exact cr_tr hu hv ht h1 h2
  | false =>
    rw [← cr_neg] at h1 h2 ⊢
    exact cr_tr hu hv ht h1 h2
theorem ld_trS {d : Bool} {u v t : Pn} (hu : Ld d u) (hv : Ld d v) (ht : Ld d t) (h1 : 0 < cr u v) (h2 : 0 < cr v t) : 0 < cr u t := by
  cases d with
  | true => exact cr_trS hu hv ht h1 h2
  | false =>
    rw [← cr_neg] at h1 h2 ⊢
    exact cr_trS hu hv ht h1 h2
theorem lx_trans {d : Bool} {p q r : Pn} (h1 : Lx d p q) (h2 : Lx d q r) : Lx d p r := by
  unfold Lx Ld Lp sbp at *
  cases d <;> simp at * <;> omega
theorem lx_tot {d : Bool} (p q : Pn) : p = q ∨ Lx d p q ∨ Lx d q p := by
  have : p = q ↔ p.1 = q.1 ∧ p.2 = q.2 := ⟨fun e => by rw [e]; exact ⟨rfl, rfl⟩, fun e => Prod.ext e.1 e.2⟩
  rw [this]
  unfold Lx Ld Lp sbp
  cases d <;> simp <;> omega
theorem lx_ne {d : Bool} {p q : Pn} (h : Lx d p q) : p ≠ q := fun e => by
  subst e
  unfold Lx Ld Lp sbp at h
  cases d <;> simp at h
theorem lx_not {p q : Pn} : Lx (!true) p q ↔ Lx true q p := by
  unfold Lx Ld Lp sbp
  simp
  omega
theorem cr_id1 {x y z : Pn} : cr z y * x.1 - cr z x * y.1 = z.1 * cr x y := by unfold cr; grind
theorem cr_id2 {x y z : Pn} : cr z y * x.2 - cr z x * y.2 = z.2 * cr x y := by unfold cr; grind
/-- parallel ways of one half-plane are alike -/
theorem cr_par {d : Bool} {x y z : Pn} (hx : Ld d x) (hy : Ld d y) (h : cr x y = 0) (hz : cr z x < 0) : cr z y < 0 := by
  have key : ∀ {x y z : Pn}, Lp x → Lp y → cr x y = 0 → cr z x < 0 → cr z y < 0 := fun {x y z} hx hy h hz => by
    have e1 : cr z y * x.1 = cr z x * y.1 := by
      have : cr z y * x.1 - cr z x * y.1 = z.1 * cr x y := cr_id1
      rw [h] at this
      omega
    have e2 : cr z y * x.2 = cr z x * y.2 := by
      have : cr z y * x.2 - cr z x * y.2 = z.2 * cr x y := cr_id2
      rw [h] at this
      omega
    rcases hx with hx | ⟨x1, x2⟩
    · have y1 : 0 < y.1 := by
        rcases hy with hy | ⟨y1, y2⟩
        · exact hy
        · exfalso
          unfold cr at h
          rw [y1] at h
          have := Int.mul_pos hx y2
          omega
      have := Int.mul_neg_of_neg_of_pos hz y1
      rw [← e1] at this
      exact Int.lt_of_not_ge fun w => absurd (Int.mul_nonneg w (Int.le_of_lt hx)) (Int.not_le.mpr this)
    · have y1 : y.1 = 0 := by
        unfold cr at h
        rw [x1] at h
        have : x.2 * y.1 = 0 := by omega
        rcases Int.mul_eq_zero.mp this with z | z
        · omega
        · exact z
      have y2 : 0 < y.2 := by unfold Lp at hy; omega
      have := Int.mul_neg_of_neg_of_pos hz y2
      rw [← e2] at this
      exact Int.lt_of_not_ge fun w => absurd (Int.mul_nonneg w (Int.le_of_lt x2)) (Int.not_le.mpr this)
  cases d with
  | true => exact key hx hy h hz
  | false =>
    have := key (z := (-z.1, -z.2)) hx hy
    simp only [Bool.false_eq_true, if_false, cr_neg] at this
    exact this h hz
def push : List Pn → Pn → List Pn
  | b :: a :: r, p => if crs a b p ≤ 0 then push (a :: r) p else p :: b :: a :: r
  | [b], p => [p, b]
  | [], p => [p]
def Edg (d : Bool) (P : List Pn) : List Pn → Prop
  | b :: a :: r => (Lx d a b ∧ ∀ q ∈ P, 0 ≤ crs a b q) ∧ Edg d P (a :: r)
  | _ => True
def Trn : List Pn → Prop
  | c :: b :: a :: r => 0 < crs a b c ∧ Trn (b :: a :: r)
  | _ => True
structure Stk (d : Bool) (P : List Pn) (bot : Pn) (st : List Pn) : Prop where
  edg : Edg d P st
  trn : Trn st
  bt : st.getLast? = some bot
  mem : ∀ x ∈ st, x ∈ P
  low : ∀ q ∈ P, q = bot ∨ Lx d bot q
theorem edg_add {d : Bool} {P : List Pn} : ∀ {r : List Pn} {a b p : Pn}, Edg d P (b :: a :: r) → Trn (b :: a :: r) → Lx d b p → 0 < crs a b p → Edg d (P ++ [p]) (b :: a :: r)
  | r, a, b, p, h1, h2, h3, h4 => by
    obtain ⟨⟨h5, h6⟩, h7⟩ := h1
    refine ⟨⟨h5, fun q hq => ?_⟩, ?_⟩
    · rcases List.mem_append.mp hq with z | z
      · exact h6 q z
      · rw [List.mem_singleton.mp z]; exact Int.le_of_lt h4
    · match r, h2, h7 with
      | [], _, _ => trivial
      | z :: r, h2, h7 =>
        obtain ⟨h8, h9⟩ := h2
        have za := h7.1.1
        refine edg_add h7 h9 (lx_trans h5 h3) ?_
        have c1 : crs z a b = cr (sbp a z) (sbp b a) := by unfold crs cr sbp; grind
        have c2 : crs a b p = cr (sbp b a) (sbp p b) := by unfold crs cr sbp; grind
        have c3 : crs z a p = cr (sbp a z) (sbp p b) + cr (sbp a z) (sbp b a) := by unfold crs cr sbp; grind
        rw [c1] at h8
        rw [c2] at h4
        rw [c3]
        have := ld_trS za h5 h3 h8 h4
        omega
theorem crs_same {p q : Pn} : crs p q p = 0 ∧ crs p q q = 0 := by
  unfold crs
  constructor <;> grind
theorem push_inv {d : Bool} {P : List Pn} {bot p : Pn} : ∀ {st : List Pn} {top : Pn}, Stk d P bot (top :: st) → (∀ q ∈ P, Lx d q p) → (∀ q ∈ P, (q = top ∨ Lx d top q) → 0 ≤ crs top p q) →
    Stk d (P ++ [p]) bot (push (top :: st) p) ∧ (push (top :: st) p).head? = some p
  | [], b, S, hp, hn => by
    have eb : b = bot := by simpa using S.bt
    subst eb
    have bP := S.mem b List.mem_cons_self
    refine ⟨⟨⟨⟨hp b bP, fun q hq => ?_⟩, trivial⟩, trivial, by simp [push], fun x hx => ?_, fun q hq => ?_⟩, rfl⟩
    · rcases List.mem_append.mp hq with z | z
      · exact hn q z (S.low q z)
      · rw [List.mem_singleton.mp z, crs_same.2]; exact Int.le_refl _
    · have : x = p ∨ x = b := by simpa [push] using hx
      rcases this with e | e
      · rw [e]; simp
      · rw [e]; exact List.mem_append.mpr (.inl bP)
    · rcases List.mem_append.mp hq with z | z
      · exact S.low q z
      · rw [List.mem_singleton.mp z]; exact .inr (hp b bP)
  | a :: r, b, S, hp, hn => by
    have aP := S.mem a (by simp)
    have bP := S.mem b (by simp)
    obtain ⟨⟨ab, sup⟩, er⟩ := S.edg
    by_cases c : crs a b p ≤ 0
    · have e : push (b :: a :: r) p = push (a :: r) p := by simp [push, c]
      rw [e]
      refine push_inv (st := r) (top := a) ⟨er, ?_, ?_, fun x hx => S.mem x (List.mem_cons_of_mem _ hx), S.low⟩ hp fun q hq hh => ?_
      · match r, S.trn with
        | [], _ => trivial
        | z :: r, t => exact t.2
      · have := S.bt
        simpa using this
      · rcases hh with e | e
        · rw [e, crs_same.1]; exact Int.le_refl _
        · have c1 : cr (sbp p a) (sbp b a) = - crs a b p := by unfold crs cr sbp; grind
          have := ld_tr (hp a aP) ab e (by rw [c1]; omega) (sup q hq)
          exact this
    · have c' : 0 < crs a b p := by omega
      have e : push (b :: a :: r) p = p :: b :: a :: r := by simp [push, c]
      rw [e]
      refine ⟨⟨⟨⟨hp b bP, fun q hq => ?_⟩, edg_add S.edg S.trn (hp b bP) c'⟩, ⟨c', S.trn⟩, by simpa using S.bt, fun x hx => ?_, fun q hq => ?_⟩, rfl⟩
      · rcases List.mem_append.mp hq with z | z
        · rcases lx_tot (d := d) b q with w | w | w
          · exact hn q z (.inl w.symm)
          · exact hn q z (.inr w)
          · have c1 : crs a b q = cr (sbp b q) (sbp b a) := by unfold crs cr sbp; grind
            have c2 : crs a b p = cr (sbp b a) (sbp p b) := by unfold crs cr sbp; grind
            have c3 : crs b p q = cr (sbp b q) (sbp p b) := by unfold crs cr sbp; grind
            have h1 := sup q z
            rw [c1] at h1
            rw [c2] at c'
            rw [c3]
            exact ld_tr w ab (hp b bP) h1 (Int.le_of_lt c')
        · rw [List.mem_singleton.mp z, crs_same.2]; exact Int.le_refl _
      · rcases List.mem_cons.mp hx with e | e
        · rw [e]; simp
        · exact List.mem_append.mpr (.inl (S.mem x e))
      · rcases List.mem_append.mp hq with z | z
        · exact S.low q z
        · have : q = p := List.mem_singleton.mp z
          subst this
          rcases S.low b bP with e | e
          · rw [← e]; exact .inr (hp b bP)
          · exact .inr (lx_trans e (hp b bP))
theorem fold_inv {d : Bool} : ∀ (rest P : List Pn) (bot top : Pn) (st : List Pn), (P ++ rest).Pairwise (Lx d) → Stk d P bot (top :: st) → (∀ q ∈ P, q = top ∨ Lx d q top) → top ∈ P →
    ∃ top' st', (rest.foldl push (top :: st)) = top' :: st' ∧ Stk d (P ++ rest) bot (top' :: st') ∧ (rest = [] → top' = top) ∧ ∀ l, rest.getLast? = some l → top' = l
  | [], P, bot, top, st, _, S, _, _ => ⟨top, st, rfl, by simpa using S, fun _ => rfl, fun l h => by simp at h⟩
  | p :: rest, P, bot, top, st, hs, S, ht, hm => by
    have hp : ∀ q ∈ P, Lx d q p := fun q hq => (List.pairwise_append.mp hs).2.2 q hq p List.mem_cons_self
    obtain ⟨S2, h2⟩ := push_inv S hp fun q hq hh => by
      rcases hh with e | e
      · rw [e, crs_same.1]; exact Int.le_refl _
      · rcases ht q hq with w | w
        · rw [w, crs_same.1]; exact Int.le_refl _
        · exact absurd rfl (lx_ne (lx_trans e w))
    obtain ⟨st2, e2⟩ : ∃ st2, push (top :: st) p = p :: st2 := by
      cases q : push (top :: st) p with
      | nil => rw [q] at h2; cases h2
      | cons a l => rw [q] at h2; cases h2; exact ⟨l, rfl⟩
    rw [e2] at S2
    obtain ⟨t', s', k1, k2, k3, k4⟩ := fold_inv rest (P ++ [p]) bot p st2 (by simpa using hs) S2 (fun q hq => by
      rcases List.mem_append.mp hq with z | z
      · exact .inr (hp q z)
      · exact .inl (List.mem_singleton.mp z)) (by simp)
    refine ⟨t', s', by rw [List.foldl_cons, e2, k1], by simpa using k2, fun z => by simp at z, fun l hl => ?_⟩
    cases rest with
    | nil =>
      have : l = p := by simpa using hl.symm
      rw [this]
      exact k3 rfl
    | cons a r => exact k4 l (by simpa using hl)
/-- the chain of sorted points, first to last -/
def chn (row : List Pn) : List Pn := (row.foldl push []).reverse
abbrev gt (l : List Pn) (i : Nat) : Pn := l.getD i (0, 0)
structure Chn (d : Bool) (row : List Pn) (a z : Pn) (c : List Pn) : Prop where
  sup : ∀ i, i + 1 < c.length → Lx d (gt c i) (gt c (i + 1)) ∧ ∀ q ∈ row, 0 ≤ crs (gt c i) (gt c (i + 1)) q
  trn : ∀ i, i + 2 < c.length → 0 < crs (gt c i) (gt c (i + 1)) (gt c (i + 2))
  fst : gt c 0 = a
  lst : gt c (c.length - 1) = z
  mem : ∀ i, i < c.length → gt c i ∈ row
theorem edg_get {d : Bool} {P : List Pn} : ∀ {st : List Pn}, Edg d P st → ∀ j, j + 1 < st.length → Lx d (gt st (j + 1)) (gt st j) ∧ ∀ q ∈ P, 0 ≤ crs (gt st (j + 1)) (gt st j) q
  | [], _, j, h => by simp at h
  | [_], _, j, h => by simp at h
  | b :: a :: r, e, 0, h => e.1
  | b :: a :: r, e, j + 1, h => by
    have := edg_get (st := a :: r) e.2 j (by simpa using h)
    simpa [gt] using this
theorem trn_get : ∀ {st : List Pn}, Trn st → ∀ j, j + 2 < st.length → 0 < crs (gt st (j + 2)) (gt st (j + 1)) (gt st j)
  | [], _, j, h => by simp at h
  | [_], _, j, h => by simp at h
  | [_, _], _, j, h => absurd h (by simp)
  | c :: b :: a :: r, e, 0, h => e.1
  | c :: b :: a :: r, e, j + 1, h => by
    have := trn_get (st := b :: a :: r) e.2 j (by simpa using h)
    simpa [gt] using this
theorem gt_rev {l : List Pn} {i : Nat} (h : i < l.length) : gt l.reverse i = gt l (l.length - 1 - i) := by
  unfold gt
  rw [List.getD_eq_getElem?_getD, List.getD_eq_getElem?_getD, List.getElem?_reverse h]
theorem chn_ok {d : Bool} {a : Pn} {rest : List Pn} (hs : (a :: rest).Pairwise (Lx d)) (hr : rest ≠ []) : ∃ z, rest.getLast? = some z ∧ Chn d (a :: rest) a z (chn (a :: rest)) ∧ 2 ≤ (chn (a :: rest)).length := by
  obtain ⟨z, hz⟩ : ∃ z, rest.getLast? = some z := ⟨_, List.getLast?_eq_some_getLast hr⟩
  have S0 : Stk d [a] a [a] := ⟨trivial, trivial, rfl, fun x hx => hx, fun q hq => .inl (List.mem_singleton.mp hq)⟩
  obtain ⟨t, s, e1, S, e3, e4⟩ := fold_inv rest [a] a a [] (by simpa using hs) S0 (fun q hq => .inl (List.mem_singleton.mp hq)) (by simp)
  have et := e4 z hz
  subst et
  have ec : chn (a :: rest) = (t :: s).reverse := by
    unfold chn
    rw [List.foldl_cons]
    show (rest.foldl push [a]).reverse = _
    rw [e1]
  have S' : Stk d (a :: rest) a (t :: s) := by simpa using S
  have hne : a ≠ t := by
    have : t ∈ rest := List.mem_of_getLast? hz
    exact lx_ne ((List.pairwise_cons.mp hs).1 t this)
  have hl : 1 ≤ s.length := by
    cases s with
    | nil =>
      have : t = a := by simpa using S'.bt
      exact absurd this.symm hne
    | cons _ _ => simp
  refine ⟨t, hz, ⟨fun i hi => ?_, fun i hi => ?_, ?_, ?_, fun i hi => ?_⟩, by rw [ec]; simp; omega⟩
  · rw [ec] at hi ⊢
    rw [List.length_reverse] at hi
    rw [gt_rev (by omega), gt_rev (by omega)]
    have := edg_get S'.edg ((t :: s).length - 1 - (i + 1)) (by omega)
    rw [show (t :: s).length - 1 - (i + 1) + 1 = (t :: s).length - 1 - i by omega] at this
    exact this
  · rw [ec] at hi ⊢
    rw [List.length_reverse] at hi
    rw [gt_rev (by omega), gt_rev (by omega), gt_rev (by omega)]
    have := trn_get S'.trn ((t :: s).length - 1 - (i + 2)) (by omega)
    rw [show (t :: s).length - 1 - (i + 2) + 1 = (t :: s).length - 1 - (i + 1) by omega, show (t :: s).length - 1 - (i + 2) + 2 = (t :: s).length - 1 - i by omega] at this
    exact this
  · rw [ec, gt_rev (by simp)]
    have := S'.bt
    rw [List.getLast?_eq_getElem?] at this
    unfold gt
    rw [List.getD_eq_getElem?_getD, Nat.sub_zero, this]
    rfl
  · rw [ec, List.length_reverse, gt_rev (by simp)]
    simp [gt]
  · rw [ec] at hi ⊢
    rw [List.length_reverse] at hi
    rw [gt_rev hi]
    refine S'.mem _ ?_
    unfold gt
    rw [List.getD_eq_getElem?_getD, List.getElem?_eq_getElem (by omega)]
    exact List.getElem_mem _

/-! ### a walk round corners -/
theorem sq_nn (x : Int) : 0 ≤ x * x := by
  rcases Int.le_total 0 x with h | h
  · exact Int.mul_nonneg h h
  · exact Int.mul_nonneg_of_nonpos_of_nonpos h h
theorem sq_0 {x : Int} (h : x * x = 0) : x = 0 := (Int.mul_eq_zero.mp h).elim id id
theorem mul_0 {a b : Int} (h : a * b = 0) (ha : 0 < a) : b = 0 := (Int.mul_eq_zero.mp h).resolve_left (by omega)
def dt (u v : Pn) : Int := u.1 * v.1 + u.2 * v.2
theorem cr_along {D w x : Pn} (h : cr D w = 0) : dt D D * cr x w = dt w D * cr x D := by
  have id : dt D D * cr x w - dt w D * cr x D = cr D w * dt x D := by unfold dt cr; grind
  rw [h] at id
  omega
theorem dt_pos {D x : Pn} (h : cr x D ≠ 0) : 0 < dt D D := by
  unfold dt
  have h1 : 0 ≤ D.1 * D.1 := sq_nn _
  have h2 : 0 ≤ D.2 * D.2 := sq_nn _
  by_cases c : D.1 * D.1 + D.2 * D.2 = 0
  · exfalso
    have e1 : D.1 = 0 := sq_0 (by omega)
    have e2 : D.2 = 0 := sq_0 (by omega)
    unfold cr at h
    rw [e1, e2] at h
    simp at h
  · omega
theorem pos_of {a x b y : Int} (h : a * x = b * y) (ha : 0 < a) (hb : 0 < b) (hy : 0 < y) : 0 < x := by
  have := Int.mul_pos hb hy
  rw [← h] at this
  exact Int.lt_of_not_ge fun z => absurd (Int.mul_nonpos_of_nonneg_of_nonpos (Int.le_of_lt ha) z) (Int.not_le.mpr this)
theorem neg_of {a x b y : Int} (h : a * x = b * y) (ha : 0 < a) (hb : b < 0) (hy : 0 < y) : x < 0 := by
  have := Int.mul_neg_of_neg_of_pos hb hy
  rw [← h] at this
  exact Int.lt_of_not_ge fun z => absurd (Int.mul_nonneg (Int.le_of_lt ha) z) (Int.not_le.mpr this)
theorem nonpos_of {a x b y : Int} (h : a * x = b * y) (hb : 0 < b) (ha : 0 < a) (hx : x ≤ 0) : y ≤ 0 := by
  have := Int.mul_nonpos_of_nonneg_of_nonpos (Int.le_of_lt ha) hx
  rw [h] at this
  exact Int.le_of_not_gt fun z => absurd (Int.mul_pos hb z) (Int.not_lt.mpr this)
theorem nonneg_of {a x b y : Int} (h : a * x = b * y) (hb : 0 < b) (ha : 0 < a) (hx : 0 ≤ x) : 0 ≤ y := by
  have := Int.mul_nonneg (Int.le_of_lt ha) hx
  rw [h] at this
  exact Int.le_of_not_gt fun z => absurd (Int.mul_neg_of_pos_of_neg hb z) (Int.not_lt.mpr this)
theorem poly_conv {n : Nat} {c : Nat → Pn} {row : List Pn} (hn : 0 < n) (per : ∀ k, c (k + n) = c k) (mem : ∀ k, c k ∈ row) (S : ∀ k, ∀ r ∈ row, 0 ≤ crs (c k) (c (k + 1)) r) (T : ∀ k, 0 < crs (c k) (c (k + 1)) (c (k + 2)))
    {k j : Nat} (h1 : c j ≠ c k) (h2 : c j ≠ c (k + 1)) : 0 < crs (c k) (c (k + 1)) (c j) := by
  have s0 := S k _ (mem j)
  rcases Int.lt_or_eq_of_le s0 with z | z
  · exact z
  exfalso
  have back : ∀ i, ∃ i', c (i' + 1) = c i ∧ c (i' + 2) = c (i + 1) := fun i => ⟨i + n - 1, by rw [show i + n - 1 + 1 = i + n by omega, per], by rw [show i + n - 1 + 2 = i + 1 + n by omega, per]⟩
  obtain ⟨a', ea1, ea2⟩ := back k
  obtain ⟨j', ej1, ej2⟩ := back j
  have Ta := T a'
  have Sa := S a' _ (mem j)
  rw [ea1] at Sa
  rw [ea1, ea2] at Ta
  have Tk := T k
  have Sb := S (k + 1) _ (mem j)
  have Tj := T j'
  have Sj1 := S j' _ (mem k)
  have Sj2 := S j' _ (mem (k + 1))
  rw [ej1] at Sj1 Sj2
  rw [ej1, ej2] at Tj
  have Sk1 := S j _ (mem k)
  have Sk2 := S j _ (mem (k + 1))
  rw [show k + 1 + 1 = k + 2 from rfl] at Sb
  generalize c k = p at *
  generalize c (k + 1) = q at *
  generalize c (k + 2) = b' at *
  generalize c a' = a at *
  generalize c j = v at *
  generalize c j' = x at *
  generalize c (j + 1) = y at *
  have z : cr (sbp q p) (sbp v p) = 0 := z.symm
  have f1 : crs a p q = cr (sbp p a) (sbp q p) := by unfold crs cr sbp; grind
  have f2 : crs a p v = cr (sbp p a) (sbp v p) := by unfold crs cr sbp; grind
  have f3 : crs p q b' = - cr (sbp b' q) (sbp q p) := by unfold crs cr sbp; grind
  have f4 : crs q b' v = cr (sbp b' q) (sbp v p) - cr (sbp b' q) (sbp q p) := by unfold crs cr sbp; grind
  rw [f1] at Ta
  rw [f2] at Sa
  rw [f3] at Tk
  rw [f4] at Sb
  have DD : 0 < dt (sbp q p) (sbp q p) := dt_pos (x := sbp p a) (by omega)
  have al := fun u => cr_along (x := u) z
  by_cases l0 : dt (sbp v p) (sbp q p) < 0
  · have := neg_of (al (sbp p a)) DD l0 Ta
    omega
  by_cases l1 : dt (sbp q p) (sbp q p) < dt (sbp v p) (sbp q p)
  · have e : dt (sbp q p) (sbp q p) * (cr (sbp b' q) (sbp q p) - cr (sbp b' q) (sbp v p)) = (dt (sbp v p) (sbp q p) - dt (sbp q p) (sbp q p)) * (- cr (sbp b' q) (sbp q p)) := by
      rw [Int.mul_sub, al (sbp b' q)]; grind
    have := pos_of e DD (by omega) Tk
    omega
  have id1 : dt (sbp q p) (sbp q p) * (sbp v p).1 = dt (sbp v p) (sbp q p) * (sbp q p).1 := by
    have : dt (sbp q p) (sbp q p) * (sbp v p).1 - dt (sbp v p) (sbp q p) * (sbp q p).1 = - (cr (sbp q p) (sbp v p) * (sbp q p).2) := by unfold dt cr; grind
    rw [z] at this
    omega
  have id2 : dt (sbp q p) (sbp q p) * (sbp v p).2 = dt (sbp v p) (sbp q p) * (sbp q p).2 := by
    have : dt (sbp q p) (sbp q p) * (sbp v p).2 - dt (sbp v p) (sbp q p) * (sbp q p).2 = cr (sbp q p) (sbp v p) * (sbp q p).1 := by unfold dt cr; grind
    rw [z] at this
    omega
  by_cases l2 : dt (sbp v p) (sbp q p) = 0
  · rw [l2, Int.zero_mul] at id1 id2
    have e1 : (sbp v p).1 = 0 := mul_0 id1 DD
    have e2 : (sbp v p).2 = 0 := mul_0 id2 DD
    unfold sbp at e1 e2
    simp at e1 e2
    exact h1 (Prod.ext (by omega) (by omega))
  by_cases l3 : dt (sbp v p) (sbp q p) = dt (sbp q p) (sbp q p)
  · rw [l3] at id1 id2
    have e1 := Int.eq_of_mul_eq_mul_left (by omega) id1
    have e2 := Int.eq_of_mul_eq_mul_left (by omega) id2
    unfold sbp at e1 e2
    simp at e1 e2
    exact h2 (Prod.ext (by omega) (by omega))
  have g1 : crs x v p = - cr (sbp v x) (sbp v p) := by unfold crs cr sbp; grind
  have g2 : crs x v q = cr (sbp v x) (sbp q p) - cr (sbp v x) (sbp v p) := by unfold crs cr sbp; grind
  have g3 : crs v y p = - cr (sbp y v) (sbp v p) := by unfold crs cr sbp; grind
  have g4 : crs v y q = cr (sbp y v) (sbp q p) - cr (sbp y v) (sbp v p) := by unfold crs cr sbp; grind
  have g5 : crs x v y = cr (sbp v x) (sbp y v) := by unfold crs cr sbp; grind
  rw [g1] at Sj1
  rw [g2] at Sj2
  rw [g3] at Sk1
  rw [g4] at Sk2
  rw [g5] at Tj
  have par : ∀ u, 0 ≤ - cr u (sbp v p) → 0 ≤ cr u (sbp q p) - cr u (sbp v p) → cr u (sbp q p) = 0 := fun u hu1 hu2 => by
    have k1 := nonpos_of (al u) (by omega) DD (by omega)
    have e : dt (sbp q p) (sbp q p) * (cr u (sbp q p) - cr u (sbp v p)) = (dt (sbp q p) (sbp q p) - dt (sbp v p) (sbp q p)) * cr u (sbp q p) := by
      rw [Int.mul_sub, al u]; grind
    have k2 := nonneg_of e (by omega) DD hu2
    omega
  have p1 := par _ Sj1 Sj2
  have p2 := par _ Sk1 Sk2
  have p3 : cr (sbp q p) (sbp y v) = 0 := by
    have : cr (sbp q p) (sbp y v) = - cr (sbp y v) (sbp q p) := by unfold cr; grind
    omega
  have e := cr_along (x := sbp v x) p3
  rw [p1, Int.mul_zero] at e
  have := mul_0 e DD
  omega
/-- where the turn at a corner is none, all points are on one line -/
theorem corner {d : Bool} {row : List Pn} {o x y : Pn} (hx : Ld d (sbp x o)) (hy : Ld d (sbp y o)) (s1 : ∀ r ∈ row, 0 ≤ crs o x r) (s2 : ∀ r ∈ row, 0 ≤ crs y o r) (my : y ∈ row) (hz : crs y o x ≤ 0) : ∀ r ∈ row, crs o x r = 0 := by
  intro r hr
  have e1 : crs y o x = cr (sbp x o) (sbp y o) := by unfold crs cr sbp; grind
  have e2 : crs o x y = cr (sbp x o) (sbp y o) := rfl
  have k := s1 y my
  have hc : cr (sbp x o) (sbp y o) = 0 := by omega
  have k1 := s1 r hr
  have k2 := s2 r hr
  have e3 : crs o x r = - cr (sbp r o) (sbp x o) := by unfold crs cr sbp; grind
  have e4 : crs y o r = cr (sbp r o) (sbp y o) := by unfold crs cr sbp; grind
  rcases Int.lt_or_eq_of_le k1 with z | z
  · exfalso
    have := cr_par hx hy hc (z := sbp r o) (by omega)
    omega
  · exact z.symm
theorem flat_row {row : List Pn} {o x : Pn} (hne : o ≠ x) (h : ∀ r ∈ row, crs o x r = 0) {p q r : Pn} (hp : p ∈ row) (hq : q ∈ row) (hr : r ∈ row) : crs p q r = 0 := by
  have e : ∀ r ∈ row, cr (sbp x o) (sbp r o) = 0 := fun r hr => h r hr
  have D : 0 < dt (sbp x o) (sbp x o) := by
    have h1 : 0 ≤ (sbp x o).1 * (sbp x o).1 := sq_nn _
    have h2 : 0 ≤ (sbp x o).2 * (sbp x o).2 := sq_nn _
    show 0 < (sbp x o).1 * (sbp x o).1 + (sbp x o).2 * (sbp x o).2
    by_cases z : 0 < (sbp x o).1 * (sbp x o).1 + (sbp x o).2 * (sbp x o).2
    · exact z
    refine absurd ?_ hne
    have e1 : (sbp x o).1 = 0 := sq_0 (by omega)
    have e2 : (sbp x o).2 = 0 := sq_0 (by omega)
    unfold sbp at e1 e2
    simp at e1 e2
    exact Prod.ext (by omega) (by omega)
  have k1 : cr (sbp x o) (sbp r p) = 0 := by
    have : cr (sbp x o) (sbp r p) = cr (sbp x o) (sbp r o) - cr (sbp x o) (sbp p o) := by unfold cr sbp; grind
    rw [this, e r hr, e p hp]; rfl
  have k2 : cr (sbp q p) (sbp x o) = 0 := by
    have : cr (sbp q p) (sbp x o) = cr (sbp x o) (sbp p o) - cr (sbp x o) (sbp q o) := by unfold cr sbp; grind
    rw [this, e q hq, e p hp]; rfl
  have := cr_along (x := sbp q p) k1
  rw [k2, Int.mul_zero] at this
  exact mul_0 this D
theorem chn_lt {d : Bool} {row c : List Pn} {a z : Pn} (C : Chn d row a z c) : ∀ (k i : Nat), i + k + 1 < c.length → Lx d (gt c i) (gt c (i + k + 1))
  | 0, i, h => (C.sup i h).1
  | k + 1, i, h => lx_trans (chn_lt C k i (by omega)) (C.sup (i + k + 1) h).1
theorem chn_ne {d : Bool} {row c : List Pn} {a z : Pn} (C : Chn d row a z c) {i j : Nat} (h : i < j) (hj : j < c.length) : gt c i ≠ gt c j := by
  have := lx_ne (chn_lt C (j - i - 1) i (by omega))
  rwa [show i + (j - i - 1) + 1 = j by omega] at this
/-- a corner between is not in both chains -/
theorem chn_two {row c1 c2 : List Pn} {a z : Pn} (C1 : Chn true row a z c1) (C2 : Chn false row z a c2) {i j : Nat} (h1 : 0 < i) (h2 : i + 1 < c1.length) (h3 : 0 < j) (h4 : j + 1 < c2.length) : gt c1 i ≠ gt c2 j := fun e => by
  obtain ⟨i, rfl⟩ : ∃ k, i = k + 1 := ⟨i - 1, by omega⟩
  obtain ⟨j, rfl⟩ : ∃ k, j = k + 1 := ⟨j - 1, by omega⟩
  have A1 := C1.sup i (by omega)
  have A2 := C1.sup (i + 1) (by omega)
  have A3 := C1.trn i (by omega)
  have B1 := C2.sup j (by omega)
  have m1 := C2.mem j (by omega)
  have m2 := C1.mem i (by omega)
  rw [show i + 1 + 1 = i + 2 from rfl] at A2
  rw [← e] at B1
  have k1 := A1.2 _ m1
  have k2 := A2.2 _ m1
  have k3 := B1.2 _ m2
  have l1 := A1.1
  have l2 := B1.1
  generalize gt c1 i = c at *
  generalize gt c1 (i + 1) = v at *
  generalize gt c1 (i + 2) = d at *
  generalize gt c2 j = u at *
  have f1 : crs c v u = cr (sbp v c) (sbp u v) := by unfold crs cr sbp; grind
  have f2 : crs u v c = - cr (sbp v c) (sbp u v) := by unfold crs cr sbp; grind
  have f3 : crs v d u = cr (sbp d v) (sbp u v) := by unfold crs cr sbp; grind
  have f4 : crs c v d = - cr (sbp d v) (sbp v c) := by unfold crs cr sbp; grind
  have hc : cr (sbp v c) (sbp u v) = 0 := by omega
  have hu : Ld true (sbp u v) := lx_not.mp l2
  have := cr_par (show Ld true (sbp v c) from l1) hu hc (z := sbp d v) (by omega)
  omega

def Conv (l : List Pn) : Prop := ∀ k j, k < l.length → j < l.length → j ≠ k → j ≠ (k + 1) % l.length → 0 < crs (gt l k) (gt l ((k + 1) % l.length)) (gt l j)
def outerL (row : List Pn) : List Pn := (chn row).dropLast ++ (chn row.reverse).dropLast
theorem gt_app {l k : List Pn} {i : Nat} (h : i < l.length) : gt (l ++ k) i = gt l i := by
  unfold gt
  rw [List.getD_eq_getElem?_getD, List.getD_eq_getElem?_getD, List.getElem?_append_left h]
theorem gt_app2 {l k : List Pn} {i : Nat} (h : l.length ≤ i) : gt (l ++ k) i = gt k (i - l.length) := by
  unfold gt
  rw [List.getD_eq_getElem?_getD, List.getD_eq_getElem?_getD, List.getElem?_append_right h]
theorem gt_dl {l : List Pn} {i : Nat} (h : i < l.length - 1) : gt l.dropLast i = gt l i := by
  unfold gt
  rw [List.getD_eq_getElem?_getD, List.getD_eq_getElem?_getD, List.getElem?_dropLast, if_pos h]
theorem lx_rev {row : List Pn} (hs : row.Pairwise (Lx true)) : row.reverse.Pairwise (Lx false) :=
  List.pairwise_reverse.mpr (hs.imp fun {p q} h => lx_not.mpr h)
theorem outer_conv {row : List Pn} (hs : row.Pairwise (Lx true)) (h3 : 3 ≤ (outerL row).length) : Conv (outerL row) := by
  match row, hs, h3 with
  | [], _, h3 => simp [outerL, chn] at h3
  | [a], _, h3 => simp [outerL, chn, push] at h3
  | a :: b :: rest, hs, h3 =>
    obtain ⟨z, hz, C1, n1⟩ := chn_ok hs (by simp)
    obtain ⟨t, ht⟩ : ∃ t, (a :: b :: rest).reverse = z :: t ∧ t ≠ [] ∧ t.getLast? = some a := by
      cases q : (a :: b :: rest).reverse with
      | nil => simp at q
      | cons x t =>
        have e1 : (a :: b :: rest).getLast? = some x := by rw [List.getLast?_eq_head?_reverse, q]; rfl
        have e2 : (a :: b :: rest).getLast? = some z := by rw [List.getLast?_cons_cons]; exact hz
        rw [e1] at e2
        cases e2
        refine ⟨t, rfl, fun e => ?_, ?_⟩
        · rw [e] at q
          have := congrArg List.length q
          simp at this
        · have e3 : (a :: b :: rest).reverse.getLast? = some a := by rw [List.getLast?_reverse]; rfl
          rw [q] at e3
          cases t with
          | nil =>
            have := congrArg List.length q
            simp at this
          | cons y t => rwa [List.getLast?_cons_cons] at e3
    obtain ⟨ht, hne, hl⟩ := ht
    obtain ⟨a', ha', C2, n2⟩ := chn_ok (d := false) (a := z) (rest := t) (by rw [← ht]; exact lx_rev hs) hne
    rw [hl] at ha'
    cases ha'
    have C2 : Chn false (a :: b :: rest) z a (chn (a :: b :: rest).reverse) := by
      have m : ∀ q, q ∈ z :: t ↔ q ∈ a :: b :: rest := fun q => by rw [← ht, List.mem_reverse]
      rw [ht]
      exact ⟨fun i hi => ⟨(C2.sup i hi).1, fun q hq => (C2.sup i hi).2 q ((m q).mpr hq)⟩, C2.trn, C2.fst, C2.lst, fun i hi => (m _).mp (C2.mem i hi)⟩
    rw [← ht] at n2
    revert C1 C2 n1 n2 h3
    unfold outerL
    generalize chn (a :: b :: rest) = L
    generalize chn (a :: b :: rest).reverse = U
    generalize a :: b :: rest = row
    intro h3 C1 n1 n2 C2
    -- the corners, round and round
    have hlen : (L.dropLast ++ U.dropLast).length = L.length - 1 + (U.length - 1) := by simp
    generalize hC : L.dropLast ++ U.dropLast = C at *
    generalize hn : C.length = n at *
    have n0 : 0 < n := by omega
    have per : ∀ k, gt C ((k + n) % n) = gt C (k % n) := fun k => by rw [Nat.add_mod_right]
    have cL : ∀ k, k < L.length - 1 → gt C k = gt L k := fun k hk => by
      rw [← hC, gt_app (by simpa using hk), gt_dl hk]
    have cU : ∀ k, L.length - 1 ≤ k → k < n → gt C k = gt U (k - (L.length - 1)) := fun k hk hk2 => by
      rw [← hC, gt_app2 (by simpa using hk), List.length_dropLast, gt_dl (by omega)]
    have fL : ∀ k, k ≤ L.length - 1 → gt C (k % n) = gt L k := fun k hk => by
      rcases Nat.lt_or_eq_of_le hk with z | z
      · rw [Nat.mod_eq_of_lt (by omega), cL k z]
      · rw [Nat.mod_eq_of_lt (by omega), cU k (by omega) (by omega), show k - (L.length - 1) = 0 by omega, C2.fst, z, C1.lst]
    have fU : ∀ k, L.length - 1 ≤ k → k ≤ n → gt C (k % n) = gt U (k - (L.length - 1)) := fun k hk hk2 => by
      rcases Nat.lt_or_eq_of_le hk2 with z | z
      · rw [Nat.mod_eq_of_lt z, cU k hk z]
      · rw [z, Nat.mod_self, cL 0 (by omega), C1.fst, show n - (L.length - 1) = U.length - 1 by omega, C2.lst]
    have red : ∀ k, ∃ k', k' < n ∧ ∀ i, gt C ((k + i) % n) = gt C ((k' + i) % n) := fun k => ⟨k % n, Nat.mod_lt _ n0, fun i => by rw [Nat.mod_add_mod]⟩
    have mem : ∀ k, gt C (k % n) ∈ row := fun k => by
      have hk := Nat.mod_lt k n0
      rcases Nat.lt_or_ge (k % n) (L.length - 1) with z | z
      · rw [cL _ z]; exact C1.mem _ (by omega)
      · rw [cU _ z hk]; exact C2.mem _ (by omega)
    have S : ∀ k, ∀ r ∈ row, 0 ≤ crs (gt C (k % n)) (gt C ((k + 1) % n)) r := fun k r hr => by
      obtain ⟨k', hk, e⟩ := red k
      have e0 := e 0
      have e1 := e 1
      simp only [Nat.add_zero] at e0
      rw [e0, e1]
      rcases Nat.lt_or_ge k' (L.length - 1) with z | z
      · rw [fL _ (by omega), fL _ (by omega)]
        exact (C1.sup k' (by omega)).2 r hr
      · rw [fU _ z (by omega), fU _ (by omega) (by omega), show k' + 1 - (L.length - 1) = k' - (L.length - 1) + 1 by omega]
        exact (C2.sup _ (by omega)).2 r hr
    -- not all points are on one line
    have nofl : ∀ {o x : Pn}, o ≠ x → ¬ ∀ r ∈ row, crs o x r = 0 := fun {o x} hne hr => by
      rcases Nat.lt_or_ge 2 L.length with z | z
      · have := C1.trn 0 z
        have : crs (gt L 0) (gt L (0 + 1)) (gt L (0 + 2)) = 0 := flat_row hne hr (C1.mem 0 (by omega)) (C1.mem 1 (by omega)) (C1.mem 2 (by omega))
        omega
      · have := C2.trn 0 (by omega)
        have : crs (gt U 0) (gt U (0 + 1)) (gt U (0 + 2)) = 0 := flat_row hne hr (C2.mem 0 (by omega)) (C2.mem 1 (by omega)) (C2.mem 2 (by omega))
        omega
    have T : ∀ k, 0 < crs (gt C (k % n)) (gt C ((k + 1) % n)) (gt C ((k + 2) % n)) := fun k => by
      obtain ⟨k', hk, e⟩ := red k
      have e0 := e 0
      have e1 := e 1
      have e2 := e 2
      simp only [Nat.add_zero] at e0
      rw [e0, e1, e2]
      rcases Nat.lt_or_ge (k' + 1) (L.length - 1) with z | z
      · rw [fL _ (by omega), fL _ (by omega), fL _ (by omega)]
        exact C1.trn k' (by omega)
      · rcases Nat.lt_or_eq_of_le z with z | z
        · rcases Nat.lt_or_ge (k' + 1) n with w | w
          · rw [fU _ (by omega) (by omega), fU _ (by omega) (by omega), fU _ (by omega) (by omega), show k' + 1 - (L.length - 1) = k' - (L.length - 1) + 1 by omega, show k' + 2 - (L.length - 1) = k' - (L.length - 1) + 2 by omega]
            exact C2.trn _ (by omega)
          · -- the first corner
            have w : k' + 1 = n := by omega
            have l1 := (C1.sup 0 (by omega))
            have u1 := (C2.sup (U.length - 2) (by omega))
            rw [show U.length - 2 + 1 = U.length - 1 by omega, C2.lst] at u1
            rw [C1.fst] at l1
            rw [fU _ (by omega) (by omega), fU _ (by omega) (by omega), show k' + 2 = 1 + n by omega, Nat.add_mod_right, fL 1 (by omega), show k' - (L.length - 1) = U.length - 2 by omega, show k' + 1 - (L.length - 1) = U.length - 1 by omega, C2.lst]
            refine Int.lt_of_not_ge fun hz => nofl (lx_ne l1.1) (corner (d := true) l1.1 (lx_not.mp u1.1) l1.2 u1.2 (C2.mem _ (by omega)) hz)
        · -- the last point of the row
          have l1 := (C2.sup 0 (by omega))
          have u1 := (C1.sup (L.length - 2) (by omega))
          rw [show L.length - 2 + 1 = L.length - 1 by omega, C1.lst] at u1
          rw [C2.fst] at l1
          rw [fL _ (by omega), fL _ (by omega), fU (k' + 2) (by omega) (by omega), show k' = L.length - 2 by omega, show L.length - 2 + 1 = L.length - 1 by omega, show L.length - 2 + 2 - (L.length - 1) = 0 + 1 by omega, C1.lst]
          have lf : ∀ {p q : Pn}, Lx true p q → Ld false (sbp p q) := fun h => lx_not.mpr h
          refine Int.lt_of_not_ge fun hz => nofl (lx_ne l1.1) (corner (d := false) l1.1 (lf u1.1) l1.2 u1.2 (C1.mem _ (by omega)) hz)
    have lt : ∀ i j, i < j → j < n → gt C i ≠ gt C j := fun i j hij hj => by
      have ei : gt C i = gt C (i % n) := by rw [Nat.mod_eq_of_lt (by omega)]
      have ej : gt C j = gt C (j % n) := by rw [Nat.mod_eq_of_lt (by omega)]
      rcases Nat.lt_or_ge (L.length - 1) j with z | z
      · rcases Nat.lt_or_ge i (L.length - 1) with w | w
        · rcases Nat.eq_zero_or_pos i with v | v
          · rw [v, cL 0 (by omega), C1.fst, ej, fU j (by omega) (by omega), ← C2.lst]
            exact (chn_ne C2 (by omega) (by omega)).symm
          · rw [ei, ej, fL i (by omega), fU j (by omega) (by omega)]
            exact chn_two C1 C2 v (by omega) (by omega) (by omega)
        · rw [ei, ej, fU i w (by omega), fU j (by omega) (by omega)]
          exact chn_ne C2 (by omega) (by omega)
      · rw [ei, ej, fL i (by omega), fL j z]
        exact chn_ne C1 hij (by omega)
    have ne : ∀ i j, i < n → j < n → i ≠ j → gt C i ≠ gt C j := fun i j hi hj h => by
      rcases Nat.lt_or_gt_of_ne h with z | z
      · exact lt i j z hj
      · exact (lt j i z hi).symm
    intro k j hk hj h1 h2
    rw [hn] at hk hj h2 ⊢
    have := poly_conv (c := fun k => gt C (k % n)) n0 per mem S T (k := k) (j := j)
    simp only [Nat.mod_eq_of_lt hk, Nat.mod_eq_of_lt hj] at this
    exact this (ne j k hj hk h1) (ne _ _ hj (Nat.mod_lt _ n0) h2)

def PtOk (q : Pn) : Prop := q.1.natAbs < 10 ^ 30 ∧ q.2.natAbs < 10 ^ 30
theorem bdP {x : Int} (h : x.natAbs < 10 ^ 31) : Bd 400 x := Bd.mono (n := 110) (by unfold Bd; omega) (show _ ≤ _ by decide +kernel)
def Pt (n : Nat) (q : Pn) : Prop := Bd n q.1 ∧ Bd n q.2
theorem ptOk {q : Pn} (h : PtOk q) : Pt 400 q := ⟨bdP (by have := h.1; omega), bdP (by have := h.2; omega)⟩
theorem sp_across {p q r : Pn} (hp : Pt 400 p) (hq : Pt 400 q) (hr : Pt 400 r) : (F_l_across (p, q, r, ())).post (fun d _ => d = crs p q r) nXF := by
  obtain ⟨p1, p2⟩ := hp
  obtain ⟨q1, q2⟩ := hq
  obtain ⟨r1, r2⟩ := hr
  unfold F_l_across
  rw [q_fin]
  simp only [b_l_across, in_l_across, io_l_across, p_pure, p_bind, p_op1, p_op2, p_op3, p_and, p_or, p_not, p_ite, p_pair, p_scr, p_ixO, p_sl, p_call, p_callIo, p_comp, o_some', o_add, o_sub, o_mul, o_fdiv, o_mod, o_pow, o_lt, o_le, o_gt, o_ge, o_neg, o_eq, o_ne, o_len, o_abs, o_max, o_min, o_intB, o_sum, o_all, o_any, o_list, o_cat, o_rev, o_enum, o_zip, o_countI, o_rng1, o_rng2, o_at0, o_at1, o_at2, o_set0, o_set1, o_set2, o_in, o_notin, o_is, o_isnt, o_isNone, o_isSome, o_sortI, o_sortT, o_sortSet, o_lenSet, o_divmod, p_ch, q_sixName, q_bind, q_set, q_ret, q_drop, q_if, q_nx, q_raise, q_app, q_ext, q_six, q_aug, q_augIx, q_for, q_try1, q_up, q_appK, q_pkPar, q_newK, q_putK, o_dictP, o_neK, o_inK, o_notinK, o_lenK, o_listK, o_inL, o_inR, o_unL, o_unR, o_unO, o_rep, o_rng3, o_upO, o_unOs, o_count, o_sortSetG, o_lenSetG, o_step, q_pop, q_clear, Int.reduceToNat, Int.reducePow, Int.reduceMul, Int.reduceAdd, Int.reduceSub]
  exact ⟨(mulOk (by (repeat (first | assumption | with_reducible apply Bd.add | with_reducible apply Bd.sub | with_reducible apply Bd.mul | with_reducible apply Bd.neg | with_reducible apply Bd.fmod | with_reducible apply Bd.fdiv | with_reducible apply Bd.abs | with_reducible apply Bd.max | with_reducible apply Bd.min | with_reducible apply Bd.pow | with_reducible exact bdLit | decide | omega))) (by (repeat (first | assumption | with_reducible apply Bd.add | with_reducible apply Bd.sub | with_reducible apply Bd.mul | with_reducible apply Bd.neg | with_reducible apply Bd.fmod | with_reducible apply Bd.fdiv | with_reducible apply Bd.abs | with_reducible apply Bd.max | with_reducible apply Bd.min | with_reducible apply Bd.pow | with_reducible exact bdLit | decide | omega))) (by decide +kernel)), (mulOk (by (repeat (first | assumption | with_reducible apply Bd.add | with_reducible apply Bd.sub | with_reducible apply Bd.mul | with_reducible apply Bd.neg | with_reducible apply Bd.fmod | with_reducible apply Bd.fdiv | with_reducible apply Bd.abs | with_reducible apply Bd.max | with_reducible apply Bd.min | with_reducible apply Bd.pow | with_reducible exact bdLit | decide | omega))) (by (repeat (first | assumption | with_reducible apply Bd.add | with_reducible apply Bd.sub | with_reducible apply Bd.mul | with_reducible apply Bd.neg | with_reducible apply Bd.fmod | with_reducible apply Bd.fdiv | with_reducible apply Bd.abs | with_reducible apply Bd.max | with_reducible apply Bd.min | with_reducible apply Bd.pow | with_reducible exact bdLit | decide | omega))) (by decide +kernel)), rfl⟩
theorem atI_m1 {α : Type} {a : α} {r : List α} : atI (a :: r).reverse (-1) = some a := by
  unfold atI ixN
  rw [if_neg (by decide), if_pos (by simp; omega)]
  show (a :: r).reverse[(-1 + ((a :: r).reverse.length : Int)).toNat]? = some a
  rw [show (-1 + ((a :: r).reverse.length : Int)).toNat = r.length by simp; omega]
  simp
theorem atI_m2 {α : Type} {a b : α} {r : List α} : atI (b :: a :: r).reverse (-2) = some a := by
  unfold atI ixN
  rw [if_neg (by decide), if_pos (by simp; omega)]
  show (b :: a :: r).reverse[(-2 + ((b :: a :: r).reverse.length : Int)).toNat]? = some a
  rw [show (-2 + ((b :: a :: r).reverse.length : Int)).toNat = r.length by simp; omega]
  simp
theorem cut_m1 {l : List Pn} : cut none (some (-1)) l = l.dropLast := by
  have e : HT.sIx l.length l.length (some (-1)) = l.length - 1 := by
    unfold HT.sIx
    simp
    omega
  unfold cut
  rw [HT.sIx_none, e, List.drop_zero, Nat.sub_zero, List.dropLast_eq_take]
theorem push_sub : ∀ (s : List Pn) (p : Pn), ∀ x ∈ push s p, x = p ∨ x ∈ s
  | [], p, x, h => .inl (by simpa [push] using h)
  | [b], p, x, h => by simpa [push] using h
  | b :: a :: r, p, x, h => by
    unfold push at h
    by_cases c : crs a b p ≤ 0
    · rw [if_pos c] at h
      rcases push_sub (a :: r) p x h with e | e
      · exact .inl e
      · exact .inr (List.mem_cons_of_mem _ e)
    · rw [if_neg c] at h
      simpa using h
theorem push_len : ∀ (s : List Pn) (p : Pn), (push s p).length ≤ s.length + 1
  | [], p => by simp [push]
  | [b], p => by simp [push]
  | b :: a :: r, p => by
    unfold push
    by_cases c : crs a b p ≤ 0
    · rw [if_pos c]
      have := push_len (a :: r) p
      simp at this ⊢
      omega
    · rw [if_neg c]
      simp
theorem fold_sub : ∀ (l s : List Pn), ∀ x ∈ l.foldl push s, x ∈ l ∨ x ∈ s
  | [], s, x, h => .inr h
  | p :: l, s, x, h => by
    rcases fold_sub l (push s p) x h with e | e
    · exact .inl (List.mem_cons_of_mem _ e)
    · rcases push_sub s p x e with e | e
      · exact .inl (by rw [e]; simp)
      · exact .inr e
theorem fold_len : ∀ (l s : List Pn), (l.foldl push s).length ≤ l.length + s.length
  | [], s => by simp
  | p :: l, s => by
    have h1 := fold_len l (push s p)
    have h2 := push_len s p
    simp only [List.foldl_cons, List.length_cons]
    omega
theorem sp_chain {l : List Pn} (hl : l.length < 1000) (hp : ∀ q ∈ l, Pt 400 q) : (F_l_chain (l, ())).post (fun r _ => r = (chn l).dropLast) nXF := by
  unfold F_l_chain
  rw [q_fin]
  simp only [b_l_chain, in_l_chain, io_l_chain, p_pure, p_bind, p_op1, p_op2, p_op3, p_and, p_or, p_not, p_ite, p_pair, p_scr, p_ixO, p_sl, p_call, p_callIo, p_comp, o_some', o_add, o_sub, o_mul, o_fdiv, o_mod, o_pow, o_lt, o_le, o_gt, o_ge, o_neg, o_eq, o_ne, o_len, o_abs, o_max, o_min, o_intB, o_sum, o_all, o_any, o_list, o_cat, o_rev, o_enum, o_zip, o_countI, o_rng1, o_rng2, o_at0, o_at1, o_at2, o_set0, o_set1, o_set2, o_in, o_notin, o_is, o_isnt, o_isNone, o_isSome, o_sortI, o_sortT, o_sortSet, o_lenSet, o_divmod, p_ch, q_sixName, q_bind, q_set, q_ret, q_drop, q_if, q_nx, q_raise, q_app, q_ext, q_six, q_aug, q_augIx, q_for, q_try1, q_up, q_appK, q_pkPar, q_newK, q_putK, o_dictP, o_neK, o_inK, o_notinK, o_lenK, o_listK, o_inL, o_inR, o_unL, o_unR, o_unO, o_rep, o_rng3, o_upO, o_unOs, o_count, o_sortSetG, o_lenSetG, o_step, q_pop, q_clear, Int.reduceToNat, Int.reducePow, Int.reduceMul, Int.reduceAdd, Int.reduceSub]
  refine for_inv (fun d r g => g.v_found = (d.foldl push []).reverse) rfl ?_ ?_
  · intro g hg
    rw [hg, cut_m1]
    rfl
  · intro d p r g e hg
    have hd : d.length < 1000 := by
      have := congrArg List.length e
      simp at this
      omega
    have hpd : ∀ q ∈ d.foldl push [], Pt 400 q := fun q hq => by
      rcases fold_sub d [] q hq with z | z
      · exact hp q (by rw [e]; simp [z])
      · cases z
    have pp : Pt 400 p := hp p (by rw [e]; simp)
    have ld := fold_len d []
    simp only [p_pure, p_bind, p_op1, p_op2, p_op3, p_and, p_or, p_not, p_ite, p_pair, p_scr, p_ixO, p_sl, p_call, p_callIo, p_comp, o_some', o_add, o_sub, o_mul, o_fdiv, o_mod, o_pow, o_lt, o_le, o_gt, o_ge, o_neg, o_eq, o_ne, o_len, o_abs, o_max, o_min, o_intB, o_sum, o_all, o_any, o_list, o_cat, o_rev, o_enum, o_zip, o_countI, o_rng1, o_rng2, o_at0, o_at1, o_at2, o_set0, o_set1, o_set2, o_in, o_notin, o_is, o_isnt, o_isNone, o_isSome, o_sortI, o_sortT, o_sortSet, o_lenSet, o_divmod, p_ch, q_sixName, q_bind, q_set, q_ret, q_drop, q_if, q_nx, q_raise, q_app, q_ext, q_six, q_aug, q_augIx, q_for, q_try1, q_up, q_appK, q_pkPar, q_newK, q_putK, o_dictP, o_neK, o_inK, o_notinK, o_lenK, o_listK, o_inL, o_inR, o_unL, o_unR, o_unO, o_rep, o_rng3, o_upO, o_unOs, o_count, o_sortSetG, o_lenSetG, o_step, q_pop, q_clear, Int.reduceToNat, Int.reducePow, Int.reduceMul, Int.reduceAdd, Int.reduceSub]
    refine while_inv (fun g => g.v_point = p ∧ push g.v_found.reverse p = push (d.foldl push []) p ∧ (∀ q ∈ g.v_found, Pt 400 q) ∧ g.v_found.length < 1000) (fun g => g.v_found.length) ?_ ?_ ?_
    · exact ⟨rfl, by rw [hg, List.reverse_reverse], fun q hq => by rw [hg, List.mem_reverse] at hq; exact hpd q hq, by rw [hg]; simp at ld ⊢; omega⟩
    · show g.v_found.length < FUEL
      have : g.v_found.length < 1000 := by rw [hg]; simp at ld ⊢; omega
      exact Nat.lt_of_lt_of_le this (by unfold FUEL; exact Nat.le_of_ble_eq_true (by decide +kernel))
    · rintro g ⟨g1, g2, g3, g4⟩
      simp only [p_pure, p_bind, p_op1, p_op2, p_op3, p_and, p_or, p_not, p_ite, p_pair, p_scr, p_ixO, p_sl, p_call, p_callIo, p_comp, o_some', o_add, o_sub, o_mul, o_fdiv, o_mod, o_pow, o_lt, o_le, o_gt, o_ge, o_neg, o_eq, o_ne, o_len, o_abs, o_max, o_min, o_intB, o_sum, o_all, o_any, o_list, o_cat, o_rev, o_enum, o_zip, o_countI, o_rng1, o_rng2, o_at0, o_at1, o_at2, o_set0, o_set1, o_set2, o_in, o_notin, o_is, o_isnt, o_isNone, o_isSome, o_sortI, o_sortT, o_sortSet, o_lenSet, o_divmod, p_ch, q_sixName, q_bind, q_set, q_ret, q_drop, q_if, q_nx, q_raise, q_app, q_ext, q_six, q_aug, q_augIx, q_for, q_try1, q_up, q_appK, q_pkPar, q_newK, q_putK, o_dictP, o_neK, o_inK, o_notinK, o_lenK, o_listK, o_inL, o_inR, o_unL, o_unR, o_unO, o_rep, o_rng3, o_upO, o_unOs, o_count, o_sortSetG, o_lenSetG, o_step, q_pop, q_clear, Int.reduceToNat, Int.reducePow, Int.reduceMul, Int.reduceAdd, Int.reduceSub]
      obtain ⟨s, hs⟩ : ∃ s, g.v_found = s.reverse := ⟨g.v_found.reverse, (List.reverse_reverse _).symm⟩
      rw [hs] at g2 g3 g4 ⊢
      rw [g1]
      rw [List.reverse_reverse] at g2
      rw [List.length_reverse] at g4
      have stop : push s p = p :: s → s.reverse.length < 1000000 ∧ s.reverse ++ [p] = (List.foldl push [] (d ++ [p])).reverse := fun ep => by
        refine ⟨by rw [List.length_reverse]; omega, ?_⟩
        rw [List.foldl_append]
        show _ = (push (d.foldl push []) p).reverse
        rw [← g2, ep]
        simp
      match s, g2, g3, g4, stop with
      | [], _, _, _, stop =>
        simp only [List.reverse_nil, List.length_nil]
        exact stop rfl
      | [b], _, _, _, stop =>
        simp only [List.length_reverse, List.length_singleton]
        exact stop rfl
      | b :: a :: t, g2, g3, g4, stop =>
        have l2 : (1 : Int) < ((b :: a :: t).reverse.length : Int) := by simp; omega
        rw [if_pos (decide_eq_true l2), atI_m2, atI_m1]
        simp only [p_pure, p_bind, p_op1, p_op2, p_op3, p_and, p_or, p_not, p_ite, p_pair, p_scr, p_ixO, p_sl, p_call, p_callIo, p_comp, o_some', o_add, o_sub, o_mul, o_fdiv, o_mod, o_pow, o_lt, o_le, o_gt, o_ge, o_neg, o_eq, o_ne, o_len, o_abs, o_max, o_min, o_intB, o_sum, o_all, o_any, o_list, o_cat, o_rev, o_enum, o_zip, o_countI, o_rng1, o_rng2, o_at0, o_at1, o_at2, o_set0, o_set1, o_set2, o_in, o_notin, o_is, o_isnt, o_isNone, o_isSome, o_sortI, o_sortT, o_sortSet, o_lenSet, o_divmod, p_ch, q_sixName, q_bind, q_set, q_ret, q_drop, q_if, q_nx, q_raise, q_app, q_ext, q_six, q_aug, q_augIx, q_for, q_try1, q_up, q_appK, q_pkPar, q_newK, q_putK, o_dictP, o_neK, o_inK, o_notinK, o_lenK, o_listK, o_inL, o_inR, o_unL, o_unR, o_unO, o_rep, o_rng3, o_upO, o_unOs, o_count, o_sortSetG, o_lenSetG, o_step, q_pop, q_clear, Int.reduceToNat, Int.reducePow, Int.reduceMul, Int.reduceAdd, Int.reduceSub]
        refine fUse (sp_across (g3 a (by simp)) (g3 b (by simp)) pp) fun c _ ec => ?_
        subst ec
        by_cases h : crs a b p ≤ 0
        · rw [if_pos (decide_eq_true h)]
          have ep : push (b :: a :: t) p = push (a :: t) p := by simp [push, h]
          have ed : (b :: a :: t).reverse.dropLast = (a :: t).reverse := by simp
          rw [ed]
          refine ⟨by simp, ⟨trivial, by rw [List.reverse_reverse, ← ep]; exact g2, fun q hq => g3 q (List.mem_reverse.mpr (List.mem_cons_of_mem _ (List.mem_reverse.mp hq))), by simp at g4 ⊢; omega⟩, by simp⟩
        · rw [if_neg (by simpa using h)]
          exact stop (by simp [push, h])
theorem sp_outer {l : List Pn} (hn : l.length < 64) (hp : ∀ q ∈ l, Pt 400 q) : (F_l_outer (l, ())).post (fun r _ => r = outerL (sortSetL l)) nXF := by
  have sl : (sortSetL l).length < 64 := by
    have : (sortSetL l).length ≤ l.length := L2.nodup_sub (nodup_sortSetL l) fun x hx => mem_sortSetL.mp hx
    omega
  have sp : ∀ q ∈ sortSetL l, Pt 400 q := fun q hq => hp q (mem_sortSetL.mp hq)
  unfold F_l_outer
  rw [q_fin]
  simp only [b_l_outer, in_l_outer, io_l_outer, p_pure, p_bind, p_op1, p_op2, p_op3, p_and, p_or, p_not, p_ite, p_pair, p_scr, p_ixO, p_sl, p_call, p_callIo, p_comp, o_some', o_add, o_sub, o_mul, o_fdiv, o_mod, o_pow, o_lt, o_le, o_gt, o_ge, o_neg, o_eq, o_ne, o_len, o_abs, o_max, o_min, o_intB, o_sum, o_all, o_any, o_list, o_cat, o_rev, o_enum, o_zip, o_countI, o_rng1, o_rng2, o_at0, o_at1, o_at2, o_set0, o_set1, o_set2, o_in, o_notin, o_is, o_isnt, o_isNone, o_isSome, o_sortI, o_sortT, o_sortSet, o_lenSet, o_divmod, p_ch, q_sixName, q_bind, q_set, q_ret, q_drop, q_if, q_nx, q_raise, q_app, q_ext, q_six, q_aug, q_augIx, q_for, q_try1, q_up, q_appK, q_pkPar, q_newK, q_putK, o_dictP, o_neK, o_inK, o_notinK, o_lenK, o_listK, o_inL, o_inR, o_unL, o_unR, o_unO, o_rep, o_rng3, o_upO, o_unOs, o_count, o_sortSetG, o_lenSetG, o_step, q_pop, q_clear, Int.reduceToNat, Int.reducePow, Int.reduceMul, Int.reduceAdd, Int.reduceSub]
  refine ⟨hn, fUse (sp_chain (by omega) sp) fun a _ ea => fUse (sp_chain (by rw [List.length_reverse]; omega) fun q hq => sp q (List.mem_reverse.mp hq)) fun b _ eb => ?_⟩
  have la : a.length ≤ 64 := by
    rw [ea]
    have := fold_len (sortSetL l) []
    unfold chn
    simp at this ⊢
    omega
  have lb : b.length ≤ 64 := by
    rw [eb]
    have := fold_len (sortSetL l).reverse []
    unfold chn
    simp at this ⊢
    omega
  refine ⟨by omega, ?_⟩
  rw [ea, eb]
  rfl
theorem row_lx {l : List Pn} : (sortSetL l).Pairwise (Lx true) := by
  have h := (sorted_sortSetL l).and (nodup_sortSetL l)
  refine h.imp fun {a b} ⟨h1, h2⟩ => ?_
  have k : ¬ lexL [b.1, b.2] [a.1, a.2] = true := by
    have h1 : (!lexL [b.1, b.2] [a.1, a.2]) = true := h1
    simpa using h1
  have ne : ¬ (a.1 = b.1 ∧ a.2 = b.2) := fun z => h2 (Prod.ext z.1 z.2)
  simp only [lexL] at k
  show Lp (sbp b a)
  unfold Lp sbp
  simp only
  by_cases c : b.1 = a.1
  · rw [if_pos c] at k
    by_cases c2 : b.2 = a.2
    · exact absurd ⟨c.symm, c2.symm⟩ ne
    · rw [if_neg c2] at k
      simp at k
      omega
  · rw [if_neg c] at k
    simp at k
    omega
def CkOk (l : List Pn) : Prop := 3 ≤ l.length ∧ l.length ≤ 24 ∧ Conv l ∧ ∀ q ∈ l, PtOk q
theorem modw {n x : Nat} (h : x < n + n) : x % n = if x < n then x else x - n := by
  split
  · rename_i c; exact Nat.mod_eq_of_lt c
  · rename_i c
    rw [Nat.mod_eq_sub_mod (by omega), Nat.mod_eq_of_lt (by omega)]
theorem gt_rot {l : List Pn} {a k : Nat} (ha : a ≤ l.length) (hk : k < l.length) : gt (l.drop a ++ l.take a) k = gt l ((k + a) % l.length) := by
  rw [modw (by omega)]
  rcases Nat.lt_or_ge k (l.length - a) with z | z
  · rw [gt_app (by rw [List.length_drop]; exact z), if_pos (by omega)]
    unfold gt
    rw [List.getD_eq_getElem?_getD, List.getD_eq_getElem?_getD, List.getElem?_drop, Nat.add_comm]
  · rw [gt_app2 (by rw [List.length_drop]; exact z), List.length_drop, if_neg (by omega)]
    unfold gt
    rw [List.getD_eq_getElem?_getD, List.getD_eq_getElem?_getD, List.getElem?_take, if_pos (by omega), show k - (l.length - a) = k + a - l.length by omega]
theorem conv_rot {l : List Pn} {a : Nat} (ha : a ≤ l.length) (h : Conv l) : Conv (l.drop a ++ l.take a) := by
  have hl : (l.drop a ++ l.take a).length = l.length := by simp; omega
  intro k j hk hj h1 h2
  rw [hl] at hk hj h2 ⊢
  have n0 : 0 < l.length := by omega
  rw [gt_rot ha hk, gt_rot ha hj, gt_rot ha (Nat.mod_lt _ n0)]
  have e : ((k + 1) % l.length + a) % l.length = ((k + a) % l.length + 1) % l.length := by rw [Nat.mod_add_mod, Nat.mod_add_mod]; congr 1; omega
  rw [e]
  have inj : ∀ x y, x < l.length → y < l.length → x ≠ y → (x + a) % l.length ≠ (y + a) % l.length := fun x y hx hy hne => by
    rw [modw (by omega), modw (by omega)]
    split <;> split <;> omega
  exact h _ _ (Nat.mod_lt _ n0) (Nat.mod_lt _ n0) (inj j k hj hk h1) (by rw [← e]; exact inj j _ hj (Nat.mod_lt _ n0) h2)
theorem ckOk_rot {l : List Pn} {a : Nat} (ha : a ≤ l.length) (h : CkOk l) : CkOk (l.drop a ++ l.take a) := by
  obtain ⟨h1, h2, h3, h4⟩ := h
  have hl : (l.drop a ++ l.take a).length = l.length := by simp; omega
  refine ⟨by omega, by omega, conv_rot ha h3, fun q hq => ?_⟩
  rcases List.mem_append.mp hq with z | z
  · exact h4 q (List.mem_of_mem_drop z)
  · exact h4 q (List.mem_of_mem_take z)
theorem cut_to {α : Type} {l : List α} {k : Nat} (h : k ≤ l.length) : cut none (some (k : Int)) l = l.take k := by
  unfold cut
  rw [HT.sIx_none, HT.sIx_nat, List.drop_zero, Nat.sub_zero, Nat.min_eq_left h]
theorem cut_from {α : Type} {l : List α} {k : Nat} (h : k ≤ l.length) : cut (some (k : Int)) none l = l.drop k := by
  unfold cut
  rw [HT.sIx_none, HT.sIx_nat, Nat.min_eq_left h, List.take_of_length_le (by rw [List.length_drop]; omega)]
theorem sp_mark {p : List Int} {g : Bool} (hp : PotOk p) : (F_l_mark (p, g, ())).post (fun d q => d.natAbs < 10 ^ 30 ∧ PotOk q) nXF := by
  unfold F_l_mark
  rw [q_fin]
  simp only [b_l_mark, in_l_mark, io_l_mark, p_pure, p_bind, p_op1, p_op2, p_op3, p_and, p_or, p_not, p_ite, p_pair, p_scr, p_ixO, p_sl, p_call, p_callIo, p_comp, o_some', o_add, o_sub, o_mul, o_fdiv, o_mod, o_pow, o_lt, o_le, o_gt, o_ge, o_neg, o_eq, o_ne, o_len, o_abs, o_max, o_min, o_intB, o_sum, o_all, o_any, o_list, o_cat, o_rev, o_enum, o_zip, o_countI, o_rng1, o_rng2, o_at0, o_at1, o_at2, o_set0, o_set1, o_set2, o_in, o_notin, o_is, o_isnt, o_isNone, o_isSome, o_sortI, o_sortT, o_sortSet, o_lenSet, o_divmod, p_ch, q_sixName, q_bind, q_set, q_ret, q_drop, q_if, q_nx, q_raise, q_app, q_ext, q_six, q_aug, q_augIx, q_for, q_try1, q_up, q_appK, q_pkPar, q_newK, q_putK, o_dictP, o_neK, o_inK, o_notinK, o_lenK, o_listK, o_inL, o_inR, o_unL, o_unR, o_unO, o_rep, o_rng3, o_upO, o_unOs, o_count, o_sortSetG, o_lenSetG, o_step, q_pop, q_clear, Int.reduceToNat, Int.reducePow, Int.reduceMul, Int.reduceAdd, Int.reduceSub]
  have low : ∀ i : List Int, PotOk i → (F_l_take (i, 13, ())).post (fun b i => (b - 6).natAbs < 10 ^ 30 ∧ PotOk i) nXF := fun i hi => fUse (sp_take hi (by decide) (by unfold Bd; decide +kernel)) fun d j ⟨h1, h2, hj⟩ => ⟨by omega, hj⟩
  cases g with
  | false =>
    simp only [Bool.false_eq_true, if_false]
    exact low p hp
  | true =>
    simp only [if_true]
    refine fUse (sp_take hp (by decide) (by unfold Bd; decide +kernel)) fun d i ⟨h1, h2, hi⟩ => ?_
    split
    · exact sp_wide hi
    · exact low i hi
theorem outer_len {row : List Pn} : (outerL row).length ≤ 2 * row.length := by
  have h1 := fold_len row []
  have h2 := fold_len row.reverse []
  unfold outerL chn
  simp at h1 h2 ⊢
  omega
theorem outer_mem {row : List Pn} : ∀ q ∈ outerL row, q ∈ row := fun q hq => by
  unfold outerL chn at hq
  rcases List.mem_append.mp hq with z | z
  · have z := List.mem_reverse.mp (List.dropLast_subset _ z)
    rcases fold_sub _ _ _ z with w | w
    · exact w
    · cases w
  · have z := List.mem_reverse.mp (List.dropLast_subset _ z)
    rcases fold_sub _ _ _ z with w | w
    · exact List.mem_reverse.mp w
    · cases w
theorem tri_conv {x y a b c : Int} (ha : 0 ≤ a) (hc : 0 ≤ c) : Conv [(x, y), (x + 1 + a, y), (x + b, y + 1 + c)] := by
  have pos : 0 < (1 + a) * (1 + c) := Int.mul_pos (by omega) (by omega)
  intro k j hk hj h1 h2
  simp at hk hj h2 ⊢
  have k3 : k = 0 ∨ k = 1 ∨ k = 2 := by omega
  have j3 : j = 0 ∨ j = 1 ∨ j = 2 := by omega
  rcases k3 with rfl | rfl | rfl <;> rcases j3 with rfl | rfl | rfl <;> simp at h1 h2 <;> simp [gt, crs] <;> grind
theorem sp_cake {p : List Int} (hp : PotOk p) : (F_l_cake (p, ())).post (fun l q => CkOk l ∧ PotOk q) nXF := by
  unfold F_l_cake
  rw [q_fin]
  simp only [b_l_cake, in_l_cake, io_l_cake, p_pure, p_bind, p_op1, p_op2, p_op3, p_and, p_or, p_not, p_ite, p_pair, p_scr, p_ixO, p_sl, p_call, p_callIo, p_comp, o_some', o_add, o_sub, o_mul, o_fdiv, o_mod, o_pow, o_lt, o_le, o_gt, o_ge, o_neg, o_eq, o_ne, o_len, o_abs, o_max, o_min, o_intB, o_sum, o_all, o_any, o_list, o_cat, o_rev, o_enum, o_zip, o_countI, o_rng1, o_rng2, o_at0, o_at1, o_at2, o_set0, o_set1, o_set2, o_in, o_notin, o_is, o_isnt, o_isNone, o_isSome, o_sortI, o_sortT, o_sortSet, o_lenSet, o_divmod, p_ch, q_sixName, q_bind, q_set, q_ret, q_drop, q_if, q_nx, q_raise, q_app, q_ext, q_six, q_aug, q_augIx, q_for, q_try1, q_up, q_appK, q_pkPar, q_newK, q_putK, o_dictP, o_neK, o_inK, o_notinK, o_lenK, o_listK, o_inL, o_inR, o_unL, o_unR, o_unO, o_rep, o_rng3, o_upO, o_unOs, o_count, o_sortSetG, o_lenSetG, o_step, q_pop, q_clear, Int.reduceToNat, Int.reducePow, Int.reduceMul, Int.reduceAdd, Int.reduceSub]
  refine fUse (sp_take hp (by decide) (by unfold Bd; decide +kernel)) fun w i hw => ?_
  obtain ⟨w1, w2, hi⟩ := hw
  refine fUse (sp_take hi (by decide) (by unfold Bd; decide +kernel)) fun m i hm => ?_
  obtain ⟨m1, m2, hi⟩ := hm
  refine ⟨by omega, by simp [rangeL, LIM]; omega, ?_⟩
  refine comp_all (fun g => PotOk g.v_pot_here) PtOk hi (fun ds g l1 l2 hg => ?_) fun a ha g hg => ?_
  · have ld : ds.length ≤ 12 := by
      rw [l1]
      simp [rangeL]
      omega
    refine fUse (sp_outer (by omega) fun q hq => ptOk (l2 q hq)) fun l _ el => ?_
    have fin : ∀ (l : List Pn) (i : List Int), PotOk i → CkOk l → (F_l_take (i, (l.length : Int), ())).post (fun b i => (cut (some b) none l).length + (cut none (some b) l).length ≤ 1000000 ∧ CkOk (cut (some b) none l ++ cut none (some b) l) ∧ PotOk i) nXF := fun l i hi hl => by
      refine fUse (sp_take hi (by have := hl.1; omega) (Bd.mono (n := 40) (by have := hl.2.1; unfold Bd; omega) (show _ ≤ _ by decide +kernel))) fun a i ha => ?_
      obtain ⟨a1, a2, hi⟩ := ha
      obtain ⟨k, rfl⟩ := Int.eq_ofNat_of_zero_le a1
      have hk : k ≤ l.length := by omega
      rw [cut_from hk, cut_to hk]
      refine ⟨?_, ckOk_rot hk hl, hi⟩
      have := hl.2.1
      simp
      omega
    by_cases c : (l.length : Int) < 3
    · rw [if_pos (decide_eq_true c)]
      refine fUse (sp_take hg (by decide) (by unfold Bd; decide +kernel)) fun x i hx => ?_
      obtain ⟨x1, x2, hi⟩ := hx
      refine fUse (sp_take hi (by decide) (by unfold Bd; decide +kernel)) fun y i hy => ?_
      obtain ⟨y1, y2, hi⟩ := hy
      refine fUse (sp_take hi (by decide) (by unfold Bd; decide +kernel)) fun u i hu => ?_
      obtain ⟨u1, u2, hi⟩ := hu
      refine fUse (sp_take hi (by decide) (by unfold Bd; decide +kernel)) fun v i hv => ?_
      obtain ⟨v1, v2, hi⟩ := hv
      refine fUse (sp_take hi (by decide) (by unfold Bd; decide +kernel)) fun t i ht => ?_
      obtain ⟨t1, t2, hi⟩ := ht
      have ck : CkOk [(x - 4, y - 4), (x - 4 + 1 + u, y - 4), (x - 4 + v, y - 4 + 1 + t)] := ⟨by simp, by simp, tri_conv u1 t1, fun q hq => by
        simp at hq
        rcases hq with rfl | rfl | rfl <;> exact ⟨by simp only; omega, by simp only; omega⟩⟩
      exact fin _ _ hi ck
    · rw [if_neg (by simpa using c)]
      have sl : (sortSetL ds).length ≤ ds.length := L2.nodup_sub (nodup_sortSetL ds) fun x hx => mem_sortSetL.mp hx
      have ol := outer_len (row := sortSetL ds)
      refine fin l _ hg ⟨by omega, by rw [el]; omega, ?_, fun q hq => ?_⟩
      · rw [el]
        exact outer_conv row_lx (by rw [← el]; omega)
      · rw [el] at hq
        exact l2 q (mem_sortSetL.mp (outer_mem q hq))
  · simp only [p_pure, p_bind, p_op1, p_op2, p_op3, p_and, p_or, p_not, p_ite, p_pair, p_scr, p_ixO, p_sl, p_call, p_callIo, p_comp, o_some', o_add, o_sub, o_mul, o_fdiv, o_mod, o_pow, o_lt, o_le, o_gt, o_ge, o_neg, o_eq, o_ne, o_len, o_abs, o_max, o_min, o_intB, o_sum, o_all, o_any, o_list, o_cat, o_rev, o_enum, o_zip, o_countI, o_rng1, o_rng2, o_at0, o_at1, o_at2, o_set0, o_set1, o_set2, o_in, o_notin, o_is, o_isnt, o_isNone, o_isSome, o_sortI, o_sortT, o_sortSet, o_lenSet, o_divmod, p_ch, q_sixName, q_bind, q_set, q_ret, q_drop, q_if, q_nx, q_raise, q_app, q_ext, q_six, q_aug, q_augIx, q_for, q_try1, q_up, q_appK, q_pkPar, q_newK, q_putK, o_dictP, o_neK, o_inK, o_notinK, o_lenK, o_listK, o_inL, o_inR, o_unL, o_unR, o_unO, o_rep, o_rng3, o_upO, o_unOs, o_count, o_sortSetG, o_lenSetG, o_step, q_pop, q_clear, Int.reduceToNat, Int.reducePow, Int.reduceMul, Int.reduceAdd, Int.reduceSub]
    refine fUse (sp_mark hg) fun x i hx => fUse (sp_mark hx.2) fun y i hy => ?_
    exact ⟨⟨hx.1, hy.1⟩, hy.2⟩

theorem sp_turn {p q r : Pn} (hp : Pt 400 p) (hq : Pt 400 q) (hr : Pt 400 r) : (F_turn (p, q, r, ())).post (fun d _ => d = 1 ↔ 0 < crs p q r) nXF := by
  obtain ⟨p1, p2⟩ := hp
  obtain ⟨q1, q2⟩ := hq
  obtain ⟨r1, r2⟩ := hr
  unfold F_turn
  rw [q_fin]
  simp only [b_turn, in_turn, io_turn, p_pure, p_bind, p_op1, p_op2, p_op3, p_and, p_or, p_not, p_ite, p_pair, p_scr, p_ixO, p_sl, p_call, p_callIo, p_comp, o_some', o_add, o_sub, o_mul, o_fdiv, o_mod, o_pow, o_lt, o_le, o_gt, o_ge, o_neg, o_eq, o_ne, o_len, o_abs, o_max, o_min, o_intB, o_sum, o_all, o_any, o_list, o_cat, o_rev, o_enum, o_zip, o_countI, o_rng1, o_rng2, o_at0, o_at1, o_at2, o_set0, o_set1, o_set2, o_in, o_notin, o_is, o_isnt, o_isNone, o_isSome, o_sortI, o_sortT, o_sortSet, o_lenSet, o_divmod, p_ch, q_sixName, q_bind, q_set, q_ret, q_drop, q_if, q_nx, q_raise, q_app, q_ext, q_six, q_aug, q_augIx, q_for, q_try1, q_up, q_appK, q_pkPar, q_newK, q_putK, o_dictP, o_neK, o_inK, o_notinK, o_lenK, o_listK, o_inL, o_inR, o_unL, o_unR, o_unO, o_rep, o_rng3, o_upO, o_unOs, o_count, o_sortSetG, o_lenSetG, o_step, q_pop, q_clear, Int.reduceToNat, Int.reducePow, Int.reduceMul, Int.reduceAdd, Int.reduceSub]
  refine ⟨(mulOk (by (repeat (first | assumption | with_reducible apply Bd.add | with_reducible apply Bd.sub | with_reducible apply Bd.mul | with_reducible apply Bd.neg | with_reducible apply Bd.fmod | with_reducible apply Bd.fdiv | with_reducible apply Bd.abs | with_reducible apply Bd.max | with_reducible apply Bd.min | with_reducible apply Bd.pow | with_reducible exact bdLit | decide | omega))) (by (repeat (first | assumption | with_reducible apply Bd.add | with_reducible apply Bd.sub | with_reducible apply Bd.mul | with_reducible apply Bd.neg | with_reducible apply Bd.fmod | with_reducible apply Bd.fdiv | with_reducible apply Bd.abs | with_reducible apply Bd.max | with_reducible apply Bd.min | with_reducible apply Bd.pow | with_reducible exact bdLit | decide | omega))) (by decide +kernel)), (mulOk (by (repeat (first | assumption | with_reducible apply Bd.add | with_reducible apply Bd.sub | with_reducible apply Bd.mul | with_reducible apply Bd.neg | with_reducible apply Bd.fmod | with_reducible apply Bd.fdiv | with_reducible apply Bd.abs | with_reducible apply Bd.max | with_reducible apply Bd.min | with_reducible apply Bd.pow | with_reducible exact bdLit | decide | omega))) (by (repeat (first | assumption | with_reducible apply Bd.add | with_reducible apply Bd.sub | with_reducible apply Bd.mul | with_reducible apply Bd.neg | with_reducible apply Bd.fmod | with_reducible apply Bd.fdiv | with_reducible apply Bd.abs | with_reducible apply Bd.max | with_reducible apply Bd.min | with_reducible apply Bd.pow | with_reducible exact bdLit | decide | omega))) (by decide +kernel)), ?_⟩
  unfold F_sign_of
  rw [q_fin]
  simp only [b_sign_of, in_sign_of, io_sign_of, p_pure, p_bind, p_op1, p_op2, p_op3, p_and, p_or, p_not, p_ite, p_pair, p_scr, p_ixO, p_sl, p_call, p_callIo, p_comp, o_some', o_add, o_sub, o_mul, o_fdiv, o_mod, o_pow, o_lt, o_le, o_gt, o_ge, o_neg, o_eq, o_ne, o_len, o_abs, o_max, o_min, o_intB, o_sum, o_all, o_any, o_list, o_cat, o_rev, o_enum, o_zip, o_countI, o_rng1, o_rng2, o_at0, o_at1, o_at2, o_set0, o_set1, o_set2, o_in, o_notin, o_is, o_isnt, o_isNone, o_isSome, o_sortI, o_sortT, o_sortSet, o_lenSet, o_divmod, p_ch, q_sixName, q_bind, q_set, q_ret, q_drop, q_if, q_nx, q_raise, q_app, q_ext, q_six, q_aug, q_augIx, q_for, q_try1, q_up, q_appK, q_pkPar, q_newK, q_putK, o_dictP, o_neK, o_inK, o_notinK, o_lenK, o_listK, o_inL, o_inR, o_unL, o_unR, o_unO, o_rep, o_rng3, o_upO, o_unOs, o_count, o_sortSetG, o_lenSetG, o_step, q_pop, q_clear, Int.reduceToNat, Int.reducePow, Int.reduceMul, Int.reduceAdd, Int.reduceSub]
  show b2i (decide (0 < crs p q r)) - b2i (decide (crs p q r < 0)) = 1 ↔ _
  by_cases c : 0 < crs p q r
  · have c2 : ¬ crs p q r < 0 := by omega
    simp [c, c2, b2i]
  · by_cases c2 : crs p q r < 0
    · simp [c, c2, b2i]
    · simp [c, c2, b2i]
def IsCk (l : List Pn) : Prop := 3 ≤ l.length ∧ Conv l
theorem gt_mem {l : List Pn} {k : Nat} (h : k < l.length) : gt l k ∈ l := by
  unfold gt
  rw [List.getD_eq_getElem?_getD, List.getElem?_eq_getElem h]
  exact List.getElem_mem h
theorem gt_at {l : List Pn} {k : Nat} (h : k < l.length) : l[k]? = some (gt l k) := by
  unfold gt
  rw [List.getD_eq_getElem?_getD, List.getElem?_eq_getElem h]
  rfl
theorem at_gt {l : List Pn} {k : Int} (h0 : 0 ≤ k) (h : k < l.length) : atI l k = some (gt l k.toNat) := by
  rw [at_int h0]
  exact gt_at (by omega)
theorem at_prev {l : List Pn} {k : Nat} (h : k < l.length) : atI l ((k : Int) - 1) = some (gt l ((k + l.length - 1) % l.length)) := by
  rcases Nat.eq_zero_or_pos k with z | z
  · subst z
    unfold atI ixN
    rw [if_neg (by decide), if_pos (by omega)]
    show l[(((0 : Nat) : Int) - 1 + (l.length : Int)).toNat]? = _
    rw [show (((0 : Nat) : Int) - 1 + (l.length : Int)).toNat = l.length - 1 by omega, Nat.mod_eq_of_lt (by omega), show 0 + l.length - 1 = l.length - 1 by omega]
    exact gt_at (by omega)
  · rw [at_gt (by omega) (by omega), show k + l.length - 1 = (k - 1) + l.length by omega, Nat.add_mod_right, Nat.mod_eq_of_lt (by omega)]
    congr 2
    omega
theorem fmod_nat (a b : Nat) : ((a : Int)).fmod (b : Int) = ((a % b : Nat) : Int) := by
  rw [Int.fmod_eq_emod_of_nonneg _ (Int.natCast_nonneg b)]
  omega
theorem modc {n x : Nat} (h : x < n + n) : (x < n ∧ x % n = x) ∨ (n ≤ x ∧ x % n = x - n) := by
  have := modw h
  split at this <;> omega
theorem idx1 {n k j : Nat} (hk : k < n) (hj : j < n) (h1 : j ≠ k) (h2 : j ≠ (k + 1) % n) : ∃ k' j', k' < n ∧ j' < n - 2 ∧ (k' + n - 1) % n = k ∧ k' = (k + 1) % n ∧ (k' + 1 + j') % n = j := by
  have e := modc (n := n) (x := k + 1) (by omega)
  generalize (k + 1) % n = k' at *
  have e2 := modc (n := n) (x := k' + n - 1) (by omega)
  rcases Nat.lt_or_ge k' j with c | c
  · have e3 := modc (n := n) (x := k' + 1 + (j - k' - 1)) (by omega)
    exact ⟨k', j - k' - 1, by omega, by omega, by omega, rfl, by omega⟩
  · have e3 := modc (n := n) (x := k' + 1 + (j + n - k' - 1)) (by omega)
    exact ⟨k', j + n - k' - 1, by omega, by omega, by omega, rfl, by omega⟩
theorem idx2 {n k j : Nat} (hk : k < n) (hj : j < n - 2) : (k + n - 1) % n < n ∧ (k + 1 + j) % n < n ∧ ((k + n - 1) % n + 1) % n = k ∧ (k + 1 + j) % n ≠ (k + n - 1) % n ∧ (k + 1 + j) % n ≠ k := by
  have e1 : (k + n - 1) % n = if k = 0 then n - 1 else k - 1 := by
    rw [modw (by omega)]
    split <;> split <;> omega
  have e2 : (k + 1 + j) % n = if k + 1 + j < n then k + 1 + j else k + 1 + j - n := modw (by omega)
  rw [e1, e2]
  refine ⟨by split <;> omega, by split <;> omega, ?_, by split <;> split <;> omega, by split <;> omega⟩
  split
  · rw [show n - 1 + 1 = n by omega, Nat.mod_self]; omega
  · rw [show k - 1 + 1 = k by omega, Nat.mod_eq_of_lt hk]
theorem sp_is_cake {l : List Pn} (hl : l.length < 1000) (hp : ∀ q ∈ l, Pt 400 q) : (F_is_cake (l, ())).post (fun r _ => r = true ↔ IsCk l) nXF := by
  unfold F_is_cake
  rw [q_fin]
  simp only [b_is_cake, in_is_cake, io_is_cake, p_pure, p_bind, p_op1, p_op2, p_op3, p_and, p_or, p_not, p_ite, p_pair, p_scr, p_ixO, p_sl, p_call, p_callIo, p_comp, o_some', o_add, o_sub, o_mul, o_fdiv, o_mod, o_pow, o_lt, o_le, o_gt, o_ge, o_neg, o_eq, o_ne, o_len, o_abs, o_max, o_min, o_intB, o_sum, o_all, o_any, o_list, o_cat, o_rev, o_enum, o_zip, o_countI, o_rng1, o_rng2, o_at0, o_at1, o_at2, o_set0, o_set1, o_set2, o_in, o_notin, o_is, o_isnt, o_isNone, o_isSome, o_sortI, o_sortT, o_sortSet, o_lenSet, o_divmod, p_ch, q_sixName, q_bind, q_set, q_ret, q_drop, q_if, q_nx, q_raise, q_app, q_ext, q_six, q_aug, q_augIx, q_for, q_try1, q_up, q_appK, q_pkPar, q_newK, q_putK, o_dictP, o_neK, o_inK, o_notinK, o_lenK, o_listK, o_inL, o_inR, o_unL, o_unR, o_unO, o_rep, o_rng3, o_upO, o_unOs, o_count, o_sortSetG, o_lenSetG, o_step, q_pop, q_clear, Int.reduceToNat, Int.reducePow, Int.reduceMul, Int.reduceAdd, Int.reduceSub]
  by_cases c3 : (l.length : Int) < 3
  · rw [if_pos (decide_eq_true c3)]
    unfold IsCk
    simp
    omega
  rw [if_neg (by simpa using c3)]
  have n0 : 0 < l.length := by omega
  refine ⟨by omega, for_inv (fun d r g => g.v_thing = l ∧ ∀ k, k < d.length → ∀ j, j < l.length - 2 → 0 < crs (gt l ((k + l.length - 1) % l.length)) (gt l k) (gt l ((k + 1 + j) % l.length))) ⟨(by first | rfl | trivial | exact ⟨rfl, trivial⟩), fun k hk => absurd hk (Nat.not_lt_zero _)⟩ ?_ ?_⟩
  · rintro g ⟨g1, g2⟩
    simp only [rangeL_len, Int.toNat_natCast] at g2
    refine ⟨fun _ => ⟨by omega, fun k j hk hj h1 h2 => ?_⟩, fun _ => (by first | rfl | trivial | exact ⟨rfl, trivial⟩)⟩
    obtain ⟨k', j', a1, a2, a3, a4, a5⟩ := idx1 hk hj h1 h2
    have := g2 k' a1 j' a2
    rw [a3, a5, a4] at this
    exact this
  · rintro d a r g e ⟨g1, g2⟩
    obtain ⟨d1, d2⟩ := rangeL_at e
    rw [Int.toNat_natCast] at d1
    simp only [p_pure, p_bind, p_op1, p_op2, p_op3, p_and, p_or, p_not, p_ite, p_pair, p_scr, p_ixO, p_sl, p_call, p_callIo, p_comp, o_some', o_add, o_sub, o_mul, o_fdiv, o_mod, o_pow, o_lt, o_le, o_gt, o_ge, o_neg, o_eq, o_ne, o_len, o_abs, o_max, o_min, o_intB, o_sum, o_all, o_any, o_list, o_cat, o_rev, o_enum, o_zip, o_countI, o_rng1, o_rng2, o_at0, o_at1, o_at2, o_set0, o_set1, o_set2, o_in, o_notin, o_is, o_isnt, o_isNone, o_isSome, o_sortI, o_sortT, o_sortSet, o_lenSet, o_divmod, p_ch, q_sixName, q_bind, q_set, q_ret, q_drop, q_if, q_nx, q_raise, q_app, q_ext, q_six, q_aug, q_augIx, q_for, q_try1, q_up, q_appK, q_pkPar, q_newK, q_putK, o_dictP, o_neK, o_inK, o_notinK, o_lenK, o_listK, o_inL, o_inR, o_unL, o_unR, o_unO, o_rep, o_rng3, o_upO, o_unOs, o_count, o_sortSetG, o_lenSetG, o_step, q_pop, q_clear, Int.reduceToNat, Int.reducePow, Int.reduceMul, Int.reduceAdd, Int.reduceSub]
    rw [g1]
    refine ⟨by omega, for_inv (fun d' r' g' => g'.v_thing = l ∧ g'.v_k = a ∧ ∀ j, j < d'.length → 0 < crs (gt l ((d.length + l.length - 1) % l.length)) (gt l d.length) (gt l ((d.length + 1 + j) % l.length))) ⟨(by first | rfl | trivial | exact ⟨rfl, trivial⟩), (by first | rfl | trivial | exact ⟨rfl, trivial⟩), fun k hk => absurd hk (Nat.not_lt_zero _)⟩ ?_ ?_⟩
    · rintro g' ⟨k1, k2, k3⟩
      refine ⟨k1, fun k hk j hj => ?_⟩
      rw [List.length_append, List.length_singleton] at hk
      rcases Nat.lt_or_eq_of_le (Nat.le_of_lt_succ hk) with z | z
      · exact g2 k z j hj
      · rw [z]
        refine k3 j ?_
        rw [rangeL_len]
        omega
    · rintro d' b r' g' e' ⟨k1, k2, k3⟩
      obtain ⟨e1, e2⟩ := rangeL_at e'
      have bj : d'.length < l.length - 2 := by omega
      obtain ⟨i1, i2, i3, i4, i5⟩ := idx2 d1 bj
      simp only [p_pure, p_bind, p_op1, p_op2, p_op3, p_and, p_or, p_not, p_ite, p_pair, p_scr, p_ixO, p_sl, p_call, p_callIo, p_comp, o_some', o_add, o_sub, o_mul, o_fdiv, o_mod, o_pow, o_lt, o_le, o_gt, o_ge, o_neg, o_eq, o_ne, o_len, o_abs, o_max, o_min, o_intB, o_sum, o_all, o_any, o_list, o_cat, o_rev, o_enum, o_zip, o_countI, o_rng1, o_rng2, o_at0, o_at1, o_at2, o_set0, o_set1, o_set2, o_in, o_notin, o_is, o_isnt, o_isNone, o_isSome, o_sortI, o_sortT, o_sortSet, o_lenSet, o_divmod, p_ch, q_sixName, q_bind, q_set, q_ret, q_drop, q_if, q_nx, q_raise, q_app, q_ext, q_six, q_aug, q_augIx, q_for, q_try1, q_up, q_appK, q_pkPar, q_newK, q_putK, o_dictP, o_neK, o_inK, o_notinK, o_lenK, o_listK, o_inL, o_inR, o_unL, o_unR, o_unO, o_rep, o_rng3, o_upO, o_unOs, o_count, o_sortSetG, o_lenSetG, o_step, q_pop, q_clear, Int.reduceToNat, Int.reducePow, Int.reduceMul, Int.reduceAdd, Int.reduceSub]
      rw [k1, k2, show a = ((d.length : Nat) : Int) by omega, at_prev d1]
      rw [show ((d.length : Nat) : Int) + 1 + b = ((d.length + 1 + d'.length : Nat) : Int) by omega, fmod_nat, at_nat, at_nat, gt_at d1, gt_at i2]
      simp only [p_pure, p_bind, p_op1, p_op2, p_op3, p_and, p_or, p_not, p_ite, p_pair, p_scr, p_ixO, p_sl, p_call, p_callIo, p_comp, o_some', o_add, o_sub, o_mul, o_fdiv, o_mod, o_pow, o_lt, o_le, o_gt, o_ge, o_neg, o_eq, o_ne, o_len, o_abs, o_max, o_min, o_intB, o_sum, o_all, o_any, o_list, o_cat, o_rev, o_enum, o_zip, o_countI, o_rng1, o_rng2, o_at0, o_at1, o_at2, o_set0, o_set1, o_set2, o_in, o_notin, o_is, o_isnt, o_isNone, o_isSome, o_sortI, o_sortT, o_sortSet, o_lenSet, o_divmod, p_ch, q_sixName, q_bind, q_set, q_ret, q_drop, q_if, q_nx, q_raise, q_app, q_ext, q_six, q_aug, q_augIx, q_for, q_try1, q_up, q_appK, q_pkPar, q_newK, q_putK, o_dictP, o_neK, o_inK, o_notinK, o_lenK, o_listK, o_inL, o_inR, o_unL, o_unR, o_unO, o_rep, o_rng3, o_upO, o_unOs, o_count, o_sortSetG, o_lenSetG, o_step, q_pop, q_clear, Int.reduceToNat, Int.reducePow, Int.reduceMul, Int.reduceAdd, Int.reduceSub]
      refine ⟨by omega, fUse (sp_turn (hp _ (gt_mem i1)) (hp _ (gt_mem d1)) (hp _ (gt_mem i2))) fun t _ et => ?_⟩
      by_cases c : t = 1
      · rw [if_neg (by simp [c])]
        refine ⟨(by first | rfl | trivial | exact ⟨rfl, trivial⟩), (by first | rfl | trivial | exact ⟨rfl, trivial⟩), fun j hj => ?_⟩
        rw [List.length_append, List.length_singleton] at hj
        rcases Nat.lt_or_eq_of_le (Nat.le_of_lt_succ hj) with z | z
        · exact k3 j z
        · rw [z]; exact et.mp c
      · rw [if_pos (by simp [c])]
        refine ⟨fun z => by simp at z, fun z => ?_⟩
        have := z.2 _ _ i1 i2 i4 (by rw [i3]; exact i5)
        rw [i3] at this
        exact absurd (et.mpr this) c
theorem sp_law_is_cake {l : List Pn} (hl : l.length < 1000) (hp : ∀ q ∈ l, Pt 400 q) : (F_l_is_cake (l, ())).post (fun r _ => r = true ↔ IsCk l) nXF := by
  unfold F_l_is_cake
  rw [q_fin]
  simp only [b_l_is_cake, in_l_is_cake, io_l_is_cake, p_pure, p_bind, p_op1, p_op2, p_op3, p_and, p_or, p_not, p_ite, p_pair, p_scr, p_ixO, p_sl, p_call, p_callIo, p_comp, o_some', o_add, o_sub, o_mul, o_fdiv, o_mod, o_pow, o_lt, o_le, o_gt, o_ge, o_neg, o_eq, o_ne, o_len, o_abs, o_max, o_min, o_intB, o_sum, o_all, o_any, o_list, o_cat, o_rev, o_enum, o_zip, o_countI, o_rng1, o_rng2, o_at0, o_at1, o_at2, o_set0, o_set1, o_set2, o_in, o_notin, o_is, o_isnt, o_isNone, o_isSome, o_sortI, o_sortT, o_sortSet, o_lenSet, o_divmod, p_ch, q_sixName, q_bind, q_set, q_ret, q_drop, q_if, q_nx, q_raise, q_app, q_ext, q_six, q_aug, q_augIx, q_for, q_try1, q_up, q_appK, q_pkPar, q_newK, q_putK, o_dictP, o_neK, o_inK, o_notinK, o_lenK, o_listK, o_inL, o_inR, o_unL, o_unR, o_unO, o_rep, o_rng3, o_upO, o_unOs, o_count, o_sortSetG, o_lenSetG, o_step, q_pop, q_clear, Int.reduceToNat, Int.reducePow, Int.reduceMul, Int.reduceAdd, Int.reduceSub]
  refine ⟨by omega, for_inv (fun d r g => g.v_some = l ∧ g.v_many = (l.length : Int) ∧ ∀ k, k < d.length → ∀ j, j < l.length → j ≠ k → j ≠ (k + 1) % l.length → 0 < crs (gt l k) (gt l ((k + 1) % l.length)) (gt l j)) ⟨rfl, rfl, fun k hk => absurd hk (Nat.not_lt_zero _)⟩ ?_ ?_⟩
  · rintro g ⟨g1, g2, g3⟩
    simp only [rangeL_len, Int.toNat_natCast] at g3
    rw [g2]
    refine ⟨fun z => ?_, fun z => ?_⟩
    · simp at z
      exact ⟨by omega, fun k j hk hj h1 h2 => g3 k hk j hj h1 h2⟩
    · have := z.1
      simp
      omega
  · rintro d a r g e ⟨g1, g2, g3⟩
    obtain ⟨d1, d2⟩ := rangeL_at e
    rw [Int.toNat_natCast] at d1
    simp only [p_pure, p_bind, p_op1, p_op2, p_op3, p_and, p_or, p_not, p_ite, p_pair, p_scr, p_ixO, p_sl, p_call, p_callIo, p_comp, o_some', o_add, o_sub, o_mul, o_fdiv, o_mod, o_pow, o_lt, o_le, o_gt, o_ge, o_neg, o_eq, o_ne, o_len, o_abs, o_max, o_min, o_intB, o_sum, o_all, o_any, o_list, o_cat, o_rev, o_enum, o_zip, o_countI, o_rng1, o_rng2, o_at0, o_at1, o_at2, o_set0, o_set1, o_set2, o_in, o_notin, o_is, o_isnt, o_isNone, o_isSome, o_sortI, o_sortT, o_sortSet, o_lenSet, o_divmod, p_ch, q_sixName, q_bind, q_set, q_ret, q_drop, q_if, q_nx, q_raise, q_app, q_ext, q_six, q_aug, q_augIx, q_for, q_try1, q_up, q_appK, q_pkPar, q_newK, q_putK, o_dictP, o_neK, o_inK, o_notinK, o_lenK, o_listK, o_inL, o_inR, o_unL, o_unR, o_unO, o_rep, o_rng3, o_upO, o_unOs, o_count, o_sortSetG, o_lenSetG, o_step, q_pop, q_clear, Int.reduceToNat, Int.reducePow, Int.reduceMul, Int.reduceAdd, Int.reduceSub]
    rw [g2]
    refine ⟨by omega, for_inv (fun d' r' g' => g'.v_some = l ∧ g'.v_many = (l.length : Int) ∧ g'.v_k = a ∧ ∀ j, j < d'.length → j ≠ d.length → j ≠ (d.length + 1) % l.length → 0 < crs (gt l d.length) (gt l ((d.length + 1) % l.length)) (gt l j)) ⟨(by first | rfl | trivial | exact ⟨rfl, trivial⟩), (by first | rfl | trivial | exact ⟨rfl, trivial⟩), rfl, fun k hk => absurd hk (Nat.not_lt_zero _)⟩ ?_ ?_⟩
    · rintro g' ⟨k1, k2, k3, k4⟩
      refine ⟨k1, k2, fun k hk j hj h1 h2 => ?_⟩
      rw [List.length_append, List.length_singleton] at hk
      rcases Nat.lt_or_eq_of_le (Nat.le_of_lt_succ hk) with z | z
      · exact g3 k z j hj h1 h2
      · subst z
        exact k4 j (by rw [rangeL_len]; omega) h1 h2
    · rintro d' b r' g' e' ⟨k1, k2, k3, k4⟩
      obtain ⟨e1, e2⟩ := rangeL_at e'
      rw [Int.toNat_natCast] at e1
      have n0 : 0 < l.length := by omega
      have i2 := Nat.mod_lt (d.length + 1) n0
      simp only [p_pure, p_bind, p_op1, p_op2, p_op3, p_and, p_or, p_not, p_ite, p_pair, p_scr, p_ixO, p_sl, p_call, p_callIo, p_comp, o_some', o_add, o_sub, o_mul, o_fdiv, o_mod, o_pow, o_lt, o_le, o_gt, o_ge, o_neg, o_eq, o_ne, o_len, o_abs, o_max, o_min, o_intB, o_sum, o_all, o_any, o_list, o_cat, o_rev, o_enum, o_zip, o_countI, o_rng1, o_rng2, o_at0, o_at1, o_at2, o_set0, o_set1, o_set2, o_in, o_notin, o_is, o_isnt, o_isNone, o_isSome, o_sortI, o_sortT, o_sortSet, o_lenSet, o_divmod, p_ch, q_sixName, q_bind, q_set, q_ret, q_drop, q_if, q_nx, q_raise, q_app, q_ext, q_six, q_aug, q_augIx, q_for, q_try1, q_up, q_appK, q_pkPar, q_newK, q_putK, o_dictP, o_neK, o_inK, o_notinK, o_lenK, o_listK, o_inL, o_inR, o_unL, o_unR, o_unO, o_rep, o_rng3, o_upO, o_unOs, o_count, o_sortSetG, o_lenSetG, o_step, q_pop, q_clear, Int.reduceToNat, Int.reducePow, Int.reduceMul, Int.reduceAdd, Int.reduceSub]
      rw [k1, k2, k3, show a = ((d.length : Nat) : Int) by omega, show b = ((d'.length : Nat) : Int) by omega]
      rw [show ((d.length : Nat) : Int) + 1 = ((d.length + 1 : Nat) : Int) by omega, fmod_nat, at_nat, at_nat, at_nat, gt_at d1, gt_at i2, gt_at e1]
      simp only [p_pure, p_bind, p_op1, p_op2, p_op3, p_and, p_or, p_not, p_ite, p_pair, p_scr, p_ixO, p_sl, p_call, p_callIo, p_comp, o_some', o_add, o_sub, o_mul, o_fdiv, o_mod, o_pow, o_lt, o_le, o_gt, o_ge, o_neg, o_eq, o_ne, o_len, o_abs, o_max, o_min, o_intB, o_sum, o_all, o_any, o_list, o_cat, o_rev, o_enum, o_zip, o_countI, o_rng1, o_rng2, o_at0, o_at1, o_at2, o_set0, o_set1, o_set2, o_in, o_notin, o_is, o_isnt, o_isNone, o_isSome, o_sortI, o_sortT, o_sortSet, o_lenSet, o_divmod, p_ch, q_sixName, q_bind, q_set, q_ret, q_drop, q_if, q_nx, q_raise, q_app, q_ext, q_six, q_aug, q_augIx, q_for, q_try1, q_up, q_appK, q_pkPar, q_newK, q_putK, o_dictP, o_neK, o_inK, o_notinK, o_lenK, o_listK, o_inL, o_inR, o_unL, o_unR, o_unO, o_rep, o_rng3, o_upO, o_unOs, o_count, o_sortSetG, o_lenSetG, o_step, q_pop, q_clear, Int.reduceToNat, Int.reducePow, Int.reduceMul, Int.reduceAdd, Int.reduceSub]
      have ext : (∀ h1 : d'.length ≠ d.length, ∀ h2 : d'.length ≠ (d.length + 1) % l.length, 0 < crs (gt l d.length) (gt l ((d.length + 1) % l.length)) (gt l d'.length)) → True ∧ True ∧ True ∧ ∀ j, j < (d' ++ [((d'.length : Nat) : Int)]).length → j ≠ d.length → j ≠ (d.length + 1) % l.length → 0 < crs (gt l d.length) (gt l ((d.length + 1) % l.length)) (gt l j) := fun h => by
        refine ⟨trivial, trivial, trivial, fun j hj h1 h2 => ?_⟩
        rw [List.length_append, List.length_singleton] at hj
        rcases Nat.lt_or_eq_of_le (Nat.le_of_lt_succ hj) with z | z
        · exact k4 j z h1 h2
        · subst z; exact h h1 h2
      by_cases c1 : d'.length = d.length
      · rw [if_neg (by simp [c1])]
        simp only [Bool.false_eq_true, if_false]
        exact ext fun h => absurd c1 h
      rw [if_pos (by simp; omega)]
      refine ⟨by omega, ?_⟩
      by_cases c2 : d'.length = (d.length + 1) % l.length
      · rw [if_neg (by rw [← c2]; simp)]
        simp only [Bool.false_eq_true, if_false]
        exact ext fun _ h => absurd c2 h
      rw [if_pos (by
        have : ¬ ((d'.length : Nat) : Int) = (((d.length + 1) % l.length : Nat) : Int) := fun z => c2 (by omega)
        simp only [this, decide_false, Bool.not_false])]
      refine ⟨by omega, fUse (sp_across (hp _ (gt_mem d1)) (hp _ (gt_mem i2)) (hp _ (gt_mem e1))) fun t _ et => ?_⟩
      subst et
      split
      · rename_i c3
        have c3 := of_decide_eq_true c3
        refine ⟨fun z => by simp at z, fun z => ?_⟩
        have := z.2 _ _ d1 e1 c1 c2
        omega
      · rename_i c3
        have c3 : ¬ crs (gt l d.length) (gt l ((d.length + 1) % l.length)) (gt l d'.length) ≤ 0 := fun z => c3 (decide_eq_true z)
        exact ext fun _ _ => by omega
/-! ### twice the area -/
def pth (z : Pn) : List Pn → Int
  | [] => 0
  | a :: t => cr z a + pth a t
def fan (o p : Pn) : List Pn → Int
  | [] => 0
  | q :: r => crs o p q + fan o q r
theorem pth_app : ∀ (x y : List Pn) (z : Pn), pth z (x ++ y) = pth z x + pth (x.getLastD z) y
  | [], y, z => by simp [pth]
  | a :: x, y, z => by
    show cr z a + pth a (x ++ y) = cr z a + pth a x + _
    rw [pth_app x y a]
    have : (a :: x).getLastD z = x.getLastD a := by cases x <;> rfl
    rw [this]
    omega
theorem fan_pth : ∀ (t : List Pn) (o p : Pn), fan o p t = pth p t + cr (t.getLastD p) o + cr o p
  | [], o, p => by
    show 0 = 0 + cr p o + cr o p
    unfold cr
    grind
  | q :: r, o, p => by
    show crs o p q + fan o q r = cr p q + pth q r + _ + _
    rw [fan_pth r o q]
    have : (q :: r).getLastD p = r.getLastD q := by cases r <;> rfl
    rw [this]
    have : crs o p q = cr o p + cr p q + cr q o := by unfold crs cr; grind
    have : cr q o = - cr o q := by unfold cr; grind
    omega
theorem sum_fan : ∀ (t : List Pn) (o p : Pn), ((List.range t.length).map fun i => crs o (gt (p :: t) i) (gt t i)).sum = fan o p t
  | [], o, p => rfl
  | q :: r, o, p => by
    rw [List.length_cons, List.range_succ_eq_map, List.map_cons, List.map_map, List.sum_cons]
    show crs o p q + _ = crs o p q + fan o q r
    rw [← sum_fan r o q]
    rfl
theorem sum_pth : ∀ (l : List Pn) (z : Pn), ((List.range l.length).map fun i => cr (gt (z :: l) i) (gt l i)).sum = pth z l
  | [], z => rfl
  | a :: t, z => by
    rw [List.length_cons, List.range_succ_eq_map, List.map_cons, List.map_map, List.sum_cons]
    show cr z a + _ = cr z a + pth a t
    rw [← sum_pth t a]
    rfl
def sideL (l : List Pn) : List (Pn × Pn) := (rangeL 0 l.length).map fun k => (gt l ((k.toNat + l.length - 1) % l.length), gt l k.toNat)
def areaL (l : List Pn) : Int := ((sideL l).map fun s => cr s.1 s.2).sum
theorem lastD_gt {l : List Pn} {z : Pn} (h : 0 < l.length) : l.getLastD z = gt l (l.length - 1) := by
  unfold gt
  rw [List.getLastD_eq_getLast?, List.getLast?_eq_getElem?, List.getD_eq_getElem?_getD, List.getElem?_eq_getElem (by omega)]
  rfl
theorem area_pth (l : List Pn) : areaL l = pth (l.getLastD (0, 0)) l := by
  rw [← sum_pth]
  unfold areaL sideL rangeL
  rw [List.map_map, List.map_map]
  congr 1
  refine List.map_congr_left fun k hk => ?_
  have hk := List.mem_range.mp hk
  simp only [Function.comp, Int.zero_add, Int.toNat_natCast]
  cases k with
  | zero =>
    rw [lastD_gt hk]
    show cr (gt l ((0 + l.length - 1) % l.length)) _ = cr (gt l (l.length - 1)) _
    rw [Nat.mod_eq_of_lt (by omega), show 0 + l.length - 1 = l.length - 1 by omega]
  | succ k =>
    show _ = cr (gt l k) _
    rw [show k + 1 + l.length - 1 = k + l.length by omega, Nat.add_mod_right, Nat.mod_eq_of_lt (by omega)]
theorem area_rot {l : List Pn} {a : Nat} : areaL (l.drop a ++ l.take a) = areaL l := by
  have e : l = l.take a ++ l.drop a := (List.take_append_drop a l).symm
  generalize l.take a = x at *
  generalize l.drop a = y at *
  subst e
  rw [area_pth, area_pth]
  cases x with
  | nil => simp
  | cons p x =>
    cases y with
    | nil => simp
    | cons q y =>
      have g : ∀ (u v : List Pn) (c d : Pn), (u ++ c :: v).getLastD d = (c :: v).getLastD d := fun u v c d => by
        rw [List.getLastD_eq_getLast?, List.getLastD_eq_getLast?, List.getLast?_append]
        cases h : (c :: v).getLast? with
        | none => simp at h
        | some z => rfl
      have g2 : ∀ (v : List Pn) (c d e : Pn), (c :: v).getLastD d = (c :: v).getLastD e := fun v c d e => by
        cases v <;> rfl
      rw [pth_app, pth_app, g, g, g2 x p _ (0, 0), g2 y q _ (0, 0)]
      rw [show (p :: x).getLastD ((q :: y).getLastD (0, 0)) = (p :: x).getLastD (0, 0) from g2 _ _ _ _]
      omega
def dueL (l : List Pn) : Int := ((rangeL 1 (l.length - 2)).map fun k => crs (gt l 0) (gt l k.toNat) (gt l (k.toNat + 1))).sum
theorem due_area {l : List Pn} (h : 2 ≤ l.length) : dueL l = areaL l := by
  match l, h with
  | o :: p :: t, _ =>
    have e : dueL (o :: p :: t) = fan o p t := by
      rw [← sum_fan]
      unfold dueL rangeL
      rw [List.map_map, show (o :: p :: t).length - 2 = t.length by simp]
      congr 1
      refine List.map_congr_left fun k hk => ?_
      simp only [Function.comp]
      rw [show (1 + (k : Int)).toNat = k + 1 by omega]
      rfl
    rw [e, area_pth, fan_pth]
    have g : (o :: p :: t).getLastD (0, 0) = t.getLastD p := by cases t <;> rfl
    rw [g]
    show _ = cr _ o + (cr o p + pth p t)
    omega
theorem sum_pos {α : Type} (f : α → Int) : ∀ (l : List α), l ≠ [] → (∀ x ∈ l, 0 < f x) → 0 < (l.map f).sum
  | [], h, _ => absurd rfl h
  | [a], _, h => by
    have := h a List.mem_cons_self
    simpa using this
  | a :: b :: l, _, h => by
    have h1 := h a List.mem_cons_self
    have h2 := sum_pos f (b :: l) (by simp) fun x hx => h x (List.mem_cons_of_mem _ hx)
    rw [List.map_cons, List.sum_cons]
    omega
theorem due_pos {l : List Pn} (h : 3 ≤ l.length) (hc : Conv l) : 0 < dueL l := by
  refine sum_pos _ _ (fun e => ?_) fun k hk => ?_
  · have := congrArg List.length e
    rw [rangeL_len] at this
    simp at this
    omega
  · obtain ⟨k1, k2⟩ := rangeL_mem hk
    have := hc k.toNat 0 (by omega) (by omega) (by omega) (by rw [Nat.mod_eq_of_lt (by omega)]; omega)
    rw [Nat.mod_eq_of_lt (by omega)] at this
    have e : crs (gt l 0) (gt l k.toNat) (gt l (k.toNat + 1)) = crs (gt l k.toNat) (gt l (k.toNat + 1)) (gt l 0) := by unfold crs; grind
    rw [e]
    exact this

theorem sp_sides {l : List Pn} (hl : l.length < 1000) : (F_sides_of (l, ())).post (fun r _ => r = sideL l) nXF := by
  unfold F_sides_of
  rw [q_fin]
  simp only [b_sides_of, in_sides_of, io_sides_of, p_pure, p_bind, p_op1, p_op2, p_op3, p_and, p_or, p_not, p_ite, p_pair, p_scr, p_ixO, p_sl, p_call, p_callIo, p_comp, o_some', o_add, o_sub, o_mul, o_fdiv, o_mod, o_pow, o_lt, o_le, o_gt, o_ge, o_neg, o_eq, o_ne, o_len, o_abs, o_max, o_min, o_intB, o_sum, o_all, o_any, o_list, o_cat, o_rev, o_enum, o_zip, o_countI, o_rng1, o_rng2, o_at0, o_at1, o_at2, o_set0, o_set1, o_set2, o_in, o_notin, o_is, o_isnt, o_isNone, o_isSome, o_sortI, o_sortT, o_sortSet, o_lenSet, o_divmod, p_ch, q_sixName, q_bind, q_set, q_ret, q_drop, q_if, q_nx, q_raise, q_app, q_ext, q_six, q_aug, q_augIx, q_for, q_try1, q_up, q_appK, q_pkPar, q_newK, q_putK, o_dictP, o_neK, o_inK, o_notinK, o_lenK, o_listK, o_inL, o_inR, o_unL, o_unR, o_unO, o_rep, o_rng3, o_upO, o_unOs, o_count, o_sortSetG, o_lenSetG, o_step, q_pop, q_clear, Int.reduceToNat, Int.reducePow, Int.reduceMul, Int.reduceAdd, Int.reduceSub]
  refine ⟨by omega, show _ ≤ 1000000 by rw [rangeL_len]; omega, comp_map (fun g => g.v_cake = l) (fun k => (gt l ((k.toNat + l.length - 1) % l.length), gt l k.toNat)) rfl (fun g hg => ?_) fun a ha g hg => ?_⟩
  · rw [Int.toNat_natCast]
    rfl
  · obtain ⟨a1, a2⟩ := rangeL_mem ha
    simp only [p_pure, p_bind, p_op1, p_op2, p_op3, p_and, p_or, p_not, p_ite, p_pair, p_scr, p_ixO, p_sl, p_call, p_callIo, p_comp, o_some', o_add, o_sub, o_mul, o_fdiv, o_mod, o_pow, o_lt, o_le, o_gt, o_ge, o_neg, o_eq, o_ne, o_len, o_abs, o_max, o_min, o_intB, o_sum, o_all, o_any, o_list, o_cat, o_rev, o_enum, o_zip, o_countI, o_rng1, o_rng2, o_at0, o_at1, o_at2, o_set0, o_set1, o_set2, o_in, o_notin, o_is, o_isnt, o_isNone, o_isSome, o_sortI, o_sortT, o_sortSet, o_lenSet, o_divmod, p_ch, q_sixName, q_bind, q_set, q_ret, q_drop, q_if, q_nx, q_raise, q_app, q_ext, q_six, q_aug, q_augIx, q_for, q_try1, q_up, q_appK, q_pkPar, q_newK, q_putK, o_dictP, o_neK, o_inK, o_notinK, o_lenK, o_listK, o_inL, o_inR, o_unL, o_unR, o_unO, o_rep, o_rng3, o_upO, o_unOs, o_count, o_sortSetG, o_lenSetG, o_step, q_pop, q_clear, Int.reduceToNat, Int.reducePow, Int.reduceMul, Int.reduceAdd, Int.reduceSub]
    obtain ⟨k, rfl⟩ := Int.eq_ofNat_of_zero_le a1
    rw [Int.toNat_natCast] at a2
    have hk : k < l.length := by omega
    rw [hg, at_prev hk, at_nat, gt_at hk]
    exact ⟨rfl, (by first | rfl | trivial | exact ⟨rfl, trivial⟩)⟩
theorem sp_area {l : List Pn} (hl : l.length < 1000) (hp : ∀ q ∈ l, Pt 400 q) : (F_area (l, ())).post (fun r _ => r = areaL l) nXF := by
  have sl : (sideL l).length = l.length := by unfold sideL; simp [rangeL_len]
  have sm : ∀ s ∈ sideL l, Pt 400 s.1 ∧ Pt 400 s.2 := fun s hs => by
    unfold sideL at hs
    obtain ⟨k, hk, rfl⟩ := List.mem_map.mp hs
    obtain ⟨a1, a2⟩ := rangeL_mem hk
    have hk : k.toNat < l.length := by omega
    exact ⟨hp _ (gt_mem (Nat.mod_lt _ (by omega))), hp _ (gt_mem hk)⟩
  unfold F_area
  rw [q_fin]
  simp only [b_area, in_area, io_area, p_pure, p_bind, p_op1, p_op2, p_op3, p_and, p_or, p_not, p_ite, p_pair, p_scr, p_ixO, p_sl, p_call, p_callIo, p_comp, o_some', o_add, o_sub, o_mul, o_fdiv, o_mod, o_pow, o_lt, o_le, o_gt, o_ge, o_neg, o_eq, o_ne, o_len, o_abs, o_max, o_min, o_intB, o_sum, o_all, o_any, o_list, o_cat, o_rev, o_enum, o_zip, o_countI, o_rng1, o_rng2, o_at0, o_at1, o_at2, o_set0, o_set1, o_set2, o_in, o_notin, o_is, o_isnt, o_isNone, o_isSome, o_sortI, o_sortT, o_sortSet, o_lenSet, o_divmod, p_ch, q_sixName, q_bind, q_set, q_ret, q_drop, q_if, q_nx, q_raise, q_app, q_ext, q_six, q_aug, q_augIx, q_for, q_try1, q_up, q_appK, q_pkPar, q_newK, q_putK, o_dictP, o_neK, o_inK, o_notinK, o_lenK, o_listK, o_inL, o_inR, o_unL, o_unR, o_unO, o_rep, o_rng3, o_upO, o_unOs, o_count, o_sortSetG, o_lenSetG, o_step, q_pop, q_clear, Int.reduceToNat, Int.reducePow, Int.reduceMul, Int.reduceAdd, Int.reduceSub]
  refine fUse (sp_sides hl) fun s _ es => ?_
  rw [es]
  refine ⟨show _ ≤ 1000000 by omega, ?_⟩
  refine comp_map (fun _ => True) (fun s => cr s.1 s.2) trivial (fun g _ => rfl) fun s hs g _ => ?_
  obtain ⟨⟨s1, s2⟩, s3, s4⟩ := sm s hs
  simp only [p_pure, p_bind, p_op1, p_op2, p_op3, p_and, p_or, p_not, p_ite, p_pair, p_scr, p_ixO, p_sl, p_call, p_callIo, p_comp, o_some', o_add, o_sub, o_mul, o_fdiv, o_mod, o_pow, o_lt, o_le, o_gt, o_ge, o_neg, o_eq, o_ne, o_len, o_abs, o_max, o_min, o_intB, o_sum, o_all, o_any, o_list, o_cat, o_rev, o_enum, o_zip, o_countI, o_rng1, o_rng2, o_at0, o_at1, o_at2, o_set0, o_set1, o_set2, o_in, o_notin, o_is, o_isnt, o_isNone, o_isSome, o_sortI, o_sortT, o_sortSet, o_lenSet, o_divmod, p_ch, q_sixName, q_bind, q_set, q_ret, q_drop, q_if, q_nx, q_raise, q_app, q_ext, q_six, q_aug, q_augIx, q_for, q_try1, q_up, q_appK, q_pkPar, q_newK, q_putK, o_dictP, o_neK, o_inK, o_notinK, o_lenK, o_listK, o_inL, o_inR, o_unL, o_unR, o_unO, o_rep, o_rng3, o_upO, o_unOs, o_count, o_sortSetG, o_lenSetG, o_step, q_pop, q_clear, Int.reduceToNat, Int.reducePow, Int.reduceMul, Int.reduceAdd, Int.reduceSub]
  refine ⟨(mulOk (by (repeat (first | assumption | with_reducible apply Bd.add | with_reducible apply Bd.sub | with_reducible apply Bd.mul | with_reducible apply Bd.neg | with_reducible apply Bd.fmod | with_reducible apply Bd.fdiv | with_reducible apply Bd.abs | with_reducible apply Bd.max | with_reducible apply Bd.min | with_reducible apply Bd.pow | with_reducible exact bdLit | decide | omega))) (by (repeat (first | assumption | with_reducible apply Bd.add | with_reducible apply Bd.sub | with_reducible apply Bd.mul | with_reducible apply Bd.neg | with_reducible apply Bd.fmod | with_reducible apply Bd.fdiv | with_reducible apply Bd.abs | with_reducible apply Bd.max | with_reducible apply Bd.min | with_reducible apply Bd.pow | with_reducible exact bdLit | decide | omega))) (by decide +kernel)), (mulOk (by (repeat (first | assumption | with_reducible apply Bd.add | with_reducible apply Bd.sub | with_reducible apply Bd.mul | with_reducible apply Bd.neg | with_reducible apply Bd.fmod | with_reducible apply Bd.fdiv | with_reducible apply Bd.abs | with_reducible apply Bd.max | with_reducible apply Bd.min | with_reducible apply Bd.pow | with_reducible exact bdLit | decide | omega))) (by (repeat (first | assumption | with_reducible apply Bd.add | with_reducible apply Bd.sub | with_reducible apply Bd.mul | with_reducible apply Bd.neg | with_reducible apply Bd.fmod | with_reducible apply Bd.fdiv | with_reducible apply Bd.abs | with_reducible apply Bd.max | with_reducible apply Bd.min | with_reducible apply Bd.pow | with_reducible exact bdLit | decide | omega))) (by decide +kernel)), ?_, trivial⟩
  unfold cr
  grind
theorem sp_are {l : List Pn} (hl : l.length < 1000) (hp : ∀ q ∈ l, Pt 400 q) : (F_l_are_points (l, ())).post (fun _ _ => True) nXF := by
  unfold F_l_are_points
  rw [q_fin]
  simp only [b_l_are_points, in_l_are_points, io_l_are_points, p_pure, p_bind, p_op1, p_op2, p_op3, p_and, p_or, p_not, p_ite, p_pair, p_scr, p_ixO, p_sl, p_call, p_callIo, p_comp, o_some', o_add, o_sub, o_mul, o_fdiv, o_mod, o_pow, o_lt, o_le, o_gt, o_ge, o_neg, o_eq, o_ne, o_len, o_abs, o_max, o_min, o_intB, o_sum, o_all, o_any, o_list, o_cat, o_rev, o_enum, o_zip, o_countI, o_rng1, o_rng2, o_at0, o_at1, o_at2, o_set0, o_set1, o_set2, o_in, o_notin, o_is, o_isnt, o_isNone, o_isSome, o_sortI, o_sortT, o_sortSet, o_lenSet, o_divmod, p_ch, q_sixName, q_bind, q_set, q_ret, q_drop, q_if, q_nx, q_raise, q_app, q_ext, q_six, q_aug, q_augIx, q_for, q_try1, q_up, q_appK, q_pkPar, q_newK, q_putK, o_dictP, o_neK, o_inK, o_notinK, o_lenK, o_listK, o_inL, o_inR, o_unL, o_unR, o_unO, o_rep, o_rng3, o_upO, o_unOs, o_count, o_sortSetG, o_lenSetG, o_step, q_pop, q_clear, Int.reduceToNat, Int.reducePow, Int.reduceMul, Int.reduceAdd, Int.reduceSub]
  refine ⟨show _ ≤ 1000000 by omega, comp_all (fun _ => True) (fun _ => True) trivial (fun ds g e1 _ _ => ?_) fun a ha g _ => ?_⟩
  · refine ⟨by simp; omega, ?_⟩
    have key : ∀ l : List Int, l ≠ [] → opt (maxLQ l) fun _ => (0 ≤ (30 : Int) ∧ (30 : Int) ≤ 1000000 ∧ Int.natAbs 10 < 2 ^ 64) ∧ True := fun l hl => by
      cases l with
      | nil => exact absurd rfl hl
      | cons a l => exact ⟨⟨by decide, by decide, by decide⟩, trivial⟩
    exact key _ (by simp)
  · simp only [p_pure, p_bind, p_op1, p_op2, p_op3, p_and, p_or, p_not, p_ite, p_pair, p_scr, p_ixO, p_sl, p_call, p_callIo, p_comp, o_some', o_add, o_sub, o_mul, o_fdiv, o_mod, o_pow, o_lt, o_le, o_gt, o_ge, o_neg, o_eq, o_ne, o_len, o_abs, o_max, o_min, o_intB, o_sum, o_all, o_any, o_list, o_cat, o_rev, o_enum, o_zip, o_countI, o_rng1, o_rng2, o_at0, o_at1, o_at2, o_set0, o_set1, o_set2, o_in, o_notin, o_is, o_isnt, o_isNone, o_isSome, o_sortI, o_sortT, o_sortSet, o_lenSet, o_divmod, p_ch, q_sixName, q_bind, q_set, q_ret, q_drop, q_if, q_nx, q_raise, q_app, q_ext, q_six, q_aug, q_augIx, q_for, q_try1, q_up, q_appK, q_pkPar, q_newK, q_putK, o_dictP, o_neK, o_inK, o_notinK, o_lenK, o_listK, o_inL, o_inR, o_unL, o_unR, o_unO, o_rep, o_rng3, o_upO, o_unOs, o_count, o_sortSetG, o_lenSetG, o_step, q_pop, q_clear, Int.reduceToNat, Int.reducePow, Int.reduceMul, Int.reduceAdd, Int.reduceSub]
    exact ⟨trivial, trivial⟩
theorem cut_mem {α : Type} {l : List α} {a b : Option Int} {x : α} (h : x ∈ cut a b l) : x ∈ l := List.mem_of_mem_drop (List.mem_of_mem_take h)
theorem cut_len {α : Type} {l : List α} {a b : Option Int} : (cut a b l).length ≤ l.length := by
  unfold cut
  rw [List.length_take, List.length_drop]
  omega
def SmOk (s : List Pn) : Prop := s.length ≤ 100 ∧ ∀ q ∈ s, Pt 400 q
theorem sp_others {p : List Int} {l : List Pn} (hp : PotOk p) (hl : CkOk l) : (F_l_others (p, l, ())).post (fun r q => (∀ s ∈ r, SmOk s) ∧ PotOk q) nXF := by
  obtain ⟨l1, l2, l3, l4⟩ := hl
  have l5 : ∀ q ∈ l, Pt 400 q := fun q hq => ptOk (l4 q hq)
  unfold F_l_others
  rw [q_fin]
  simp only [b_l_others, in_l_others, io_l_others, p_pure, p_bind, p_op1, p_op2, p_op3, p_and, p_or, p_not, p_ite, p_pair, p_scr, p_ixO, p_sl, p_call, p_callIo, p_comp, o_some', o_add, o_sub, o_mul, o_fdiv, o_mod, o_pow, o_lt, o_le, o_gt, o_ge, o_neg, o_eq, o_ne, o_len, o_abs, o_max, o_min, o_intB, o_sum, o_all, o_any, o_list, o_cat, o_rev, o_enum, o_zip, o_countI, o_rng1, o_rng2, o_at0, o_at1, o_at2, o_set0, o_set1, o_set2, o_in, o_notin, o_is, o_isnt, o_isNone, o_isSome, o_sortI, o_sortT, o_sortSet, o_lenSet, o_divmod, p_ch, q_sixName, q_bind, q_set, q_ret, q_drop, q_if, q_nx, q_raise, q_app, q_ext, q_six, q_aug, q_augIx, q_for, q_try1, q_up, q_appK, q_pkPar, q_newK, q_putK, o_dictP, o_neK, o_inK, o_notinK, o_lenK, o_listK, o_inL, o_inR, o_unL, o_unR, o_unO, o_rep, o_rng3, o_upO, o_unOs, o_count, o_sortSetG, o_lenSetG, o_step, q_pop, q_clear, Int.reduceToNat, Int.reducePow, Int.reduceMul, Int.reduceAdd, Int.reduceSub]
  refine fUse (sp_take hp (by omega) (Bd.mono (n := 40) (by unfold Bd; omega) (show _ ≤ _ by decide +kernel))) fun a i ha => ?_
  obtain ⟨a1, a2, hi⟩ := ha
  obtain ⟨k, rfl⟩ := Int.eq_ofNat_of_zero_le a1
  have hk : k < l.length := by omega
  refine fUse (sp_number hi) fun x i hx => fUse (sp_number hx.2) fun y i hy => ?_
  rw [at_prev hk, at_nat, gt_at hk, cut_to (by omega), cut_from (by omega)]
  have hk2 : (k + l.length - 1) % l.length < l.length := Nat.mod_lt _ (by omega)
  have c1 := gt_mem hk2
  have c2 := gt_mem hk
  generalize gt l ((k + l.length - 1) % l.length) = c at *
  generalize gt l k = e at *
  have tl : (l.take k).length ≤ 24 := by rw [List.length_take]; omega
  have dl : (l.drop k).length ≤ 24 := by rw [List.length_drop]; omega
  have cl : (cut (some ((k : Int) + 1)) none l).length ≤ 24 := Nat.le_trans cut_len l2
  have b1 := (l5 c c1).1
  have b2 := (l5 c c1).2
  have r1 := (l4 c c1).1
  have r2 := (l4 c c1).2
  have s1 := (l4 e c2).1
  have s2 := (l4 e c2).2
  have pt : ∀ x y : Int, x.natAbs < 10 ^ 31 → y.natAbs < 10 ^ 31 → Pt 400 (x, y) := fun x y h1 h2 => ⟨bdP h1, bdP h2⟩
  have m0 : SmOk l.reverse := ⟨by rw [List.length_reverse]; omega, fun q hq => l5 q (List.mem_reverse.mp hq)⟩
  have put : ∀ z : Pn, Pt 400 z → SmOk (l.take k ++ [z] ++ l.drop k) := fun z hz => ⟨by simp only [List.length_append, List.length_singleton]; omega, fun q hq => by
    rcases List.mem_append.mp hq with w | w
    · rcases List.mem_append.mp w with w | w
      · exact l5 q (List.mem_of_mem_take w)
      · rw [List.mem_singleton.mp w]; exact hz
    · exact l5 q (List.mem_of_mem_drop w)⟩
  have m2 : SmOk (l.take k ++ cut (some ((k : Int) + 1)) none l) := ⟨by rw [List.length_append]; omega, fun q hq => by
    rcases List.mem_append.mp hq with w | w
    · exact l5 q (List.mem_of_mem_take w)
    · exact l5 q (cut_mem w)⟩
  show _ ≤ 1000000 ∧ _
  refine ⟨by simp only [List.length_singleton]; omega, by simp only [List.length_append, List.length_singleton]; omega, by omega, by simp only [List.length_singleton]; omega, by simp only [List.length_append, List.length_singleton]; omega, (mulOk (by (repeat (first | assumption | with_reducible apply Bd.add | with_reducible apply Bd.sub | with_reducible apply Bd.mul | with_reducible apply Bd.neg | with_reducible apply Bd.fmod | with_reducible apply Bd.fdiv | with_reducible apply Bd.abs | with_reducible apply Bd.max | with_reducible apply Bd.min | with_reducible apply Bd.pow | with_reducible exact bdLit | decide | omega))) (by (repeat (first | assumption | with_reducible apply Bd.add | with_reducible apply Bd.sub | with_reducible apply Bd.mul | with_reducible apply Bd.neg | with_reducible apply Bd.fmod | with_reducible apply Bd.fdiv | with_reducible apply Bd.abs | with_reducible apply Bd.max | with_reducible apply Bd.min | with_reducible apply Bd.pow | with_reducible exact bdLit | decide | omega))) (by decide +kernel)), (mulOk (by (repeat (first | assumption | with_reducible apply Bd.add | with_reducible apply Bd.sub | with_reducible apply Bd.mul | with_reducible apply Bd.neg | with_reducible apply Bd.fmod | with_reducible apply Bd.fdiv | with_reducible apply Bd.abs | with_reducible apply Bd.max | with_reducible apply Bd.min | with_reducible apply Bd.pow | with_reducible exact bdLit | decide | omega))) (by (repeat (first | assumption | with_reducible apply Bd.add | with_reducible apply Bd.sub | with_reducible apply Bd.mul | with_reducible apply Bd.neg | with_reducible apply Bd.fmod | with_reducible apply Bd.fdiv | with_reducible apply Bd.abs | with_reducible apply Bd.max | with_reducible apply Bd.min | with_reducible apply Bd.pow | with_reducible exact bdLit | decide | omega))) (by decide +kernel)), by simp only [List.length_singleton]; omega, by simp only [List.length_append, List.length_singleton]; omega, show 4 < 1000000 by decide, ?_⟩
  refine fUse (sp_take hy.2 (by decide) (by unfold Bd; decide +kernel)) fun m j hm => ?_
  obtain ⟨n1, n2, hj⟩ := hm
  refine ⟨by omega, by rw [rangeL_len]; show _ ≤ 1000000; omega, ?_⟩
  refine comp_all (fun g => PotOk g.v_pot_here ∧ g.v_cake_here = l ∧ g.v_found.length = 5 ∧ ∀ s ∈ g.v_found, SmOk s) PtOk ⟨hj, rfl, rfl, ?_⟩ (fun ds g e1 e2 hg => ?_) fun a ha g hg => ?_
  · intro s hs
    rcases List.mem_append.mp hs with w | w
    · simp only [List.mem_cons, List.not_mem_nil, or_false] at w
      rcases w with rfl | rfl | rfl | rfl
      · exact m0
      · exact put _ (pt _ _ (by omega) (by omega))
      · exact m2
      · exact put _ (l5 e c2)
    · rw [List.mem_singleton.mp w]
      exact put _ (pt _ _ (by omega) (by omega))
  · obtain ⟨g1, g2, g3, g4⟩ := hg
    rw [rangeL_len] at e1
    have m5 : SmOk ds := ⟨by omega, fun q hq => ptOk (e2 q hq)⟩
    refine ⟨by rw [g3]; decide, fUse (sp_take g1 (by decide) (by unfold Bd; decide +kernel)) fun t j ht => ?_⟩
    obtain ⟨t1, t2, hj⟩ := ht
    have star : ∀ c : Int, SmOk (if c = 1 then [((0 : Int), (3 : Int)), (2, -3), (-3, 1), (3, 1), (-2, -3)] else [((0 : Int), (3 : Int)), (2, -3), (-3, 1), (3, 1), (-2, -3)].reverse) := fun c => by
      have base : ∀ q ∈ [((0 : Int), (3 : Int)), (2, -3), (-3, 1), (3, 1), (-2, -3)], Pt 400 q := fun q hq => by
        simp only [List.mem_cons, List.not_mem_nil, or_false] at hq
        rcases hq with rfl | rfl | rfl | rfl | rfl <;> exact pt _ _ (by decide) (by decide)
      split
      · exact ⟨by decide, base⟩
      · exact ⟨by decide, fun q hq => base q (List.mem_reverse.mp hq)⟩
    have c2l : (cut none (some 2) l).length ≤ 24 := Nat.le_trans cut_len l2
    have fin : ∀ c : Int, (c = 1 ∨ c = -1) → (c = 1 ∨ c = -1) ∧ (g.v_found ++ [ds]).length < LIM ∧ g.v_cake_here.length + g.v_cake_here.length ≤ 1000000 ∧ (g.v_found ++ [ds] ++ [if c = 1 then [((0 : Int), (3 : Int)), (2, -3), (-3, 1), (3, 1), (-2, -3)] else [((0 : Int), (3 : Int)), (2, -3), (-3, 1), (3, 1), (-2, -3)].reverse]).length + [cut none (some 2) g.v_cake_here, g.v_cake_here ++ g.v_cake_here].length ≤ 1000000 ∧
        (∀ s ∈ g.v_found ++ [ds] ++ [if c = 1 then [((0 : Int), (3 : Int)), (2, -3), (-3, 1), (3, 1), (-2, -3)] else [((0 : Int), (3 : Int)), (2, -3), (-3, 1), (3, 1), (-2, -3)].reverse] ++ [cut none (some 2) g.v_cake_here, g.v_cake_here ++ g.v_cake_here], SmOk s) ∧ PotOk j := fun c hc => by
      refine ⟨hc, by show _ < 1000000; simp [g3], by rw [g2]; omega, by simp [g3], fun s hs => ?_, hj⟩
      rcases List.mem_append.mp hs with w | w
      · rcases List.mem_append.mp w with w | w
        · rcases List.mem_append.mp w with w | w
          · exact g4 s w
          · rw [List.mem_singleton.mp w]; exact m5
        · rw [List.mem_singleton.mp w]; exact star c
      · rw [g2] at w
        simp only [List.mem_cons, List.not_mem_nil, or_false] at w
        rcases w with rfl | rfl
        · exact ⟨by omega, fun q hq => l5 q (cut_mem hq)⟩
        · exact ⟨by rw [List.length_append]; omega, fun q hq => (List.mem_append.mp hq).elim (l5 q) (l5 q)⟩
    rcases Int.lt_or_eq_of_le (show t ≤ 1 by omega) with z | z
    · have e0 : t = 0 := by omega
      rw [e0]
      exact o_at0.mpr (fin 1 (.inl rfl))
    · rw [z]
      exact o_at1.mpr (fin (-1) (.inr rfl))
  · obtain ⟨g1, g2⟩ := hg
    simp only [p_pure, p_bind, p_op1, p_op2, p_op3, p_and, p_or, p_not, p_ite, p_pair, p_scr, p_ixO, p_sl, p_call, p_callIo, p_comp, o_some', o_add, o_sub, o_mul, o_fdiv, o_mod, o_pow, o_lt, o_le, o_gt, o_ge, o_neg, o_eq, o_ne, o_len, o_abs, o_max, o_min, o_intB, o_sum, o_all, o_any, o_list, o_cat, o_rev, o_enum, o_zip, o_countI, o_rng1, o_rng2, o_at0, o_at1, o_at2, o_set0, o_set1, o_set2, o_in, o_notin, o_is, o_isnt, o_isNone, o_isSome, o_sortI, o_sortT, o_sortSet, o_lenSet, o_divmod, p_ch, q_sixName, q_bind, q_set, q_ret, q_drop, q_if, q_nx, q_raise, q_app, q_ext, q_six, q_aug, q_augIx, q_for, q_try1, q_up, q_appK, q_pkPar, q_newK, q_putK, o_dictP, o_neK, o_inK, o_notinK, o_lenK, o_listK, o_inL, o_inR, o_unL, o_unR, o_unO, o_rep, o_rng3, o_upO, o_unOs, o_count, o_sortSetG, o_lenSetG, o_step, q_pop, q_clear, Int.reduceToNat, Int.reducePow, Int.reduceMul, Int.reduceAdd, Int.reduceSub]
    exact fUse (sp_number g1) fun x i hx => fUse (sp_number hx.2) fun y i hy => ⟨⟨hx.1, hy.1⟩, hy.2, g2⟩
theorem sp_right {p : List Int} (hp : PotOk p) : (F_l_right (p, ())).post (fun b _ => b = true) nXF := by
  unfold F_l_right
  rw [q_fin]
  simp only [b_l_right, in_l_right, io_l_right, p_pure, p_bind, p_op1, p_op2, p_op3, p_and, p_or, p_not, p_ite, p_pair, p_scr, p_ixO, p_sl, p_call, p_callIo, p_comp, o_some', o_add, o_sub, o_mul, o_fdiv, o_mod, o_pow, o_lt, o_le, o_gt, o_ge, o_neg, o_eq, o_ne, o_len, o_abs, o_max, o_min, o_intB, o_sum, o_all, o_any, o_list, o_cat, o_rev, o_enum, o_zip, o_countI, o_rng1, o_rng2, o_at0, o_at1, o_at2, o_set0, o_set1, o_set2, o_in, o_notin, o_is, o_isnt, o_isNone, o_isSome, o_sortI, o_sortT, o_sortSet, o_lenSet, o_divmod, p_ch, q_sixName, q_bind, q_set, q_ret, q_drop, q_if, q_nx, q_raise, q_app, q_ext, q_six, q_aug, q_augIx, q_for, q_try1, q_up, q_appK, q_pkPar, q_newK, q_putK, o_dictP, o_neK, o_inK, o_notinK, o_lenK, o_listK, o_inL, o_inR, o_unL, o_unR, o_unO, o_rep, o_rng3, o_upO, o_unOs, o_count, o_sortSetG, o_lenSetG, o_step, q_pop, q_clear, Int.reduceToNat, Int.reducePow, Int.reduceMul, Int.reduceAdd, Int.reduceSub]
  refine fUse (sp_cake hp) fun l i hl => ?_
  obtain ⟨ck, hi⟩ := hl
  have ⟨l1, l2, l3, l4⟩ := ck
  have l5 : ∀ q ∈ l, Pt 400 q := fun q hq => ptOk (l4 q hq)
  refine fUse (sp_is_cake (by omega) l5) fun b _ hb => ?_
  have : b = true := hb.mpr ⟨l1, l3⟩
  subst this
  rw [if_neg (by decide), if_neg (by decide)]
  refine ⟨by omega, by rw [rangeL_len]; show _ ≤ 1000000; omega, ?_⟩
  refine comp_map (fun g => g.v_pot_here = i ∧ g.v_cake_here = l ∧ g.v_handed = l) (fun k => crs (gt l 0) (gt l k.toNat) (gt l (k.toNat + 1))) ⟨rfl, rfl, rfl⟩ (fun g hg => ?_) fun a ha g hg => ?_
  · obtain ⟨g1, g2, g3⟩ := hg
    rw [show ((l.length : Int) - 1 - 1).toNat = l.length - 2 by omega]
    have ed : ((rangeL 1 (l.length - 2)).map fun k => crs (gt l 0) (gt l k.toNat) (gt l (k.toNat + 1))).sum = areaL l := due_area (by omega)
    have ap : 0 < areaL l := by rw [← due_area (by omega)]; exact due_pos l1 l3
    rw [ed, g1, g2, g3]
    refine fUse (sp_take hi (by omega) (Bd.mono (n := 40) (by unfold Bd; omega) (show _ ≤ _ by decide +kernel))) fun a j ha => ?_
    obtain ⟨a1, a2, hj⟩ := ha
    obtain ⟨k, rfl⟩ := Int.eq_ofNat_of_zero_le a1
    have hk : k ≤ l.length := by omega
    rw [cut_from hk, cut_to hk]
    refine ⟨by simp; omega, ?_⟩
    refine for_all (fun g => g.v_pot_here = j ∧ g.v_cake_here = l ∧ g.v_handed = l ∧ g.v_due = areaL l) ⟨rfl, rfl, rfl, rfl⟩ (fun g hg => ?_) fun s hs g hg => ?_
    · obtain ⟨g1, g2, g3, _⟩ := hg
      rw [g1, g2]
      refine fUse (sp_others hj ck) fun r q hr => ?_
      obtain ⟨sm, hq⟩ := hr
      refine for_all (fun g => g.v_cake_here = l ∧ g.v_handed = l) ⟨rfl, g3⟩ (fun g hg => ?_) fun s hs g hg => ?_
      · rw [hg.1, hg.2]; simp
      · simp only [p_pure, p_bind, p_op1, p_op2, p_op3, p_and, p_or, p_not, p_ite, p_pair, p_scr, p_ixO, p_sl, p_call, p_callIo, p_comp, o_some', o_add, o_sub, o_mul, o_fdiv, o_mod, o_pow, o_lt, o_le, o_gt, o_ge, o_neg, o_eq, o_ne, o_len, o_abs, o_max, o_min, o_intB, o_sum, o_all, o_any, o_list, o_cat, o_rev, o_enum, o_zip, o_countI, o_rng1, o_rng2, o_at0, o_at1, o_at2, o_set0, o_set1, o_set2, o_in, o_notin, o_is, o_isnt, o_isNone, o_isSome, o_sortI, o_sortT, o_sortSet, o_lenSet, o_divmod, p_ch, q_sixName, q_bind, q_set, q_ret, q_drop, q_if, q_nx, q_raise, q_app, q_ext, q_six, q_aug, q_augIx, q_for, q_try1, q_up, q_appK, q_pkPar, q_newK, q_putK, o_dictP, o_neK, o_inK, o_notinK, o_lenK, o_listK, o_inL, o_inR, o_unL, o_unR, o_unO, o_rep, o_rng3, o_upO, o_unOs, o_count, o_sortSetG, o_lenSetG, o_step, q_pop, q_clear, Int.reduceToNat, Int.reducePow, Int.reduceMul, Int.reduceAdd, Int.reduceSub]
        obtain ⟨s1, s2⟩ := sm s hs
        refine fUse (sp_are (by omega) s2) fun b _ _ => ?_
        split
        · refine fUse (sp_is_cake (by omega) s2) fun b _ hb => ?_
          refine fUse (sp_law_is_cake (by omega) s2) fun c _ hc => ?_
          have e : b = c := by
            cases b <;> cases c <;> simp at hb hc ⊢
            · exact absurd hc hb
            · exact absurd hb hc
          subst e
          simp [hg.1, hg.2]
        · exact hg
    · obtain ⟨g1, g2, g3, g4⟩ := hg
      have hs2 : areaL s = areaL l ∧ s.length ≤ 24 ∧ ∀ q ∈ s, Pt 400 q := by
        simp only [List.mem_cons, List.not_mem_nil, or_false] at hs
        rcases hs with rfl | rfl
        · exact ⟨rfl, l2, l5⟩
        · refine ⟨area_rot, by simp; omega, fun q hq => ?_⟩
          rcases List.mem_append.mp hq with z | z
          · exact l5 q (List.mem_of_mem_drop z)
          · exact l5 q (List.mem_of_mem_take z)
      obtain ⟨s1, s2, s3⟩ := hs2
      simp only [p_pure, p_bind, p_op1, p_op2, p_op3, p_and, p_or, p_not, p_ite, p_pair, p_scr, p_ixO, p_sl, p_call, p_callIo, p_comp, o_some', o_add, o_sub, o_mul, o_fdiv, o_mod, o_pow, o_lt, o_le, o_gt, o_ge, o_neg, o_eq, o_ne, o_len, o_abs, o_max, o_min, o_intB, o_sum, o_all, o_any, o_list, o_cat, o_rev, o_enum, o_zip, o_countI, o_rng1, o_rng2, o_at0, o_at1, o_at2, o_set0, o_set1, o_set2, o_in, o_notin, o_is, o_isnt, o_isNone, o_isSome, o_sortI, o_sortT, o_sortSet, o_lenSet, o_divmod, p_ch, q_sixName, q_bind, q_set, q_ret, q_drop, q_if, q_nx, q_raise, q_app, q_ext, q_six, q_aug, q_augIx, q_for, q_try1, q_up, q_appK, q_pkPar, q_newK, q_putK, o_dictP, o_neK, o_inK, o_notinK, o_lenK, o_listK, o_inL, o_inR, o_unL, o_unR, o_unO, o_rep, o_rng3, o_upO, o_unOs, o_count, o_sortSetG, o_lenSetG, o_step, q_pop, q_clear, Int.reduceToNat, Int.reducePow, Int.reduceMul, Int.reduceAdd, Int.reduceSub]
      refine fUse (sp_area (by omega) s3) fun b _ hb => ?_
      rw [hb, s1, g4]
      have n0 : ¬ areaL l ≤ 0 := by omega
      simp [n0, g1, g2, g3, g4]
  · obtain ⟨g1, g2, g3⟩ := hg
    obtain ⟨a1, a2⟩ := rangeL_mem ha
    obtain ⟨k, rfl⟩ := Int.eq_ofNat_of_zero_le (show 0 ≤ a by omega)
    have k1 : k + 1 < l.length := by omega
    simp only [p_pure, p_bind, p_op1, p_op2, p_op3, p_and, p_or, p_not, p_ite, p_pair, p_scr, p_ixO, p_sl, p_call, p_callIo, p_comp, o_some', o_add, o_sub, o_mul, o_fdiv, o_mod, o_pow, o_lt, o_le, o_gt, o_ge, o_neg, o_eq, o_ne, o_len, o_abs, o_max, o_min, o_intB, o_sum, o_all, o_any, o_list, o_cat, o_rev, o_enum, o_zip, o_countI, o_rng1, o_rng2, o_at0, o_at1, o_at2, o_set0, o_set1, o_set2, o_in, o_notin, o_is, o_isnt, o_isNone, o_isSome, o_sortI, o_sortT, o_sortSet, o_lenSet, o_divmod, p_ch, q_sixName, q_bind, q_set, q_ret, q_drop, q_if, q_nx, q_raise, q_app, q_ext, q_six, q_aug, q_augIx, q_for, q_try1, q_up, q_appK, q_pkPar, q_newK, q_putK, o_dictP, o_neK, o_inK, o_notinK, o_lenK, o_listK, o_inL, o_inR, o_unL, o_unR, o_unO, o_rep, o_rng3, o_upO, o_unOs, o_count, o_sortSetG, o_lenSetG, o_step, q_pop, q_clear, Int.reduceToNat, Int.reducePow, Int.reduceMul, Int.reduceAdd, Int.reduceSub]
    rw [g2, at_nat, show ((k : Nat) : Int) + 1 = ((k + 1 : Nat) : Int) by omega, at_nat, show (0 : Int) = ((0 : Nat) : Int) from rfl, at_nat, gt_at (show 0 < l.length by omega), gt_at (show k < l.length by omega), gt_at k1]
    simp only [p_pure, p_bind, p_op1, p_op2, p_op3, p_and, p_or, p_not, p_ite, p_pair, p_scr, p_ixO, p_sl, p_call, p_callIo, p_comp, o_some', o_add, o_sub, o_mul, o_fdiv, o_mod, o_pow, o_lt, o_le, o_gt, o_ge, o_neg, o_eq, o_ne, o_len, o_abs, o_max, o_min, o_intB, o_sum, o_all, o_any, o_list, o_cat, o_rev, o_enum, o_zip, o_countI, o_rng1, o_rng2, o_at0, o_at1, o_at2, o_set0, o_set1, o_set2, o_in, o_notin, o_is, o_isnt, o_isNone, o_isSome, o_sortI, o_sortT, o_sortSet, o_lenSet, o_divmod, p_ch, q_sixName, q_bind, q_set, q_ret, q_drop, q_if, q_nx, q_raise, q_app, q_ext, q_six, q_aug, q_augIx, q_for, q_try1, q_up, q_appK, q_pkPar, q_newK, q_putK, o_dictP, o_neK, o_inK, o_notinK, o_lenK, o_listK, o_inL, o_inR, o_unL, o_unR, o_unO, o_rep, o_rng3, o_upO, o_unOs, o_count, o_sortSetG, o_lenSetG, o_step, q_pop, q_clear, Int.reduceToNat, Int.reducePow, Int.reduceMul, Int.reduceAdd, Int.reduceSub]
    refine fUse (sp_across (l5 _ (gt_mem (by omega))) (l5 _ (gt_mem (by omega))) (l5 _ (gt_mem k1))) fun t _ et => ?_
    exact ⟨et, g1, (by first | rfl | trivial | exact ⟨rfl, trivial⟩), g3⟩
theorem law_true (ns : List Int) (hn : ns.length ≤ 63) : F_law (ns, ()) = .ok true () := by
  apply FRes.post_eq
  unfold F_law
  rw [q_fin]
  simp only [b_law, in_law, io_law, p_pure, p_bind, p_op1, p_op2, p_op3, p_and, p_or, p_not, p_ite, p_pair, p_scr, p_ixO, p_sl, p_call, p_callIo, p_comp, o_some', o_add, o_sub, o_mul, o_fdiv, o_mod, o_pow, o_lt, o_le, o_gt, o_ge, o_neg, o_eq, o_ne, o_len, o_abs, o_max, o_min, o_intB, o_sum, o_all, o_any, o_list, o_cat, o_rev, o_enum, o_zip, o_countI, o_rng1, o_rng2, o_at0, o_at1, o_at2, o_set0, o_set1, o_set2, o_in, o_notin, o_is, o_isnt, o_isNone, o_isSome, o_sortI, o_sortT, o_sortSet, o_lenSet, o_divmod, p_ch, q_sixName, q_bind, q_set, q_ret, q_drop, q_if, q_nx, q_raise, q_app, q_ext, q_six, q_aug, q_augIx, q_for, q_try1, q_up, q_appK, q_pkPar, q_newK, q_putK, o_dictP, o_neK, o_inK, o_notinK, o_lenK, o_listK, o_inL, o_inR, o_unL, o_unR, o_unO, o_rep, o_rng3, o_upO, o_unOs, o_count, o_sortSetG, o_lenSetG, o_step, q_pop, q_clear, Int.reduceToNat, Int.reducePow, Int.reduceMul, Int.reduceAdd, Int.reduceSub]
  refine ⟨by omega, by rw [rangeL_len]; show _ ≤ 1000000; omega, ?_⟩
  refine comp_all (fun g => g.v_script = ns) (fun b => b = true) rfl (fun ds g e1 e2 hg => ?_) fun a ha g hg => ?_
  · refine ⟨?_, (by first | rfl | trivial | exact ⟨rfl, trivial⟩)⟩
    rw [List.all_eq_true]
    exact e2
  · obtain ⟨a1, a2⟩ := rangeL_mem ha
    simp only [p_pure, p_bind, p_op1, p_op2, p_op3, p_and, p_or, p_not, p_ite, p_pair, p_scr, p_ixO, p_sl, p_call, p_callIo, p_comp, o_some', o_add, o_sub, o_mul, o_fdiv, o_mod, o_pow, o_lt, o_le, o_gt, o_ge, o_neg, o_eq, o_ne, o_len, o_abs, o_max, o_min, o_intB, o_sum, o_all, o_any, o_list, o_cat, o_rev, o_enum, o_zip, o_countI, o_rng1, o_rng2, o_at0, o_at1, o_at2, o_set0, o_set1, o_set2, o_in, o_notin, o_is, o_isnt, o_isNone, o_isSome, o_sortI, o_sortT, o_sortSet, o_lenSet, o_divmod, p_ch, q_sixName, q_bind, q_set, q_ret, q_drop, q_if, q_nx, q_raise, q_app, q_ext, q_six, q_aug, q_augIx, q_for, q_try1, q_up, q_appK, q_pkPar, q_newK, q_putK, o_dictP, o_neK, o_inK, o_notinK, o_lenK, o_listK, o_inL, o_inR, o_unL, o_unR, o_unO, o_rep, o_rng3, o_upO, o_unOs, o_count, o_sortSetG, o_lenSetG, o_step, q_pop, q_clear, Int.reduceToNat, Int.reducePow, Int.reduceMul, Int.reduceAdd, Int.reduceSub]
    rw [hg]
    refine fUse (sp_pot (by unfold Bd; omega) (by omega)) fun p _ hp => fUse (sp_right hp) fun b _ hb => ⟨hb, (by first | rfl | trivial | exact ⟨rfl, trivial⟩)⟩
end HL
/-! Hx: the head's facts about classes of refusals. -/
namespace HL
open PySem PySem.Spec PyProof.Rows L2
def eqOV (a : Option (Option Value)) (b : Option (Option Value)) : Bool := decide (a = b)
def excB (K : PySem.W.Frag) (D : Addr) : Bool :=
  eqOV (PySem.W.findIn K (.ref D) "__getattribute__") (some (some (.builtin "BaseException.__getattribute__"))) && (eqOV (PySem.W.findIn K (.ref D) "__getattr__") (some none) && (decide (PySem.W.subIn K (.ref D) (.type "BaseException") = some true) && (PySem.W.hasDictIn K D &&
  (eqOV (PySem.W.findIn K (.ref D) "__class__") (some (some (.builtin "object.__class__"))) && (eqOV (PySem.W.specialIn K (.builtin "object.__class__") "__get__") (some (some (.builtin "getset_descriptor.__get__"))) && (decide (PySem.W.takesIn K (.builtin "object.__class__") = some true) && decide (PySem.W.mroIn K D (.type "object") = some true)))))))
theorem excB_ok {K : PySem.W.Frag} {D : Addr} (h : excB K D = true) : ExcC K D := by
  unfold excB eqOV at h
  simp only [Bool.and_eq_true, decide_eq_true_eq] at h
  obtain ⟨h1, h2, h3, h4, h5, h6, h7, h8⟩ := h
  exact ⟨h1, h2, h3, h4, h5, h6, h7, h8⟩
inductive Fk where
  | exc (x : Str)
  | one (x y : Str) (b : Bool)
  | oneB (x : Str) (T : String) (b : Bool)
  | any (x : Str) (ys : List Str) (b : Bool)
def Fk.ok (K : PySem.W.Frag) : Fk → Bool
  | .exc x => excB K (He.ga K x)
  | .one x y b => decide (PySem.W.kitOne K (.ref (He.ga K x)) (.ref (He.ga K y)) = some b)
  | .oneB x T b => decide (PySem.W.kitOne K (.ref (He.ga K x)) (.type T) = some b)
  | .any x ys b => decide (PySem.W.kitAny K (.ref (He.ga K x)) (ys.map fun y => .ref (He.ga K y)) = some b)
def obsX (fa : List He.Fa) (fn : List He.FnD) (fk : List Fk) (K : PySem.W.Frag) : He.Al := ((He.obsE fa fn K).1 && fk.all fun f => f.ok K, (He.obsE fa fn K).2)
def SaysX (fa : List He.Fa) (fn : List He.FnD) (fk : List Fk) (K : PySem.W.Frag) : Prop := obsX fa fn fk K = He.valE fn
def obsXG (n : Nat) (fa : List He.Fa) (fn : List He.FnD) (fk : List Fk) (g : Addr → Option Obj) : He.Al := obsX fa fn fk (He.frG g (He.asG g n))
def hookX (n : Nat) (fa : List He.Fa) (fn : List He.FnD) (fk : List Fk) : PySem.W.Hook where
  α := He.Al
  obs := fun s => obsXG n fa fn fk s.heap.get?
  val := fun _ => He.valE fn
  says := fun _ h => ∃ K : PySem.W.Frag, K.In h ∧ SaysX fa fn fk K
  of := fun _ _ e => ⟨_, He.frG_in, e⟩
  keeps := fun _ _ _ ⟨K, hK, c⟩ k => ⟨K, PySem.W.Frag.In.keeps hK k, c⟩
theorem obsXG_eq {n : Nat} {fa : List He.Fa} {fn : List He.FnD} {fk : List Fk} {g : Addr → Option Obj} {s : Shared} (h : ∀ a, g a = s.heap.get? a) : obsXG n fa fn fk g = (hookX n fa fn fk).obs s := by
  have e : g = s.heap.get? := funext h
  rw [e]
  rfl
theorem SaysX.says {fa : List He.Fa} {fn : List He.FnD} {fk : List Fk} {K : PySem.W.Frag} (c : SaysX fa fn fk K) : He.SaysE fa fn K := by
  have h1 : ((He.obsE fa fn K).1 && fk.all fun f => f.ok K) = true := congrArg (fun z : He.Al => z.1) c
  have h2 : (obsX fa fn fk K).2 = (He.valE fn).2 := congrArg (fun z : He.Al => z.2) c
  exact Prod.ext (Bool.and_eq_true_iff.mp h1).1 h2
theorem SaysX.cls {fa : List He.Fa} {fn : List He.FnD} {fk : List Fk} {K : PySem.W.Frag} (c : SaysX fa fn fk K) (i : Nat) {f : Fk} (h : fk[i]? = some f := by rfl) : f.ok K = true := by
  have h1 : ((He.obsE fa fn K).1 && fk.all fun f => f.ok K) = true := congrArg (fun z : He.Al => z.1) c
  exact List.all_eq_true.mp (Bool.and_eq_true_iff.mp h1).2 f (List.mem_of_getElem? h)
end HL
namespace HL
open PySem PySem.Spec PyProof.Rows L2
def dD (i : Nat) (x : Str) : He.FnD := ⟨(x, none), x, x, defArgs (topS i), defBody (topS i), defScope (topS i)⟩
def hFn_0 : List He.FnD := [dD 1 "sign_of", dD 2 "turn", dD 4 "sides_of", dD 5 "is_cake", dD 6 "area", dD 8 "_law_pot", dD 9 "_law_take", dD 10 "_law_wide", dD 11 "_law_number", dD 12 "_law_across", dD 13 "_law_chain", dD 14 "_law_outer", dD 15 "_law_mark", dD 16 "_law_cake", dD 17 "_law_is_cake", dD 18 "_law_others", dD 19 "_law_are_points", dD 20 "_law_right", dD 21 "law"]
def hFn : List He.FnD := hFn_0
def hFa_0 : List He.Fa := [.glo "sign_of", .keep "sign_of", .glo "turn", .keep "turn", .glo "sides_of", .keep "sides_of", .glo "is_cake", .keep "is_cake", .glo "area", .keep "area", .glo "_law_pot", .keep "_law_pot", .glo "_law_take", .keep "_law_take", .glo "_law_wide", .keep "_law_wide", .glo "_law_number", .keep "_law_number", .glo "_law_across", .keep "_law_across", .glo "_law_chain", .keep "_law_chain", .glo "_law_outer", .keep "_law_outer", .glo "_law_mark", .keep "_law_mark", .glo "_law_cake", .keep "_law_cake", .glo "_law_is_cake", .keep "_law_is_cake"]
def hFa_1 : List He.Fa := [.glo "_law_others", .keep "_law_others", .glo "_law_are_points", .keep "_law_are_points", .glo "_law_right", .keep "_law_right", .glo "law", .keep "law", .free "len", .free "abs", .free "max", .free "min", .free "int", .free "sum", .free "all", .free "any", .free "list", .free "tuple", .free "sorted", .free "set", .free "range", .free "enumerate", .free "zip", .free "reversed", .free "isinstance", .free "divmod", .free "str", .free "bool", .free "dict", .free "repr"]
def hFa : List He.Fa := hFa_0 ++ hFa_1
def hFk : List Fk := []
def hLo_0 : List Str := ["sign_of", "turn", "sides_of", "is_cake", "area", "_law_pot", "_law_take", "_law_wide", "_law_number", "_law_across", "_law_chain", "_law_outer", "_law_mark", "_law_cake", "_law_is_cake", "_law_others", "_law_are_points", "_law_right"]
def hLo : List Str := hLo_0
abbrev R : PySem.W.OpenRow := PySem.W.OpenLaw.row PySem.Challenge.rw_halveline_k71_cakes_and_areas
abbrev hk : PySem.W.Hook := hookX 4 hFa hFn hFk
def ob (s : PySem.W.SharedT) : He.Al := obsXG 4 hFa hFn hFk (HandSHeadRun.getT s)
theorem ob_eq (s : PySem.W.SharedT) : ob s = hk.obs s.abs := obsXG_eq (HandSHeadRun.getT_eq s)
set_option maxHeartbeats 0 in
theorem run (w : World) : HandSHeadRun.RunEq R (PySem.W.view R.prog [21]) hk ob 4000 hLo w := by
  intro os
  kernel_rfl
set_option maxHeartbeats 0 in
theorem facts {P : Program} {w : World} {K : PySem.W.Frag} {h : Heap} {mg : Str → Option Value} {f : Addr} (X : K.In h) (G : h.Ns mainGlobals mg) (hfa : mg ("law" : Str) = some (.ref f)) (cX : SaysX hFa hFn hFk K) :
    ∃ fd : FuncData, (∀ (s : Shared) (v : Value), BindsTo s fd ⟨[v], []⟩ [("_law_script", v)]) ∧ ∀ base : Heap, K.In base → base.Ns mainGlobals mg → FnOk P w K mg base (L2.CX P w) 6 f fd ["_law_script"] (P_law K mg) := by
  have c := cX.says
  have B : Bi mg := ⟨He.free_ok X G (c.fact 38 rfl), He.free_ok X G (c.fact 39 rfl), He.free_ok X G (c.fact 40 rfl), He.free_ok X G (c.fact 41 rfl), He.free_ok X G (c.fact 42 rfl), He.free_ok X G (c.fact 43 rfl), He.free_ok X G (c.fact 44 rfl), He.free_ok X G (c.fact 45 rfl), He.free_ok X G (c.fact 46 rfl), He.free_ok X G (c.fact 47 rfl), He.free_ok X G (c.fact 48 rfl), He.free_ok X G (c.fact 49 rfl), He.free_ok X G (c.fact 50 rfl), He.free_ok X G (c.fact 51 rfl), He.free_ok X G (c.fact 52 rfl), He.free_ok X G (c.fact 53 rfl), He.free_ok X G (c.fact 54 rfl), He.free_ok X G (c.fact 55 rfl), He.free_ok X G (c.fact 56 rfl), He.free_ok X G (c.fact 57 rfl), He.free_ok X G (c.fact 58 rfl), He.free_ok X G (c.fact 59 rfl)⟩
  have c_sign_of : ∀ {base : Heap}, Cal P w K mg base 1 "sign_of" ["number"] (P_sign_of K mg) := fun {base} => by
    obtain ⟨oc, od, osl, kV, doc, pm, an, cdv, ct, l, cc⟩ := c.def_ 0 (d := dD 1 "sign_of") rfl
    have F : Fun K "sign_of" "sign_of" sS_sign_of _ _ := fun_mk l cc (He.keep_ok (c.fact 1 rfl))
    exact ⟨_, _, ok_sign_of F B, He.glo_ok X G (c.fact 0 rfl), F.kp, F.binds fun _ _ _ _ _ _ us hl => match us, hl with | [_], _ => rfl⟩
  have c_turn : ∀ {base : Heap}, Cal P w K mg base 2 "turn" ["one", "two", "three"] (P_turn K mg) := fun {base} => by
    obtain ⟨oc, od, osl, kV, doc, pm, an, cdv, ct, l, cc⟩ := c.def_ 1 (d := dD 2 "turn") rfl
    have F : Fun K "turn" "turn" sS_turn _ _ := fun_mk l cc (He.keep_ok (c.fact 3 rfl))
    exact ⟨_, _, ok_turn F B c_sign_of, He.glo_ok X G (c.fact 2 rfl), F.kp, F.binds fun _ _ _ _ _ _ us hl => match us, hl with | [_, _, _], _ => rfl⟩
  have c_sides_of : ∀ {base : Heap}, Cal P w K mg base 1 "sides_of" ["cake"] (P_sides_of K mg) := fun {base} => by
    obtain ⟨oc, od, osl, kV, doc, pm, an, cdv, ct, l, cc⟩ := c.def_ 2 (d := dD 4 "sides_of") rfl
    have F : Fun K "sides_of" "sides_of" sS_sides_of _ _ := fun_mk l cc (He.keep_ok (c.fact 5 rfl))
    exact ⟨_, _, ok_sides_of F B, He.glo_ok X G (c.fact 4 rfl), F.kp, F.binds fun _ _ _ _ _ _ us hl => match us, hl with | [_], _ => rfl⟩
  have c_is_cake : ∀ {base : Heap}, Cal P w K mg base 3 "is_cake" ["thing"] (P_is_cake K mg) := fun {base} => by
    obtain ⟨oc, od, osl, kV, doc, pm, an, cdv, ct, l, cc⟩ := c.def_ 3 (d := dD 5 "is_cake") rfl
    have F : Fun K "is_cake" "is_cake" sS_is_cake _ _ := fun_mk l cc (He.keep_ok (c.fact 7 rfl))
    exact ⟨_, _, ok_is_cake F B c_turn, He.glo_ok X G (c.fact 6 rfl), F.kp, F.binds fun _ _ _ _ _ _ us hl => match us, hl with | [_], _ => rfl⟩
  have c_area : ∀ {base : Heap}, Cal P w K mg base 2 "area" ["cake"] (P_area K mg) := fun {base} => by
    obtain ⟨oc, od, osl, kV, doc, pm, an, cdv, ct, l, cc⟩ := c.def_ 4 (d := dD 6 "area") rfl
    have F : Fun K "area" "area" sS_area _ _ := fun_mk l cc (He.keep_ok (c.fact 9 rfl))
    exact ⟨_, _, ok_area F B c_sides_of, He.glo_ok X G (c.fact 8 rfl), F.kp, F.binds fun _ _ _ _ _ _ us hl => match us, hl with | [_], _ => rfl⟩
  have c_l_pot : ∀ {base : Heap}, Cal P w K mg base 1 "_law_pot" ["_law_script", "_law_k"] (P_l_pot K mg) := fun {base} => by
    obtain ⟨oc, od, osl, kV, doc, pm, an, cdv, ct, l, cc⟩ := c.def_ 5 (d := dD 8 "_law_pot") rfl
    have F : Fun K "_law_pot" "_law_pot" sS_l_pot _ _ := fun_mk l cc (He.keep_ok (c.fact 11 rfl))
    exact ⟨_, _, ok_l_pot F B, He.glo_ok X G (c.fact 10 rfl), F.kp, F.binds fun _ _ _ _ _ _ us hl => match us, hl with | [_, _], _ => rfl⟩
  have c_l_take : ∀ {base : Heap}, Cal P w K mg base 1 "_law_take" ["_law_pot_here", "_law_many"] (P_l_take K mg) := fun {base} => by
    obtain ⟨oc, od, osl, kV, doc, pm, an, cdv, ct, l, cc⟩ := c.def_ 6 (d := dD 9 "_law_take") rfl
    have F : Fun K "_law_take" "_law_take" sS_l_take _ _ := fun_mk l cc (He.keep_ok (c.fact 13 rfl))
    exact ⟨_, _, ok_l_take F B, He.glo_ok X G (c.fact 12 rfl), F.kp, F.binds fun _ _ _ _ _ _ us hl => match us, hl with | [_, _], _ => rfl⟩
  have c_l_wide : ∀ {base : Heap}, Cal P w K mg base 2 "_law_wide" ["_law_pot_here"] (P_l_wide K mg) := fun {base} => by
    obtain ⟨oc, od, osl, kV, doc, pm, an, cdv, ct, l, cc⟩ := c.def_ 7 (d := dD 10 "_law_wide") rfl
    have F : Fun K "_law_wide" "_law_wide" sS_l_wide _ _ := fun_mk l cc (He.keep_ok (c.fact 15 rfl))
    exact ⟨_, _, ok_l_wide F B c_l_take, He.glo_ok X G (c.fact 14 rfl), F.kp, F.binds fun _ _ _ _ _ _ us hl => match us, hl with | [_], _ => rfl⟩
  have c_l_number : ∀ {base : Heap}, Cal P w K mg base 3 "_law_number" ["_law_pot_here"] (P_l_number K mg) := fun {base} => by
    obtain ⟨oc, od, osl, kV, doc, pm, an, cdv, ct, l, cc⟩ := c.def_ 8 (d := dD 11 "_law_number") rfl
    have F : Fun K "_law_number" "_law_number" sS_l_number _ _ := fun_mk l cc (He.keep_ok (c.fact 17 rfl))
    exact ⟨_, _, ok_l_number F B c_l_take c_l_wide, He.glo_ok X G (c.fact 16 rfl), F.kp, F.binds fun _ _ _ _ _ _ us hl => match us, hl with | [_], _ => rfl⟩
  have c_l_across : ∀ {base : Heap}, Cal P w K mg base 1 "_law_across" ["_law_one", "_law_two", "_law_three"] (P_l_across K mg) := fun {base} => by
    obtain ⟨oc, od, osl, kV, doc, pm, an, cdv, ct, l, cc⟩ := c.def_ 9 (d := dD 12 "_law_across") rfl
    have F : Fun K "_law_across" "_law_across" sS_l_across _ _ := fun_mk l cc (He.keep_ok (c.fact 19 rfl))
    exact ⟨_, _, ok_l_across F B, He.glo_ok X G (c.fact 18 rfl), F.kp, F.binds fun _ _ _ _ _ _ us hl => match us, hl with | [_, _, _], _ => rfl⟩
  have c_l_chain : ∀ {base : Heap}, Cal P w K mg base 2 "_law_chain" ["_law_points"] (P_l_chain K mg) := fun {base} => by
    obtain ⟨oc, od, osl, kV, doc, pm, an, cdv, ct, l, cc⟩ := c.def_ 10 (d := dD 13 "_law_chain") rfl
    have F : Fun K "_law_chain" "_law_chain" sS_l_chain _ _ := fun_mk l cc (He.keep_ok (c.fact 21 rfl))
    exact ⟨_, _, ok_l_chain F B c_l_across, He.glo_ok X G (c.fact 20 rfl), F.kp, F.binds fun _ _ _ _ _ _ us hl => match us, hl with | [_], _ => rfl⟩
  have c_l_outer : ∀ {base : Heap}, Cal P w K mg base 3 "_law_outer" ["_law_some"] (P_l_outer K mg) := fun {base} => by
    obtain ⟨oc, od, osl, kV, doc, pm, an, cdv, ct, l, cc⟩ := c.def_ 11 (d := dD 14 "_law_outer") rfl
    have F : Fun K "_law_outer" "_law_outer" sS_l_outer _ _ := fun_mk l cc (He.keep_ok (c.fact 23 rfl))
    exact ⟨_, _, ok_l_outer F B c_l_chain, He.glo_ok X G (c.fact 22 rfl), F.kp, F.binds fun _ _ _ _ _ _ us hl => match us, hl with | [_], _ => rfl⟩
  have c_l_mark : ∀ {base : Heap}, Cal P w K mg base 3 "_law_mark" ["_law_pot_here", "_law_are_great"] (P_l_mark K mg) := fun {base} => by
    obtain ⟨oc, od, osl, kV, doc, pm, an, cdv, ct, l, cc⟩ := c.def_ 12 (d := dD 15 "_law_mark") rfl
    have F : Fun K "_law_mark" "_law_mark" sS_l_mark _ _ := fun_mk l cc (He.keep_ok (c.fact 25 rfl))
    exact ⟨_, _, ok_l_mark F B c_l_wide c_l_take, He.glo_ok X G (c.fact 24 rfl), F.kp, F.binds fun _ _ _ _ _ _ us hl => match us, hl with | [_, _], _ => rfl⟩
  have c_l_cake : ∀ {base : Heap}, Cal P w K mg base 4 "_law_cake" ["_law_pot_here"] (P_l_cake K mg) := fun {base} => by
    obtain ⟨oc, od, osl, kV, doc, pm, an, cdv, ct, l, cc⟩ := c.def_ 13 (d := dD 16 "_law_cake") rfl
    have F : Fun K "_law_cake" "_law_cake" sS_l_cake _ _ := fun_mk l cc (He.keep_ok (c.fact 27 rfl))
    exact ⟨_, _, ok_l_cake F B c_l_outer c_l_take c_l_mark, He.glo_ok X G (c.fact 26 rfl), F.kp, F.binds fun _ _ _ _ _ _ us hl => match us, hl with | [_], _ => rfl⟩
  have c_l_is_cake : ∀ {base : Heap}, Cal P w K mg base 2 "_law_is_cake" ["_law_some"] (P_l_is_cake K mg) := fun {base} => by
    obtain ⟨oc, od, osl, kV, doc, pm, an, cdv, ct, l, cc⟩ := c.def_ 14 (d := dD 17 "_law_is_cake") rfl
    have F : Fun K "_law_is_cake" "_law_is_cake" sS_l_is_cake _ _ := fun_mk l cc (He.keep_ok (c.fact 29 rfl))
    exact ⟨_, _, ok_l_is_cake F B c_l_across, He.glo_ok X G (c.fact 28 rfl), F.kp, F.binds fun _ _ _ _ _ _ us hl => match us, hl with | [_], _ => rfl⟩
  have c_l_others : ∀ {base : Heap}, Cal P w K mg base 4 "_law_others" ["_law_pot_here", "_law_cake_here"] (P_l_others K mg) := fun {base} => by
    obtain ⟨oc, od, osl, kV, doc, pm, an, cdv, ct, l, cc⟩ := c.def_ 15 (d := dD 18 "_law_others") rfl
    have F : Fun K "_law_others" "_law_others" sS_l_others _ _ := fun_mk l cc (He.keep_ok (c.fact 31 rfl))
    exact ⟨_, _, ok_l_others F B c_l_take c_l_number, He.glo_ok X G (c.fact 30 rfl), F.kp, F.binds fun _ _ _ _ _ _ us hl => match us, hl with | [_, _], _ => rfl⟩
  have c_l_are_points : ∀ {base : Heap}, Cal P w K mg base 1 "_law_are_points" ["_law_some"] (P_l_are_points K mg) := fun {base} => by
    obtain ⟨oc, od, osl, kV, doc, pm, an, cdv, ct, l, cc⟩ := c.def_ 16 (d := dD 19 "_law_are_points") rfl
    have F : Fun K "_law_are_points" "_law_are_points" sS_l_are_points _ _ := fun_mk l cc (He.keep_ok (c.fact 33 rfl))
    exact ⟨_, _, ok_l_are_points F B, He.glo_ok X G (c.fact 32 rfl), F.kp, F.binds fun _ _ _ _ _ _ us hl => match us, hl with | [_], _ => rfl⟩
  have c_l_right : ∀ {base : Heap}, Cal P w K mg base 5 "_law_right" ["_law_pot_here"] (P_l_right K mg) := fun {base} => by
    obtain ⟨oc, od, osl, kV, doc, pm, an, cdv, ct, l, cc⟩ := c.def_ 17 (d := dD 20 "_law_right") rfl
    have F : Fun K "_law_right" "_law_right" sS_l_right _ _ := fun_mk l cc (He.keep_ok (c.fact 35 rfl))
    exact ⟨_, _, ok_l_right F B c_l_cake c_l_take c_l_others c_area c_l_are_points c_is_cake c_l_across c_l_is_cake, He.glo_ok X G (c.fact 34 rfl), F.kp, F.binds fun _ _ _ _ _ _ us hl => match us, hl with | [_], _ => rfl⟩
  obtain ⟨oc, od, osl, kV, doc, pm, an, cdv, ct, l, cc⟩ := c.def_ 18 (d := dD 21 "law") rfl
  have F : Fun K "law" "law" sS_law _ _ := fun_mk l cc (He.keep_ok (c.fact 37 rfl))
  have e := hfa.symm.trans (He.glo_ok X G (c.fact 36 rfl))
  cases e
  exact ⟨_, fun s v => .of_eq rfl, fun base _ _ => ok_law F B c_l_right c_l_pot⟩
end HL
open PySem PySem.W PySem.Calls PyProof.Rows
set_option maxHeartbeats 0 in
theorem PySem.Challenge.cw_halveline_k71_cakes_and_areas_holds : PySem.Challenge.rw_halveline_k71_cakes_and_areas.Holds := by
  w_on; o_law
  refine HandSHeadRun.head_any (r := OpenLaw.row PySem.Challenge.rw_halveline_k71_cakes_and_areas) (q := view (OpenLaw.row PySem.Challenge.rw_halveline_k71_cakes_and_areas).prog [21]) (H := HL.hk) (ob := HL.ob) (M := 4000) (loose := HL.hLo) (d := HandSHeadRun.topDef (OpenLaw.row PySem.Challenge.rw_halveline_k71_cakes_and_areas).prog 21) (kwd := []) HL.ob_eq
    (by kernel_rfl) (fun s => by kernel_rfl) HL.run (by kernel_rfl) (by kernel_rfl) (by kernel_rfl) (by rfl) (by first | assumption | decide +kernel) (by decide +kernel) ⟨rfl, rfl, rfl, rfl, rfl, by decide +kernel⟩ ?hw ?hc
  case hw => w_witness2
  case hc =>
    refine L2.walk_ofE (l := PySem.Challenge.rw_halveline_k71_cakes_and_areas) (n := 63) (k := 6) (x := "_law_script") (CX := HL.CXw (PySem.Challenge.rw_halveline_k71_cakes_and_areas).prog) rfl (by decide) (by kernel_rfl) ⟨rfl, by decide, by decide⟩ ?F (fun H s e s' z => HL.no_exc z)
    intro w mg fa h Y G hmg0
    obtain ⟨K, KX, c⟩ := Y
    have hmg : mg ("law" : PySem.Str) = some (.ref fa) := by
      have e : (HandSHeadRun.topDef (OpenLaw.row PySem.Challenge.rw_halveline_k71_cakes_and_areas).prog 21).name = ("law" : PySem.Str) := by kernel_rfl
      rw [← e]
      exact hmg0
    obtain ⟨fd, hb, hF⟩ := HL.facts (P := (PySem.Challenge.rw_halveline_k71_cakes_and_areas).prog) (w := w) KX G hmg c
    exact ⟨K, fd, HL.P_law K mg, KX, hb, fun H a ns hl _ hS => HL.law_says (fun _ => rfl) (HL.law_true ns hl) hS, fun base h1 h2 => HL.cxw (hF base h1 h2)⟩
