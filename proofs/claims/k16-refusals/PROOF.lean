import PyProof.Rows.All
import Wide.All
import OpenK.AllK
import Wide.FinOn
import HandS.ForMost
import HandS.ForExc
import HandS.CallSlots
import HandS.Wide
import HandS.HeadHook1
import HandS.ExcValue
import HandS.IsInst
import HandS.SetFor
import HandS.Conv
import HandS.SortInts
import HandS.Iter
import HandS.Zip
import HandS.Style
import HandS.Deep
import HandS.TupSets
import HandS.ExcIs
import HandS.SortKw
import KE.DataMinMax
import HandS.HotCalls
import HandS.RaiseMore
import KE.KStateDown
import Lean
import HandS.Head0
import HandS.Head1
import HandS.Head2
import HandS.HeadEnd
import PySem.Challenge.RW_halveline_k16_refusals_made
set_option Elab.async false
set_option linter.all false
set_option maxRecDepth 100000
/-! Fa: a state of plain data over the hand layer's heap: what stands in the slots, what a def owns, what is shared. -/
namespace HL
open PySem PySem.Spec PyProof.Rows L2

abbrev D := PyData

/-! ### a heap with some places left out -/
open Classical in
noncomputable def hide (S : Addr → Prop) (H : Hp) : Hp := fun a => if S a then none else H a
theorem hide_some {S : Addr → Prop} {H : Hp} {a : Addr} {o : HO} : hide S H a = some o ↔ ¬ S a ∧ H a = some o := by
  unfold hide
  by_cases h : S a
  · simp [h]
  · simp [h]
theorem hide_mk {S : Addr → Prop} {H : Hp} {a : Addr} {o : HO} (n : ¬ S a) (h : H a = some o) : hide S H a = some o := hide_some.mpr ⟨n, h⟩
theorem hide_same {S S' : Addr → Prop} {H H' : Hp} (h : ∀ a o, ¬ S a → H a = some o → ¬ S' a ∧ H' a = some o) : Same (hide S H) (hide S' H') := fun a o e => by
  obtain ⟨n, e⟩ := hide_some.mp e
  exact hide_some.mpr (h a o n e)
theorem hide_le {S : Addr → Prop} {H : Hp} : Same (hide S H) H := fun a o e => (hide_some.mp e).2

/-! ### data at a place -/
/-- a tuple of numbers; a dict of such, each to True -/
def dI (ns : List Int) : D := .tuple (ns.map .int)
def dkD (ks : List (List Int)) : D := .dict (ks.map fun k => (dI k, .bool true))
/-- an exception of the class x, not raised -/
def exD (x : Str) : D := .dict [(.str x, .none)]
def dkV (ks : List (List Int)) : List (List L2.Key × V) := ks.map fun k => (k.map Sum.inl, V.bl true)
mutual
inductive Rp (K : PySem.W.Frag) (H : Hp) : V → D → Prop
  | non : Rp K H .non .none
  | bl (b : Bool) : Rp K H (.bl b) (.bool b)
  | int (i : Int) : Rp K H (.int i) (.int i)
  | str (x : Str) : Rp K H (.str x) (.str x)
  | lst {a : Addr} {xs : List V} {ds : List D} : H a = some (.lst xs) → RpA K H xs ds → Rp K H (.ref a) (.list ds)
  | tup {a : Addr} {xs : List V} {ds : List D} : H a = some (.tup xs) → RpA K H xs ds → Rp K H (.ref a) (.tuple ds)
  | dic {a : Addr} {ks : List (List Int)} : H a = some (.dT (dkV ks)) → Rp K H (.ref a) (dkD ks)
  | exo {a : Addr} {x : Str} : H a = some (ExO (.ref (He.ga K x)) a) → Rp K H (.ref a) (exD x)
inductive RpA (K : PySem.W.Frag) (H : Hp) : List V → List D → Prop
  | nil : RpA K H [] []
  | cons {v : V} {vs : List V} {d : D} {ds : List D} : Rp K H v d → RpA K H vs ds → RpA K H (v :: vs) (d :: ds)
end
section
variable {K : PySem.W.Frag} {H H' : Hp}
theorem sqT_same (e : Same H H') {a : Addr} {xs : List V} (h : SqT K H a xs) : SqT K H' a xs := by
  rcases h with h | h
  · rcases h with h | ⟨o, h⟩
    · exact .inl (.inl (e _ _ h))
    · exact .inl (.inr ⟨o, e _ _ h⟩)
  · exact .inr h
mutual
theorem Rp.mono (e : Same H H') : ∀ {v : V} (d : D), Rp K H v d → Rp K H' v d
  | _, .none, h => by cases h; exact .non
  | _, .bool _, h => by cases h; exact .bl _
  | _, .int _, h => by cases h; exact .int _
  | _, .str _, h => by cases h; exact .str _
  | _, .list ds, h => by
    cases h with
    | lst h1 h2 => exact .lst (e _ _ h1) (RpA.mono e ds h2)
  | _, .tuple ds, h => by
    cases h with
    | tup h1 h2 => exact .tup (e _ _ h1) (RpA.mono e ds h2)
  | _, .dict _, h => by
    cases h with
    | dic h1 => exact .dic (e _ _ h1)
    | exo h1 => exact .exo (e _ _ h1)
theorem RpA.mono (e : Same H H') : ∀ {vs : List V} (ds : List D), RpA K H vs ds → RpA K H' vs ds
  | _, [], h => by cases h; exact .nil
  | _, d :: ds, h => by
    cases h with
    | cons h1 h2 => exact .cons (Rp.mono e d h1) (RpA.mono e ds h2)
end
mutual
theorem Rp.dp : ∀ {v : V} (d : D), Rp K H v d → PyData.canLay0 d = true → Dp K H v d
  | _, .none, h, _ => by cases h; exact .non
  | _, .bool _, h, _ => by cases h; exact .bl _
  | _, .int _, h, _ => by cases h; exact .int _
  | _, .str _, h, _ => by cases h; exact .str _
  | _, .list ds, h, c => by
    cases h with
    | lst h1 h2 => exact .lst (.inl (.inl h1)) (RpA.dp ds h2 (by simpa [PyData.canLay0] using c))
  | _, .tuple ds, h, c => by
    cases h with
    | tup h1 h2 => exact .tup (.inl (.inl h1)) (RpA.dp ds h2 (by simpa [PyData.canLay0] using c))
  | _, .dict _, h, c => by simp [PyData.canLay0] at c
theorem RpA.dp : ∀ {vs : List V} (ds : List D), RpA K H vs ds → PyData.canLayAll0 ds = true → DpAll K H vs ds
  | _, [], h, _ => by cases h; exact .nil
  | _, d :: ds, h, c => by
    have c' : PyData.canLay0 d = true ∧ PyData.canLayAll0 ds = true := by simpa [PyData.canLayAll0] using c
    cases h with
    | cons h1 h2 => exact .cons (Rp.dp d h1 c'.1) (RpA.dp ds h2 c'.2)
end
-- data without lists
mutual
def flatD : D → Bool
  | .none => true
  | .bool _ => true
  | .int _ => true
  | .str _ => true
  | .list _ => false
  | .tuple ds => flatA ds
  | .dict _ => false
def flatA : List D → Bool
  | [] => true
  | d :: ds => flatD d && flatA ds
end
mutual
theorem Rp.flat (e : ∀ a xs, H a = some (.tup xs) → H' a = some (.tup xs)) : ∀ {v : V} (d : D), flatD d = true → Rp K H v d → Rp K H' v d
  | _, .none, _, h => by cases h; exact .non
  | _, .bool _, _, h => by cases h; exact .bl _
  | _, .int _, _, h => by cases h; exact .int _
  | _, .str _, _, h => by cases h; exact .str _
  | _, .list ds, f, h => by cases f
  | _, .tuple ds, f, h => by
    cases h with
    | tup h1 h2 => exact .tup (e _ _ h1) (RpA.flat e ds f h2)
  | _, .dict _, f, h => by cases f
theorem RpA.flat (e : ∀ a xs, H a = some (.tup xs) → H' a = some (.tup xs)) : ∀ {vs : List V} (ds : List D), flatA ds = true → RpA K H vs ds → RpA K H' vs ds
  | _, [], _, h => by cases h; exact .nil
  | _, d :: ds, f, h => by
    have f' : flatD d = true ∧ flatA ds = true := by simpa [flatA] using f
    cases h with
    | cons h1 h2 => exact .cons (Rp.flat e d f'.1 h1) (RpA.flat e ds f'.2 h2)
end
theorem RpA.length : ∀ {vs : List V} {ds : List D}, RpA K H vs ds → vs.length = ds.length
  | _, [], h => by cases h; rfl
  | _, d :: ds, h => by
    cases h with
    | cons h1 h2 => simp [RpA.length h2]
theorem RpA.get : ∀ {vs : List V} {ds : List D} {i : Nat} {d : D}, RpA K H vs ds → ds[i]? = some d → ∃ v, vs[i]? = some v ∧ Rp K H v d
  | _, [], _, _, h, e => by simp at e
  | _, d :: ds, 0, x, h, e => by
    cases h with
    | cons h1 h2 =>
      simp at e
      subst e
      exact ⟨_, rfl, h1⟩
  | _, d :: ds, i + 1, x, h, e => by
    cases h with
    | cons h1 h2 =>
      obtain ⟨v, e1, e2⟩ := RpA.get (i := i) h2 (by simpa using e)
      exact ⟨v, by simpa using e1, e2⟩
theorem RpA.get' : ∀ {vs : List V} {ds : List D} {i : Nat} {v : V}, RpA K H vs ds → vs[i]? = some v → ∃ d, ds[i]? = some d ∧ Rp K H v d
  | _, [], _, _, h, e => by cases h; simp at e
  | _, d :: ds, 0, x, h, e => by
    cases h with
    | cons h1 h2 =>
      simp at e
      subst e
      exact ⟨_, rfl, h1⟩
  | _, d :: ds, i + 1, x, h, e => by
    cases h with
    | cons h1 h2 =>
      obtain ⟨v, e1, e2⟩ := RpA.get' (i := i) h2 (by simpa using e)
      exact ⟨v, by simpa using e1, e2⟩
theorem RpA.append : ∀ {vs ws : List V} {ds es : List D}, RpA K H vs ds → RpA K H ws es → RpA K H (vs ++ ws) (ds ++ es)
  | _, _, [], _, h, k => by cases h; exact k
  | _, _, d :: ds, _, h, k => by
    cases h with
    | cons h1 h2 => exact .cons h1 (RpA.append h2 k)
theorem RpA.set : ∀ {vs : List V} {ds : List D} {v : V} {d : D} (i : Nat), RpA K H vs ds → Rp K H v d → RpA K H (vs.set i v) (ds.set i d)
  | _, [], _, _, _, h, _ => by cases h; exact .nil
  | _, d :: ds, _, _, 0, h, k => by
    cases h with
    | cons h1 h2 => exact .cons k h2
  | _, d :: ds, _, _, i + 1, h, k => by
    cases h with
    | cons h1 h2 => exact .cons h1 (RpA.set i h2 k)
theorem RpA.take : ∀ {vs : List V} {ds : List D} (n : Nat), RpA K H vs ds → RpA K H (vs.take n) (ds.take n)
  | _, [], _, h => by cases h; simpa using RpA.nil
  | _, d :: ds, 0, h => by simpa using RpA.nil
  | _, d :: ds, n + 1, h => by
    cases h with
    | cons h1 h2 => exact .cons h1 (RpA.take n h2)
theorem RpA.drop : ∀ {vs : List V} {ds : List D} (n : Nat), RpA K H vs ds → RpA K H (vs.drop n) (ds.drop n)
  | _, [], _, h => by cases h; simpa using RpA.nil
  | _, d :: ds, 0, h => h
  | _, d :: ds, n + 1, h => by
    cases h with
    | cons h1 h2 => exact RpA.drop n h2
theorem RpA.reverse : ∀ {vs : List V} {ds : List D}, RpA K H vs ds → RpA K H vs.reverse ds.reverse
  | _, [], h => by cases h; exact .nil
  | _, d :: ds, h => by
    cases h with
    | cons h1 h2 =>
      rw [List.reverse_cons, List.reverse_cons]
      exact RpA.append (RpA.reverse h2) (.cons h1 .nil)
theorem rpA_ints : ∀ {vs : List V} {ns : List Int}, RpA K H vs (ns.map PyData.int) → vs = ns.map V.int
  | _, [], h => by cases h; rfl
  | _, n :: ns, h => by
    cases h with
    | cons h1 h2 =>
      cases h1
      rw [rpA_ints h2]
      rfl
theorem rpA_bools : ∀ {vs : List V} {ns : List Bool}, RpA K H vs (ns.map PyData.bool) → vs = ns.map V.bl
  | _, [], h => by cases h; rfl
  | _, n :: ns, h => by
    cases h with
    | cons h1 h2 =>
      cases h1
      rw [rpA_bools h2]
      rfl
theorem rpA_strs : ∀ {vs : List V} {ns : List Str}, RpA K H vs (ns.map PyData.str) → vs = ns.map V.str
  | _, [], h => by cases h; rfl
  | _, n :: ns, h => by
    cases h with
    | cons h1 h2 =>
      cases h1
      rw [rpA_strs h2]
      rfl
end

/-! ### Lean's types as data -/
class Enc (α : Type) where
  enc : α → D
abbrev enc {α : Type} [Enc α] (a : α) : D := Enc.enc a
instance : Enc Int := ⟨.int⟩
instance : Enc Bool := ⟨.bool⟩
instance : Enc Str := ⟨.str⟩
instance : Enc Unit := ⟨fun _ => .none⟩
instance : Enc D := ⟨id⟩
instance {α : Type} [Enc α] : Enc (List α) := ⟨fun l => .list (l.map enc)⟩
instance {α β : Type} [Enc α] [Enc β] : Enc (α × β) := ⟨fun p => .tuple [enc p.1, enc p.2]⟩
instance {α : Type} [Enc α] : Enc (Option α) := ⟨fun o => match o with | none => .none | some a => enc a⟩
structure T3 (α β γ : Type) where
  a : α
  b : β
  c : γ
  deriving DecidableEq, Inhabited
structure T4 (α β γ δ : Type) where
  a : α
  b : β
  c : γ
  d : δ
  deriving DecidableEq, Inhabited
structure T5 (α β γ δ ε : Type) where
  a : α
  b : β
  c : γ
  d : δ
  e : ε
  deriving DecidableEq, Inhabited
instance {α β γ : Type} [Enc α] [Enc β] [Enc γ] : Enc (T3 α β γ) := ⟨fun p => .tuple [enc p.a, enc p.b, enc p.c]⟩
instance {α β γ δ : Type} [Enc α] [Enc β] [Enc γ] [Enc δ] : Enc (T4 α β γ δ) := ⟨fun p => .tuple [enc p.a, enc p.b, enc p.c, enc p.d]⟩
instance {α β γ δ ε : Type} [Enc α] [Enc β] [Enc γ] [Enc δ] [Enc ε] : Enc (T5 α β γ δ ε) := ⟨fun p => .tuple [enc p.a, enc p.b, enc p.c, enc p.d, enc p.e]⟩
/-- types whose data hold no list -/
class Flat (α : Type) [Enc α] : Prop where
  flat : ∀ a : α, flatD (enc a) = true
instance : Flat Int := ⟨fun _ => rfl⟩
instance : Flat Bool := ⟨fun _ => rfl⟩
instance : Flat Str := ⟨fun _ => rfl⟩
instance : Flat Unit := ⟨fun _ => rfl⟩
instance {α β : Type} [Enc α] [Enc β] [Flat α] [Flat β] : Flat (α × β) := ⟨fun p => by
  show (flatD (enc p.1) && (flatD (enc p.2) && true)) = true
  rw [Flat.flat, Flat.flat]
  rfl⟩
instance {α β γ : Type} [Enc α] [Enc β] [Enc γ] [Flat α] [Flat β] [Flat γ] : Flat (T3 α β γ) := ⟨fun p => by
  show (flatD (enc p.a) && (flatD (enc p.b) && (flatD (enc p.c) && true))) = true
  rw [Flat.flat, Flat.flat, Flat.flat]
  rfl⟩
instance {α β γ δ : Type} [Enc α] [Enc β] [Enc γ] [Enc δ] [Flat α] [Flat β] [Flat γ] [Flat δ] : Flat (T4 α β γ δ) := ⟨fun p => by
  show (flatD (enc p.a) && (flatD (enc p.b) && (flatD (enc p.c) && (flatD (enc p.d) && true)))) = true
  rw [Flat.flat, Flat.flat, Flat.flat, Flat.flat]
  rfl⟩
instance {α β γ δ ε : Type} [Enc α] [Enc β] [Enc γ] [Enc δ] [Enc ε] [Flat α] [Flat β] [Flat γ] [Flat δ] [Flat ε] : Flat (T5 α β γ δ ε) := ⟨fun p => by
  show (flatD (enc p.a) && (flatD (enc p.b) && (flatD (enc p.c) && (flatD (enc p.d) && (flatD (enc p.e) && true))))) = true
  rw [Flat.flat, Flat.flat, Flat.flat, Flat.flat, Flat.flat]
  rfl⟩
instance {α : Type} [Enc α] [Flat α] : Flat (Option α) := ⟨fun o => by
  cases o with
  | none => rfl
  | some a => exact Flat.flat a⟩
theorem flatA_map {α : Type} [Enc α] [Flat α] : ∀ l : List α, flatA (l.map enc) = true
  | [] => rfl
  | a :: l => by
    show (flatD (enc a) && flatA (l.map enc)) = true
    rw [Flat.flat, flatA_map l]
    rfl

/-! ### trees of one's own -/
/-- a tree of one's own: lists, objects, dicts (and tuples amid them) that nobody else has, with data at their leaves -/
inductive Tr where
  | d (x : D)
  | ls (ts : List Tr)
  | tp (ts : List Tr)
  | ob (c : Str) (ns : List Str) (ts : List Tr)
  | dk (ks : List L2.Key) (ts : List Tr)
mutual
inductive TrOk (K : PySem.W.Frag) (F H : Hp) : List Addr → V → Tr → Prop
  | d {v : V} {x : D} : Rp K F v x → TrOk K F H [] v (.d x)
  | ls {a : Addr} {vs : List V} {T : List Addr} {ts : List Tr} : H a = some (.lst vs) → TrA K F H T vs ts → TrOk K F H (a :: T) (.ref a) (.ls ts)
  | tp {a : Addr} {vs : List V} {T : List Addr} {ts : List Tr} : H a = some (.tup vs) → TrA K F H T vs ts → TrOk K F H T (.ref a) (.tp ts)
  | ob {a dx : Addr} {c : Str} {ns : List Str} {vs : List V} {T : List Addr} {ts : List Tr} : H a = some (.ins (He.ga K c) dx (ns.zip vs)) → ns.length = vs.length → TrA K F H T vs ts → TrOk K F H (a :: T) (.ref a) (.ob c ns ts)
  | dk {a : Addr} {ks : List L2.Key} {vs : List V} {T : List Addr} {ts : List Tr} : H a = some (.dK (ks.zip vs)) → ks.length = vs.length → TrA K F H T vs ts → TrOk K F H (a :: T) (.ref a) (.dk ks ts)
inductive TrA (K : PySem.W.Frag) (F H : Hp) : List Addr → List V → List Tr → Prop
  | nil : TrA K F H [] [] []
  | cons {T1 T2 : List Addr} {v : V} {vs : List V} {t : Tr} {ts : List Tr} : TrOk K F H T1 v t → TrA K F H T2 vs ts → TrA K F H (T1 ++ T2) (v :: vs) (t :: ts)
end
section
variable {K : PySem.W.Frag} {F F' H H' : Hp}
mutual
theorem TrOk.mono (e : Same F F') (ht : ∀ a xs, H a = some (.tup xs) → H' a = some (.tup xs)) : ∀ {T : List Addr} {v : V} (t : Tr), (∀ a ∈ T, H' a = H a) → TrOk K F H T v t → TrOk K F' H' T v t
  | _, _, .d _, _, h => by
    cases h with
    | d h1 => exact .d (h1.mono e)
  | _, _, .ls ts, hh, h => by
    cases h with
    | ls h1 h2 => exact .ls (by rw [hh _ List.mem_cons_self]; exact h1) (TrA.mono e ht ts (fun a ha => hh a (List.mem_cons_of_mem _ ha)) h2)
  | _, _, .tp ts, hh, h => by
    cases h with
    | tp h1 h2 => exact .tp (ht _ _ h1) (TrA.mono e ht ts hh h2)
  | _, _, .ob _ _ ts, hh, h => by
    cases h with
    | ob h1 h3 h2 => exact .ob (by rw [hh _ List.mem_cons_self]; exact h1) h3 (TrA.mono e ht ts (fun a ha => hh a (List.mem_cons_of_mem _ ha)) h2)
  | _, _, .dk _ ts, hh, h => by
    cases h with
    | dk h1 h3 h2 => exact .dk (by rw [hh _ List.mem_cons_self]; exact h1) h3 (TrA.mono e ht ts (fun a ha => hh a (List.mem_cons_of_mem _ ha)) h2)
theorem TrA.mono (e : Same F F') (ht : ∀ a xs, H a = some (.tup xs) → H' a = some (.tup xs)) : ∀ {T : List Addr} {vs : List V} (ts : List Tr), (∀ a ∈ T, H' a = H a) → TrA K F H T vs ts → TrA K F' H' T vs ts
  | _, _, [], _, h => by cases h; exact .nil
  | _, _, t :: ts, hh, h => by
    cases h with
    | cons h1 h2 => exact .cons (TrOk.mono e ht t (fun a ha => hh a (List.mem_append_left _ ha)) h1) (TrA.mono e ht ts (fun a ha => hh a (List.mem_append_right _ ha)) h2)
end
mutual
theorem TrOk.is : ∀ {T : List Addr} {v : V} (t : Tr), TrOk K F H T v t → ∀ a ∈ T, ∃ u, H a = some u ∧ Mut (some u)
  | _, _, .d _, h, a, ha => by cases h; cases ha
  | _, _, .ls ts, h, a, ha => by
    cases h with
    | ls h1 h2 =>
      rcases List.mem_cons.mp ha with rfl | ha
      · exact ⟨_, h1, trivial⟩
      · exact TrA.is ts h2 a ha
  | _, _, .tp ts, h, a, ha => by
    cases h with
    | tp h1 h2 => exact TrA.is ts h2 a ha
  | _, _, .ob _ _ ts, h, a, ha => by
    cases h with
    | ob h1 h3 h2 =>
      rcases List.mem_cons.mp ha with rfl | ha
      · exact ⟨_, h1, trivial⟩
      · exact TrA.is ts h2 a ha
  | _, _, .dk _ ts, h, a, ha => by
    cases h with
    | dk h1 h3 h2 =>
      rcases List.mem_cons.mp ha with rfl | ha
      · exact ⟨_, h1, trivial⟩
      · exact TrA.is ts h2 a ha
theorem TrA.is : ∀ {T : List Addr} {vs : List V} (ts : List Tr), TrA K F H T vs ts → ∀ a ∈ T, ∃ u, H a = some u ∧ Mut (some u)
  | _, _, [], h, a, ha => by cases h; cases ha
  | _, _, t :: ts, h, a, ha => by
    cases h with
    | cons h1 h2 =>
      rcases List.mem_append.mp ha with ha | ha
      · exact TrOk.is t h1 a ha
      · exact TrA.is ts h2 a ha
end
end
/-- the places of what is one's own: of a list, object; of a tree, and its value -/
structure AT where
  root : Nat → Addr
  ext : Nat → List Addr
  rv : Nat → V
instance : CoeFun AT fun _ => Nat → Addr := ⟨AT.root⟩
instance : Coe AT (Nat → Addr) := ⟨AT.root⟩
def AT.put (A : AT) (i : Nat) (q : Addr) : AT := ⟨fun k => if k = i then q else A.root k, A.ext, A.rv⟩
theorem put_at {A : AT} {i k : Nat} {q : Addr} : (A.put i q).root k = if k = i then q else A.root k := rfl
/-! ### the slots and the state -/
/-- several lists of one's own under one name: a list of them; another name of one -/
inductive Pk where
  | lst (js : List Nat)
  | ali (j : Nat)
  | at (a : Addr) (js : List Nat)
def Pk.js : Pk → List Nat
  | .lst js => js
  | .ali j => [j]
  | .at _ js => js
/-- a field of an object: data; the thing of one's own in a slot -/
inductive Fv where
  | d (x : D)
  | at (k : Nat)
/-- what is one's own: a list; a dict of tuples of numbers, each to True; a list of data of any age; an object of a class -/
inductive Ob where
  | ls (ds : List D)
  | dk (ks : List (List Int))
  | la (ds : List D)
  | ob (c : Str) (fs : List (Str × Fv))
  | tr (t : Tr)
instance : Coe (List D) Ob := ⟨.ls⟩
def FdOk (K : PySem.W.Frag) (A : Nat → Addr) (F : Hp) : List (Str × V) → List (Str × Fv) → Prop
  | [], [] => True
  | (n, v) :: ws, (m, .d x) :: fs => (n = m ∧ Rp K F v x) ∧ FdOk K A F ws fs
  | (n, v) :: ws, (m, .at k) :: fs => (n = m ∧ v = .ref (A k)) ∧ FdOk K A F ws fs
  | _, _ => False
def OwnOk (K : PySem.W.Frag) (A : Nat → Addr) (G F : Hp) (o : Option HO) : Ob → Prop
  | .ls ds => ∃ vs, o = some (.lst vs) ∧ RpA K G vs ds
  | .dk ks => o = some (.dT (dkV ks))
  | .la ds => ∃ vs, o = some (.lst vs) ∧ RpA K F vs ds
  | .ob c fs => ∃ dx ws, o = some (.ins (He.ga K c) dx ws) ∧ FdOk K A F ws fs
  | .tr _ => False
/-- may be given up to all, as data -/
def Ob.gv : Ob → Bool
  | .ls _ => true
  | .dk _ => true
  | _ => false
def Ob.d : Ob → D
  | .ls ds => .list ds
  | .dk ks => dkD ks
  | _ => .none
def atsF : List (Str × Fv) → List Nat
  | [] => []
  | (_, .d _) :: fs => atsF fs
  | (_, .at k) :: fs => k :: atsF fs
def Ob.ats : Ob → List Nat
  | .ob _ fs => atsF fs
  | _ => []
section
variable {K : PySem.W.Frag} {A A' : Nat → Addr} {F F' G G' H H' : Hp} {o : Option HO} {a : Addr}
theorem FdOk.mono (e : Same F F') : ∀ {ws : List (Str × V)} {fs : List (Str × Fv)}, FdOk K A F ws fs → FdOk K A F' ws fs
  | [], [], _ => trivial
  | (n, v) :: ws, (m, .d x) :: fs, h => ⟨⟨h.1.1, h.1.2.mono e⟩, FdOk.mono e h.2⟩
  | (n, v) :: ws, (m, .at k) :: fs, h => ⟨h.1, FdOk.mono e h.2⟩
  | [], _ :: _, h => by cases h
  | _ :: _, [], h => by cases h
theorem FdOk.chA : ∀ {ws : List (Str × V)} {fs : List (Str × Fv)}, (∀ k ∈ atsF fs, A' k = A k) → FdOk K A F ws fs → FdOk K A' F ws fs
  | [], [], _, _ => trivial
  | (n, v) :: ws, (m, .d x) :: fs, e, h => ⟨h.1, FdOk.chA (fs := fs) e h.2⟩
  | (n, v) :: ws, (m, .at k) :: fs, e, h => ⟨⟨h.1.1, by rw [e k List.mem_cons_self]; exact h.1.2⟩, FdOk.chA (fs := fs) (fun k z => e k (List.mem_cons_of_mem _ z)) h.2⟩
  | [], _ :: _, _, h => by cases h
  | _ :: _, [], _, h => by cases h
theorem OwnOk.rp : ∀ {b : Ob}, b.gv = true → OwnOk K A F F' (F a) b → Rp K F (.ref a) b.d
  | .ls ds, _, ⟨vs, h1, h2⟩ => .lst h1 h2
  | .dk _, _, h => .dic h
  | .la _, z, _ => by cases z
  | .ob _ _, z, _ => by cases z
  | .tr _, z, _ => by cases z
theorem OwnOk.mono (g : Same G G') (e : Same F F') : ∀ {b : Ob}, OwnOk K A G F o b → OwnOk K A G' F' o b
  | .ls ds, ⟨vs, h1, h2⟩ => ⟨vs, h1, h2.mono g⟩
  | .dk _, h => h
  | .la ds, ⟨vs, h1, h2⟩ => ⟨vs, h1, h2.mono e⟩
  | .ob _ _, ⟨dx, ws, h1, h2⟩ => ⟨dx, ws, h1, h2.mono e⟩
  | .tr _, h => h.elim
theorem OwnOk.same (e : Same H H') : ∀ {b : Ob}, OwnOk K A G F (H a) b → OwnOk K A G F (H' a) b
  | .ls ds, ⟨vs, h1, h2⟩ => ⟨vs, e _ _ h1, h2⟩
  | .dk _, h => e _ _ h
  | .la ds, ⟨vs, h1, h2⟩ => ⟨vs, e _ _ h1, h2⟩
  | .ob _ _, ⟨dx, ws, h1, h2⟩ => ⟨dx, ws, e _ _ h1, h2⟩
  | .tr _, h => h.elim
theorem OwnOk.is : ∀ {b : Ob}, OwnOk K A G F o b → ∃ u, o = some u ∧ Mut (some u)
  | .ls ds, ⟨vs, h1, h2⟩ => ⟨_, h1, trivial⟩
  | .dk _, h => ⟨_, h, trivial⟩
  | .la ds, ⟨vs, h1, h2⟩ => ⟨_, h1, trivial⟩
  | .ob _ _, ⟨dx, ws, h1, h2⟩ => ⟨_, h1, trivial⟩
  | .tr _, h => h.elim
theorem OwnOk.chA : ∀ {b : Ob}, (∀ k ∈ b.ats, A' k = A k) → OwnOk K A G F o b → OwnOk K A' G F o b
  | .ls ds, _, h => h
  | .dk _, _, h => h
  | .la ds, _, h => h
  | .ob _ _, e, ⟨dx, ws, h1, h2⟩ => ⟨dx, ws, h1, h2.chA e⟩
  | .tr _, _, h => h.elim
end
/-- a slot: nothing known; data that nobody changes (fr: made since the entry); a list of the def's own; the script -/
inductive Slot where
  | no
  | imm (fr : Bool) (d : D)
  | own (ds : Ob)
  | scr (ns : List Int)
  | raw (v : L2.V)
  | pk (q : Pk)
  | tree (t : Tr)
inductive SlotG (γ : Type) where
  | no
  | imm (fr : Bool) (d : γ → D)
  | own (ds : γ → Ob)
  | scr (ns : γ → List Int)
  | raw (v : L2.V)
  | pk (q : Pk)
  | tree (t : γ → Tr)
def SlotG.at {γ : Type} (g : γ) : SlotG γ → Slot
  | .no => .no
  | .imm fr d => .imm fr (d g)
  | .own ds => .own (ds g)
  | .scr ns => .scr (ns g)
  | .raw v => .raw v
  | .pk q => .pk q
  | .tree t => .tree (t g)
abbrev Ev (γ : Type) := List (SlotG γ)
def at_ {γ : Type} (V : Ev γ) (g : γ) : List Slot := V.map (SlotG.at g)
/-- a def's entry: io, tio: the places of the lists and of the trees that it was handed to change -/
structure Fix where
  K : PySem.W.Frag
  H0 : Hp
  S : Addr → Prop
  io : List (Nat × Addr)
  tio : Nat → Option (V × List Addr)
/-- no place of a tree that was handed in -/
def Fix.nt (Z : Fix) (a : Addr) : Prop := ∀ i x, Z.tio i = some x → a ∉ x.2
/-- the places of the lists of one's own, and of the trees -/
def Ow (A : AT) (r : List Slot) (a : Addr) : Prop := (∃ i ds, r[i]? = some (.own ds) ∧ A i = a) ∨ ∃ i t, r[i]? = some (.tree t) ∧ a ∈ A.ext i
def OwV {γ : Type} (A : AT) (V : Ev γ) (a : Addr) : Prop := (∃ i ds, V[i]? = some (.own ds) ∧ A i = a) ∨ ∃ i t, V[i]? = some (.tree t) ∧ a ∈ A.ext i
theorem at_get {γ : Type} {V : Ev γ} {g : γ} {i : Nat} : (at_ V g)[i]? = (V[i]?).map (SlotG.at g) := by
  unfold at_
  rw [List.getElem?_map]
theorem at_own {γ : Type} {V : Ev γ} {g : γ} {i : Nat} {ds : Ob} (h : (at_ V g)[i]? = some (.own ds)) : ∃ f, V[i]? = some (.own f) ∧ f g = ds := by
  rw [at_get] at h
  cases q : V[i]? with
  | none => rw [q] at h; cases h
  | some s =>
    rw [q] at h
    cases s with
    | own f => exact ⟨f, rfl, by cases h; rfl⟩
    | no => cases h
    | imm fr d => cases h
    | scr ns => cases h
    | raw v => cases h
    | pk q => cases h
    | tree t => cases h
theorem at_tree {γ : Type} {V : Ev γ} {g : γ} {i : Nat} {t : Tr} (h : (at_ V g)[i]? = some (.tree t)) : ∃ f, V[i]? = some (.tree f) ∧ f g = t := by
  rw [at_get] at h
  cases q : V[i]? with
  | none => rw [q] at h; cases h
  | some s =>
    rw [q] at h
    cases s with
    | tree f => exact ⟨f, rfl, by cases h; rfl⟩
    | no => cases h
    | imm fr d => cases h
    | scr ns => cases h
    | raw v => cases h
    | pk q => cases h
    | own t => cases h
theorem ow_at {γ : Type} {A : AT} {V : Ev γ} {g : γ} : Ow A (at_ V g) = OwV A V := by
  funext a
  refine propext ⟨fun h => ?_, fun h => ?_⟩
  · rcases h with ⟨i, ds, h, e⟩ | ⟨i, t, h, e⟩
    · obtain ⟨f, h1, _⟩ := at_own h
      exact .inl ⟨i, f, h1, e⟩
    · obtain ⟨f, h1, _⟩ := at_tree h
      exact .inr ⟨i, f, h1, e⟩
  · rcases h with ⟨i, ds, h, e⟩ | ⟨i, t, h, e⟩
    · exact .inl ⟨i, ds g, by rw [at_get, h]; rfl, e⟩
    · exact .inr ⟨i, t g, by rw [at_get, h]; rfl, e⟩
/-- what nobody changes; what of it was made since the entry -/
noncomputable def FH (Z : Fix) (O : Addr → Prop) (H : Hp) : Hp := hide (fun a => Z.S a ∨ O a) H
noncomputable def GH (Z : Fix) (O : Addr → Prop) (H : Hp) : Hp := hide (fun a => Z.S a ∨ O a ∨ Mut (Z.H0 a)) H
noncomputable def hp (Z : Fix) (O : Addr → Prop) (H : Hp) (fr : Bool) : Hp := if fr = true then GH Z O H else FH Z O H
theorem gh_fh {Z : Fix} {O : Addr → Prop} {H : Hp} : Same (GH Z O H) (FH Z O H) := hide_same fun a o n e => ⟨fun z => n (z.elim .inl fun q => .inr (.inl q)), e⟩
theorem hp_fh {Z : Fix} {O : Addr → Prop} {H : Hp} {fr : Bool} : Same (hp Z O H fr) (FH Z O H) := by
  unfold hp
  cases fr with
  | true => simpa using gh_fh
  | false => simpa using Same.refl _
/-- all but the lists of one's own stands -/
def Gr (O : Addr → Prop) (H H' : Hp) : Prop := ∀ a o, ¬ O a → H a = some o → H' a = some o
theorem Gr.refl {O : Addr → Prop} (H : Hp) : Gr O H H := fun _ _ _ h => h
theorem Gr.trans {O : Addr → Prop} {H H1 H2 : Hp} (a : Gr O H H1) (b : Gr O H1 H2) : Gr O H H2 := fun x o n h => b x o n (a x o n h)
theorem Gr.of {O : Addr → Prop} {H H' : Hp} (e : Same H H') : Gr O H H' := fun x o _ h => e x o h
theorem Gr.fh {Z : Fix} {O : Addr → Prop} {H H' : Hp} (e : Gr O H H') : Same (FH Z O H) (FH Z O H') := hide_same fun a o n h => ⟨n, e a o (fun z => n (.inr z)) h⟩
theorem Gr.gh {Z : Fix} {O : Addr → Prop} {H H' : Hp} (e : Gr O H H') : Same (GH Z O H) (GH Z O H') := hide_same fun a o n h => ⟨n, e a o (fun z => n (.inr (.inl z))) h⟩
theorem Gr.hp {Z : Fix} {O : Addr → Prop} {H H' : Hp} {fr : Bool} (e : Gr O H H') : Same (hp Z O H fr) (hp Z O H' fr) := by
  unfold HL.hp
  cases fr with
  | true => simpa using e.gh
  | false => simpa using e.fh

def PkOk (A : Nat → Addr) (F : Hp) (v : Option (Option V)) : Pk → Prop
  | .lst js => ∃ a, v = some (some (.ref a)) ∧ F a = some (.lst (js.map fun j => .ref (A j)))
  | .ali j => v = some (some (.ref (A j)))
  | .at a js => F a = some (.lst (js.map fun j => .ref (A j)))
theorem PkOk.mono {A : Nat → Addr} {F F' : Hp} {v : Option (Option V)} (e : Same F F') : ∀ {q : Pk}, PkOk A F v q → PkOk A F' v q
  | .lst _, ⟨a, h1, h2⟩ => ⟨a, h1, e _ _ h2⟩
  | .ali _, h => h
  | .at _ _, h => e _ _ h
/-- the trees stand -/
structure JT (Z : Fix) (A : AT) (r : List Slot) (σ : L2.St) (H : Hp) : Prop where
  ok : ∀ (i : Nat) (t : Tr), r[i]? = some (.tree t) → σ[i]? = some (some (A.rv i)) ∧ TrOk Z.K (FH Z (Ow A r) H) H (A.ext i) (A.rv i) t ∧ (A.ext i).Nodup
  dj : ∀ (i j : Nat) (s t : Tr) (a : Addr), r[i]? = some (.tree s) → r[j]? = some (.tree t) → a ∈ A.ext i → a ∈ A.ext j → i = j
  ow : ∀ (i j : Nat) (ds : Ob) (t : Tr), r[i]? = some (.own ds) → r[j]? = some (.tree t) → A i ∉ A.ext j
  nS : ∀ (i : Nat) (t : Tr) (a : Addr), r[i]? = some (.tree t) → a ∈ A.ext i → Z.S a → ∃ x, Z.tio i = some x ∧ a ∈ x.2
  nw : ∀ (i : Nat) (t : Tr) (a : Addr), r[i]? = some (.tree t) → a ∈ A.ext i → (∃ x, Z.tio i = some x ∧ a ∈ x.2) ∨ Z.H0 a = none
  iv : ∀ (i : Nat) (t : Tr) (x : V × List Addr), r[i]? = some (.tree t) → Z.tio i = some x → A.rv i = x.1
  fx : ∀ (i : Nat) (t : Tr) (x : V × List Addr), r[i]? = some (.tree t) → Z.tio i = some x → (∀ a ∈ x.2, a ∈ A.ext i) ∧ (x.2.Nodup → A.ext i = x.2)
structure J (Z : Fix) (A : AT) (r : List Slot) (σ : L2.St) (H : Hp) : Prop where
  imm : ∀ (i : Nat) (fr : Bool) (d : D), r[i]? = some (.imm fr d) → ∃ v, σ[i]? = some (some v) ∧ Rp Z.K (hp Z (Ow A r) H fr) v d
  own : ∀ (i : Nat) (ds : Ob), r[i]? = some (.own ds) → σ[i]? = some (some (.ref (A i))) ∧ OwnOk Z.K A (GH Z (Ow A r) H) (FH Z (Ow A r) H) (H (A i)) ds
  scr : ∀ (i : Nat) (ns : List Int), r[i]? = some (.scr ns) → ∃ a, σ[i]? = some (some (.ref a)) ∧ SqL Z.K (FH Z (Ow A r) H) a (ns.map V.int)
  raw : ∀ (i : Nat) (v : L2.V), r[i]? = some (.raw v) → σ[i]? = some (some v)
  pk : ∀ (i : Nat) (q : Pk), r[i]? = some (.pk q) → PkOk A (GH Z (Ow A r) H) σ[i]? q
  inj : ∀ (i j : Nat) (ds es : Ob), r[i]? = some (.own ds) → r[j]? = some (.own es) → A i = A j → i = j
  notS : ∀ (i : Nat) (ds : Ob), r[i]? = some (.own ds) → ¬ Z.S (A i)
  smut : ∀ a, Z.S a → Mut (H a)
  base : ∀ a o, Z.H0 a = some o → (∀ i, (i, a) ∉ Z.io) → Z.nt a → H a = some o
  mm : ∀ a, Mut (Z.H0 a) → Mut (H a)
  tm : ∀ (i : Nat) (x : V × List Addr) (a : Addr), Z.tio i = some x → a ∈ x.2 → Mut (Z.H0 a) ∧ Z.S a
  newo : ∀ (i : Nat) (ds : Ob), r[i]? = some (.own ds) → (i, A i) ∈ Z.io ∨ Z.H0 (A i) = none
  ioo : ∀ (i : Nat) (a : Addr), (i, a) ∈ Z.io → A i = a ∧ ∃ ds, r[i]? = some (.own ds)
  tr : JT Z A r σ H
  len : r.length = σ.length

section
variable {Z : Fix} {A A' : AT} {r r' : List Slot} {σ σ' : L2.St} {H H' : Hp}
theorem sqL_same {K : PySem.W.Frag} (e : Same H H') {a : Addr} {xs : List V} (h : SqL K H a xs) : SqL K H' a xs := by
  rcases h with h | h
  · rcases h with h | ⟨o, h⟩
    · exact .inl (.inl (e _ _ h))
    · exact .inl (.inr ⟨o, e _ _ h⟩)
  · exact .inr h
/-- an own list is a list -/
theorem J.owl (j : J Z A r σ H) {a : Addr} (h : Ow A r a) : ∃ u, H a = some u ∧ Mut (some u) := by
  rcases h with ⟨i, ds, h, rfl⟩ | ⟨i, t, h, e⟩
  · exact (j.own i ds h).2.is
  · exact TrOk.is t (j.tr.ok i t h).2.1 a e
/-- a tuple is left out nowhere -/
theorem J.notup (j : J Z A r σ H) {a : Addr} {o : HO} (h : H a = some o) (nm : ¬ Mut (some o)) : ¬ (Z.S a ∨ Ow A r a ∨ Mut (Z.H0 a)) := by
  rintro (z | z | z)
  · have := j.smut a z
    rw [h] at this
    exact nm this
  · obtain ⟨u, e, mu⟩ := j.owl z
    rw [h] at e
    cases e
    exact nm mu
  · have := j.mm a z
    rw [h] at this
    exact nm this
theorem J.tupT (j : J Z A r σ H) {a : Addr} {xs : List V} (h : H a = some (.tup xs)) : GH Z (Ow A r) H a = some (.tup xs) := hide_mk (j.notup h fun z => z) h
theorem J.sqT (j : J Z A r σ H) {a : Addr} {xs : List V} (h : SqT Z.K H a xs) : SqT Z.K (GH Z (Ow A r) H) a xs := by
  rcases h with h | h
  · rcases h with h | ⟨o, h⟩
    · exact .inl (.inl (hide_mk (j.notup h fun z => z) h))
    · exact .inl (.inr ⟨o, hide_mk (j.notup h fun z => z) h⟩)
  · exact .inr h
theorem J.flat (j : J Z A r σ H) {v : V} {d : D} (f : flatD d = true) (h : Rp Z.K H v d) : Rp Z.K (GH Z (Ow A r) H) v d := Rp.flat (fun _ _ => j.tupT) d f h
theorem J.flatA (j : J Z A r σ H) {vs : List V} {ds : List D} (f : flatA ds = true) (h : RpA Z.K H vs ds) : RpA Z.K (GH Z (Ow A r) H) vs ds := RpA.flat (fun _ _ => j.tupT) ds f h
theorem fh_le {O : Addr → Prop} : Same (FH Z O H) H := hide_le
theorem gh_le {O : Addr → Prop} : Same (GH Z O H) H := hide_le
theorem hp_le {O : Addr → Prop} {fr : Bool} : Same (hp Z O H fr) H := hp_fh.trans fh_le
/-- trees that are left alone stand -/
theorem JT.keep (j : JT Z A r σ H) (hr : ∀ i t, r'[i]? = some (.tree t) → r[i]? = some (.tree t) ∧ σ'[i]? = σ[i]? ∧ A'.ext i = A.ext i ∧ A'.rv i = A.rv i)
    (hw : ∀ i ds, r'[i]? = some (.own ds) → (∃ es, r[i]? = some (.own es) ∧ A' i = A i) ∨ H (A' i) = none) (hF : Same (FH Z (Ow A r) H) (FH Z (Ow A' r') H'))
    (hH : ∀ i t a, r[i]? = some (.tree t) → a ∈ A.ext i → H' a = H a) (hT : ∀ a xs, H a = some (.tup xs) → H' a = some (.tup xs)) : JT Z A' r' σ' H' := by
  refine ⟨fun i t h => ?_, fun i k s t a h1 h2 m1 m2 => ?_, fun i k ds t h1 h2 m => ?_, fun i t a h m => ?_, fun i t a h m => ?_, fun i t x h e => ?_, fun i t x h e => ?_⟩
  · obtain ⟨h, e1, e2, e3⟩ := hr i t h
    obtain ⟨o1, o2, o3⟩ := j.ok i t h
    rw [e1, e2, e3]
    exact ⟨o1, TrOk.mono hF hT t (fun a ha => hH i t a h ha) o2, o3⟩
  · obtain ⟨h1, _, e1, _⟩ := hr i s h1
    obtain ⟨h2, _, e2, _⟩ := hr k t h2
    rw [e1] at m1
    rw [e2] at m2
    exact j.dj i k s t a h1 h2 m1 m2
  · obtain ⟨h2, _, e2, _⟩ := hr k t h2
    rw [e2] at m
    rcases hw i ds h1 with ⟨es, q1, q2⟩ | q
    · rw [q2] at m
      exact j.ow i k es t q1 h2 m
    · obtain ⟨u, e, _⟩ := TrOk.is t (j.ok k t h2).2.1 _ m
      rw [q] at e
      cases e
  · obtain ⟨h, _, e, _⟩ := hr i t h
    rw [e] at m
    exact j.nS i t a h m
  · obtain ⟨h, _, e2, _⟩ := hr i t h
    rw [e2] at m
    exact j.nw i t a h m
  · obtain ⟨h, _, _, e3⟩ := hr i t h
    rw [e3]
    exact j.iv i t x h e
  · obtain ⟨h, _, e2, _⟩ := hr i t h
    rw [e2]
    exact j.fx i t x h e
/-- all that is tracked stands: the state is the same -/
theorem J.same (j : J Z A r σ H) (e : Same H H') : J Z A r σ H' where
  imm := fun i fr d h => let ⟨v, e1, e2⟩ := j.imm i fr d h; ⟨v, e1, e2.mono (Gr.of e).hp⟩
  own := fun i ds h => ⟨(j.own i ds h).1, ((j.own i ds h).2.same e).mono (Gr.of e).gh (Gr.of e).fh⟩
  scr := fun i ns h => let ⟨a, e1, e2⟩ := j.scr i ns h; ⟨a, e1, sqL_same (Gr.of e).fh e2⟩
  raw := j.raw
  pk := fun i q h => (j.pk i q h).mono (Gr.of e).gh
  inj := j.inj
  notS := j.notS
  smut := fun a h => by
    have m := j.smut a h
    cases q : H a with
    | none => rw [q] at m; exact m.elim
    | some o => rw [e a o q]; rw [q] at m; exact m
  base := fun a o h n n2 => e a o (j.base a o h n n2)
  mm := fun a h => by
    have m := j.mm a h
    cases q : H a with
    | none => rw [q] at m; exact m.elim
    | some o => rw [e a o q]; rw [q] at m; exact m
  tm := j.tm
  newo := j.newo
  ioo := j.ioo
  tr := j.tr.keep (fun i t h => ⟨h, rfl, rfl, rfl⟩) (fun i ds h => .inl ⟨ds, h, rfl⟩) (Gr.of e).fh (fun i t a h m => by
    obtain ⟨u, q, _⟩ := TrOk.is t (j.tr.ok i t h).2.1 a m
    rw [q]
    exact e a u q) (fun a xs h => e a _ h)
  len := j.len
/-- a new place -/
theorem same_new {p : Addr} {o : HO} (h : H p = none) : Same H (upd H p o) := fun a u e => by
  rw [upd_ne (ne_of_none e h)]
  exact e
theorem J.new (j : J Z A r σ H) {p : Addr} {o : HO} (h : H p = none) : J Z A r σ (upd H p o) := j.same (same_new h)
/-- a place not known now is not known at the entry, not left out -/
theorem J.fresh (j : J Z A r σ H) {p : Addr} (h : H p = none) : Z.H0 p = none ∧ ¬ Z.S p ∧ ¬ Ow A r p := by
  refine ⟨?_, fun z => ?_, fun z => ?_⟩
  · cases e : Z.H0 p with
    | none => rfl
    | some o =>
      have n1 : ∀ i, (i, p) ∉ Z.io := fun i hi => by
        obtain ⟨e1, ds, e2⟩ := j.ioo i p hi
        obtain ⟨vs, e3, _⟩ := j.owl (.inl ⟨i, ds, e2, e1⟩)
        rw [h] at e3
        cases e3
      by_cases hm : Mut (Z.H0 p)
      · have := j.mm p hm
        rw [h] at this
        exact this.elim
      · have := j.base p o e n1 fun i x hx ha => hm (j.tm i x p hx ha).1
        rw [h] at this
        cases this
  · have := j.smut p z
    rw [h] at this
    exact this
  · obtain ⟨vs, e, _⟩ := j.owl z
    rw [h] at e
    cases e
theorem J.ghnew (j : J Z A r σ H) {p : Addr} {o : HO} (h : H p = none) : GH Z (Ow A r) (upd H p o) p = some o := by
  obtain ⟨h0, hS, hO⟩ := j.fresh h
  refine hide_mk ?_ upd_same
  rintro (z | z | z)
  · exact hS z
  · exact hO z
  · rw [h0] at z; exact z
end
end HL
/-! Fb: expressions as actions over a typed state. -/
namespace HL
open PySem PySem.Spec PyProof.Rows L2

inductive Res (γ α : Type) where
  | ok (a : α) (g : γ)
  | exc (x : Str) (g : γ)
  | bad
abbrev Ac (γ α : Type) := γ → Res γ α
/-- how a value is held: made since the entry; known; the own list in slot i -/
inductive Md where
  | fr
  | an
  | bo (i : Nat)
  | bt
def okM : Md → Bool → Bool
  | .bo _, p => p
  | .bt, p => p
  | _, _ => true
def Rm {γ : Type} (Z : Fix) (A : AT) (Ve : Ev γ) (H : Hp) : Md → L2.V → D → Prop
  | .fr, v, d => Rp Z.K (GH Z (OwV A Ve) H) v d
  | .an, v, d => Rp Z.K (FH Z (OwV A Ve) H) v d
  | .bo i, v, d => v = .ref (A i) ∧ ¬ Z.S (A i) ∧ ∃ vs ds, d = .list ds ∧ H (A i) = some (.lst vs) ∧ RpA Z.K (GH Z (OwV A Ve) H) vs ds
  | .bt, v, d => ∃ a vs ds, v = .ref a ∧ d = .list ds ∧ H a = some (.lst vs) ∧ RpA Z.K (FH Z (OwV A Ve) H) vs ds
section
variable {γ : Type} {Z : Fix} {A : AT} {Ve : Ev γ} {g : γ} {σ : L2.St} {H H' : Hp} {m : Md} {v : L2.V} {d : D} {p : Bool}
theorem Rm.full (h : Rm Z A Ve H m v d) : Rp Z.K H v d := by
  cases m with
  | fr => exact Rp.mono gh_le d h
  | an => exact Rp.mono fh_le d h
  | bo i =>
    obtain ⟨rfl, _, vs, ds, rfl, e, r⟩ := h
    exact .lst e (RpA.mono gh_le _ r)
  | bt =>
    obtain ⟨a, vs, ds, rfl, rfl, e, r⟩ := h
    exact .lst e (RpA.mono fh_le _ r)
theorem Rm.an (h : Rm Z A Ve H .fr v d) : Rm Z A Ve H .an v d := Rp.mono gh_fh d h
theorem Rm.step (h : Rm Z A Ve H m v d) (e : Gr (OwV A Ve) H H') (s : p = true → Same H H') (k : okM m p = true) : Rm Z A Ve H' m v d := by
  cases m with
  | fr => exact Rp.mono e.gh d h
  | an => exact Rp.mono e.fh d h
  | bo i =>
    obtain ⟨rfl, ns, vs, ds, rfl, e1, r⟩ := h
    exact ⟨rfl, ns, vs, ds, rfl, s k _ _ e1, RpA.mono e.gh _ r⟩
  | bt =>
    obtain ⟨a, vs, ds, rfl, rfl, e1, r⟩ := h
    exact ⟨a, vs, ds, rfl, rfl, s k _ _ e1, RpA.mono e.fh _ r⟩
theorem Rm.same (h : Rm Z A Ve H m v d) (s : Same H H') : Rm Z A Ve H' m v d := by
  cases m with
  | fr => exact Rp.mono (Gr.of s).gh d h
  | an => exact Rp.mono (Gr.of s).fh d h
  | bo i =>
    obtain ⟨rfl, ns, vs, ds, rfl, e1, r⟩ := h
    exact ⟨rfl, ns, vs, ds, rfl, s _ _ e1, RpA.mono (Gr.of s).gh _ r⟩
  | bt =>
    obtain ⟨a, vs, ds, rfl, rfl, e1, r⟩ := h
    exact ⟨a, vs, ds, rfl, rfl, s _ _ e1, RpA.mono (Gr.of s).fh _ r⟩
theorem Rm.flat (j : J Z A (at_ Ve g) σ H) (f : flatD d = true) (h : Rp Z.K H v d) : Rm Z A Ve H .fr v d := by
  have := j.flat f h
  rw [ow_at] at this
  exact this
theorem Rm.flatM (j : J Z A (at_ Ve g) σ H) (f : flatD d = true) (h : Rp Z.K H v d) (hm : (∀ i, m ≠ .bo i) ∧ m ≠ .bt) : Rm Z A Ve H m v d := by
  have := Rm.flat j f h
  cases m with
  | fr => exact this
  | an => exact this.an
  | bo i => exact absurd rfl (hm.1 i)
  | bt => exact absurd rfl hm.2
end

/-- an expression's reading over the state -/
def tE {γ α : Type} [Enc α] (mg : Str → Option Value) (Z : Fix) (W : WX) (Ve : Ev γ) (m : Md) (p : Bool) (f : Ac γ α) : TE := fun σ H Q => ∃ g A, J Z A (at_ Ve g) σ H ∧
  match f g with
  | .ok a g' => ∀ v H', J Z A (at_ Ve g') σ H' → Gr (OwV A Ve) H H' → (p = true → Same H H') → Rm Z A Ve H' m v (enc a) → Q v H'
  | .exc x g' => ∀ c H', mg x = some c → J Z A (at_ Ve g') σ H' → Gr (OwV A Ve) H H' → W c none σ H'
  | .bad => False
/-- .. of one that makes a new list -/
def tN {γ α : Type} [Enc α] (mg : Str → Option Value) (Z : Fix) (W : WX) (Ve : Ev γ) (p : Bool) (f : Ac γ (List α)) : TE := fun σ H Q => ∃ g A, J Z A (at_ Ve g) σ H ∧
  match f g with
  | .ok a g' => ∀ q vs H', H' q = none → J Z A (at_ Ve g') σ H' → Gr (OwV A Ve) H H' → (p = true → Same H H') → RpA Z.K (GH Z (OwV A Ve) H') vs (a.map enc) → Q (.ref q) (upd H' q (.lst vs))
  | .exc x g' => ∀ c H', mg x = some c → J Z A (at_ Ve g') σ H' → Gr (OwV A Ve) H H' → W c none σ H'
  | .bad => False
/-- a test's -/
def tT {γ : Type} (mg : Str → Option Value) (Z : Fix) (W : WX) (Ve : Ev γ) (p : Bool) (f : Ac γ Bool) : TT := fun σ H Q => ∃ g A, J Z A (at_ Ve g) σ H ∧
  match f g with
  | .ok a g' => ∀ H', J Z A (at_ Ve g') σ H' → Gr (OwV A Ve) H H' → (p = true → Same H H') → Q a H'
  | .exc x g' => ∀ c H', mg x = some c → J Z A (at_ Ve g') σ H' → Gr (OwV A Ve) H H' → W c none σ H'
  | .bad => False
structure SE (X : Cx) {γ α : Type} [Enc α] (Ve : Ev γ) (m : Md) (p : Bool) (e : Expr) (f : Ac γ α) : Prop where
  run : ∀ (Z : Fix) (W : WX), Z.K = X.K → Takes X W → PE X e (tE X.mg Z W Ve m p f)
structure SN (X : Cx) {γ α : Type} [Enc α] (Ve : Ev γ) (p : Bool) (e : Expr) (f : Ac γ (List α)) : Prop where
  run : ∀ (Z : Fix) (W : WX), Z.K = X.K → Takes X W → PE X e (tN X.mg Z W Ve p f)
structure ST (X : Cx) {γ : Type} (Ve : Ev γ) (p : Bool) (e : Expr) (f : Ac γ Bool) : Prop where
  run : ∀ (Z : Fix) (W : WX), Z.K = X.K → Takes X W → PT X e (tT X.mg Z W Ve p f)
structure SW (X : Cx) {γ : Type} (Ve : Ev γ) (p : Bool) (e : Expr) (f : Ac γ Bool) : Prop where
  run : ∀ (Z : Fix) (W : WX), Z.K = X.K → Takes X W → PW X e (tT X.mg Z W Ve p f)

theorem _root_.L2.PE.weak {X : Cx} {e : Expr} {t t' : TE} (h : PE X e t) (w : ∀ σ H Q, t' σ H Q → t σ H Q) : PE X e t' := ⟨fun pins s σ H Q I q => h.run pins s σ H Q I (w σ H Q q)⟩
theorem _root_.L2.PT.weak {X : Cx} {e : Expr} {t t' : TT} (h : PT X e t) (w : ∀ σ H Q, t' σ H Q → t σ H Q) : PT X e t' := ⟨fun pins s σ H Q I q => h.run pins s σ H Q I (w σ H Q q)⟩
theorem _root_.L2.PW.weak {X : Cx} {e : Expr} {t t' : TT} (h : PW X e t) (w : ∀ σ H Q, t' σ H Q → t σ H Q) : PW X e t' := ⟨fun wh pins s σ H Q I q => h.run wh pins s σ H Q I (w σ H Q q)⟩

/-! ### actions -/
def pureA {γ α : Type} (x : γ → α) : Ac γ α := fun g => .ok (x g) g
def bindA {γ α β : Type} (f : Ac γ α) (k : α → Ac γ β) : Ac γ β := fun g => match f g with
  | .ok a g1 => k a g1
  | .exc x g1 => .exc x g1
  | .bad => .bad
def optA {γ α : Type} (o : Option α) : Ac γ α := fun g => match o with
  | some a => .ok a g
  | none => .bad
def op1 {γ α β : Type} (k : α → Option β) (f : Ac γ α) : Ac γ β := bindA f fun a => optA (k a)
def op2 {γ α β δ : Type} (k : α → β → Option δ) (f : Ac γ α) (h : Ac γ β) : Ac γ δ := bindA f fun a => bindA h fun b => optA (k a b)
def op3 {γ α β δ ε : Type} (k : α → β → δ → Option ε) (f : Ac γ α) (h : Ac γ β) (l : Ac γ δ) : Ac γ ε := bindA f fun a => bindA h fun b => bindA l fun c => optA (k a b c)

section
variable {γ α β δ ε : Type} [Enc α] [Enc β] [Enc δ] [Enc ε] {mg : Str → Option Value} {Z : Fix} {W : WX} {Ve : Ev γ} {m m1 m2 m3 mr : Md} {p p1 p2 p3 : Bool}
/-- what a rule of two operands gives -/
def OpK (Z : Fix) (r : R2) (m1 m2 mr : Md) (k : α → β → Option δ) (Ve : Ev γ) : Prop :=
  ∀ (A : AT) (g : γ) (σ : L2.St) (H : Hp) (x y : L2.V) (a : α) (b : β) (c : δ) (Q : VK), J Z A (at_ Ve g) σ H → Rm Z A Ve H m1 x (enc a) → Rm Z A Ve H m2 y (enc b) → k a b = some c →
    (∀ v H', Same H H' → J Z A (at_ Ve g) σ H' → Rm Z A Ve H' mr v (enc c) → Q v H') → r x y H Q
def UnK (Z : Fix) (r : L2.V → Hp → VK → Prop) (m1 mr : Md) (k : α → Option δ) (Ve : Ev γ) : Prop :=
  ∀ (A : AT) (g : γ) (σ : L2.St) (H : Hp) (x : L2.V) (a : α) (c : δ) (Q : VK), J Z A (at_ Ve g) σ H → Rm Z A Ve H m1 x (enc a) → k a = some c →
    (∀ v H', Same H H' → J Z A (at_ Ve g) σ H' → Rm Z A Ve H' mr v (enc c) → Q v H') → r x H Q
/-- .. and gives a new list -/
def OpN (Z : Fix) (r : R2) (m1 m2 : Md) (k : α → β → Option (List δ)) (Ve : Ev γ) : Prop :=
  ∀ (A : AT) (g : γ) (σ : L2.St) (H : Hp) (x y : L2.V) (a : α) (b : β) (c : List δ) (Q : VK), J Z A (at_ Ve g) σ H → Rm Z A Ve H m1 x (enc a) → Rm Z A Ve H m2 y (enc b) → k a b = some c →
    (∀ q vs, H q = none → RpA Z.K (GH Z (OwV A Ve) H) vs (c.map enc) → Q (.ref q) (upd H q (.lst vs))) → r x y H Q
def UnN (Z : Fix) (r : L2.V → Hp → VK → Prop) (m1 : Md) (k : α → Option (List δ)) (Ve : Ev γ) : Prop :=
  ∀ (A : AT) (g : γ) (σ : L2.St) (H : Hp) (x : L2.V) (a : α) (c : List δ) (Q : VK), J Z A (at_ Ve g) σ H → Rm Z A Ve H m1 x (enc a) → k a = some c →
    (∀ q vs, H q = none → RpA Z.K (GH Z (OwV A Ve) H) vs (c.map enc) → Q (.ref q) (upd H q (.lst vs))) → r x H Q

theorem tUn_ok {r : L2.V → Hp → VK → Prop} {k : α → Option δ} {f : Ac γ α} (hk : UnK Z r m1 mr k Ve) {σ : L2.St} {H : Hp} {Q : VK} (h : tE mg Z W Ve mr p (op1 k f) σ H Q) : tUn r (tE mg Z W Ve m1 p f) σ H Q := by
  obtain ⟨g, A, j, h⟩ := h
  refine ⟨g, A, j, ?_⟩
  unfold op1 bindA at h
  cases ef : f g with
  | bad => rw [ef] at h; exact h
  | exc x g1 => rw [ef] at h; exact h
  | ok a g1 =>
    rw [ef] at h
    unfold optA at h
    cases ek : k a with
    | none => simp only [ek] at h
    | some c =>
      simp only [ek] at h
      intro v H1 j1 gr sm rv
      exact hk A g1 σ H1 v a c Q j1 rv ek fun w H2 s2 j2 rw2 => h w H2 j2 (gr.trans (.of s2)) (fun z => (sm z).trans s2) rw2
theorem tUnN_ok {r : L2.V → Hp → VK → Prop} {k : α → Option (List δ)} {f : Ac γ α} (hk : UnN Z r m1 k Ve) {σ : L2.St} {H : Hp} {Q : VK} (h : tN mg Z W Ve p (op1 k f) σ H Q) : tUn r (tE mg Z W Ve m1 p f) σ H Q := by
  obtain ⟨g, A, j, h⟩ := h
  refine ⟨g, A, j, ?_⟩
  unfold op1 bindA at h
  cases ef : f g with
  | bad => rw [ef] at h; exact h
  | exc x g1 => rw [ef] at h; exact h
  | ok a g1 =>
    rw [ef] at h
    unfold optA at h
    cases ek : k a with
    | none => simp only [ek] at h
    | some c =>
      simp only [ek] at h
      intro v H1 j1 gr sm rv
      exact hk A g1 σ H1 v a c Q j1 rv ek fun q vs hq rq => h q vs H1 hq j1 gr sm rq
theorem tOp_ok {r : R2} {k : α → β → Option δ} {f : Ac γ α} {h2 : Ac γ β} (hk : OpK Z r m1 m2 mr k Ve) (hm : okM m1 p2 = true) {σ : L2.St} {H : Hp} {Q : VK} (h : tE mg Z W Ve mr (p1 && p2) (op2 k f h2) σ H Q) :
    tOp r (tE mg Z W Ve m1 p1 f) (tE mg Z W Ve m2 p2 h2) σ H Q := by
  obtain ⟨g, A, j, h⟩ := h
  refine ⟨g, A, j, ?_⟩
  unfold op2 bindA at h
  cases ef : f g with
  | bad => rw [ef] at h; exact h
  | exc x g1 => rw [ef] at h; exact h
  | ok a g1 =>
    rw [ef] at h
    intro v H1 j1 gr sm rv
    refine ⟨g1, A, j1, ?_⟩
    simp only at h
    cases eh : h2 g1 with
    | bad => simp only [eh] at h
    | exc x g2 =>
      simp only [eh] at h
      exact fun c H' mc j' gr' => h c H' mc j' (gr.trans gr')
    | ok b g2 =>
      simp only [eh] at h
      unfold optA at h
      cases ek : k a b with
      | none => simp only [ek] at h
      | some c =>
        simp only [ek] at h
        intro w H2 j2 gr2 sm2 rw2
        exact hk A g2 σ H2 v w a b c Q j2 (rv.step gr2 sm2 hm) rw2 ek fun u H3 s3 j3 ru => h u H3 j3 ((gr.trans gr2).trans (.of s3)) (fun z => ((sm (Bool.and_eq_true_iff.mp z).1).trans (sm2 (Bool.and_eq_true_iff.mp z).2)).trans s3) ru
theorem tOpN_ok {r : R2} {k : α → β → Option (List δ)} {f : Ac γ α} {h2 : Ac γ β} (hk : OpN Z r m1 m2 k Ve) (hm : okM m1 p2 = true) {σ : L2.St} {H : Hp} {Q : VK} (h : tN mg Z W Ve (p1 && p2) (op2 k f h2) σ H Q) :
    tOp r (tE mg Z W Ve m1 p1 f) (tE mg Z W Ve m2 p2 h2) σ H Q := by
  obtain ⟨g, A, j, h⟩ := h
  refine ⟨g, A, j, ?_⟩
  unfold op2 bindA at h
  cases ef : f g with
  | bad => rw [ef] at h; exact h
  | exc x g1 => rw [ef] at h; exact h
  | ok a g1 =>
    rw [ef] at h
    intro v H1 j1 gr sm rv
    refine ⟨g1, A, j1, ?_⟩
    simp only at h
    cases eh : h2 g1 with
    | bad => simp only [eh] at h
    | exc x g2 =>
      simp only [eh] at h
      exact fun c H' mc j' gr' => h c H' mc j' (gr.trans gr')
    | ok b g2 =>
      simp only [eh] at h
      unfold optA at h
      cases ek : k a b with
      | none => simp only [ek] at h
      | some c =>
        simp only [ek] at h
        intro w H2 j2 gr2 sm2 rw2
        exact hk A g2 σ H2 v w a b c Q j2 (rv.step gr2 sm2 hm) rw2 ek fun q vs hq rq => h q vs H2 hq j2 (gr.trans gr2) (fun z => (sm (Bool.and_eq_true_iff.mp z).1).trans (sm2 (Bool.and_eq_true_iff.mp z).2)) rq
end

/-! ### new lists are data; lists of none but flat data are made since -/
section
variable {X : Cx} {γ α β δ : Type} [Enc α] [Enc β] [Enc δ] {Ve : Ev γ} {m : Md} {p : Bool} {e : Expr}
theorem rm_new {Z : Fix} {A : AT} {g : γ} {σ : L2.St} {H : Hp} {q : Addr} {vs : List L2.V} {c : List α} (j : J Z A (at_ Ve g) σ H) (hq : H q = none) (rq : RpA Z.K (GH Z (OwV A Ve) H) vs (c.map enc)) : Rm Z A Ve (upd H q (.lst vs)) .fr (.ref q) (enc c) := by
  have hn := j.ghnew (o := .lst vs) hq
  rw [ow_at] at hn
  exact .lst hn (RpA.mono (Gr.of (same_new hq)).gh _ rq)
theorem tN_tE {mg : Str → Option Value} {Z : Fix} {W : WX} {f : Ac γ (List α)} {σ : L2.St} {H : Hp} {Q : VK} (h : tE mg Z W Ve .fr p f σ H Q) : tN mg Z W Ve p f σ H Q := by
  obtain ⟨g, A, j, h⟩ := h
  refine ⟨g, A, j, ?_⟩
  cases ef : f g with
  | bad => rw [ef] at h; exact h
  | exc x g1 => rw [ef] at h; exact h
  | ok a g1 =>
    rw [ef] at h
    intro q vs H1 hq j1 gr sm rq
    exact h (.ref q) _ (j1.new hq) (gr.trans (.of (same_new hq))) (fun z => (sm z).trans (same_new hq)) (rm_new j1 hq rq)
theorem SN.se {f : Ac γ (List α)} (h : SN X Ve p e f) : SE X Ve .fr p e f := ⟨fun Z W hK tk => (h.run Z W hK tk).weak fun _ _ _ q => tN_tE q⟩
/-- what is told as made since is known -/
theorem tE_an {mg : Str → Option Value} {Z : Fix} {W : WX} {f : Ac γ α} {σ : L2.St} {H : Hp} {Q : VK} (h : tE mg Z W Ve .an p f σ H Q) : tE mg Z W Ve .fr p f σ H Q := by
  obtain ⟨g, A, j, h⟩ := h
  refine ⟨g, A, j, ?_⟩
  cases ef : f g with
  | bad => rw [ef] at h; exact h
  | exc x g1 => rw [ef] at h; exact h
  | ok a g1 =>
    rw [ef] at h
    exact fun v H1 j1 gr sm rv => h v H1 j1 gr sm rv.an
theorem SE.an {f : Ac γ α} (h : SE X Ve .fr p e f) : SE X Ve .an p e f := ⟨fun Z W hK tk => (h.run Z W hK tk).weak fun _ _ _ q => tE_an q⟩
theorem tE_flat [Flat α] {mg : Str → Option Value} {Z : Fix} {W : WX} {f : Ac γ α} {σ : L2.St} {H : Hp} {Q : VK} (h : tE mg Z W Ve .fr p f σ H Q) : tE mg Z W Ve m p f σ H Q := by
  obtain ⟨g, A, j, h⟩ := h
  refine ⟨g, A, j, ?_⟩
  cases ef : f g with
  | bad => rw [ef] at h; exact h
  | exc x g1 => rw [ef] at h; exact h
  | ok a g1 =>
    rw [ef] at h
    exact fun v H1 j1 gr sm rv => h v H1 j1 gr sm (Rm.flat j1 (Flat.flat a) rv.full)
theorem SE.flat [Flat α] {f : Ac γ α} (h : SE X Ve m p e f) : SE X Ve .fr p e f := ⟨fun Z W hK tk => (h.run Z W hK tk).weak fun _ _ _ q => tE_flat q⟩
/-- a pure one may be told as one that changes -/
theorem SE.imp {f : Ac γ α} (h : SE X Ve m true e f) : SE X Ve m p e f := ⟨fun Z W hK tk => (h.run Z W hK tk).weak fun σ H Q q => by
  obtain ⟨g, A, j, h⟩ := q
  refine ⟨g, A, j, ?_⟩
  cases ef : f g with
  | bad => rw [ef] at h; exact h
  | exc x g1 => rw [ef] at h; exact h
  | ok a g1 =>
    rw [ef] at h
    exact fun v H1 j1 gr sm rv => h v H1 j1 gr (fun _ => sm rfl) rv⟩
end

/-! ### names, constants -/
section
variable {X : Cx} {γ α : Type} [Enc α] {Ve : Ev γ}
theorem sv {fr : Bool} (i : Nat) (x : γ → α) {n : Str} {pos : Pos} (h : Ve[i]? = some (.imm fr fun g => enc (x g)) := by rfl) (hN : X.N[i]? = some n := by rfl)
    (hv : Vis X.env.scope n := by first | exact Or.inl rfl | exact Or.inr (Or.inl rfl) | exact Or.inr (Or.inr rfl)) (hd : (n == ("__debug__" : Str)) = false := by decide) (hcd : (n == ("__classdict__" : Str)) = false := by decide) :
    SE X Ve (if fr = true then .fr else .an) true (.Name n pos) (pureA x) := ⟨fun Z W hK tk => (pe_var hN hv hd hcd).weak fun σ H Q q => by
  obtain ⟨g, A, j, k⟩ := q
  have hr : (at_ Ve g)[i]? = some (.imm fr (enc (x g))) := by rw [at_get, h]; rfl
  obtain ⟨v, e1, e2⟩ := j.imm i fr _ hr
  refine ⟨v, e1, k v H j (.refl H) (fun _ => Same.refl H) ?_⟩
  rw [ow_at] at e2
  cases fr with
  | true => exact e2
  | false => exact e2⟩
theorem svT (i : Nat) (x : γ → α) {n : Str} {pos : Pos} (h : Ve[i]? = some (.imm true fun g => enc (x g)) := by rfl) (hN : X.N[i]? = some n := by rfl)
    (hv : Vis X.env.scope n := by first | exact Or.inl rfl | exact Or.inr (Or.inl rfl) | exact Or.inr (Or.inr rfl)) (hd : (n == ("__debug__" : Str)) = false := by decide) (hcd : (n == ("__classdict__" : Str)) = false := by decide) :
    SE X Ve .fr true (.Name n pos) (pureA x) := sv i x h hN hv hd hcd
theorem svF (i : Nat) (x : γ → α) {n : Str} {pos : Pos} (h : Ve[i]? = some (.imm false fun g => enc (x g)) := by rfl) (hN : X.N[i]? = some n := by rfl)
    (hv : Vis X.env.scope n := by first | exact Or.inl rfl | exact Or.inr (Or.inl rfl) | exact Or.inr (Or.inr rfl)) (hd : (n == ("__debug__" : Str)) = false := by decide) (hcd : (n == ("__classdict__" : Str)) = false := by decide) :
    SE X Ve .an true (.Name n pos) (pureA x) := sv i x h hN hv hd hcd
/-- a list of one's own, read -/
theorem so (i : Nat) (x : γ → List α) {n : Str} {pos : Pos} (h : Ve[i]? = some (.own fun g => (x g).map enc) := by rfl) (hN : X.N[i]? = some n := by rfl)
    (hv : Vis X.env.scope n := by first | exact Or.inl rfl | exact Or.inr (Or.inl rfl) | exact Or.inr (Or.inr rfl)) (hd : (n == ("__debug__" : Str)) = false := by decide) (hcd : (n == ("__classdict__" : Str)) = false := by decide) :
    SE X Ve (.bo i) true (.Name n pos) (pureA x) := ⟨fun Z W hK tk => (pe_var hN hv hd hcd).weak fun σ H Q q => by
  obtain ⟨g, A, j, k⟩ := q
  have hr : (at_ Ve g)[i]? = some (.own ((x g).map enc)) := by rw [at_get, h]; rfl
  obtain ⟨e1, vs, e2, e3⟩ := j.own i _ hr
  rw [ow_at] at e3
  exact ⟨_, e1, k _ H j (.refl H) (fun _ => Same.refl H) ⟨rfl, j.notS i _ hr, vs, _, rfl, e2, e3⟩⟩⟩
theorem s_const {te : TE} {e : Expr} {v : L2.V} (c : α) (h : PE X e (tC v)) (hr : ∀ K H, Rp K H v (enc c)) : SE X Ve .fr true e (pureA fun _ => c) := ⟨fun Z W hK tk => h.weak fun σ H Q q => by
  obtain ⟨g, A, j, h⟩ := q
  exact h v H j (.refl H) (fun _ => Same.refl H) (hr _ _)⟩
theorem si (i : Int) {j pos} : SE X Ve .fr true (.Constant (.int i) j pos) (pureA fun _ => i) := s_const (te := tC (.int i)) i pe_int fun _ _ => .int i
theorem sb (b : Bool) {j pos} : SE X Ve .fr true (.Constant (.bool b) j pos) (pureA fun _ => b) := s_const (te := tC (.bl b)) b pe_bl fun _ _ => .bl b
theorem ss (x : Str) {j pos} : SE X Ve .fr true (.Constant (.str x) j pos) (pureA fun _ => x) := s_const (te := tC (.str x)) x pe_str fun _ _ => .str x
/-- None, as a thing of any kind that may be none -/
theorem snon {j pos} : SE X Ve .fr true (.Constant .none j pos) (pureA fun _ => (none : Option α)) := s_const (te := tC .non) none pe_non fun _ _ => .non
theorem sunit {j pos} : SE X Ve .fr true (.Constant .none j pos) (pureA fun _ => ()) := s_const (te := tC .non) () pe_non fun _ _ => .non
/-- a module's constant -/
theorem sg {x : Str} {u : Value} {v : L2.V} {pos : Pos} (c : α) (hm : X.mg x = some u) (r : RelV v u) (hr : ∀ K H, Rp K H v (enc c)) (hg : Gl X x := by rfl) (hd : (x == ("__debug__" : Str)) = false := by decide) :
    SE X Ve .fr true (.Name x pos) (pureA fun _ => c) := s_const (te := tC v) c (pe_glob hg hm r hd) hr
end
end HL
/-! Fc: operators, comparisons, tests, subscripts, slices. -/
namespace HL
open PySem PySem.Spec PyProof.Rows L2

/-! ### what the operators give -/
def addI (a b : Int) : Option Int := some (a + b)
def subI (a b : Int) : Option Int := some (a - b)
def mulI (a b : Int) : Option Int := if a.natAbs.log2 + b.natAbs.log2 < 1000000 then some (a * b) else none
def fdivI (a b : Int) : Option Int := if b ≠ 0 ∧ b.natAbs.log2 < 9000 then some (a.fdiv b) else none
def modI (a b : Int) : Option Int := if b ≠ 0 then some (a.fmod b) else none
def powI (a b : Int) : Option Int := if 0 ≤ b ∧ b ≤ 1000000 ∧ a.natAbs < 2 ^ 64 then some (a ^ b.toNat) else none
def shlI (a b : Int) : Option Int := if 0 ≤ b ∧ b ≤ 1000000 ∧ a.natAbs < 2 ^ 64 then some (a * 2 ^ b.toNat) else none
def ltI (a b : Int) : Option Bool := some (decide (a < b))
def leI (a b : Int) : Option Bool := some (decide (a ≤ b))
def gtI (a b : Int) : Option Bool := some (decide (b < a))
def geI (a b : Int) : Option Bool := some (decide (b ≤ a))
def negI (a : Int) : Option Int := some (-a)
def eqQ {α : Type} [DecidableEq α] (a b : α) : Option Bool := some (decide (a = b))
def neQ {α : Type} [DecidableEq α] (a b : α) : Option Bool := some (!decide (a = b))
def CDivX (_ j : Int) : Prop := j ≠ 0 ∧ j.natAbs.log2 < 9000
section
variable {X : Cx}
theorem op_fdivX : OpR X (binaryOp .FloorDiv) (rI CDivX fun i j => .int (i.fdiv j)) := opI fun i j _ _ _ _ _ hc q =>
  floordiv_int hc.1 q (.inl (PyProof.noPylong_of_log2 hc.2))
theorem iop_fdivX : OpR X (inplaceOp .FloorDiv) (rI CDivX fun i j => .int (i.fdiv j)) := opI fun i j _ _ _ _ _ hc q =>
  ifloordiv_int hc.1 q (.inl (PyProof.noPylong_of_log2 hc.2))
theorem iop_mulW : OpR X (inplaceOp .Mult) (rI CMulW fun i j => .int (i * j)) := opI fun _ _ _ _ _ _ _ hc q => imul_int q hc.ok
end
theorem rp_int {K : PySem.W.Frag} {H : Hp} {v : L2.V} {i : Int} (h : Rp K H v (enc i)) : v = .int i := by
  cases h
  rfl
theorem rp_bl {K : PySem.W.Frag} {H : Hp} {v : L2.V} {b : Bool} (h : Rp K H v (enc b)) : v = .bl b := by
  cases h
  rfl
theorem rp_str {K : PySem.W.Frag} {H : Hp} {v : L2.V} {b : Str} (h : Rp K H v (enc b)) : v = .str b := by
  cases h
  rfl
theorem rp_list {α : Type} [Enc α] {K : PySem.W.Frag} {H : Hp} {v : L2.V} {l : List α} (h : Rp K H v (enc l)) : ∃ a vs, v = .ref a ∧ H a = some (.lst vs) ∧ RpA K H vs (l.map enc) := by
  cases h with
  | lst h1 h2 => exact ⟨_, _, rfl, h1, h2⟩

section
variable {γ α β δ : Type} [Enc α] [Enc β] [Enc δ] {Z : Fix} {Ve : Ev γ} {m m1 m2 : Md}
/-- the value alone tells -/
theorem opK_v {r : R2} {k : α → β → Option δ} (h : ∀ (H : Hp) (x y : L2.V) (a : α) (b : β) (c : δ) (Q : VK), Rp Z.K H x (enc a) → Rp Z.K H y (enc b) → k a b = some c → (∀ v, (∀ H', Rp Z.K H' v (enc c)) → Q v H) → r x y H Q) : OpK Z r m1 m2 .fr k Ve :=
  fun A g σ H x y a b c Q j rx ry e q => h H x y a b c Q rx.full ry.full e fun v hv => q v H (Same.refl H) j (hv _)
theorem unK_v {r : L2.V → Hp → VK → Prop} {k : α → Option δ} (h : ∀ (H : Hp) (x : L2.V) (a : α) (c : δ) (Q : VK), Rp Z.K H x (enc a) → k a = some c → (∀ v, (∀ H', Rp Z.K H' v (enc c)) → Q v H) → r x H Q) : UnK Z r m1 .fr k Ve :=
  fun A g σ H x a c Q j rx e q => h H x a c Q rx.full e fun v hv => q v H (Same.refl H) j (hv _)
theorem opK_I {C : Int → Int → Prop} [DecidableRel C] {f : Int → Int → Int} {k : Int → Int → Option Int} (hk : ∀ i j c, k i j = some c → C i j ∧ c = f i j) : OpK Z (rI C fun i j => .int (f i j)) m1 m2 .fr k Ve := opK_v fun H x y a b c Q rx ry e q => by
  cases rp_int rx
  cases rp_int ry
  obtain ⟨hc, rfl⟩ := hk a b c e
  exact ⟨a, b, rfl, rfl, hc, q _ fun _ => .int _⟩
theorem opK_I0 {f : Int → Int → Int} {k : Int → Int → Option Int} (hk : ∀ i j c, k i j = some c → c = f i j) : OpK Z (rI0 fun i j => .int (f i j)) m1 m2 .fr k Ve := opK_v fun H x y a b c Q rx ry e q => by
  cases rp_int rx
  cases rp_int ry
  obtain rfl := hk a b c e
  exact ⟨a, b, rfl, rfl, q _ fun _ => .int _⟩
theorem opK_B0 {f : Int → Int → Bool} {k : Int → Int → Option Bool} (hk : ∀ i j c, k i j = some c → c = f i j) : OpK Z (rI0 fun i j => .bl (f i j)) m1 m2 .fr k Ve := opK_v fun H x y a b c Q rx ry e q => by
  cases rp_int rx
  cases rp_int ry
  obtain rfl := hk a b c e
  exact ⟨a, b, rfl, rfl, q _ fun _ => .bl _⟩
end
theorem some_inj' {α : Type} {a b : α} (h : some a = some b) : b = a := (Option.some.inj h).symm
theorem ite_some {c : Prop} [Decidable c] {α : Type} {a b : α} (h : (if c then some a else none) = some b) : c ∧ b = a := by
  by_cases hc : c
  · rw [if_pos hc] at h; exact ⟨hc, some_inj' h⟩
  · rw [if_neg hc] at h; cases h

section
variable {X : Cx} {γ α β δ : Type} [Enc α] [Enc β] [Enc δ] {Ve : Ev γ} {m m1 m2 mr : Md} {p p1 p2 : Bool} {a b : Expr} {pos : Pos}
theorem s_op {op : Operator} {r : PySem.W.Frag → R2} {k : α → β → Option δ} {f : Ac γ α} {h : Ac γ β} (ho : OpR X (binaryOp op) (r X.K)) (hk : ∀ Z : Fix, Z.K = X.K → OpK Z (r X.K) m1 m2 mr k Ve) (ha : SE X Ve m1 p1 a f) (hb : SE X Ve m2 p2 b h) (hm : okM m1 p2 = true) :
    SE X Ve mr (p1 && p2) (.BinOp a op b pos) (op2 k f h) := ⟨fun Z W hK tk => (pe_op ho (ha.run Z W hK tk) (hb.run Z W hK tk)).weak fun _ _ _ q => tOp_ok (hk Z hK) hm q⟩
theorem s_opN {op : Operator} {r : PySem.W.Frag → R2} {k : α → β → Option (List δ)} {f : Ac γ α} {h : Ac γ β} (ho : OpR X (binaryOp op) (r X.K)) (hk : ∀ Z : Fix, Z.K = X.K → OpN Z (r X.K) m1 m2 k Ve) (ha : SE X Ve m1 p1 a f) (hb : SE X Ve m2 p2 b h) (hm : okM m1 p2 = true) :
    SN X Ve (p1 && p2) (.BinOp a op b pos) (op2 k f h) := ⟨fun Z W hK tk => (pe_op ho (ha.run Z W hK tk) (hb.run Z W hK tk)).weak fun _ _ _ q => tOpN_ok (hk Z hK) hm q⟩
theorem s_un {op : UnaryOp} {r : L2.V → Hp → VK → Prop} {k : α → Option δ} {f : Ac γ α} (ho : UnR X (unaryOp op) r) (hk : ∀ Z : Fix, Z.K = X.K → UnK Z r m1 mr k Ve) (ha : SE X Ve m1 p a f) :
    SE X Ve mr p (.UnaryOp op a pos) (op1 k f) := ⟨fun Z W hK tk => (pe_un ho (ha.run Z W hK tk)).weak fun _ _ _ q => tUn_ok (hk Z hK) q⟩
theorem s_cmp {op : CmpOp} {r : PySem.W.Frag → R2} {k : α → β → Option Bool} {f : Ac γ α} {h : Ac γ β} (ho : OpR X (compareOp op) (r X.K)) (hk : ∀ Z : Fix, Z.K = X.K → OpK Z (r X.K) m1 m2 .fr k Ve) (ha : SE X Ve m1 p1 a f) (hb : SE X Ve m2 p2 b h) (hm : okM m1 p2 = true) (hn : behindInMarks op b = false) :
    SE X Ve .fr (p1 && p2) (.Compare a [op] [b] pos) (op2 k f h) := ⟨fun Z W hK tk => (pe_cmpR ho (ha.run Z W hK tk) (hb.run Z W hK tk) hn).weak fun _ _ _ q => tOp_ok (hk Z hK) hm q⟩
theorem tT_test {mg : Str → Option Value} {Z : Fix} {W : WX} {f : Ac γ Bool} {σ : L2.St} {H : Hp} {Q : Bool → Hp → Prop} (h : tT mg Z W Ve p f σ H Q) : tE mg Z W Ve m p f σ H (fun x H' => ∃ k, x = .bl k ∧ Q k H') := by
  obtain ⟨g, A, j, h⟩ := h
  refine ⟨g, A, j, ?_⟩
  cases ef : f g with
  | bad => rw [ef] at h; exact h
  | exc x g1 => rw [ef] at h; exact h
  | ok a g1 =>
    rw [ef] at h
    intro v H1 j1 gr sm rv
    exact ⟨a, rp_bl rv.full, h H1 j1 gr sm⟩
theorem t_cmp {op : CmpOp} {r : PySem.W.Frag → R2} {k : α → β → Option Bool} {f : Ac γ α} {h : Ac γ β} (ho : OpR X (compareOp op) (r X.K)) (hk : ∀ Z : Fix, Z.K = X.K → OpK Z (r X.K) m1 m2 .fr k Ve) (ha : SE X Ve m1 p1 a f) (hb : SE X Ve m2 p2 b h) (hm : okM m1 p2 = true) (hn : behindInMarks op b = false) :
    ST X Ve (p1 && p2) (.Compare a [op] [b] pos) (op2 k f h) := ⟨fun Z W hK tk => (pt_cmpR ho (ha.run Z W hK tk) (hb.run Z W hK tk) hn).weak fun _ _ _ q => tOp_ok (hk Z hK) hm (tT_test q)⟩
/-- a truth as a test -/
theorem t_val {f : Ac γ Bool} (h : SE X Ve m p a f) (he : ∀ whole, isTrue a X.env whole = (do let v ← whole; standAt a.pos; holding [v] (truthy v)) := by intro _; rfl) : ST X Ve p a f := ⟨fun Z W hK tk => (pt_val (h.run Z W hK tk) he).weak fun _ _ _ q => tT_test q⟩

/-! ### ints -/
variable {f : Ac γ Int} {h : Ac γ Int}
theorem s_add (ha : SE X Ve m1 p1 a f) (hb : SE X Ve m2 p2 b h) (hm : okM m1 p2 = true := by rfl) : SE X Ve .fr (p1 && p2) (.BinOp a .Add b pos) (op2 addI f h) :=
  s_op (r := fun _ => _) op_add (fun Z _ => opK_I0 fun i j c e => some_inj' e) ha hb hm
theorem s_sub (ha : SE X Ve m1 p1 a f) (hb : SE X Ve m2 p2 b h) (hm : okM m1 p2 = true := by rfl) : SE X Ve .fr (p1 && p2) (.BinOp a .Sub b pos) (op2 subI f h) :=
  s_op (r := fun _ => _) op_sub (fun Z _ => opK_I0 fun i j c e => some_inj' e) ha hb hm
theorem s_mul (ha : SE X Ve m1 p1 a f) (hb : SE X Ve m2 p2 b h) (hm : okM m1 p2 = true := by rfl) : SE X Ve .fr (p1 && p2) (.BinOp a .Mult b pos) (op2 mulI f h) :=
  s_op (r := fun _ => _) op_mulW (fun Z _ => opK_v fun H x y a b c Q rx ry e q => by
    cases rp_int rx
    cases rp_int ry
    obtain ⟨hc, rfl⟩ := ite_some e
    exact ⟨a, b, rfl, rfl, hc, q _ fun _ => .int _⟩) ha hb hm
theorem s_fdiv (ha : SE X Ve m1 p1 a f) (hb : SE X Ve m2 p2 b h) (hm : okM m1 p2 = true := by rfl) : SE X Ve .fr (p1 && p2) (.BinOp a .FloorDiv b pos) (op2 fdivI f h) :=
  s_op (r := fun _ => _) op_fdivX (fun Z _ => opK_v fun H x y a b c Q rx ry e q => by
    cases rp_int rx
    cases rp_int ry
    obtain ⟨hc, rfl⟩ := ite_some e
    exact ⟨a, b, rfl, rfl, hc, q _ fun _ => .int _⟩) ha hb hm
theorem s_mod (ha : SE X Ve m1 p1 a f) (hb : SE X Ve m2 p2 b h) (hm : okM m1 p2 = true := by rfl) : SE X Ve .fr (p1 && p2) (.BinOp a .Mod b pos) (op2 modI f h) :=
  s_op (r := fun _ => _) op_modN (fun Z _ => opK_v fun H x y a b c Q rx ry e q => by
    cases rp_int rx
    cases rp_int ry
    obtain ⟨hc, rfl⟩ := ite_some e
    exact ⟨a, b, rfl, rfl, hc, q _ fun _ => .int _⟩) ha hb hm
theorem s_pow (ha : SE X Ve m1 p1 a f) (hb : SE X Ve m2 p2 b h) (hm : okM m1 p2 = true := by rfl) : SE X Ve .fr (p1 && p2) (.BinOp a .Pow b pos) (op2 powI f h) :=
  s_op (r := fun _ => _) op_pow (fun Z _ => opK_v fun H x y a b c Q rx ry e q => by
    cases rp_int rx
    cases rp_int ry
    obtain ⟨hc, rfl⟩ := ite_some e
    exact ⟨a, b, rfl, rfl, hc, q _ fun _ => .int _⟩) ha hb hm
theorem s_shl (ha : SE X Ve m1 p1 a f) (hb : SE X Ve m2 p2 b h) (hm : okM m1 p2 = true := by rfl) : SE X Ve .fr (p1 && p2) (.BinOp a .LShift b pos) (op2 shlI f h) :=
  s_op (r := fun _ => _) op_shl (fun Z _ => opK_v fun H x y a b c Q rx ry e q => by
    cases rp_int rx
    cases rp_int ry
    obtain ⟨hc, rfl⟩ := ite_some e
    exact ⟨a, b, rfl, rfl, hc, q _ fun _ => .int _⟩) ha hb hm
theorem s_neg (ha : SE X Ve m p a f) : SE X Ve .fr p (.UnaryOp .USub a pos) (op1 negI f) :=
  s_un un_neg (fun Z _ => unK_v fun H x i c Q rx e q => by
    cases rp_int rx
    obtain rfl := some_inj' e
    exact ⟨i, rfl, q _ fun _ => .int _⟩) ha
theorem kLt {Z : Fix} : OpK Z (rI0 fun i j => .bl (decide (i < j))) m1 m2 .fr ltI Ve := opK_B0 fun i j c e => some_inj' e
theorem kLe {Z : Fix} : OpK Z (rI0 fun i j => .bl (decide (i ≤ j))) m1 m2 .fr leI Ve := opK_B0 fun i j c e => some_inj' e
theorem kGt {Z : Fix} : OpK Z (rI0 fun i j => .bl (decide (j < i))) m1 m2 .fr gtI Ve := opK_B0 fun i j c e => some_inj' e
theorem kGe {Z : Fix} : OpK Z (rI0 fun i j => .bl (decide (j ≤ i))) m1 m2 .fr geI Ve := opK_B0 fun i j c e => some_inj' e
theorem s_lt (ha : SE X Ve m1 p1 a f) (hb : SE X Ve m2 p2 b h) (hm : okM m1 p2 = true := by rfl) : SE X Ve .fr (p1 && p2) (.Compare a [.Lt] [b] pos) (op2 ltI f h) := s_cmp (r := fun _ => _) op_lt (fun _ _ => kLt) ha hb hm (nomark _)
theorem s_le (ha : SE X Ve m1 p1 a f) (hb : SE X Ve m2 p2 b h) (hm : okM m1 p2 = true := by rfl) : SE X Ve .fr (p1 && p2) (.Compare a [.LtE] [b] pos) (op2 leI f h) := s_cmp (r := fun _ => _) op_le (fun _ _ => kLe) ha hb hm (nomark _)
theorem s_gt (ha : SE X Ve m1 p1 a f) (hb : SE X Ve m2 p2 b h) (hm : okM m1 p2 = true := by rfl) : SE X Ve .fr (p1 && p2) (.Compare a [.Gt] [b] pos) (op2 gtI f h) := s_cmp (r := fun _ => _) op_gt (fun _ _ => kGt) ha hb hm (nomark _)
theorem s_ge (ha : SE X Ve m1 p1 a f) (hb : SE X Ve m2 p2 b h) (hm : okM m1 p2 = true := by rfl) : SE X Ve .fr (p1 && p2) (.Compare a [.GtE] [b] pos) (op2 geI f h) := s_cmp (r := fun _ => _) op_ge (fun _ _ => kGe) ha hb hm (nomark _)
theorem t_lt (ha : SE X Ve m1 p1 a f) (hb : SE X Ve m2 p2 b h) (hm : okM m1 p2 = true := by rfl) : ST X Ve (p1 && p2) (.Compare a [.Lt] [b] pos) (op2 ltI f h) := t_cmp (r := fun _ => _) op_lt (fun _ _ => kLt) ha hb hm (nomark _)
theorem t_le (ha : SE X Ve m1 p1 a f) (hb : SE X Ve m2 p2 b h) (hm : okM m1 p2 = true := by rfl) : ST X Ve (p1 && p2) (.Compare a [.LtE] [b] pos) (op2 leI f h) := t_cmp (r := fun _ => _) op_le (fun _ _ => kLe) ha hb hm (nomark _)
theorem t_gt (ha : SE X Ve m1 p1 a f) (hb : SE X Ve m2 p2 b h) (hm : okM m1 p2 = true := by rfl) : ST X Ve (p1 && p2) (.Compare a [.Gt] [b] pos) (op2 gtI f h) := t_cmp (r := fun _ => _) op_gt (fun _ _ => kGt) ha hb hm (nomark _)
theorem t_ge (ha : SE X Ve m1 p1 a f) (hb : SE X Ve m2 p2 b h) (hm : okM m1 p2 = true := by rfl) : ST X Ve (p1 && p2) (.Compare a [.GtE] [b] pos) (op2 geI f h) := t_cmp (r := fun _ => _) op_ge (fun _ _ => kGe) ha hb hm (nomark _)
end

/-! ### == over data -/
/-- types whose data are alike just where they are one -/
class EqE (α : Type) [Enc α] [DecidableEq α] where
  eqv : ∀ a b : α, PyData.eqv (enc a) (enc b) = decide (a = b)
  lay : ∀ a : α, PyData.canLay0 (enc a) = true
  dep : Nat
  depth : ∀ a : α, PyData.depth (enc a) ≤ dep
instance : EqE Int := ⟨fun a b => by show (a == b) = decide (a = b); by_cases h : a = b <;> simp [h], fun _ => rfl, 0, fun _ => Nat.le_refl _⟩
instance : EqE Bool := ⟨fun a b => by show (a == b) = decide (a = b); by_cases h : a = b <;> simp [h], fun _ => rfl, 0, fun _ => Nat.le_refl _⟩
instance : EqE Unit := ⟨fun a b => rfl, fun _ => rfl, 0, fun _ => Nat.le_refl _⟩
theorem eqvA2 {a b c d : D} : PyData.eqv (.tuple [a, b]) (.tuple [c, d]) = (PyData.eqv a c && PyData.eqv b d) := by simp [PyData.eqv, PyData.eqvAll]
theorem eqvA3 {a b c x y z : D} : PyData.eqv (.tuple [a, b, c]) (.tuple [x, y, z]) = (PyData.eqv a x && (PyData.eqv b y && PyData.eqv c z)) := by simp [PyData.eqv, PyData.eqvAll]
theorem eqvA4 {a b c d x y z u : D} : PyData.eqv (.tuple [a, b, c, d]) (.tuple [x, y, z, u]) = (PyData.eqv a x && (PyData.eqv b y && (PyData.eqv c z && PyData.eqv d u))) := by simp [PyData.eqv, PyData.eqvAll]
theorem eqvA5 {a b c d e x y z u w : D} : PyData.eqv (.tuple [a, b, c, d, e]) (.tuple [x, y, z, u, w]) = (PyData.eqv a x && (PyData.eqv b y && (PyData.eqv c z && (PyData.eqv d u && PyData.eqv e w)))) := by simp [PyData.eqv, PyData.eqvAll]
instance {α β : Type} [Enc α] [Enc β] [DecidableEq α] [DecidableEq β] [EqE α] [EqE β] : EqE (α × β) := ⟨fun a b => by
  show PyData.eqv (.tuple [enc a.1, enc a.2]) (.tuple [enc b.1, enc b.2]) = _
  rw [eqvA2, EqE.eqv, EqE.eqv]
  obtain ⟨a1, a2⟩ := a
  obtain ⟨b1, b2⟩ := b
  by_cases h1 : a1 = b1 <;> by_cases h2 : a2 = b2 <;> simp [h1, h2], fun a => by
  show PyData.canLay0 (.tuple [enc a.1, enc a.2]) = true
  simp [PyData.canLay0, PyData.canLayAll0, EqE.lay], max (EqE.dep α) (EqE.dep β) + 1, fun a => by
  show PyData.depth (.tuple [enc a.1, enc a.2]) ≤ _
  have h1 := EqE.depth a.1
  have h2 := EqE.depth a.2
  simp [PyData.depth, PyData.depthAll]
  omega⟩
instance {α β γ : Type} [Enc α] [Enc β] [Enc γ] [DecidableEq α] [DecidableEq β] [DecidableEq γ] [EqE α] [EqE β] [EqE γ] : EqE (T3 α β γ) := ⟨fun a b => by
  show PyData.eqv (.tuple [enc a.a, enc a.b, enc a.c]) (.tuple [enc b.a, enc b.b, enc b.c]) = _
  rw [eqvA3, EqE.eqv, EqE.eqv, EqE.eqv]
  obtain ⟨a1, a2, a3⟩ := a
  obtain ⟨b1, b2, b3⟩ := b
  by_cases h1 : a1 = b1 <;> by_cases h2 : a2 = b2 <;> by_cases h3 : a3 = b3 <;> simp [h1, h2, h3], fun a => by
  show PyData.canLay0 (.tuple [enc a.a, enc a.b, enc a.c]) = true
  simp [PyData.canLay0, PyData.canLayAll0, EqE.lay], max (EqE.dep α) (max (EqE.dep β) (EqE.dep γ)) + 1, fun a => by
  show PyData.depth (.tuple [enc a.a, enc a.b, enc a.c]) ≤ _
  have h1 := EqE.depth a.a
  have h2 := EqE.depth a.b
  have h3 := EqE.depth a.c
  simp [PyData.depth, PyData.depthAll]
  omega⟩
instance {α β γ δ : Type} [Enc α] [Enc β] [Enc γ] [Enc δ] [DecidableEq α] [DecidableEq β] [DecidableEq γ] [DecidableEq δ] [EqE α] [EqE β] [EqE γ] [EqE δ] : EqE (T4 α β γ δ) := ⟨fun a b => by
  show PyData.eqv (.tuple [enc a.a, enc a.b, enc a.c, enc a.d]) (.tuple [enc b.a, enc b.b, enc b.c, enc b.d]) = _
  rw [eqvA4, EqE.eqv, EqE.eqv, EqE.eqv, EqE.eqv]
  obtain ⟨a1, a2, a3, a4⟩ := a
  obtain ⟨b1, b2, b3, b4⟩ := b
  by_cases h1 : a1 = b1 <;> by_cases h2 : a2 = b2 <;> by_cases h3 : a3 = b3 <;> by_cases h4 : a4 = b4 <;> simp [h1, h2, h3, h4], fun a => by
  show PyData.canLay0 (.tuple [enc a.a, enc a.b, enc a.c, enc a.d]) = true
  simp [PyData.canLay0, PyData.canLayAll0, EqE.lay], max (EqE.dep α) (max (EqE.dep β) (max (EqE.dep γ) (EqE.dep δ))) + 1, fun a => by
  show PyData.depth (.tuple [enc a.a, enc a.b, enc a.c, enc a.d]) ≤ _
  have h1 := EqE.depth a.a
  have h2 := EqE.depth a.b
  have h3 := EqE.depth a.c
  have h4 := EqE.depth a.d
  simp [PyData.depth, PyData.depthAll]
  omega⟩
theorem eqvAll_enc {α : Type} [Enc α] [DecidableEq α] [EqE α] : ∀ l k : List α, PyData.eqvAll (l.map enc) (k.map enc) = decide (l = k)
  | [], [] => by simp [PyData.eqvAll]
  | [], b :: k => by simp [PyData.eqvAll]
  | a :: l, [] => by simp [PyData.eqvAll]
  | a :: l, b :: k => by
    show (PyData.eqv (enc a) (enc b) && PyData.eqvAll (l.map enc) (k.map enc)) = _
    rw [EqE.eqv, eqvAll_enc l k]
    by_cases h1 : a = b <;> by_cases h2 : l = k <;> simp [h1, h2]
theorem layAll_enc {α : Type} [Enc α] [DecidableEq α] [EqE α] : ∀ l : List α, PyData.canLayAll0 (l.map enc) = true
  | [] => rfl
  | a :: l => by
    show (PyData.canLay0 (enc a) && PyData.canLayAll0 (l.map enc)) = true
    rw [EqE.lay, layAll_enc l]
    rfl
theorem depthAll_enc {α : Type} [Enc α] [DecidableEq α] [EqE α] : ∀ l : List α, PyData.depthAll (l.map enc) ≤ EqE.dep α
  | [] => Nat.zero_le _
  | a :: l => by
    show max (PyData.depth (enc a)) (PyData.depthAll (l.map enc)) ≤ _
    have h1 := EqE.depth a
    have h2 := depthAll_enc l
    omega
instance {α : Type} [Enc α] [DecidableEq α] [EqE α] : EqE (List α) := ⟨fun a b => by
  show PyData.eqvAll (a.map enc) (b.map enc) = _
  exact eqvAll_enc a b, fun a => by
  show PyData.canLayAll0 (a.map enc) = true
  exact layAll_enc a, EqE.dep α + 1, fun a => by
  show PyData.depthAll (a.map enc) + 1 ≤ _
  have := depthAll_enc a
  omega⟩
theorem shaped_enc {α : Type} [Enc α] [DecidableEq α] [EqE α] (h : EqE.dep α ≤ 64) (a : α) : SeqAt.shaped (enc a) = true := by
  unfold SeqAt.shaped
  rw [EqE.lay, Bool.true_and]
  exact decide_eq_true (Nat.le_trans (EqE.depth a) h)
section
variable {X : Cx} {γ α : Type} [Enc α] [DecidableEq α] [EqE α] {Ve : Ev γ} {m1 m2 : Md} {p1 p2 : Bool} {a b : Expr} {pos : Pos} {f h : Ac γ α}
theorem kEq {Z : Fix} (hd : EqE.dep α ≤ 64) : OpK Z (rEqD Z.K) m1 m2 .fr (eqQ (α := α)) Ve := opK_v fun H x y a b c Q rx ry e q => by
  obtain rfl := some_inj' e
  exact ⟨_, _, rx.dp _ (EqE.lay _), ry.dp _ (EqE.lay _), shaped_enc hd a, shaped_enc hd b, by rw [EqE.eqv]; exact q _ fun _ => .bl _⟩
theorem kNe {Z : Fix} (hd : EqE.dep α ≤ 64) : OpK Z (rNeD Z.K) m1 m2 .fr (neQ (α := α)) Ve := opK_v fun H x y a b c Q rx ry e q => by
  obtain rfl := some_inj' e
  exact ⟨_, _, rx.dp _ (EqE.lay _), ry.dp _ (EqE.lay _), shaped_enc hd a, shaped_enc hd b, by rw [EqE.eqv]; exact q _ fun _ => .bl _⟩
theorem s_eq (hu : X.A.units + 64 < cLine) (ha : SE X Ve m1 p1 a f) (hb : SE X Ve m2 p2 b h) (hm : okM m1 p2 = true := by rfl) (hd : EqE.dep α ≤ 64 := by decide) : SE X Ve .fr (p1 && p2) (.Compare a [.Eq] [b] pos) (op2 eqQ f h) :=
  s_cmp (r := fun K => rEqD K) (op_eqD hu) (fun Z hK => hK ▸ kEq hd) ha hb hm (nomark _)
theorem s_ne (hu : X.A.units + 64 < cLine) (ha : SE X Ve m1 p1 a f) (hb : SE X Ve m2 p2 b h) (hm : okM m1 p2 = true := by rfl) (hd : EqE.dep α ≤ 64 := by decide) : SE X Ve .fr (p1 && p2) (.Compare a [.NotEq] [b] pos) (op2 neQ f h) :=
  s_cmp (r := fun K => rNeD K) (op_neD hu) (fun Z hK => hK ▸ kNe hd) ha hb hm (nomark _)
theorem t_eq (hu : X.A.units + 64 < cLine) (ha : SE X Ve m1 p1 a f) (hb : SE X Ve m2 p2 b h) (hm : okM m1 p2 = true := by rfl) (hd : EqE.dep α ≤ 64 := by decide) : ST X Ve (p1 && p2) (.Compare a [.Eq] [b] pos) (op2 eqQ f h) :=
  t_cmp (r := fun K => rEqD K) (op_eqD hu) (fun Z hK => hK ▸ kEq hd) ha hb hm (nomark _)
theorem t_ne (hu : X.A.units + 64 < cLine) (ha : SE X Ve m1 p1 a f) (hb : SE X Ve m2 p2 b h) (hm : okM m1 p2 = true := by rfl) (hd : EqE.dep α ≤ 64 := by decide) : ST X Ve (p1 && p2) (.Compare a [.NotEq] [b] pos) (op2 neQ f h) :=
  t_cmp (r := fun K => rNeD K) (op_neD hu) (fun Z hK => hK ▸ kNe hd) ha hb hm (nomark _)
end

/-! ### and, or, not, if-else -/
def andA {γ : Type} (f h : Ac γ Bool) : Ac γ Bool := bindA f fun b => if b = true then h else pureA fun _ => false
def orA {γ : Type} (f h : Ac γ Bool) : Ac γ Bool := bindA f fun b => if b = true then pureA fun _ => true else h
def notA {γ : Type} (f : Ac γ Bool) : Ac γ Bool := op1 (fun b => some (!b)) f
def iteA {γ α : Type} (c : Ac γ Bool) (f h : Ac γ α) : Ac γ α := bindA c fun b => if b = true then f else h
section
variable {X : Cx} {γ α : Type} [Enc α] {Ve : Ev γ} {m m1 m2 : Md} {p p1 p2 p3 : Bool} {a b c : Expr} {rest : List Expr} {pos : Pos} {f h : Ac γ Bool} {mg : Str → Option Value} {Z : Fix} {W : WX}
theorem tT_bind {k : Bool → Ac γ Bool} {σ : L2.St} {H : Hp} {Q : Bool → Hp → Prop} (h : tT mg Z W Ve (p1 && p2) (bindA f k) σ H Q) : tT mg Z W Ve p1 f σ H fun b H1 => tT mg Z W Ve p2 (k b) σ H1 Q := by
  obtain ⟨g, A, j, h⟩ := h
  refine ⟨g, A, j, ?_⟩
  unfold bindA at h
  cases ef : f g with
  | bad => rw [ef] at h; exact h
  | exc x g1 => rw [ef] at h; exact h
  | ok b g1 =>
    rw [ef] at h
    intro H1 j1 gr sm
    refine ⟨g1, A, j1, ?_⟩
    simp only at h
    cases ek : k b g1 with
    | bad => simp only [ek] at h
    | exc x g2 =>
      simp only [ek] at h
      exact fun c H2 mc j2 gr2 => h c H2 mc j2 (gr.trans gr2)
    | ok c g2 =>
      simp only [ek] at h
      exact fun H2 j2 gr2 sm2 => h H2 j2 (gr.trans gr2) fun z => (sm (Bool.and_eq_true_iff.mp z).1).trans (sm2 (Bool.and_eq_true_iff.mp z).2)
theorem tE_bindT {k : Bool → Ac γ α} {σ : L2.St} {H : Hp} {Q : VK} (h : tE mg Z W Ve m (p1 && p2) (bindA f k) σ H Q) : tT mg Z W Ve p1 f σ H fun b H1 => tE mg Z W Ve m p2 (k b) σ H1 Q := by
  obtain ⟨g, A, j, h⟩ := h
  refine ⟨g, A, j, ?_⟩
  unfold bindA at h
  cases ef : f g with
  | bad => rw [ef] at h; exact h
  | exc x g1 => rw [ef] at h; exact h
  | ok b g1 =>
    rw [ef] at h
    intro H1 j1 gr sm
    refine ⟨g1, A, j1, ?_⟩
    simp only at h
    cases ek : k b g1 with
    | bad => simp only [ek] at h
    | exc x g2 =>
      simp only [ek] at h
      exact fun c H2 mc j2 gr2 => h c H2 mc j2 (gr.trans gr2)
    | ok c g2 =>
      simp only [ek] at h
      exact fun v H2 j2 gr2 sm2 rv => h v H2 j2 (gr.trans gr2) (fun z => (sm (Bool.and_eq_true_iff.mp z).1).trans (sm2 (Bool.and_eq_true_iff.mp z).2)) rv
theorem tT_c {σ : L2.St} {H : Hp} {Q : Bool → Hp → Prop} {b : Bool} (h : tT mg Z W Ve p (pureA fun _ => b) σ H Q) : Q b H := by
  obtain ⟨g, A, j, h⟩ := h
  exact h H j (.refl H) fun _ => Same.refl H
theorem tE_cb {σ : L2.St} {H : Hp} {Q : VK} {b : Bool} (h : tE mg Z W Ve m p (pureA fun _ => b) σ H Q) (hm : m = .fr) : Q (.bl b) H := by
  obtain ⟨g, A, j, h⟩ := h
  subst hm
  exact h (.bl b) H j (.refl H) (fun _ => Same.refl H) (.bl b)
theorem w_and1 (ha : ST X Ve p a f) : SW X Ve p (.BoolOp .And [a] pos) f := ⟨fun Z W hK tk => pw_and1 (ha.run Z W hK tk)⟩
theorem w_or1 (ha : ST X Ve p a f) : SW X Ve p (.BoolOp .Or [a] pos) f := ⟨fun Z W hK tk => pw_or1 (ha.run Z W hK tk)⟩
theorem w_and (ha : ST X Ve p1 a f) (hb : SW X Ve p2 (.BoolOp .And (b :: rest) pos) h) : SW X Ve (p1 && p2) (.BoolOp .And (a :: b :: rest) pos) (andA f h) := ⟨fun Z W hK tk => (pw_and (ha.run Z W hK tk) (hb.run Z W hK tk)).weak fun σ H Q q => by
  have := tT_bind q
  unfold tAnd
  obtain ⟨g, A, j, z⟩ := this
  refine ⟨g, A, j, ?_⟩
  cases ef : f g with
  | bad => rw [ef] at z; exact z
  | exc x g1 => rw [ef] at z; exact z
  | ok b g1 =>
    rw [ef] at z
    intro H1 j1 gr sm
    have w := z H1 j1 gr sm
    cases b with
    | true => simpa using w
    | false => simpa using tT_c (p := p2) (by simpa using w)⟩
theorem w_or (ha : ST X Ve p1 a f) (hb : SW X Ve p2 (.BoolOp .Or (b :: rest) pos) h) : SW X Ve (p1 && p2) (.BoolOp .Or (a :: b :: rest) pos) (orA f h) := ⟨fun Z W hK tk => (pw_or (ha.run Z W hK tk) (hb.run Z W hK tk)).weak fun σ H Q q => by
  have := tT_bind q
  unfold tOr
  obtain ⟨g, A, j, z⟩ := this
  refine ⟨g, A, j, ?_⟩
  cases ef : f g with
  | bad => rw [ef] at z; exact z
  | exc x g1 => rw [ef] at z; exact z
  | ok b g1 =>
    rw [ef] at z
    intro H1 j1 gr sm
    have w := z H1 j1 gr sm
    cases b with
    | false => simpa using w
    | true => simpa using tT_c (p := p2) (by simpa using w)⟩
theorem SW.t {e : Expr} (h : SW X Ve p e f) : ST X Ve p e f := ⟨fun Z W hK tk => (h.run Z W hK tk).pt⟩
theorem t_not (ha : ST X Ve p a f) : ST X Ve p (.UnaryOp .Not a pos) (notA f) := ⟨fun Z W hK tk => (pt_not (ha.run Z W hK tk)).weak fun σ H Q q => by
  obtain ⟨g, A, j, q⟩ := q
  refine ⟨g, A, j, ?_⟩
  unfold notA op1 bindA at q
  cases ef : f g with
  | bad => rw [ef] at q; exact q
  | exc x g1 => rw [ef] at q; exact q
  | ok b g1 =>
    rw [ef] at q
    exact q⟩
theorem s_one {op} (h : SE X Ve .fr p a f) : SE X Ve .fr p (.BoolOp op [a] pos) f := ⟨fun Z W hK tk => pe_one (h.run Z W hK tk)⟩
theorem tE_tV {m : Md} {R : Bool → Hp → Prop} {σ : L2.St} {H : Hp} (h : tT mg Z W Ve p f σ H R) : tE mg Z W Ve m p f σ H fun x H1 => ∃ c, x = .bl c ∧ R c H1 := tT_test h
theorem s_and (ha : SE X Ve .fr p1 a f) (hb : SE X Ve .fr p2 (.BoolOp .And (b :: rest) pos) h) : SE X Ve .fr (p1 && p2) (.BoolOp .And (a :: b :: rest) pos) (andA f h) := ⟨fun Z W hK tk => (pe_and (ha.run Z W hK tk) (hb.run Z W hK tk)).weak fun σ H Q q => by
  refine tE_tV (R := fun c H1 => if c = true then _ else _) ?_
  have := tE_bindT q
  obtain ⟨g, A, j, z⟩ := this
  refine ⟨g, A, j, ?_⟩
  cases ef : f g with
  | bad => rw [ef] at z; exact z
  | exc x g1 => rw [ef] at z; exact z
  | ok b g1 =>
    rw [ef] at z
    intro H1 j1 gr sm
    have w := z H1 j1 gr sm
    cases b with
    | true => simpa using w
    | false => simpa using tE_cb (p := p2) (by simpa using w) rfl⟩
theorem s_or (ha : SE X Ve .fr p1 a f) (hb : SE X Ve .fr p2 (.BoolOp .Or (b :: rest) pos) h) : SE X Ve .fr (p1 && p2) (.BoolOp .Or (a :: b :: rest) pos) (orA f h) := ⟨fun Z W hK tk => (pe_or (ha.run Z W hK tk) (hb.run Z W hK tk)).weak fun σ H Q q => by
  refine tE_tV (R := fun c H1 => if c = true then _ else _) ?_
  have := tE_bindT q
  obtain ⟨g, A, j, z⟩ := this
  refine ⟨g, A, j, ?_⟩
  cases ef : f g with
  | bad => rw [ef] at z; exact z
  | exc x g1 => rw [ef] at z; exact z
  | ok b g1 =>
    rw [ef] at z
    intro H1 j1 gr sm
    have w := z H1 j1 gr sm
    cases b with
    | false => simpa using w
    | true => simpa using tE_cb (p := p2) (by simpa using w) rfl⟩
theorem s_not (ha : SE X Ve .fr p a f) : SE X Ve .fr p (.UnaryOp .Not a pos) (notA f) := ⟨fun Z W hK tk => (pe_not (ha.run Z W hK tk)).weak fun σ H Q q => by
  refine tE_tV (R := fun c H1 => Q (.bl (!c)) H1) ?_
  obtain ⟨g, A, j, q⟩ := q
  refine ⟨g, A, j, ?_⟩
  unfold notA op1 bindA at q
  cases ef : f g with
  | bad => rw [ef] at q; exact q
  | exc x g1 => rw [ef] at q; exact q
  | ok b g1 =>
    rw [ef] at q
    exact fun H1 j1 gr sm => q (.bl (!b)) H1 j1 gr sm (.bl (!b))⟩
theorem tE_p {f : Ac γ α} {σ : L2.St} {H : Hp} {Q : VK} (h : tE mg Z W Ve m p f σ H Q) (e : p = true → p1 = true) : tE mg Z W Ve m p1 f σ H Q := by
  obtain ⟨g, A, j, h⟩ := h
  refine ⟨g, A, j, ?_⟩
  cases ef : f g with
  | bad => rw [ef] at h; exact h
  | exc x g1 => rw [ef] at h; exact h
  | ok a g1 =>
    rw [ef] at h
    exact fun v H1 j1 gr sm rv => h v H1 j1 gr (fun z => sm (e z)) rv
theorem s_ife {c0 : Ac γ Bool} {f h : Ac γ α} (hc : ST X Ve p c c0) (ha : SE X Ve m p1 a f) (hb : SE X Ve m p2 b h) : SE X Ve m (p && (p1 && p2)) (.IfExp c a b pos) (iteA c0 f h) := ⟨fun Z W hK tk => (pe_ifExp (hc.run Z W hK tk) (ha.run Z W hK tk) (hb.run Z W hK tk)).weak fun σ H Q q => by
  have := tE_bindT q
  unfold tIf
  obtain ⟨g, A, j, z⟩ := this
  refine ⟨g, A, j, ?_⟩
  cases ef : c0 g with
  | bad => rw [ef] at z; exact z
  | exc x g1 => rw [ef] at z; exact z
  | ok b g1 =>
    rw [ef] at z
    intro H1 j1 gr sm
    have w := z H1 j1 gr sm
    cases b with
    | true => simpa using tE_p (p1 := p1) (by simpa using w) fun e => (Bool.and_eq_true_iff.mp e).1
    | false => simpa using tE_p (p1 := p2) (by simpa using w) fun e => (Bool.and_eq_true_iff.mp e).2⟩
end
end HL
/-! Fd: subscripts, slices, written tuples and lists, built-in functions. -/
namespace HL
open PySem PySem.Spec PyProof.Rows L2

def elM : Md → Bool
  | .an => false
  | .bt => false
  | _ => true
def mdB (b : Bool) : Md := if b = true then .fr else .an
section
variable {γ α : Type} [Enc α] {Z : Fix} {A : AT} {Ve : Ev γ} {g : γ} {σ : L2.St} {H : Hp} {m : Md} {v : L2.V}
theorem rm_els {l : List α} (h : Rm Z A Ve H m v (enc l)) : ∃ a vs, v = .ref a ∧ H a = some (.lst vs) ∧ RpA Z.K (hp Z (OwV A Ve) H (elM m)) vs (l.map enc) := by
  cases m with
  | fr =>
    obtain ⟨a, vs, e1, e2, e3⟩ := rp_list h
    exact ⟨a, vs, e1, gh_le _ _ e2, e3⟩
  | an =>
    obtain ⟨a, vs, e1, e2, e3⟩ := rp_list h
    exact ⟨a, vs, e1, fh_le _ _ e2, e3⟩
  | bo i =>
    obtain ⟨e1, _, vs, ds, e2, e3, e4⟩ := h
    cases e2
    exact ⟨_, vs, e1, e3, e4⟩
  | bt =>
    obtain ⟨a, vs, ds, e1, e2, e3, e4⟩ := h
    cases e2
    exact ⟨a, vs, e1, e3, e4⟩
theorem rm_elsF [Flat α] {l : List α} (j : J Z A (at_ Ve g) σ H) (h : Rm Z A Ve H m v (enc l)) : ∃ a vs, v = .ref a ∧ H a = some (.lst vs) ∧ RpA Z.K (GH Z (OwV A Ve) H) vs (l.map enc) := by
  obtain ⟨a, vs, e1, e2, e3⟩ := rm_els h
  refine ⟨a, vs, e1, e2, ?_⟩
  have := j.flatA (flatA_map l) (RpA.mono hp_le _ e3)
  rw [ow_at] at this
  exact this
theorem rm_elsT {l : List α} (ht : elM m = true) (h : Rm Z A Ve H m v (enc l)) : ∃ a vs, v = .ref a ∧ H a = some (.lst vs) ∧ RpA Z.K (GH Z (OwV A Ve) H) vs (l.map enc) := by
  obtain ⟨a, vs, e1, e2, e3⟩ := rm_els h
  rw [ht] at e3
  exact ⟨a, vs, e1, e2, e3⟩
theorem rm_hp {b : Bool} {d : D} (h : Rp Z.K (hp Z (OwV A Ve) H b) v d) : Rm Z A Ve H (mdB b) v d := by
  cases b with
  | true => exact h
  | false => exact h
end
theorem seqL {K : PySem.W.Frag} {H : Hp} {a : Addr} {xs : List L2.V} (h : H a = some (.lst xs)) : SqL K H a xs := .inl (.inl h)

/-! ### subscripts -/
theorem atI_map {α β : Type} (f : α → β) (l : List α) (i : Int) : atI (l.map f) i = (atI l i).map f := by
  unfold atI
  rw [List.length_map]
  cases ixN l.length i with
  | none => rfl
  | some j =>
    show (l.map f)[j]? = (l[j]?).map f
    rw [List.getElem?_map]
theorem rpA_at {K : PySem.W.Frag} {H : Hp} {vs : List L2.V} {ds : List D} {i : Int} {d : D} (h : RpA K H vs ds) (e : atI ds i = some d) : ∃ v, atI vs i = some v ∧ Rp K H v d := by
  unfold atI at e ⊢
  rw [h.length]
  cases q : ixN ds.length i with
  | none => rw [q] at e; cases e
  | some j =>
    rw [q] at e
    exact h.get e
section
variable {X : Cx} {γ α β δ : Type} [Enc α] [Enc β] [Enc δ] {Ve : Ev γ} {m m1 m2 : Md} {p p1 p2 p3 : Bool} {a b c : Expr} {pos : Pos}
theorem s_ix {f : Ac γ (List α)} {h : Ac γ Int} (ha : SE X Ve m p1 a f) (hb : SE X Ve .fr p2 b h) (hm : okM m p2 = true := by rfl) (hs : PlainIx b := by exact fun _ _ => rfl) : SE X Ve (mdB (elM m)) (p1 && p2) (.Subscript a b pos) (op2 atI f h) :=
  ⟨fun Z W hK tk => (pe_ix (r := rIxL X.K) ix_list (ha.run Z W hK tk) (hb.run Z W hK tk) hs).weak fun _ _ _ q => tOp_ok (fun A g σ H x y l i c Q j rx ry e q => by
    obtain ⟨t, vs, rfl, e2, e3⟩ := rm_els rx
    cases rp_int ry.full
    obtain ⟨v, e4, e5⟩ := rpA_at e3 (by rw [atI_map, e]; rfl)
    exact ⟨t, vs, i, v, rfl, rfl, seqL e2, e4, q v H (Same.refl H) j (rm_hp e5)⟩) hm q⟩
/-- a tuple's part at a written place -/
theorem sqt_new {K : PySem.W.Frag} {H : Hp} {q : Addr} {vs : List L2.V} (h : H q = some (.tup vs)) : SqT K H q vs := .inl (.inl h)
theorem rp_tupleH {K : PySem.W.Frag} {H : Hp} {v : L2.V} {ds : List D} (h : Rp K H v (.tuple ds)) : ∃ a vs, v = .ref a ∧ H a = some (.tup vs) ∧ RpA K H vs ds := by
  cases h with
  | tup h1 h2 => exact ⟨_, _, rfl, h1, h2⟩
theorem rp_tuple {K : PySem.W.Frag} {H : Hp} {v : L2.V} {ds : List D} (h : Rp K H v (.tuple ds)) : ∃ a vs, v = .ref a ∧ SqT K H a vs ∧ RpA K H vs ds := by
  cases h with
  | tup h1 h2 => exact ⟨_, _, rfl, sqt_new h1, h2⟩
def prM : Md → Md
  | .an => .an
  | _ => .fr
theorem rm_tup {Z : Fix} {A : AT} {g : γ} {σ : L2.St} {H : Hp} {v : L2.V} {ds : List D} (h : Rm Z A Ve H m v (.tuple ds)) : ∃ a vs, v = .ref a ∧ SqT Z.K H a vs ∧ RpA Z.K (hp Z (OwV A Ve) H (elM m)) vs ds := by
  cases m with
  | fr =>
    obtain ⟨a, vs, e1, e2, e3⟩ := rp_tuple h
    exact ⟨a, vs, e1, sqT_same gh_le e2, e3⟩
  | an =>
    obtain ⟨a, vs, e1, e2, e3⟩ := rp_tuple h
    exact ⟨a, vs, e1, sqT_same fh_le e2, e3⟩
  | bo i =>
    obtain ⟨_, _, vs, ds', e, _⟩ := h
    cases e
  | bt =>
    obtain ⟨_, _, _, _, e, _⟩ := h
    cases e
theorem s_pr {f : Ac γ α} (n : Int) (pr : α → δ) {j pos' : _} (ha : SE X Ve m p a f) (h : ∀ x : α, ∃ ds, enc x = .tuple ds ∧ atI ds n = some (enc (pr x)) := by exact fun _ => ⟨_, rfl, rfl⟩) :
    SE X Ve (mdB (elM m)) p (.Subscript a (.Constant (.int n) j pos') pos) (op1 (fun x => some (pr x)) f) :=
  ⟨fun Z W hK tk => (pe_ix (r := rIxT X.K) ix_tup (ha.run Z W hK tk) pe_int (fun _ _ => rfl)).weak fun σ H Q q => by
    refine tUn_ok (r := fun x H Q => rIxT X.K x (.int n) H Q) (m1 := m) (fun A g σ H x l c Q j rx e q => ?_) q
    obtain ⟨ds, e1, e2⟩ := h l
    rw [e1] at rx
    obtain ⟨t, vs, rfl, e3, e4⟩ := rm_tup (g := g) (σ := σ) rx
    obtain rfl := some_inj' e
    obtain ⟨v, e5, e6⟩ := rpA_at e4 e2
    exact ⟨t, vs, n, v, rfl, rfl, hK ▸ e3, e5, q v H (Same.refl H) j (rm_hp e6)⟩⟩

/-! ### slices -/
def cut {α : Type} (lo hi : Option Int) (xs : List α) : List α := (xs.drop (HT.sIx xs.length 0 lo)).take (HT.sIx xs.length xs.length hi - HT.sIx xs.length 0 lo)
theorem cut_map {α β : Type} (f : α → β) (lo hi : Option Int) (l : List α) : cut lo hi (l.map f) = (cut lo hi l).map f := by
  unfold cut
  rw [List.length_map, List.map_take, List.map_drop]
theorem rpA_cut {K : PySem.W.Frag} {H : Hp} {vs : List L2.V} {ds : List D} {lo hi : Option Int} (h : RpA K H vs ds) : RpA K H (cutV vs lo hi) (cut lo hi ds) := by
  unfold cutV cut
  rw [h.length]
  exact (h.drop _).take _
end
def tO {γ : Type} (mg : Str → Option Value) (Z : Fix) (W : WX) (Ve : Ev γ) (p : Bool) (f : Ac γ (Option Int)) : TO := fun σ H Q => ∃ g A, J Z A (at_ Ve g) σ H ∧
  match f g with
  | .ok a g' => ∀ H', J Z A (at_ Ve g') σ H' → Gr (OwV A Ve) H H' → (p = true → Same H H') → Q a H'
  | .exc x g' => ∀ c H', mg x = some c → J Z A (at_ Ve g') σ H' → Gr (OwV A Ve) H H' → W c none σ H'
  | .bad => False
structure SO (X : Cx) {γ : Type} (Ve : Ev γ) (p : Bool) (e : Option Expr) (f : Ac γ (Option Int)) : Prop where
  run : ∀ (Z : Fix) (W : WX), Z.K = X.K → Takes X W → PO X e (tO X.mg Z W Ve p f)
section
variable {X : Cx} {γ α β δ : Type} [Enc α] [Enc β] [Enc δ] {Ve : Ev γ} {m m1 m2 : Md} {p p1 p2 p3 : Bool} {a b c : Expr} {pos pos2 : Pos} {lo hi : Option Expr} {mg : Str → Option Value} {Z : Fix} {W : WX}
theorem PO.weak {e : Option Expr} {t t' : TO} (h : PO X e t) (w : ∀ σ H Q, t' σ H Q → t σ H Q) : PO X e t' := ⟨fun pins s σ H Q I q => h.run pins s σ H Q I (w σ H Q q)⟩
theorem o_none : SO X Ve true none (pureA fun _ => none) := ⟨fun Z W hK tk => PO.weak po_none fun σ H Q q => by
  obtain ⟨g, A, j, q⟩ := q
  exact q H j (.refl H) fun _ => Same.refl H⟩
theorem o_some {f : Ac γ Int} (h : SE X Ve m p a f) : SO X Ve p (some a) (op1 (fun i => some (some i)) f) := ⟨fun Z W hK tk => PO.weak (po_some (h.run Z W hK tk)) fun σ H Q q => by
  obtain ⟨g, A, j, q⟩ := q
  refine ⟨g, A, j, ?_⟩
  unfold op1 bindA at q
  cases ef : f g with
  | bad => rw [ef] at q; exact q
  | exc x g1 => rw [ef] at q; exact q
  | ok b g1 =>
    rw [ef] at q
    intro v H1 j1 gr sm rv
    exact ⟨b, rp_int rv.full, q H1 j1 gr sm⟩⟩
def slA {γ α : Type} (f : Ac γ (List α)) (l h : Ac γ (Option Int)) : Ac γ (List α) := bindA f fun x => bindA l fun lo => bindA h fun hi => pureA fun _ => cut lo hi x
theorem s_sl {f : Ac γ (List α)} {l h : Ac γ (Option Int)} (ha : SE X Ve m p1 a f) (hl : SO X Ve p2 lo l) (hh : SO X Ve p3 hi h) (hm : okM m (p2 && p3) = true := by rfl)
    (he : (∀ Z : Fix, ∀ A g σ H v (x : List α), J Z A (at_ Ve g) σ H → Rm Z A Ve H m v (enc x) → ∃ a vs, v = .ref a ∧ H a = some (.lst vs) ∧ RpA Z.K (GH Z (OwV A Ve) H) vs (x.map enc)) := by first | exact fun _ _ _ _ _ _ _ j r => rm_elsT rfl r | exact fun _ _ _ _ _ _ _ j r => rm_elsF j r) :
    SN X Ve (p1 && (p2 && p3)) (.Subscript a (.Slice lo hi none pos2) pos) (slA f l h) := ⟨fun Z W hK tk => (pe_slice sl_list (ha.run Z W hK tk) (hl.run Z W hK tk) (hh.run Z W hK tk)).weak fun σ H Q q => by
  obtain ⟨g, A, j, q⟩ := q
  refine ⟨g, A, j, ?_⟩
  unfold slA bindA at q
  cases ef : f g with
  | bad => rw [ef] at q; exact q
  | exc x g1 => rw [ef] at q; exact q
  | ok x g1 =>
    rw [ef] at q
    intro v H1 j1 gr1 sm1 rv
    refine ⟨g1, A, j1, ?_⟩
    simp only at q
    cases el : l g1 with
    | bad => simp only [el] at q
    | exc x g2 =>
      simp only [el] at q
      exact fun c H2 mc j2 gr2 => q c H2 mc j2 (gr1.trans gr2)
    | ok lo' g2 =>
      simp only [el] at q
      intro H2 j2 gr2 sm2
      refine ⟨g2, A, j2, ?_⟩
      cases eh : h g2 with
      | bad => simp only [eh] at q
      | exc x g3 =>
        simp only [eh] at q
        exact fun c H3 mc j3 gr3 => q c H3 mc j3 ((gr1.trans gr2).trans gr3)
      | ok hi' g3 =>
        simp only [eh] at q
        intro H3 j3 gr3 sm3
        have rv3 := rv.step (p := p2 && p3) (gr2.trans gr3) (fun z => (sm2 (Bool.and_eq_true_iff.mp z).1).trans (sm3 (Bool.and_eq_true_iff.mp z).2)) hm
        obtain ⟨t, vs, rfl, e2, e3⟩ := he Z A g3 σ H3 v x j3 rv3
        refine ⟨t, vs, rfl, seqL e2, fun n hn => q n _ H3 hn j3 ((gr1.trans gr2).trans gr3) (fun z => ((sm1 (Bool.and_eq_true_iff.mp z).1).trans (sm2 (Bool.and_eq_true_iff.mp (Bool.and_eq_true_iff.mp z).2).1)).trans (sm3 (Bool.and_eq_true_iff.mp (Bool.and_eq_true_iff.mp z).2).2)) ?_⟩
        rw [← cut_map]
        exact rpA_cut e3⟩
end

/-! ### lists of expressions -/
inductive AK where
  | val (m : Md)
  | slot (i : Nat)
  | scr
  | tr (i : Nat)
  | tb (i : Nat)
/-- what may be read where the tree in the slot i is lent -/
noncomputable def XH {γ : Type} (Z : Fix) (A : AT) (Ve : Ev γ) (i : Nat) (H : Hp) : Hp := hide (fun a => (Z.S a ∨ OwV A Ve a) ∧ a ∉ A.ext i) H
def RmA {γ : Type} (Z : Fix) (A : AT) (Ve : Ev γ) (H : Hp) : List AK → List L2.V → List D → Prop
  | [], [], [] => True
  | .val m :: ks, v :: vs, d :: ds => Rm Z A Ve H m v d ∧ RmA Z A Ve H ks vs ds
  | .slot i :: ks, v :: vs, _ :: ds => v = .ref (A i) ∧ RmA Z A Ve H ks vs ds
  | .scr :: ks, v :: vs, d :: ds => (∃ (a : Addr) (ns : List Int), v = .ref a ∧ d = .list (ns.map PyData.int) ∧ SqL Z.K (FH Z (OwV A Ve) H) a (ns.map V.int)) ∧ RmA Z A Ve H ks vs ds
  | .tr i :: ks, v :: vs, _ :: ds => v = A.rv i ∧ RmA Z A Ve H ks vs ds
  | .tb i :: ks, v :: vs, d :: ds => Rp Z.K (XH Z A Ve i H) v d ∧ RmA Z A Ve H ks vs ds
  | _, _, _ => False
def tA {γ τ : Type} (mg : Str → Option Value) (Z : Fix) (W : WX) (Ve : Ev γ) (ks : List AK) (p : Bool) (el : τ → List D) (f : Ac γ τ) : TA := fun σ H Q => ∃ g A, J Z A (at_ Ve g) σ H ∧
  match f g with
  | .ok a g' => ∀ vs H', J Z A (at_ Ve g') σ H' → Gr (OwV A Ve) H H' → (p = true → Same H H') → RmA Z A Ve H' ks vs (el a) → Q vs H'
  | .exc x g' => ∀ c H', mg x = some c → J Z A (at_ Ve g') σ H' → Gr (OwV A Ve) H H' → W c none σ H'
  | .bad => False
structure SA (X : Cx) {γ τ : Type} (Ve : Ev γ) (ks : List AK) (p : Bool) (es : List Expr) (el : τ → List D) (f : Ac γ τ) : Prop where
  run : ∀ (Z : Fix) (W : WX), Z.K = X.K → Takes X W → PA X es (tA X.mg Z W Ve ks p el f)
def pairA {γ α τ : Type} (f : Ac γ α) (h : Ac γ τ) : Ac γ (α × τ) := bindA f fun a => bindA h fun b => pureA fun _ => (a, b)
theorem _root_.L2.PA.weak {X : Cx} {es : List Expr} {t t' : TA} (h : PA X es t) (w : ∀ σ H Q, t' σ H Q → t σ H Q) : PA X es t' := ⟨fun pos pins s σ H Q I q => h.run pos pins s σ H Q I (w σ H Q q)⟩
section
variable {X : Cx} {γ α β δ τ : Type} [Enc α] [Enc β] [Enc δ] {Ve : Ev γ} {m m1 m2 : Md} {p p1 p2 p3 : Bool} {a b c e : Expr} {es : List Expr} {pos pos2 : Pos} {ks : List AK} {mg : Str → Option Value} {Z : Fix} {W : WX}
theorem a_nil : SA X Ve [] true [] (fun _ : Unit => []) (pureA fun _ => ()) := ⟨fun Z W hK tk => pa_nil.weak fun σ H Q q => by
  obtain ⟨g, A, j, q⟩ := q
  exact q [] H j (.refl H) (fun _ => Same.refl H) trivial⟩
theorem a_cons {el : τ → List D} {f : Ac γ α} {h : Ac γ τ} (ha : SE X Ve m p1 e f) (hr : SA X Ve ks p2 es el h) (hm : okM m p2 = true := by rfl) (hs : starEach (e :: es) X.env = (false, eval e X.env) :: starEach es X.env := by rfl) :
    SA X Ve (.val m :: ks) (p1 && p2) (e :: es) (fun t : α × τ => enc t.1 :: el t.2) (pairA f h) := ⟨fun Z W hK tk => (pa_cons (ha.run Z W hK tk) (hr.run Z W hK tk) hs).weak fun σ H Q q => by
  obtain ⟨g, A, j, q⟩ := q
  refine ⟨g, A, j, ?_⟩
  unfold pairA bindA at q
  cases ef : f g with
  | bad => rw [ef] at q; exact q
  | exc x g1 => rw [ef] at q; exact q
  | ok x g1 =>
    rw [ef] at q
    intro v H1 j1 gr1 sm1 rv
    refine ⟨g1, A, j1, ?_⟩
    simp only at q
    cases eh : h g1 with
    | bad => simp only [eh] at q
    | exc x g2 =>
      simp only [eh] at q
      exact fun c H2 mc j2 gr2 => q c H2 mc j2 (gr1.trans gr2)
    | ok t g2 =>
      simp only [eh] at q
      intro vs H2 j2 gr2 sm2 rvs
      exact q (v :: vs) H2 j2 (gr1.trans gr2) (fun z => (sm1 (Bool.and_eq_true_iff.mp z).1).trans (sm2 (Bool.and_eq_true_iff.mp z).2)) ⟨rv.step gr2 sm2 hm, rvs⟩⟩
/-- a list of one's own handed on as it stands at the call -/
theorem a_slot {el : τ → List D} {h : Ac γ τ} (i : Nat) {n : Str} (hr : SA X Ve ks p es el h) (hi : ∃ ds, Ve[i]? = some (.own ds) := by exact ⟨_, rfl⟩) (hN : X.N[i]? = some n := by rfl)
    (hv : Vis X.env.scope n := by first | exact Or.inl rfl | exact Or.inr (Or.inl rfl) | exact Or.inr (Or.inr rfl)) (hd : (n == ("__debug__" : Str)) = false := by decide) (hcd : (n == ("__classdict__" : Str)) = false := by decide)
    (hs : starEach (.Name n pos :: es) X.env = (false, eval (.Name n pos) X.env) :: starEach es X.env := by rfl) :
    SA X Ve (.slot i :: ks) p (.Name n pos :: es) (fun t => .none :: el t) h := ⟨fun Z W hK tk => (pa_cons (pe_var hN hv hd hcd) (hr.run Z W hK tk) hs).weak fun σ H Q q => by
  obtain ⟨g, A, j, q⟩ := q
  obtain ⟨ds, hi⟩ := hi
  have hr : (at_ Ve g)[i]? = some (.own (ds g)) := by rw [at_get, hi]; rfl
  obtain ⟨e1, _⟩ := j.own i _ hr
  refine ⟨_, e1, g, A, j, ?_⟩
  cases eh : h g with
  | bad => simp only [eh] at q
  | exc x g2 => simp only [eh] at q; exact q
  | ok t g2 =>
    simp only [eh] at q
    intro vs H2 j2 gr2 sm2 rvs
    exact q (_ :: vs) H2 j2 gr2 sm2 ⟨rfl, rvs⟩⟩

/-- the script handed on -/
theorem a_scr {el : τ → List D} {h : Ac γ τ} (i : Nat) (x : γ → List Int) {n : Str} (hr : SA X Ve ks p es el h) (hi : Ve[i]? = some (.scr x) := by rfl) (hN : X.N[i]? = some n := by rfl)
    (hv : Vis X.env.scope n := by first | exact Or.inl rfl | exact Or.inr (Or.inl rfl) | exact Or.inr (Or.inr rfl)) (hd : (n == ("__debug__" : Str)) = false := by decide) (hcd : (n == ("__classdict__" : Str)) = false := by decide)
    (hs : starEach (.Name n pos :: es) X.env = (false, eval (.Name n pos) X.env) :: starEach es X.env := by rfl) :
    SA X Ve (.scr :: ks) p (.Name n pos :: es) (fun t : List Int × τ => .list (t.1.map .int) :: el t.2) (pairA (pureA x) h) := ⟨fun Z W hK tk => (pa_cons (pe_var hN hv hd hcd) (hr.run Z W hK tk) hs).weak fun σ H Q q => by
  obtain ⟨g, A, j, q⟩ := q
  have hr : (at_ Ve g)[i]? = some (.scr (x g)) := by rw [at_get, hi]; rfl
  obtain ⟨a, e1, e2⟩ := j.scr i _ hr
  rw [ow_at] at e2
  refine ⟨_, e1, g, A, j, ?_⟩
  unfold pairA bindA pureA at q
  simp only at q
  cases eh : h g with
  | bad => simp only [eh] at q
  | exc x g2 => simp only [eh] at q; exact q
  | ok t g2 =>
    simp only [eh] at q
    intro vs H2 j2 gr2 sm2 rvs
    exact q (_ :: vs) H2 j2 gr2 sm2 ⟨⟨a, x g, rfl, rfl, sqL_same gr2.fh e2⟩, rvs⟩⟩

/-- all items known in one way -/
def allK (b : Bool) : List AK → Bool
  | [] => true
  | .val .fr :: ks => allK b ks
  | .val .an :: ks => !b && allK b ks
  | _ => false
theorem rmA_all {A : AT} {H : Hp} {b : Bool} : ∀ {ks : List AK} {vs : List L2.V} {ds : List D}, allK b ks = true → RmA Z A Ve H ks vs ds → RpA Z.K (hp Z (OwV A Ve) H b) vs ds
  | [], [], [], _, _ => .nil
  | .val .fr :: ks, v :: vs, d :: ds, h, r => .cons (by
      cases b with
      | true => exact r.1
      | false => exact Rm.an r.1) (rmA_all (ks := ks) h r.2)
  | .val .an :: ks, v :: vs, d :: ds, h, r => .cons (by
      cases b with
      | true => exact absurd h (by simp [allK])
      | false => exact r.1) (rmA_all (ks := ks) (by
      cases b with
      | true => exact absurd h (by simp [allK])
      | false => simpa [allK] using h) r.2)
  | .val (.bo _) :: ks, _ :: _, _ :: _, h, _ => by simp [allK] at h
  | .val .bt :: ks, _ :: _, _ :: _, h, _ => by simp [allK] at h
  | .val .bt :: _, [], _, h, _ => by simp [allK] at h
  | .val .bt :: _, _ :: _, [], h, _ => by simp [allK] at h
  | .slot _ :: ks, _ :: _, _ :: _, h, _ => by simp [allK] at h
  | .tr _ :: ks, _ :: _, _ :: _, h, _ => by simp [allK] at h
  | .tb _ :: ks, _ :: _, _ :: _, h, _ => by simp [allK] at h
  | .tr _ :: ks, [], _, h, _ => by simp [allK] at h
  | .tb _ :: ks, [], _, h, _ => by simp [allK] at h
  | .tr _ :: ks, _ :: _, [], h, _ => by simp [allK] at h
  | .tb _ :: ks, _ :: _, [], h, _ => by simp [allK] at h
  | .scr :: ks, _ :: _, _ :: _, h, _ => by simp [allK] at h
  | .scr :: _, [], _, h, _ => by simp [allK] at h
  | .scr :: _, _ :: _, [], h, _ => by simp [allK] at h
  | [], _ :: _, _, _, r => by cases r
  | [], [], _ :: _, _, r => by cases r
  | .val .fr :: _, [], _, _, r => by cases r
  | .val .an :: _, [], _, _, r => by cases r
  | .val .fr :: _, _ :: _, [], _, r => by cases r
  | .val .an :: _, _ :: _, [], _, r => by cases r
  | .val (.bo _) :: _, [], _, h, _ => by simp [allK] at h
  | .slot _ :: _, [], _, h, _ => by simp [allK] at h
  | .val (.bo _) :: _, _ :: _, [], h, _ => by simp [allK] at h
  | .slot _ :: _, _ :: _, [], h, _ => by simp [allK] at h
theorem smallN {n : Nat} (h : n ≤ 1000) : n ≤ sizeLine := Nat.le_of_lt (small1000 h)
/-- a written tuple -/
theorem s_tup {el : τ → List D} {f : Ac γ τ} (mk : τ → δ) (b : Bool) {k : _} (ha : SA X Ve ks p es el f) (hk : allK b ks = true := by rfl) (hmk : ∀ t, enc (mk t) = .tuple (el t) := by exact fun _ => rfl) (hl : ∀ t, (el t).length ≤ 1000 := by exact fun _ => of_decide_eq_true rfl) :
    SE X Ve (mdB b) p (.Tuple es k pos) (op1 (fun t => some (mk t)) f) := ⟨fun Z W hK tk => (pe_tup (ha.run Z W hK tk)).weak fun σ H Q q => by
  obtain ⟨g, A, j, q⟩ := q
  refine ⟨g, A, j, ?_⟩
  unfold op1 bindA at q
  cases ef : f g with
  | bad => rw [ef] at q; exact q
  | exc x g1 => rw [ef] at q; exact q
  | ok t g1 =>
    rw [ef] at q
    intro vs H1 j1 gr sm rvs
    have ra := rmA_all hk rvs
    refine ⟨by rw [ra.length]; exact smallN (hl t), fun n hn => q (.ref n) _ (j1.new hn) (gr.trans (.of (same_new hn))) (fun z => (sm z).trans (same_new hn)) ?_⟩
    rw [hmk]
    have hn' := j1.ghnew (o := .tup vs) hn
    rw [ow_at] at hn'
    have ra' := RpA.mono (Gr.of (same_new (o := .tup vs) hn)).hp _ ra
    cases b with
    | true => exact .tup hn' ra'
    | false => exact .tup (gh_fh _ _ hn') ra'⟩
/-- a written list -/
theorem s_lst {el : τ → List D} {f : Ac γ τ} (mk : τ → List δ) (ha : SA X Ve ks p es el f) (hk : allK true ks = true := by rfl) (hmk : ∀ t, (mk t).map enc = el t := by exact fun _ => rfl) (hl : ∀ t, (el t).length ≤ 1000 := by exact fun _ => of_decide_eq_true rfl) :
    SN X Ve p (.List es pos) (op1 (fun t => some (mk t)) f) := ⟨fun Z W hK tk => (pe_lst (ha.run Z W hK tk)).weak fun σ H Q q => by
  obtain ⟨g, A, j, q⟩ := q
  refine ⟨g, A, j, ?_⟩
  unfold op1 bindA at q
  cases ef : f g with
  | bad => rw [ef] at q; exact q
  | exc x g1 => rw [ef] at q; exact q
  | ok t g1 =>
    rw [ef] at q
    intro vs H1 j1 gr sm rvs
    have ra := rmA_all hk rvs
    refine ⟨by rw [ra.length]; exact smallN (hl t), fun n hn => q n vs H1 hn j1 gr sm ?_⟩
    rw [hmk]
    exact ra⟩

/-! ### built-in functions -/
theorem tCB1 {r : List L2.V → Hp → VK → Prop} {te : TE} : tCB r (tCons te tNil) = tUn (fun x => r [x]) te := rfl
theorem tCB2 {r : List L2.V → Hp → VK → Prop} {ta tb : TE} : tCB r (tCons ta (tCons tb tNil)) = tOp (fun x y => r [x, y]) ta tb := rfl
theorem s_b1 {x id : Str} {id' : String} {r : PySem.W.Frag → List L2.V → Hp → VK → Prop} {k : α → Option δ} {f : Ac γ α} {mr : Md} {p0 : Pos} (hc : CallR X (.builtin id') (r X.K)) (hk : ∀ Z : Fix, Z.K = X.K → UnK Z (fun v => r X.K [v]) m mr k Ve) (hm : X.mg x = none) (ha : SE X Ve m p e f)
    (hv : bootBuiltins x = some (.builtin id')) (hg : Gl X x := by rfl) (hn : x ≠ "__name__" := by decide) (hdb : (x == ("__debug__" : Str)) = false := by decide) (hs : starEach [e] X.env = [(false, eval e X.env)] := by rfl)
    (he : starEach (e :: []) X.env = (false, eval e X.env) :: starEach [] X.env := by rfl) (hpl : (backTo pos (starEach [] X.env)).any (·.1) = false := by rfl) : SE X Ve mr p (.Call (.Name x p0) [e] [] pos) (op1 k f) :=
  ⟨fun Z W hK tk => (pe_callB hc hg hm hv (pa_cons (ha.run Z W hK tk) pa_nil he) hn hdb he hpl).weak fun σ H Q q => by
    rw [tCB1]
    exact tUn_ok (hk Z hK) q⟩
theorem s_b1N {x : Str} {id' : String} {r : PySem.W.Frag → List L2.V → Hp → VK → Prop} {k : α → Option (List δ)} {f : Ac γ α} {p0 : Pos} (hc : CallR X (.builtin id') (r X.K)) (hk : ∀ Z : Fix, Z.K = X.K → UnN Z (fun v => r X.K [v]) m k Ve) (hm : X.mg x = none) (ha : SE X Ve m p e f)
    (hv : bootBuiltins x = some (.builtin id')) (hg : Gl X x := by rfl) (hn : x ≠ "__name__" := by decide) (hdb : (x == ("__debug__" : Str)) = false := by decide)
    (he : starEach (e :: []) X.env = (false, eval e X.env) :: starEach [] X.env := by rfl) (hpl : (backTo pos (starEach [] X.env)).any (·.1) = false := by rfl) : SN X Ve p (.Call (.Name x p0) [e] [] pos) (op1 k f) :=
  ⟨fun Z W hK tk => (pe_callB hc hg hm hv (pa_cons (ha.run Z W hK tk) pa_nil he) hn hdb he hpl).weak fun σ H Q q => by
    rw [tCB1]
    exact tUnN_ok (hk Z hK) q⟩
theorem s_t1 {x : Str} {T : String} {r : PySem.W.Frag → List L2.V → Hp → VK → Prop} {k : α → Option δ} {f : Ac γ α} {mr : Md} {p0 : Pos} (hc : CallR X (.type T) (r X.K)) (hk : ∀ Z : Fix, Z.K = X.K → UnK Z (fun v => r X.K [v]) m mr k Ve) (hm : X.mg x = none) (ha : SE X Ve m p e f)
    (hv : bootBuiltins x = some (.type T)) (hg : Gl X x := by rfl) (hn : x ≠ "__name__" := by decide) (hdb : (x == ("__debug__" : Str)) = false := by decide)
    (he : starEach (e :: []) X.env = (false, eval e X.env) :: starEach [] X.env := by rfl) (hpl : (backTo pos (starEach [] X.env)).any (·.1) = false := by rfl) : SE X Ve mr p (.Call (.Name x p0) [e] [] pos) (op1 k f) :=
  ⟨fun Z W hK tk => (pe_callTy hc hg hm hv (pa_cons (ha.run Z W hK tk) pa_nil he) hn hdb he hpl).weak fun σ H Q q => by
    rw [tCB1]
    exact tUn_ok (hk Z hK) q⟩
theorem s_t1N {x : Str} {T : String} {r : PySem.W.Frag → List L2.V → Hp → VK → Prop} {k : α → Option (List δ)} {f : Ac γ α} {p0 : Pos} (hc : CallR X (.type T) (r X.K)) (hk : ∀ Z : Fix, Z.K = X.K → UnN Z (fun v => r X.K [v]) m k Ve) (hm : X.mg x = none) (ha : SE X Ve m p e f)
    (hv : bootBuiltins x = some (.type T)) (hg : Gl X x := by rfl) (hn : x ≠ "__name__" := by decide) (hdb : (x == ("__debug__" : Str)) = false := by decide)
    (he : starEach (e :: []) X.env = (false, eval e X.env) :: starEach [] X.env := by rfl) (hpl : (backTo pos (starEach [] X.env)).any (·.1) = false := by rfl) : SN X Ve p (.Call (.Name x p0) [e] [] pos) (op1 k f) :=
  ⟨fun Z W hK tk => (pe_callTy hc hg hm hv (pa_cons (ha.run Z W hK tk) pa_nil he) hn hdb he hpl).weak fun σ H Q q => by
    rw [tCB1]
    exact tUnN_ok (hk Z hK) q⟩
theorem s_b2 {x : Str} {id' : String} {r : PySem.W.Frag → List L2.V → Hp → VK → Prop} {k : α → β → Option δ} {f : Ac γ α} {h : Ac γ β} {mr : Md} {p0 : Pos} (hc : CallR X (.builtin id') (r X.K)) (hk : ∀ Z : Fix, Z.K = X.K → OpK Z (fun v w => r X.K [v, w]) m1 m2 mr k Ve) (hx : X.mg x = none)
    (ha : SE X Ve m1 p1 a f) (hb : SE X Ve m2 p2 b h) (hv : bootBuiltins x = some (.builtin id')) (hm : okM m1 p2 = true := by rfl) (hg : Gl X x := by rfl) (hn : x ≠ "__name__" := by decide) (hdb : (x == ("__debug__" : Str)) = false := by decide)
    (he : starEach (a :: [b]) X.env = (false, eval a X.env) :: starEach [b] X.env := by rfl) (he2 : starEach (b :: []) X.env = (false, eval b X.env) :: starEach [] X.env := by rfl) (hpl : (backTo pos (starEach [b] X.env)).any (·.1) = false := by rfl) : SE X Ve mr (p1 && p2) (.Call (.Name x p0) [a, b] [] pos) (op2 k f h) :=
  ⟨fun Z W hK tk => (pe_callB hc hg hx hv (pa_cons (ha.run Z W hK tk) (pa_cons (hb.run Z W hK tk) pa_nil he2) he) hn hdb he hpl).weak fun σ H Q q => by
    rw [tCB2]
    exact tOp_ok (hk Z hK) hm q⟩
def lenQ {α : Type} (l : List α) : Option Int := some (l.length : Int)
def absQ (i : Int) : Option Int := some (if i < 0 then -i else i)
def max2Q (i j : Int) : Option Int := some (if j > i then j else i)
def min2Q (i j : Int) : Option Int := some (if j < i then j else i)
def b2i (b : Bool) : Int := if b = true then 1 else 0
def intB (b : Bool) : Option Int := some (b2i b)
def intI (i : Int) : Option Int := some i
def sumQ (l : List Int) : Option Int := some l.sum
def allQ (l : List Bool) : Option Bool := some (l.all id)
def anyQ (l : List Bool) : Option Bool := some (l.any id)
def listQ {α : Type} (l : List α) : Option (List α) := some l
def catQ {α : Type} (l k : List α) : Option (List α) := if l.length + k.length ≤ 1000000 then some (l ++ k) else none
theorem s_len {f : Ac γ (List α)} {p0 : Pos} (hx : X.mg "len" = none) (ha : SE X Ve m p e f) (hg : Gl X "len" := by rfl) (he : starEach (e :: []) X.env = (false, eval e X.env) :: starEach [] X.env := by rfl) (hpl : (backTo pos (starEach [] X.env)).any (·.1) = false := by rfl) :
    SE X Ve .fr p (.Call (.Name "len" p0) [e] [] pos) (op1 lenQ f) :=
  s_b1 (id := "len") (r := fun K xs H Q => ∃ q ys, xs = [.ref q] ∧ (SqL K H q ys ∨ SqT K H q ys) ∧ Q (.int ys.length) H) call_len_seq (fun Z hK => fun A g σ H x l c Q j rx e q => by
    obtain ⟨t, vs, rfl, e2, e3⟩ := rm_els rx
    obtain rfl := some_inj' e
    refine ⟨t, vs, rfl, .inl (seqL e2), ?_⟩
    have := e3.length
    rw [List.length_map] at this
    rw [this]
    exact q _ H (Same.refl H) j (.int _)) hx ha PySem.boot_len hg (by decide) (by decide) he he hpl
theorem s_abs {f : Ac γ Int} {p0 : Pos} (hx : X.mg "abs" = none) (ha : SE X Ve m p e f) (hg : Gl X "abs" := by rfl) (he : starEach (e :: []) X.env = (false, eval e X.env) :: starEach [] X.env := by rfl) (hpl : (backTo pos (starEach [] X.env)).any (·.1) = false := by rfl) :
    SE X Ve .fr p (.Call (.Name "abs" p0) [e] [] pos) (op1 absQ f) :=
  s_b1 (id := "abs") (r := fun _ xs H Q => ∃ i, xs = [.int i] ∧ Q (.int (if i < 0 then -i else i)) H) call_abs (fun Z hK => unK_v fun H x i c Q rx e q => by
    cases rp_int rx
    obtain rfl := some_inj' e
    exact ⟨i, rfl, q _ fun _ => .int _⟩) hx ha (by decide +kernel) hg (by decide) (by decide) he he hpl
theorem s_max2 {f h : Ac γ Int} {p0 : Pos} (hc : X.calm = true) (hx : X.mg "max" = none) (ha : SE X Ve m1 p1 a f) (hb : SE X Ve m2 p2 b h) (hm : okM m1 p2 = true := by rfl) (hg : Gl X "max" := by rfl)
    (he : starEach (a :: [b]) X.env = (false, eval a X.env) :: starEach [b] X.env := by rfl) (he2 : starEach (b :: []) X.env = (false, eval b X.env) :: starEach [] X.env := by rfl) (hpl : (backTo pos (starEach [b] X.env)).any (·.1) = false := by rfl) :
    SE X Ve .fr (p1 && p2) (.Call (.Name "max" p0) [a, b] [] pos) (op2 max2Q f h) :=
  s_b2 (r := fun _ xs H Q => ∃ i j, xs = [.int i, .int j] ∧ Q (.int (if j > i then j else i)) H) (call_max2 hc) (fun Z hK => opK_v fun H x y i k c Q rx ry e q => by
    cases rp_int rx
    cases rp_int ry
    obtain rfl := some_inj' e
    exact ⟨i, k, rfl, q _ fun _ => .int _⟩) hx ha hb (by decide +kernel) hm hg (by decide) (by decide) he he2 hpl
theorem s_min2 {f h : Ac γ Int} {p0 : Pos} (hc : X.calm = true) (hx : X.mg "min" = none) (ha : SE X Ve m1 p1 a f) (hb : SE X Ve m2 p2 b h) (hm : okM m1 p2 = true := by rfl) (hg : Gl X "min" := by rfl)
    (he : starEach (a :: [b]) X.env = (false, eval a X.env) :: starEach [b] X.env := by rfl) (he2 : starEach (b :: []) X.env = (false, eval b X.env) :: starEach [] X.env := by rfl) (hpl : (backTo pos (starEach [b] X.env)).any (·.1) = false := by rfl) :
    SE X Ve .fr (p1 && p2) (.Call (.Name "min" p0) [a, b] [] pos) (op2 min2Q f h) :=
  s_b2 (r := fun _ xs H Q => ∃ i j, xs = [.int i, .int j] ∧ Q (.int (if j < i then j else i)) H) (call_min2 hc) (fun Z hK => opK_v fun H x y i k c Q rx ry e q => by
    cases rp_int rx
    cases rp_int ry
    obtain rfl := some_inj' e
    exact ⟨i, k, rfl, q _ fun _ => .int _⟩) hx ha hb (by decide +kernel) hm hg (by decide) (by decide) he he2 hpl
theorem s_intB {f : Ac γ Bool} {p0 : Pos} (hx : X.mg "int" = none) (ha : SE X Ve m p e f) (hg : Gl X "int" := by rfl) (he : starEach (e :: []) X.env = (false, eval e X.env) :: starEach [] X.env := by rfl) (hpl : (backTo pos (starEach [] X.env)).any (·.1) = false := by rfl) :
    SE X Ve .fr p (.Call (.Name "int" p0) [e] [] pos) (op1 intB f) :=
  s_t1 (r := fun _ xs H Q => (∃ i, xs = [.int i] ∧ Q (.int i) H) ∨ ∃ k, xs = [.bl k] ∧ Q (.int (if k = true then 1 else 0)) H) call_int1 (fun Z hK => unK_v fun H x i c Q rx e q => by
    cases rp_bl rx
    obtain rfl := some_inj' e
    exact .inr ⟨i, rfl, q _ fun _ => .int _⟩) hx ha (by decide +kernel) hg (by decide) (by decide) he hpl
theorem s_sum {f : Ac γ (List Int)} {p0 : Pos} (hc : X.calm = true) (hx : X.mg "sum" = none) (ha : SE X Ve m p e f) (hg : Gl X "sum" := by rfl) (he : starEach (e :: []) X.env = (false, eval e X.env) :: starEach [] X.env := by rfl) (hpl : (backTo pos (starEach [] X.env)).any (·.1) = false := by rfl) :
    SE X Ve .fr p (.Call (.Name "sum" p0) [e] [] pos) (op1 sumQ f) :=
  s_b1 (id := "sum") (r := fun K => rSum K) (cr_sum hc) (fun Z hK => fun A g σ H x l c Q j rx e q => by
    obtain ⟨t, vs, rfl, e2, e3⟩ := rm_els rx
    obtain rfl := some_inj' e
    have ev := rpA_ints (ns := l) e3
    subst ev
    exact ⟨t, l, rfl, seqL e2, q _ H (Same.refl H) j (.int _)⟩) hx ha (by decide +kernel) hg (by decide) (by decide) he he hpl
theorem s_all {f : Ac γ (List Bool)} {p0 : Pos} (hc : X.calm = true) (hx : X.mg "all" = none) (ha : SE X Ve m p e f) (hg : Gl X "all" := by rfl) (he : starEach (e :: []) X.env = (false, eval e X.env) :: starEach [] X.env := by rfl) (hpl : (backTo pos (starEach [] X.env)).any (·.1) = false := by rfl) :
    SE X Ve .fr p (.Call (.Name "all" p0) [e] [] pos) (op1 allQ f) :=
  s_b1 (id := "all") (r := fun K => rAll K) (cr_all hc) (fun Z hK => fun A g σ H x l c Q j rx e q => by
    obtain ⟨t, vs, rfl, e2, e3⟩ := rm_els rx
    obtain rfl := some_inj' e
    have ev := rpA_bools (ns := l) e3
    subst ev
    exact ⟨t, l, rfl, seqL e2, q _ H (Same.refl H) j (.bl _)⟩) hx ha (by decide +kernel) hg (by decide) (by decide) he he hpl
theorem s_any {f : Ac γ (List Bool)} {p0 : Pos} (hc : X.calm = true) (hx : X.mg "any" = none) (ha : SE X Ve m p e f) (hg : Gl X "any" := by rfl) (he : starEach (e :: []) X.env = (false, eval e X.env) :: starEach [] X.env := by rfl) (hpl : (backTo pos (starEach [] X.env)).any (·.1) = false := by rfl) :
    SE X Ve .fr p (.Call (.Name "any" p0) [e] [] pos) (op1 anyQ f) :=
  s_b1 (id := "any") (r := fun K => rAny K) (cr_any hc) (fun Z hK => fun A g σ H x l c Q j rx e q => by
    obtain ⟨t, vs, rfl, e2, e3⟩ := rm_els rx
    obtain rfl := some_inj' e
    have ev := rpA_bools (ns := l) e3
    subst ev
    exact ⟨t, l, rfl, seqL e2, q _ H (Same.refl H) j (.bl _)⟩) hx ha (by decide +kernel) hg (by decide) (by decide) he he hpl
abbrev ElsT (X : Cx) {γ α : Type} [Enc α] (Ve : Ev γ) (m : Md) : Prop := ∀ Z : Fix, ∀ A g σ H v (x : List α), J Z A (at_ Ve g) σ H → Rm Z A Ve H m v (enc x) → ∃ a vs, v = .ref a ∧ H a = some (.lst vs) ∧ RpA Z.K (GH Z (OwV A Ve) H) vs (x.map enc)
theorem s_list {f : Ac γ (List α)} {p0 : Pos} (hx : X.mg "list" = none) (ha : SE X Ve m p e f) (hels : ElsT X (α := α) Ve m := by first | exact fun _ _ _ _ _ _ _ j r => rm_elsT rfl r | exact fun _ _ _ _ _ _ _ j r => rm_elsF j r) (hg : Gl X "list" := by rfl)
    (he : starEach (e :: []) X.env = (false, eval e X.env) :: starEach [] X.env := by rfl) (hpl : (backTo pos (starEach [] X.env)).any (·.1) = false := by rfl) : SN X Ve p (.Call (.Name "list" p0) [e] [] pos) (op1 listQ f) :=
  s_t1N (r := fun K xs H Q => ∃ q ys, xs = [.ref q] ∧ (SqL K H q ys ∨ SqT K H q ys) ∧ ∀ l, H l = none → Q (.ref l) (upd H l (.lst ys))) call_list_of (fun Z hK => fun A g σ H x l c Q j rx e q => by
    obtain ⟨t, vs, rfl, e2, e3⟩ := hels Z A g σ H x l j rx
    obtain rfl := some_inj' e
    exact ⟨t, vs, rfl, .inl (seqL e2), fun n hn => q n vs hn e3⟩) hx ha (by decide +kernel) hg (by decide) (by decide) he hpl
theorem s_cat {f h : Ac γ (List α)} (ha : SE X Ve m1 p1 a f) (hb : SE X Ve m2 p2 b h) (hm : okM m1 p2 = true := by rfl) (h1 : ElsT X (α := α) Ve m1 := by first | exact fun _ _ _ _ _ _ _ j r => rm_elsT rfl r | exact fun _ _ _ _ _ _ _ j r => rm_elsF j r)
    (h2 : ElsT X (α := α) Ve m2 := by first | exact fun _ _ _ _ _ _ _ j r => rm_elsT rfl r | exact fun _ _ _ _ _ _ _ j r => rm_elsF j r) : SN X Ve (p1 && p2) (.BinOp a .Add b pos) (op2 catQ f h) :=
  s_opN (r := fun _ => rCat) op_cat (fun Z hK => fun A g σ H x y l k c Q j rx ry e q => by
    obtain ⟨t, vs, rfl, e2, e3⟩ := h1 Z A g σ H x l j rx
    obtain ⟨t', vs', rfl, e2', e3'⟩ := h2 Z A g σ H y k j ry
    obtain ⟨hc, rfl⟩ := ite_some e
    have l1 := e3.length
    have l2 := e3'.length
    rw [List.length_map] at l1 l2
    refine ⟨t, t', vs, vs', rfl, rfl, e2, e2', ?_, fun n hn => q n _ hn (by rw [List.map_append]; exact e3.append e3')⟩
    rw [l1, l2]
    exact Nat.le_trans hc (by decide)) ha hb hm
end
end HL
/-! Fe: statements. -/
namespace HL
open PySem PySem.Spec PyProof.Rows L2

/-! ### the state behind a store -/
section
variable {Z : Fix} {A A' : AT} {r r' : List Slot} {σ : L2.St} {H H' : Hp}
theorem Gr.fhO {O O' : Addr → Prop} (h : ∀ a, O' a → O a) : Same (FH Z O H) (FH Z O' H) := hide_same fun a o n e => ⟨fun z => n (z.elim .inl fun q => .inr (h a q)), e⟩
theorem Gr.ghO {O O' : Addr → Prop} (h : ∀ a, O' a → O a) : Same (GH Z O H) (GH Z O' H) := hide_same fun a o n e => ⟨fun z => n (by
  rcases z with z | z | z
  · exact .inl z
  · exact .inr (.inl (h a z))
  · exact .inr (.inr z)), e⟩
theorem Gr.hpO {O O' : Addr → Prop} {fr : Bool} (h : ∀ a, O' a → O a) : Same (HL.hp Z O H fr) (HL.hp Z O' H fr) := by
  unfold HL.hp
  cases fr with
  | true => simpa using Gr.ghO h
  | false => simpa using Gr.fhO h
theorem set_get {i k : Nat} {s : Slot} : (r.set i s)[k]? = if i = k then (if i < r.length then some s else none) else r[k]? := List.getElem?_set
/-- not of one's own -/
abbrev NoO (s : Slot) : Prop := (∀ ds, s ≠ .own ds) ∧ ∀ t, s ≠ .tree t
theorem set_own {i k : Nat} {s : Slot} {ds : Ob} (ns : NoO s) (h : (r.set i s)[k]? = some (.own ds)) : i ≠ k ∧ r[k]? = some (.own ds) := by
  rw [set_get] at h
  by_cases e : i = k
  · rw [if_pos e] at h
    by_cases l : i < r.length
    · rw [if_pos l] at h
      exact absurd (Option.some.inj h) (ns.1 ds)
    · rw [if_neg l] at h; cases h
  · rw [if_neg e] at h
    exact ⟨e, h⟩
theorem set_tree {i k : Nat} {s : Slot} {t : Tr} (ns : ∀ t, s ≠ .tree t) (h : (r.set i s)[k]? = some (.tree t)) : i ≠ k ∧ r[k]? = some (.tree t) := by
  rw [set_get] at h
  by_cases e : i = k
  · rw [if_pos e] at h
    by_cases l : i < r.length
    · rw [if_pos l] at h
      exact absurd (Option.some.inj h) (ns t)
    · rw [if_neg l] at h; cases h
  · rw [if_neg e] at h
    exact ⟨e, h⟩
theorem ow_set {i : Nat} {s : Slot} (ns : NoO s) : ∀ a, Ow A (r.set i s) a → Ow A r a := fun a h => by
  rcases h with ⟨k, ds, h, e⟩ | ⟨k, t, h, e⟩
  · exact .inl ⟨k, ds, (set_own ns h).2, e⟩
  · exact .inr ⟨k, t, (set_tree ns.2 h).2, e⟩
theorem imm_ne {fr : Bool} {d : D} : NoO (Slot.imm fr d) := ⟨fun _ z => (by cases z), fun _ z => (by cases z)⟩
/-- a slot that is not of one's own is told anew -/
theorem JT.set (j : JT Z A r σ H) {i : Nat} {s : Slot} {v : Option L2.V} (ns : NoO s) : JT Z A (r.set i s) (σ.set i v) H :=
  j.keep (fun k t h => ⟨(set_tree ns.2 h).2, by rw [List.getElem?_set, if_neg (set_tree ns.2 h).1], rfl, rfl⟩) (fun k ds h => .inl ⟨ds, (set_own ns h).2, rfl⟩) (Gr.fhO (ow_set ns)) (fun _ _ _ _ _ => rfl) fun _ _ h => h
theorem J.setImm (j : J Z A r σ H) {i : Nat} {v : L2.V} {fr : Bool} {d : D} (hv : Rp Z.K (hp Z (Ow A r) H fr) v d) (hio : ∀ a, (i, a) ∉ Z.io) : J Z A (r.set i (.imm fr d)) (σ.set i (some v)) H where
  imm := fun k fr' d' h => by
    rw [set_get] at h
    by_cases e : i = k
    · subst e
      rw [if_pos rfl] at h
      by_cases l : i < r.length
      · rw [if_pos l] at h
        cases h
        exact ⟨v, by rw [List.getElem?_set, if_pos rfl, if_pos (by rw [← j.len]; exact l)], Rp.mono (Gr.hpO (ow_set imm_ne)) _ hv⟩
      · rw [if_neg l] at h; cases h
    · rw [if_neg e] at h
      obtain ⟨w, e1, e2⟩ := j.imm k fr' d' h
      exact ⟨w, by rw [List.getElem?_set, if_neg e]; exact e1, Rp.mono (Gr.hpO (ow_set imm_ne)) _ e2⟩
  own := fun k ds h => by
    obtain ⟨e, h⟩ := set_own imm_ne h
    obtain ⟨e1, e2⟩ := j.own k ds h
    exact ⟨by rw [List.getElem?_set, if_neg e]; exact e1, e2.mono (Gr.ghO (ow_set imm_ne)) (Gr.fhO (ow_set imm_ne))⟩
  scr := fun k ns h => by
    rw [set_get] at h
    by_cases e : i = k
    · subst e
      rw [if_pos rfl] at h
      by_cases l : i < r.length
      · rw [if_pos l] at h; cases h
      · rw [if_neg l] at h; cases h
    · rw [if_neg e] at h
      obtain ⟨a, e1, e2⟩ := j.scr k ns h
      exact ⟨a, by rw [List.getElem?_set, if_neg e]; exact e1, sqL_same (Gr.fhO (ow_set imm_ne)) e2⟩
  raw := fun k u h => by
    rw [set_get] at h
    by_cases e : i = k
    · subst e
      rw [if_pos rfl] at h
      by_cases l : i < r.length
      · rw [if_pos l] at h; cases h
      · rw [if_neg l] at h; cases h
    · rw [if_neg e] at h
      rw [List.getElem?_set, if_neg e]
      exact j.raw k u h
  pk := fun k q h => by
    rw [set_get] at h
    by_cases e : i = k
    · subst e
      rw [if_pos rfl] at h
      by_cases l : i < r.length
      · rw [if_pos l] at h; cases h
      · rw [if_neg l] at h; cases h
    · rw [if_neg e] at h
      rw [List.getElem?_set, if_neg e]
      exact (j.pk k q h).mono (Gr.ghO (ow_set imm_ne))
  inj := fun k l ds es h1 h2 e => j.inj k l ds es (set_own imm_ne h1).2 (set_own imm_ne h2).2 e
  notS := fun k ds h => j.notS k ds (set_own imm_ne h).2
  smut := j.smut
  base := j.base
  mm := j.mm
  tm := j.tm
  tr := j.tr.set imm_ne
  newo := fun k ds h => j.newo k ds (set_own imm_ne h).2
  ioo := fun k a h => by
    obtain ⟨e1, ds, e2⟩ := j.ioo k a h
    refine ⟨e1, ds, ?_⟩
    rw [set_get, if_neg (fun e => hio a (by subst e; exact h))]
    exact e2
  len := by rw [List.length_set, List.length_set, j.len]
/-- the slots that objects lean on -/
def atsS : List Slot → List Nat
  | [] => []
  | .own b :: r => b.ats ++ atsS r
  | _ :: r => atsS r
theorem atsS_mem : ∀ {r : List Slot} {k : Nat} {b : Ob} {i : Nat}, r[k]? = some (.own b) → i ∈ b.ats → i ∈ atsS r
  | [], k, b, i, e, _ => by simp at e
  | s :: r, 0, b, i, e, h => by
    simp at e
    subst e
    exact List.mem_append_left _ h
  | s :: r, k + 1, b, i, e, h => by
    have := atsS_mem (r := r) (k := k) (by simpa using e) h
    cases s with
    | own b' => exact List.mem_append_right _ this
    | no => exact this
    | imm fr d => exact this
    | scr ns => exact this
    | raw v => exact this
    | pk q => exact this
    | tree t => exact this
theorem ow_setOwn {i : Nat} {q : Addr} {ds : Ob} {a : Addr} : Ow (A.put i q) (r.set i (.own ds)) a → Ow A r a ∨ a = q := fun h => by
  rcases h with ⟨k, ds', h, e⟩ | ⟨k, t, h, e⟩
  · by_cases ek : k = i
    · simp only [put_at, ek, if_true] at e
      exact .inr e.symm
    · simp only [put_at, ek, if_false] at e
      rw [set_get, if_neg (Ne.symm ek)] at h
      exact .inl (.inl ⟨k, ds', h, e⟩)
  · exact .inl (.inr ⟨k, t, (set_tree (fun _ z => by cases z) h).2, e⟩)
theorem ow_chg {i : Nat} {es ds : Ob} {a : Addr} (hi : r[i]? = some (.own es)) : Ow A (r.set i (.own ds)) a → Ow A r a := fun h => by
  rcases h with ⟨k, ds', h, e⟩ | ⟨k, t, h, e⟩
  · by_cases ek : i = k
    · subst ek
      exact .inl ⟨i, es, hi, e⟩
    · rw [set_get, if_neg ek] at h
      exact .inl ⟨k, ds', h, e⟩
  · exact .inr ⟨k, t, (set_tree (fun _ z => by cases z) h).2, e⟩
/-- a new list becomes one's own -/
theorem J.setOwnO (j : J Z A r σ H) {i : Nat} {q : Addr} {ob : HO} {ds : Ob} (hq : H q = none) (hv : OwnOk Z.K A (GH Z (Ow A r) H) (FH Z (Ow A r) H) (some ob) ds) (hio : ∀ a, (i, a) ∉ Z.io) (hpk : ∀ k t, r[k]? = some (.pk t) → k ≠ i → i ∉ t.js) (hat : i ∉ atsS r) (hai : i ∉ ds.ats) :
    J Z (A.put i q) (r.set i (.own ds)) (σ.set i (some (.ref q))) (upd H q ob) := by
  obtain ⟨q0, qS, qO⟩ := j.fresh hq
  have sm : Same H (upd H q ob) := same_new hq
  have ow : ∀ a, Ow (A.put i q) (r.set i (.own ds)) a → Ow A r a ∨ a = q := fun a h => by
    rcases h with ⟨k, ds', h, e⟩ | ⟨k, t, h, e⟩
    · by_cases ek : k = i
      · simp only [put_at, ek, if_true] at e
        exact .inr e.symm
      · simp only [put_at, ek, if_false] at e
        rw [set_get, if_neg (Ne.symm ek)] at h
        exact .inl (.inl ⟨k, ds', h, e⟩)
    · exact .inl (.inr ⟨k, t, (set_tree (fun _ z => by cases z) h).2, e⟩)
  have g1 : Same (GH Z (Ow A r) H) (GH Z (Ow (A.put i q) (r.set i (.own ds))) (upd H q ob)) := hide_same fun a o n e => by
    refine ⟨fun z => ?_, sm a o e⟩
    rcases z with z | z | z
    · exact n (.inl z)
    · rcases ow a z with z | z
      · exact n (.inr (.inl z))
      · rw [z, hq] at e; cases e
    · exact n (.inr (.inr z))
  have f1 : Same (FH Z (Ow A r) H) (FH Z (Ow (A.put i q) (r.set i (.own ds))) (upd H q ob)) := hide_same fun a o n e => by
    refine ⟨fun z => ?_, sm a o e⟩
    rcases z with z | z
    · exact n (.inl z)
    · rcases ow a z with z | z
      · exact n (.inr z)
      · rw [z, hq] at e; cases e
  have h1 : ∀ fr, Same (hp Z (Ow A r) H fr) (hp Z (Ow (A.put i q) (r.set i (.own ds))) (upd H q ob) fr) := fun fr => by
    unfold HL.hp
    cases fr with
    | true => simpa using g1
    | false => simpa using f1
  have other : ∀ {k : Nat} {s : Slot}, (r.set i (.own ds))[k]? = some s → i ≠ k → r[k]? = some s := fun {k s} h e => by
    rw [set_get, if_neg e] at h
    exact h
  have noto : ∀ {k : Nat} {es : Ob}, r[k]? = some (.own es) → A k ≠ q := fun {k es} h e => by
    obtain ⟨_, e2, _⟩ := (j.own k es h).2.is
    rw [e, hq] at e2
    cases e2
  have hlt : ∀ {k : Nat} {s : Slot}, (r.set i (.own ds))[k]? = some s → i = k → i < r.length ∧ s = .own ds := fun {k s} h e => by
    rw [set_get, if_pos e] at h
    by_cases l : i < r.length
    · rw [if_pos l] at h
      cases h
      exact ⟨l, rfl⟩
    · rw [if_neg l] at h; cases h
  have tr : JT Z (A.put i q) (r.set i (.own ds)) (σ.set i (some (.ref q))) (upd H q ob) := j.tr.keep (fun k t h => by
      obtain ⟨e, h⟩ := set_tree (fun _ z => by cases z) h
      exact ⟨h, by rw [List.getElem?_set, if_neg e], rfl, rfl⟩) (fun k es h => by
      by_cases ek : k = i
      · right
        rw [ek, put_at, if_pos rfl]
        exact hq
      · left
        rw [put_at, if_neg ek]
        exact ⟨es, other h (Ne.symm ek), rfl⟩) f1 (fun k t a h m => by
      obtain ⟨u, e, _⟩ := TrOk.is t (j.tr.ok k t h).2.1 a m
      rw [e]
      exact sm a u e) fun a xs h => sm a _ h
  refine ⟨fun k fr d h => ?_, fun k es h => ?_, fun k ns h => ?_, fun k u h => ?_, fun k u h => ?_, fun k l es fs hk hl e => ?_, fun k es h => ?_, fun a z => ?_, fun a o h n n2 => sm a o (j.base a o h n n2), fun a z => ?_, j.tm, fun k es h => ?_, fun k a h => ?_, tr, ?_⟩
  · by_cases e : i = k
    · have := (hlt h e).2
      cases this
    · obtain ⟨w, e1, e2⟩ := j.imm k fr d (other h e)
      exact ⟨w, by rw [List.getElem?_set, if_neg e]; exact e1, Rp.mono (h1 fr) _ e2⟩
  · by_cases e : i = k
    · subst e
      obtain ⟨l, e1⟩ := hlt h rfl
      cases e1
      simp only [put_at, if_true]
      refine ⟨by rw [List.getElem?_set, if_pos rfl, if_pos (by rw [← j.len]; exact l)], by rw [upd_same]; exact (hv.mono g1 f1).chA fun k hk => if_neg fun z => hai (by rw [← z]; exact hk)⟩
    · obtain ⟨e1, e2⟩ := j.own k es (other h e)
      simp only [put_at, if_neg (Ne.symm e)]
      exact ⟨by rw [List.getElem?_set, if_neg e]; exact e1, ((e2.same sm).mono g1 f1).chA fun l hl => if_neg fun z => hat (atsS_mem (other h e) (by rw [← z]; exact hl))⟩
  · by_cases e : i = k
    · have := (hlt h e).2
      cases this
    · obtain ⟨a, e1, e2⟩ := j.scr k ns (other h e)
      exact ⟨a, by rw [List.getElem?_set, if_neg e]; exact e1, sqL_same f1 e2⟩
  · by_cases e : i = k
    · have := (hlt h e).2
      cases this
    · rw [List.getElem?_set, if_neg e]
      exact j.raw k u (other h e)
  · by_cases e : i = k
    · have := (hlt h e).2
      cases this
    · rw [List.getElem?_set, if_neg e]
      have p := (j.pk k u (other h e)).mono g1
      have ni := hpk k u (other h e) (Ne.symm e)
      cases u with
      | lst js =>
        obtain ⟨a, p1, p2⟩ := p
        refine ⟨a, p1, ?_⟩
        rw [p2]
        congr 2
        refine List.map_congr_left fun x hx => ?_
        show V.ref (A x) = V.ref (if x = i then q else A x)
        rw [if_neg (fun z : x = i => ni (by rw [← z]; exact hx))]
      | ali x =>
        show _ = some (some (L2.V.ref (if x = i then q else A x)))
        rw [if_neg (fun z => ni (by rw [z]; exact List.mem_cons_self))]
        exact p
      | «at» a js =>
        show GH _ _ _ a = _
        rw [show GH Z (Ow (A.put i q) (r.set i (.own ds))) (upd H q ob) a = some (.lst (js.map fun j => V.ref (A j))) from p]
        congr 2
        refine List.map_congr_left fun x hx => ?_
        show V.ref (A x) = V.ref (if x = i then q else A x)
        rw [if_neg (fun z : x = i => ni (by rw [← z]; exact hx))]
  · by_cases ek : k = i
    · by_cases el : l = i
      · rw [ek, el]
      · simp only [put_at, ek, el, if_true, if_false] at e
        exact absurd e.symm (noto (other hl (Ne.symm el)))
    · by_cases el : l = i
      · simp only [put_at, ek, el, if_true, if_false] at e
        exact absurd e (noto (other hk (Ne.symm ek)))
      · simp only [put_at, ek, el, if_false] at e
        exact j.inj k l es fs (other hk (Ne.symm ek)) (other hl (Ne.symm el)) e
  · by_cases ek : k = i
    · simp only [put_at, ek, if_true]
      exact qS
    · simp only [put_at, ek, if_false]
      exact j.notS k es (other h (Ne.symm ek))
  · have m := j.smut a z
    cases e : H a with
    | none => rw [e] at m; exact m.elim
    | some o => rw [sm a o e]; rw [e] at m; exact m
  · have m := j.mm a z
    cases e : H a with
    | none => rw [e] at m; exact m.elim
    | some o => rw [sm a o e]; rw [e] at m; exact m
  · by_cases ek : k = i
    · simp only [put_at, ek, if_true]
      exact .inr q0
    · simp only [put_at, ek, if_false]
      exact j.newo k es (other h (Ne.symm ek))
  · have ek : k ≠ i := fun e => hio a (e ▸ h)
    obtain ⟨e1, es, e2⟩ := j.ioo k a h
    simp only [put_at, ek, if_false]
    exact ⟨e1, es, by rw [set_get, if_neg (Ne.symm ek)]; exact e2⟩
  · rw [List.length_set, List.length_set, j.len]
theorem J.setOwn (j : J Z A r σ H) {i : Nat} {q : Addr} {vs : List L2.V} {ds : List D} (hq : H q = none) (hv : RpA Z.K (GH Z (Ow A r) H) vs ds) (hio : ∀ a, (i, a) ∉ Z.io) (hpk : ∀ k t, r[k]? = some (.pk t) → k ≠ i → i ∉ t.js) (hat : i ∉ atsS r) :
    J Z (A.put i q) (r.set i (.own ds)) (σ.set i (some (.ref q))) (upd H q (.lst vs)) := j.setOwnO hq (ds := .ls ds) ⟨vs, rfl, hv⟩ hio hpk hat List.not_mem_nil
/-- a list of one's own is changed -/
theorem J.chgO (j : J Z A r σ H) {i : Nat} {es : Ob} {ob : HO} {ds : Ob} (hi : r[i]? = some (.own es)) (hv : OwnOk Z.K A (GH Z (Ow A r) H) (FH Z (Ow A r) H) (some ob) ds) : J Z A (r.set i (.own ds)) σ (upd H (A i) ob) := by
  have hO : Ow A r (A i) := .inl ⟨i, es, hi, rfl⟩
  have il : i < r.length := (List.getElem?_eq_some_iff.mp hi).1
  have ow : ∀ a, Ow A (r.set i (.own ds)) a → Ow A r a := fun a h => by
    rcases h with ⟨k, ds', h, e⟩ | ⟨k, t, h, e⟩
    · by_cases ek : i = k
      · subst ek
        exact .inl ⟨i, es, hi, e⟩
      · rw [set_get, if_neg ek] at h
        exact .inl ⟨k, ds', h, e⟩
    · exact .inr ⟨k, t, (set_tree (fun _ z => by cases z) h).2, e⟩
  have ne : ∀ {a}, ¬ Ow A r a → a ≠ A i := fun n e => n (e ▸ hO)
  have g1 : Same (GH Z (Ow A r) H) (GH Z (Ow A (r.set i (.own ds))) (upd H (A i) ob)) := hide_same fun a o n e => ⟨fun z => n (by
    rcases z with z | z | z
    · exact .inl z
    · exact .inr (.inl (ow a z))
    · exact .inr (.inr z)), by rw [upd_ne (ne fun z => n (.inr (.inl z)))]; exact e⟩
  have f1 : Same (FH Z (Ow A r) H) (FH Z (Ow A (r.set i (.own ds))) (upd H (A i) ob)) := hide_same fun a o n e => ⟨fun z => n (z.elim .inl fun q => .inr (ow a q)), by rw [upd_ne (ne fun z => n (.inr z))]; exact e⟩
  have h1 : ∀ fr, Same (hp Z (Ow A r) H fr) (hp Z (Ow A (r.set i (.own ds))) (upd H (A i) ob) fr) := fun fr => by
    unfold HL.hp
    cases fr with
    | true => simpa using g1
    | false => simpa using f1
  have get : ∀ {k : Nat} {s : Slot}, (r.set i (.own ds))[k]? = some s → (i = k ∧ s = .own ds) ∨ (i ≠ k ∧ r[k]? = some s) := fun {k s} h => by
    rw [set_get] at h
    by_cases e : i = k
    · rw [if_pos e, if_pos il] at h
      cases h
      exact .inl ⟨e, rfl⟩
    · rw [if_neg e] at h
      exact .inr ⟨e, h⟩
  have own' : ∀ {k : Nat} {fs : Ob}, (r.set i (.own ds))[k]? = some (.own fs) → ∃ fs, r[k]? = some (.own fs) := fun {k fs} h => by
    rcases get h with ⟨e, _⟩ | ⟨_, e⟩
    · subst e; exact ⟨es, hi⟩
    · exact ⟨fs, e⟩
  have mu : ∀ a, Mut (H a) → Mut (upd H (A i) ob a) := fun a m => by
    by_cases e : a = A i
    · rw [e, upd_same]; obtain ⟨u, hu, mu⟩ := hv.is; cases hu; exact mu
    · rw [upd_ne e]; exact m
  have tr : JT Z A (r.set i (.own ds)) σ (upd H (A i) ob) := j.tr.keep (fun k t h => ⟨(set_tree (fun _ z => by cases z) h).2, rfl, rfl, rfl⟩) (fun k fs h => by
      obtain ⟨fs, q⟩ := own' h
      exact .inl ⟨fs, q, rfl⟩) f1 (fun k t a h m => upd_ne fun e => j.tr.ow i k es t hi h (e ▸ m)) fun a xs h => by
      rw [upd_ne]
      · exact h
      · intro e
        obtain ⟨u, e1, e2⟩ := j.owl hO
        rw [e, e1] at h
        cases h
        exact e2
  refine ⟨fun k fr d h => ?_, fun k fs h => ?_, fun k ns h => ?_, fun k u h => ?_, fun k u h => ?_, fun k l es' fs hk hl e => ?_, fun k fs h => ?_, fun a z => mu a (j.smut a z), fun a o h n n2 => ?_, fun a z => mu a (j.mm a z), j.tm, fun k fs h => ?_, fun k a h => ?_, tr, ?_⟩
  · rcases get h with ⟨_, z⟩ | ⟨_, h⟩
    · cases z
    · obtain ⟨w, e1, e2⟩ := j.imm k fr d h
      exact ⟨w, e1, Rp.mono (h1 fr) _ e2⟩
  · rcases get h with ⟨e, z⟩ | ⟨e, h⟩
    · subst e
      cases z
      exact ⟨(j.own i es hi).1, by rw [upd_same]; exact hv.mono g1 f1⟩
    · obtain ⟨e1, e2⟩ := j.own k fs h
      have : A k ≠ A i := fun z => e (j.inj i k es fs hi h z.symm)
      exact ⟨e1, by rw [upd_ne this]; exact e2.mono g1 f1⟩
  · rcases get h with ⟨_, z⟩ | ⟨_, h⟩
    · cases z
    · obtain ⟨a, e1, e2⟩ := j.scr k ns h
      exact ⟨a, e1, sqL_same f1 e2⟩
  · rcases get h with ⟨_, z⟩ | ⟨_, h⟩
    · cases z
    · exact j.raw k u h
  · rcases get h with ⟨_, z⟩ | ⟨_, h⟩
    · cases z
    · exact (j.pk k u h).mono g1
  · obtain ⟨a1, q1⟩ := own' hk
    obtain ⟨a2, q2⟩ := own' hl
    exact j.inj k l _ _ q1 q2 e
  · obtain ⟨a1, q1⟩ := own' h
    exact j.notS k _ q1
  · have q := j.base a o h n n2
    have : a ≠ A i := fun e => by
      rcases j.newo i es hi with z | z
      · exact n i (e ▸ z)
      · rw [← e, h] at z; cases z
    rw [upd_ne this]
    exact q
  · obtain ⟨a1, q1⟩ := own' h
    exact j.newo k _ q1
  · obtain ⟨e1, fs, e2⟩ := j.ioo k a h
    refine ⟨e1, ?_⟩
    by_cases e : i = k
    · exact ⟨ds, by rw [set_get, if_pos e, if_pos il]⟩
    · exact ⟨fs, by rw [set_get, if_neg e]; exact e2⟩
  · rw [List.length_set, j.len]
theorem J.chg (j : J Z A r σ H) {i : Nat} {es : Ob} {vs : List L2.V} {ds : List D} (hi : r[i]? = some (.own es)) (hv : RpA Z.K (GH Z (Ow A r) H) vs ds) : J Z A (r.set i (.own ds)) σ (upd H (A i) (.lst vs)) :=
  j.chgO (ds := .ls ds) hi ⟨vs, rfl, hv⟩
/-- less is known: slots forgotten, lists given up to all -/
inductive Wk1 : Slot → Slot → Prop
  | no (s : Slot) : Wk1 s .no
  | refl (s : Slot) : Wk1 s s
  | an (d : D) : Wk1 (.imm true d) (.imm false d)
  | give (ds : Ob) (h : ds.gv = true := by rfl) : Wk1 (.own ds) (.imm true ds.d)
  | giveA (ds : Ob) (h : ds.gv = true := by rfl) : Wk1 (.own ds) (.imm false ds.d)
def Wks : List Slot → List Slot → Prop
  | [], [] => True
  | a :: r, b :: r' => Wk1 a b ∧ Wks r r'
  | _, _ => False
theorem wks_get : ∀ {r r' : List Slot}, Wks r r' → ∀ {k : Nat} {s : Slot}, r'[k]? = some s → ∃ s', r[k]? = some s' ∧ Wk1 s' s
  | [], [], _, k, s, h => by simp at h
  | a :: r, b :: r', w, 0, s, h => by
    simp at h
    subst h
    exact ⟨a, rfl, w.1⟩
  | a :: r, b :: r', w, k + 1, s, h => by
    obtain ⟨s', e1, e2⟩ := wks_get w.2 (k := k) (by simpa using h)
    exact ⟨s', by simpa using e1, e2⟩
  | [], _ :: _, w, _, _, _ => by cases w
  | _ :: _, [], w, _, _, _ => by cases w
theorem wks_len : ∀ {r r' : List Slot}, Wks r r' → r.length = r'.length
  | [], [], _ => rfl
  | a :: r, b :: r', w => by simp [wks_len w.2]
  | [], _ :: _, w => by cases w
  | _ :: _, [], w => by cases w
theorem J.weak (j : J Z A r σ H) (w : Wks r r') (hio : ∀ i a ds, (i, a) ∈ Z.io → r[i]? = some (.own ds) → r'[i]? = some (.own ds)) : J Z A r' σ H := by
  have own' : ∀ {k : Nat} {ds : Ob}, r'[k]? = some (.own ds) → r[k]? = some (.own ds) := fun {k ds} h => by
    obtain ⟨s', e1, e2⟩ := wks_get w h
    cases e2
    exact e1
  have tree' : ∀ {k : Nat} {t : Tr}, r'[k]? = some (.tree t) → r[k]? = some (.tree t) := fun {k t} h => by
    obtain ⟨s', e1, e2⟩ := wks_get w h
    cases e2
    exact e1
  have ow : ∀ a, Ow A r' a → Ow A r a := fun a h => by
    rcases h with ⟨k, ds, h, e⟩ | ⟨k, t, h, e⟩
    · exact .inl ⟨k, ds, own' h, e⟩
    · exact .inr ⟨k, t, tree' h, e⟩
  have freed : ∀ {k : Nat} {ds : Ob}, r[k]? = some (.own ds) → (∀ ds', r'[k]? ≠ some (.own ds')) → ds.gv = true → Rp Z.K (GH Z (Ow A r') H) (.ref (A k)) ds.d := fun {k ds} h n hg => by
    obtain ⟨_, e2⟩ := j.own k ds h
    obtain ⟨u, e3, _⟩ := e2.is
    have e4 : GH Z (Ow A r') H (A k) = H (A k) := by
      rw [e3]
      refine hide_mk ?_ e3
      rintro (z | z | z)
      · exact j.notS k ds h z
      · rcases z with ⟨l, ds', h', e⟩ | ⟨l, t, h', e⟩
        · have := j.inj l k ds' ds (own' h') h e
          subst this
          exact n ds' h'
        · exact j.tr.ow k l ds t h (tree' h') e
      · rcases j.newo k ds h with q | q
        · exact n ds (hio k (A k) ds q h)
        · rw [q] at z; exact z
    exact OwnOk.rp (F' := FH Z (Ow A r') H) hg (by rw [e4]; exact e2.mono (Gr.ghO ow) (Gr.fhO ow))
  have tr : JT Z A r' σ H := j.tr.keep (fun k t h => ⟨tree' h, rfl, rfl, rfl⟩) (fun k ds h => .inl ⟨ds, own' h, rfl⟩) (Gr.fhO ow) (fun _ _ _ _ _ => rfl) fun _ _ h => h
  refine ⟨fun k fr d h => ?_, fun k ds h => ?_, fun k ns h => ?_, fun k u h => ?_, fun k u h => ?_, fun k l ds es h1 h2 => j.inj k l ds es (own' h1) (own' h2), fun k ds h => j.notS k ds (own' h), j.smut, j.base, j.mm, j.tm, fun k ds h => j.newo k ds (own' h), fun k a h => ?_, tr, ?_⟩
  · obtain ⟨s', e1, e2⟩ := wks_get w h
    cases e2 with
    | refl =>
      obtain ⟨v, q1, q2⟩ := j.imm k fr d e1
      exact ⟨v, q1, Rp.mono (Gr.hpO ow) _ q2⟩
    | an =>
      obtain ⟨v, q1, q2⟩ := j.imm k true d e1
      exact ⟨v, q1, Rp.mono (Gr.hpO ow) _ (Rp.mono gh_fh _ q2)⟩
    | give ds hg =>
      exact ⟨_, (j.own k ds e1).1, freed e1 (fun ds' z => by rw [h] at z; cases z) hg⟩
    | giveA ds hg =>
      exact ⟨_, (j.own k ds e1).1, Rp.mono gh_fh _ (freed e1 (fun ds' z => by rw [h] at z; cases z) hg)⟩
  · obtain ⟨e1, e2⟩ := j.own k ds (own' h)
    exact ⟨e1, e2.mono (Gr.ghO ow) (Gr.fhO ow)⟩
  · obtain ⟨s', e1, e2⟩ := wks_get w h
    cases e2
    obtain ⟨a, q1, q2⟩ := j.scr k ns e1
    exact ⟨a, q1, sqL_same (Gr.fhO ow) q2⟩
  · obtain ⟨s', e1, e2⟩ := wks_get w h
    cases e2
    exact j.raw k u e1
  · obtain ⟨s', e1, e2⟩ := wks_get w h
    cases e2
    exact (j.pk k u e1).mono (Gr.ghO ow)
  · obtain ⟨e1, ds, e2⟩ := j.ioo k a h
    exact ⟨e1, ds, hio k a ds h e2⟩
  · rw [← wks_len w, j.len]
end

/-- what nobody owned stands, and nobody owns it -/
def Stt (O O' : Addr → Prop) (H H' : Hp) : Prop := ∀ a o, ¬ O a → H a = some o → H' a = some o ∧ ¬ O' a
theorem Stt.refl {O : Addr → Prop} {H : Hp} : Stt O O H H := fun _ _ n h => ⟨h, n⟩
theorem Stt.trans {O O1 O2 : Addr → Prop} {H H1 H2 : Hp} (a : Stt O O1 H H1) (b : Stt O1 O2 H1 H2) : Stt O O2 H H2 := fun x o n h => b x o (a x o n h).2 (a x o n h).1
theorem Gr.stt {O : Addr → Prop} {H H' : Hp} (e : Gr O H H') : Stt O O H H' := fun x o n h => ⟨e x o n h, n⟩

/-! ### statements as actions -/
inductive SRes (γ β : Type) where
  | nx (g : γ)
  | rt (b : β) (g : γ)
  | exc (x : Str) (g : γ)
  | bad
abbrev Sc (γ β : Type) := γ → SRes γ β
/-- how a def hands back: data that may be the asker's; made since; a new list; a new tree -/
inductive RM where
  | an
  | fr
  | nw
  | tn (s : D → Tr)
theorem hide_imp' {P Q : Addr → Prop} {H : Hp} (h : ∀ a, Q a → P a) : Same (hide P H) (hide Q H) := hide_same fun a o n e => ⟨fun z => n (h a z), e⟩
/-- S: what the caller wished left out; N: what the trees handed in have anew, and the one handed back, at T -/
def RetR (K : PySem.W.Frag) (H0 : Hp) (S N : Addr → Prop) (T : List Addr) (H' : Hp) : RM → L2.V → D → Prop
  | .an, v, d => Rp K (hide (fun a => S a ∨ N a) H') v d
  | .fr, v, d => Rp K (hide (fun a => Mut (H0 a) ∨ N a) H') v d
  | .nw, v, d => ∃ q us ds, v = .ref q ∧ d = .list ds ∧ H0 q = none ∧ ¬ N q ∧ H' q = some (.lst us) ∧ RpA K (hide (fun a => (Mut (H0 a) ∨ a = q) ∨ N a) H') us ds
  | .tn s, v, d => TrOk K (hide (fun a => S a ∨ N a) H') H' T v (s d)
/-- where the tree handed back is told -/
def RIX : Nat := 999999
/-- what holds all through a def: how it hands back, the lists (ios) and trees (tios) that it was handed to change and how they stand -/
structure FC (γ β : Type) where
  rm : RM
  en : β → D
  ios : List (Nat × (γ → Ob))
  tios : List (Nat × (γ → Tr)) := []
  gro : Bool := false
  ats : ∀ q ∈ ios, ∀ g, ∀ k ∈ (q.2 g).ats, k ∈ ios.map (·.1) := by first | exact fun _ h => absurd h List.not_mem_nil | (intro q h g k z; rcases List.mem_singleton.mp h with rfl; exact absurd z List.not_mem_nil)
def adI (l : List (Nat × Addr)) (k : Nat) : Addr := (l.lookup k).getD 0
/-- the places that callers wished left out -/
def SIo (Z : Fix) (a : Addr) : Prop := Z.S a ∨ ∃ i, (i, a) ∈ Z.io
def Frame (Z : Fix) (H : Hp) : Prop := ∀ a o, Z.H0 a = some o → (∀ i, (i, a) ∉ Z.io) → Z.nt a → H a = some o
def BB (B : Nat → List Addr) (a : Addr) : Prop := ∃ i, a ∈ B i
def IoR (Z : Fix) (B : Nat → List Addr) (l : List (Nat × Ob)) (H : Hp) : Prop := ∀ i a ds, (i, a) ∈ Z.io → (i, ds) ∈ l → OwnOk Z.K (adI Z.io) (hide (fun x => Mut (Z.H0 x) ∨ BB B x) H) (hide (fun x => SIo Z x ∨ BB B x) H) (H a) ds
def FC.io {γ β : Type} (C : FC γ β) (g : γ) : List (Nat × Ob) := C.ios.map (fun q => (q.1, q.2 g)) ++ C.tios.map fun q => (q.1, .tr (q.2 g))
/-- the trees handed in, as they are handed back: B their places -/
structure TioR (K : PySem.W.Frag) (S : Addr → Prop) (H0 : Hp) (io : List (Nat × Addr)) (tio : Nat → Option (V × List Addr)) (B : Nat → List Addr) (l : List (Nat × Ob)) (H : Hp) : Prop where
  ok : ∀ i x t, tio i = some x → (i, .tr t) ∈ l → TrOk K (hide (fun a => S a ∨ BB B a) H) H (B i) x.1 t ∧ (B i).Nodup
  no : ∀ i, tio i = none → i ≠ RIX → B i = []
  dj : ∀ i j a, a ∈ B i → a ∈ B j → i = j
  ow : ∀ i j a, (i, a) ∈ io → a ∉ B j
  nw : ∀ i x a, tio i = some x → a ∈ B i → a ∈ x.2 ∨ H0 a = none
  is : ∀ i a, a ∈ B i → Mut (H a)
  rn : ∀ a, a ∈ B RIX → H0 a = none
  rd : (B RIX).Nodup
  dm : ∀ i x a, tio i = some x → a ∈ x.2 → Mut (H a)
  fx : ∀ i x, tio i = some x → x.2.Nodup → B i = x.2
structure RetB {γ β : Type} (Z : Fix) (C : FC γ β) (g : γ) (b : β) (v : L2.V) (H : Hp) (B : Nat → List Addr) : Prop where
  frame : Frame Z H
  io : IoR Z B (C.io g) H
  ret : RetR Z.K Z.H0 (SIo Z) (BB B) (B RIX) H C.rm v (C.en b)
  tio : TioR Z.K (SIo Z) Z.H0 Z.io Z.tio B (C.io g) H
def RetOk {γ β : Type} (Z : Fix) (C : FC γ β) (g : γ) (b : β) (v : L2.V) (H : Hp) : Prop := ∃ B, RetB Z C g b v H B
/-- what is wanted of an exception: of the state where it is let go -/
abbrev XJ (γ : Type) := Fix → (AT) → γ → L2.St → Hp → Prop
def tS {γ β : Type} (mg : Str → Option Value) (Z : Fix) (W : WX) (C : FC γ β) (xj : XJ γ) (Ve Ve' : Ev γ) (f : Sc γ β) : TS := fun D σ H => ∃ g A, J Z A (at_ Ve g) σ H ∧
  match f g with
  | .nx g' => ∀ A' σ' H', J Z A' (at_ Ve' g') σ' H' → Stt (OwV A Ve) (OwV A' Ve') H H' → D.nx σ' H'
  | .rt b g' => ∀ v H', RetOk Z C g' b v H' → D.rt v H'
  | .exc x g' => ∀ c A' σ' H', mg x = some c → xj Z A' g' σ' H' → W c none σ' H'
  | .bad => False
def ioIx {γ β : Type} (C : FC γ β) : List Nat := C.ios.map (·.1) ++ C.tios.map (·.1)
/-- what was handed in to be changed is what C tells -/
structure ZC {γ β : Type} (Z : Fix) (C : FC γ β) : Prop where
  io : Z.io.map (·.1) = C.ios.map (·.1)
  tio : ∀ i, i ∉ C.tios.map (·.1) → Z.tio i = none
  rix : Z.tio RIX = none
  gro : C.gro = true → ∀ i x, Z.tio i = some x → ¬ x.2.Nodup
structure SS (X : Cx) {γ β : Type} (C : FC γ β) (xj : XJ γ) (Ve Ve' : Ev γ) (st : Stmt) (f : Sc γ β) : Prop where
  run : ∀ (Z : Fix) (W : WX), Z.K = X.K → ZC Z C → Takes X W → PS X st (tS X.mg Z W C xj Ve Ve' f)
structure SB (X : Cx) {γ β : Type} (C : FC γ β) (xj : XJ γ) (Ve Ve' : Ev γ) (sts : List Stmt) (f : Sc γ β) : Prop where
  run : ∀ (Z : Fix) (W : WX), Z.K = X.K → ZC Z C → Takes X W → PSs X sts (tS X.mg Z W C xj Ve Ve' f)
theorem _root_.L2.PS.weak {X : Cx} {st : Stmt} {t t' : TS} (h : PS X st t) (w : ∀ D σ H, t' D σ H → t D σ H) : PS X st t' := ⟨fun pins s σ H D I q => h.run pins s σ H D I (w D σ H q)⟩
theorem _root_.L2.PSs.weak {X : Cx} {st : List Stmt} {t t' : TS} (h : PSs X st t) (w : ∀ D σ H, t' D σ H → t D σ H) : PSs X st t' := ⟨fun pins s σ H D I q => h.run pins s σ H D I (w D σ H q)⟩

/-- what an exception wants, whatever the slots: all but the lists handed in stands -/
def xfr (γ : Type) : XJ γ := fun Z _ _ _ H => Frame Z H
def XOk {γ : Type} (xj : XJ γ) (Ve : Ev γ) : Prop := ∀ Z A g σ H, J Z A (at_ Ve g) σ H → xj Z A g σ H
theorem xfr_ok {γ : Type} {Ve : Ev γ} : XOk (xfr γ) Ve := fun Z A g σ H j a o h n n2 => j.base a o h n n2
def bindS {γ β : Type} (f h : Sc γ β) : Sc γ β := fun g => match f g with
  | .nx g1 => h g1
  | .rt b g1 => .rt b g1
  | .exc x g1 => .exc x g1
  | .bad => .bad
def doS {γ α β : Type} (f : Ac γ α) (k : α → Sc γ β) : Sc γ β := fun g => match f g with
  | .ok a g1 => k a g1
  | .exc x g1 => .exc x g1
  | .bad => .bad
def setS {γ α β : Type} (set : γ → α → γ) (f : Ac γ α) : Sc γ β := doS f fun a g => .nx (set g a)
def retS {γ β : Type} (f : Ac γ β) : Sc γ β := doS f fun b g => .rt b g
def dropS {γ α β : Type} (f : Ac γ α) : Sc γ β := doS f fun _ g => .nx g
def ifS {γ β : Type} (c : Ac γ Bool) (f h : Sc γ β) : Sc γ β := doS c fun b => if b = true then f else h
def nxS {γ β : Type} : Sc γ β := fun g => .nx g

section
variable {X : Cx} {γ α β τ : Type} [Enc α] {C : FC γ β} {xj : XJ γ} {Ve Ve' Ve2 : Ev γ} {m : Md} {p : Bool} {e : Expr} {st : Stmt} {rest : List Stmt} {mg : Str → Option Value} {Z : Fix} {W : WX}
/-- the lists handed in stand in their slots, the trees as well -/
def IosL {γ : Type} (Ve : Ev γ) : List (Nat × (γ → Ob)) → Prop
  | [] => True
  | q :: l => Ve[q.1]? = some (.own q.2) ∧ IosL Ve l
def TiosL {γ : Type} (Ve : Ev γ) : List (Nat × (γ → Tr)) → Prop
  | [] => True
  | q :: l => Ve[q.1]? = some (.tree q.2) ∧ TiosL Ve l
abbrev IosOk {γ β : Type} (Ve : Ev γ) (C : FC γ β) : Prop := IosL Ve C.ios ∧ TiosL Ve C.tios
theorem tios_get : ∀ {l : List (Nat × (γ → Tr))}, TiosL Ve l → ∀ q ∈ l, Ve[q.1]? = some (.tree q.2)
  | [], _, q, h => by cases h
  | a :: l, k, q, h => by
    rcases List.mem_cons.mp h with rfl | h
    · exact k.1
    · exact tios_get k.2 q h
theorem ios_get : ∀ {l : List (Nat × (γ → Ob))}, IosL Ve l → ∀ q ∈ l, Ve[q.1]? = some (.own q.2)
  | [], _, q, h => by cases h
  | a :: l, k, q, h => by
    rcases List.mem_cons.mp h with rfl | h
    · exact k.1
    · exact ios_get k.2 q h
theorem look_mem {α β : Type} [BEq α] [LawfulBEq α] : ∀ {l : List (α × β)} {k : α}, k ∈ l.map (·.1) → ∃ b, l.lookup k = some b ∧ (k, b) ∈ l
  | (x, y) :: l, k, h => by
    by_cases e : k = x
    · subst e
      exact ⟨y, by simp [List.lookup], List.mem_cons_self⟩
    · have h' : k ∈ l.map (·.1) := by
        rcases List.mem_cons.mp h with z | z
        · exact absurd z e
        · exact z
      obtain ⟨b, h1, h2⟩ := look_mem h'
      refine ⟨b, ?_, List.mem_cons_of_mem _ h2⟩
      have : (k == x) = false := by simpa using e
      simp [List.lookup, this, h1]
theorem adI_eq {A : AT} {r : List Slot} {σ : L2.St} {H : Hp} (j : J Z A r σ H) {k : Nat} (h : k ∈ Z.io.map (·.1)) : adI Z.io k = A k := by
  obtain ⟨b, h1, h2⟩ := look_mem h
  unfold adI
  rw [h1]
  exact (j.ioo k b h2).1.symm
/-- the places of the trees handed in -/
def tB (Z : Fix) (A : AT) (i : Nat) : List Addr := match Z.tio i with
  | some _ => A.ext i
  | none => []
theorem tB_mem {A : AT} {i : Nat} {a : Addr} (h : a ∈ tB Z A i) : (∃ x, Z.tio i = some x) ∧ a ∈ A.ext i := by
  unfold tB at h
  cases e : Z.tio i with
  | none => rw [e] at h; cases h
  | some x => rw [e] at h; exact ⟨⟨x, rfl⟩, h⟩
theorem tB_of {A : AT} {i : Nat} {x : V × List Addr} (h : Z.tio i = some x) : tB Z A i = A.ext i := by
  unfold tB
  rw [h]
theorem tio_tree {g : γ} (hio : ZC Z C) (k : IosOk Ve C) {i : Nat} {x : V × List Addr} (h : Z.tio i = some x) : ∃ q ∈ C.tios, q.1 = i ∧ (at_ Ve g)[i]? = some (.tree (q.2 g)) := by
  have : i ∈ C.tios.map (·.1) := Classical.not_not.mp fun z => by rw [hio.tio i z] at h; cases h
  obtain ⟨q, hq, rfl⟩ := List.mem_map.mp this
  have h1 := tios_get k.2 q hq
  exact ⟨q, hq, rfl, by rw [at_get, h1]; rfl⟩
theorem sio_ow {A : AT} {g : γ} {σ : L2.St} {H : Hp} (j : J Z A (at_ Ve g) σ H) {x : Addr} (y : SIo Z x) : Z.S x ∨ Ow A (at_ Ve g) x := by
  rcases y with y | ⟨i, y⟩
  · exact .inl y
  · obtain ⟨e4, ds, e5⟩ := j.ioo i x y
    exact .inr (.inl ⟨i, ds, e5, e4⟩)
theorem bb_ow {A : AT} {g : γ} (hio : ZC Z C) (k : IosOk Ve C) {x : Addr} (y : BB (tB Z A) x) : Ow A (at_ Ve g) x := by
  obtain ⟨i, y⟩ := y
  obtain ⟨⟨u, h⟩, m⟩ := tB_mem y
  obtain ⟨q, _, rfl, e⟩ := tio_tree (g := g) hio k h
  exact .inr ⟨_, _, e, m⟩
theorem J.ioR {A : AT} {g : γ} {σ : L2.St} {H : Hp} (j : J Z A (at_ Ve g) σ H) (hio : ZC Z C) (k : IosOk Ve C) : IoR Z (tB Z A) (C.io g) H := fun i a ds h hl => by
  have h1 : ∃ q ∈ C.ios, q.1 = i := by
    have : i ∈ Z.io.map (·.1) := List.mem_map.mpr ⟨(i, a), h, rfl⟩
    rw [hio.io] at this
    obtain ⟨q, hq, e⟩ := List.mem_map.mp this
    exact ⟨q, hq, e⟩
  rcases List.mem_append.mp hl with hl | hl
  · obtain ⟨q, hq, e⟩ := List.mem_map.mp hl
    cases e
    have h1 := ios_get k.1 q hq
    obtain ⟨e1, _⟩ := j.ioo q.1 a h
    have hr : (at_ Ve g)[q.1]? = some (.own (q.2 g)) := by rw [at_get, h1]; rfl
    obtain ⟨_, e3⟩ := j.own q.1 _ hr
    rw [e1] at e3
    refine (e3.mono (hide_same fun x o n z => ⟨fun y => n ?_, z⟩) (hide_same fun x o n z => ⟨fun y => n ?_, z⟩)).chA fun l hl => adI_eq j (by rw [hio.io]; exact C.ats q hq g l hl)
    · rcases y with y | y
      · exact .inr (.inr y)
      · exact .inr (.inl (bb_ow hio k y))
    · rcases y with y | y
      · exact sio_ow j y
      · exact .inr (bb_ow hio k y)
  · obtain ⟨q, hq, e⟩ := List.mem_map.mp hl
    cases e
    have h2 := tios_get k.2 q hq
    obtain ⟨q', hq', e⟩ := h1
    have h3 := ios_get k.1 q' hq'
    rw [e, h2] at h3
    cases h3
theorem J.tioR {A : AT} {g : γ} {σ : L2.St} {H : Hp} (j : J Z A (at_ Ve g) σ H) (hio : ZC Z C) (k : IosOk Ve C) : TioR Z.K (SIo Z) Z.H0 Z.io Z.tio (tB Z A) (C.io g) H := by
  have rx : tB Z A RIX = [] := by
    unfold tB
    rw [hio.rix]
  refine ⟨fun i x t h hl => ?_, fun i h _ => ?_, fun i l a h1 h2 => ?_, fun i l a h1 h2 => ?_, fun i x a h1 h2 => ?_, fun i a h => ?_, fun a h => (by rw [rx] at h; cases h), by rw [rx]; exact List.nodup_nil, fun i x a h1 h2 => j.mm a (j.tm i x a h1 h2).1, fun i x h nd => (by
    obtain ⟨q0, hq0, rfl, e0⟩ := tio_tree (g := g) hio k h
    rw [tB_of h]
    exact (j.tr.fx _ _ _ e0 h).2 nd)⟩
  · obtain ⟨q0, hq0, rfl, e0⟩ := tio_tree (g := g) hio k h
    rcases List.mem_append.mp hl with hl | hl
    · obtain ⟨q, hq, e⟩ := List.mem_map.mp hl
      have h1 := ios_get k.1 q hq
      have h2 := tios_get k.2 q0 hq0
      rw [show q.1 = q0.1 from (Prod.mk.inj e).1, h2] at h1
      cases h1
    · obtain ⟨q, hq, e⟩ := List.mem_map.mp hl
      have h1 := tios_get k.2 q hq
      have e3 : q.1 = q0.1 := (Prod.mk.inj e).1
      have e4 : Ob.tr (q.2 g) = .tr t := (Prod.mk.inj e).2
      cases e4
      have hr : (at_ Ve g)[q0.1]? = some (.tree (q.2 g)) := by rw [at_get, ← e3, h1]; rfl
      obtain ⟨_, o2, o3⟩ := j.tr.ok _ _ hr
      rw [tB_of h, ← j.tr.iv _ _ _ hr h]
      exact ⟨TrOk.mono (hide_same fun a o n z => ⟨fun y => n (y.elim (sio_ow j) fun y => .inr (bb_ow hio k y)), z⟩) (fun _ _ h => h) _ (fun _ _ => rfl) o2, o3⟩
  · unfold tB
    rw [h]
  · obtain ⟨⟨u, e1⟩, m1⟩ := tB_mem h1
    obtain ⟨⟨v, e2⟩, m2⟩ := tB_mem h2
    obtain ⟨q1, _, rfl, t1⟩ := tio_tree (g := g) hio k e1
    obtain ⟨q2, _, rfl, t2⟩ := tio_tree (g := g) hio k e2
    exact j.tr.dj _ _ _ _ a t1 t2 m1 m2
  · obtain ⟨⟨v, e2⟩, m2⟩ := tB_mem h2
    obtain ⟨q2, _, rfl, t2⟩ := tio_tree (g := g) hio k e2
    obtain ⟨e4, ds, e5⟩ := j.ioo i a h1
    rw [← e4] at m2
    exact j.tr.ow _ _ _ _ e5 t2 m2
  · obtain ⟨_, m2⟩ := tB_mem h2
    obtain ⟨q2, _, rfl, t2⟩ := tio_tree (g := g) hio k h1
    rcases j.tr.nw _ _ a t2 m2 with ⟨y, e1, e2⟩ | e
    · rw [h1] at e1
      cases e1
      exact .inl e2
    · exact .inr e
  · obtain ⟨⟨v, e2⟩, m2⟩ := tB_mem h
    obtain ⟨q2, _, rfl, t2⟩ := tio_tree (g := g) hio k e2
    obtain ⟨u, h1, h2⟩ := j.owl (.inr ⟨_, _, t2, m2⟩)
    rw [h1]
    exact h2
theorem J.retOk {A : AT} {g : γ} {σ : L2.St} {H : Hp} {b : β} {v : L2.V} (j : J Z A (at_ Ve g) σ H) (hio : ZC Z C) (k : IosOk Ve C) (h : RetR Z.K Z.H0 (SIo Z) (BB (tB Z A)) (tB Z A RIX) H C.rm v (C.en b)) : RetOk Z C g b v H :=
  ⟨tB Z A, fun a o h n n2 => j.base a o h n n2, j.ioR hio k, h, j.tioR hio k⟩
theorem s_nil : SB X C xj Ve Ve [] nxS := ⟨fun Z W hK hio tk => pss_nil.weak fun D σ H q => by
  obtain ⟨g, A, j, q⟩ := q
  exact q A σ H j .refl⟩
theorem tS_seq {f h : Sc γ β} {D : Ends} {σ : L2.St} {H : Hp} (q : tS mg Z W C xj Ve Ve2 (bindS f h) D σ H) : tSeq (tS mg Z W C xj Ve Ve' f) (tS mg Z W C xj Ve' Ve2 h) D σ H := by
  obtain ⟨g, A, j, q⟩ := q
  refine ⟨g, A, j, ?_⟩
  unfold bindS at q
  cases ef : f g with
  | bad => simp only [ef] at q
  | exc x g1 => simp only [ef] at q; exact q
  | rt b g1 => simp only [ef] at q; exact q
  | nx g1 =>
    simp only [ef] at q
    intro A' σ' H' j' st
    refine ⟨g1, A', j', ?_⟩
    cases eh : h g1 with
    | bad => simp only [eh] at q
    | exc x g2 => simp only [eh] at q; exact q
    | rt b g2 => simp only [eh] at q; exact q
    | nx g2 =>
      simp only [eh] at q
      exact fun A2 σ2 H2 j2 st2 => q A2 σ2 H2 j2 (st.trans st2)
theorem s_cons {f h : Sc γ β} (h1 : SS X C xj Ve Ve' st f) (h2 : SB X C xj Ve' Ve2 rest h) : SB X C xj Ve Ve2 (st :: rest) (bindS f h) := ⟨fun Z W hK hio tk => (pss_cons (h1.run Z W hK hio tk) (h2.run Z W hK hio tk)).weak fun D σ H q => tS_seq q⟩
theorem s_last {f : Sc γ β} (h1 : SS X C xj Ve Ve' st f) : SB X C xj Ve Ve' [st] f := ⟨fun Z W hK hio tk => pss_one (h1.run Z W hK hio tk)⟩
/-- no io slot is i -/
theorem noIx {i : Nat} (hn : (ioIx C).contains i = false) : i ∉ C.ios.map (·.1) ∧ i ∉ C.tios.map (·.1) := by
  have c : i ∉ ioIx C := fun z => by
    have : (ioIx C).contains i = true := by simpa using z
    rw [hn] at this
    cases this
  exact ⟨fun z => c (List.mem_append_left _ z), fun z => c (List.mem_append_right _ z)⟩
theorem noio {i : Nat} (hio : ZC Z C) (hn : (ioIx C).contains i = false) : ∀ a, (i, a) ∉ Z.io := fun a h => by
  have : i ∈ Z.io.map (·.1) := List.mem_map.mpr ⟨(i, a), h, rfl⟩
  rw [hio.io] at this
  exact (noIx hn).1 this
theorem notio {i : Nat} (hio : ZC Z C) (hn : (ioIx C).contains i = false) : Z.tio i = none := hio.tio i (noIx hn).2
/-- fewer things known -/
def Wkv (Ve Ve' : Ev γ) : Prop := ∀ g, Wks (at_ Ve g) (at_ Ve' g)
theorem wk_io {A : AT} {g : γ} (k : IosOk Ve C) (k' : IosOk Ve' C) (hio : ZC Z C) : ∀ i a ds, (i, a) ∈ Z.io → (at_ Ve g)[i]? = some (.own ds) → (at_ Ve' g)[i]? = some (.own ds) := fun i a ds h e => by
  have : i ∈ Z.io.map (·.1) := List.mem_map.mpr ⟨(i, a), h, rfl⟩
  rw [hio.io] at this
  obtain ⟨q, hq, e'⟩ := List.mem_map.mp this
  subst e'
  have e1 := ios_get k.1 q hq
  have e2 := ios_get k'.1 q hq
  rw [at_get, e1] at e
  rw [at_get, e2]
  exact e
theorem wk_ow {A : AT} {g : γ} (w : Wks (at_ Ve g) (at_ Ve' g)) {a : Addr} (h : OwV A Ve' a) : OwV A Ve a := by
  rw [← ow_at (g := g)] at h ⊢
  rcases h with ⟨i, ds, e, z⟩ | ⟨i, t, e, z⟩
  · obtain ⟨s', e1, e2⟩ := wks_get w e
    cases e2
    exact .inl ⟨i, ds, e1, z⟩
  · obtain ⟨s', e1, e2⟩ := wks_get w e
    cases e2
    exact .inr ⟨i, t, e1, z⟩
theorem SB.wk {f : Sc γ β} {sts : List Stmt} (h : SB X C xj Ve Ve' sts f) (w : Wkv Ve' Ve2) (k : IosOk Ve' C) (k' : IosOk Ve2 C) : SB X C xj Ve Ve2 sts f := ⟨fun Z W hK hio tk => (h.run Z W hK hio tk).weak fun D σ H q => by
  obtain ⟨g, A, j, q⟩ := q
  refine ⟨g, A, j, ?_⟩
  cases ef : f g with
  | bad => simp only [ef] at q
  | exc x g1 => simp only [ef] at q; exact q
  | rt b g1 => simp only [ef] at q; exact q
  | nx g1 =>
    simp only [ef] at q
    exact fun A' σ' H' j' st => q A' σ' H' (j'.weak (w g1) (wk_io (A := A') k k' hio)) fun a o n h => ⟨(st a o n h).1, fun z => (st a o n h).2 (wk_ow (w g1) z)⟩⟩
/-- .. ahead -/
theorem SB.pre {f : Sc γ β} {sts : List Stmt} (h : SB X C xj Ve' Ve2 sts f) (w : Wkv Ve Ve') (k : IosOk Ve C) (k' : IosOk Ve' C) : SB X C xj Ve Ve2 sts f := ⟨fun Z W hK hio tk => (h.run Z W hK hio tk).weak fun D σ H q => by
  obtain ⟨g, A, j, q⟩ := q
  refine ⟨g, A, j.weak (w g) (wk_io (A := A) k k' hio), ?_⟩
  cases ef : f g with
  | bad => simp only [ef] at q
  | exc x g1 => simp only [ef] at q; exact q
  | rt b g1 => simp only [ef] at q; exact q
  | nx g1 =>
    simp only [ef] at q
    exact fun A' σ' H' j' st => q A' σ' H' j' fun a o n h => st a o (fun z => n (wk_ow (w g) z)) h⟩
theorem SS.pre {f : Sc γ β} (h : SS X C xj Ve' Ve2 st f) (w : Wkv Ve Ve') (k : IosOk Ve C) (k' : IosOk Ve' C) : SS X C xj Ve Ve2 st f := ⟨fun Z W hK hio tk => (h.run Z W hK hio tk).weak fun D σ H q => by
  obtain ⟨g, A, j, q⟩ := q
  refine ⟨g, A, j.weak (w g) (wk_io (A := A) k k' hio), ?_⟩
  cases ef : f g with
  | bad => simp only [ef] at q
  | exc x g1 => simp only [ef] at q; exact q
  | rt b g1 => simp only [ef] at q; exact q
  | nx g1 =>
    simp only [ef] at q
    exact fun A' σ' H' j' st => q A' σ' H' j' fun a o n h => st a o (fun z => n (wk_ow (w g) z)) h⟩

/-- an expression ahead of what is done with its value -/
theorem tS_do {f : Ac γ α} {k : α → Sc γ β} {D : Ends} {σ : L2.St} {H : Hp} {Q : VK} (hx : XOk xj Ve) (q : tS mg Z W C xj Ve Ve' (doS f k) D σ H)
    (h : ∀ a g A v H', J Z A (at_ Ve g) σ H' → Rm Z A Ve H' m v (enc a) → (match k a g with
      | .nx g' => ∀ A' σ' H2, J Z A' (at_ Ve' g') σ' H2 → Stt (OwV A Ve) (OwV A' Ve') H' H2 → D.nx σ' H2
      | .rt b g' => ∀ v H', RetOk Z C g' b v H' → D.rt v H'
      | .exc x g' => ∀ c A' σ' H', mg x = some c → xj Z A' g' σ' H' → W c none σ' H'
      | .bad => False) → Q v H') : tE mg Z W Ve m p f σ H Q := by
  obtain ⟨g, A, j, q⟩ := q
  refine ⟨g, A, j, ?_⟩
  unfold doS at q
  cases ef : f g with
  | bad => simp only [ef] at q
  | exc x g1 =>
    simp only [ef] at q
    exact fun c H' mc j' gr => q c A σ H' mc (hx _ _ _ _ _ j')
  | ok a g1 =>
    simp only [ef] at q
    intro v H' j' gr sm rv
    refine h a g1 A v H' j' rv ?_
    cases ek : k a g1 with
    | bad => simp only [ek] at q
    | exc x g2 => simp only [ek] at q; exact q
    | rt b g2 => simp only [ek] at q; exact q
    | nx g2 =>
      simp only [ek] at q
      exact fun A2 σ2 H2 j2 st2 => q A2 σ2 H2 j2 (gr.stt.trans st2)
theorem tS_doN {f : Ac γ (List α)} {k : List α → Sc γ β} {D : Ends} {σ : L2.St} {H : Hp} {Q : VK} (hx : XOk xj Ve) (q : tS mg Z W C xj Ve Ve' (doS f k) D σ H)
    (h : ∀ a g A n vs H', H' n = none → J Z A (at_ Ve g) σ H' → RpA Z.K (GH Z (OwV A Ve) H') vs (a.map enc) → (match k a g with
      | .nx g' => ∀ A' σ' H2, J Z A' (at_ Ve' g') σ' H2 → Stt (OwV A Ve) (OwV A' Ve') H' H2 → D.nx σ' H2
      | .rt b g' => ∀ v H', RetOk Z C g' b v H' → D.rt v H'
      | .exc x g' => ∀ c A' σ' H', mg x = some c → xj Z A' g' σ' H' → W c none σ' H'
      | .bad => False) → Q (.ref n) (upd H' n (.lst vs))) : tN mg Z W Ve p f σ H Q := by
  obtain ⟨g, A, j, q⟩ := q
  refine ⟨g, A, j, ?_⟩
  unfold doS at q
  cases ef : f g with
  | bad => simp only [ef] at q
  | exc x g1 =>
    simp only [ef] at q
    exact fun c H' mc j' gr => q c A σ H' mc (hx _ _ _ _ _ j')
  | ok a g1 =>
    simp only [ef] at q
    intro n vs H' hn j' gr sm rv
    refine h a g1 A n vs H' hn j' rv ?_
    cases ek : k a g1 with
    | bad => simp only [ek] at q
    | exc x g2 => simp only [ek] at q; exact q
    | rt b g2 => simp only [ek] at q; exact q
    | nx g2 =>
      simp only [ek] at q
      exact fun A2 σ2 H2 j2 st2 => q A2 σ2 H2 j2 (gr.stt.trans st2)
def frB : Md → Bool
  | .fr => true
  | _ => false
def noBo : Md → Bool
  | .bo _ => false
  | .bt => false
  | _ => true
theorem rm_frB {A : AT} {H : Hp} {v : L2.V} {d : D} (hm : noBo m = true) (h : Rm Z A Ve H m v d) : Rp Z.K (hp Z (OwV A Ve) H (frB m)) v d := by
  cases m with
  | fr => exact h
  | an => exact h
  | bo i => cases hm
  | bt => cases hm
/-- name = e -/
theorem c_set {f : Ac γ α} (i : Nat) (set : γ → α → γ) {n : Str} {pos pos' : Pos} (hx : XOk xj Ve) (he : SE X Ve m p e f) (hV : ∀ g a, at_ Ve' (set g a) = (at_ Ve g).set i (.imm (frB m) (enc a)) := by exact fun _ _ => rfl) (hm : noBo m = true := by rfl) (hno : (ioIx C).contains i = false := by rfl)
    (hN : X.N.Nodup) (hi : X.N[i]? = some n := by rfl) (hl : Loc X.env.scope n := by first | exact .inl rfl | exact .inr rfl) (hs : swapsWith e (some (.Name n pos')) pos.line X.env = pure false := by rfl) (hf : X.fn n = true ∨ X.env.scope.names.lookup n = some .local := by first | exact .inl rfl | exact .inr rfl) :
    SS X C xj Ve Ve' (.Assign [.Name n pos'] e pos) (setS set f) := ⟨fun Z W hK hio tk => (ps_set hN hi hl (he.run Z W hK tk) hs hf).weak fun D σ H q => tS_do hx q fun a g A v H' j rv z => by
  have j2 := j.setImm (i := i) (by rw [ow_at]; exact rm_frB hm rv) (noio hio hno)
  rw [← hV] at j2
  refine z A _ H' j2 fun x o n h => ⟨h, fun y => n ?_⟩
  rw [← ow_at (g := set g a), hV] at y
  rw [← ow_at (g := g)]
  exact ow_set imm_ne x y⟩
/-- name = a new list, one's own -/
def noPk {γ : Type} (i : Nat) : Ev γ → Bool
  | [] => true
  | .pk q :: V => !q.js.contains i && noPk i V
  | _ :: V => noPk i V
theorem noPk_all {γ : Type} {i : Nat} {g : γ} : ∀ {V : Ev γ}, noPk i V = true → ∀ (k : Nat) (t : Pk), (at_ V g)[k]? = some (.pk t) → i ∉ t.js
  | [], _, k, t, e => by simp [at_] at e
  | s :: V, h, k, t, e => by
    have h' : noPk i V = true := by
      cases s with
      | pk q => exact (Bool.and_eq_true_iff.mp (show (!q.js.contains i && noPk i V) = true from h)).2
      | no => exact h
      | imm fr d => exact h
      | own ds => exact h
      | scr ns => exact h
      | raw v => exact h
      | tree t => exact h
    cases k with
    | zero =>
      have e' : SlotG.at g s = .pk t := by simpa [at_] using e
      cases s with
      | pk q =>
        cases e'
        have h2 : (!t.js.contains i && noPk i V) = true := h
        intro z
        have := (Bool.and_eq_true_iff.mp h2).1
        simp [z] at this
      | no => cases e'
      | imm fr d => cases e'
      | own ds => cases e'
      | scr ns => cases e'
      | raw v => cases e'
      | tree t => cases e'
    | succ k =>
      have e' : (at_ V g)[k]? = some (.pk t) := by simpa [at_] using e
      exact noPk_all h' k t e'
theorem noAtS {i : Nat} {r : List Slot} (h : (atsS r).contains i = false) : i ∉ atsS r := fun z => by
  have : (atsS r).contains i = true := by simpa using z
  rw [h] at this
  cases this
theorem c_own {f : Ac γ (List α)} (i : Nat) (set : γ → List α → γ) {n : Str} {pos pos' : Pos} (hx : XOk xj Ve) (he : SN X Ve p e f) (hV : ∀ g a, at_ Ve' (set g a) = (at_ Ve g).set i (.own (a.map enc)) := by exact fun _ _ => rfl) (hno : (ioIx C).contains i = false := by rfl) (hpk : noPk i Ve = true := by rfl) (hat : ∀ g, (atsS (at_ Ve g)).contains i = false := by exact fun _ => rfl)
    (hN : X.N.Nodup) (hi : X.N[i]? = some n := by rfl) (hl : Loc X.env.scope n := by first | exact .inl rfl | exact .inr rfl) (hs : swapsWith e (some (.Name n pos')) pos.line X.env = pure false := by rfl) (hf : X.fn n = true ∨ X.env.scope.names.lookup n = some .local := by first | exact .inl rfl | exact .inr rfl) :
    SS X C xj Ve Ve' (.Assign [.Name n pos'] e pos) (setS set f) := ⟨fun Z W hK hio tk => (ps_set hN hi hl (he.run Z W hK tk) hs hf).weak fun D σ H q => tS_doN hx q fun a g A v vs H' hn j rv z => by
  have j2 := j.setOwn (i := i) hn (by rw [ow_at]; exact rv) (noio hio hno) (fun k t e _ => noPk_all hpk k t e) (noAtS (hat g))
  rw [← hV] at j2
  refine z (A.put i v) _ _ j2 fun x o n h => ⟨same_new hn _ _ h, fun y => ?_⟩
  rw [← ow_at (g := set g a), hV] at y
  rcases ow_setOwn y with y | y
  · rw [ow_at] at y
    exact n y
  · rw [y, hn] at h
    cases h⟩
/-- a value that nobody wants -/
theorem c_drop {f : Ac γ α} {pos : Pos} (hx : XOk xj Ve) (he : SE X Ve m p e f) (hs : swapsWith e none pos.line X.env = pure false := by rfl) : SS X C xj Ve Ve (.Expr e pos) (dropS f) := ⟨fun Z W hK hio tk => (ps_expr (he.run Z W hK tk) hs).weak fun D σ H q => tS_do hx q fun a g A v H' j rv z => z A σ H' j .refl⟩
theorem c_doc {x : Str} {jj : _} {pos pos' : Pos} : SS X C xj Ve Ve (.Expr (.Constant (.str x) jj pos) pos') nxS := ⟨fun Z W hK hio tk => ps_doc.weak fun D σ H q => by
  obtain ⟨g, A, j, q⟩ := q
  exact q A σ H j .refl⟩
theorem c_pass {pos : Pos} : SS X C xj Ve Ve (.Pass pos) nxS := ⟨fun Z W hK hio tk => ps_pass.weak fun D σ H q => by
  obtain ⟨g, A, j, q⟩ := q
  exact q A σ H j .refl⟩
/-- if -/
theorem tT_do {c : Ac γ Bool} {f h : Sc γ β} {D : Ends} {σ : L2.St} {H : Hp} (hx : XOk xj Ve) (q : tS mg Z W C xj Ve Ve' (ifS c f h) D σ H) : tT mg Z W Ve p c σ H fun b H1 => if b = true then tS mg Z W C xj Ve Ve' f D σ H1 else tS mg Z W C xj Ve Ve' h D σ H1 := by
  obtain ⟨g, A, j, q⟩ := q
  refine ⟨g, A, j, ?_⟩
  unfold ifS doS at q
  cases ef : c g with
  | bad => simp only [ef] at q
  | exc x g1 =>
    simp only [ef] at q
    exact fun c H' mc j' gr => q c A σ H' mc (hx _ _ _ _ _ j')
  | ok a g1 =>
    simp only [ef] at q
    intro H' j' gr sm
    have go : ∀ {k : Sc γ β}, (match k g1 with
        | .nx g' => ∀ A' σ' H', J Z A' (at_ Ve' g') σ' H' → Stt (OwV A Ve) (OwV A' Ve') H H' → D.nx σ' H'
        | .rt b g' => ∀ v H', RetOk Z C g' b v H' → D.rt v H'
        | .exc x g' => ∀ c A' σ' H', mg x = some c → xj Z A' g' σ' H' → W c none σ' H'
        | .bad => False) → tS mg Z W C xj Ve Ve' k D σ H' := fun {k} q => by
      refine ⟨g1, A, j', ?_⟩
      cases ek : k g1 with
      | bad => simp only [ek] at q
      | exc x g2 => simp only [ek] at q; exact q
      | rt b g2 => simp only [ek] at q; exact q
      | nx g2 =>
        simp only [ek] at q
        exact fun A2 σ2 H2 j2 st2 => q A2 σ2 H2 j2 (gr.stt.trans st2)
    cases a with
    | true => exact iteT (go (by simpa using q))
    | false => exact iteF (go (by simpa using q))
theorem c_if {c : Expr} {c0 : Ac γ Bool} {f h : Sc γ β} {as bs : List Stmt} {pos : Pos} (hx : XOk xj Ve) (hc : ST X Ve p c c0) (ha : SB X C xj Ve Ve' as f) (hb : SB X C xj Ve Ve' bs h) : SS X C xj Ve Ve' (.If c as bs pos) (ifS c0 f h) :=
  ⟨fun Z W hK hio tk => (ps_if (hc.run Z W hK tk) (ha.run Z W hK hio tk) (hb.run Z W hK hio tk)).weak fun D σ H q => tT_do hx q⟩
end

/-! ### handing back -/
section
variable {X : Cx} {γ α β : Type} [Enc α] [Enc β] {C : FC γ β} {xj : XJ γ} {Ve Ve' Ve2 : Ev γ} {m : Md} {p : Bool} {e : Expr} {Z : Fix}
theorem ret_an {A : AT} {g : γ} {σ : L2.St} {H : Hp} {v : L2.V} {d : D} (j : J Z A (at_ Ve g) σ H) (h : Rm Z A Ve H .an v d) (hio : ZC Z C) (k : IosOk Ve C) : Rp Z.K (hide (fun a => SIo Z a ∨ BB (tB Z A) a) H) v d :=
  Rp.mono (hide_same fun x o n z => ⟨fun y => n (by
    rw [← ow_at (g := g)]
    rcases y with y | y
    · exact sio_ow j y
    · exact .inr (bb_ow hio k y)), z⟩) _ h
theorem ret_fr {A : AT} {g : γ} {H : Hp} {v : L2.V} {d : D} (h : Rm Z A Ve H .fr v d) (hio : ZC Z C) (k : IosOk Ve C) : Rp Z.K (hide (fun a => Mut (Z.H0 a) ∨ BB (tB Z A) a) H) v d := Rp.mono (hide_same fun x o n z => ⟨fun y => n (by
    rcases y with y | y
    · exact .inr (.inr y)
    · refine .inr (.inl ?_)
      rw [← ow_at (g := g)]
      exact bb_ow hio k y), z⟩) _ h
/-- return e -/
theorem c_ret {f : Ac γ β} {pos : Pos} (hx : XOk xj Ve) (he : SE X Ve m p e f) (hen : C.en = enc := by rfl) (hrm : (C.rm = .fr ∧ m = .fr) ∨ (C.rm = .an ∧ noBo m = true) := by first | exact .inl ⟨rfl, rfl⟩ | exact .inr ⟨rfl, rfl⟩) (k : IosOk Ve C := by first | exact ⟨trivial, trivial⟩ | exact ⟨⟨rfl, trivial⟩, trivial⟩ | exact ⟨trivial, rfl, trivial⟩ | exact ⟨⟨rfl, trivial⟩, rfl, trivial⟩ | exact ⟨trivial, rfl, rfl, trivial⟩ | exact ⟨⟨rfl, trivial⟩, rfl, rfl, trivial⟩) :
    SS X C xj Ve Ve' (.Return (some e) pos) (retS f) := ⟨fun Z W hK hio tk => (ps_ret (he.run Z W hK tk)).weak fun D σ H q => tS_do hx q fun b g A v H' j rv z => z v H' (j.retOk hio k (by
  rw [hen]
  rcases hrm with ⟨e1, e2⟩ | ⟨e1, e2⟩
  · rw [e1]; subst e2; exact ret_fr (g := g) rv hio k
  · rw [e1]
    cases m with
    | fr => exact ret_an j rv.an hio k
    | an => exact ret_an j rv hio k
    | bo i => cases e2
    | bt => cases e2))⟩
/-- return None -/
theorem c_retN0 {f : Ac γ Unit} {C : FC γ Unit} {pos : Pos} (hen : C.en = fun _ => .none := by rfl) (hrm : C.rm = .fr := by rfl) (k : IosOk Ve C := by first | exact ⟨trivial, trivial⟩ | exact ⟨⟨rfl, trivial⟩, trivial⟩ | exact ⟨trivial, rfl, trivial⟩ | exact ⟨⟨rfl, trivial⟩, rfl, trivial⟩ | exact ⟨trivial, rfl, rfl, trivial⟩ | exact ⟨⟨rfl, trivial⟩, rfl, rfl, trivial⟩) :
    SS X C xj Ve Ve' (.Return none pos) (retS (pureA fun _ => ())) := ⟨fun Z W hK hio tk => ps_retN.weak fun D σ H q => by
  obtain ⟨g, A, j, q⟩ := q
  exact q .non H (j.retOk hio k (by rw [hen, hrm]; exact .non))⟩
end
section
variable {X : Cx} {γ α : Type} [Enc α] {C : FC γ (List α)} {xj : XJ γ} {Ve Ve' Ve2 : Ev γ} {m : Md} {p : Bool} {e : Expr} {Z : Fix}
/-- return a new list -/
theorem c_retN {f : Ac γ (List α)} {pos : Pos} (hx : XOk xj Ve) (he : SN X Ve p e f) (hen : C.en = enc := by rfl) (hrm : C.rm = .nw := by rfl) (k : IosOk Ve C := by first | exact ⟨trivial, trivial⟩ | exact ⟨⟨rfl, trivial⟩, trivial⟩ | exact ⟨trivial, rfl, trivial⟩ | exact ⟨⟨rfl, trivial⟩, rfl, trivial⟩ | exact ⟨trivial, rfl, rfl, trivial⟩ | exact ⟨⟨rfl, trivial⟩, rfl, rfl, trivial⟩) :
    SS X C xj Ve Ve' (.Return (some e) pos) (retS f) := ⟨fun Z W hK hio tk => (ps_ret (he.run Z W hK tk)).weak fun D σ H q => tS_doN hx q fun b g A n vs H' hn j rv z => by
  have jn := j.new (o := .lst vs) hn
  refine z (.ref n) _ (jn.retOk hio k ?_)
  rw [hen, hrm]
  obtain ⟨n0, _, nO⟩ := j.fresh hn
  refine ⟨n, vs, _, rfl, rfl, n0, fun z => nO (bb_ow hio k z), upd_same, RpA.mono (hide_same fun x o nn z => ?_) _ rv⟩
  have ne : x ≠ n := fun e => by rw [e, hn] at z; cases z
  refine ⟨fun y => ?_, by rw [upd_ne ne]; exact z⟩
  rcases y with (y | y) | y
  · exact nn (.inr (.inr y))
  · exact ne y
  · refine nn (.inr (.inl ?_))
    rw [← ow_at (g := g)]
    exact bb_ow hio k y⟩
/-- return a list of one's own -/
theorem c_retO (i : Nat) (x : γ → List α) {n : Str} {pos pos' : Pos} (h : Ve[i]? = some (.own fun g => (x g).map enc) := by rfl) (hno : (ioIx C).contains i = false := by rfl) (hen : C.en = enc := by rfl) (hrm : C.rm = .nw := by rfl) (k : IosOk Ve C := by first | exact ⟨trivial, trivial⟩ | exact ⟨⟨rfl, trivial⟩, trivial⟩ | exact ⟨trivial, rfl, trivial⟩ | exact ⟨⟨rfl, trivial⟩, rfl, trivial⟩ | exact ⟨trivial, rfl, rfl, trivial⟩ | exact ⟨⟨rfl, trivial⟩, rfl, rfl, trivial⟩)
    (hN : X.N[i]? = some n := by rfl) (hv : Vis X.env.scope n := by first | exact Or.inl rfl | exact Or.inr (Or.inl rfl) | exact Or.inr (Or.inr rfl)) (hd : (n == ("__debug__" : Str)) = false := by decide) (hcd : (n == ("__classdict__" : Str)) = false := by decide) :
    SS X C xj Ve Ve' (.Return (some (.Name n pos')) pos) (retS (pureA x)) := ⟨fun Z W hK hio tk => (ps_ret (pe_var hN hv hd hcd)).weak fun D σ H q => by
  obtain ⟨g, A, j, q⟩ := q
  have hr : (at_ Ve g)[i]? = some (.own ((x g).map enc)) := by rw [at_get, h]; rfl
  obtain ⟨e1, vs, e2, e3⟩ := j.own i _ hr
  refine ⟨_, e1, q (.ref (A i)) H (j.retOk hio k ?_)⟩
  rw [hen, hrm]
  rcases j.newo i _ hr with z | z
  · exact absurd z (noio hio hno _)
  · refine ⟨A i, vs, _, rfl, rfl, z, fun z => ?_, e2, RpA.mono (hide_same fun x o nn w => ⟨fun y => ?_, w⟩) _ e3⟩
    · obtain ⟨l, y⟩ := z
      obtain ⟨⟨u, h⟩, m⟩ := tB_mem y
      obtain ⟨q, _, rfl, e⟩ := tio_tree (g := g) hio k h
      exact j.tr.ow _ _ _ _ hr e m
    · rcases y with (y | y) | y
      · exact nn (.inr (.inr y))
      · exact nn (.inr (.inl (.inl ⟨i, _, hr, y.symm⟩)))
      · exact nn (.inr (.inl (bb_ow hio k y)))⟩
end
end HL
/-! Ff: defs and their calls. -/
namespace HL
open PySem PySem.Spec PyProof.Rows L2

inductive FRes (β ι : Type) where
  | ok (b : β) (i : ι)
  | exc (x : Str)
  | bad
/-- a parameter: data (fr: no list in it); a list that the def changes; the script -/
inductive Par where
  | imm (fr : Bool) (d : D)
  | ino (b : Ob)
  | scr (ns : List Int)
  | tre (t : Tr)
def ParOk (K : PySem.W.Frag) (S : Addr → Prop) (H : Hp) (A : Nat → Addr) : List L2.V → List Par → Prop
  | [], [] => True
  | v :: vs, .imm fr d :: ps => (Rp K (hide S H) v d ∧ (fr = true → flatD d = true)) ∧ ParOk K S H A vs ps
  | v :: vs, .ino b :: ps => (∃ q, v = .ref q ∧ S q ∧ OwnOk K A (hide (fun x => Mut (H x)) H) (hide S H) (H q) b) ∧ ParOk K S H A vs ps
  | v :: vs, .scr ns :: ps => (∃ q, v = .ref q ∧ SqL K (hide S H) q (ns.map V.int)) ∧ ParOk K S H A vs ps
  | v :: vs, .tre t :: ps => True ∧ ParOk K S H A vs ps
  | _, _ => False
/-- the lists that are handed in to be changed, by the parameters' numbers -/
def ioL : Nat → List L2.V → List Par → List (Nat × Addr)
  | k, .ref q :: vs, .ino _ :: ps => (k, q) :: ioL (k + 1) vs ps
  | k, _ :: vs, _ :: ps => ioL (k + 1) vs ps
  | _, _, _ => []
def inoIx : Nat → List Par → List Nat
  | k, .ino _ :: ps => k :: inoIx (k + 1) ps
  | k, _ :: ps => inoIx (k + 1) ps
  | _, [] => []
def InoD (l : List (Nat × Addr)) : Prop := ∀ i j a, (i, a) ∈ l → (j, a) ∈ l → i = j
/-- io, X: the lists and the trees handed in; l: how they are handed back; B: the trees' places then -/
structure CallB (K : PySem.W.Frag) (S : Addr → Prop) (H : Hp) (io : List (Nat × Addr)) (X : Nat → Option (L2.V × List Addr)) (l : List (Nat × Ob)) (rm : RM) (v : L2.V) (d : D) (H' : Hp) (B : Nat → List Addr) : Prop where
  frame : ∀ x o, H x = some o → (∀ i, (i, x) ∉ io) → (∀ i u, X i = some u → x ∉ u.2) → H' x = some o
  ios : ∀ i a ds, (i, a) ∈ io → (i, ds) ∈ l → OwnOk K (adI io) (hide (fun x => Mut (H x) ∨ BB B x) H') (hide (fun x => S x ∨ BB B x) H') (H' a) ds
  ret : RetR K H S (BB B) (B RIX) H' rm v d
  tio : TioR K S H io X B l H'
def CallOk (K : PySem.W.Frag) (S : Addr → Prop) (H : Hp) (io : List (Nat × Addr)) (X : Nat → Option (L2.V × List Addr)) (l : List (Nat × Ob)) (rm : RM) (v : L2.V) (d : D) (H' : Hp) : Prop := ∃ B, CallB K S H io X l rm v d H' B
/-- without trees -/
def RetR0 (K : PySem.W.Frag) (H0 : Hp) (S : Addr → Prop) (H' : Hp) : RM → L2.V → D → Prop
  | .an, v, d => Rp K (hide S H') v d
  | .fr, v, d => Rp K (hide (fun a => Mut (H0 a)) H') v d
  | .nw, v, d => ∃ q us ds, v = .ref q ∧ d = .list ds ∧ H0 q = none ∧ H' q = some (.lst us) ∧ RpA K (hide (fun a => Mut (H0 a) ∨ a = q) H') us ds
  | .tn s, v, d => ∃ T : List Addr, T.Nodup ∧ (∀ a ∈ T, H0 a = none) ∧ TrOk K (hide (fun a => S a ∨ a ∈ T) H') H' T v (s d)
structure CallOk0 (K : PySem.W.Frag) (S : Addr → Prop) (H : Hp) (io : List (Nat × Addr)) (l : List (Nat × Ob)) (rm : RM) (v : L2.V) (d : D) (H' : Hp) : Prop where
  frame : ∀ x o, H x = some o → (∀ i, (i, x) ∉ io) → H' x = some o
  ios : ∀ i a ds, (i, a) ∈ io → (i, ds) ∈ l → OwnOk K (adI io) (hide (fun x => Mut (H x)) H') (hide S H') (H' a) ds
  ret : RetR0 K H S H' rm v d
theorem hide_imp {P Q : Addr → Prop} {H : Hp} (h : ∀ a, Q a → P a) : Same (hide P H) (hide Q H) := hide_same fun a o n e => ⟨fun z => n (h a z), e⟩
theorem bb_no {B : Nat → List Addr} (h : ∀ i, B i = []) : ∀ a, ¬ BB B a := fun a ⟨i, z⟩ => by rw [h i] at z; cases z
theorem CallOk.plain {K : PySem.W.Frag} {S : Addr → Prop} {H H' : Hp} {io : List (Nat × Addr)} {l : List (Nat × Ob)} {rm : RM} {v : L2.V} {d : D} (h : CallOk K S H io (fun _ => none) l rm v d H') : CallOk0 K S H io l rm v d H' := by
  obtain ⟨B, h⟩ := h
  refine ⟨fun x o e n => h.frame x o e n fun i u z => (by cases z), fun i a ds h1 h2 => (h.ios i a ds h1 h2).mono (hide_imp fun a z => .inl z) (hide_imp fun a z => .inl z), ?_⟩
  have r := h.ret
  cases rm with
  | an => exact Rp.mono (hide_imp fun a z => .inl z) _ r
  | fr => exact Rp.mono (hide_imp fun a z => .inl z) _ r
  | nw =>
    obtain ⟨q, us, ds, e1, e2, e3, _, e4, e5⟩ := r
    exact ⟨q, us, ds, e1, e2, e3, e4, RpA.mono (hide_imp fun a z => .inl z) _ e5⟩
  | tn s =>
    refine ⟨B RIX, h.tio.rd, h.tio.rn, TrOk.mono (hide_imp fun a z => z.imp_right fun z => ⟨RIX, z⟩) (fun _ _ h => h) _ (fun _ _ => rfl) r⟩
/-- the trees among the parameters -/
def paT : Nat → List Par → List (Nat × Ob)
  | k, .tre t :: ps => (k, .tr t) :: paT (k + 1) ps
  | k, _ :: ps => paT (k + 1) ps
  | _, [] => []
/-- an object that has no fields yet: its places may grow (told by naming them twice) -/
def bareT : Tr → Bool
  | .ob _ [] [] => true
  | _ => false
def twT (t : Tr) (T : List Addr) : List Addr := if bareT t = true then T ++ T else T
def dd (l : List Addr) : List Addr := if l.Nodup then l else l.take (l.length / 2)
theorem dd_tw {t : Tr} {T : List Addr} (nd : T.Nodup) : dd (twT t T) = T := by
  unfold dd twT
  cases h : bareT t with
  | false => simp [nd]
  | true =>
    simp only [if_true]
    cases T with
    | nil => simp
    | cons a T =>
      have n : ¬ ((a :: T) ++ (a :: T)).Nodup := fun z => by
        rw [List.nodup_append] at z
        exact z.2.2 a List.mem_cons_self a List.mem_cons_self rfl
      rw [if_neg n]
      have e : ((a :: T) ++ (a :: T)).length / 2 = (a :: T).length := by
        rw [List.length_append]
        omega
      rw [e]
      exact List.take_left' rfl
theorem tw_mem {t : Tr} {T : List Addr} {a : Addr} : a ∈ twT t T ↔ a ∈ T := by
  unfold twT
  split
  · simp
  · exact Iff.rfl
theorem tw_nodup {t : Tr} {T : List Addr} (nd : (twT t T).Nodup) : T = twT t T := by
  unfold twT at *
  cases h : bareT t with
  | false => simp
  | true =>
    rw [h] at nd
    simp only [if_true] at nd ⊢
    cases T with
    | nil => rfl
    | cons a T =>
      rw [List.nodup_append] at nd
      exact absurd rfl (nd.2.2 a List.mem_cons_self a List.mem_cons_self)
/-- the trees that are handed in, X their values and places -/
structure TreOk (K : PySem.W.Frag) (S : Addr → Prop) (H : Hp) (X : Nat → Option (L2.V × List Addr)) (vs : List L2.V) (ps : List Par) (io : List (Nat × Addr)) : Prop where
  ok : ∀ i t, ps[i]? = some (.tre t) → ∃ v T, vs[i]? = some v ∧ X i = some (v, twT t T) ∧ TrOk K (hide S H) H T v t ∧ T.Nodup
  inS : ∀ i x a, X i = some x → a ∈ x.2 → S a
  is : ∀ i x, X i = some x → ∃ t, ps[i]? = some (.tre t)
  dj : ∀ i j x y a, X i = some x → X j = some y → a ∈ x.2 → a ∈ y.2 → i = j
  ow : ∀ i j x a, (i, a) ∈ io → X j = some x → a ∉ x.2
/-- the places that the slots hold -/
def adA (vs : List L2.V) (i : Nat) : Addr := match vs[i]? with
  | some (.ref a) => a
  | _ => 0
/-- THE PROMISE of a def that works as F says -/
def spOf {α β ι : Type} (K : PySem.W.Frag) (mg : Str → Option Value) (rm : RM) (pa : α → List Par) (en : β → D) (pio : ι → List (Nat × Ob)) (F : α → FRes β ι) : Sp := fun vs H Q E => ∃ (a : α) (S : Addr → Prop) (X : Nat → Option (L2.V × List Addr)),
  (∀ x, S x → Mut (H x)) ∧ ParOk K S H (adA vs) vs (pa a) ∧ InoD (ioL 0 vs (pa a)) ∧ TreOk K S H X vs (pa a) (ioL 0 vs (pa a)) ∧
  match F a with
  | .ok b i => ∀ v H', CallOk K S H (ioL 0 vs (pa a)) X (pio i) rm v (en b) H' → Q v H'
  | .exc x => ∀ c H', mg x = some c → (∀ y o, H y = some o → (∀ i, (i, y) ∉ ioL 0 vs (pa a)) → (∀ i u, X i = some u → y ∉ u.2) → H' y = some o) → (∃ B, TioR K S H (ioL 0 vs (pa a)) X B (paT 0 (pa a)) H') → E c none H'
  | .bad => False
/-- of a def that is handed no tree -/
def spOf0 {α β ι : Type} (K : PySem.W.Frag) (mg : Str → Option Value) (rm : RM) (pa : α → List Par) (en : β → D) (pio : ι → List (Nat × Ob)) (F : α → FRes β ι) (a : α) : Sp := fun vs H Q E => ∃ (S : Addr → Prop),
  (∀ x, S x → Mut (H x)) ∧ ParOk K S H (adA vs) vs (pa a) ∧ InoD (ioL 0 vs (pa a)) ∧
  match F a with
  | .ok b i => ∀ v H', CallOk0 K S H (ioL 0 vs (pa a)) (pio i) rm v (en b) H' → Q v H'
  | .exc x => ∀ c H', mg x = some c → (∀ y o, H y = some o → (∀ i, (i, y) ∉ ioL 0 vs (pa a)) → H' y = some o) → E c none H'
  | .bad => False
def NoT (ps : List Par) : Prop := ∀ (i : Nat) (t : Tr), ps[i]? ≠ some (Par.tre t)
def noTb : List Par → Bool
  | [] => true
  | .tre _ :: _ => false
  | _ :: ps => noTb ps
theorem noT_b : ∀ {ps : List Par}, noTb ps = true → NoT ps
  | [], _, i, t, e => by simp at e
  | p :: ps, h, 0, t, e => by
    simp at e
    subst e
    cases h
  | p :: ps, h, i + 1, t, e => by
    have h' : noTb ps = true := by
      cases p with
      | tre t => cases h
      | imm fr d => exact h
      | ino b => exact h
      | scr ns => exact h
    exact noT_b h' i t (by simpa using e)
theorem spOf_mk {α β ι : Type} {K : PySem.W.Frag} {mg : Str → Option Value} {rm : RM} {pa : α → List Par} {en : β → D} {pio : ι → List (Nat × Ob)} {F : α → FRes β ι} {a : α} {vs : List L2.V} {H : Hp} {Q : VK} {E : XK} (nt : NoT (pa a)) (h : spOf0 K mg rm pa en pio F a vs H Q E) : spOf K mg rm pa en pio F vs H Q E := by
  obtain ⟨S, h1, h2, h3, h4⟩ := h
  refine ⟨a, S, fun _ => none, h1, h2, h3, ⟨fun i t e => absurd e (nt i t), fun i x a z => (by cases z), fun i x z => (by cases z), fun i j x y a z => (by cases z), fun i j x a _ z => (by cases z)⟩, ?_⟩
  cases e : F a with
  | bad => rw [e] at h4; exact h4
  | exc x =>
    rw [e] at h4
    exact fun c H' mc fr _ => h4 c H' mc fun y o hy n => fr y o hy n fun i u z => (by cases z)
  | ok b i =>
    rw [e] at h4
    exact fun v H' co => h4 v H' co.plain
def finF {α γ β ι : Type} (body : Sc γ β) (init : α → γ) (io : γ → ι) (nxr : Option β) : α → FRes β ι := fun a => match body (init a) with
  | .rt b g => .ok b (io g)
  | .nx g => match nxr with
    | some b => .ok b (io g)
    | none => .bad
  | .exc x _ => .exc x
  | .bad => .bad
def parSlot : Par → Slot
  | .imm fr d => .imm fr d
  | .ino ds => .own ds
  | .scr ns => .scr ns
  | .tre t => .tree t
section
variable {K : PySem.W.Frag} {S : Addr → Prop} {H : Hp} {A : Nat → Addr}
theorem parOk_len : ∀ {vs : List L2.V} {ps : List Par}, ParOk K S H A vs ps → vs.length = ps.length
  | [], [], _ => rfl
  | v :: vs, .imm fr d :: ps, h => by simp [parOk_len (vs := vs) h.2]
  | v :: vs, .ino ds :: ps, h => by simp [parOk_len (vs := vs) h.2]
  | v :: vs, .scr ns :: ps, h => by simp [parOk_len (vs := vs) h.2]
  | v :: vs, .tre t :: ps, h => by simp [parOk_len (vs := vs) h.2]
  | [], _ :: _, h => by cases h
  | _ :: _, [], h => by cases h
theorem parOk_get : ∀ {vs : List L2.V} {ps : List Par} {i : Nat} {q : Par}, ParOk K S H A vs ps → ps[i]? = some q → ∃ v, vs[i]? = some v ∧ ParOk K S H A [v] [q]
  | [], [], i, q, _, h => by simp at h
  | v :: vs, p :: ps, 0, q, k, h => by
    simp at h
    subst h
    refine ⟨v, rfl, ?_⟩
    cases p with
    | imm fr d => exact ⟨k.1, trivial⟩
    | ino ds => exact ⟨k.1, trivial⟩
    | scr ns => exact ⟨k.1, trivial⟩
    | tre t => exact ⟨k.1, trivial⟩
  | v :: vs, p :: ps, i + 1, q, k, h => by
    have k' : ParOk K S H A vs ps := by
      cases p with
      | imm fr d => exact k.2
      | ino ds => exact k.2
      | scr ns => exact k.2
      | tre t => exact k.2
    obtain ⟨w, e1, e2⟩ := parOk_get (i := i) k' (by simpa using h)
    exact ⟨w, by simpa using e1, e2⟩
  | [], _ :: _, _, _, h, _ => by cases h
  | _ :: _, [], _, _, h, _ => by cases h
theorem ioL_get : ∀ {k : Nat} {vs : List L2.V} {ps : List Par} {i : Nat} {a : Addr}, ParOk K S H A vs ps → ((i, a) ∈ ioL k vs ps ↔ k ≤ i ∧ vs[i - k]? = some (.ref a) ∧ ∃ ds, ps[i - k]? = some (.ino ds))
  | k, [], [], i, a, _ => by simp [ioL]
  | k, v :: vs, p :: ps, i, a, h => by
    have step : ∀ {b : Prop}, (b ↔ k + 1 ≤ i ∧ vs[i - (k + 1)]? = some (.ref a) ∧ ∃ ds, ps[i - (k + 1)]? = some (.ino ds)) → ((k ≠ i ∧ b) ↔ k ≠ i ∧ k ≤ i ∧ (v :: vs)[i - k]? = some (.ref a) ∧ ∃ ds, (p :: ps)[i - k]? = some (.ino ds)) := fun {b} hb => by
      rw [hb]
      refine ⟨fun ⟨h1, h2, h3, h4⟩ => ⟨h1, by omega, ?_⟩, fun ⟨h1, h2, h3, h4⟩ => ⟨h1, by omega, ?_⟩⟩
      · have e : i - k = (i - (k + 1)) + 1 := by omega
        rw [e]
        simpa using ⟨h3, h4⟩
      · have e : i - k = (i - (k + 1)) + 1 := by omega
        rw [e] at h3 h4
        simpa using ⟨h3, h4⟩
    have other : (∀ ds, p ≠ .ino ds) → ParOk K S H A vs ps → ioL k (v :: vs) (p :: ps) = ioL (k + 1) vs ps → ((i, a) ∈ ioL k (v :: vs) (p :: ps) ↔ k ≤ i ∧ (v :: vs)[i - k]? = some (.ref a) ∧ ∃ ds, (p :: ps)[i - k]? = some (.ino ds)) := fun np h' e => by
      rw [e, ioL_get (k := k + 1) h']
      by_cases hki : k = i
      · subst hki
        refine ⟨fun ⟨z, _⟩ => absurd z (by omega), fun ⟨_, _, ds, z⟩ => ?_⟩
        simp at z
        exact absurd z (np ds)
      · have := step (b := k + 1 ≤ i ∧ vs[i - (k + 1)]? = some (.ref a) ∧ ∃ ds, ps[i - (k + 1)]? = some (.ino ds)) Iff.rfl
        exact ⟨fun z => (this.mp ⟨hki, z⟩).2, fun z => (this.mpr ⟨hki, z⟩).2⟩
    cases p with
    | imm fr d => exact other (fun _ z => by cases z) h.2 (by cases v <;> rfl)
    | scr ns => exact other (fun _ z => by cases z) h.2 (by cases v <;> rfl)
    | tre t => exact other (fun _ z => by cases z) h.2 (by cases v <;> rfl)
    | ino ds =>
      obtain ⟨⟨q, rfl, _⟩, h'⟩ := h
      show (i, a) ∈ (k, q) :: ioL (k + 1) vs ps ↔ _
      rw [List.mem_cons, ioL_get (k := k + 1) h']
      by_cases hki : k = i
      · subst hki
        simp
        refine ⟨fun z => ?_, fun z => .inl z.symm⟩
        rcases z with z | z
        · exact z.symm
        · omega
      · have := step (b := k + 1 ≤ i ∧ vs[i - (k + 1)]? = some (.ref a) ∧ ∃ ds, ps[i - (k + 1)]? = some (.ino ds)) Iff.rfl
        refine ⟨fun z => ?_, fun z => .inr (this.mpr ⟨hki, z⟩).2⟩
        rcases z with z | z
        · cases z
          exact absurd rfl hki
        · exact (this.mp ⟨hki, z⟩).2
  | _, [], _ :: _, _, _, h => by cases h
  | _, _ :: _, [], _, _, h => by cases h
theorem ioL_ix : ∀ {k : Nat} {vs : List L2.V} {ps : List Par}, ParOk K S H A vs ps → (ioL k vs ps).map (·.1) = inoIx k ps
  | k, [], [], _ => rfl
  | k, v :: vs, .imm fr d :: ps, h => by
    show (ioL k (v :: vs) (.imm fr d :: ps)).map (·.1) = inoIx (k + 1) ps
    rw [← ioL_ix (k := k + 1) h.2]
    cases v <;> rfl
  | k, v :: vs, .scr ns :: ps, h => by
    show (ioL k (v :: vs) (.scr ns :: ps)).map (·.1) = inoIx (k + 1) ps
    rw [← ioL_ix (k := k + 1) h.2]
    cases v <;> rfl
  | k, v :: vs, .tre t :: ps, h => by
    show (ioL k (v :: vs) (.tre t :: ps)).map (·.1) = inoIx (k + 1) ps
    rw [← ioL_ix (k := k + 1) h.2]
    cases v <;> rfl
  | k, v :: vs, .ino ds :: ps, h => by
    obtain ⟨⟨q, rfl, _⟩, h'⟩ := h
    show k :: (ioL (k + 1) vs ps).map (·.1) = k :: inoIx (k + 1) ps
    rw [ioL_ix h']
  | _, [], _ :: _, h => by cases h
  | _, _ :: _, [], h => by cases h
end
section
variable {K : PySem.W.Frag} {S : Addr → Prop} {H : Hp}
/-- the places at a def's entry -/
def adX (vs : List L2.V) (X : Nat → Option (L2.V × List Addr)) : AT := ⟨adA vs, fun i => match X i with | some x => dd x.2 | none => [], fun i => match X i with | some x => x.1 | none => .non⟩
theorem adX_some {vs : List L2.V} {X : Nat → Option (L2.V × List Addr)} {i : Nat} {x : L2.V × List Addr} (h : X i = some x) : (adX vs X).ext i = dd x.2 ∧ (adX vs X).rv i = x.1 := by
  unfold adX
  simp only [h, and_self]
def Z0 (K : PySem.W.Frag) (H : Hp) (S : Addr → Prop) (io : List (Nat × Addr)) (X : Nat → Option (L2.V × List Addr)) : Fix := ⟨K, H, fun x => S x ∧ ∀ i, (i, x) ∉ io, io, X⟩
/-- the state at a def's entry -/
theorem J_start {vs : List L2.V} {ps : List Par} {n : Nat} {X : Nat → Option (L2.V × List Addr)} (hS : ∀ x, S x → Mut (H x)) (hp : ParOk K S H (adA vs) vs ps) (hd : InoD (ioL 0 vs ps)) (ht : TreOk K S H X vs ps (ioL 0 vs ps)) :
    J (Z0 K H S (ioL 0 vs ps) X) (adX vs X) (ps.map parSlot ++ List.replicate n .no) (vs.map some ++ List.replicate n none) H := by
  have hl := parOk_len hp
  have get : ∀ {i : Nat} {s : Slot}, s ≠ .no → (ps.map parSlot ++ List.replicate n Slot.no)[i]? = some s → ∃ q, ps[i]? = some q ∧ parSlot q = s := fun {i s} ns h => by
    by_cases hi : i < ps.length
    · rw [List.getElem?_append_left (by simpa using hi), List.getElem?_map] at h
      cases e : ps[i]? with
      | none => rw [e] at h; cases h
      | some q => rw [e] at h; exact ⟨q, rfl, Option.some.inj h⟩
    · rw [List.getElem?_append_right (by simpa using hi), List.getElem?_replicate] at h
      split at h
      · exact absurd (Option.some.inj h).symm ns
      · cases h
  have gv : ∀ {i : Nat} {v : L2.V}, vs[i]? = some v → (vs.map some ++ List.replicate n (none : Option L2.V))[i]? = some (some v) := fun {i v} h => by
    have hi := (List.getElem?_eq_some_iff.mp h).1
    rw [List.getElem?_append_left (by simpa using hi), List.getElem?_map, h]
    rfl
  have own : ∀ {i : Nat} {ds : Ob}, (ps.map parSlot ++ List.replicate n Slot.no)[i]? = some (.own ds) → ps[i]? = some (.ino ds) := fun {i ds} h => by
    obtain ⟨q, e1, e2⟩ := get (fun z => by cases z) h
    cases q with
    | ino es => cases e2; exact e1
    | imm fr d => cases e2
    | scr ns => cases e2
    | tre t => cases e2
  have tre : ∀ {i : Nat} {t : Tr}, (ps.map parSlot ++ List.replicate n Slot.no)[i]? = some (.tree t) → ps[i]? = some (.tre t) := fun {i ds} h => by
    obtain ⟨q, e1, e2⟩ := get (fun z => by cases z) h
    cases q with
    | ino es => cases e2
    | imm fr d => cases e2
    | scr ns => cases e2
    | tre t => cases e2; exact e1
  have ofOwn : ∀ {i : Nat} {ds : Ob}, ps[i]? = some (.ino ds) → ∃ q, vs[i]? = some (.ref q) ∧ adA vs i = q ∧ Mut (H q) ∧ S q ∧ OwnOk K (adA vs) (hide (fun x => Mut (H x)) H) (hide S H) (H q) ds ∧ (i, q) ∈ ioL 0 vs ps := fun {i ds} h => by
    obtain ⟨v, e1, e2⟩ := parOk_get hp h
    obtain ⟨⟨q, rfl, e4, e5⟩, _⟩ := e2
    obtain ⟨u, e6, e7⟩ := e5.is
    refine ⟨q, e1, ?_, by rw [e6]; exact e7, e4, e5, (ioL_get hp).mpr ⟨Nat.zero_le _, by simpa using e1, ds, by simpa using h⟩⟩
    unfold adA
    rw [e1]
  have ofTre : ∀ {i : Nat} {t : Tr}, ps[i]? = some (.tre t) → ∃ v T, vs[i]? = some v ∧ X i = some (v, twT t T) ∧ TrOk K (hide S H) H T v t ∧ T.Nodup ∧ (adX vs X).ext i = T ∧ (adX vs X).rv i = v := fun {i t} h => by
    obtain ⟨v, T, e1, e2, e3, e4⟩ := ht.ok i t h
    exact ⟨v, T, e1, e2, e3, e4, (adX_some e2).1.trans (dd_tw e4), (adX_some e2).2⟩
  have owS : ∀ x, Ow (adX vs X) (ps.map parSlot ++ List.replicate n Slot.no) x → S x := fun x h => by
    rcases h with ⟨i, ds, h, e⟩ | ⟨i, t, h, e⟩
    · obtain ⟨q, e1, e2, e3, e4, e5, e6⟩ := ofOwn (own h)
      have e : adA vs i = x := e
      rw [e2] at e
      subst e
      exact e4
    · obtain ⟨v, T, e1, e2, e3, e4, e5, e6⟩ := ofTre (tre h)
      rw [e5] at e
      exact ht.inS i _ x e2 (tw_mem.mpr e)
  have s1 : Same (hide S H) (FH (Z0 K H S (ioL 0 vs ps) X) (Ow (adX vs X) (ps.map parSlot ++ List.replicate n Slot.no)) H) := hide_same fun a o na ha => ⟨fun z => by
    rcases z with z | z
    · exact na z.1
    · exact na (owS a z), ha⟩
  have s2 : Same (hide (fun x => Mut (H x)) H) (GH (Z0 K H S (ioL 0 vs ps) X) (Ow (adX vs X) (ps.map parSlot ++ List.replicate n Slot.no)) H) := hide_same fun a o na ha => ⟨fun z => by
    rcases z with z | z | z
    · exact na (hS a z.1)
    · exact na (hS a (owS a z))
    · exact na z, ha⟩
  refine ⟨fun i fr d h => ?_, fun i ds h => ?_, fun i ns h => ?_, fun i v h => ?_, fun i t h => ?_, fun i j ds es h1 h2 e => ?_, fun i ds h => ?_, fun a h => hS a h.1, fun a o h _ _ => h, fun a h => h, fun i x a h1 h2 => ?_, fun i ds h => ?_, fun i a h => ?_, ?_, ?_⟩
  · obtain ⟨q, e1, e2⟩ := get (fun z => by cases z) h
    cases q with
    | ino es => cases e2
    | scr ns => cases e2
    | tre t => cases e2
    | imm fr' d' =>
      cases e2
      obtain ⟨v, e3, ⟨e4, e5⟩, _⟩ := parOk_get hp e1
      refine ⟨v, gv e3, ?_⟩
      cases fr with
      | false => exact Rp.mono s1 _ e4
      | true =>
        refine Rp.flat (fun a xs hh => ?_) d (e5 rfl) e4
        exact s2 _ _ (hide_mk (by rw [hide_le _ _ hh]; exact fun z => z) (hide_le _ _ hh))
  · obtain ⟨q, e1, e2, e3, e4, e5, e6⟩ := ofOwn (own h)
    have ea : (adX vs X) i = q := e2
    refine ⟨by rw [ea]; exact gv e1, ?_⟩
    rw [ea]
    exact e5.mono s2 s1
  · obtain ⟨q, e1, e2⟩ := get (fun z => by cases z) h
    cases q with
    | ino es => cases e2
    | imm fr d => cases e2
    | tre t => cases e2
    | scr ns' =>
      cases e2
      obtain ⟨v, e3, ⟨a, rfl, e4⟩, _⟩ := parOk_get hp e1
      exact ⟨a, gv e3, sqL_same s1 e4⟩
  · obtain ⟨q, e1, e2⟩ := get (fun z => by cases z) h
    cases q <;> cases e2
  · obtain ⟨q, e1, e2⟩ := get (fun z => by cases z) h
    cases q <;> cases e2
  · obtain ⟨q, e1, e2, e3, e4, e5, e6⟩ := ofOwn (own h1)
    obtain ⟨q', e1', e2', e3', e4', e5', e6'⟩ := ofOwn (own h2)
    have e : adA vs i = adA vs j := e
    rw [e2, e2'] at e
    subst e
    exact hd i j q e6 e6'
  · obtain ⟨q, e1, e2, e3, e4, e5, e6⟩ := ofOwn (own h)
    rw [show (adX vs X) i = q from e2]
    exact fun z => z.2 i e6
  · exact ⟨hS a (ht.inS i x a h1 h2), ht.inS i x a h1 h2, fun k z => ht.ow k i x a z h1 h2⟩
  · obtain ⟨q, e1, e2, e3, e4, e5, e6⟩ := ofOwn (own h)
    rw [show (adX vs X) i = q from e2]
    exact .inl e6
  · obtain ⟨_, hj2, ds, hj3⟩ := (ioL_get hp).mp h
    have hj2 : vs[i]? = some (.ref a) := by simpa using hj2
    have hj3 : ps[i]? = some (.ino ds) := by simpa using hj3
    refine ⟨by show adA vs i = a; unfold adA; rw [hj2], ds, ?_⟩
    have hi := (List.getElem?_eq_some_iff.mp hj3).1
    rw [List.getElem?_append_left (by simpa using hi), List.getElem?_map, hj3]
    rfl
  · refine ⟨fun i t h => ?_, fun i k s t a h1 h2 m1 m2 => ?_, fun i k ds t h1 h2 m => ?_, fun i t a h m z => ?_, fun i t a h m => ?_, fun i t x h e => ?_, fun i t x h e => ?_⟩
    · obtain ⟨v, T, e1, e2, e3, e4, e5, e6⟩ := ofTre (tre h)
      rw [e5, e6]
      exact ⟨gv e1, TrOk.mono s1 (fun _ _ h => h) t (fun _ _ => rfl) e3, e4⟩
    · obtain ⟨v, T, e1, e2, e3, e4, e5, e6⟩ := ofTre (tre h1)
      obtain ⟨v', T', e1', e2', e3', e4', e5', e6'⟩ := ofTre (tre h2)
      rw [e5] at m1
      rw [e5'] at m2
      exact ht.dj i k _ _ a e2 e2' (tw_mem.mpr m1) (tw_mem.mpr m2)
    · obtain ⟨q, e1, e2, e3, e4, e5, e6⟩ := ofOwn (own h1)
      obtain ⟨v', T', e1', e2', e3', e4', e5', e6'⟩ := ofTre (tre h2)
      rw [e5', show (adX vs X) i = q from e2] at m
      exact ht.ow i k _ q e6 e2' (tw_mem.mpr m)
    · obtain ⟨v', T', e1', e2', e3', e4', e5', e6'⟩ := ofTre (tre h)
      rw [e5'] at m
      exact ⟨_, e2', tw_mem.mpr m⟩
    · obtain ⟨v', T', e1', e2', e3', e4', e5', e6'⟩ := ofTre (tre h)
      rw [e5'] at m
      exact .inl ⟨_, e2', tw_mem.mpr m⟩
    · exact (adX_some e).2
    · obtain ⟨v', T', e1', e2', e3', e4', e5', e6'⟩ := ofTre (tre h)
      have e : X i = some x := e
      rw [e2'] at e
      cases e
      rw [e5']
      exact ⟨fun a ha => tw_mem.mp ha, tw_nodup⟩
  · simp [hl]
end

section
variable {P : Program} {w : World} {K : PySem.W.Frag} {mg : Str → Option Value} {base : Heap} {α β γ ι : Type}
theorem paT_get : ∀ {ps : List Par} {k i : Nat} {b : Ob}, (i, b) ∈ paT k ps → k ≤ i ∧ ∃ t, b = .tr t ∧ ps[i - k]? = some (.tre t)
  | [], k, i, b, h => by cases h
  | p :: ps, k, i, b, h => by
    have step : (i, b) ∈ paT (k + 1) ps → k ≤ i ∧ ∃ t, b = .tr t ∧ (p :: ps)[i - k]? = some (.tre t) := fun h => by
      obtain ⟨h1, t, h2, h3⟩ := paT_get h
      refine ⟨by omega, t, h2, ?_⟩
      have e : i - k = (i - (k + 1)) + 1 := by omega
      rw [e]
      simpa using h3
    cases p with
    | imm fr d => exact step h
    | ino b => exact step h
    | scr ns => exact step h
    | tre t =>
      rcases List.mem_cons.mp h with z | z
      · cases z
        exact ⟨Nat.le_refl _, t, rfl, by simp⟩
      · exact step z
theorem paT_mk : ∀ {ps : List Par} {k i : Nat} {t : Tr}, ps[i]? = some (.tre t) → (k + i, .tr t) ∈ paT k ps
  | [], k, i, t, h => by simp at h
  | p :: ps, k, 0, t, h => by
    simp at h
    subst h
    exact List.mem_cons_self
  | p :: ps, k, i + 1, t, h => by
    have h1 := paT_mk (k := k + 1) (ps := ps) (i := i) (t := t) (by simpa using h)
    have e : k + (i + 1) = k + 1 + i := by omega
    rw [e]
    cases p with
    | imm fr d => exact h1
    | ino b => exact h1
    | scr ns => exact h1
    | tre t => exact List.mem_cons_of_mem _ h1
/-- as finF, of a def that is handed trees: an exception leaves them as they were -/
def finT {α γ β ι : Type} [DecidableEq ι] (body : Sc γ β) (init : α → γ) (io : γ → ι) (nxr : Option β) : α → FRes β ι := fun a => match body (init a) with
  | .rt b g => .ok b (io g)
  | .nx g => match nxr with
    | some b => .ok b (io g)
    | none => .bad
  | .exc x g => if io g = io (init a) then .exc x else .bad
  | .bad => .bad
/-- what an exception wants of a def that is handed trees -/
def xft {γ β : Type} (C : FC γ β) : XJ γ := fun Z _ g _ H => ZC Z C → Frame Z H ∧ ∃ B, TioR Z.K (SIo Z) Z.H0 Z.io Z.tio B (C.io g) H
theorem xft_ok {γ β : Type} {C : FC γ β} {Ve : Ev γ} (k : IosOk Ve C) : XOk (xft C) Ve := fun Z A g σ H j hio => ⟨fun a o h n n2 => j.base a o h n n2, _, j.tioR hio k⟩
theorem sio_0 {S : Addr → Prop} {H : Hp} {vs : List L2.V} {ps : List Par} {X : Nat → Option (L2.V × List Addr)} (hp : ParOk K S H (adA vs) vs ps) (y : Addr) : SIo (Z0 K H S (ioL 0 vs ps) X) y ↔ S y := ⟨fun z => by
  rcases z with z | ⟨i, z⟩
  · exact z.1
  · obtain ⟨_, hj2, ds, hj3⟩ := (ioL_get hp).mp z
    obtain ⟨v, e1, ⟨q, rfl, e4, _⟩, _⟩ := parOk_get hp (show ps[i]? = some (.ino ds) by simpa using hj3)
    rw [show vs[i]? = some (.ref y) by simpa using hj2] at e1
    cases e1
    exact e4, fun z => by
  by_cases q : ∀ i, (i, y) ∉ ioL 0 vs ps
  · exact .inl ⟨z, q⟩
  · have ⟨i, hi⟩ := Classical.not_forall.mp q
    exact .inr ⟨i, Classical.not_not.mp hi⟩⟩
theorem TioR.conv {S S' : Addr → Prop} {H0 H : Hp} {io : List (Nat × Addr)} {tio : Nat → Option (L2.V × List Addr)} {B : Nat → List Addr} {l l' : List (Nat × Ob)} (h : TioR K S H0 io tio B l H) (hs : ∀ a, S' a → S a) (hl : ∀ i t, (i, Ob.tr t) ∈ l' → (i, Ob.tr t) ∈ l) : TioR K S' H0 io tio B l' H :=
  ⟨fun i x t h1 h2 => ⟨TrOk.mono (hide_imp fun a z => z.elim (fun z => .inl (hs a z)) .inr) (fun _ _ h => h) _ (fun _ _ => rfl) (h.ok i x t h1 (hl i t h2)).1, (h.ok i x t h1 (hl i t h2)).2⟩, h.no, h.dj, h.ow, h.nw, h.is, h.rn, h.rd, h.dm, h.fx⟩
/-- THE RULE for a def -/
theorem fn_okG {x qual : Str} {st : Stmt} {f : Addr} {fd : FuncData} {N ps : List Str} {k : Nat} (F : Fun K x qual st f fd) (S : FnScope N ps (defScope st)) (C : FC γ β) (xj : XJ γ) (V0 V1 : Ev γ) (pa : α → List Par) (init : α → γ) (io : γ → ι) (pio : ι → List (Nat × Ob)) (nxr : Option β) {body : Sc γ β} {FF : α → FRes β ι}
    (hlen : ∀ a, (pa a).length = ps.length) (hV : ∀ a, at_ V0 (init a) = (pa a).map parSlot ++ List.replicate (N.length - ps.length) .no) (hpio : ∀ g, pio (io g) = C.io g) (hix : ∀ a, inoIx 0 (pa a) = C.ios.map (·.1)) (hpt : ∀ a i t, (pa a)[i]? = some (.tre t) → i ∈ C.tios.map (·.1)) (hrix : RIX ∉ C.tios.map (·.1)) (hgr : C.gro = true → ∀ (a : α) (i : Nat) (t : Tr), (pa a)[i]? = some (Par.tre t) → bareT t = true) (hnx : ∀ b, nxr = some b → C.en b = .none ∧ C.rm = .fr ∧ IosOk V1 C)
    (hFF : ∀ a, (∀ b g, body (init a) = .rt b g → FF a = .ok b (io g)) ∧ (∀ g b, body (init a) = .nx g → nxr = some b → FF a = .ok b (io g)) ∧ (∀ g, body (init a) = .nx g → nxr = none → FF a = .bad) ∧ (body (init a) = .bad → FF a = .bad) ∧
      ∀ x g, body (init a) = .exc x g → FF a = .bad ∨ (FF a = .exc x ∧ ∀ Z A' σ' H', ZC Z C → xj Z A' g σ' H' → Frame Z H' ∧ ∃ B, TioR Z.K (SIo Z) Z.H0 Z.io Z.tio B (paT 0 (pa a)) H'))
    (hbody : ∀ (cdv : Value) (A : Around) (outer : List Env) (s : Shared) (H : Hp) (E : XK), Room k (A.deeper (envOfC qual (defScope st) s.heap.objs.size f cdv)) →
      SB (cxOf (L2.CX P w) P w K mg base N qual (defScope st) f cdv A outer s H E) C xj V0 V1 (defBody st) body) :
    FnOk P w K mg base (L2.CX P w) (k + 1) f fd ps (spOf K mg C.rm pa C.en pio FF) := by
  refine F.okX S (fun vs H Q E h => ?_) fun cdv A outer s H vs Q E hr h => ?_
  · obtain ⟨a, S, X, _, hp, _⟩ := h
    rw [parOk_len hp, hlen]
  · obtain ⟨a, S, X, hS, hp, hd, ht, h⟩ := h
    have hl : vs.length = ps.length := by rw [parOk_len hp, hlen]
    have j := J_start (n := N.length - ps.length) hS hp hd ht
    rw [← hV] at j
    have zc : ZC (Z0 K H S (ioL 0 vs (pa a)) X) C := ⟨by rw [← hix a]; exact ioL_ix hp, fun i hi => by
      show X i = none
      cases e : X i with
      | none => rfl
      | some x =>
        obtain ⟨t, et⟩ := ht.is i x e
        exact absurd (hpt a i t et) hi, by
      show X RIX = none
      cases e : X RIX with
      | none => rfl
      | some x =>
        obtain ⟨t, et⟩ := ht.is RIX x e
        exact absurd (hpt a RIX t et) hrix, fun hg i x e nd => by
      obtain ⟨t, et⟩ := ht.is i x e
      have hb := hgr hg a i t et
      obtain ⟨v, T, _, e2, e3, e4⟩ := ht.ok i t et
      rw [show X i = some x from e] at e2
      cases e2
      unfold twT at nd
      rw [hb] at nd
      simp only [if_true] at nd
      cases t with
      | ob c ns ts =>
        cases e3 with
        | ob h1 h2 h3 =>
          rw [List.nodup_append] at nd
          exact nd.2.2 _ List.mem_cons_self _ List.mem_cons_self rfl
      | d _ => cases hb
      | ls _ => cases hb
      | tp _ => cases hb
      | dk _ _ => cases hb⟩
    refine ⟨_, (hbody cdv A outer s H E hr).run (Z0 K H S (ioL 0 vs (pa a)) X) (fun cls d _ H => E cls d H) rfl zc (takes_of rfl rfl rfl rfl), init a, adX vs X, ?_, ?_⟩
    · unfold L2.start
      rw [hl]
      exact j
    · obtain ⟨f1, f2, f3, f4, f5⟩ := hFF a
      have sio := sio_0 (X := X) hp
      have ok : ∀ {b : β} {g : γ} {v : L2.V} {H' : Hp}, RetOk (Z0 K H S (ioL 0 vs (pa a)) X) C g b v H' → CallOk K S H (ioL 0 vs (pa a)) X (pio (io g)) C.rm v (C.en b) H' := fun {b g v H'} r => by
        obtain ⟨B, r⟩ := r
        refine ⟨B, r.frame, fun i x ds h1 h2 => (r.io i x ds h1 (by rw [← hpio]; exact h2)).mono (Same.refl _) (hide_imp fun y z => z.elim (fun z => .inl ((sio y).mpr z)) .inr), ?_, r.tio.conv (fun y z => (sio y).mpr z) fun i t z => by rw [← hpio]; exact z⟩
        have rr := r.ret
        cases e : C.rm with
        | an =>
          rw [e] at rr
          exact Rp.mono (hide_imp fun y z => z.elim (fun z => .inl ((sio y).mpr z)) .inr) _ rr
        | fr => rw [e] at rr; exact rr
        | nw => rw [e] at rr; exact rr
        | tn s =>
          rw [e] at rr
          exact TrOk.mono (hide_imp fun y z => z.elim (fun z => .inl ((sio y).mpr z)) .inr) (fun _ _ h => h) _ (fun _ _ => rfl) rr
      cases eb : body (init a) with
      | bad => rw [f4 eb] at h; exact h
      | exc x g =>
        rcases f5 x g eb with z | ⟨z, z2⟩
        · rw [z] at h; exact h.elim
        · rw [z] at h
          refine fun c A' σ' H' mc fr => ?_
          obtain ⟨q1, B, q2⟩ := z2 _ _ _ _ zc fr
          exact h c H' mc q1 ⟨B, q2.conv (fun y z => (sio y).mpr z) fun i t z => z⟩
      | rt b g =>
        rw [f1 b g eb] at h
        exact fun v H' r => h v H' (ok r)
      | nx g =>
        cases en : nxr with
        | none => rw [f3 g eb en] at h; exact h.elim
        | some b =>
          rw [f2 g b eb en] at h
          obtain ⟨e1, e2, e3⟩ := hnx b en
          exact fun A' σ' H' j' _ => h .non H' (ok (j'.retOk zc e3 (by rw [e1, e2]; exact .non)))
theorem TioR.none {S : Addr → Prop} {H0 H : Hp} {io : List (Nat × Addr)} {tio : Nat → Option (L2.V × List Addr)} {l : List (Nat × Ob)} (h : ∀ i, tio i = none) : TioR K S H0 io tio (fun _ => []) l H :=
  ⟨fun i x t h1 => (by rw [h i] at h1; cases h1), fun _ _ _ => rfl, fun i j a z => (by cases z), fun i j a _ z => (by cases z), fun i x a _ z => (by cases z), fun i a z => (by cases z), fun a z => (by cases z), List.nodup_nil, fun i x a h1 => (by rw [h i] at h1; cases h1), fun i x h1 _ => (by rw [h i] at h1; cases h1)⟩
theorem fn_ok {x qual : Str} {st : Stmt} {f : Addr} {fd : FuncData} {N ps : List Str} {k : Nat} (F : Fun K x qual st f fd) (S : FnScope N ps (defScope st)) (C : FC γ β) (V0 V1 : Ev γ) (pa : α → List Par) (init : α → γ) (io : γ → ι) (pio : ι → List (Nat × Ob)) (nxr : Option β) {body : Sc γ β}
    (hlen : ∀ a, (pa a).length = ps.length) (hV : ∀ a, at_ V0 (init a) = (pa a).map parSlot ++ List.replicate (N.length - ps.length) .no) (hpio : ∀ g, pio (io g) = C.io g) (hix : ∀ a, inoIx 0 (pa a) = ioIx C) (hnx : ∀ b, nxr = some b → C.en b = .none ∧ C.rm = .fr ∧ IosOk V1 C)
    (hbody : ∀ (cdv : Value) (A : Around) (outer : List Env) (s : Shared) (H : Hp) (E : XK), Room k (A.deeper (envOfC qual (defScope st) s.heap.objs.size f cdv)) →
      SB (cxOf (L2.CX P w) P w K mg base N qual (defScope st) f cdv A outer s H E) C (xfr γ) V0 V1 (defBody st) body) (htio : C.tios = [] := by rfl) (hnt : ∀ a, paT 0 (pa a) = [] := by exact fun _ => rfl) :
    FnOk P w K mg base (L2.CX P w) (k + 1) f fd ps (spOf K mg C.rm pa C.en pio (finF body init io nxr)) := by
  refine fn_okG F S C (xfr γ) V0 V1 pa init io pio nxr hlen hV hpio (fun a => by rw [hix a]; unfold ioIx; rw [htio]; exact List.append_nil _) (fun a i t h => by
    have := paT_mk (k := 0) h
    rw [hnt] at this
    cases this) (by rw [htio]; exact List.not_mem_nil) (fun _ a i t h => by
    have := paT_mk (k := 0) h
    rw [hnt] at this
    cases this) hnx (fun a => ⟨fun b g e => by unfold finF; rw [e], fun g b e e2 => by unfold finF; rw [e, e2], fun g e e2 => by unfold finF; rw [e, e2], fun e => by unfold finF; rw [e], fun x g e => .inr ⟨by unfold finF; rw [e], fun Z A' σ' H' zc fr => ⟨fr, _, TioR.none fun i => zc.tio i (by rw [htio]; exact List.not_mem_nil)⟩⟩⟩) hbody
theorem fn_okT [DecidableEq ι] {x qual : Str} {st : Stmt} {f : Addr} {fd : FuncData} {N ps : List Str} {k : Nat} (F : Fun K x qual st f fd) (S : FnScope N ps (defScope st)) (C : FC γ β) (V0 V1 : Ev γ) (pa : α → List Par) (init : α → γ) (io : γ → ι) (pio : ι → List (Nat × Ob)) (nxr : Option β) {body : Sc γ β}
    (hlen : ∀ a, (pa a).length = ps.length) (hV : ∀ a, at_ V0 (init a) = (pa a).map parSlot ++ List.replicate (N.length - ps.length) .no) (hpio : ∀ g, pio (io g) = C.io g) (hix : ∀ a, inoIx 0 (pa a) = C.ios.map (·.1)) (hpt : ∀ a i t, (pa a)[i]? = some (.tre t) → i ∈ C.tios.map (·.1)) (hrix : RIX ∉ C.tios.map (·.1)) (hnx : ∀ b, nxr = some b → C.en b = .none ∧ C.rm = .fr ∧ IosOk V1 C) (hpi : ∀ a i t, (pa a)[i]? = some (.tre t) → (i, .tr t) ∈ pio (io (init a))) (hgr : C.gro = true → ∀ (a : α) (i : Nat) (t : Tr), (pa a)[i]? = some (Par.tre t) → bareT t = true)
    (hbody : ∀ (cdv : Value) (A : Around) (outer : List Env) (s : Shared) (H : Hp) (E : XK), Room k (A.deeper (envOfC qual (defScope st) s.heap.objs.size f cdv)) →
      SB (cxOf (L2.CX P w) P w K mg base N qual (defScope st) f cdv A outer s H E) C (xft C) V0 V1 (defBody st) body) :
    FnOk P w K mg base (L2.CX P w) (k + 1) f fd ps (spOf K mg C.rm pa C.en pio (finT body init io nxr)) := by
  refine fn_okG F S C (xft C) V0 V1 pa init io pio nxr hlen hV hpio hix hpt hrix hgr hnx (fun a => ⟨fun b g e => by unfold finT; rw [e], fun g b e e2 => by unfold finT; rw [e, e2], fun g e e2 => by unfold finT; rw [e, e2], fun e => by unfold finT; rw [e], fun x g e => ?_⟩) hbody
  by_cases c : io g = io (init a)
  · refine .inr ⟨by unfold finT; rw [e]; exact if_pos c, fun Z A' σ' H' zc fr => ?_⟩
    obtain ⟨q1, B, q2⟩ := fr zc
    refine ⟨q1, B, q2.conv (fun _ z => z) fun i t z => ?_⟩
    obtain ⟨_, t', e1, e2⟩ := paT_get z
    cases e1
    rw [← hpio, c]
    exact hpi a i t (by simpa using e2)
  · exact .inl (by unfold finT; rw [e]; exact if_neg c)
end

/-! ### calls -/
/-- how a thing of one's own is handed in to be changed -/
inductive InoA : Ob → Ob → Prop
  | ls (ds : List D) (h : flatA ds = true) : InoA (.ls ds) (.ls ds)
  | lsa (ds : List D) : InoA (.ls ds) (.la ds)
  | la (ds : List D) : InoA (.la ds) (.la ds)
  | ob (c : Str) (fs : List (Str × Fv)) (h : atsF fs = []) : InoA (.ob c fs) (.ob c fs)
def ArgOk1 {γ : Type} (Ve : Ev γ) (g : γ) (bs : List Nat) : AK → D → Par → Prop
  | .val .fr, d, .imm fr d' => d = d' ∧ (fr = true → flatD d' = true)
  | .val .an, d, .imm fr d' => d = d' ∧ (fr = true → flatD d' = true)
  | .slot i, _, .imm fr d' => fr = false ∧ bs.contains i = true ∧ ∃ f : γ → List D, Ve[i]? = some (.own fun g => .ls (f g)) ∧ d' = .list (f g)
  | .slot i, _, .ino b => bs.contains i = false ∧ ∃ f : γ → Ob, Ve[i]? = some (.own f) ∧ InoA (f g) b
  | .scr, d, .scr ns => d = .list (ns.map .int)
  | .tb i, d, .imm fr d' => d = d' ∧ fr = false ∧ bs.contains i = true ∧ ∃ f : γ → Tr, Ve[i]? = some (.tree f)
  | .tr i, _, .tre t => bs.contains i = false ∧ ∃ f : γ → Tr, Ve[i]? = some (.tree f) ∧ t = f g
  | _, _, _ => False
def noTK : List AK → Bool
  | [] => true
  | .tr _ :: _ => false
  | _ :: ks => noTK ks
theorem noTK_tail : ∀ {k : AK} {ks : List AK}, noTK (k :: ks) = true → noTK ks = true
  | .val _, _, h => h
  | .slot _, _, h => h
  | .scr, _, h => h
  | .tb _, _, h => h
  | .tr _, _, h => by cases h
def ArgsOk {γ : Type} (Ve : Ev γ) (g : γ) (bs : List Nat) : List AK → List D → List Par → Prop
  | [], [], [] => True
  | k :: ks, d :: ds, p :: ps => ArgOk1 Ve g bs k d p ∧ ArgsOk Ve g bs ks ds ps
  | _, _, _ => False
theorem map_int_inj {a b : List Int} (h : a.map PyData.int = b.map PyData.int) : a = b := (List.map_inj_right fun _ _ e => PyData.int.inj e).mp h
section
variable {γ : Type} {Z : Fix} {A : AT} {Ve : Ev γ} {g : γ} {σ : L2.St} {H : Hp} {bs : List Nat}
/-- what a call may not read: what the asker owns, but for what it lends -/
def SC {γ : Type} (Z : Fix) (A : AT) (Ve : Ev γ) (bs : List Nat) (x : Addr) : Prop := (Z.S x ∧ ∀ i t, Ve[i]? = some (.tree t) → bs.contains i = true → x ∉ A.ext i) ∨ (∃ i ds, Ve[i]? = some (.own ds) ∧ bs.contains i = false ∧ A i = x) ∨ ∃ i t, Ve[i]? = some (.tree t) ∧ bs.contains i = false ∧ x ∈ A.ext i
theorem sc_of {x : Addr} (h : SC Z A Ve bs x) : Z.S x ∨ OwV A Ve x := by
  rcases h with h | ⟨i, ds, h1, _, h2⟩ | ⟨i, t, h1, _, h2⟩
  · exact .inl h.1
  · exact .inr (.inl ⟨i, ds, h1, h2⟩)
  · exact .inr (.inr ⟨i, t, h1, h2⟩)
/-- with nothing lent -/
theorem sc_nil {x : Addr} (h : Z.S x ∨ OwV A Ve x) : SC Z A Ve [] x := by
  rcases h with h | ⟨i, ds, h1, h2⟩ | ⟨i, t, h1, h2⟩
  · exact .inl ⟨h, fun i t _ z => by cases z⟩
  · exact .inr (.inl ⟨i, ds, h1, rfl, h2⟩)
  · exact .inr (.inr ⟨i, t, h1, rfl, h2⟩)
/-- a list of one's own that is lent may be read -/
theorem sc_lent (j : J Z A (at_ Ve g) σ H) {i : Nat} {f : γ → Ob} (h : Ve[i]? = some (.own f)) (hb : bs.contains i = true) : ¬ SC Z A Ve bs (A i) := fun z => by
  have hr : (at_ Ve g)[i]? = some (.own (f g)) := by rw [at_get, h]; rfl
  rcases z with z | ⟨k, es, h1, h2, h3⟩ | ⟨k, t, h1, h2, h3⟩
  · exact j.notS i _ hr z.1
  · have hk : (at_ Ve g)[k]? = some (.own (es g)) := by rw [at_get, h1]; rfl
    have := j.inj k i _ _ hk hr h3
    subst this
    rw [hb] at h2
    cases h2
  · exact j.tr.ow i k _ (t g) hr (by rw [at_get, h1]; rfl) h3
theorem sc_mut (j : J Z A (at_ Ve g) σ H) {x : Addr} (h : SC Z A Ve bs x) : Mut (H x) := by
  rcases sc_of h with h | h
  · exact j.smut x h
  · have h' : Ow A (at_ Ve g) x := by
      rw [ow_at]
      exact h
    obtain ⟨vs, e, mu⟩ := j.owl h'
    rw [e]
    exact mu
theorem rpA_nomut {K : PySem.W.Frag} {H : Hp} {us : List L2.V} {es : List D} (f : flatA es = true) (h : RpA K H us es) : RpA K (hide (fun x => Mut (H x)) H) us es := RpA.flat (fun a xs ht => hide_mk (by rw [ht]; exact fun z => z) ht) es f h
theorem ino_par (j : J Z A (at_ Ve g) σ H) {B : Nat → Addr} {o : Option HO} : ∀ {b b' : Ob}, InoA b b' → OwnOk Z.K A (GH Z (Ow A (at_ Ve g)) H) (FH Z (Ow A (at_ Ve g)) H) o b → OwnOk Z.K B (hide (fun x => Mut (H x)) H) (hide (SC Z A Ve bs) H) o b'
  | _, _, .ls ds hfl, ⟨us, e2, e3⟩ => ⟨us, e2, rpA_nomut hfl (RpA.mono gh_le _ e3)⟩
  | _, _, .lsa ds, ⟨us, e2, e3⟩ => ⟨us, e2, RpA.mono (hide_same fun x o n e => ⟨fun z => n ((sc_of z).elim .inl fun q => .inr (.inl (by rw [ow_at]; exact q))), e⟩) _ e3⟩
  | _, _, .la ds, ⟨us, e2, e3⟩ => ⟨us, e2, RpA.mono (hide_same fun x o n e => ⟨fun z => n ((sc_of z).elim .inl fun q => .inr (by rw [ow_at]; exact q)), e⟩) _ e3⟩
  | _, _, .ob c fs h, ⟨dx, ws, e2, e3⟩ => ⟨dx, ws, e2, FdOk.chA (A := A) (fun k z => by rw [h] at z; cases z) (e3.mono (hide_same fun x o n e => ⟨fun z => n ((sc_of z).elim .inl fun q => .inr (by rw [ow_at]; exact q)), e⟩))⟩
set_option maxHeartbeats 2000000 in
theorem args_par {B : Nat → Addr} (j : J Z A (at_ Ve g) σ H) : ∀ {ks : List AK} {vs : List L2.V} {ds : List D} {ps : List Par}, RmA Z A Ve H ks vs ds → ArgsOk Ve g bs ks ds ps → ParOk Z.K (SC Z A Ve bs) H B vs ps
  | [], [], [], [], _, _ => trivial
  | .val .fr :: ks, v :: vs, d :: ds, .imm fr d' :: ps, r, a => by
    obtain ⟨⟨rfl, a2⟩, a3⟩ := a
    exact ⟨⟨Rp.mono (hide_same fun x o n e => ⟨fun z => n ((sc_of z).elim .inl fun q => .inr (.inl q)), e⟩) _ r.1, a2⟩, args_par j r.2 a3⟩
  | .val .an :: ks, v :: vs, d :: ds, .imm fr d' :: ps, r, a => by
    obtain ⟨⟨rfl, a2⟩, a3⟩ := a
    exact ⟨⟨Rp.mono (hide_same fun x o n e => ⟨fun z => n (sc_of z), e⟩) _ r.1, a2⟩, args_par j r.2 a3⟩
  | .slot i :: ks, v :: vs, d :: ds, .imm fr d' :: ps, r, a => by
    obtain ⟨⟨rfl, hb, f, hf, rfl⟩, a3⟩ := a
    obtain ⟨rfl, r2⟩ := r
    have hr : (at_ Ve g)[i]? = some (.own (.ls (f g))) := by rw [at_get, hf]; rfl
    obtain ⟨_, us, e2, e3⟩ := j.own i _ hr
    rw [ow_at] at e3
    exact ⟨⟨.lst (hide_mk (sc_lent j hf hb) e2) (RpA.mono (hide_same fun x o n e => ⟨fun z => n ((sc_of z).elim .inl fun q => .inr (.inl q)), e⟩) _ e3), fun z => by cases z⟩, args_par j r2 a3⟩
  | .slot i :: ks, v :: vs, d :: ds, .ino es :: ps, r, a => by
    obtain ⟨⟨hb, f, hf, hi⟩, a3⟩ := a
    obtain ⟨rfl, r2⟩ := r
    have hr : (at_ Ve g)[i]? = some (.own (f g)) := by rw [at_get, hf]; rfl
    obtain ⟨_, e3⟩ := j.own i _ hr
    exact ⟨⟨A i, rfl, .inr (.inl ⟨i, _, hf, hb, rfl⟩), ino_par j hi e3⟩, args_par j r2 a3⟩
  | .scr :: ks, v :: vs, d :: ds, .scr ns :: ps, r, a => by
    obtain ⟨rfl, a3⟩ := a
    obtain ⟨⟨q, ms, rfl, e1, e2⟩, r2⟩ := r
    have e3 : ns = ms := map_int_inj (PyData.list.inj e1)
    subst e3
    exact ⟨⟨q, rfl, sqL_same (hide_same fun x o n e => ⟨fun z => n (sc_of z), e⟩) e2⟩, args_par j r2 a3⟩
  | .val (.bo _) :: _, _ :: _, _ :: _, .imm _ _ :: _, _, a => by cases a.1
  | .val .bt :: _, _ :: _, _ :: _, .imm _ _ :: _, _, a => by cases a.1
  | .val (.bo _) :: _, _ :: _, _ :: _, .ino _ :: _, _, a => by cases a.1
  | .val .bt :: _, _ :: _, _ :: _, .ino _ :: _, _, a => by cases a.1
  | .val (.bo _) :: _, _ :: _, _ :: _, .scr _ :: _, _, a => by cases a.1
  | .val .bt :: _, _ :: _, _ :: _, .scr _ :: _, _, a => by cases a.1
  | .val .fr :: _, _ :: _, _ :: _, .ino _ :: _, _, a => by cases a.1
  | .val .fr :: _, _ :: _, _ :: _, .scr _ :: _, _, a => by cases a.1
  | .val .an :: _, _ :: _, _ :: _, .ino _ :: _, _, a => by cases a.1
  | .val .an :: _, _ :: _, _ :: _, .scr _ :: _, _, a => by cases a.1
  | .slot _ :: _, _ :: _, _ :: _, .scr _ :: _, _, a => by cases a.1
  | .val .fr :: _, _ :: _, _ :: _, .tre _ :: _, _, a => by cases a.1
  | .val .an :: _, _ :: _, _ :: _, .tre _ :: _, _, a => by cases a.1
  | .val (.bo _) :: _, _ :: _, _ :: _, .tre _ :: _, _, a => by cases a.1
  | .val .bt :: _, _ :: _, _ :: _, .tre _ :: _, _, a => by cases a.1
  | .slot _ :: _, _ :: _, _ :: _, .tre _ :: _, _, a => by cases a.1
  | .scr :: _, _ :: _, _ :: _, .tre _ :: _, _, a => by cases a.1
  | .tb i :: ks, v :: vs, d :: ds, .imm fr d' :: ps, r, a => by
    obtain ⟨⟨rfl, rfl, hb, f, hf⟩, a3⟩ := a
    refine ⟨⟨Rp.mono (hide_same fun x o n e => ⟨fun z => n ?_, e⟩) _ r.1, fun z => by cases z⟩, args_par j r.2 a3⟩
    have hr : (at_ Ve g)[i]? = some (.tree (f g)) := by rw [at_get, hf]; rfl
    refine ⟨sc_of z, fun m => ?_⟩
    rcases z with ⟨_, z⟩ | ⟨k, es, h1, h2, h3⟩ | ⟨k, t, h1, h2, h3⟩
    · exact z i f hf hb m
    · rw [← h3] at m
      exact j.tr.ow k i _ _ (by rw [at_get, h1]; rfl) hr m
    · have hk : (at_ Ve g)[k]? = some (.tree (t g)) := by rw [at_get, h1]; rfl
      have := j.tr.dj k i _ _ x hk hr h3 m
      subst this
      rw [hb] at h2
      cases h2
  | .tr i :: ks, v :: vs, d :: ds, .tre t :: ps, r, a => ⟨trivial, args_par j r.2 a.2⟩
  | .tb _ :: _, _ :: _, _ :: _, .ino _ :: _, _, a => by cases a.1
  | .tb _ :: _, _ :: _, _ :: _, .scr _ :: _, _, a => by cases a.1
  | .tb _ :: _, _ :: _, _ :: _, .tre _ :: _, _, a => by cases a.1
  | .tr _ :: _, _ :: _, _ :: _, .imm _ _ :: _, _, a => by cases a.1
  | .tr _ :: _, _ :: _, _ :: _, .ino _ :: _, _, a => by cases a.1
  | .tr _ :: _, _ :: _, _ :: _, .scr _ :: _, _, a => by cases a.1
  | .tb _ :: _, [], _ :: _, _ :: _, r, _ => by cases r
  | .tr _ :: _, [], _ :: _, _ :: _, r, _ => by cases r
  | .scr :: _, _ :: _, _ :: _, .imm _ _ :: _, _, a => by cases a.1
  | .scr :: _, _ :: _, _ :: _, .ino _ :: _, _, a => by cases a.1
  | [], _, _ :: _, _, _, a => by cases a
  | [], _, [], _ :: _, _, a => by cases a
  | _ :: _, _, [], _, _, a => by cases a
  | _ :: _, _, _ :: _, [], _, a => by cases a
  | [], _ :: _, [], _, r, _ => by cases r
  | .val _ :: _, [], _ :: _, _ :: _, r, _ => by cases r
  | .slot _ :: _, [], _ :: _, _ :: _, r, _ => by cases r
  | .scr :: _, [], _ :: _, _ :: _, r, _ => by cases r
theorem nt_of : ∀ {ks : List AK} {ds : List D} {ps : List Par}, ArgsOk Ve g bs ks ds ps → noTK ks = true → NoT ps
  | [], [], [], _, _, i, t, e => by simp at e
  | k :: ks, d :: ds, p :: ps, h, hk, 0, t, e => by
    simp at e
    subst e
    have h1 := h.1
    cases k with
    | val m => cases m <;> cases h1
    | slot i => cases h1
    | scr => cases h1
    | tb i => cases h1
    | tr i => cases hk
  | k :: ks, d :: ds, p :: ps, h, hk, i + 1, t, e => nt_of h.2 (noTK_tail hk) i t (by simpa using e)
  | [], _ :: _, _, h, _, _, _, _ => by cases h
  | [], [], _ :: _, h, _, _, _, _ => by cases h
  | _ :: _, [], _, h, _, _, _, _ => by cases h
  | _ :: _, _ :: _, [], h, _, _, _, _ => by cases h
/-- what was mutable at the entry is mutable -/
theorem mut0 (j : J Z A (at_ Ve g) σ H) {x : Addr} (h : Z.S x ∨ OwV A Ve x ∨ Mut (Z.H0 x)) : Mut (H x) := by
  rcases h with h | h | h
  · exact j.smut x h
  · have h' : Ow A (at_ Ve g) x := by
      rw [ow_at]
      exact h
    obtain ⟨vs, e, mu⟩ := j.owl h'
    rw [e]
    exact mu
  · exact j.mm x h
theorem ret_rm (j : J Z A (at_ Ve g) σ H) {H' : Hp} {v : L2.V} {d : D} {rm : RM} {m : Md} (h : RetR0 Z.K H (SC Z A Ve bs) H' rm v d) (hm : (rm = .fr ∧ m = .fr) ∨ (rm = .an ∧ m = .an ∧ bs = [])) : Rm Z A Ve H' m v d := by
  rcases hm with ⟨rfl, rfl⟩ | ⟨rfl, rfl, rfl⟩
  · exact Rp.mono (hide_same fun x o n e => ⟨fun z => n (mut0 j z), e⟩) _ h
  · exact Rp.mono (hide_same fun x o n e => ⟨fun z => n (sc_nil z), e⟩) _ h
end
/-- a call -/
def callA {γ τ α β ι : Type} (args : γ → τ → α) (F : α → FRes β ι) (fA : Ac γ τ) : Ac γ β := bindA fA fun t g => match F (args g t) with
  | .ok b _ => .ok b g
  | .exc x => .exc x g
  | .bad => .bad
/-- a call that changes one list of the asker's -/
def callIo {γ τ α β ι : Type} (args : γ → τ → α) (put : γ → ι → γ) (F : α → FRes β ι) (fA : Ac γ τ) : Ac γ β := bindA fA fun t g => match F (args g t) with
  | .ok b i => .ok b (put g i)
  | .exc _ => .bad
  | .bad => .bad
section
variable {X : Cx} {γ τ α β ι : Type} [Enc β] {Ve : Ev γ} {ks : List AK} {p : Bool} {e : Expr} {es : List Expr} {bs : List Nat} {k : Nat} {f : Addr} {fd : FuncData} {ps : List Str} {rm : RM} {pa : α → List Par} {pio : ι → List (Nat × Ob)} {F : α → FRes β ι} {m : Md}
theorem s_call {x : Str} {el : τ → List D} {fA : Ac γ τ} {p0 pos : Pos} (args : γ → τ → α) (FO : FnOk X.prog X.w X.K X.mg X.base (L2.CX X.prog X.w) k f fd ps (spOf X.K X.mg rm pa enc pio F)) (hr : Room k X.A) (hmg : X.mg x = some (.ref f)) (hk : PySem.W.keepIn X.K (.ref f) = true) (hb : Binds X.K fd ps [])
    (ha : SA X Ve ks p (e :: es) el fA) (hargs : ∀ g t, ArgsOk Ve g bs ks (el t) (pa (args g t))) (hnk : noTK ks = true) (hio : ∀ a, inoIx 0 (pa a) = []) (hm : (rm = .fr ∧ m = .fr) ∨ (rm = .an ∧ m = .an ∧ bs = []) := by first | exact .inl ⟨rfl, rfl⟩ | exact .inr ⟨rfl, rfl, rfl⟩)
    (hg : Gl X x := by rfl) (hdb : (x == ("__debug__" : Str)) = false := by decide) (he : starEach (e :: es) X.env = (false, eval e X.env) :: starEach es X.env := by rfl) (hpl : (backTo pos (starEach es X.env)).any (·.1) = false := by rfl) :
    SE X Ve m p (.Call (.Name x p0) (e :: es) [] pos) (callA args F fA) := ⟨fun Z W hK tk => (pe_callS (E := WE W) FO hr hg hmg hk hb (fun σ => passAt tk σ) (ha.run Z W hK tk) hdb he hpl).weak fun σ H Q q => by
  obtain ⟨g, A, j, q⟩ := q
  refine ⟨g, A, j, ?_⟩
  unfold callA bindA at q
  cases ef : fA g with
  | bad => simp only [ef] at q
  | exc x g1 => simp only [ef] at q; exact q
  | ok t g1 =>
    simp only [ef] at q
    intro vs H1 j1 gr1 sm1 rvs
    have par := args_par (B := adA vs) (bs := bs) j1 rvs (hargs g1 t)
    rw [hK] at par
    have ion : ioL 0 vs (pa (args g1 t)) = [] := by
      have := ioL_ix (k := 0) par
      rw [hio] at this
      exact List.map_eq_nil_iff.mp this
    refine spOf_mk (a := args g1 t) (nt_of (hargs g1 t) hnk) ⟨SC Z A Ve bs, fun x h => sc_mut j1 h, par, by rw [ion]; exact fun i j a h => (by cases h), ?_⟩
    rw [ion]
    cases eF : F (args g1 t) with
    | bad => simp only [eF] at q
    | exc x' =>
      simp only [eF] at q
      refine fun c H2 mc fr => ?_
      have sm : Same H1 H2 := fun y o h => fr y o h fun i z => by cases z
      exact q c H2 mc (j1.same sm) (gr1.trans (.of sm))
    | ok b i =>
      simp only [eF] at q
      refine fun v H2 co => ?_
      have sm : Same H1 H2 := fun y o h => co.frame y o h fun i z => by cases z
      have rr := co.ret
      rw [← hK] at rr
      exact q v H2 (j1.same sm) (gr1.trans (.of sm)) (fun z => (sm1 z).trans sm) (ret_rm j1 rr hm)⟩
/-- a call that changes a list of the asker's, the one in slot i -/
theorem s_callIo {x : Str} {el : τ → List D} {fA : Ac γ τ} {p0 pos : Pos} (args : γ → τ → α) (put : γ → ι → γ) (i pi : Nat) (cont : ι → Ob) (FO : FnOk X.prog X.w X.K X.mg X.base (L2.CX X.prog X.w) k f fd ps (spOf X.K X.mg rm pa enc pio F)) (hr : Room k X.A) (hmg : X.mg x = some (.ref f)) (hk : PySem.W.keepIn X.K (.ref f) = true) (hb : Binds X.K fd ps [])
    (ha : SA X Ve ks p (e :: es) el fA) (hargs : ∀ g t, ArgsOk Ve g bs ks (el t) (pa (args g t))) (hnk : noTK ks = true) (hio : ∀ a, inoIx 0 (pa a) = [pi]) (hpi : ks[pi]? = some (.slot i) := by rfl) (hown : ∃ f, Ve[i]? = some (.own f) := by exact ⟨_, rfl⟩) (hpio : ∀ y, pio y = [(pi, cont y)] := by exact fun _ => rfl) (hput : ∀ g y, at_ Ve (put g y) = (at_ Ve g).set i (.own (cont y)) := by exact fun _ _ => rfl)
    (hct : (∀ y, (cont y).gv = true) ∨ bs = [] := by first | exact .inl fun _ => rfl | exact .inr rfl) (hca : ∀ y, (cont y).ats = [] := by exact fun _ => rfl)
    (hm : (rm = .fr ∧ m = .fr) ∨ (rm = .an ∧ m = .an ∧ bs = []) := by first | exact .inl ⟨rfl, rfl⟩ | exact .inr ⟨rfl, rfl, rfl⟩)
    (hg : Gl X x := by rfl) (hdb : (x == ("__debug__" : Str)) = false := by decide) (he : starEach (e :: es) X.env = (false, eval e X.env) :: starEach es X.env := by rfl) (hpl : (backTo pos (starEach es X.env)).any (·.1) = false := by rfl) :
    SE X Ve m false (.Call (.Name x p0) (e :: es) [] pos) (callIo args put F fA) := ⟨fun Z W hK tk => (pe_callS (E := fun _ _ _ _ => False) FO hr hg hmg hk hb (fun σ pins H s e s' I c => absurd c fun z => by
    obtain ⟨_, _, _, _, _, _, _, _, _, _, _, _, z⟩ := z
    exact z) (ha.run Z W hK tk) hdb he hpl).weak fun σ H Q q => by
  obtain ⟨g, A, j, q⟩ := q
  refine ⟨g, A, j, ?_⟩
  unfold callIo bindA at q
  cases ef : fA g with
  | bad => simp only [ef] at q
  | exc x g1 => simp only [ef] at q; exact q
  | ok t g1 =>
    simp only [ef] at q
    intro vs H1 j1 gr1 sm1 rvs
    have par := args_par (B := adA vs) (bs := bs) j1 rvs (hargs g1 t)
    rw [hK] at par
    have ix := ioL_ix (k := 0) par
    rw [hio] at ix
    -- the argument at the place pi is the list in slot i
    have at_pi : ∀ {ks : List AK} {vs : List L2.V} {ds : List D} {n : Nat}, RmA Z A Ve H1 ks vs ds → ks[n]? = some (.slot i) → vs[n]? = some (.ref (A i)) := by
      intro ks
      induction ks with
      | nil => intro vs ds n r h; simp at h
      | cons a ks ih =>
        intro vs ds n r h
        cases vs with
        | nil => cases a <;> cases ds <;> exact r.elim
        | cons v vs =>
          cases ds with
          | nil => cases a <;> exact r.elim
          | cons d ds =>
            cases n with
            | zero =>
              simp at h
              subst h
              rw [r.1]
              rfl
            | succ n =>
              have r2 : RmA Z A Ve H1 ks vs ds := by
                cases a with
                | val m => exact r.2
                | slot k => exact r.2
                | scr => exact r.2
                | tr _ => exact r.2
                | tb _ => exact r.2
              have := ih r2 (n := n) (by simpa using h)
              simpa using this
    have hv := at_pi rvs hpi
    obtain ⟨q0, hq⟩ : ∃ q0, ioL 0 vs (pa (args g1 t)) = [(pi, q0)] := by
      cases e : ioL 0 vs (pa (args g1 t)) with
      | nil => rw [e] at ix; cases ix
      | cons y l =>
        rw [e] at ix
        simp at ix
        obtain ⟨rfl, rfl⟩ := ix
        exact ⟨y.2, rfl⟩
    have hq0 : q0 = A i := by
      have : (pi, q0) ∈ ioL 0 vs (pa (args g1 t)) := by rw [hq]; exact List.mem_cons_self
      obtain ⟨_, h2, _⟩ := (ioL_get par).mp this
      rw [show pi - 0 = pi from rfl, hv] at h2
      exact (V.ref.inj (Option.some.inj h2)).symm
    subst hq0
    refine spOf_mk (a := args g1 t) (nt_of (hargs g1 t) hnk) ⟨SC Z A Ve bs, fun x h => sc_mut j1 h, par, by
      rw [hq]
      intro i j a h1 h2
      simp at h1 h2
      rw [h1.1, h2.1], ?_⟩
    rw [hq]
    cases eF : F (args g1 t) with
    | bad => simp only [eF] at q
    | exc x' => simp only [eF] at q
    | ok b y =>
      simp only [eF] at q
      refine fun v H2 co => ?_
      obtain ⟨fo, hfo⟩ := hown
      have hr' : (at_ Ve g1)[i]? = some (.own (fo g1)) := by rw [at_get, hfo]; rfl
      obtain ⟨us0, e0, mu0⟩ := (j1.own i _ hr').2.is
      have e2 := co.ios pi (A i) (cont y) (by exact List.mem_cons_self) (by rw [hpio]; exact List.mem_cons_self)
      obtain ⟨ob, e1, _⟩ := e2.is
      -- the heap behind, but for the list
      let H3 : Hp := fun x => if x = A i then H1 x else H2 x
      have sm : Same H1 H3 := fun x o h => by
        show (if x = A i then H1 x else H2 x) = some o
        by_cases ex : x = A i
        · rw [if_pos ex]; exact h
        · rw [if_neg ex]
          exact co.frame x o h fun k z => by
            simp at z
            exact ex z.2
      have j3 := j1.same sm
      have up : upd H3 (A i) ob = H2 := by
        funext x
        by_cases ex : x = A i
        · rw [ex, upd_same, e1]
        · rw [upd_ne ex]
          show (if x = A i then H1 x else H2 x) = H2 x
          rw [if_neg ex]
      have rc : OwnOk Z.K A (GH Z (Ow A (at_ Ve g1)) H3) (FH Z (Ow A (at_ Ve g1)) H3) (some ob) (cont y) := by
        rw [← hK, e1] at e2
        have cv : ∀ {x : Addr} {o : HO}, H2 x = some o → x ≠ A i → H3 x = some o := fun {x o} hx ex => by
          show (if x = A i then H1 x else H2 x) = some o
          rw [if_neg ex]
          exact hx
        have g0 : Same (hide (fun x => Mut (H1 x)) H2) (GH Z (Ow A (at_ Ve g1)) H3) := hide_same fun x o n hx => ⟨fun z => n (mut0 j1 (by rw [← ow_at (g := g1)]; exact z)), cv hx fun ex => n (by rw [ex, e0]; exact mu0)⟩
        rcases hct with hct | hct
        · have hv := hct y
          cases ec : cont y with
          | ls ds =>
            rw [ec] at e2
            obtain ⟨us, e3, e4⟩ := e2
            exact ⟨us, e3, RpA.mono g0 _ e4⟩
          | dk ks =>
            rw [ec] at e2
            exact e2
          | la ds => rw [ec] at hv; cases hv
          | ob c fs => rw [ec] at hv; cases hv
          | tr t => exact (ec ▸ e2 : OwnOk _ _ _ _ _ (.tr t)).elim
        · refine (e2.mono g0 (hide_same fun x o n hx => ⟨fun z => n ?_, cv hx fun ex => n ?_⟩)).chA fun k z => by rw [hca] at z; cases z
          · rw [hct]
            rw [ow_at] at z
            exact sc_nil z
          · exact .inr (.inl ⟨i, fo, hfo, by rw [hct]; rfl, ex.symm⟩)
      have j4 := j3.chgO hr' rc
      rw [up, ← hput] at j4
      have gr : Gr (OwV A Ve) H1 H2 := fun x o n h => co.frame x o h fun k z => by
        simp at z
        exact n (.inl ⟨i, fo, hfo, z.2.symm⟩)
      have rr := co.ret
      rw [← hK] at rr
      exact q v H2 j4 (gr1.trans gr) (fun z => by cases z) (ret_rm j1 rr hm)⟩
end
section
variable {X : Cx} {γ τ α β ι : Type} [Enc β] {Ve : Ev γ} {ks : List AK} {p : Bool} {e : Expr} {es : List Expr} {bs : List Nat} {k : Nat} {f : Addr} {fd : FuncData} {ps : List Str} {pa : α → List Par} {pio : ι → List (Nat × Ob)} {F : α → FRes (List β) ι}
/-- a call that hands back a new list -/
theorem s_callN {x : Str} {el : τ → List D} {fA : Ac γ τ} {p0 pos : Pos} (args : γ → τ → α) (FO : FnOk X.prog X.w X.K X.mg X.base (L2.CX X.prog X.w) k f fd ps (spOf X.K X.mg .nw pa enc pio F)) (hr : Room k X.A) (hmg : X.mg x = some (.ref f)) (hk : PySem.W.keepIn X.K (.ref f) = true) (hb : Binds X.K fd ps [])
    (ha : SA X Ve ks p (e :: es) el fA) (hargs : ∀ g t, ArgsOk Ve g bs ks (el t) (pa (args g t))) (hnk : noTK ks = true) (hio : ∀ a, inoIx 0 (pa a) = [])
    (hg : Gl X x := by rfl) (hdb : (x == ("__debug__" : Str)) = false := by decide) (he : starEach (e :: es) X.env = (false, eval e X.env) :: starEach es X.env := by rfl) (hpl : (backTo pos (starEach es X.env)).any (·.1) = false := by rfl) :
    SN X Ve p (.Call (.Name x p0) (e :: es) [] pos) (callA args F fA) := ⟨fun Z W hK tk => (pe_callS (E := WE W) FO hr hg hmg hk hb (fun σ => passAt tk σ) (ha.run Z W hK tk) hdb he hpl).weak fun σ H Q q => by
  obtain ⟨g, A, j, q⟩ := q
  refine ⟨g, A, j, ?_⟩
  unfold callA bindA at q
  cases ef : fA g with
  | bad => simp only [ef] at q
  | exc x g1 => simp only [ef] at q; exact q
  | ok t g1 =>
    simp only [ef] at q
    intro vs H1 j1 gr1 sm1 rvs
    have par := args_par (B := adA vs) (bs := bs) j1 rvs (hargs g1 t)
    rw [hK] at par
    have ion : ioL 0 vs (pa (args g1 t)) = [] := by
      have := ioL_ix (k := 0) par
      rw [hio] at this
      exact List.map_eq_nil_iff.mp this
    refine spOf_mk (a := args g1 t) (nt_of (hargs g1 t) hnk) ⟨SC Z A Ve bs, fun x h => sc_mut j1 h, par, by rw [ion]; exact fun i j a h => (by cases h), ?_⟩
    rw [ion]
    cases eF : F (args g1 t) with
    | bad => simp only [eF] at q
    | exc x' =>
      simp only [eF] at q
      refine fun c H2 mc fr => ?_
      have sm : Same H1 H2 := fun y o h => fr y o h fun i z => by cases z
      exact q c H2 mc (j1.same sm) (gr1.trans (.of sm))
    | ok b i =>
      simp only [eF] at q
      refine fun v H2 co => ?_
      have sm : Same H1 H2 := fun y o h => co.frame y o h fun i z => by cases z
      obtain ⟨n, us, ds, rfl, e2, e3, e4, e5⟩ := co.ret
      have e2' : ds = b.map enc := (PyData.list.inj e2).symm
      subst e2'
      let H3 : Hp := fun x => if x = n then none else H2 x
      have up : upd H3 n (.lst us) = H2 := by
        funext x
        by_cases ex : x = n
        · rw [ex, upd_same, e4]
        · rw [upd_ne ex]
          show (if x = n then none else H2 x) = H2 x
          rw [if_neg ex]
      have sm3 : Same H1 H3 := fun x o h => by
        show (if x = n then none else H2 x) = some o
        rw [if_neg (fun ex => by rw [ex, e3] at h; cases h)]
        exact sm x o h
      rw [← up]
      refine q n us H3 (by show (if n = n then none else H2 n) = none; rw [if_pos rfl]) (j1.same sm3) (gr1.trans (.of sm3)) (fun z => (sm1 z).trans sm3) ?_
      rw [← hK] at e5
      refine RpA.mono (hide_same fun x o nn hx => ⟨fun z => nn (.inl (mut0 j1 z)), ?_⟩) _ e5
      show (if x = n then none else H2 x) = some o
      rw [if_neg fun ex => nn (.inr ex)]
      exact hx⟩
end
end HL
/-! Fg: targets, lists that are changed, loops. -/
namespace HL
open PySem PySem.Spec PyProof.Rows L2

/-! ### targets -/
def tG {γ α : Type} [Enc α] (Z : Fix) (Ve Ve' : Ev γ) (m : Md) (wr : Bool) (ix : List Nat) (set : γ → α → γ) : TG := fun v σ H Q => ∃ g A a, J Z A (at_ Ve g) σ H ∧ Rm Z A Ve H m v (enc a) ∧
  ∀ σ' H', J Z A (at_ Ve' (set g a)) σ' H' → Gr (OwV A Ve) H H' → (wr = false → Same H H') → (∀ x, OwV A Ve' x → OwV A Ve x) → (∀ i, i ∉ ix → σ'[i]? = σ[i]?) → Q σ' H'
structure SG (X : Cx) {γ α : Type} [Enc α] (Ve Ve' : Ev γ) (m : Md) (wr : Bool) (ix : List Nat) (tg : Expr) (set : γ → α → γ) : Prop where
  run : ∀ (Z : Fix), Z.K = X.K → PG X tg (tG Z Ve Ve' m wr ix set)
def tGs {γ τ : Type} (Z : Fix) (Ve Ve' : Ev γ) (b : Bool) (wr : Bool) (ix : List Nat) (el : τ → List D) (set : γ → τ → γ) : TGs := fun vs σ H Q => ∃ g A t, J Z A (at_ Ve g) σ H ∧ RpA Z.K (hp Z (OwV A Ve) H b) vs (el t) ∧
  ∀ σ' H', J Z A (at_ Ve' (set g t)) σ' H' → Gr (OwV A Ve) H H' → (wr = false → Same H H') → (∀ x, OwV A Ve' x → OwV A Ve x) → (∀ i, i ∉ ix → σ'[i]? = σ[i]?) → Q σ' H'
structure SGs (X : Cx) {γ τ : Type} (Ve Ve' : Ev γ) (b : Bool) (wr : Bool) (ix : List Nat) (ts : List Expr) (el : τ → List D) (set : γ → τ → γ) : Prop where
  run : ∀ (Z : Fix), Z.K = X.K → PGs X ts (tGs Z Ve Ve' b wr ix el set)
theorem _root_.L2.PG.weak {X : Cx} {e : Expr} {t t' : TG} (h : PG X e t) (w : ∀ v σ H Q, t' v σ H Q → t v σ H Q) : PG X e t' := ⟨fun pins s σ H v u Q I r q => h.run pins s σ H v u Q I r (w v σ H Q q)⟩
theorem _root_.L2.PGs.weak {X : Cx} {e : List Expr} {t t' : TGs} (h : PGs X e t) (w : ∀ v σ H Q, t' v σ H Q → t v σ H Q) : PGs X e t' := ⟨fun pins s σ H v u Q I r q => h.run pins s σ H v u Q I r (w v σ H Q q)⟩
/-- the slot holds no list of one's own -/
def noOwn {γ : Type} (V : Ev γ) (vs : List Nat) : Bool := vs.all fun i => match V[i]? with
  | some (.own _) => false
  | some (.tree _) => false
  | _ => true
theorem noOwn_get {γ : Type} {V : Ev γ} {vs : List Nat} (h : noOwn V vs = true) {i : Nat} (hi : i ∈ vs) {ds : γ → Ob} : V[i]? ≠ some (.own ds) := fun e => by
  have := List.all_eq_true.mp h i hi
  rw [e] at this
  cases this
theorem noTree_get {γ : Type} {V : Ev γ} {vs : List Nat} (h : noOwn V vs = true) {i : Nat} (hi : i ∈ vs) {t : γ → Tr} : V[i]? ≠ some (.tree t) := fun e => by
  have := List.all_eq_true.mp h i hi
  rw [e] at this
  cases this
theorem noio' {γ : Type} {Z : Fix} {A : AT} {V : Ev γ} {g : γ} {σ : L2.St} {H : Hp} {i : Nat} (j : J Z A (at_ V g) σ H) (hn : noOwn V [i] = true) : ∀ a, (i, a) ∉ Z.io := fun a h => by
  obtain ⟨_, ds, e⟩ := j.ioo i a h
  rw [at_get] at e
  cases q : V[i]? with
  | none => rw [q] at e; cases e
  | some s =>
    rw [q] at e
    cases s with
    | own f => exact noOwn_get hn List.mem_cons_self q
    | no => cases e
    | imm fr d => cases e
    | scr ns => cases e
    | raw v => cases e
    | pk q => cases e
    | tree t => cases e
section
variable {X : Cx} {γ α τ : Type} [Enc α] {Ve Ve' Ve2 : Ev γ} {m : Md} {b : Bool} {ix : List Nat} {tg : Expr} {ts : List Expr} {pos : Pos}
theorem g_name (i : Nat) (set : γ → α → γ) {n : Str} (hV : ∀ g a, at_ Ve' (set g a) = (at_ Ve g).set i (.imm (frB m) (enc a)) := by exact fun _ _ => rfl) (hm : noBo m = true := by rfl) (hno : noOwn Ve [i] = true := by rfl)
    (hN : X.N.Nodup) (hi : X.N[i]? = some n := by rfl) (hl : Loc X.env.scope n := by first | exact .inl rfl | exact .inr rfl) (hf : X.fn n = true ∨ X.env.scope.names.lookup n = some .local := by first | exact .inl rfl | exact .inr rfl) :
    SG X Ve Ve' m false [i] (.Name n pos) set := ⟨fun Z hK => (pg_name hN hi hl hf).weak fun v σ H Q q => by
  obtain ⟨g, A, a, j, rv, q⟩ := q
  have j2 := j.setImm (i := i) (by rw [ow_at]; exact rm_frB hm rv) (noio' j hno)
  rw [← hV] at j2
  refine q _ H j2 (.refl H) (fun _ => Same.refl H) (fun x y => ?_) fun k hk => ?_
  · rw [← ow_at (g := set g a), hV] at y
    rw [← ow_at (g := g)]
    exact ow_set imm_ne x y
  · rw [List.getElem?_set, if_neg (fun e => hk (by rw [e]; exact List.mem_cons_self))]⟩
theorem gs_nil : SGs X Ve Ve b false [] [] (fun _ : Unit => []) (fun g _ => g) := ⟨fun Z hK => pgs_nil.weak fun vs σ H Q q => by
  obtain ⟨g, A, t, j, rv, q⟩ := q
  cases rv
  exact ⟨rfl, q σ H j (.refl H) (fun _ => Same.refl H) (fun _ h => h) fun _ _ => rfl⟩⟩
theorem gs_cons {w1 w2 : Bool} {ix1 ix2 : List Nat} {el : τ → List D} {s1 : γ → α → γ} {s2 : γ → τ → γ} (h1 : SG X Ve Ve' (mdB b) w1 ix1 tg s1) (h2 : SGs X Ve' Ve2 b w2 ix2 ts el s2)
    (hs : (assignEach (tg :: ts) X.env).map (·.2) = assign tg X.env :: (assignEach ts X.env).map (·.2) := by rfl) : SGs X Ve Ve2 b (w1 || w2) (ix1 ++ ix2) (tg :: ts) (fun t : α × τ => enc t.1 :: el t.2) (fun g t => s2 (s1 g t.1) t.2) := ⟨fun Z hK => (pgs_cons (h1.run Z hK) (h2.run Z hK) hs).weak fun vs σ H Q q => by
  obtain ⟨g, A, t, j, rv, q⟩ := q
  cases rv with
  | cons r1 r2 =>
    refine ⟨_, _, rfl, g, A, t.1, j, rm_hp r1, fun σ' H' j' gr sm ow hσ => ⟨s1 g t.1, A, t.2, j', ?_, fun σ2 H2 j2 gr2 sm2 ow2 hσ2 => q σ2 H2 j2 (gr.trans fun x o n h => gr2 x o (fun z => n (ow x z)) h) (fun z => (sm (Bool.or_eq_false_iff.mp z).1).trans (sm2 (Bool.or_eq_false_iff.mp z).2)) (fun x z => ow x (ow2 x z)) fun i hi => ?_⟩⟩
    · exact RpA.mono ((Gr.hp gr).trans (Gr.hpO ow)) _ r2
    · rw [hσ2 i fun z => hi (List.mem_append_right _ z), hσ i fun z => hi (List.mem_append_left _ z)]⟩
/-- a, b, .. from a tuple -/
theorem g_tup {wr : Bool} {el : τ → List D} {set : γ → τ → γ} (un : α → τ) {k n : Nat} (hc : X.calm = true) (h : SGs X Ve Ve' (elM m) wr ix ts el set) (hun : ∀ a, enc a = .tuple (el (un a)) := by exact fun _ => rfl) (hn : (assignEach ts X.env).length = n := by rfl)
    (hl : ∀ t, (el t).length = n := by exact fun _ => rfl) (hst : (assignEach ts X.env).findIdx? (·.1) = none := by rfl) : SG X Ve Ve' m wr ix (.Tuple ts k pos) (fun g a => set g (un a)) := ⟨fun Z hK => (pg_tup hc (h.run Z hK) hn hst).weak fun v σ H Q q => by
  obtain ⟨g, A, a, j, rv, q⟩ := q
  rw [hun] at rv
  obtain ⟨t, vs, rfl, e2, e3⟩ := rm_tup (g := g) (σ := σ) rv
  exact ⟨t, vs, rfl, hK ▸ e2, by rw [e3.length, hl], g, A, un a, j, e3, q⟩⟩
/-- own[k] = v -/
theorem rpA_setN {K : PySem.W.Frag} {H : Hp} {vs : List L2.V} {ds : List D} {v : L2.V} {d : D} (i : Nat) (h : RpA K H vs ds) (k : Rp K H v d) : RpA K H (vs.set i v) (ds.set i d) := h.set i k
end
def setAt {α : Type} (l : List α) (i : Int) (a : α) : Option (List α) := (ixN l.length i).map fun j => l.set j a

section
variable {X : Cx} {γ α β : Type} [Enc α] {C : FC γ β} {xj : XJ γ} {Ve Ve' Ve2 : Ev γ} {m m2 : Md} {p p2 : Bool} {e e2 tg : Expr} {pos : Pos}
/-- target = e -/
theorem c_asg {f : Ac γ α} {set : γ → α → γ} {wr : Bool} {ix : List Nat} (hx : XOk xj Ve) (he : SE X Ve m p e f) (hg : SG X Ve Ve' m wr ix tg set) (hs : swapsWithSole [tg] e pos.line X.env = pure false := by rfl) (hw : swappedStores [tg] e X.env = pure none := by rfl)
    (h1 : (assignEach [tg] X.env).map (·.2) = [assign tg X.env] := by rfl) : SS X C xj Ve Ve' (.Assign [tg] e pos) (setS set f) := ⟨fun Z W hK hio tk => (ps_asg (he.run Z W hK tk) (hg.run Z hK) hs hw h1).weak fun D σ H q => tS_do hx q fun a g A v H' j rv z => by
  exact ⟨g, A, a, j, rv, fun σ' H2 j2 gr _ ow _ => z A σ' H2 j2 fun x o n h => ⟨gr x o n h, fun y => n (ow x y)⟩⟩⟩
theorem tS_doA {τ : Type} {mg : Str → Option Value} {Z : Fix} {W : WX} {ks : List AK} {el : τ → List D} {f : Ac γ τ} {k : τ → Sc γ β} {D : Ends} {σ : L2.St} {H : Hp} {Q : List L2.V → Hp → Prop} (hx : XOk xj Ve) (q : tS mg Z W C xj Ve Ve' (doS f k) D σ H)
    (h : ∀ a g A vs H', J Z A (at_ Ve g) σ H' → RmA Z A Ve H' ks vs (el a) → (match k a g with
      | .nx g' => ∀ A' σ' H2, J Z A' (at_ Ve' g') σ' H2 → Stt (OwV A Ve) (OwV A' Ve') H' H2 → D.nx σ' H2
      | .rt b g' => ∀ v H', RetOk Z C g' b v H' → D.rt v H'
      | .exc x g' => ∀ c A' σ' H', mg x = some c → xj Z A' g' σ' H' → W c none σ' H'
      | .bad => False) → Q vs H') : tA mg Z W Ve ks p el f σ H Q := by
  obtain ⟨g, A, j, q⟩ := q
  refine ⟨g, A, j, ?_⟩
  unfold doS at q
  cases ef : f g with
  | bad => simp only [ef] at q
  | exc x g1 =>
    simp only [ef] at q
    exact fun c H' mc j' gr => q c A σ H' mc (hx _ _ _ _ _ j')
  | ok a g1 =>
    simp only [ef] at q
    intro v H' j' gr sm rv
    refine h a g1 A v H' j' rv ?_
    cases ek : k a g1 with
    | bad => simp only [ek] at q
    | exc x g2 => simp only [ek] at q; exact q
    | rt b g2 => simp only [ek] at q; exact q
    | nx g2 =>
      simp only [ek] at q
      exact fun A2 σ2 H2 j2 st2 => q A2 σ2 H2 j2 (gr.stt.trans st2)
/-- a, b = e1, e2 -/
theorem c_par {α2 : Type} [Enc α2] {f : Ac γ (α × (α2 × Unit))} (i k : Nat) (set : γ → α × (α2 × Unit) → γ) {x y : Str} {px py pt : Pos} {kt k2 pt2} (hx : XOk xj Ve) (he : SA X Ve [.val m, .val m2] p [e, e2] (fun t : α × (α2 × Unit) => [enc t.1, enc t.2.1]) f) (hc : X.calm = true)
    (hV : ∀ g t, at_ Ve' (set g t) = ((at_ Ve g).set i (.imm (frB m) (enc t.1))).set k (.imm (frB m2) (enc t.2.1)) := by exact fun _ _ => rfl) (hb1 : noBo m = true := by rfl) (hb2 : noBo m2 = true := by rfl) (hno : (ioIx C).contains i = false := by rfl) (hno2 : (ioIx C).contains k = false := by rfl)
    (hN : X.N.Nodup) (hi : X.N[i]? = some x := by rfl) (hk : X.N[k]? = some y := by rfl) (hik : i ≠ k := by decide) (hlx : X.env.scope.names.lookup x = some .local := by rfl) (hly : X.env.scope.names.lookup y = some .local := by rfl)
    (hw : swappedStores [.Tuple [.Name x px, .Name y py] kt pt] (.Tuple [e, e2] k2 pt2) X.env = pure (some [x, y]) := by rfl) (hs : swapsWithSole [.Tuple [.Name x px, .Name y py] kt pt] (.Tuple [e, e2] k2 pt2) pos.line X.env = pure false := by rfl) :
    SS X C xj Ve Ve' (.Assign [.Tuple [.Name x px, .Name y py] kt pt] (.Tuple [e, e2] k2 pt2) pos) (setS set f) := ⟨fun Z W hK hio tk => (ps_par hc hN hi hk hik hlx hly (he.run Z W hK tk) hw hs).weak fun D σ H q => by
  refine tS_doA hx q fun t g A vs H' j rv z => ?_
  obtain ⟨v, w, rfl, r1, r2⟩ : ∃ v w, vs = [v, w] ∧ Rm Z A Ve H' m v (enc t.1) ∧ Rm Z A Ve H' m2 w (enc t.2.1) := by
    cases vs with
    | nil => exact rv.elim
    | cons v vs =>
      cases vs with
      | nil => exact rv.2.elim
      | cons w vs =>
        cases vs with
        | nil => exact ⟨v, w, rfl, rv.1, rv.2.1⟩
        | cons _ _ => exact rv.2.2.elim
  have q1 := rm_frB hb1 r1
  have q2 := rm_frB hb2 r2
  rw [← ow_at (g := g)] at q1 q2
  have j1 := j.setImm (i := i) q1 (noio hio hno)
  have j2 := j1.setImm (i := k) (Rp.mono (Gr.hpO (ow_set imm_ne)) _ q2) (noio hio hno2)
  rw [← hV] at j2
  refine ⟨v, w, rfl, z A _ H' j2 fun x o n h => ⟨h, fun y => n ?_⟩⟩
  rw [← ow_at (g := set g t), hV] at y
  rw [← ow_at (g := g)]
  exact ow_set imm_ne x (ow_set imm_ne x y)⟩
end

/-! ### lists that are changed -/
def LIM : Nat := 1000000
def appS {γ α β : Type} (get : γ → List α) (put : γ → List α → γ) (f : Ac γ α) : Sc γ β := doS f fun a g => if (get g).length < LIM then .nx (put g (get g ++ [a])) else .bad
def extS {γ α β : Type} (get : γ → List α) (put : γ → List α → γ) (f : Ac γ (List α)) : Sc γ β := doS f fun a g => if (get g).length + a.length < LIM then .nx (put g (get g ++ a)) else .bad
def sixS {γ α β : Type} (get : γ → List α) (put : γ → List α → γ) (f : Ac γ α) (h : Ac γ Int) : Sc γ β := doS f fun a => doS h fun i g => match setAt (get g) i a with
  | some l => .nx (put g l)
  | none => .bad
section
variable {X : Cx} {γ α β : Type} [Enc α] {C : FC γ β} {xj : XJ γ} {Ve Ve' Ve2 : Ev γ} {m m2 : Md} {p p2 : Bool} {e e2 tg : Expr} {pos : Pos} {Z : Fix} {mg : Str → Option Value} {W : WX}
/-- the state behind a change of the list in slot i -/
theorem j_chg {A : AT} {g : γ} {σ : L2.St} {H : Hp} {get : γ → List α} {put : γ → List α → γ} {i : Nat} (j : J Z A (at_ Ve g) σ H) (hi : Ve[i]? = some (.own fun g => (get g).map enc)) (hput : ∀ g l, at_ Ve (put g l) = (at_ Ve g).set i (.own (l.map enc))) {vs : List L2.V} {l : List α} (r : RpA Z.K (GH Z (OwV A Ve) H) vs (l.map enc)) :
    J Z A (at_ Ve (put g l)) σ (upd H (A i) (.lst vs)) ∧ Stt (OwV A Ve) (OwV A Ve) H (upd H (A i) (.lst vs)) := by
  have hr : (at_ Ve g)[i]? = some (.own ((get g).map enc)) := by rw [at_get, hi]; rfl
  rw [← ow_at (g := g)] at r
  have j2 := j.chg hr r
  rw [← hput] at j2
  exact ⟨j2, fun x o n h => ⟨by rw [upd_ne (fun e => n (.inl ⟨i, _, hi, e.symm⟩))]; exact h, n⟩⟩
/-- what a method's call asks of the text -/
def Bm1 (X : Cx) (o : Expr) (name : Str) (ap : Pos) (e : Expr) (cp : Pos) : Prop := attributeBase o name X.env (eval o X.env) = eval o X.env ∧
  ((((backTo cp (starEach [e] X.env)).all fun x => !x.1) && (backToKw cp (keywordEach [] X.env)).all fun x => x.1.isSome) && decide ((([e] : List Expr).length + ([] : List Keyword).length + if ([] : List Keyword).isEmpty = true then 0 else 1) < 30)) = true ∧
  (ap.endLine == cp.line) = true ∧ starEach [e] X.env = (false, eval e X.env) :: starEach [] X.env ∧ ((backTo cp (starEach [] X.env)).any fun x => x.1) = false
def Bm0 (X : Cx) (o : Expr) (name : Str) (ap cp : Pos) : Prop := attributeBase o name X.env (eval o X.env) = eval o X.env ∧ (ap.endLine == cp.line) = true
theorem c_app {f : Ac γ α} (i : Nat) (get : γ → List α) (put : γ → List α → γ) {n : Str} {p0 ap cp : Pos} (hx : XOk xj Ve) (he : SE X Ve .fr p e f) (hi : Ve[i]? = some (.own fun g => (get g).map enc) := by rfl) (hput : ∀ g l, at_ Ve (put g l) = (at_ Ve g).set i (.own (l.map enc)) := by exact fun _ _ => rfl)
    (hN : X.N[i]? = some n := by rfl) (hv : Vis X.env.scope n := by first | exact Or.inl rfl | exact Or.inr (Or.inl rfl) | exact Or.inr (Or.inr rfl)) (hd : (n == ("__debug__" : Str)) = false := by decide) (hcd : (n == ("__classdict__" : Str)) = false := by decide)
    (hm : Bm1 X (.Name n p0) "append" ap e cp := by exact ⟨rfl, rfl, rfl, rfl, rfl⟩) (hs : swapsWith (.Call (.Attribute (.Name n p0) "append" ap) [e] [] cp) none pos.line X.env = pure false := by rfl) :
    SS X C xj Ve Ve (.Expr (.Call (.Attribute (.Name n p0) "append" ap) [e] [] cp) pos) (appS get put f) := ⟨fun Z W hK hio tk => by
  obtain ⟨m1, m2, m3, m4, m5⟩ := hm
  refine (ps_expr (pe_bm PySem.F.plainAttrs_list PySem.F.slot_list_append PySem.F.type_list_append mt_append (pe_var hN hv hd hcd) (pa_cons (he.run Z W hK tk) pa_nil m4) m1 m2 m3 m4 m5) hs).weak fun D σ H q => ?_
  obtain ⟨g0, A0, j0, q0⟩ := id q
  have hr : (at_ Ve g0)[i]? = some (.own ((get g0).map enc)) := by rw [at_get, hi]; rfl
  obtain ⟨e1, vs0, e2, _⟩ := j0.own i _ hr
  refine ⟨_, e1, .inl ⟨rfl, vs0, seqL e2⟩, ?_⟩
  have key : ∀ {A : AT}, A i = A0 i → True := fun _ => trivial
  refine ⟨g0, A0, j0, ?_⟩
  unfold appS doS at q0
  cases ef : f g0 with
  | bad => simp only [ef] at q0
  | exc x g1 =>
    simp only [ef] at q0
    exact fun c H' mc j' gr => q0 c A0 σ H' mc (hx _ _ _ _ _ j')
  | ok a g1 =>
    simp only [ef] at q0
    intro v H1 j1 gr sm rv
    by_cases hl : (get g1).length < LIM
    · rw [if_pos hl] at q0
      have hr1 : (at_ Ve g1)[i]? = some (.own ((get g1).map enc)) := by rw [at_get, hi]; rfl
      obtain ⟨_, vs, e3, e4⟩ := j1.own i _ hr1
      rw [ow_at] at e4
      have el := e4.length
      rw [List.length_map] at el
      refine ⟨A0 i, vs, v, rfl, rfl, e3, by rw [el]; exact Nat.lt_trans hl (by decide), ?_⟩
      obtain ⟨j2, st⟩ := j_chg (vs := vs ++ [v]) (l := get g1 ++ [a]) j1 hi hput (by rw [List.map_append]; exact e4.append (.cons rv .nil))
      exact q0 A0 σ _ j2 (gr.stt.trans st)
    · rw [if_neg hl] at q0
      exact q0.elim⟩
theorem c_ext {f : Ac γ (List α)} (i : Nat) (get : γ → List α) (put : γ → List α → γ) {n : Str} {p0 ap cp : Pos} (hx : XOk xj Ve) (he : SE X Ve m p e f) (hels : ElsT X (α := α) Ve m := by first | exact fun _ _ _ _ _ _ _ j r => rm_elsT rfl r | exact fun _ _ _ _ _ _ _ j r => rm_elsF j r) (hi : Ve[i]? = some (.own fun g => (get g).map enc) := by rfl) (hput : ∀ g l, at_ Ve (put g l) = (at_ Ve g).set i (.own (l.map enc)) := by exact fun _ _ => rfl)
    (hN : X.N[i]? = some n := by rfl) (hv : Vis X.env.scope n := by first | exact Or.inl rfl | exact Or.inr (Or.inl rfl) | exact Or.inr (Or.inr rfl)) (hd : (n == ("__debug__" : Str)) = false := by decide) (hcd : (n == ("__classdict__" : Str)) = false := by decide)
    (hm : Bm1 X (.Name n p0) "extend" ap e cp := by exact ⟨rfl, rfl, rfl, rfl, rfl⟩) (hs : swapsWith (.Call (.Attribute (.Name n p0) "extend" ap) [e] [] cp) none pos.line X.env = pure false := by rfl) :
    SS X C xj Ve Ve (.Expr (.Call (.Attribute (.Name n p0) "extend" ap) [e] [] cp) pos) (extS get put f) := ⟨fun Z W hK hio tk => by
  obtain ⟨m1, m2, m3, m4, m5⟩ := hm
  refine (ps_expr (pe_bm PySem.F.plainAttrs_list PySem.F.slot_list_extend PySem.F.type_list_extend mt_extend (pe_var hN hv hd hcd) (pa_cons (he.run Z W hK tk) pa_nil m4) m1 m2 m3 m4 m5) hs).weak fun D σ H q => ?_
  obtain ⟨g0, A0, j0, q0⟩ := id q
  have hr : (at_ Ve g0)[i]? = some (.own ((get g0).map enc)) := by rw [at_get, hi]; rfl
  obtain ⟨e1, vs0, e2, _⟩ := j0.own i _ hr
  refine ⟨_, e1, .inl ⟨rfl, vs0, seqL e2⟩, ?_⟩
  refine ⟨g0, A0, j0, ?_⟩
  unfold extS doS at q0
  cases ef : f g0 with
  | bad => simp only [ef] at q0
  | exc x g1 =>
    simp only [ef] at q0
    exact fun c H' mc j' gr => q0 c A0 σ H' mc (hx _ _ _ _ _ j')
  | ok a g1 =>
    simp only [ef] at q0
    intro v H1 j1 gr sm rv
    by_cases hl : (get g1).length + a.length < LIM
    · rw [if_pos hl] at q0
      have hr1 : (at_ Ve g1)[i]? = some (.own ((get g1).map enc)) := by rw [at_get, hi]; rfl
      obtain ⟨_, vs, e3, e4⟩ := j1.own i _ hr1
      rw [ow_at] at e4
      obtain ⟨t, ws, rfl, e5, e6⟩ := hels Z A0 g1 σ H1 v a j1 rv
      have el := e4.length
      have el2 := e6.length
      rw [List.length_map] at el el2
      refine ⟨A0 i, t, vs, ws, rfl, rfl, e3, e5, by rw [el, el2]; exact Nat.le_of_lt (Nat.lt_trans hl (by decide)), ?_⟩
      obtain ⟨j2, st⟩ := j_chg (vs := vs ++ ws) (l := get g1 ++ a) j1 hi hput (by rw [List.map_append]; exact e4.append e6)
      exact q0 A0 σ _ j2 (gr.stt.trans st)
    · rw [if_neg hl] at q0
      exact q0.elim⟩
/-- own[h] = e -/
theorem c_six {f : Ac γ α} {h : Ac γ Int} (i : Nat) (get : γ → List α) (put : γ → List α → γ) {n : Str} {p0 sp : Pos} (hx : XOk xj Ve) (he : SE X Ve .fr p e f) (hh : SE X Ve .fr p2 e2 h) (hi : Ve[i]? = some (.own fun g => (get g).map enc) := by rfl) (hput : ∀ g l, at_ Ve (put g l) = (at_ Ve g).set i (.own (l.map enc)) := by exact fun _ _ => rfl)
    (hN : X.N[i]? = some n := by rfl) (hv : Vis X.env.scope n := by first | exact Or.inl rfl | exact Or.inr (Or.inl rfl) | exact Or.inr (Or.inr rfl)) (hd : (n == ("__debug__" : Str)) = false := by decide) (hcd : (n == ("__classdict__" : Str)) = false := by decide)
    (ha : ∀ v, assign (.Subscript (.Name n p0) e2 sp) X.env v = (do
      let ov ← holding [v] (eval (.Name n p0) X.env)
      let iv ← holding [v, ov] (eval e2 X.env)
      standAt sp
      holding [v, ov, iv] (setItem ov iv v)
      release [v, ov, iv] []) := by intro _; rfl) (hs : swapsWithSole [.Subscript (.Name n p0) e2 sp] e pos.line X.env = pure false := by rfl) (hw : swappedStores [.Subscript (.Name n p0) e2 sp] e X.env = pure none := by rfl)
    (h1 : (assignEach [.Subscript (.Name n p0) e2 sp] X.env).map (·.2) = [assign (.Subscript (.Name n p0) e2 sp) X.env] := by rfl) :
    SS X C xj Ve Ve (.Assign [.Subscript (.Name n p0) e2 sp] e pos) (sixS get put f h) := ⟨fun Z W hK hio tk => by
  refine (ps_asg (he.run Z W hK tk) (pg_sub (pe_var hN hv hd hcd) (hh.run Z W hK tk) set_list ha) hs hw h1).weak fun D σ H q => ?_
  obtain ⟨g0, A0, j0, q0⟩ := q
  refine ⟨g0, A0, j0, ?_⟩
  unfold sixS doS at q0
  cases ef : f g0 with
  | bad => simp only [ef] at q0
  | exc x g1 =>
    simp only [ef] at q0
    exact fun c H' mc j' gr => q0 c A0 σ H' mc (hx _ _ _ _ _ j')
  | ok a g1 =>
    simp only [ef] at q0
    intro v H1 j1 gr sm rv
    have hr1 : (at_ Ve g1)[i]? = some (.own ((get g1).map enc)) := by rw [at_get, hi]; rfl
    obtain ⟨e1, _⟩ := j1.own i _ hr1
    refine ⟨_, e1, g1, A0, j1, ?_⟩
    cases eh : h g1 with
    | bad => simp only [eh] at q0
    | exc x g2 =>
      simp only [eh] at q0
      exact fun c H' mc j' gr => q0 c A0 σ H' mc (hx _ _ _ _ _ j')
    | ok k g2 =>
      simp only [eh] at q0
      intro w H2 j2 gr2 sm2 rw2
      cases rp_int rw2.full
      have hr2 : (at_ Ve g2)[i]? = some (.own ((get g2).map enc)) := by rw [at_get, hi]; rfl
      obtain ⟨_, vs, e3, e4⟩ := j2.own i _ hr2
      rw [ow_at] at e4
      have el := e4.length
      rw [List.length_map] at el
      unfold setAt at q0
      cases en : ixN (get g2).length k with
      | none => simp only [en, Option.map_none] at q0
      | some n' =>
        simp only [en, Option.map_some] at q0
        refine ⟨A0 i, vs, k, n', rfl, rfl, e3, by rw [el]; exact en, ?_⟩
        have rv2 : Rm Z A0 Ve H2 .fr v (enc a) := Rp.mono gr2.gh _ rv
        obtain ⟨j3, st⟩ := j_chg (vs := vs.set n' v) (l := (get g2).set n' a) j2 hi hput (by rw [List.map_set]; exact e4.set n' rv2)
        exact q0 A0 σ _ j3 ((gr.stt.trans gr2.stt).trans st)⟩
end

/-! ### loops -/
@[irreducible] def FUEL : Nat := 2 ^ 20000
def whS {γ β : Type} (c : Ac γ Bool) (body : Sc γ β) : Nat → Sc γ β
  | 0 => fun _ => .bad
  | n + 1 => doS c fun b => if b = true then bindS body (whS c body n) else nxS
def whileS {γ β : Type} (c : Ac γ Bool) (body : Sc γ β) : Sc γ β := whS c body FUEL
/-- what is wanted of a statement's end -/
def Fin {γ β : Type} (mg : Str → Option Value) (Z : Fix) (W : WX) (C : FC γ β) (xj : XJ γ) (Ve' : Ev γ) (D : Ends) (O : Addr → Prop) (H : Hp) (r : SRes γ β) : Prop :=
  match r with
  | .nx g' => ∀ A' σ' H', J Z A' (at_ Ve' g') σ' H' → Stt O (OwV A' Ve') H H' → D.nx σ' H'
  | .rt b g' => ∀ v H', RetOk Z C g' b v H' → D.rt v H'
  | .exc x g' => ∀ c A' σ' H', mg x = some c → xj Z A' g' σ' H' → W c none σ' H'
  | .bad => False
section
variable {X : Cx} {γ α β : Type} [Enc α] {C : FC γ β} {xj : XJ γ} {Ve Ve' Ve2 VL : Ev γ} {m m2 : Md} {p p2 : Bool} {e e2 tg : Expr} {pos : Pos} {Z : Fix} {mg : Str → Option Value} {W : WX}
theorem tS_fin {f : Sc γ β} {D : Ends} {σ : L2.St} {H : Hp} {g : γ} {A : AT} (j : J Z A (at_ Ve g) σ H) (q : Fin mg Z W C xj Ve' D (OwV A Ve) H (f g)) : tS mg Z W C xj Ve Ve' f D σ H := ⟨g, A, j, q⟩
theorem Fin.step {D : Ends} {O O1 : Addr → Prop} {H H1 : Hp} {r : SRes γ β} (q : Fin mg Z W C xj Ve' D O H r) (st : Stt O O1 H H1) : Fin mg Z W C xj Ve' D O1 H1 r := by
  cases r with
  | bad => exact q
  | exc x g => exact q
  | rt b g => exact q
  | nx g => exact fun A' σ' H' j' st' => q A' σ' H' j' (st.trans st')
theorem c_while {c : Expr} {c0 : Ac γ Bool} {body : Sc γ β} {bs : List Stmt} (hx : XOk xj Ve) (hp : PassesOwn (model X.prog X.w) X.A X.env X.xe) (hc : ST X Ve p c c0) (hb : SB X C xj Ve Ve bs body) : SS X C xj Ve Ve (.While c bs [] pos) (whileS c0 body) :=
  ⟨fun Z W hK hio tk => (ps_while hp (hc.run Z W hK tk) (hb.run Z W hK hio tk)).weak fun D σ H q => by
  obtain ⟨g, A, j, q⟩ := q
  refine ⟨fun n σ' H' => ∃ g' A', J Z A' (at_ Ve g') σ' H' ∧ Fin X.mg Z W C xj Ve D (OwV A' Ve) H' (whS c0 body n g'), ⟨FUEL, g, A, j, q⟩, ?_⟩
  rintro n σ1 H1 ⟨g1, A1, j1, q1⟩
  refine ⟨g1, A1, j1, ?_⟩
  cases n with
  | zero => exact q1.elim
  | succ n =>
    have q1' : Fin X.mg Z W C xj Ve D (OwV A1 Ve) H1 (doS c0 (fun b => if b = true then bindS body (whS c0 body n) else nxS) g1) := q1
    unfold doS at q1'
    cases ec : c0 g1 with
    | bad => simp only [ec] at q1'; exact q1'
    | exc x g2 =>
      simp only [ec] at q1'
      exact fun c H' mc j' gr => q1' c A1 σ1 H' mc (hx _ _ _ _ _ j')
    | ok b g2 =>
      simp only [ec] at q1'
      intro H2 j2 gr sm
      have q2 := q1'.step gr.stt
      cases b with
      | false =>
        simp only [Bool.false_eq_true, if_false] at q2 ⊢
        exact q2 A1 σ1 H2 j2 .refl
      | true =>
        simp only [if_true] at q2 ⊢
        refine ⟨fun σ' H' => ∃ g' A', J Z A' (at_ Ve g') σ' H' ∧ Fin X.mg Z W C xj Ve D (OwV A' Ve) H' (whS c0 body n g'), fun σ' H' h => ⟨n, Nat.lt_succ_self n, h⟩, g2, A1, j2, ?_⟩
        unfold bindS at q2
        cases eb : body g2 with
        | bad => simp only [eb] at q2; exact q2
        | exc x g3 => simp only [eb] at q2; exact q2
        | rt b g3 => simp only [eb] at q2; exact q2
        | nx g3 =>
          simp only [eb] at q2
          exact fun A' σ' H' j' st => ⟨g3, A', j', q2.step st⟩⟩

/-- what stood at the start, and what is new -/
noncomputable def un (R H H2 : Hp) : Hp := fun a => match R a with
  | some o => some o
  | none => open Classical in if H a = none then H2 a else none
theorem un_le {R H H2 : Hp} : Same R (un R H H2) := fun a o h => by
  unfold un
  rw [h]
theorem un_new {R H H2 : Hp} {a : Addr} {o : HO} (h : H a = none) (hR : R a = none) (h2 : H2 a = some o) : un R H H2 a = some o := by
  unfold un
  rw [hR]
  simp only [h, if_true]
  exact h2
theorem un_cases {R H H2 : Hp} {a : Addr} {o : HO} (h : un R H H2 a = some o) : R a = some o ∨ (H a = none ∧ H2 a = some o) := by
  unfold un at h
  cases e : R a with
  | some u => rw [e] at h; exact .inl h
  | none =>
    rw [e] at h
    by_cases q : H a = none
    · simp only [q, if_true] at h
      exact .inr ⟨q, h⟩
    · simp only [q, if_false] at h
      cases h
/-- what is walked: a list, item by item, as long as what nobody owns stands -/
def ItOk (Z : Fix) (b : Bool) (O : Addr → Prop) (H1 : Hp) (it : It) (l : List D) : Prop := ∀ O' H, Stt O O' H1 H → ∀ i, (i < l.length → it.go i H) ∧ (l.length ≤ i → it.stop i H) ∧
  ∀ x H2 d, it.yld i H x H2 → l[i]? = some d → Same H H2 ∧ Rp Z.K (un (hp Z O H1 b) H H2) x d
def tI {γ α : Type} [Enc α] (mg : Str → Option Value) (Z : Fix) (W : WX) (Ve : Ev γ) (b : Bool) (p : Bool) (f : Ac γ (List α)) : TI := fun σ H R => ∃ g A, J Z A (at_ Ve g) σ H ∧
  match f g with
  | .ok l g' => ∀ it H', J Z A (at_ Ve g') σ H' → Gr (OwV A Ve) H H' → (p = true → Same H H') → ItOk Z b (OwV A Ve) H' it (l.map enc) → R it H'
  | .exc x g' => ∀ c H', mg x = some c → J Z A (at_ Ve g') σ H' → Gr (OwV A Ve) H H' → W c none σ H'
  | .bad => False
structure SI (X : Cx) {γ α : Type} [Enc α] (Ve : Ev γ) (b : Bool) (p : Bool) (tg iter : Expr) (f : Ac γ (List α)) : Prop where
  run : ∀ (Z : Fix) (W : WX), Z.K = X.K → Takes X W → PI X tg iter (tI X.mg Z W Ve b p f)
theorem _root_.L2.PI.weak {X : Cx} {tg e : Expr} {t t' : TI} (h : PI X tg e t) (w : ∀ σ H R, t' σ H R → t σ H R) : PI X tg e t' := ⟨fun pins s σ H R I q => h.run pins s σ H R I (w σ H R q)⟩
def forR {γ α β : Type} (set : γ → α → γ) (body : Sc γ β) : List α → Sc γ β
  | [] => nxS
  | a :: l => fun g => bindS body (forR set body l) (set g a)
def forS {γ α β : Type} (f : Ac γ (List α)) (set : γ → α → γ) (body : Sc γ β) : Sc γ β := doS f fun l => forR set body l
theorem stt_fh {O O' : Addr → Prop} {H H' : Hp} (st : Stt O O' H H') : Same (FH Z O H) (FH Z O' H') := hide_same fun a o n h => by
  have := st a o (fun z => n (.inr z)) h
  exact ⟨fun z => z.elim (fun z => n (.inl z)) this.2, this.1⟩
theorem stt_gh {O O' : Addr → Prop} {H H' : Hp} (st : Stt O O' H H') : Same (GH Z O H) (GH Z O' H') := hide_same fun a o n h => by
  have := st a o (fun z => n (.inr (.inl z))) h
  refine ⟨fun z => ?_, this.1⟩
  rcases z with z | z | z
  · exact n (.inl z)
  · exact this.2 z
  · exact n (.inr (.inr z))
theorem stt_hp {O O' : Addr → Prop} {H H' : Hp} {b : Bool} (st : Stt O O' H H') : Same (hp Z O H b) (hp Z O' H' b) := by
  unfold HL.hp
  cases b with
  | true => simpa using stt_gh st
  | false => simpa using stt_fh st
theorem un_hp {A : AT} {r : List Slot} {σ : L2.St} {O : Addr → Prop} {H1 H H2 : Hp} {b : Bool} (j : J Z A r σ H) (st : Stt O (Ow A r) H1 H) (s2 : Same H H2) : Same (un (hp Z O H1 b) H H2) (hp Z (Ow A r) H2 b) := fun a o h => by
  rcases un_cases h with h2 | ⟨hn, h2⟩
  · have e1 := stt_hp st _ _ h2
    exact (Gr.of s2).hp _ _ e1
  · obtain ⟨h0, hS, hO⟩ := j.fresh hn
    unfold HL.hp
    cases b with
    | true =>
      show GH Z (Ow A r) H2 a = some o
      refine hide_mk ?_ h2
      rintro (z | z | z)
      · exact hS z
      · exact hO z
      · rw [h0] at z; exact z
    | false =>
      show FH Z (Ow A r) H2 a = some o
      refine hide_mk ?_ h2
      rintro (z | z)
      · exact hS z
      · exact hO z
theorem c_for {iter : Expr} {f : Ac γ (List α)} {set : γ → α → γ} {wr : Bool} {ix : List Nat} {b : Bool} {body : Sc γ β} {bs : List Stmt} (hx : XOk xj Ve) (hp : PassesOwn (model X.prog X.w) X.A X.env X.xe) (hc : X.calm = true) (hi : SI X Ve b p tg iter f) (hg : SG X Ve VL (mdB b) wr ix tg set) (hb : SB X C xj VL Ve bs body)
    (hs : ∀ x, foldedSetIterable iter X.env x = pure x := by intro _; rfl) : SS X C xj Ve Ve (.For tg iter bs [] pos) (forS f set body) :=
  ⟨fun Z W hK hio tk => (ps_for hp hc (hi.run Z W hK tk) (hg.run Z hK) (hb.run Z W hK hio tk) hs).weak fun D σ H q => by
  obtain ⟨g, A, j, q⟩ := q
  refine ⟨g, A, j, ?_⟩
  unfold forS doS at q
  cases ef : f g with
  | bad => simp only [ef] at q
  | exc x g1 =>
    simp only [ef] at q
    exact fun c H' mc j' gr => q c A σ H' mc (hx _ _ _ _ _ j')
  | ok l g1 =>
    simp only [ef] at q
    intro it H1 j1 gr sm hit
    have q0 : Fin X.mg Z W C xj Ve D (OwV A Ve) H (forR set body l g1) := q
    have q1 := q0.step gr.stt
    refine ⟨fun i n σ' H' => n = l.length - i ∧ i ≤ l.length ∧ ∃ g' A', J Z A' (at_ Ve g') σ' H' ∧ Stt (OwV A Ve) (OwV A' Ve) H1 H' ∧ Fin X.mg Z W C xj Ve D (OwV A' Ve) H' (forR set body (l.drop i) g'), ⟨l.length, rfl, Nat.zero_le _, g1, A, j1, .refl, q1⟩, ?_⟩
    rintro i n σ2 H2 ⟨rfl, hil, g2, A2, j2, st2, q2⟩
    obtain ⟨k1, k2, k3⟩ := hit (OwV A2 Ve) H2 st2 i
    rw [List.length_map] at k1 k2
    by_cases hlt : i < l.length
    · refine .inr ⟨k1 hlt, fun σ' H' => ∃ g' A', J Z A' (at_ Ve g') σ' H' ∧ Stt (OwV A Ve) (OwV A' Ve) H1 H' ∧ Fin X.mg Z W C xj Ve D (OwV A' Ve) H' (forR set body (l.drop (i + 1)) g'), fun σ' H' h => ⟨l.length - (i + 1), by omega, rfl, hlt, h⟩, fun x H3 y => ?_⟩
      have hd : l.drop i = l[i] :: l.drop (i + 1) := List.drop_eq_getElem_cons hlt
      rw [hd] at q2
      obtain ⟨s3, r3⟩ := k3 x H3 (enc l[i]) y (by rw [List.getElem?_map, List.getElem?_eq_getElem hlt]; rfl)
      have j3 := j2.same s3
      have r3 := Rp.mono (un_hp j2 (by rw [ow_at]; exact st2) s3) _ r3
      rw [ow_at] at r3
      refine ⟨g2, A2, l[i], j3, rm_hp r3, fun σ4 H4 j4 gr4 _ ow4 hσ4 => ⟨set g2 l[i], A2, j4, ?_⟩⟩
      have s4 : Stt (OwV A2 Ve) (OwV A2 VL) H2 H4 := fun x o n h => ⟨gr4 x o n (s3 _ _ h), fun z => n (ow4 x z)⟩
      have q3 : Fin X.mg Z W C xj Ve D (OwV A2 Ve) H2 (bindS body (forR set body (l.drop (i + 1))) (set g2 l[i])) := q2
      unfold bindS at q3
      cases eb : body (set g2 l[i]) with
      | bad => simp only [eb] at q3; exact q3
      | exc x g3 => simp only [eb] at q3; exact q3
      | rt b g3 => simp only [eb] at q3; exact q3
      | nx g3 =>
        simp only [eb] at q3
        intro A' σ' H' j' st'
        have s5 := s4.trans st'
        exact ⟨g3, A', j', st2.trans s5, q3.step s5⟩
    · have e : i = l.length := by omega
      refine .inl ⟨k2 (by omega), ?_⟩
      rw [e, List.drop_length] at q2
      exact q2 A2 σ2 H2 j2 .refl⟩
/-- over a list -/
theorem i_list {iter : Expr} {f : Ac γ (List α)} (h : SE X Ve m p iter f) (hm : noBo m = true := by rfl) : SI X Ve (frB m) p tg iter f := ⟨fun Z W hK tk => (pi_list (h.run Z W hK tk)).weak fun σ H R q => by
  obtain ⟨g, A, j, q⟩ := q
  refine ⟨g, A, j, ?_⟩
  cases ef : f g with
  | bad => simp only [ef] at q
  | exc x g1 => simp only [ef] at q; exact q
  | ok l g1 =>
    simp only [ef] at q
    intro v H1 j1 gr sm rv
    have rv' := rm_frB hm rv
    obtain ⟨a, vs, rfl, e2, e3⟩ := rp_list rv'
    have e1 : H1 a = some (.lst vs) := hp_le _ _ e2
    refine ⟨a, rfl, ⟨vs, seqL e1⟩, q _ H1 j1 gr sm fun O' H2 st i => ?_⟩
    have e4 := stt_hp st _ _ e2
    have e5 : H2 a = some (.lst vs) := hp_le _ _ e4
    have el := e3.length
    refine ⟨fun hi => ?_, fun hi => ⟨vs, seqL e5, by omega⟩, fun x H3 d y hd => ?_⟩
    · obtain ⟨d, hd⟩ : ∃ d, (l.map enc)[i]? = some d := ⟨_, List.getElem?_eq_getElem hi⟩
      obtain ⟨v, hv, _⟩ := e3.get hd
      exact ⟨vs, v, seqL e5, hv⟩
    · obtain ⟨rfl, y⟩ := y
      obtain ⟨v, hv, rv⟩ := e3.get hd
      have := y vs (seqL e5)
      rw [hv] at this
      cases this
      exact ⟨Same.refl _, Rp.mono un_le _ rv⟩⟩
def rangeL (lo : Int) (n : Nat) : List Int := (List.range n).map fun i => lo + (i : Nat)
theorem rangeL_get {lo : Int} {n i : Nat} (h : i < n) : (rangeL lo n)[i]? = some (lo + (i : Nat)) := by
  unfold rangeL
  rw [List.getElem?_map, List.getElem?_range h]
  rfl
@[irreducible] def rng1 (n : Int) : Option (List Int) := if -(2 ^ 62) ≤ n ∧ n < 2 ^ 62 then some (rangeL 0 n.toNat) else none
@[irreducible] def rng2 (lo hi : Int) : Option (List Int) := if (-(2 ^ 62) ≤ lo ∧ lo < 2 ^ 62) ∧ -(2 ^ 62) ≤ hi ∧ hi < 2 ^ 62 then some (rangeL lo (hi - lo).toNat) else none
theorem it_rng {O : Addr → Prop} {H : Hp} {lo : Int} {n : Nat} : ItOk Z true O H (Itr lo n) ((rangeL lo n).map enc) := fun O' H' st i => by
  have hl : ((rangeL lo n).map enc).length = n := by simp [rangeL]
  rw [hl]
  refine ⟨fun h => h, fun h => h, fun x H2 d y hd => ?_⟩
  obtain ⟨rfl, rfl⟩ := y
  have hi : i < n := by
    have := (List.getElem?_eq_some_iff.mp hd).1
    omega
  rw [List.getElem?_map, rangeL_get hi] at hd
  cases hd
  exact ⟨Same.refl _, .int _⟩
theorem i_rng1 {f : Ac γ Int} {a : Expr} {p0 pos : Pos} (hm : X.mg "range" = none) (h : SE X Ve m p a f) (hg : Gl X "range" := by rfl) (hs : starEach [a] X.env = [(false, eval a X.env)] := by rfl) : SI X Ve true p tg (.Call (.Name "range" p0) [a] [] pos) (op1 rng1 f) :=
  ⟨fun Z W hK tk => (pi_range1 hg hm (pa_cons (h.run Z W hK tk) pa_nil hs) hs).weak fun σ H R q => by
  obtain ⟨g, A, j, q⟩ := q
  refine ⟨g, A, j, ?_⟩
  unfold op1 bindA optA at q
  cases ef : f g with
  | bad => simp only [ef] at q
  | exc x g1 => simp only [ef] at q; exact q
  | ok n g1 =>
    simp only [ef] at q
    intro v H1 j1 gr sm rv
    cases rp_int rv.full
    unfold rng1 at q
    by_cases hn : -(2 ^ 62) ≤ n ∧ n < 2 ^ 62
    · rw [if_pos hn] at q
      exact ⟨n, rfl, hn.1, hn.2, q _ H1 j1 gr sm it_rng⟩
    · rw [if_neg hn] at q
      exact q.elim⟩
end
end HL
/-! Fh: the script, comprehensions, what is raised. -/
namespace HL
open PySem PySem.Spec PyProof.Rows L2

/-! ### the script -/
section
variable {X : Cx} {γ : Type} {Ve : Ev γ} {p p2 p3 : Bool} {e : Expr} {pos pos2 : Pos} {lo hi : Option Expr}
def scrOp {γ δ : Type} (x : γ → List Int) (k : List Int → Option δ) : Ac γ δ := fun g => match k (x g) with
  | some d => .ok d g
  | none => .bad
theorem tV_scr {Z : Fix} {A : AT} {g : γ} {σ : L2.St} {H : Hp} {i : Nat} {x : γ → List Int} (j : J Z A (at_ Ve g) σ H) (hi : Ve[i]? = some (.scr x)) : ∃ a, σ[i]? = some (some (.ref a)) ∧ SqL Z.K H a ((x g).map V.int) := by
  have hr : (at_ Ve g)[i]? = some (.scr (x g)) := by rw [at_get, hi]; rfl
  obtain ⟨a, e1, e2⟩ := j.scr i _ hr
  exact ⟨a, e1, sqL_same fh_le e2⟩
theorem s_lenS (i : Nat) (x : γ → List Int) {n : Str} {p0 p1 : Pos} (hx : X.mg "len" = none) (hi : Ve[i]? = some (.scr x) := by rfl) (hN : X.N[i]? = some n := by rfl)
    (hv : Vis X.env.scope n := by first | exact Or.inl rfl | exact Or.inr (Or.inl rfl) | exact Or.inr (Or.inr rfl)) (hd : (n == ("__debug__" : Str)) = false := by decide) (hcd : (n == ("__classdict__" : Str)) = false := by decide) (hg : Gl X "len" := by rfl)
    (he : starEach (.Name n p1 :: []) X.env = (false, eval (.Name n p1) X.env) :: starEach [] X.env := by rfl) (hpl : (backTo pos (starEach [] X.env)).any (·.1) = false := by rfl) :
    SE X Ve .fr true (.Call (.Name "len" p0) [.Name n p1] [] pos) (pureA fun g => ((x g).length : Int)) := ⟨fun Z W hK tk => (pe_callB call_len_seq hg hx PySem.boot_len (pa_cons (pe_var hN hv hd hcd) pa_nil he) (by decide) (by decide) he hpl).weak fun σ H Q q => by
  obtain ⟨g, A, j, q⟩ := q
  obtain ⟨a, e1, e2⟩ := tV_scr j hi
  refine ⟨_, e1, a, _, rfl, .inl (hK ▸ e2), ?_⟩
  rw [List.length_map]
  exact q _ H j (.refl H) (fun _ => Same.refl H) (.int _)⟩
theorem s_ixS (i : Nat) (x : γ → List Int) {f : Ac γ Int} {n : Str} {b : Expr} {p1 : Pos} (hb : SE X Ve .fr p b f) (hi : Ve[i]? = some (.scr x) := by rfl) (hN : X.N[i]? = some n := by rfl)
    (hv : Vis X.env.scope n := by first | exact Or.inl rfl | exact Or.inr (Or.inl rfl) | exact Or.inr (Or.inr rfl)) (hd : (n == ("__debug__" : Str)) = false := by decide) (hcd : (n == ("__classdict__" : Str)) = false := by decide) (hs : PlainIx b := by exact fun _ _ => rfl) :
    SE X Ve .fr p (.Subscript (.Name n p1) b pos) (bindA f fun k => scrOp x fun l => atI l k) := ⟨fun Z W hK tk => (pe_ix (r := rIxL X.K) ix_list (pe_var hN hv hd hcd) (hb.run Z W hK tk) hs).weak fun σ H Q q => by
  obtain ⟨g, A, j, q⟩ := q
  obtain ⟨a, e1, _⟩ := tV_scr j hi
  refine ⟨_, e1, g, A, j, ?_⟩
  unfold bindA at q
  cases ef : f g with
  | bad => simp only [ef] at q
  | exc x g1 => simp only [ef] at q; exact q
  | ok k g1 =>
    simp only [ef] at q
    intro v H1 j1 gr sm rv
    cases rp_int rv.full
    obtain ⟨a', e1', e2⟩ := tV_scr j1 hi
    rw [e1] at e1'
    cases e1'
    unfold scrOp at q
    cases ea : atI (x g1) k with
    | none => simp only [ea] at q
    | some d =>
      simp only [ea] at q
      exact ⟨a, _, k, .int d, rfl, rfl, hK ▸ e2, by rw [atI_map, ea]; rfl, q _ H1 j1 gr sm (.int d)⟩⟩
theorem s_slS (i : Nat) (x : γ → List Int) {l h : Ac γ (Option Int)} {n : Str} {p1 : Pos} (hl : SO X Ve p lo l) (hh : SO X Ve p2 hi h) (hi' : Ve[i]? = some (.scr x) := by rfl) (hN : X.N[i]? = some n := by rfl)
    (hv : Vis X.env.scope n := by first | exact Or.inl rfl | exact Or.inr (Or.inl rfl) | exact Or.inr (Or.inr rfl)) (hd : (n == ("__debug__" : Str)) = false := by decide) (hcd : (n == ("__classdict__" : Str)) = false := by decide) :
    SN X Ve (p && p2) (.Subscript (.Name n p1) (.Slice lo hi none pos2) pos) (bindA l fun a => bindA h fun b => pureA fun g => cut a b (x g)) := ⟨fun Z W hK tk => (pe_slice sl_list (pe_var hN hv hd hcd) (hl.run Z W hK tk) (hh.run Z W hK tk)).weak fun σ H Q q => by
  obtain ⟨g, A, j, q⟩ := q
  obtain ⟨a, e1, _⟩ := tV_scr j hi'
  refine ⟨_, e1, g, A, j, ?_⟩
  unfold bindA at q
  cases el : l g with
  | bad => simp only [el] at q
  | exc x g1 => simp only [el] at q; exact q
  | ok lo' g1 =>
    simp only [el] at q
    intro H1 j1 gr1 sm1
    refine ⟨g1, A, j1, ?_⟩
    cases eh : h g1 with
    | bad => simp only [eh] at q
    | exc x g2 =>
      simp only [eh] at q
      exact fun c H2 mc j2 gr2 => q c H2 mc j2 (gr1.trans gr2)
    | ok hi'' g2 =>
      simp only [eh] at q
      intro H2 j2 gr2 sm2
      obtain ⟨a', e1', e2⟩ := tV_scr j2 hi'
      rw [e1] at e1'
      cases e1'
      refine ⟨a, _, rfl, hK ▸ e2, fun n hn => q n _ H2 hn j2 (gr1.trans gr2) (fun z => (sm1 (Bool.and_eq_true_iff.mp z).1).trans (sm2 (Bool.and_eq_true_iff.mp z).2)) ?_⟩
      have : ∀ {ns : List Int}, RpA Z.K (GH Z (OwV A Ve) H2) (ns.map V.int) (ns.map enc) := by
        intro ns
        induction ns with
        | nil => exact .nil
        | cons n ns ih => exact .cons (.int n) ih
      have e : cutV (List.map V.int (x g2)) lo' hi'' = (cut lo' hi'' (x g2)).map V.int := cut_map V.int lo' hi'' (x g2)
      rw [e]
      exact this⟩
end

/-! ### what is raised -/
def raiseS {γ β : Type} (x : Str) : Sc γ β := fun g => .exc x g
section
variable {X : Cx} {γ β : Type} {C : FC γ β} {xj : XJ γ} {Ve Ve' : Ev γ}
theorem c_raise {Ca : Addr} {x m : Str} {jj : Nat} {p p2 pos pos2 : Pos} (hx : XOk xj Ve) (hc : X.calm = true) (q : PySem.W.excIn X.K Ca [.type "ValueError", .type "Exception", .type "BaseException", .type "object"] "ValueError.__new__" = true) (gC : X.mg x = some (.ref Ca)) (kC : PySem.W.keepIn X.K (.ref Ca) = true)
    (h1 : PySem.W.subIn X.K (.ref Ca) (.type "BaseException") = some true) (h2 : PySem.W.typeIn X.K (.ref Ca) = some (.type "type")) (hg : Gl X x := by rfl) (hdb : (x == ("__debug__" : Str)) = false := by decide) :
    SS X C xj Ve Ve' (.Raise (some (.Call (.Name x p) [.Constant (.str m) jj p2] [] pos)) none pos2) (raiseS x) := ⟨fun Z W hK hio tk => (ps_raise hc tk (pmk_own PySem.F.excBase_ValueError q gC kC (raises_own h1 h2) hg hdb)).weak fun D σ H q => by
  obtain ⟨g, A, j, q⟩ := q
  exact q _ A σ H gC (hx _ _ _ _ _ j)⟩
end

/-! ### comprehensions -/
def Fix.hid (Z : Fix) (D : Addr) : Fix := { Z with S := fun a => Z.S a ∨ a = D }
noncomputable def wo (D : Addr) (H : Hp) : Hp := fun x => open Classical in if x = D then none else H x
theorem wo_at {D : Addr} {H : Hp} : wo D H D = none := by unfold wo; rw [if_pos rfl]
theorem wo_ne {D x : Addr} {H : Hp} (h : x ≠ D) : wo D H x = H x := by unfold wo; rw [if_neg h]
theorem wo_upd {D : Addr} {H : Hp} {vs : List L2.V} (h : H D = some (.lst vs)) : upd (wo D H) D (.lst vs) = H := by
  funext x
  by_cases e : x = D
  · rw [e, upd_same, h]
  · rw [upd_ne e, wo_ne e]
theorem wo_upd2 {D : Addr} {H : Hp} {o : HO} : upd (wo D H) D o = upd H D o := by
  funext x
  by_cases e : x = D
  · rw [e, upd_same, upd_same]
  · rw [upd_ne e, upd_ne e, wo_ne e]
theorem wo_same {D : Addr} {H H' : Hp} (h : H D = none) (s : Same H H') : Same H (wo D H') := fun x o e => by
  rw [wo_ne (fun z => by rw [z, h] at e; cases e)]
  exact s x o e
section
variable {Z : Fix} {A : AT} {r : List Slot} {σ : L2.St} {H : Hp} {D : Addr}
theorem fh_hid {O : Addr → Prop} : FH (Z.hid D) O H = FH Z O (wo D H) := by
  funext x
  apply Option.ext
  intro o
  show hide _ H x = some o ↔ hide _ (wo D H) x = some o
  rw [hide_some, hide_some]
  by_cases e : x = D
  · subst e
    rw [wo_at]
    refine ⟨fun ⟨n, _⟩ => absurd (.inl (.inr rfl)) n, fun ⟨_, z⟩ => by cases z⟩
  · rw [wo_ne e]
    refine ⟨fun ⟨n, h⟩ => ⟨fun z => n (z.elim (fun z => .inl (.inl z)) .inr), h⟩, fun ⟨n, h⟩ => ⟨fun z => n ?_, h⟩⟩
    rcases z with (z | z) | z
    · exact .inl z
    · exact absurd z e
    · exact .inr z
theorem gh_hid {O : Addr → Prop} : GH (Z.hid D) O H = GH Z O (wo D H) := by
  funext x
  apply Option.ext
  intro o
  show hide _ H x = some o ↔ hide _ (wo D H) x = some o
  rw [hide_some, hide_some]
  by_cases e : x = D
  · subst e
    rw [wo_at]
    refine ⟨fun ⟨n, _⟩ => absurd (.inl (.inr rfl)) n, fun ⟨_, z⟩ => by cases z⟩
  · rw [wo_ne e]
    refine ⟨fun ⟨n, h⟩ => ⟨fun z => n (z.elim (fun z => .inl (.inl z)) .inr), h⟩, fun ⟨n, h⟩ => ⟨fun z => n ?_, h⟩⟩
    rcases z with (z | z) | z
    · exact .inl z
    · exact absurd z e
    · exact .inr z
theorem hp_hid {O : Addr → Prop} {b : Bool} : hp (Z.hid D) O H b = hp Z O (wo D H) b := by
  unfold hp
  rw [fh_hid, gh_hid]
theorem J.inD (j : J Z A r σ H) {vs : List L2.V} (hD : H D = none) : J (Z.hid D) A r σ (upd H D (.lst vs)) := by
  have e : wo D (upd H D (.lst vs)) = H := by
    funext x
    by_cases e : x = D
    · rw [e, wo_at, hD]
    · rw [wo_ne e, upd_ne e]
  have f := j.fresh hD
  have noto : ∀ {i : Nat} {ds : Ob}, r[i]? = some (.own ds) → A i ≠ D := fun {i ds} h z => f.2.2 (.inl ⟨i, ds, h, z⟩)
  have nt : ∀ {i : Nat} {t : Tr} {a : Addr}, r[i]? = some (.tree t) → a ∈ A.ext i → a ≠ D := fun {i t a} h m z => f.2.2 (.inr ⟨i, t, h, z ▸ m⟩)
  have tr : JT (Z.hid D) A r σ (upd H D (.lst vs)) := ⟨fun i t h => by
      obtain ⟨o1, o2, o3⟩ := j.tr.ok i t h
      refine ⟨o1, TrOk.mono (by rw [fh_hid, e]; exact Same.refl _) (fun a xs q => ?_) t (fun a m => upd_ne (nt h m)) o2, o3⟩
      rw [upd_ne (fun z => by rw [z, hD] at q; cases q)]
      exact q, j.tr.dj, j.tr.ow, fun i t a h m z => z.elim (j.tr.nS i t a h m) fun z => absurd z (nt h m), j.tr.nw, j.tr.iv, j.tr.fx⟩
  have mu : ∀ a, Mut (H a) → Mut (upd H D (.lst vs) a) := fun a m => by
    rw [upd_ne (fun z => by rw [z, hD] at m; exact m)]
    exact m
  refine ⟨fun i fr d h => ?_, fun i ds h => ?_, fun i ns h => ?_, j.raw, fun i t h => ?_, j.inj, fun i ds h => ?_, fun a z => ?_, fun a o h n n2 => ?_, fun a z => mu a (j.mm a z), fun i x a h m => ⟨(j.tm i x a h m).1, .inl (j.tm i x a h m).2⟩, j.newo, j.ioo, tr, j.len⟩
  · rw [hp_hid, e]
    exact j.imm i fr d h
  · rw [gh_hid, fh_hid, e]
    obtain ⟨e1, e2⟩ := j.own i ds h
    exact ⟨e1, by rw [upd_ne (noto h)]; exact e2⟩
  · rw [fh_hid, e]
    exact j.scr i ns h
  · rw [gh_hid, e]
    exact j.pk i t h
  · rintro (z | z)
    · exact j.notS i ds h z
    · exact noto h z
  · rcases z with z | z
    · rw [upd_ne (fun q => f.2.1 (by rw [← q]; exact z))]
      exact j.smut a z
    · rw [z, upd_same]
      trivial
  · have h' : Z.H0 a = some o := h
    rw [upd_ne (fun q => by rw [q, f.1] at h'; cases h')]
    exact j.base a o h n n2
theorem J.outD (j : J (Z.hid D) A r σ H) (h0 : Z.H0 D = none) (hS : ¬ Z.S D) : J Z A r σ (wo D H) := by
  have noto : ∀ {i : Nat} {ds : Ob}, r[i]? = some (.own ds) → A i ≠ D := fun {i ds} h z => j.notS i ds h (.inr z)
  have hm : Mut (H D) := j.smut D (.inr rfl)
  have nt : ∀ {i : Nat} {t : Tr} {a : Addr}, r[i]? = some (.tree t) → a ∈ A.ext i → a ≠ D := fun {i t a} h m z => by
    obtain ⟨x, e1, e2⟩ := j.tr.nS i t a h m (.inr z)
    have := (j.tm i x a e1 e2).1
    rw [show (Z.hid D).H0 a = none from z ▸ h0] at this
    exact this
  have tr : JT Z A r σ (wo D H) := ⟨fun i t h => by
      obtain ⟨o1, o2, o3⟩ := j.tr.ok i t h
      refine ⟨o1, TrOk.mono (by rw [fh_hid]; exact Same.refl _) (fun a xs q => ?_) t (fun a m => wo_ne (nt h m)) o2, o3⟩
      rw [wo_ne (fun z => by rw [z] at q; rw [q] at hm; exact hm)]
      exact q, j.tr.dj, j.tr.ow, fun i t a h m z => j.tr.nS i t a h m (.inl z), j.tr.nw, j.tr.iv, j.tr.fx⟩
  refine ⟨fun i fr d h => ?_, fun i ds h => ?_, fun i ns h => ?_, j.raw, fun i t h => ?_, j.inj, fun i ds h z => j.notS i ds h (.inl z), fun a z => ?_, fun a o h n n2 => ?_, fun a z => ?_, fun i x a h m => ⟨(j.tm i x a h m).1, (j.tm i x a h m).2.elim id fun z => ?_⟩, j.newo, j.ioo, tr, j.len⟩
  · have := j.imm i fr d h
    rw [hp_hid] at this
    exact this
  · obtain ⟨e1, e2⟩ := j.own i ds h
    rw [gh_hid, fh_hid] at e2
    exact ⟨e1, by rw [wo_ne (noto h)]; exact e2⟩
  · have := j.scr i ns h
    rw [fh_hid] at this
    exact this
  · have := j.pk i t h
    rw [gh_hid] at this
    exact this
  · rw [wo_ne (fun q => hS (by rw [← q]; exact z))]
    exact j.smut a (.inl z)
  · rw [wo_ne (fun q => by rw [q, h0] at h; cases h)]
    exact j.base a o h n n2
  · rw [wo_ne (fun q => by rw [q, h0] at z; exact z)]
    exact j.mm a z
  · have q := (j.tm i x a h m).1
    rw [show (Z.hid D).H0 a = none from z ▸ h0] at q
    exact q.elim
/-- slots of which nothing is known may hold anything -/
theorem J.sig (j : J Z A r σ H) {σ' : L2.St} (hl : σ'.length = σ.length) (h : ∀ (i : Nat) s, r[i]? = some s → s ≠ .no → σ'[i]? = σ[i]?) : J Z A r σ' H :=
  ⟨fun i fr d e => by rw [h i _ e (fun z => by cases z)]; exact j.imm i fr d e, fun i ds e => by rw [h i _ e (fun z => by cases z)]; exact j.own i ds e, fun i ns e => by rw [h i _ e (fun z => by cases z)]; exact j.scr i ns e, fun i v e => by rw [h i _ e (fun z => by cases z)]; exact j.raw i v e, fun i q e => by rw [h i _ e (fun z => by cases z)]; exact j.pk i q e, j.inj, j.notS, j.smut, j.base, j.mm, j.tm, j.newo, j.ioo, j.tr.keep (fun i t e => ⟨e, h i _ e (fun z => by cases z), rfl, rfl⟩) (fun i ds e => .inl ⟨ds, e, rfl⟩) (Same.refl _) (fun _ _ _ _ _ => rfl) (fun _ _ q => q), by rw [hl]; exact j.len⟩
end
theorem wipe_get {σ : L2.St} {i : Nat} : ∀ {vs : List Nat}, (wipe σ vs)[i]? = if i ∈ vs then (if i < σ.length then some none else none) else σ[i]?
  | [] => by simp [wipe]
  | v :: vs => by
    unfold wipe
    rw [List.getElem?_set, wipe_length, wipe_get (vs := vs)]
    by_cases e : v = i
    · subst e
      simp
    · rw [if_neg e]
      by_cases m : i ∈ vs
      · simp [m]
      · simp [m, Ne.symm e]
def compR {γ α δ : Type} (set : γ → α → γ) (c : Ac γ Bool) (e : Ac γ δ) : List α → γ → Res γ (List δ)
  | [], g => .ok [] g
  | a :: l, g => match c (set g a) with
    | .ok true g1 => match e g1 with
      | .ok d g2 => match compR set c e l g2 with
        | .ok ds g3 => .ok (d :: ds) g3
        | .exc _ _ => .bad
        | .bad => .bad
      | .exc _ _ => .bad
      | .bad => .bad
    | .ok false g1 => compR set c e l g1
    | .exc _ _ => .bad
    | .bad => .bad
def compA {γ α δ : Type} (f : Ac γ (List α)) (set : γ → α → γ) (c : Ac γ Bool) (e : Ac γ δ) : Ac γ (List δ) := bindA f fun l g => if l.length ≤ LIM then compR set c e l g else .bad
def yesA {γ : Type} : Ac γ Bool := pureA fun _ => true
/-- the tests of a comprehension -/
structure STs (X : Cx) {γ : Type} (Ve : Ev γ) (p : Bool) (es : List Expr) (f : Ac γ Bool) : Prop where
  run : ∀ (Z : Fix) (W : WX), Z.K = X.K → Takes X W → PTs X es (tT X.mg Z W Ve p f)
section
variable {X : Cx} {γ : Type} {Ve : Ev γ} {p : Bool} {c : Expr} {f : Ac γ Bool}
theorem ts_nil : STs X Ve true [] yesA := ⟨fun Z W hK tk => ⟨fun pins s σ H Q I q => pts_nil.run pins s σ H Q I (by
  obtain ⟨g, A, j, q⟩ := q
  exact q H j (.refl H) fun _ => Same.refl H)⟩⟩
theorem ts_one (h : ST X Ve p c f) : STs X Ve p [c] f := ⟨fun Z W hK tk => pts_one (h.run Z W hK tk)⟩
end
abbrev W0 : WX := fun _ _ _ _ => False
section
variable {X : Cx} {γ α δ : Type} [Enc α] [Enc δ] {Ve VT : Ev γ} {b : Bool} {p p2 p3 : Bool} {elt tg iter : Expr} {ifs : List Expr} {scope : Scope} {own : List (Str × Nat)} {pos : Pos} {mg : Str → Option Value} {Z : Fix} {W : WX}
/-- what is wanted of a comprehension's rest -/
def CFin (mg : Str → Option Value) (Z : Fix) (A : AT) (Ve : Ev γ) (σ : L2.St) (H : Hp) (p : Bool) (Q : VK) (acc : List δ) (r : Res γ (List δ)) : Prop :=
  match r with
  | .ok ds g' => ∀ q vs H', H' q = none → J Z A (at_ Ve g') σ H' → Gr (OwV A Ve) H H' → (p = true → Same H H') → RpA Z.K (GH Z (OwV A Ve) H') vs ((acc ++ ds).map enc) → Q (.ref q) (upd H' q (.lst vs))
  | _ => False
/-- slots forgotten -/
def noAt (V : Ev γ) : List Nat → Ev γ
  | [] => V
  | v :: vs => (noAt V vs).set v .no
theorem noAt_len {V : Ev γ} : ∀ {vs : List Nat}, (noAt V vs).length = V.length
  | [] => rfl
  | v :: vs => by unfold noAt; rw [List.length_set, noAt_len (vs := vs)]
theorem noAt_get {V : Ev γ} {i : Nat} : ∀ {vs : List Nat}, (noAt V vs)[i]? = if i ∈ vs then (if i < V.length then some .no else none) else V[i]?
  | [] => by simp [noAt]
  | v :: vs => by
    unfold noAt
    rw [List.getElem?_set, noAt_len, noAt_get (vs := vs)]
    by_cases e : v = i
    · subst e
      simp
    · rw [if_neg e]
      by_cases m : i ∈ vs
      · simp [m]
      · simp [m, Ne.symm e]
theorem ow_noAt {A : AT} {V : Ev γ} {vs : List Nat} (h : noOwn V vs = true) : OwV A (noAt V vs) = OwV A V := by
  funext a
  have away : ∀ {i : Nat} {s : SlotG γ}, (noAt V vs)[i]? = some s → s ≠ .no → V[i]? = some s := fun {i s} e ns => by
    rw [noAt_get] at e
    by_cases m : i ∈ vs
    · rw [if_pos m] at e
      split at e
      · exact absurd (Option.some.inj e).symm ns
      · cases e
    · rw [if_neg m] at e; exact e
  refine propext ⟨fun z => ?_, fun z => ?_⟩
  · rcases z with ⟨i, ds, e, z⟩ | ⟨i, t, e, z⟩
    · exact .inl ⟨i, ds, away e (fun z => by cases z), z⟩
    · exact .inr ⟨i, t, away e (fun z => by cases z), z⟩
  · rcases z with ⟨i, ds, e, z⟩ | ⟨i, t, e, z⟩
    · exact .inl ⟨i, ds, by rw [noAt_get, if_neg (fun m => noOwn_get h m e)]; exact e, z⟩
    · exact .inr ⟨i, t, by rw [noAt_get, if_neg (fun m => noTree_get h m e)]; exact e, z⟩
theorem J.noAt {A : AT} {V : Ev γ} {vs : List Nat} {g : γ} {σ : L2.St} {H : Hp} (j : J Z A (at_ V g) σ H) (h : noOwn V vs = true) : J Z A (at_ (noAt V vs) g) σ H := by
  have ow : Ow A (at_ (HL.noAt V vs) g) = Ow A (at_ V g) := by rw [ow_at, ow_at, ow_noAt h]
  have get : ∀ {i : Nat} {s : Slot}, (at_ (HL.noAt V vs) g)[i]? = some s → s ≠ .no → (at_ V g)[i]? = some s := fun {i s} e ns => by
    rw [at_get, noAt_get] at e
    rw [at_get]
    by_cases m : i ∈ vs
    · rw [if_pos m] at e
      split at e
      · exact absurd (Option.some.inj e).symm ns
      · cases e
    · rw [if_neg m] at e; exact e
  have put : ∀ {i : Nat} {ds : Ob}, (at_ V g)[i]? = some (.own ds) → (at_ (HL.noAt V vs) g)[i]? = some (.own ds) := fun {i ds} e => by
    rw [at_get] at e
    rw [at_get, noAt_get, if_neg]
    · exact e
    · intro m
      cases q : V[i]? with
      | none => rw [q] at e; cases e
      | some s =>
        rw [q] at e
        cases s with
        | own f => exact noOwn_get h m q
        | no => cases e
        | imm fr d => cases e
        | scr ns => cases e
        | raw v => cases e
        | pk q => cases e
        | tree t => cases e
  refine ⟨fun i fr d e => ?_, fun i ds e => ?_, fun i ns e => ?_, fun i v e => j.raw i v (get e (fun z => by cases z)), fun i q e => by rw [ow]; exact j.pk i q (get e (fun z => by cases z)), fun i k ds es e1 e2 => j.inj i k ds es (get e1 (fun z => by cases z)) (get e2 (fun z => by cases z)), fun i ds e => j.notS i ds (get e (fun z => by cases z)), j.smut, j.base, j.mm, j.tm, fun i ds e => j.newo i ds (get e (fun z => by cases z)), fun i a e => ?_, j.tr.keep (fun i t e => ⟨get e (fun z => by cases z), rfl, rfl, rfl⟩) (fun i ds e => .inl ⟨ds, get e (fun z => by cases z), rfl⟩) (by rw [ow]; exact Same.refl _) (fun _ _ _ _ _ => rfl) (fun _ _ q => q), ?_⟩
  · rw [ow]; exact j.imm i fr d (get e (fun z => by cases z))
  · rw [ow]; exact j.own i ds (get e (fun z => by cases z))
  · rw [ow]; exact j.scr i ns (get e (fun z => by cases z))
  · obtain ⟨e1, ds, e2⟩ := j.ioo i a e
    exact ⟨e1, ds, put e2⟩
  · have := j.len
    rw [← this]
    simp [at_, noAt_len]
theorem tLc_ok {f : Ac γ (List α)} {set : γ → α → γ} {c : Ac γ Bool} {e : Ac γ δ} {wi : TI} {tg' : TG} {tt : TT} {te : TE} {ix : List Nat} {vs : List Nat} (hVT : noAt VT vs = Ve) (hnow : noOwn VT vs = true) (hix : ∀ i ∈ ix, i ∈ vs)
    (hwi : ∀ σ H R, tI mg Z W Ve b p f σ H R → wi σ H R) (hg : ∀ D v σ H Q, tG (Z.hid D) Ve VT (mdB b) false ix set v σ H Q → tg' v σ H Q) (ht : ∀ D σ H Q, tT mg (Z.hid D) W0 VT p2 c σ H Q → tt σ H Q) (he : ∀ D σ H Q, tE mg (Z.hid D) W0 VT .fr p3 e σ H Q → te σ H Q)
    {σ : L2.St} {H : Hp} {Q : VK} (q : tN mg Z W Ve (p && (p2 && p3)) (compA f set c e) σ H Q) : tLc wi tg' tt te vs σ H Q := by
  obtain ⟨g, A, j, q⟩ := q
  refine hwi _ _ _ ⟨g, A, j, ?_⟩
  unfold compA bindA at q
  cases ef : f g with
  | bad => simp only [ef] at q
  | exc x g1 => simp only [ef] at q; exact q
  | ok l g1 =>
    simp only [ef] at q
    by_cases hlim : l.length ≤ LIM
    · rw [if_pos hlim] at q
      intro it H1 j1 gr1 sm1 hit D hD
      obtain ⟨D0, DS, DO⟩ := j1.fresh hD
      have q1 : CFin mg Z A Ve σ H (p && (p2 && p3)) Q [] (compR set c e l g1) := by
        unfold CFin
        cases er : compR set c e l g1 with
        | bad => rw [er] at q; exact q
        | exc x g2 =>
          -- a comprehension gives no exception
          exfalso
          clear q
          have : ∀ (l : List α) (g : γ), ∀ x g2, compR set c e l g ≠ .exc x g2 := by
            intro l
            induction l with
            | nil => intro g x g2 z; cases z
            | cons a l ih =>
              intro g x g2 z
              unfold compR at z
              split at z
              · split at z
                · split at z <;> cases z
                · cases z
                · cases z
              · exact ih _ _ _ z
              · cases z
              · cases z
          exact this l g1 x g2 er
        | ok ds g2 => rw [er] at q; simpa using q
      -- the state within
      have jw : ∀ {g : γ} {H' : Hp}, J Z A (at_ Ve g) σ H' → J Z A (at_ Ve g) (wipe σ vs) H' := fun {g H'} j => j.sig (wipe_length σ vs) fun i s h ns => by
        rw [wipe_get, if_neg]
        intro hi
        rw [at_get, ← hVT, noAt_get, if_pos hi] at h
        split at h
        · exact ns (Option.some.inj h).symm
        · cases h
      have jb : ∀ {g : γ} {H' : Hp}, J Z A (at_ Ve g) (wipe σ vs) H' → J Z A (at_ Ve g) σ H' := fun {g H'} j => j.sig (wipe_length σ vs).symm fun i s h ns => by
        rw [wipe_get, if_neg]
        intro hi
        rw [at_get, ← hVT, noAt_get, if_pos hi] at h
        split at h
        · exact ns (Option.some.inj h).symm
        · cases h
      refine ⟨fun i n H' => n = l.length - i ∧ i ≤ l.length ∧ ∃ g' acc us Hm, H' = upd Hm D (.lst us) ∧ Hm D = none ∧ J Z A (at_ Ve g') (wipe σ vs) Hm ∧ Gr (OwV A Ve) H1 Hm ∧ ((p && (p2 && p3)) = true → Same H1 Hm) ∧ acc.length ≤ i ∧ RpA Z.K (GH Z (OwV A Ve) Hm) us (acc.map enc) ∧ CFin mg Z A Ve σ H (p && (p2 && p3)) Q acc (compR set c e (l.drop i) g'),
        ⟨l.length, rfl, Nat.zero_le _, g1, [], [], H1, rfl, hD, jw j1, .refl _, fun _ => Same.refl _, Nat.zero_le _, .nil, q1⟩, ?_⟩
      rintro i n H2 ⟨rfl, hil, g2, acc, us, Hm, rfl, hDm, jm, grm, smm, hacc, racc, qm⟩
      have stm : Stt (OwV A Ve) (OwV A Ve) H1 (upd Hm D (.lst us)) := fun x o n h => ⟨same_new hDm _ _ (grm x o n h), n⟩
      obtain ⟨k1, k2, k3⟩ := hit (OwV A Ve) _ stm i
      rw [List.length_map] at k1 k2
      by_cases hlt : i < l.length
      · have hd : l.drop i = l[i] :: l.drop (i + 1) := List.drop_eq_getElem_cons hlt
        rw [hd] at qm
        refine .inr ⟨k1 hlt, fun H' => ∃ g' acc us Hm, H' = upd Hm D (.lst us) ∧ Hm D = none ∧ J Z A (at_ Ve g') (wipe σ vs) Hm ∧ Gr (OwV A Ve) H1 Hm ∧ ((p && (p2 && p3)) = true → Same H1 Hm) ∧ acc.length ≤ i + 1 ∧ RpA Z.K (GH Z (OwV A Ve) Hm) us (acc.map enc) ∧ CFin mg Z A Ve σ H (p && (p2 && p3)) Q acc (compR set c e (l.drop (i + 1)) g'), fun H' h => ⟨l.length - (i + 1), by omega, rfl, hlt, h⟩, fun x H3 y => ?_⟩
        obtain ⟨s3, r3⟩ := k3 x H3 (enc l[i]) y (by rw [List.getElem?_map, List.getElem?_eq_getElem hlt]; rfl)
        have D3 : H3 D = some (.lst us) := s3 _ _ upd_same
        -- the item, known without the list that grows
        have r3' : Rp Z.K (hp (Z.hid D) (OwV A Ve) H3 b) x (enc l[i]) := by
          rw [hp_hid]
          refine Rp.mono (fun a o h => ?_) _ r3
          rcases un_cases h with h2 | ⟨hn, h2⟩
          · have ne : a ≠ D := fun z => by
              have := hp_le _ _ h2
              rw [z, hD] at this
              cases this
            have e1 := (Gr.hp (Z := Z) grm (fr := b)) _ _ h2
            have e2 : Same Hm (wo D H3) := wo_same hDm ((same_new hDm).trans s3)
            exact (Gr.of e2).hp _ _ e1
          · have ne : a ≠ D := fun z => by rw [z, upd_same] at hn; cases hn
            rw [upd_ne ne] at hn
            obtain ⟨h0, hS, hO⟩ := jm.fresh hn
            rw [ow_at] at hO
            have h3 : wo D H3 a = some o := by rw [wo_ne ne]; exact h2
            unfold hp
            cases b with
            | true =>
              show GH Z (OwV A Ve) (wo D H3) a = some o
              refine hide_mk ?_ h3
              rintro (z | z | z)
              · exact hS z
              · exact hO z
              · rw [h0] at z; exact z
            | false =>
              show FH Z (OwV A Ve) (wo D H3) a = some o
              refine hide_mk ?_ h3
              rintro (z | z)
              · exact hS z
              · exact hO z
        have j3 : J (Z.hid D) A (at_ Ve g2) (wipe σ vs) H3 := (jm.inD (vs := us) hDm).same s3
        refine hg D x (wipe σ vs) H3 _ ⟨g2, A, l[i], j3, rm_hp r3', fun σ4 H4 j4 gr4 sm4 ow4 hσ4 => ?_⟩
        have l4 : σ4.length = σ.length := by
          have a1 := j4.len
          have a2 := j3.len
          rw [wipe_length] at a2
          have a3 : VT.length = Ve.length := by rw [← hVT, noAt_len]
          simp only [at_, List.length_map] at a1 a2
          omega
        have w4 : wipe σ4 vs = wipe σ vs := by
          apply List.ext_getElem?
          intro k
          rw [wipe_get, wipe_get, l4]
          by_cases m : k ∈ vs
          · rw [if_pos m, if_pos m]
          · rw [if_neg m, if_neg m, hσ4 k (fun z => m (hix k z)), wipe_get, if_neg m]
        have owT : OwV A VT = OwV A Ve := by rw [← hVT, ow_noAt hnow]
        -- back from within
        have back : ∀ {g : γ} {H' : Hp}, J (Z.hid D) A (at_ VT g) σ4 H' → J Z A (at_ Ve g) (wipe σ vs) (wo D H') := fun {g H'} j' => by
          have k1 := (j'.noAt hnow).outD D0 DS
          rw [hVT] at k1
          refine k1.sig (by rw [wipe_length, l4]) fun k s hk ns => ?_
          rw [at_get, ← hVT, noAt_get] at hk
          by_cases m : k ∈ vs
          · rw [if_pos m] at hk
            split at hk
            · exact absurd (Option.some.inj hk).symm ns
            · cases hk
          · rw [← w4, wipe_get, if_neg m]
        refine ⟨w4, ht D σ4 H4 _ ⟨set g2 l[i], A, j4, ?_⟩⟩
        unfold compR at qm
        cases ec : c (set g2 l[i]) with
        | bad => simp only [ec] at qm; exact qm
        | exc x g3 => simp only [ec] at qm; exact qm.elim
        | ok bb g3 =>
          intro H5 j5 gr5 sm5
          have DnO : ¬ OwV A Ve D := by
            rw [ow_at] at DO
            exact DO
          have D4 : H4 D = some (.lst us) := gr4 D _ DnO D3
          have D5 : H5 D = some (.lst us) := gr5 D _ (by rw [owT]; exact DnO) D4
          have g15 : Gr (OwV A Ve) H1 (wo D H5) := fun x o n h => by
            have ne : x ≠ D := fun z => by rw [z, hD] at h; cases h
            rw [wo_ne ne]
            have e1 := grm x o n h
            have e2 := s3 x o (by rw [upd_ne ne]; exact e1)
            exact gr5 x o (by rw [owT]; exact n) (gr4 x o n e2)
          have s15 : (p && (p2 && p3)) = true → Same H1 (wo D H5) := fun z => wo_same hD (((smm z).trans (same_new hDm)).trans ((s3.trans (sm4 rfl)).trans (sm5 (Bool.and_eq_true_iff.mp (Bool.and_eq_true_iff.mp z).2).1)))
          have g5 : Gr (OwV A Ve) Hm (wo D H5) := fun x o n h => by
            have ne : x ≠ D := fun z => by rw [z, hDm] at h; cases h
            rw [wo_ne ne]
            have e2 := s3 x o (by rw [upd_ne ne]; exact h)
            exact gr5 x o (by rw [owT]; exact n) (gr4 x o n e2)
          cases bb with
          | false =>
            simp only [ec] at qm
            simp only [Bool.false_eq_true, if_false]
            exact ⟨g3, acc, us, wo D H5, (wo_upd D5).symm, wo_at, back j5, g15, s15, by omega, RpA.mono g5.gh _ racc, qm⟩
          | true =>
            simp only [ec] at qm
            simp only [if_true]
            refine he D σ4 H5 _ ⟨g3, A, j5, ?_⟩
            cases ee : e g3 with
            | bad => simp only [ee] at qm; exact qm
            | exc x g4 => simp only [ee] at qm; exact qm.elim
            | ok d g4 =>
              simp only [ee] at qm
              intro y H6 j6 gr6 sm6 ry
              have D6 : H6 D = some (.lst us) := gr6 D _ (by rw [owT]; exact DnO) D5
              have el := racc.length
              rw [List.length_map] at el
              have g6 : Gr (OwV A Ve) (wo D H5) (wo D H6) := fun x o n h => by
                have ne : x ≠ D := fun z => by rw [z, wo_at] at h; cases h
                rw [wo_ne ne] at h ⊢
                exact gr6 x o (by rw [owT]; exact n) h
              refine ⟨us, D6, by rw [el]; exact Nat.lt_of_le_of_lt (Nat.le_trans hacc (Nat.le_trans hil hlim)) (by decide), g4, acc ++ [d], us ++ [y], wo D H6, ?_, wo_at, back j6, g15.trans g6, fun z => (s15 z).trans fun x o h => ?_, by rw [List.length_append]; show acc.length + 1 ≤ i + 1; omega, ?_, ?_⟩
              · rw [wo_upd2]
              · have ne : x ≠ D := fun z => by rw [z, wo_at] at h; cases h
                rw [wo_ne ne] at h ⊢
                exact sm6 (Bool.and_eq_true_iff.mp (Bool.and_eq_true_iff.mp z).2).2 x o h
              · rw [List.map_append]
                refine (RpA.mono (g5.trans g6).gh _ racc).append (.cons ?_ .nil)
                have : Rp Z.K (GH (Z.hid D) (OwV A VT) H6) y (enc d) := ry
                rw [gh_hid, owT] at this
                exact this
              · cases er : compR set c e (l.drop (i + 1)) g4 with
                | bad => simp only [er] at qm; exact qm
                | exc x g5 => simp only [er] at qm; exact qm.elim
                | ok ds g5 =>
                  simp only [er] at qm
                  unfold CFin at qm ⊢
                  simpa using qm
      · have e : i = l.length := by omega
        refine .inl ⟨k2 (by omega), ?_⟩
        rw [e, List.drop_length] at qm
        unfold compR CFin at qm
        simp only [List.append_nil] at qm
        exact qm D us Hm hDm (jb jm) (gr1.trans grm) (fun z => (sm1 (Bool.and_eq_true_iff.mp z).1).trans (smm z)) racc
    · rw [if_neg hlim] at q
      exact q.elim
theorem s_lc {f : Ac γ (List α)} {set : γ → α → γ} {c : Ac γ Bool} {e : Ac γ δ} {ix : List Nat} (own : List (Str × Nat)) (VT : Ev γ) (hc : X.calm = true) (hN : X.N.Nodup) (hi : SI X Ve b p tg iter f)
    (hg : ∀ (s : Shared) (H : Hp) (C : Addr) (cl : List (Str × Addr)) (fp : List Addr), SG (X.blk s H scope (compEnvC scope cl C X.env) fp) Ve VT (mdB b) false ix tg set)
    (ht : ∀ (s : Shared) (H : Hp) (C : Addr) (cl : List (Str × Addr)) (fp : List Addr), STs (X.blk s H scope (compEnvC scope cl C X.env) fp) VT p2 ifs c)
    (he : ∀ (s : Shared) (H : Hp) (C : Addr) (cl : List (Str × Addr)) (fp : List Addr), SE (X.blk s H scope (compEnvC scope cl C X.env) fp) VT .fr p3 elt e)
    (ok : BlkOk X.N X.env.scope scope own := by exact blkOk_by (by decide +kernel)) (hVT : noAt VT (own.map (·.2)) = Ve := by rfl) (hnow : noOwn VT (own.map (·.2)) = true := by rfl) (hix : ix.all (fun i => (own.map (·.2)).contains i) = true := by rfl)
    (hs : ∀ x, foldedSetIterable iter X.env x = pure x := by intro _; rfl) : SN X Ve (p && (p2 && p3)) (.ListComp elt [⟨tg, iter, ifs, 0⟩] scope pos) (compA f set c e) := ⟨fun Z W hK tk => by
  have tk0 : ∀ {s : Shared} {H : Hp} {C : Addr} {cl : List (Str × Addr)} {fp : List Addr}, Takes (X.blk s H scope (compEnvC scope cl C X.env) fp) W0 := takes0
  -- what is told within holds whatever place the new list has
  refine (pe_lc (wi := tI X.mg Z W Ve b p f) (g := fun v σ H Q => ∃ D, tG (Z.hid D) Ve VT (mdB b) false ix set v σ H Q) (tt := fun σ H Q => ∃ D, tT X.mg (Z.hid D) W0 VT p2 c σ H Q) (te := fun σ H Q => ∃ D, tE X.mg (Z.hid D) W0 VT .fr p3 e σ H Q) hc hN (hi.run Z W hK tk) ok
    (fun s H C cl fp => ⟨fun pins s' σ H' v u Q I r ⟨D, q⟩ => ((hg s H C cl fp).run (Z.hid D) hK).run pins s' σ H' v u Q I r q⟩) (fun s H C cl fp => ⟨fun pins s' σ H' Q I ⟨D, q⟩ => ((ht s H C cl fp).run (Z.hid D) W0 hK tk0).run pins s' σ H' Q I q⟩)
    (fun s H C cl fp => ⟨fun pins s' σ H' Q I ⟨D, q⟩ => ((he s H C cl fp).run (Z.hid D) W0 hK tk0).run pins s' σ H' Q I q⟩) hs).weak fun σ H Q q => ?_
  exact tLc_ok hVT hnow (fun i h => by simpa using List.all_eq_true.mp hix i h) (fun _ _ _ h => h) (fun D _ _ _ _ h => ⟨D, h⟩) (fun D _ _ _ h => ⟨D, h⟩) (fun D _ _ _ h => ⟨D, h⟩) q⟩
end
end HL
/-! Fi: short forms: a callee, an optional value, name = [comprehension], op=. -/
namespace HL
open PySem PySem.Spec PyProof.Rows L2

/-- a def that may be called -/
structure Cal (P : Program) (w : World) (K : PySem.W.Frag) (mg : Str → Option Value) (base : Heap) (k : Nat) (x : Str) (ps : List Str) (sp : Sp) : Prop where
  ex : ∃ f fd, FnOk P w K mg base (L2.CX P w) k f fd ps sp ∧ mg x = some (.ref f) ∧ PySem.W.keepIn K (.ref f) = true ∧ Binds K fd ps []
section
variable {X : Cx} {γ τ α β ι : Type} {Ve : Ev γ} {ks : List AK} {p : Bool} {e : Expr} {es : List Expr} {bs : List Nat} {k : Nat} {ps : List Str} {rm : RM} {pa : α → List Par} {pio : ι → List (Nat × Ob)} {m : Md}
theorem x_call [Enc β] {F : α → FRes β ι} {x : Str} {el : τ → List D} {fA : Ac γ τ} {p0 pos : Pos} (args : γ → τ → α) (c : Cal X.prog X.w X.K X.mg X.base k x ps (spOf X.K X.mg rm pa enc pio F)) (hr : Room k X.A)
    (ha : SA X Ve ks p (e :: es) el fA) (hargs : ∀ g t, ArgsOk Ve g bs ks (el t) (pa (args g t))) (hio : ∀ a, inoIx 0 (pa a) = [] := by exact fun _ => rfl) (hnk : noTK ks = true := by rfl) (hm : (rm = .fr ∧ m = .fr) ∨ (rm = .an ∧ m = .an ∧ bs = []) := by first | exact .inl ⟨rfl, rfl⟩ | exact .inr ⟨rfl, rfl, rfl⟩)
    (hg : Gl X x := by rfl) (hdb : (x == ("__debug__" : Str)) = false := by decide) (he : starEach (e :: es) X.env = (false, eval e X.env) :: starEach es X.env := by rfl) (hpl : (backTo pos (starEach es X.env)).any (·.1) = false := by rfl) :
    SE X Ve m p (.Call (.Name x p0) (e :: es) [] pos) (callA args F fA) := by
  obtain ⟨f, fd, h1, h2, h3, h4⟩ := c.ex
  exact s_call args h1 hr h2 h3 h4 ha hargs hnk hio hm hg hdb he hpl
theorem x_callN [Enc β] {F : α → FRes (List β) ι} {x : Str} {el : τ → List D} {fA : Ac γ τ} {p0 pos : Pos} (args : γ → τ → α) (c : Cal X.prog X.w X.K X.mg X.base k x ps (spOf X.K X.mg .nw pa enc pio F)) (hr : Room k X.A)
    (ha : SA X Ve ks p (e :: es) el fA) (hargs : ∀ g t, ArgsOk Ve g bs ks (el t) (pa (args g t))) (hio : ∀ a, inoIx 0 (pa a) = [] := by exact fun _ => rfl) (hnk : noTK ks = true := by rfl)
    (hg : Gl X x := by rfl) (hdb : (x == ("__debug__" : Str)) = false := by decide) (he : starEach (e :: es) X.env = (false, eval e X.env) :: starEach es X.env := by rfl) (hpl : (backTo pos (starEach es X.env)).any (·.1) = false := by rfl) :
    SN X Ve p (.Call (.Name x p0) (e :: es) [] pos) (callA args F fA) := by
  obtain ⟨f, fd, h1, h2, h3, h4⟩ := c.ex
  exact s_callN args h1 hr h2 h3 h4 ha hargs hnk hio hg hdb he hpl
theorem x_callIo [Enc β] {F : α → FRes β ι} {x : Str} {el : τ → List D} {fA : Ac γ τ} {p0 pos : Pos} (args : γ → τ → α) (put : γ → ι → γ) (i pi : Nat) (cont : ι → Ob) (c : Cal X.prog X.w X.K X.mg X.base k x ps (spOf X.K X.mg rm pa enc pio F)) (hr : Room k X.A)
    (ha : SA X Ve ks p (e :: es) el fA) (hargs : ∀ g t, ArgsOk Ve g bs ks (el t) (pa (args g t))) (hio : ∀ a, inoIx 0 (pa a) = [pi] := by exact fun _ => rfl) (hnk : noTK ks = true := by rfl) (hpi : ks[pi]? = some (.slot i) := by rfl) (hown : ∃ f, Ve[i]? = some (.own f) := by exact ⟨_, rfl⟩) (hpio : ∀ y, pio y = [(pi, cont y)] := by exact fun _ => rfl) (hput : ∀ g y, at_ Ve (put g y) = (at_ Ve g).set i (.own (cont y)) := by exact fun _ _ => rfl)
    (hct : (∀ y, (cont y).gv = true) ∨ bs = [] := by first | exact .inl fun _ => rfl | exact .inr rfl) (hca : ∀ y, (cont y).ats = [] := by exact fun _ => rfl)
    (hm : (rm = .fr ∧ m = .fr) ∨ (rm = .an ∧ m = .an ∧ bs = []) := by first | exact .inl ⟨rfl, rfl⟩ | exact .inr ⟨rfl, rfl, rfl⟩)
    (hg : Gl X x := by rfl) (hdb : (x == ("__debug__" : Str)) = false := by decide) (he : starEach (e :: es) X.env = (false, eval e X.env) :: starEach es X.env := by rfl) (hpl : (backTo pos (starEach es X.env)).any (·.1) = false := by rfl) :
    SE X Ve m false (.Call (.Name x p0) (e :: es) [] pos) (callIo args put F fA) := by
  obtain ⟨f, fd, h1, h2, h3, h4⟩ := c.ex
  exact s_callIo args put i pi cont h1 hr h2 h3 h4 ha hargs hnk hio hpi hown hpio hput hct hca hm hg hdb he hpl
end
/-- a list handed back is new: promised as such, it is also data made since -/
theorem retR_nw {K : PySem.W.Frag} {H : Hp} {S N : Addr → Prop} {T : List Addr} {H' : Hp} {v : L2.V} {d : D} (h : RetR K H S N T H' .nw v d) : RetR K H S N T H' .fr v d := by
  obtain ⟨q, us, ds, rfl, rfl, h0, hn, h1, h2⟩ := h
  exact .lst (hide_mk (fun z => z.elim (by rw [h0]; exact fun z => z) hn) h1) (RpA.mono (hide_imp fun x y => y.elim (fun y => .inl (.inl y)) .inr) _ h2)
theorem spOf_nw {α β ι : Type} {K : PySem.W.Frag} {mg : Str → Option Value} {pa : α → List Par} {en : β → D} {pio : ι → List (Nat × Ob)} {F : α → FRes β ι} : ∀ vs H Q E, spOf K mg .fr pa en pio F vs H Q E → spOf K mg .nw pa en pio F vs H Q E := fun vs H Q E ⟨a, S, X, h1, h2, h3, h5, h4⟩ => by
  refine ⟨a, S, X, h1, h2, h3, h5, ?_⟩
  cases e : F a with
  | bad => rw [e] at h4; exact h4
  | exc x => rw [e] at h4; exact h4
  | ok b i =>
    rw [e] at h4
    exact fun v H' ⟨B, c⟩ => h4 v H' ⟨B, c.frame, c.ios, retR_nw c.ret, c.tio⟩
theorem Cal.fr {P : Program} {w : World} {K : PySem.W.Frag} {mg : Str → Option Value} {base : Heap} {k : Nat} {x : Str} {ps : List Str} {α β ι : Type} {pa : α → List Par} {en : β → D} {pio : ι → List (Nat × Ob)} {F : α → FRes β ι} (c : Cal P w K mg base k x ps (spOf K mg .nw pa en pio F)) : Cal P w K mg base k x ps (spOf K mg .fr pa en pio F) := by
  obtain ⟨f, fd, h1, h2⟩ := c.ex
  exact ⟨f, fd, h1.imp spOf_nw, h2⟩

section
variable {X : Cx} {γ α β : Type} [Enc α] {Ve Ve' : Ev γ} {m : Md} {p : Bool} {e : Expr} {pos : Pos}
theorem tE_map {δ : Type} [Enc δ] {mg : Str → Option Value} {Z : Fix} {W : WX} {k : α → δ} (hk : ∀ a, enc (k a) = enc a) {f : Ac γ α} {σ : L2.St} {H : Hp} {Q : VK} (q : tE mg Z W Ve m p (op1 (fun a => some (k a)) f) σ H Q) : tE mg Z W Ve m p f σ H Q := by
  obtain ⟨g, A, j, q⟩ := q
  refine ⟨g, A, j, ?_⟩
  unfold op1 bindA optA at q
  cases ef : f g with
  | bad => simp only [ef] at q
  | exc x g1 => simp only [ef] at q; exact q
  | ok a g1 =>
    simp only [ef] at q
    rw [hk] at q
    exact q
/-- a thing as one that may be none -/
theorem SE.opt {f : Ac γ α} (h : SE X Ve m p e f) : SE X Ve m p e (op1 (fun a => some (some a)) f) := ⟨fun Z W hK tk => (h.run Z W hK tk).weak fun σ H Q q => tE_map (k := some) (fun _ => rfl) q⟩
end

/-! ### name = [comprehension] on one line -/
section
variable {X : Cx} {γ α δ β : Type} [Enc α] [Enc δ] {C : FC γ β} {xj : XJ γ} {Ve VT Ve' : Ev γ} {b : Bool} {p p2 p3 : Bool} {elt tg iter : Expr} {ifs : List Expr} {scope : Scope} {pos spos py : Pos}
theorem c_lc_core {f : Ac γ (List α)} {set : γ → α → γ} {c : Ac γ Bool} {e : Ac γ δ} {ix : List Nat} {i : Nat} {y : Str} {own : List (Str × Nat)} (hc : X.calm = true) (hN : X.N.Nodup) (hi : SI X Ve b p tg iter f)
    (hg : ∀ (s : Shared) (H : Hp) (C : Addr) (cl : List (Str × Addr)) (fp : List Addr), SG (X.blk s H scope (compEnvC scope cl C X.env) fp) Ve VT (mdB b) false ix tg set)
    (ht : ∀ (s : Shared) (H : Hp) (C : Addr) (cl : List (Str × Addr)) (fp : List Addr), STs (X.blk s H scope (compEnvC scope cl C X.env) fp) VT p2 ifs c)
    (he : ∀ (s : Shared) (H : Hp) (C : Addr) (cl : List (Str × Addr)) (fp : List Addr), SE (X.blk s H scope (compEnvC scope cl C X.env) fp) VT .fr p3 elt e)
    (hy : X.N[i]? = some y) (hyl : X.env.scope.names.lookup y = some .local) (hsw : swapsWith (.ListComp elt [⟨tg, iter, ifs, 0⟩] scope pos) (some (.Name y py)) spos.line X.env = pure true)
    (ok : BlkOk X.N X.env.scope scope own) (hVT : noAt VT (own.map (·.2)) = Ve) (hnow : noOwn VT (own.map (·.2)) = true) (hix : ix.all (fun i => (own.map (·.2)).contains i) = true)
    (hs : ∀ x, foldedSetIterable iter X.env x = pure x) {Z : Fix} {W : WX} (hK : Z.K = X.K) (tk : Takes X W) :
    PS X (.Assign [.Name y py] (.ListComp elt [⟨tg, iter, ifs, 0⟩] scope pos) spos) (fun D σ H => tN X.mg Z W Ve (p && (p2 && p3)) (compA f set c e) σ H fun x H1 => D.nx (σ.set i (some x)) H1) := by
  have tk0 : ∀ {s : Shared} {H : Hp} {C : Addr} {cl : List (Str × Addr)} {fp : List Addr}, Takes (X.blk s H scope (compEnvC scope cl C X.env) fp) W0 := takes0
  refine (ps_setLc (wi := tI X.mg Z W Ve b p f) (g := fun v σ H Q => ∃ D, tG (Z.hid D) Ve VT (mdB b) false ix set v σ H Q) (tt := fun σ H Q => ∃ D, tT X.mg (Z.hid D) W0 VT p2 c σ H Q) (te := fun σ H Q => ∃ D, tE X.mg (Z.hid D) W0 VT .fr p3 e σ H Q) hc hN hy hyl hsw (hi.run Z W hK tk) ok
    (fun s H C cl fp => ⟨fun pins s' σ H' v u Q I r ⟨D, q⟩ => ((hg s H C cl fp).run (Z.hid D) hK).run pins s' σ H' v u Q I r q⟩) (fun s H C cl fp => ⟨fun pins s' σ H' Q I ⟨D, q⟩ => ((ht s H C cl fp).run (Z.hid D) W0 hK tk0).run pins s' σ H' Q I q⟩)
    (fun s H C cl fp => ⟨fun pins s' σ H' Q I ⟨D, q⟩ => ((he s H C cl fp).run (Z.hid D) W0 hK tk0).run pins s' σ H' Q I q⟩) hs).weak fun D σ H q => ?_
  exact tLc_ok hVT hnow (fun i h => by simpa using List.all_eq_true.mp hix i h) (fun _ _ _ h => h) (fun D _ _ _ _ h => ⟨D, h⟩) (fun D _ _ _ h => ⟨D, h⟩) (fun D _ _ _ h => ⟨D, h⟩) q
/-- name = [..], data -/
theorem c_setLc {f : Ac γ (List α)} {set : γ → α → γ} {c : Ac γ Bool} {e : Ac γ δ} {ix : List Nat} (i : Nat) (put : γ → List δ → γ) {y : Str} (own : List (Str × Nat)) (VT : Ev γ) (hx : XOk xj Ve) (hc : X.calm = true) (hN : X.N.Nodup) (hi : SI X Ve b p tg iter f)
    (hg : ∀ (s : Shared) (H : Hp) (C : Addr) (cl : List (Str × Addr)) (fp : List Addr), SG (X.blk s H scope (compEnvC scope cl C X.env) fp) Ve VT (mdB b) false ix tg set)
    (ht : ∀ (s : Shared) (H : Hp) (C : Addr) (cl : List (Str × Addr)) (fp : List Addr), STs (X.blk s H scope (compEnvC scope cl C X.env) fp) VT p2 ifs c)
    (he : ∀ (s : Shared) (H : Hp) (C : Addr) (cl : List (Str × Addr)) (fp : List Addr), SE (X.blk s H scope (compEnvC scope cl C X.env) fp) VT .fr p3 elt e)
    (hV : ∀ g a, at_ Ve' (put g a) = (at_ Ve g).set i (.imm true (enc a)) := by exact fun _ _ => rfl) (hno : (ioIx C).contains i = false := by rfl)
    (hy : X.N[i]? = some y := by rfl) (hyl : X.env.scope.names.lookup y = some .local := by rfl) (hsw : swapsWith (.ListComp elt [⟨tg, iter, ifs, 0⟩] scope pos) (some (.Name y py)) spos.line X.env = pure true := by exact sw_true rfl rfl rfl (by decide +kernel))
    (ok : BlkOk X.N X.env.scope scope own := by exact blkOk_by (by decide +kernel)) (hVT : noAt VT (own.map (·.2)) = Ve := by rfl) (hnow : noOwn VT (own.map (·.2)) = true := by rfl) (hix : ix.all (fun i => (own.map (·.2)).contains i) = true := by rfl)
    (hs : ∀ x, foldedSetIterable iter X.env x = pure x := by intro _; rfl) : SS X C xj Ve Ve' (.Assign [.Name y py] (.ListComp elt [⟨tg, iter, ifs, 0⟩] scope pos) spos) (setS put (compA f set c e)) := ⟨fun Z W hK hio tk => (c_lc_core hc hN hi hg ht he hy hyl hsw ok hVT hnow hix hs hK tk).weak fun D σ H q => tN_tE (tS_do (m := .fr) hx q fun a g A v H' j rv z => by
  have j2 := j.setImm (i := i) (fr := true) (by rw [ow_at]; exact rv) (noio hio hno)
  rw [← hV] at j2
  refine z A _ H' j2 fun x o n h => ⟨h, fun y => n ?_⟩
  rw [← ow_at (g := put g a), hV] at y
  rw [← ow_at (g := g)]
  exact ow_set imm_ne x y)⟩
/-- name = [..], one's own -/
theorem c_ownLc {f : Ac γ (List α)} {set : γ → α → γ} {c : Ac γ Bool} {e : Ac γ δ} {ix : List Nat} (i : Nat) (put : γ → List δ → γ) {y : Str} (own : List (Str × Nat)) (VT : Ev γ) (hx : XOk xj Ve) (hc : X.calm = true) (hN : X.N.Nodup) (hi : SI X Ve b p tg iter f)
    (hg : ∀ (s : Shared) (H : Hp) (C : Addr) (cl : List (Str × Addr)) (fp : List Addr), SG (X.blk s H scope (compEnvC scope cl C X.env) fp) Ve VT (mdB b) false ix tg set)
    (ht : ∀ (s : Shared) (H : Hp) (C : Addr) (cl : List (Str × Addr)) (fp : List Addr), STs (X.blk s H scope (compEnvC scope cl C X.env) fp) VT p2 ifs c)
    (he : ∀ (s : Shared) (H : Hp) (C : Addr) (cl : List (Str × Addr)) (fp : List Addr), SE (X.blk s H scope (compEnvC scope cl C X.env) fp) VT .fr p3 elt e)
    (hV : ∀ g a, at_ Ve' (put g a) = (at_ Ve g).set i (.own (a.map enc)) := by exact fun _ _ => rfl) (hno : (ioIx C).contains i = false := by rfl) (hpk : noPk i Ve = true := by rfl) (hat : ∀ g, (atsS (at_ Ve g)).contains i = false := by exact fun _ => rfl)
    (hy : X.N[i]? = some y := by rfl) (hyl : X.env.scope.names.lookup y = some .local := by rfl) (hsw : swapsWith (.ListComp elt [⟨tg, iter, ifs, 0⟩] scope pos) (some (.Name y py)) spos.line X.env = pure true := by exact sw_true rfl rfl rfl (by decide +kernel))
    (ok : BlkOk X.N X.env.scope scope own := by exact blkOk_by (by decide +kernel)) (hVT : noAt VT (own.map (·.2)) = Ve := by rfl) (hnow : noOwn VT (own.map (·.2)) = true := by rfl) (hix : ix.all (fun i => (own.map (·.2)).contains i) = true := by rfl)
    (hs : ∀ x, foldedSetIterable iter X.env x = pure x := by intro _; rfl) : SS X C xj Ve Ve' (.Assign [.Name y py] (.ListComp elt [⟨tg, iter, ifs, 0⟩] scope pos) spos) (setS put (compA f set c e)) := ⟨fun Z W hK hio tk => (c_lc_core hc hN hi hg ht he hy hyl hsw ok hVT hnow hix hs hK tk).weak fun D σ H q => tS_doN hx q fun a g A v vs H' hn j rv z => by
  have j2 := j.setOwn (i := i) hn (by rw [ow_at]; exact rv) (noio hio hno) (fun k t e _ => noPk_all hpk k t e) (noAtS (hat g))
  rw [← hV] at j2
  refine z (A.put i v) _ _ j2 fun x o n h => ⟨same_new hn _ _ h, fun y => ?_⟩
  rw [← ow_at (g := put g a), hV] at y
  rcases ow_setOwn y with y | y
  · rw [ow_at] at y
    exact n y
  · rw [y, hn] at h
    cases h⟩
end

/-! ### name op= e -/
section
variable {X : Cx} {γ β : Type} {C : FC γ β} {xj : XJ γ} {Ve : Ev γ} {m : Md} {p : Bool} {e : Expr} {pos : Pos}
def augS {γ β : Type} (k : Int → Int → Option Int) (get : γ → Int) (set : γ → Int → γ) (f : Ac γ Int) : Sc γ β := fun g0 => doS f (fun b g => match k (get g0) b with
  | some c => .nx (set g c)
  | none => .bad) g0
theorem c_aug {op : Operator} {r : R2} {k : Int → Int → Option Int} {f : Ac γ Int} (i : Nat) (get : γ → Int) (set : γ → Int → γ) {n : Str} {pos' : Pos} (ho : OpR X (inplaceOp op) r) (hk : ∀ a b c H (Q : VK), k a b = some c → Q (.int c) H → r (.int a) (.int b) H Q) (hx : XOk xj Ve) (he : SE X Ve m p e f)
    (hi' : Ve[i]? = some (.imm true fun g => enc (get g)) := by rfl) (hV : ∀ g a, at_ Ve (set g a) = (at_ Ve g).set i (.imm true (enc a)) := by exact fun _ _ => rfl)
    (hN : X.N.Nodup) (hi : X.N[i]? = some n := by rfl) (hl : Loc X.env.scope n := by first | exact .inl rfl | exact .inr rfl) (hf : X.fn n = true ∨ X.env.scope.names.lookup n = some .local := by first | exact .inl rfl | exact .inr rfl) :
    SS X C xj Ve Ve (.AugAssign (.Name n pos') op e pos) (augS k get set f) := ⟨fun Z W hK hio tk => (ps_aug (ti := r) hN hi hl (he.run Z W hK tk) (fun pins s σ H x y v u Q I r1 r2 h => ho pins s σ H x y v u Q I r1 r2 h) hf).weak fun D σ H q => by
  obtain ⟨g, A, j, q⟩ := q
  have hr : (at_ Ve g)[i]? = some (.imm true (enc (get g))) := by rw [at_get, hi']; rfl
  obtain ⟨v, e1, e2⟩ := j.imm i true _ hr
  cases rp_int e2
  refine ⟨_, e1, g, A, j, ?_⟩
  unfold augS doS at q
  cases ef : f g with
  | bad => simp only [ef] at q
  | exc x g1 =>
    simp only [ef] at q
    exact fun c H' mc j' gr => q c A σ H' mc (hx _ _ _ _ _ j')
  | ok b g1 =>
    simp only [ef] at q
    intro w H1 j1 gr sm rw1
    cases rp_int rw1.full
    cases ek : k (get g) b with
    | none => simp only [ek] at q
    | some c =>
      simp only [ek] at q
      refine hk _ _ _ _ _ ek ?_
      have j2 := j1.setImm (i := i) (fr := true) (v := .int c) (d := enc c) (.int c) (noio' j1 (by unfold noOwn; simp [hi']))
      rw [← hV] at j2
      refine q A _ H1 j2 (gr.stt.trans fun x o n h => ⟨h, fun y => n ?_⟩)
      rw [← ow_at (g := set g1 c), hV] at y
      rw [← ow_at (g := g1)]
      exact ow_set imm_ne x y⟩
theorem c_augAdd {f : Ac γ Int} (i : Nat) (get : γ → Int) (set : γ → Int → γ) {n : Str} {pos' : Pos} (hx : XOk xj Ve) (he : SE X Ve m p e f)
    (hN : X.N.Nodup) (hi' : Ve[i]? = some (.imm true fun g => enc (get g)) := by rfl) (hV : ∀ g a, at_ Ve (set g a) = (at_ Ve g).set i (.imm true (enc a)) := by exact fun _ _ => rfl)
    (hi : X.N[i]? = some n := by rfl) (hl : Loc X.env.scope n := by first | exact .inl rfl | exact .inr rfl) (hf : X.fn n = true ∨ X.env.scope.names.lookup n = some .local := by first | exact .inl rfl | exact .inr rfl) :
    SS X C xj Ve Ve (.AugAssign (.Name n pos') .Add e pos) (augS addI get set f) := c_aug i get set iop_add (fun a b c H Q e q => by cases some_inj' e; exact ⟨a, b, rfl, rfl, q⟩) hx he hi' hV hN hi hl hf
theorem c_augMul {f : Ac γ Int} (i : Nat) (get : γ → Int) (set : γ → Int → γ) {n : Str} {pos' : Pos} (hx : XOk xj Ve) (he : SE X Ve m p e f)
    (hN : X.N.Nodup) (hi' : Ve[i]? = some (.imm true fun g => enc (get g)) := by rfl) (hV : ∀ g a, at_ Ve (set g a) = (at_ Ve g).set i (.imm true (enc a)) := by exact fun _ _ => rfl)
    (hi : X.N[i]? = some n := by rfl) (hl : Loc X.env.scope n := by first | exact .inl rfl | exact .inr rfl) (hf : X.fn n = true ∨ X.env.scope.names.lookup n = some .local := by first | exact .inl rfl | exact .inr rfl) :
    SS X C xj Ve Ve (.AugAssign (.Name n pos') .Mult e pos) (augS mulI get set f) := c_aug i get set iop_mulW (fun a b c H Q e q => by obtain ⟨hc, rfl⟩ := ite_some e; exact ⟨a, b, rfl, rfl, hc, q⟩) hx he hi' hV hN hi hl hf
theorem c_augDiv {f : Ac γ Int} (i : Nat) (get : γ → Int) (set : γ → Int → γ) {n : Str} {pos' : Pos} (hx : XOk xj Ve) (he : SE X Ve m p e f)
    (hN : X.N.Nodup) (hi' : Ve[i]? = some (.imm true fun g => enc (get g)) := by rfl) (hV : ∀ g a, at_ Ve (set g a) = (at_ Ve g).set i (.imm true (enc a)) := by exact fun _ _ => rfl)
    (hi : X.N[i]? = some n := by rfl) (hl : Loc X.env.scope n := by first | exact .inl rfl | exact .inr rfl) (hf : X.fn n = true ∨ X.env.scope.names.lookup n = some .local := by first | exact .inl rfl | exact .inr rfl) :
    SS X C xj Ve Ve (.AugAssign (.Name n pos') .FloorDiv e pos) (augS fdivI get set f) := c_aug i get set iop_fdivX (fun a b c H Q e q => by obtain ⟨hc, rfl⟩ := ite_some e; exact ⟨a, b, rfl, rfl, hc, q⟩) hx he hi' hV hN hi hl hf
end
end HL
/-! Fj: isinstance, tuple(list), count, own[i] op= e, sorted of ints. -/
namespace HL
open PySem PySem.Spec PyProof.Rows L2

/-! ### isinstance -/
class Ty1 (α : Type) [Enc α] where
  nm : String
  ok : ∀ {K : PySem.W.Frag} {H : Hp} {v : L2.V} (x : α), Rp K H v (enc x) → TyX K H v (.type nm)
theorem tyx_tup {K : PySem.W.Frag} {H : Hp} {a : Addr} {vs : List L2.V} (h : SqT K H a vs) : TyX K H (.ref a) (.type "tuple") := by
  rcases h with (h | ⟨o, h⟩) | ⟨o, its, n, h1, h2, _⟩
  · exact .base (.tup h)
  · exact .fTuple h
  · exact .kTuple h1 h2
instance : Ty1 Int := ⟨"int", fun x h => by cases rp_int h; exact .base (.int _)⟩
instance : Ty1 Bool := ⟨"bool", fun x h => by cases rp_bl h; exact .base (.bl _)⟩
instance : Ty1 Str := ⟨"str", fun x h => by cases rp_str h; exact .base (.str _)⟩
instance : Ty1 Unit := ⟨"NoneType", fun x h => by cases h; exact .base .non⟩
instance {α : Type} [Enc α] : Ty1 (List α) := ⟨"list", fun x h => by
  obtain ⟨a, vs, rfl, h1, _⟩ := rp_list h
  exact .base (.lst h1)⟩
instance {α β : Type} [Enc α] [Enc β] : Ty1 (α × β) := ⟨"tuple", fun x h => by
  obtain ⟨a, vs, rfl, h1, _⟩ := rp_tuple h
  exact tyx_tup h1⟩
instance {α β γ : Type} [Enc α] [Enc β] [Enc γ] : Ty1 (T3 α β γ) := ⟨"tuple", fun x h => by
  obtain ⟨a, vs, rfl, h1, _⟩ := rp_tuple h
  exact tyx_tup h1⟩
instance {α β γ δ : Type} [Enc α] [Enc β] [Enc γ] [Enc δ] : Ty1 (T4 α β γ δ) := ⟨"tuple", fun x h => by
  obtain ⟨a, vs, rfl, h1, _⟩ := rp_tuple h
  exact tyx_tup h1⟩
instance {α β γ δ ε : Type} [Enc α] [Enc β] [Enc γ] [Enc δ] [Enc ε] : Ty1 (T5 α β γ δ ε) := ⟨"tuple", fun x h => by
  obtain ⟨a, vs, rfl, h1, _⟩ := rp_tuple h
  exact tyx_tup h1⟩
section
variable {X : Cx} {γ α β δ : Type} [Enc α] [Enc β] [Enc δ] {Ve : Ev γ} {m m1 m2 : Md} {p p1 p2 p3 : Bool} {e a b : Expr} {pos : Pos}
theorem s_isi [Ty1 α] {c : Str} {cs : String} (r : Bool) {f : Ac γ α} {p0 p9 : Pos} (hx : X.mg "isinstance" = none) (hc : X.mg c = none) (ha : SE X Ve m p e f) (hk : kitB (Ty1.nm α) cs = some r := by decide +kernel) (hv : bootBuiltins c = some (.type cs) := by decide +kernel)
    (hg : Gl X "isinstance" := by rfl) (hgc : Gl X c := by rfl) (hn : c ≠ "__name__" := by decide) (hd : (c == ("__debug__" : Str)) = false := by decide)
    (he : starEach (e :: [.Name c p9]) X.env = (false, eval e X.env) :: starEach [.Name c p9] X.env := by rfl) (he2 : starEach (.Name c p9 :: []) X.env = (false, eval (.Name c p9) X.env) :: starEach [] X.env := by rfl) (hpl : (backTo pos (starEach [.Name c p9] X.env)).any (·.1) = false := by rfl) :
    SE X Ve .fr p (.Call (.Name "isinstance" p0) [e, .Name c p9] [] pos) (op1 (fun _ => some r) f) :=
  ⟨fun Z W hK tk => (pe_callB call_isi hg hx PyProof.Rows.boot_isinstance (pa_cons (ha.run Z W hK tk) (pa_cons (pe_bltn (v := .ty cs) hgc hc hv rfl hn hd) pa_nil he2) he) (by decide) (by decide) he hpl).weak fun σ H Q q =>
    tUn_ok (r := fun v H Q => rIsi X.K [v, .ty cs] H Q) (fun A g σ H x l c Q j rx ec q => by
      rw [some_inj' ec] at q
      exact ⟨x, .ty cs, _, _, r, rfl, .ty cs, hK ▸ Ty1.ok l rx.full, hk, q _ H (Same.refl H) j (.bl _)⟩) q⟩

/-! ### tuple(list) -/
theorem s_tupOf {mk : List α → Option δ} {f : Ac γ (List α)} {p0 : Pos} (hx : X.mg "tuple" = none) (ha : SE X Ve m p e f) (hmk : ∀ l d, mk l = some d → enc d = .tuple (l.map enc)) (hg : Gl X "tuple" := by rfl) (he : starEach (e :: []) X.env = (false, eval e X.env) :: starEach [] X.env := by rfl) :
    SE X Ve (mdB (elM m)) p (.Call (.Name "tuple" p0) [e] [] pos) (op1 mk f) :=
  ⟨fun Z W hK tk => (pe_tupleOf hg hx (ha.run Z W hK tk) he).weak fun σ H Q q => tUn_ok (r := kTup X.K) (fun A g σ H x l c Q j rx ec q => by
    obtain ⟨t, vs, rfl, e2, e3⟩ := rm_els rx
    refine .inl ⟨t, vs, rfl, seqL e2, fun n hn => q (.ref n) _ (same_new hn) (j.new hn) ?_⟩
    rw [hmk _ _ ec]
    have hn' := j.ghnew (o := .tup vs) hn
    rw [ow_at] at hn'
    have ra' := RpA.mono (Gr.of (same_new (o := .tup vs) hn)).hp _ e3
    cases em : elM m with
    | true =>
      rw [em] at ra'
      exact .tup hn' ra'
    | false =>
      rw [em] at ra'
      exact .tup (gh_fh _ _ hn') ra') q⟩
def tup1Q {α : Type} : List α → Option (Unit × α)
  | [a] => some ((), a)
  | _ => none
def tup2Q {α : Type} : List α → Option (α × α)
  | [a, b] => some (a, b)
  | _ => none
def tup3Q {α : Type} : List α → Option (T3 α α α)
  | [a, b, c] => some ⟨a, b, c⟩
  | _ => none
def tup4Q {α : Type} : List α → Option (T4 α α α α)
  | [a, b, c, d] => some ⟨a, b, c, d⟩
  | _ => none
theorem tup2_ok (l : List α) (d : α × α) (h : tup2Q l = some d) : enc d = .tuple (l.map enc) := by
  unfold tup2Q at h
  split at h
  · cases h; rfl
  · cases h
theorem tup3_ok (l : List α) (d : T3 α α α) (h : tup3Q l = some d) : enc d = .tuple (l.map enc) := by
  unfold tup3Q at h
  split at h
  · cases h; rfl
  · cases h
theorem tup4_ok (l : List α) (d : T4 α α α α) (h : tup4Q l = some d) : enc d = .tuple (l.map enc) := by
  unfold tup4Q at h
  split at h
  · cases h; rfl
  · cases h

/-! ### methods of lists, as expressions -/
theorem tBM_ok {T : String} {r : L2.V → List L2.V → Hp → VK → Prop} {mr : Md} {k : α → β → Option δ} {f : Ac γ α} {h2 : Ac γ β} {mg : Str → Option Value} {Z : Fix} {W : WX} (hk : OpK Z (fun x y H Q => r x [y] H Q) m1 m2 mr k Ve)
    (ht : ∀ (A : AT) g σ H x (a : α), J Z A (at_ Ve g) σ H → Rm Z A Ve H m1 x (enc a) → tyV Z.K T x H) (hm : okM m1 p2 = true) {σ : L2.St} {H : Hp} {Q : VK} (h : tE mg Z W Ve mr (p1 && p2) (op2 k f h2) σ H Q) :
    tBM Z.K T r (tE mg Z W Ve m1 p1 f) (tCons (tE mg Z W Ve m2 p2 h2) tNil) σ H Q := by
  obtain ⟨g, A, j, h⟩ := h
  refine ⟨g, A, j, ?_⟩
  unfold op2 bindA at h
  cases ef : f g with
  | bad => rw [ef] at h; exact h
  | exc x g1 => rw [ef] at h; exact h
  | ok a g1 =>
    rw [ef] at h
    intro v H1 j1 gr sm rv
    refine ⟨ht A g1 σ H1 v a j1 rv, g1, A, j1, ?_⟩
    simp only at h
    cases eh : h2 g1 with
    | bad => simp only [eh] at h
    | exc x g2 =>
      simp only [eh] at h
      exact fun c H' mc j' gr' => h c H' mc j' (gr.trans gr')
    | ok b g2 =>
      simp only [eh] at h
      unfold optA at h
      cases ek : k a b with
      | none => simp only [ek] at h
      | some c =>
        simp only [ek] at h
        intro w H2 j2 gr2 sm2 rw2
        exact hk A g2 σ H2 v w a b c Q j2 (rv.step gr2 sm2 hm) rw2 ek fun u H3 s3 j3 ru => h u H3 j3 ((gr.trans gr2).trans (.of s3)) (fun z => ((sm (Bool.and_eq_true_iff.mp z).1).trans (sm2 (Bool.and_eq_true_iff.mp z).2)).trans s3) ru
theorem ty_list {Z : Fix} {A : AT} {g : γ} {σ : L2.St} {H : Hp} {x : L2.V} {l : List α} (h : Rm Z A Ve H m x (enc l)) : tyV Z.K "list" x H := by
  obtain ⟨t, vs, rfl, e2, e3⟩ := rm_els h
  exact .inl ⟨rfl, vs, seqL e2⟩
def countI (l : List Int) (k : Int) : Option Int := some (l.count k : Nat)
theorem s_countI {f : Ac γ (List Int)} {h : Ac γ Int} {ap : Pos} (ha : SE X Ve m1 p1 a f) (hb : SE X Ve m2 p2 b h) (hm : okM m1 p2 = true := by rfl) (hmm : Bm1 X a "count" ap b pos := by exact ⟨rfl, rfl, rfl, rfl, rfl⟩) :
    SE X Ve .fr (p1 && p2) (.Call (.Attribute a "count" ap) [b] [] pos) (op2 countI f h) := ⟨fun Z W hK tk => by
  obtain ⟨h1, h2, h3, h4, h5⟩ := hmm
  refine (pe_bm PySem.F.plainAttrs_list PySem.F.slot_list_count PySem.F.type_list_count mt_lcount (ha.run Z W hK tk) (pa_cons (hb.run Z W hK tk) pa_nil h4) h1 h2 h3 h4 h5).weak fun σ H Q q => ?_
  rw [← hK]
  exact tBM_ok (r := rCntI Z.K) (fun A g σ H x y l k c Q j rx ry ec q => by
    obtain ⟨t, vs, rfl, e2, e3⟩ := rm_els rx
    cases rp_int ry.full
    obtain rfl := some_inj' ec
    have ev := rpA_ints (ns := l) e3
    subst ev
    exact ⟨t, l, k, rfl, rfl, seqL e2, q _ H (Same.refl H) j (.int _)⟩) (fun A g σ H x l j rx => ty_list (g := g) (σ := σ) rx) hm q⟩
end

/-! ### own[i] op= e -/
def rGetL (K : PySem.W.Frag) : L2.V → L2.V → Hp → VK → Prop := rIxL K
theorem get_list {X : Cx} : PGet X (rGetL X.K) := by
  intro pins s σ H x y v u Q I rx ry h
  obtain ⟨p, xs, i, z, rfl, rfl, hq, he, q⟩ := h
  cases rx
  obtain ⟨t, rfl⟩ := ry
  obtain ⟨its, r, pl, hz⟩ := I.list hq
  obtain ⟨j, h1, h2, h3, h4, h5⟩ := atI_get he
  obtain ⟨w, ew, rw'⟩ := r.get h2
  have hl := r.length
  have hn := line63
  have fin : EP X pins σ Q w s := ⟨z, H, I, rw', q⟩
  by_cases h0 : 0 ≤ i
  · have hj : i.toNat = j := by
      rw [seqIndex_of h0 h5] at h1
      exact Option.some.inj h1
    exact PyProof.Rows.getItem_listL pl.isList h0 (by omega) (by rw [hj]; simpa using ew) fin
  · have hj : (i + (its.toArray.size : Int)).toNat = j := by
      rw [seqIndex_neg (by omega) h4] at h1
      rw [List.size_toArray, ← hl]
      exact Option.some.inj h1
    exact wpAny_getItem_list_neg pl.isList (by omega) (by rw [List.size_toArray] <;> omega) (by omega) (by rw [hj]; simpa using ew) fin
def augIxS {γ β : Type} (k : Int → Int → Option Int) (get : γ → List Int) (put : γ → List Int → γ) (h : Ac γ Int) (f : Ac γ Int) : Sc γ β := doS h fun i => fun g => match atI (get g) i with
  | none => .bad
  | some x => doS f (fun b g => match k x b with
    | none => .bad
    | some c => match setAt (get g) i c with
      | some l => .nx (put g l)
      | none => .bad) g
section
variable {X : Cx} {γ β : Type} {C : FC γ β} {xj : XJ γ} {Ve : Ev γ} {m : Md} {p p2 : Bool} {e e2 : Expr} {pos : Pos}
theorem c_augIx {op : Operator} {r : R2} {k : Int → Int → Option Int} {f h : Ac γ Int} (i : Nat) (get : γ → List Int) (put : γ → List Int → γ) {n : Str} {p0 sp : Pos} (ho : OpR X (inplaceOp op) r) (hk : ∀ a b c H (Q : VK), k a b = some c → Q (.int c) H → r (.int a) (.int b) H Q) (hx : XOk xj Ve) (hh : SE X Ve .fr p2 e2 h) (he : SE X Ve .fr p e f)
    (hi : Ve[i]? = some (.own fun g => (get g).map enc) := by rfl) (hput : ∀ g l, at_ Ve (put g l) = (at_ Ve g).set i (.own (l.map enc)) := by exact fun _ _ => rfl)
    (hN : X.N[i]? = some n := by rfl) (hv : Vis X.env.scope n := by first | exact Or.inl rfl | exact Or.inr (Or.inl rfl) | exact Or.inr (Or.inr rfl)) (hd : (n == ("__debug__" : Str)) = false := by decide) (hcd : (n == ("__classdict__" : Str)) = false := by decide)
    (ha : ∀ ov iv new, augStore e2 ov iv new = (do holding [new, ov, iv] (setItem ov iv new); release [new, ov, iv] []; pure .next) := by intros; rfl) :
    SS X C xj Ve Ve (.AugAssign (.Subscript (.Name n p0) e2 sp) op e pos) (augIxS k get put h f) := ⟨fun Z W hK hio tk => by
  refine (ps_augS (pe_var hN hv hd hcd) (hh.run Z W hK tk) get_list (he.run Z W hK tk) (fun pins s σ H x y v u Q I r1 r2 h => ho pins s σ H x y v u Q I r1 r2 h) set_list ha).weak fun D σ H q => ?_
  obtain ⟨g0, A0, j0, q0⟩ := q
  have hr0 : (at_ Ve g0)[i]? = some (.own ((get g0).map enc)) := by rw [at_get, hi]; rfl
  obtain ⟨e1, _⟩ := j0.own i _ hr0
  refine ⟨_, e1, g0, A0, j0, ?_⟩
  unfold augIxS doS at q0
  cases ef : h g0 with
  | bad => simp only [ef] at q0
  | exc x g1 =>
    simp only [ef] at q0
    exact fun c H' mc j' gr => q0 c A0 σ H' mc (hx _ _ _ _ _ j')
  | ok ix g1 =>
    simp only [ef] at q0
    intro v H1 j1 gr sm rv
    cases rp_int rv.full
    have hr1 : (at_ Ve g1)[i]? = some (.own ((get g1).map enc)) := by rw [at_get, hi]; rfl
    obtain ⟨_, vs1, e2', e3'⟩ := j1.own i _ hr1
    cases ea : atI (get g1) ix with
    | none => simp only [ea] at q0
    | some x =>
      simp only [ea] at q0
      obtain ⟨w, e4, e5⟩ := rpA_at e3' (by rw [atI_map, ea]; rfl)
      cases rp_int e5
      refine ⟨A0 i, vs1, ix, _, rfl, rfl, seqL e2', e4, g1, A0, j1, ?_⟩
      cases eh : f g1 with
      | bad => simp only [eh] at q0
      | exc x g2 =>
        simp only [eh] at q0
        exact fun c H' mc j' gr => q0 c A0 σ H' mc (hx _ _ _ _ _ j')
      | ok b g2 =>
        simp only [eh] at q0
        intro w H2 j2 gr2 sm2 rw2
        cases rp_int rw2.full
        cases ek : k x b with
        | none => simp only [ek] at q0
        | some c =>
          simp only [ek] at q0
          refine hk _ _ _ _ _ ek ?_
          have hr2 : (at_ Ve g2)[i]? = some (.own ((get g2).map enc)) := by rw [at_get, hi]; rfl
          obtain ⟨_, vs, e3, e4⟩ := j2.own i _ hr2
          rw [ow_at] at e4
          have el := e4.length
          rw [List.length_map] at el
          unfold setAt at q0
          cases en : ixN (get g2).length ix with
          | none => simp only [en, Option.map_none] at q0
          | some n' =>
            simp only [en, Option.map_some] at q0
            refine ⟨A0 i, vs, ix, n', rfl, rfl, e3, by rw [el]; exact en, ?_⟩
            obtain ⟨j3, st⟩ := j_chg (vs := vs.set n' (.int c)) (l := (get g2).set n' c) j2 hi hput (by rw [List.map_set]; exact e4.set n' (.int c))
            exact q0 A0 σ _ j3 ((gr.stt.trans gr2.stt).trans st)⟩
theorem c_augIxAdd {f h : Ac γ Int} (i : Nat) (get : γ → List Int) (put : γ → List Int → γ) {n : Str} {p0 sp : Pos} (hx : XOk xj Ve) (hh : SE X Ve .fr p2 e2 h) (he : SE X Ve .fr p e f)
    (hi : Ve[i]? = some (.own fun g => (get g).map enc) := by rfl) (hput : ∀ g l, at_ Ve (put g l) = (at_ Ve g).set i (.own (l.map enc)) := by exact fun _ _ => rfl)
    (hN : X.N[i]? = some n := by rfl) (hv : Vis X.env.scope n := by first | exact Or.inl rfl | exact Or.inr (Or.inl rfl) | exact Or.inr (Or.inr rfl)) (hd : (n == ("__debug__" : Str)) = false := by decide) (hcd : (n == ("__classdict__" : Str)) = false := by decide)
    (ha : ∀ ov iv new, augStore e2 ov iv new = (do holding [new, ov, iv] (setItem ov iv new); release [new, ov, iv] []; pure .next) := by intros; rfl) :
    SS X C xj Ve Ve (.AugAssign (.Subscript (.Name n p0) e2 sp) .Add e pos) (augIxS addI get put h f) := c_augIx i get put iop_add (fun a b c H Q e q => by cases some_inj' e; exact ⟨a, b, rfl, rfl, q⟩) hx hh he hi hput hN hv hd hcd ha
end

/-! ### own[i], read behind the index's own doing -/
def ixO {γ α : Type} (x : γ → List α) (h : Ac γ Int) : Ac γ α := bindA h fun k => fun g => match atI (x g) k with
  | some d => .ok d g
  | none => .bad
section
variable {X : Cx} {γ α : Type} [Enc α] {Ve : Ev γ} {p : Bool} {pos : Pos}
theorem s_ixO (i : Nat) (x : γ → List α) {f : Ac γ Int} {n : Str} {b : Expr} {p1 : Pos} (hb : SE X Ve .fr p b f) (hi : Ve[i]? = some (.own fun g => (x g).map enc) := by rfl) (hN : X.N[i]? = some n := by rfl)
    (hv : Vis X.env.scope n := by first | exact Or.inl rfl | exact Or.inr (Or.inl rfl) | exact Or.inr (Or.inr rfl)) (hd : (n == ("__debug__" : Str)) = false := by decide) (hcd : (n == ("__classdict__" : Str)) = false := by decide) (hs : PlainIx b := by exact fun _ _ => rfl) :
    SE X Ve .fr p (.Subscript (.Name n p1) b pos) (ixO x f) := ⟨fun Z W hK tk => (pe_ix (r := rIxL X.K) ix_list (pe_var hN hv hd hcd) (hb.run Z W hK tk) hs).weak fun σ H Q q => by
  obtain ⟨g, A, j, q⟩ := q
  have hr : (at_ Ve g)[i]? = some (.own ((x g).map enc)) := by rw [at_get, hi]; rfl
  obtain ⟨e1, _⟩ := j.own i _ hr
  refine ⟨_, e1, g, A, j, ?_⟩
  unfold ixO bindA at q
  cases ef : f g with
  | bad => simp only [ef] at q
  | exc x g1 => simp only [ef] at q; exact q
  | ok k g1 =>
    simp only [ef] at q
    intro v H1 j1 gr sm rv
    cases rp_int rv.full
    have hr1 : (at_ Ve g1)[i]? = some (.own ((x g1).map enc)) := by rw [at_get, hi]; rfl
    obtain ⟨_, vs, e2, e3⟩ := j1.own i _ hr1
    rw [ow_at] at e3
    cases ea : atI (x g1) k with
    | none => simp only [ea] at q
    | some d =>
      simp only [ea] at q
      obtain ⟨w, e4, e5⟩ := rpA_at e3 (by rw [atI_map, ea]; rfl)
      exact ⟨A i, vs, k, w, rfl, rfl, seqL e2, e4, q w H1 j1 gr sm e5⟩⟩
end
end HL
/-! Fk: what is walked: tuples, ranges, reversed, enumerate, zip, texts. -/
namespace HL
open PySem PySem.Spec PyProof.Rows L2
section
variable {X : Cx} {γ α β δ : Type} [Enc α] [Enc β] [Enc δ] {Ve : Ev γ} {m m1 m2 : Md} {p p1 p2 p3 : Bool} {tg iter a b c : Expr} {pos : Pos} {Z : Fix}
/-- a list that is data stays as it is -/
theorem lst_on {A : AT} {H : Hp} {v : L2.V} {l : List α} (hm : noBo m = true) (rv : Rm Z A Ve H m v (enc l)) : ∃ a vs, v = .ref a ∧ H a = some (.lst vs) ∧ RpA Z.K (hp Z (OwV A Ve) H (frB m)) vs (l.map enc) ∧
    ∀ O' H2, Stt (OwV A Ve) O' H H2 → H2 a = some (.lst vs) := by
  have rv' := rm_frB hm rv
  obtain ⟨a, vs, rfl, e2, e3⟩ := rp_list rv'
  refine ⟨a, vs, rfl, hp_le _ _ e2, e3, fun O' H2 st => ?_⟩
  have e4 := stt_hp st _ _ e2
  exact hp_le _ _ e4
theorem tup_on {A : AT} {H : Hp} {v : L2.V} {ds : List D} (hm : noBo m = true) (rv : Rm Z A Ve H m v (.tuple ds)) : ∃ a vs, v = .ref a ∧ SqT Z.K H a vs ∧ RpA Z.K (hp Z (OwV A Ve) H (frB m)) vs ds ∧
    ∀ O' H2, Stt (OwV A Ve) O' H H2 → SqT Z.K H2 a vs := by
  have rv' := rm_frB hm rv
  obtain ⟨a, vs, rfl, e2, e3⟩ := rp_tuple rv'
  refine ⟨a, vs, rfl, sqT_same hp_le e2, e3, fun O' H2 st => ?_⟩
  exact sqT_same hp_le (sqT_same (stt_hp st) e2)
theorem hp_none {O O' : Addr → Prop} {H H2 : Hp} {bb : Bool} {T : Addr} (st : Stt O O' H H2) (hT : H2 T = none) : hp Z O H bb T = none := by
  cases e : hp Z O H bb T with
  | none => rfl
  | some o =>
    have := hp_le _ _ (stt_hp st _ _ e)
    rw [hT] at this
    cases this
/-- over a tuple -/
theorem i_tup {f : Ac γ β} (mk : β → List α) (h : SE X Ve m p iter f) (hmk : ∀ x, enc x = .tuple ((mk x).map enc) := by exact fun _ => rfl) (hm : noBo m = true := by rfl) : SI X Ve (frB m) p tg iter (op1 (fun x => some (mk x)) f) := ⟨fun Z W hK tk => (pi_tup (h.run Z W hK tk)).weak fun σ H R q => by
  obtain ⟨g, A, j, q⟩ := q
  refine ⟨g, A, j, ?_⟩
  unfold op1 bindA optA at q
  cases ef : f g with
  | bad => simp only [ef] at q
  | exc x g1 => simp only [ef] at q; exact q
  | ok x g1 =>
    simp only [ef] at q
    intro v H1 j1 gr sm rv
    rw [hmk] at rv
    obtain ⟨a, vs, rfl, e1, e3, on⟩ := tup_on hm rv
    rw [hK] at e1 on e3
    refine ⟨a, rfl, ⟨vs, e1⟩, q _ H1 j1 gr sm fun O' H2 st i => ?_⟩
    have e5 := on _ _ st
    have el := e3.length
    rw [hK]
    refine ⟨fun hi => ?_, fun hi => ⟨vs, e5, by omega⟩, fun x H3 d y hd => ?_⟩
    · obtain ⟨d, hd⟩ : ∃ d, ((mk x).map enc)[i]? = some d := ⟨_, List.getElem?_eq_getElem hi⟩
      obtain ⟨v, hv, _⟩ := e3.get hd
      exact ⟨vs, v, e5, hv⟩
    · obtain ⟨rfl, y⟩ := y
      obtain ⟨v, hv, rv⟩ := e3.get hd
      have := y vs e5
      rw [hv] at this
      cases this
      exact ⟨Same.refl _, Rp.mono un_le _ rv⟩⟩
def tl2 {α : Type} (p : α × α) : List α := [p.1, p.2]
def tl3 {α : Type} (p : T3 α α α) : List α := [p.a, p.b, p.c]
def tl4 {α : Type} (p : T4 α α α α) : List α := [p.a, p.b, p.c, p.d]
def tl5 {α : Type} (p : T5 α α α α α) : List α := [p.a, p.b, p.c, p.d, p.e]
/-- range(a, b) -/
theorem i_rng2 {f h : Ac γ Int} {p0 pos : Pos} (hx : X.mg "range" = none) (ha : SE X Ve m1 p1 a f) (hb : SE X Ve m2 p2 b h) (hm : okM m1 p2 = true := by rfl) (hg : Gl X "range" := by rfl) (hs : starEach [a, b] X.env = [(false, eval a X.env), (false, eval b X.env)] := by rfl) (hs2 : starEach [b] X.env = [(false, eval b X.env)] := by rfl) : SI X Ve true (p1 && p2) tg (.Call (.Name "range" p0) [a, b] [] pos) (op2 rng2 f h) :=
  ⟨fun Z W hK tk => (pi_range2 hg hx (pa_cons (ha.run Z W hK tk) (pa_cons (hb.run Z W hK tk) pa_nil hs2) (by rw [hs, hs2])) hs hs2).weak fun σ H R q => by
  obtain ⟨g, A, j, q⟩ := q
  refine ⟨g, A, j, ?_⟩
  unfold op2 bindA optA at q
  cases ef : f g with
  | bad => simp only [ef] at q
  | exc x g1 => simp only [ef] at q; exact q
  | ok n g1 =>
    simp only [ef] at q
    intro v H1 j1 gr sm rv
    cases rp_int rv.full
    refine ⟨g1, A, j1, ?_⟩
    cases eh : h g1 with
    | bad => simp only [eh] at q
    | exc x g2 =>
      simp only [eh] at q
      exact fun c H' mc j' gr' => q c H' mc j' (gr.trans gr')
    | ok k g2 =>
      simp only [eh] at q
      intro w H2 j2 gr2 sm2 rw2
      cases rp_int rw2.full
      unfold rng2 at q
      by_cases hn : (-(2 ^ 62) ≤ n ∧ n < 2 ^ 62) ∧ -(2 ^ 62) ≤ k ∧ k < 2 ^ 62
      · rw [if_pos hn] at q
        exact ⟨n, k, rfl, ⟨hn.1.1, hn.1.2, hn.2.1, hn.2.2⟩, q _ H2 j2 (gr.trans gr2) (fun z => (sm (Bool.and_eq_true_iff.mp z).1).trans (sm2 (Bool.and_eq_true_iff.mp z).2)) it_rng⟩
      · rw [if_neg hn] at q
        exact q.elim⟩
def revQ {α : Type} (l : List α) : Option (List α) := some l.reverse
/-- reversed(list) -/
theorem i_rev {f : Ac γ (List α)} {p0 pos : Pos} (hx : X.mg "reversed" = none) (h : SE X Ve m p a f) (hm : noBo m = true := by rfl) (hg : Gl X "reversed" := by rfl) (hs : starEach [a] X.env = [(false, eval a X.env)] := by rfl) : SI X Ve (frB m) p tg (.Call (.Name "reversed" p0) [a] [] pos) (op1 revQ f) :=
  ⟨fun Z W hK tk => (pi_reversed hg hx (pa_cons (h.run Z W hK tk) pa_nil hs) hs).weak fun σ H R q => by
  obtain ⟨g, A, j, q⟩ := q
  refine ⟨g, A, j, ?_⟩
  unfold op1 bindA optA revQ at q
  cases ef : f g with
  | bad => simp only [ef] at q
  | exc x g1 => simp only [ef] at q; exact q
  | ok l g1 =>
    simp only [ef] at q
    intro v H1 j1 gr sm rv
    obtain ⟨a, vs, rfl, e1, e3, on⟩ := lst_on hm rv
    have el := e3.length
    rw [List.length_map] at el
    refine ⟨a, vs, rfl, seqL e1, q _ H1 j1 gr sm fun O' H2 st i => ?_⟩
    have e5 := on _ _ st
    have hl : (l.reverse.map enc).length = vs.length := by rw [List.length_map, List.length_reverse, el]
    rw [hl]
    refine ⟨fun hi => ⟨hi, vs, vs[vs.length - 1 - i], seqL e5, List.getElem?_eq_getElem (by omega)⟩, fun hi => hi, fun x H3 d y hd => ?_⟩
    obtain ⟨rfl, y⟩ := y
    have hi : i < vs.length := by
      have := (List.getElem?_eq_some_iff.mp hd).1
      rw [hl] at this
      exact this
    rw [List.map_reverse, List.getElem?_reverse (by rw [List.length_map]; omega), List.length_map, ← el] at hd
    obtain ⟨v, hv, rv⟩ := e3.get hd
    have := y vs (seqL e5)
    rw [hv] at this
    cases this
    exact ⟨Same.refl _, Rp.mono un_le _ rv⟩⟩
def enumL {α : Type} (l : List α) : List (Int × α) := l.zipIdx.map fun q => ((q.2 : Int), q.1)
theorem enumL_get {α : Type} {l : List α} {i : Nat} : (enumL l)[i]? = (l[i]?).map fun a => ((i : Int), a) := by
  unfold enumL
  rw [List.getElem?_map, List.getElem?_zipIdx]
  cases l[i]? with
  | none => rfl
  | some a => simp
theorem enumL_length {α : Type} {l : List α} : (enumL l).length = l.length := by
  unfold enumL
  rw [List.length_map, List.length_zipIdx]
def enumQ {α : Type} (l : List α) : Option (List (Int × α)) := some (enumL l)
/-- enumerate(list) -/
theorem i_enum {f : Ac γ (List α)} {p0 pos tpos : Pos} {elts : List Expr} {kk : Nat} (hx : X.mg "enumerate" = none) (h : SE X Ve m p a f) (hm : noBo m = true := by rfl) (hg : Gl X "enumerate" := by rfl) (hs : starEach [a] X.env = [(false, eval a X.env)] := by rfl) : SI X Ve (frB m) p (.Tuple elts kk tpos) (.Call (.Name "enumerate" p0) [a] [] pos) (op1 enumQ f) :=
  ⟨fun Z W hK tk => (pi_enum hg hx (pa_cons (h.run Z W hK tk) pa_nil hs) hs).weak fun σ H R q => by
  obtain ⟨g, A, j, q⟩ := q
  refine ⟨g, A, j, ?_⟩
  unfold op1 bindA optA enumQ at q
  cases ef : f g with
  | bad => simp only [ef] at q
  | exc x g1 => simp only [ef] at q; exact q
  | ok l g1 =>
    simp only [ef] at q
    intro v H1 j1 gr sm rv
    obtain ⟨a, vs, rfl, e1, e3, on⟩ := lst_on hm rv
    have el := e3.length
    rw [List.length_map] at el
    refine ⟨a, vs, rfl, seqL e1, q _ H1 j1 gr sm fun O' H2 st i => ?_⟩
    have e5 := on _ _ st
    have hl : ((enumL l).map enc).length = vs.length := by rw [List.length_map, enumL_length, el]
    rw [hl]
    refine ⟨fun hi => ⟨vs, vs[i], seqL e5, List.getElem?_eq_getElem hi⟩, fun hi => ⟨vs, seqL e5, hi⟩, fun x H3 d y hd => ?_⟩
    obtain ⟨T, x', rfl, hT, rfl, y⟩ := y
    rw [List.getElem?_map, enumL_get, Option.map_map] at hd
    cases ea : l[i]? with
    | none => rw [ea] at hd; cases hd
    | some al =>
      rw [ea] at hd
      cases hd
      obtain ⟨v, hv, rv⟩ := e3.get (by rw [List.getElem?_map, ea]; rfl)
      have := y vs (seqL e5)
      rw [hv] at this
      cases this
      exact ⟨same_new hT, .tup (un_new hT (hp_none st hT) upd_same) (.cons (.int _) (.cons (Rp.mono un_le _ rv) .nil))⟩⟩
def zipQ {α β : Type} (l : List α) (k : List β) : Option (List (α × β)) := some (l.zip k)
/-- zip(list, list) -/
theorem i_zip {f : Ac γ (List α)} {h : Ac γ (List β)} {p0 pos tpos : Pos} {elts : List Expr} {kk : Nat} (hx : X.mg "zip" = none) (ha : SE X Ve m1 p1 a f) (hb : SE X Ve m2 p2 b h) (hm : okM m1 p2 = true := by rfl) (hm1 : noBo m1 = true := by rfl) (hm2 : noBo m2 = true := by rfl) (hg : Gl X "zip" := by rfl) (hs : starEach [a, b] X.env = (false, eval a X.env) :: starEach [b] X.env := by rfl) (hs2 : starEach [b] X.env = (false, eval b X.env) :: starEach [] X.env := by rfl) (hpl : (backTo pos (starEach [b] X.env)).any (·.1) = false := by rfl) :
    SI X Ve (frB m1 && frB m2) (p1 && p2) (.Tuple elts kk tpos) (.Call (.Name "zip" p0) [a, b] [] pos) (op2 zipQ f h) :=
  ⟨fun Z W hK tk => (pi_zip hg hx (pa_cons (ha.run Z W hK tk) (pa_cons (hb.run Z W hK tk) pa_nil hs2) hs) hs hpl).weak fun σ H R q => by
  obtain ⟨g, A, j, q⟩ := q
  refine ⟨g, A, j, ?_⟩
  unfold op2 bindA optA zipQ at q
  cases ef : f g with
  | bad => simp only [ef] at q
  | exc x g1 => simp only [ef] at q; exact q
  | ok l g1 =>
    simp only [ef] at q
    intro v H1 j1 gr sm rv
    refine ⟨g1, A, j1, ?_⟩
    cases eh : h g1 with
    | bad => simp only [eh] at q
    | exc x g2 =>
      simp only [eh] at q
      exact fun c H' mc j' gr' => q c H' mc j' (gr.trans gr')
    | ok k g2 =>
      simp only [eh] at q
      intro w H2 j2 gr2 sm2 rw2
      have rv2 := rv.step gr2 sm2 hm
      obtain ⟨a, vs, rfl, e1, e3, on⟩ := lst_on hm1 rv2
      obtain ⟨a', vs', rfl, e1', e3', on'⟩ := lst_on hm2 rw2
      have el := e3.length
      have el' := e3'.length
      rw [List.length_map] at el el'
      refine ⟨a, a', vs, vs', rfl, seqL e1, seqL e1', q _ H2 j2 (gr.trans gr2) (fun z => (sm (Bool.and_eq_true_iff.mp z).1).trans (sm2 (Bool.and_eq_true_iff.mp z).2)) fun O' H3 st i => ?_⟩
      have e5 := on _ _ st
      have e5' := on' _ _ st
      have hl : ((l.zip k).map enc).length = min vs.length vs'.length := by rw [List.length_map, List.length_zip, el, el']
      rw [hl]
      refine ⟨fun hi => ⟨vs, vs', vs[i], vs'[i], seqL e5, seqL e5', List.getElem?_eq_getElem (by omega), List.getElem?_eq_getElem (by omega)⟩, fun hi => ⟨vs, vs', seqL e5, seqL e5', by omega⟩, fun x H4 d y hd => ?_⟩
      obtain ⟨T, x', y', rfl, hT, rfl, y1, y2⟩ := y
      have hi : i < min vs.length vs'.length := by
        have := (List.getElem?_eq_some_iff.mp hd).1
        rw [hl] at this
        exact this
      have ea : l[i]? = some l[i] := List.getElem?_eq_getElem (by omega)
      have eb : k[i]? = some k[i] := List.getElem?_eq_getElem (by omega)
      have ez : (l.zip k)[i]? = some (l[i], k[i]) := List.getElem?_zip_eq_some.mpr ⟨ea, eb⟩
      rw [List.getElem?_map, ez] at hd
      cases hd
      obtain ⟨v, hv, rv⟩ := e3.get (by rw [List.getElem?_map, ea]; rfl)
      obtain ⟨v', hv', rv'⟩ := e3'.get (by rw [List.getElem?_map, eb]; rfl)
      have t1 := y1 vs (seqL e5)
      have t2 := y2 vs' (seqL e5')
      rw [hv] at t1
      rw [hv'] at t2
      cases t1
      cases t2
      have le1 : Same (hp Z (OwV A Ve) H2 (frB m1)) (hp Z (OwV A Ve) H2 (frB m1 && frB m2)) := by
        cases frB m1 with
        | true => cases frB m2 with
          | true => exact Same.refl _
          | false => exact gh_fh
        | false => exact Same.refl _
      have le2 : Same (hp Z (OwV A Ve) H2 (frB m2)) (hp Z (OwV A Ve) H2 (frB m1 && frB m2)) := by
        cases frB m1 with
        | true => exact Same.refl _
        | false => cases frB m2 with
          | true => exact gh_fh
          | false => exact Same.refl _
      exact ⟨same_new hT, .tup (un_new hT (hp_none st hT) upd_same) (.cons (Rp.mono (le1.trans un_le) _ rv) (.cons (Rp.mono (le2.trans un_le) _ rv') .nil))⟩⟩
end
/-! ### what the defs take: free built-in names, classes of refusals -/
structure Bi (mg : Str → Option Value) : Prop where
  len : mg "len" = none
  abs : mg "abs" = none
  max : mg "max" = none
  min : mg "min" = none
  int : mg "int" = none
  sum : mg "sum" = none
  all : mg "all" = none
  any : mg "any" = none
  list : mg "list" = none
  tuple : mg "tuple" = none
  sorted : mg "sorted" = none
  set : mg "set" = none
  range : mg "range" = none
  enumerate : mg "enumerate" = none
  zip : mg "zip" = none
  reversed : mg "reversed" = none
  isinstance : mg "isinstance" = none
  divmod : mg "divmod" = none
  str : mg "str" = none
  bool : mg "bool" = none
  dict : mg "dict" = none
  repr : mg "repr" = none
structure XCls (K : PySem.W.Frag) (mg : Str → Option Value) (x : Str) : Prop where
  ex : ∃ C : Addr, mg x = some (.ref C) ∧ PySem.W.excIn K C [.type "ValueError", .type "Exception", .type "BaseException", .type "object"] "ValueError.__new__" = true ∧ PySem.W.keepIn K (.ref C) = true ∧ PySem.W.subIn K (.ref C) (.type "BaseException") = some true ∧ PySem.W.typeIn K (.ref C) = some (.type "type")
theorem XCls.of {K : PySem.W.Frag} {mg : Str → Option Value} {x : Str} {C : Addr} (h : mg x = some (.ref C)) (e : PySem.W.excIn K C [.type "ValueError", .type "Exception", .type "BaseException", .type "object"] "ValueError.__new__" = true ∧ PySem.W.keepIn K (.ref C) = true ∧ PySem.W.subIn K (.ref C) (.type "BaseException") = some true ∧ PySem.W.typeIn K (.ref C) = some (.type "type")) : XCls K mg x := ⟨C, h, e⟩
theorem x_raise {X : Cx} {γ β : Type} {C : FC γ β} {xj : XJ γ} {Ve Ve' : Ev γ} {x m : Str} {jj : Nat} {p p2 pos pos2 : Pos} (hx : XOk xj Ve) (hc : X.calm = true) (c : XCls X.K X.mg x) (hg : Gl X x := by rfl) (hdb : (x == ("__debug__" : Str)) = false := by decide) :
    SS X C xj Ve Ve' (.Raise (some (.Call (.Name x p) [.Constant (.str m) jj p2] [] pos)) none pos2) (raiseS x) := by
  obtain ⟨_, h, a1, a2, a3, a4⟩ := c.ex
  exact c_raise hx hc a1 h a2 a3 a4 hg hdb
def CXw (P : Program) : CXT := fun outer H s E u s' => ∃ w, L2.CX P w outer H s E u s'
theorem no_exc {P : Program} {H : Hp} {s s' : Shared} {e : Value} (h : CXw P [] H s (fun _ _ _ => False) e s') : False := by
  obtain ⟨_, _, _, _, _, _, _, _, _, _, _, _, _, z⟩ := h
  exact z
theorem cxw {P : Program} {w : World} {K : PySem.W.Frag} {mg : Str → Option Value} {base : Heap} {k : Nat} {f : Addr} {fd : FuncData} {ps : List Str} {sp : Sp} (F : FnOk P w K mg base (L2.CX P w) k f fd ps sp) : FnOk P w K mg base (CXw P) k f fd ps sp :=
  ⟨F.len, fun A outer s H args us vs Q E hr he hb hv hs => codeAny_mono (F.run A outer s H args us vs Q E hr he hb hv hs) fun r s' c => by
    unfold CR at c ⊢
    split <;> simp_all
    exact ⟨w, c⟩⟩
/-- the law's promise at a script -/
theorem law_says {K : PySem.W.Frag} {mg : Str → Option Value} {F : List Int × Unit → FRes Bool Unit} {pa : List Int × Unit → List Par} (hpa : ∀ a, pa a = [.scr a.1]) {ns : List Int} (hF : F (ns, ()) = .ok true ()) {H : Hp} {a : Addr} (hS : SqL K H a (ns.map V.int)) :
    spOf K mg .fr pa enc (fun _ => []) F [.ref a] H (fun v _ => v = .bl true) fun _ _ _ => False := by
  refine spOf_mk (a := (ns, ())) (noT_b (by rw [hpa]; rfl)) ⟨fun _ => False, fun x z => z.elim, ?_, ?_, ?_⟩
  · rw [hpa]
    exact ⟨⟨a, rfl, sqL_same (fun x o e => hide_mk (fun z => z) e) hS⟩, trivial⟩
  · rw [hpa]
    exact fun i j x h => nomatch h
  · rw [hF]
    intro v H' c
    have r : Rp K (hide (fun a => Mut (H a)) H') v (enc true) := c.ret
    exact rp_bl r
end HL
/-! Fl: what is known behind an action: the plain side. -/
namespace HL
open PySem PySem.Spec PyProof.Rows L2

section
variable {γ α β δ ε τ ι : Type}
def Res.post (r : Res γ α) (Q : α → γ → Prop) (X : Str → γ → Prop) : Prop := match r with
  | .ok a g => Q a g
  | .exc x g => X x g
  | .bad => False
def SRes.post (r : SRes γ β) (N : γ → Prop) (R : β → γ → Prop) (X : Str → γ → Prop) : Prop := match r with
  | .nx g => N g
  | .rt b g => R b g
  | .exc x g => X x g
  | .bad => False
def FRes.post (r : FRes β ι) (Q : β → ι → Prop) (X : Str → Prop) : Prop := match r with
  | .ok b i => Q b i
  | .exc x => X x
  | .bad => False
/-- no exception -/
def nX {γ : Type} : Str → γ → Prop := fun _ _ => False
def nXF : Str → Prop := fun _ => False
def opt (o : Option α) (Q : α → Prop) : Prop := match o with
  | some a => Q a
  | none => False
theorem rImp {r : Res γ α} {Q Q' : α → γ → Prop} {X X' : Str → γ → Prop} (h : r.post Q X) (hq : ∀ a g, Q a g → Q' a g) (hx : ∀ x g, X x g → X' x g) : r.post Q' X' := by
  cases r with
  | ok a g => exact hq _ _ h
  | exc x g => exact hx _ _ h
  | bad => exact h
theorem sImp {r : SRes γ β} {N N' : γ → Prop} {R R' : β → γ → Prop} {X X' : Str → γ → Prop} (h : r.post N R X) (hn : ∀ g, N g → N' g) (hr : ∀ a g, R a g → R' a g) (hx : ∀ x g, X x g → X' x g) : r.post N' R' X' := by
  cases r with
  | nx g => exact hn _ h
  | rt a g => exact hr _ _ h
  | exc x g => exact hx _ _ h
  | bad => exact h
theorem fImp {r : FRes β ι} {Q Q' : β → ι → Prop} {X X' : Str → Prop} (h : r.post Q X) (hq : ∀ a g, Q a g → Q' a g) (hx : ∀ x, X x → X' x) : r.post Q' X' := by
  cases r with
  | ok a g => exact hq _ _ h
  | exc x => exact hx _ h
  | bad => exact h
/-- .. with no exception -/
theorem fUse {r : FRes β ι} {Q Q' : β → ι → Prop} {X' : Str → Prop} (h : r.post Q nXF) (hq : ∀ a g, Q a g → Q' a g) : r.post Q' X' := fImp h hq fun x z => z.elim
theorem rUse {r : Res γ α} {Q Q' : α → γ → Prop} {X' : Str → γ → Prop} (h : r.post Q nX) (hq : ∀ a g, Q a g → Q' a g) : r.post Q' X' := rImp h hq fun x g z => z.elim
theorem sUse {r : SRes γ β} {N N' : γ → Prop} {R R' : β → γ → Prop} {X' : Str → γ → Prop} (h : r.post N R nX) (hn : ∀ g, N g → N' g) (hr : ∀ a g, R a g → R' a g) : r.post N' R' X' := sImp h hn hr fun x g z => z.elim
theorem FRes.post_eq {r : FRes β ι} {b : β} {i : ι} (h : r.post (fun x y => x = b ∧ y = i) nXF) : r = .ok b i := by
  cases r with
  | ok a g => obtain ⟨rfl, rfl⟩ := h; rfl
  | exc x => exact h.elim
  | bad => exact h.elim
theorem FRes.eq_post {r : FRes β ι} {b : β} {i : ι} {Q : β → ι → Prop} {X : Str → Prop} (h : r = .ok b i) (q : Q b i) : r.post Q X := by rw [h]; exact q

/-! ### expressions -/
variable {Q : α → γ → Prop} {X : Str → γ → Prop} {g : γ}
theorem p_pure {x : γ → α} : (pureA x g).post Q X ↔ Q (x g) g := Iff.rfl
theorem p_bind {f : Ac γ α} {k : α → Ac γ β} {Q : β → γ → Prop} : (bindA f k g).post Q X ↔ (f g).post (fun a g1 => (k a g1).post Q X) X := by
  unfold bindA
  cases f g <;> exact Iff.rfl
theorem p_opt {o : Option α} : (optA (γ := γ) o g).post Q X ↔ opt o fun a => Q a g := by
  unfold optA
  cases o <;> exact Iff.rfl
theorem p_op1 {k : α → Option β} {f : Ac γ α} {Q : β → γ → Prop} : (op1 k f g).post Q X ↔ (f g).post (fun a g1 => opt (k a) fun b => Q b g1) X := by
  unfold op1
  rw [p_bind]
  simp only [p_opt]
theorem p_op2 {k : α → β → Option δ} {f : Ac γ α} {h : Ac γ β} {Q : δ → γ → Prop} : (op2 k f h g).post Q X ↔ (f g).post (fun a g1 => (h g1).post (fun b g2 => opt (k a b) fun c => Q c g2) X) X := by
  unfold op2
  rw [p_bind]
  simp only [p_bind, p_opt]
theorem p_op3 {k : α → β → δ → Option ε} {f : Ac γ α} {h : Ac γ β} {l : Ac γ δ} {Q : ε → γ → Prop} : (op3 k f h l g).post Q X ↔ (f g).post (fun a g1 => (h g1).post (fun b g2 => (l g2).post (fun c g3 => opt (k a b c) fun d => Q d g3) X) X) X := by
  unfold op3
  rw [p_bind]
  simp only [p_bind, p_opt]
theorem p_and {f h : Ac γ Bool} {Q : Bool → γ → Prop} : (andA f h g).post Q X ↔ (f g).post (fun b g1 => if b = true then (h g1).post Q X else Q false g1) X := by
  unfold andA
  rw [p_bind]
  apply iff_of_eq
  congr 1
  funext b g1
  cases b <;> rfl
theorem p_or {f h : Ac γ Bool} {Q : Bool → γ → Prop} : (orA f h g).post Q X ↔ (f g).post (fun b g1 => if b = true then Q true g1 else (h g1).post Q X) X := by
  unfold orA
  rw [p_bind]
  apply iff_of_eq
  congr 1
  funext b g1
  cases b <;> rfl
theorem p_not {f : Ac γ Bool} {Q : Bool → γ → Prop} : (notA f g).post Q X ↔ (f g).post (fun b g1 => Q (!b) g1) X := by
  unfold notA
  rw [p_op1]
  exact Iff.rfl
theorem p_ite {c : Ac γ Bool} {f h : Ac γ α} : (iteA c f h g).post Q X ↔ (c g).post (fun b g1 => if b = true then (f g1).post Q X else (h g1).post Q X) X := by
  unfold iteA
  rw [p_bind]
  apply iff_of_eq
  congr 1
  funext b g1
  cases b <;> rfl
theorem p_pair {f : Ac γ α} {h : Ac γ τ} {Q : α × τ → γ → Prop} : (pairA f h g).post Q X ↔ (f g).post (fun a g1 => (h g1).post (fun b g2 => Q (a, b) g2) X) X := by
  unfold pairA
  rw [p_bind]
  simp only [p_bind, p_pure]
theorem p_scr {x : γ → List Int} {k : List Int → Option δ} {Q : δ → γ → Prop} : (scrOp x k g).post Q X ↔ opt (k (x g)) fun d => Q d g := by
  unfold scrOp
  cases k (x g) <;> exact Iff.rfl
theorem p_ixO {x : γ → List α} {h : Ac γ Int} : (ixO x h g).post Q X ↔ (h g).post (fun k g1 => opt (atI (x g1) k) fun d => Q d g1) X := by
  unfold ixO
  rw [p_bind]
  apply iff_of_eq
  congr 1
  funext k g1
  cases atI (x g1) k <;> rfl
theorem p_sl {f : Ac γ (List α)} {l h : Ac γ (Option Int)} {Q : List α → γ → Prop} : (slA f l h g).post Q X ↔ (f g).post (fun x g1 => (l g1).post (fun lo g2 => (h g2).post (fun hi g3 => Q (cut lo hi x) g3) X) X) X := by
  unfold slA
  rw [p_bind]
  simp only [p_bind, p_pure]
theorem p_call {args : γ → τ → α} {F : α → FRes β ι} {fA : Ac γ τ} {Q : β → γ → Prop} : (callA args F fA g).post Q X ↔ (fA g).post (fun t g1 => (F (args g1 t)).post (fun b _ => Q b g1) fun x => X x g1) X := by
  unfold callA
  rw [p_bind]
  apply iff_of_eq
  congr 1
  funext t g1
  cases F (args g1 t) <;> rfl
theorem p_callIo {args : γ → τ → α} {put : γ → ι → γ} {F : α → FRes β ι} {fA : Ac γ τ} {Q : β → γ → Prop} : (callIo args put F fA g).post Q X ↔ (fA g).post (fun t g1 => (F (args g1 t)).post (fun b i => Q b (put g1 i)) nXF) X := by
  unfold callIo
  rw [p_bind]
  apply iff_of_eq
  congr 1
  funext t g1
  cases F (args g1 t) <;> rfl
theorem p_comp {f : Ac γ (List α)} {set : γ → α → γ} {c : Ac γ Bool} {e : Ac γ δ} {Q : List δ → γ → Prop} : (compA f set c e g).post Q X ↔ (f g).post (fun l g1 => l.length ≤ LIM ∧ (compR set c e l g1).post Q X) X := by
  unfold compA
  rw [p_bind]
  apply iff_of_eq
  congr 1
  funext l g1
  by_cases h : l.length ≤ LIM
  · simp only [h, if_true, true_and]
  · simp only [h, if_false, false_and]
    rfl

/-! ### what the operators give -/
theorem o_some' {a : α} {Q : α → Prop} : opt (some a) Q ↔ Q a := Iff.rfl
theorem o_ite {c : Prop} [Decidable c] {a : α} {Q : α → Prop} : opt (if c then some a else none) Q ↔ c ∧ Q a := by
  by_cases h : c
  · simp only [h, if_true, true_and]; exact Iff.rfl
  · simp only [h, if_false, false_and]; exact Iff.rfl
def MulOk (a b : Int) : Prop := a.natAbs.log2 + b.natAbs.log2 < 1000000
def DivOk (b : Int) : Prop := b ≠ 0 ∧ b.natAbs.log2 < 9000
theorem o_add {a b : Int} {Q : Int → Prop} : opt (addI a b) Q ↔ Q (a + b) := Iff.rfl
theorem o_sub {a b : Int} {Q : Int → Prop} : opt (subI a b) Q ↔ Q (a - b) := Iff.rfl
theorem o_mul {a b : Int} {Q : Int → Prop} : opt (mulI a b) Q ↔ MulOk a b ∧ Q (a * b) := o_ite
theorem o_fdiv {a b : Int} {Q : Int → Prop} : opt (fdivI a b) Q ↔ DivOk b ∧ Q (a.fdiv b) := o_ite
theorem o_mod {a b : Int} {Q : Int → Prop} : opt (modI a b) Q ↔ b ≠ 0 ∧ Q (a.fmod b) := o_ite
theorem o_pow {a b : Int} {Q : Int → Prop} : opt (powI a b) Q ↔ (0 ≤ b ∧ b ≤ 1000000 ∧ a.natAbs < 2 ^ 64) ∧ Q (a ^ b.toNat) := o_ite
theorem o_lt {a b : Int} {Q : Bool → Prop} : opt (ltI a b) Q ↔ Q (decide (a < b)) := Iff.rfl
theorem o_le {a b : Int} {Q : Bool → Prop} : opt (leI a b) Q ↔ Q (decide (a ≤ b)) := Iff.rfl
theorem o_gt {a b : Int} {Q : Bool → Prop} : opt (gtI a b) Q ↔ Q (decide (b < a)) := Iff.rfl
theorem o_ge {a b : Int} {Q : Bool → Prop} : opt (geI a b) Q ↔ Q (decide (b ≤ a)) := Iff.rfl
theorem o_neg {a : Int} {Q : Int → Prop} : opt (negI a) Q ↔ Q (-a) := Iff.rfl
theorem o_eq [DecidableEq α] {a b : α} {Q : Bool → Prop} : opt (eqQ a b) Q ↔ Q (decide (a = b)) := Iff.rfl
theorem o_ne [DecidableEq α] {a b : α} {Q : Bool → Prop} : opt (neQ a b) Q ↔ Q (!decide (a = b)) := Iff.rfl
theorem o_len {l : List α} {Q : Int → Prop} : opt (lenQ l) Q ↔ Q (l.length : Int) := Iff.rfl
theorem o_abs {a : Int} {Q : Int → Prop} : opt (absQ a) Q ↔ Q (a.natAbs : Int) := by
  have : (if a < 0 then -a else a) = (a.natAbs : Int) := by split <;> omega
  unfold absQ
  rw [this]
  exact Iff.rfl
theorem o_max {a b : Int} {Q : Int → Prop} : opt (max2Q a b) Q ↔ Q (max a b) := by
  have : (if b > a then b else a) = max a b := by split <;> omega
  unfold max2Q
  rw [this]
  exact Iff.rfl
theorem o_min {a b : Int} {Q : Int → Prop} : opt (min2Q a b) Q ↔ Q (min a b) := by
  have : (if b < a then b else a) = min a b := by split <;> omega
  unfold min2Q
  rw [this]
  exact Iff.rfl
theorem o_intB {a : Bool} {Q : Int → Prop} : opt (intB a) Q ↔ Q (b2i a) := Iff.rfl
theorem o_sum {l : List Int} {Q : Int → Prop} : opt (sumQ l) Q ↔ Q l.sum := Iff.rfl
theorem o_all {l : List Bool} {Q : Bool → Prop} : opt (allQ l) Q ↔ Q (l.all id) := Iff.rfl
theorem o_any {l : List Bool} {Q : Bool → Prop} : opt (anyQ l) Q ↔ Q (l.any id) := Iff.rfl
theorem o_list {l : List α} {Q : List α → Prop} : opt (listQ l) Q ↔ Q l := Iff.rfl
theorem o_cat {l k : List α} {Q : List α → Prop} : opt (catQ l k) Q ↔ l.length + k.length ≤ 1000000 ∧ Q (l ++ k) := o_ite
theorem o_rev {l : List α} {Q : List α → Prop} : opt (revQ l) Q ↔ Q l.reverse := Iff.rfl
theorem o_enum {l : List α} {Q : List (Int × α) → Prop} : opt (enumQ l) Q ↔ Q (enumL l) := Iff.rfl
theorem o_zip {l : List α} {k : List β} {Q : List (α × β) → Prop} : opt (zipQ l k) Q ↔ Q (l.zip k) := Iff.rfl
theorem o_countI {l : List Int} {k : Int} {Q : Int → Prop} : opt (countI l k) Q ↔ Q (l.count k : Nat) := Iff.rfl
theorem o_rng1 {n : Int} {Q : List Int → Prop} : opt (rng1 n) Q ↔ (-(2 ^ 62) ≤ n ∧ n < 2 ^ 62) ∧ Q (rangeL 0 n.toNat) := by
  unfold rng1
  exact o_ite
theorem o_rng2 {a n : Int} {Q : List Int → Prop} : opt (rng2 a n) Q ↔ ((-(2 ^ 62) ≤ a ∧ a < 2 ^ 62) ∧ -(2 ^ 62) ≤ n ∧ n < 2 ^ 62) ∧ Q (rangeL a (n - a).toNat) := by
  unfold rng2
  exact o_ite
theorem at_nat {l : List α} {i : Nat} : atI l (i : Int) = l[i]? := by
  unfold atI ixN
  rw [if_pos (Int.natCast_nonneg i)]
  by_cases h : i < l.length
  · rw [if_pos (by omega)]
    simp
  · rw [if_neg (by omega)]
    simp [List.getElem?_eq_none (Nat.le_of_not_lt h)]
theorem at_int {l : List α} {k : Int} (h : 0 ≤ k) : atI l k = l[k.toNat]? := by
  have := at_nat (l := l) (i := k.toNat)
  rwa [Int.toNat_of_nonneg h] at this
/-- a place within -/
theorem at_mem {l : List α} {k : Int} (h : 0 ≤ k) (h2 : k < l.length) : ∃ a, atI l k = some a ∧ a ∈ l := by
  rw [at_int h]
  have : k.toNat < l.length := by omega
  exact ⟨l[k.toNat], List.getElem?_eq_getElem this, List.getElem_mem this⟩
theorem o_at {l : List α} {k : Int} {Q : α → Prop} (h : 0 ≤ k) (h2 : k < l.length) (q : ∀ a ∈ l, Q a) : opt (atI l k) Q := by
  obtain ⟨a, e, m⟩ := at_mem h h2
  rw [e]
  exact q a m
theorem o_at0 {a : α} {l : List α} {Q : α → Prop} : opt (atI (a :: l) 0) Q ↔ Q a := by
  have : atI (a :: l) 0 = some a := at_nat (l := a :: l) (i := 0)
  rw [this]
  exact Iff.rfl
theorem o_at1 {a b : α} {l : List α} {Q : α → Prop} : opt (atI (a :: b :: l) 1) Q ↔ Q b := by
  have : atI (a :: b :: l) 1 = some b := at_nat (l := a :: b :: l) (i := 1)
  rw [this]
  exact Iff.rfl
theorem o_at2 {a b c : α} {l : List α} {Q : α → Prop} : opt (atI (a :: b :: c :: l) 2) Q ↔ Q c := by
  have : atI (a :: b :: c :: l) 2 = some c := at_nat (l := a :: b :: c :: l) (i := 2)
  rw [this]
  exact Iff.rfl
theorem set_nat {l : List α} {i : Nat} {a : α} (h : i < l.length) : setAt l (i : Int) a = some (l.set i a) := by
  unfold setAt ixN
  rw [if_pos (Int.natCast_nonneg i), if_pos (by omega)]
  simp
theorem o_set0 {a c : α} {l : List α} {Q : List α → Prop} : opt (setAt (a :: l) 0 c) Q ↔ Q (c :: l) := by
  have : setAt (a :: l) 0 c = some (c :: l) := set_nat (l := a :: l) (i := 0) (a := c) (by simp)
  rw [this]
  exact Iff.rfl
theorem o_set1 {a b c : α} {l : List α} {Q : List α → Prop} : opt (setAt (a :: b :: l) 1 c) Q ↔ Q (a :: c :: l) := by
  have : setAt (a :: b :: l) 1 c = some (a :: c :: l) := set_nat (l := a :: b :: l) (i := 1) (a := c) (by simp)
  rw [this]
  exact Iff.rfl
theorem o_set2 {a b d c : α} {l : List α} {Q : List α → Prop} : opt (setAt (a :: b :: d :: l) 2 c) Q ↔ Q (a :: b :: c :: l) := by
  have : setAt (a :: b :: d :: l) 2 c = some (a :: b :: c :: l) := set_nat (l := a :: b :: d :: l) (i := 2) (a := c) (by simp)
  rw [this]
  exact Iff.rfl

/-! ### statements -/
variable {N : γ → Prop} {R : β → γ → Prop}
theorem q_bind {f h : Sc γ β} : (bindS f h g).post N R X ↔ (f g).post (fun g1 => (h g1).post N R X) R X := by
  unfold bindS
  cases f g <;> exact Iff.rfl
theorem q_do {f : Ac γ α} {k : α → Sc γ β} : (doS f k g).post N R X ↔ (f g).post (fun a g1 => (k a g1).post N R X) X := by
  unfold doS
  cases f g <;> exact Iff.rfl
theorem q_set {set : γ → α → γ} {f : Ac γ α} : (setS (β := β) set f g).post N R X ↔ (f g).post (fun a g1 => N (set g1 a)) X := q_do
theorem q_ret {f : Ac γ β} : (retS f g).post N R X ↔ (f g).post R X := q_do
theorem q_drop {f : Ac γ α} : (dropS (β := β) f g).post N R X ↔ (f g).post (fun _ g1 => N g1) X := q_do
theorem q_if {c : Ac γ Bool} {f h : Sc γ β} : (ifS c f h g).post N R X ↔ (c g).post (fun b g1 => if b = true then (f g1).post N R X else (h g1).post N R X) X := by
  unfold ifS
  rw [q_do]
  apply iff_of_eq
  congr 1
  funext b g1
  cases b <;> rfl
theorem q_nx : (nxS (β := β) g).post N R X ↔ N g := Iff.rfl
theorem q_raise {x : Str} : (raiseS (β := β) x g).post N R X ↔ X x g := Iff.rfl
theorem q_app {get : γ → List α} {put : γ → List α → γ} {f : Ac γ α} : (appS (β := β) get put f g).post N R X ↔ (f g).post (fun a g1 => (get g1).length < LIM ∧ N (put g1 (get g1 ++ [a]))) X := by
  unfold appS
  rw [q_do]
  apply iff_of_eq
  congr 1
  funext a g1
  by_cases h : (get g1).length < LIM
  · simp only [h, if_true, true_and]; rfl
  · simp only [h, if_false, false_and]; rfl
theorem q_ext {get : γ → List α} {put : γ → List α → γ} {f : Ac γ (List α)} : (extS (β := β) get put f g).post N R X ↔ (f g).post (fun a g1 => (get g1).length + a.length < LIM ∧ N (put g1 (get g1 ++ a))) X := by
  unfold extS
  rw [q_do]
  apply iff_of_eq
  congr 1
  funext a g1
  by_cases h : (get g1).length + a.length < LIM
  · simp only [h, if_true, true_and]; rfl
  · simp only [h, if_false, false_and]; rfl
theorem q_six {get : γ → List α} {put : γ → List α → γ} {f : Ac γ α} {h : Ac γ Int} : (sixS (β := β) get put f h g).post N R X ↔ (f g).post (fun a g1 => (h g1).post (fun i g2 => opt (setAt (get g2) i a) fun l => N (put g2 l)) X) X := by
  unfold sixS
  rw [q_do]
  apply iff_of_eq
  congr 1
  funext a g1
  rw [q_do]
  congr 1
  funext i g2
  cases setAt (get g2) i a <;> rfl
theorem q_aug {k : Int → Int → Option Int} {get : γ → Int} {set : γ → Int → γ} {f : Ac γ Int} : (augS (β := β) k get set f g).post N R X ↔ (f g).post (fun b g1 => opt (k (get g) b) fun c => N (set g1 c)) X := by
  unfold augS
  rw [q_do]
  apply iff_of_eq
  congr 1
  funext b g1
  cases k (get g) b <;> rfl
theorem q_augIx {k : Int → Int → Option Int} {get : γ → List Int} {put : γ → List Int → γ} {h f : Ac γ Int} : (augIxS (β := β) k get put h f g).post N R X ↔ (h g).post (fun i g1 => opt (atI (get g1) i) fun x => (f g1).post (fun b g2 => opt (k x b) fun c => opt (setAt (get g2) i c) fun l => N (put g2 l)) X) X := by
  unfold augIxS
  rw [q_do]
  apply iff_of_eq
  congr 1
  funext i g1
  cases atI (get g1) i with
  | none => rfl
  | some x =>
    show (doS f _ g1).post N R X = (f g1).post _ X
    rw [q_do]
    congr 1
    funext b g2
    cases k x b with
    | none => rfl
    | some c =>
      show (match setAt (get g2) i c with | some l => SRes.nx (put g2 l) | none => SRes.bad).post N R X = opt (setAt (get g2) i c) fun l => N (put g2 l)
      cases setAt (get g2) i c <;> rfl
theorem q_for {f : Ac γ (List α)} {set : γ → α → γ} {body : Sc γ β} : (forS f set body g).post N R X ↔ (f g).post (fun l g1 => (forR set body l g1).post N R X) X := q_do
theorem q_fin {body : Sc γ β} {init : τ → γ} {io : γ → ι} {nxr : Option β} {a : τ} {Q : β → ι → Prop} {X : Str → Prop} : (finF body init io nxr a).post Q X ↔ (body (init a)).post (fun g => opt nxr fun b => Q b (io g)) (fun b g => Q b (io g)) fun x _ => X x := by
  unfold finF
  cases body (init a) with
  | nx g => cases nxr <;> exact Iff.rfl
  | rt b g => exact Iff.rfl
  | exc x g => exact Iff.rfl
  | bad => exact Iff.rfl

/-! ### loops -/
/-- an invariant by what is walked and what is left -/
theorem for_inv {set : γ → α → γ} {body : Sc γ β} {l : List α} (I : List α → List α → γ → Prop) (h0 : I [] l g) (hN : ∀ g, I l [] g → N g)
    (hb : ∀ (d : List α) (a : α) (r : List α) (g : γ), l = d ++ a :: r → I d (a :: r) g → (body (set g a)).post (fun g' => I (d ++ [a]) r g') R X) : (forR set body l g).post N R X := by
  have : ∀ (r d : List α) (g : γ), l = d ++ r → I d r g → (forR set body r g).post N R X := by
    intro r
    induction r with
    | nil =>
      intro d g e h
      rw [List.append_nil] at e
      subst e
      exact hN g h
    | cons a r ih =>
      intro d g e h
      show (bindS body (forR set body r) (set g a)).post N R X
      rw [q_bind]
      exact sImp (hb d a r g e h) (fun g' h' => ih (d ++ [a]) g' (by rw [e]; simp) h') (fun _ _ z => z) fun _ _ z => z
  exact this l [] g rfl h0
/-- an invariant of the state alone -/
theorem for_all {set : γ → α → γ} {body : Sc γ β} {l : List α} (I : γ → Prop) (h0 : I g) (hN : ∀ g, I g → N g)
    (hb : ∀ a ∈ l, ∀ g, I g → (body (set g a)).post I R X) : (forR set body l g).post N R X :=
  for_inv (fun _ _ g => I g) h0 hN fun d a r g e h => hb a (by rw [e]; simp) g h
theorem while_inv {c : Ac γ Bool} {body : Sc γ β} (I : γ → Prop) (μ : γ → Nat) (h0 : I g) (hf : μ g < FUEL)
    (hs : ∀ g, I g → (c g).post (fun b g1 => if b = true then (body g1).post (fun g2 => I g2 ∧ μ g2 < μ g) R X else N g1) X) : (whileS c body g).post N R X := by
  have : ∀ (n : Nat) (g : γ), I g → μ g < n → (whS c body n g).post N R X := by
    intro n
    induction n with
    | zero => intro g _ h; exact absurd h (Nat.not_lt_zero _)
    | succ n ih =>
      intro g h hm
      show (doS c (fun b => if b = true then bindS body (whS c body n) else nxS) g).post N R X
      rw [q_do]
      refine rImp (hs g h) (fun b g1 q => ?_) fun _ _ z => z
      cases b with
      | false => exact q
      | true =>
        simp only [if_true] at q ⊢
        rw [q_bind]
        exact sImp q (fun g2 ⟨h2, m2⟩ => ih g2 h2 (Nat.lt_of_lt_of_le m2 (Nat.le_of_lt_succ hm))) (fun _ _ z => z) fun _ _ z => z
  exact this _ g h0 hf
/-- a comprehension: an invariant, and what the list is -/
theorem comp_inv {set : γ → α → γ} {c : Ac γ Bool} {e : Ac γ δ} {l : List α} {Q : List δ → γ → Prop} (I : List α → List δ → γ → Prop) (h0 : I [] [] g) (hQ : ∀ ds g, I l ds g → Q ds g)
    (hb : ∀ (d : List α) (a : α) (r : List α) (ds : List δ) (g : γ), l = d ++ a :: r → I d ds g → (c (set g a)).post (fun b g1 => if b = true then (e g1).post (fun x g2 => I (d ++ [a]) (ds ++ [x]) g2) nX else I (d ++ [a]) ds g1) nX) : (compR set c e l g).post Q X := by
  have : ∀ (r d : List α) (ds : List δ) (g : γ), l = d ++ r → I d ds g → (compR set c e r g).post (fun xs g => I l (ds ++ xs) g) nX := by
    intro r
    induction r with
    | nil =>
      intro d ds g e h
      rw [List.append_nil] at e
      subst e
      show I l (ds ++ []) g
      rw [List.append_nil]
      exact h
    | cons a r ih =>
      intro d ds g hl h
      have hc := hb d a r ds g hl h
      unfold compR
      cases ec : c (set g a) with
      | bad => rw [ec] at hc; exact hc.elim
      | exc x g1 => rw [ec] at hc; exact hc.elim
      | ok b g1 =>
        rw [ec] at hc
        have hc' : if b = true then (e g1).post (fun x g2 => I (d ++ [a]) (ds ++ [x]) g2) nX else I (d ++ [a]) ds g1 := hc
        cases b with
        | false =>
          simp only [Bool.false_eq_true, if_false] at hc' ⊢
          exact ih (d ++ [a]) ds g1 (by rw [hl]; simp) hc'
        | true =>
          simp only [if_true] at hc' ⊢
          cases ee : e g1 with
          | bad => rw [ee] at hc'; exact hc'.elim
          | exc x g2 => rw [ee] at hc'; exact hc'.elim
          | ok x g2 =>
            rw [ee] at hc'
            have h2 : I (d ++ [a]) (ds ++ [x]) g2 := hc'
            have h3 := ih (d ++ [a]) (ds ++ [x]) g2 (by rw [hl]; simp) h2
            simp only
            cases er : compR set c e r g2 with
            | bad => rw [er] at h3; exact h3.elim
            | exc y g3 => rw [er] at h3; exact h3.elim
            | ok xs g3 =>
              rw [er] at h3
              have h4 : I l ((ds ++ [x]) ++ xs) g3 := h3
              show I l (ds ++ (x :: xs)) g3
              simpa using h4
  refine rUse (this l [] [] g rfl h0) fun xs g h => hQ xs g ?_
  simpa using h
/-- a comprehension of which each item is worked out alike -/
theorem comp_map {set : γ → α → γ} {e : Ac γ δ} {l : List α} {Q : List δ → γ → Prop} (I : γ → Prop) (w : α → δ) (h0 : I g) (hQ : ∀ g, I g → Q (l.map w) g)
    (hb : ∀ a ∈ l, ∀ g, I g → (e (set g a)).post (fun x g2 => x = w a ∧ I g2) nX) : (compR set yesA e l g).post Q X := by
  refine comp_inv (fun d ds g => ds = d.map w ∧ I g) ⟨rfl, h0⟩ (fun ds g ⟨e, h⟩ => by rw [e]; exact hQ g h) fun d a r ds g hl ⟨e1, h⟩ => ?_
  unfold yesA
  rw [p_pure]
  simp only [if_true]
  exact rUse (hb a (by rw [hl]; simp) g h) fun x g2 ⟨e2, h2⟩ => ⟨by rw [e1, e2]; simp, h2⟩
/-- .. with tests -/
theorem comp_filter {set : γ → α → γ} {c : Ac γ Bool} {e : Ac γ δ} {l : List α} {Q : List δ → γ → Prop} (I : γ → Prop) (t : α → Bool) (w : α → δ) (h0 : I g) (hQ : ∀ g, I g → Q ((l.filter t).map w) g)
    (hb : ∀ a ∈ l, ∀ g, I g → (c (set g a)).post (fun b g1 => b = t a ∧ (t a = true → (e g1).post (fun x g2 => x = w a ∧ I g2) nX) ∧ (t a = false → I g1)) nX) : (compR set c e l g).post Q X := by
  refine comp_inv (fun d ds g => ds = (d.filter t).map w ∧ I g) ⟨rfl, h0⟩ (fun ds g ⟨e, h⟩ => by rw [e]; exact hQ g h) fun d a r ds g hl ⟨e1, h⟩ => ?_
  refine rUse (hb a (by rw [hl]; simp) g h) fun b g1 ⟨hb1, hb2, hb3⟩ => ?_
  subst hb1
  cases ht : t a with
  | true =>
    simp only [if_true]
    exact rUse (hb2 ht) fun x g2 ⟨e2, h2⟩ => ⟨by rw [e1, e2, List.filter_append]; simp [ht], h2⟩
  | false =>
    simp only [Bool.false_eq_true, if_false]
    exact ⟨by rw [e1, List.filter_append]; simp [ht], hb3 ht⟩
/-- a comprehension of which each item has a property -/
theorem comp_all {set : γ → α → γ} {e : Ac γ δ} {l : List α} {Q : List δ → γ → Prop} (I : γ → Prop) (P : δ → Prop) (h0 : I g) (hQ : ∀ ds g, ds.length = l.length → (∀ d ∈ ds, P d) → I g → Q ds g)
    (hb : ∀ a ∈ l, ∀ g, I g → (e (set g a)).post (fun x g2 => P x ∧ I g2) nX) : (compR set yesA e l g).post Q X := by
  refine comp_inv (fun d ds g => ds.length = d.length ∧ (∀ x ∈ ds, P x) ∧ I g) ⟨rfl, fun x h => (List.not_mem_nil h).elim, h0⟩ (fun ds g ⟨e1, e2, h⟩ => hQ ds g e1 e2 h) fun d a r ds g hl ⟨e1, e2, h⟩ => ?_
  unfold yesA
  rw [p_pure]
  simp only [if_true]
  refine rUse (hb a (by rw [hl]; simp) g h) fun x g2 ⟨p2, h2⟩ => ⟨by simp [e1], fun y hy => ?_, h2⟩
  rcases List.mem_append.mp hy with hy | hy
  · exact e2 y hy
  · rw [List.mem_singleton.mp hy]; exact p2
end

/-! ### how great a number is -/
@[irreducible] def Bd (n : Nat) (a : Int) : Prop := a.natAbs < 2 ^ n
theorem Bd.mono {n m : Nat} {a : Int} (h : Bd n a) (k : n ≤ m) : Bd m a := by
  unfold Bd at *
  exact Nat.lt_of_lt_of_le h (Nat.pow_le_pow_right (by decide) k)
theorem pow_add1 (n m : Nat) : 2 ^ n + 2 ^ m ≤ 2 ^ (n + m + 1) := by
  have h1 : 2 ^ n ≤ 2 ^ (n + m) := Nat.pow_le_pow_right (by decide) (Nat.le_add_right _ _)
  have h2 : 2 ^ m ≤ 2 ^ (n + m) := Nat.pow_le_pow_right (by decide) (Nat.le_add_left _ _)
  rw [Nat.pow_succ]
  omega
theorem Bd.add {n m : Nat} {a b : Int} (h : Bd n a) (k : Bd m b) : Bd (n + m + 1) (a + b) := by
  unfold Bd at *
  have := pow_add1 n m
  have := Int.natAbs_add_le a b
  omega
theorem Bd.sub {n m : Nat} {a b : Int} (h : Bd n a) (k : Bd m b) : Bd (n + m + 1) (a - b) := by
  unfold Bd at *
  have := pow_add1 n m
  have := Int.natAbs_sub_le a b
  omega
theorem Bd.neg {n : Nat} {a : Int} (h : Bd n a) : Bd n (-a) := by
  unfold Bd at *
  rwa [Int.natAbs_neg]
theorem Bd.mul {n m : Nat} {a b : Int} (h : Bd n a) (k : Bd m b) : Bd (n + m) (a * b) := by
  unfold Bd at *
  rw [Int.natAbs_mul, Nat.pow_add]
  rcases Nat.eq_zero_or_pos b.natAbs with e | e
  · rw [e, Nat.mul_zero]
    exact Nat.mul_pos (Nat.pow_pos (by decide)) (Nat.pow_pos (by decide))
  · exact Nat.mul_lt_mul_of_lt_of_le h (Nat.le_of_lt k) (Nat.pow_pos (by decide))
theorem Bd.of_le {n : Nat} {a b : Int} (h : Bd n a) (k : b.natAbs ≤ a.natAbs) : Bd n b := by
  unfold Bd at *
  exact Nat.lt_of_le_of_lt k h
theorem Bd.abs {n : Nat} {a : Int} (h : Bd n a) : Bd n (a.natAbs : Int) := by
  unfold Bd at *
  rwa [Int.natAbs_natCast]
theorem Bd.nat {n : Nat} {a : Int} (h0 : -(2 ^ n : Nat) < a) (h : a < (2 ^ n : Nat)) : Bd n a := by
  unfold Bd
  omega
theorem log2_le {n : Nat} {a : Int} (h : Bd n a) : a.natAbs.log2 ≤ n := by
  rcases Nat.eq_zero_or_pos a.natAbs with e | e
  · rw [e]; exact Nat.zero_le _
  · unfold Bd at h
    have : a.natAbs.log2 < n := (Nat.log2_lt (by omega)).mpr h
    omega
theorem mulOk {n m : Nat} {a b : Int} (h : Bd n a) (k : Bd m b) (e : n + m < 1000000) : MulOk a b := by
  have h1 := log2_le h
  have h2 := log2_le k
  unfold MulOk
  omega
theorem divOk {n : Nat} {b : Int} (h : Bd n b) (k : b ≠ 0) (e : n < 9000) : DivOk b := ⟨k, Nat.lt_of_le_of_lt (log2_le h) e⟩
theorem fuel {n : Nat} {a : Int} (h : Bd n a) (e : n ≤ 20000) : a.natAbs < FUEL := by
  unfold FUEL
  unfold Bd at h
  exact Nat.lt_of_lt_of_le h (Nat.pow_le_pow_right (by decide) e)
theorem fmod_lt {a b : Int} (h : 0 < b) : 0 ≤ a.fmod b ∧ a.fmod b < b := ⟨Int.fmod_nonneg_of_pos a h, Int.fmod_lt_of_pos a h⟩
theorem Bd.fdiv {n : Nat} {a b : Int} (h : Bd n a) (hb : b ≠ 0) : Bd n (a.fdiv b) := by
  refine h.of_le ?_
  rcases Int.lt_or_lt_of_ne hb with e | e
  · have h2 : a.fdiv b = (-a).fdiv (-b) := by simp
    rw [h2, ← Int.natAbs_neg a, Int.fdiv_eq_ediv_of_nonneg _ (by omega)]
    exact Int.natAbs_ediv_le_natAbs _ _
  · rw [Int.fdiv_eq_ediv_of_nonneg _ (by omega)]
    exact Int.natAbs_ediv_le_natAbs _ _
def lg (a : Int) : Nat := a.natAbs.log2 + 1
theorem bdLit {a : Int} : Bd (lg a) a := by
  unfold Bd
  exact Nat.lt_log2_self
theorem Bd.fmod {n : Nat} {a b : Int} (h : Bd n b) (k : 0 < b) : Bd n (a.fmod b) := by
  refine h.of_le ?_
  have := fmod_lt (a := a) k
  omega
theorem Bd.max {n m : Nat} {a b : Int} (h : Bd n a) (k : Bd m b) : Bd (Nat.max n m) (Max.max a b) := by
  rcases Int.le_total a b with e | e
  · rw [Int.max_eq_right e]; exact k.mono (Nat.le_max_right _ _)
  · rw [Int.max_eq_left e]; exact h.mono (Nat.le_max_left _ _)
theorem Bd.min {n m : Nat} {a b : Int} (h : Bd n a) (k : Bd m b) : Bd (Nat.max n m) (Min.min a b) := by
  rcases Int.le_total a b with e | e
  · rw [Int.min_eq_left e]; exact h.mono (Nat.le_max_left _ _)
  · rw [Int.min_eq_right e]; exact k.mono (Nat.le_max_right _ _)
theorem Bd.pow {n k : Nat} {a : Int} (h : Bd n a) : Bd (n * k + 1) (a ^ k) := by
  unfold Bd at *
  rw [Int.natAbs_pow, Nat.pow_succ, Nat.pow_mul]
  have h1 : a.natAbs ^ k ≤ (2 ^ n) ^ k := Nat.pow_le_pow_left (Nat.le_of_lt h) k
  have h2 : 0 < (2 ^ n) ^ k := Nat.pow_pos (Nat.pow_pos (by decide))
  omega
end HL
/-! Fm: divmod, own[k], name = e, in, is, chains, max, sorted, xs[::-1], range with steps. -/
namespace HL
open PySem PySem.Spec PyProof.Rows L2
theorem units65 {k : Nat} {A : Around} (h : Room k A) : A.units + 65 < cLine := by
  have := h.un
  omega
/-! ### divmod -/
def divmodQ (i j : Int) : Option (Int × Int) := if j ≠ 0 ∧ j.natAbs.log2 < 9000 then some (i.fdiv j, i.fmod j) else none
def rDivmod : List L2.V → Hp → VK → Prop := fun xs H Q => ∃ i j, xs = [.int i, .int j] ∧ CDivX i j ∧ ∀ p, H p = none → Q (.ref p) (upd H p (.tup [.int (i.fdiv j), .int (i.fmod j)]))
theorem call_divmodX {X : Cx} : CallR X (.builtin "divmod") rDivmod := by
  intro pins s σ H xs us Q I r h
  obtain ⟨i, j, rfl, hc, q⟩ := h
  obtain ⟨u, w', rfl, ⟨t, rfl⟩, ⟨t', rfl⟩⟩ := vals2 r
  refine divmod_int hc.1 ?_ (.inl (PyProof.noPylong_of_log2 hc.2))
  have hn : H s.heap.objs.size = none := I.hok.fresh (Nat.le_refl _)
  refine ⟨.ref s.heap.objs.size, upd H s.heap.objs.size (.tup [.int (i.fdiv j), .int (i.fmod j)]), ?_, rfl, q _ hn⟩
  exact I.laid (fun b o e => Heap.get?_push_of_some _ e) (Nat.le_refl _) ⟨by simp only [List.length_cons, List.length_nil]; rw [sizeLine_eq]; decide, [.int (i.fdiv j) s.toks, .int (i.fmod j) (s.toks + 1)], .cons ⟨_, rfl⟩ (.cons ⟨_, rfl⟩ .nil), ⟨_, Heap.get?_push_size s.heap rfl, rfl, 0, rfl⟩⟩
section
variable {X : Cx} {γ α β δ : Type} [Enc α] [Enc β] [Enc δ] {Ve : Ev γ} {m m1 m2 : Md} {p p1 p2 p3 : Bool} {e a b c : Expr} {pos : Pos}
theorem s_divmod {f h : Ac γ Int} {p0 : Pos} (hx : X.mg "divmod" = none) (ha : SE X Ve m1 p1 a f) (hb : SE X Ve m2 p2 b h) (hm : okM m1 p2 = true := by rfl) (hg : Gl X "divmod" := by rfl)
    (he : starEach (a :: [b]) X.env = (false, eval a X.env) :: starEach [b] X.env := by rfl) (he2 : starEach (b :: []) X.env = (false, eval b X.env) :: starEach [] X.env := by rfl) (hpl : (backTo pos (starEach [b] X.env)).any (·.1) = false := by rfl) :
    SE X Ve .fr (p1 && p2) (.Call (.Name "divmod" p0) [a, b] [] pos) (op2 divmodQ f h) :=
  s_b2 (id' := "divmod") (r := fun _ => rDivmod) call_divmodX (fun Z hK => fun A g σ H x y i k c Q j rx ry e q => by
    cases rp_int rx.full
    cases rp_int ry.full
    obtain ⟨hc, rfl⟩ := ite_some e
    refine ⟨i, k, rfl, hc, fun n hn => q (.ref n) _ (same_new hn) (j.new hn) ?_⟩
    have hn' := j.ghnew (o := .tup [.int (i.fdiv k), .int (i.fmod k)]) hn
    rw [ow_at] at hn'
    exact Rp.tup hn' (.cons (.int _) (.cons (.int _) .nil))) hx ha hb (by decide +kernel) hm hg (by decide) (by decide) he he2 hpl

/-! ### in, not in -/
def inQ {α : Type} [DecidableEq α] (a : α) (l : List α) : Option Bool := some (decide (a ∈ l))
def notinQ {α : Type} [DecidableEq α] (a : α) (l : List α) : Option Bool := some (!decide (a ∈ l))
variable [DecidableEq α] [EqE α]
theorem any_eqv (a : α) : ∀ l : List α, ((l.map enc).any fun z => PyData.eqv z (enc a)) = decide (a ∈ l)
  | [] => by simp
  | b :: l => by
    rw [List.map_cons, List.any_cons, any_eqv a l, EqE.eqv]
    by_cases h : b = a
    · simp [h]
    · have h' : ¬ a = b := fun z => h z.symm
      simp [h, h']
theorem kIn {Z : Fix} (hd : EqE.dep α < 64) : OpK Z (rInD Z.K) m1 m2 .fr (inQ (α := α)) Ve := opK_v fun H x y a b c Q rx ry e q => by
  obtain rfl := some_inj' e
  exact ⟨_, _, rx.dp _ (EqE.lay _), ry.dp _ (EqE.lay _), shaped_enc (Nat.le_of_lt hd) a, shaped_enc (α := List α) hd b, by rw [any_eqv]; exact q _ fun _ => .bl _⟩
theorem kNotin {Z : Fix} (hd : EqE.dep α < 64) : OpK Z (rNotInD Z.K) m1 m2 .fr (notinQ (α := α)) Ve := opK_v fun H x y a b c Q rx ry e q => by
  obtain rfl := some_inj' e
  exact ⟨_, _, rx.dp _ (EqE.lay _), ry.dp _ (EqE.lay _), shaped_enc (Nat.le_of_lt hd) a, shaped_enc (α := List α) hd b, by rw [any_eqv]; exact q _ fun _ => .bl _⟩
variable {f : Ac γ α} {h : Ac γ (List α)}
theorem s_in (hu : X.A.units + 65 < cLine) (ha : SE X Ve m1 p1 a f) (hb : SE X Ve m2 p2 b h) (hm : okM m1 p2 = true := by rfl) (hd : EqE.dep α < 64 := by decide) (hn : behindInMarks .In b = false := by rfl) : SE X Ve .fr (p1 && p2) (.Compare a [.In] [b] pos) (op2 inQ f h) :=
  s_cmp (r := fun K => rInD K) (op_inD hu) (fun Z hK => hK ▸ kIn hd) ha hb hm hn
theorem t_in (hu : X.A.units + 65 < cLine) (ha : SE X Ve m1 p1 a f) (hb : SE X Ve m2 p2 b h) (hm : okM m1 p2 = true := by rfl) (hd : EqE.dep α < 64 := by decide) (hn : behindInMarks .In b = false := by rfl) : ST X Ve (p1 && p2) (.Compare a [.In] [b] pos) (op2 inQ f h) :=
  t_cmp (r := fun K => rInD K) (op_inD hu) (fun Z hK => hK ▸ kIn hd) ha hb hm hn
theorem s_notin (hu : X.A.units + 65 < cLine) (ha : SE X Ve m1 p1 a f) (hb : SE X Ve m2 p2 b h) (hm : okM m1 p2 = true := by rfl) (hd : EqE.dep α < 64 := by decide) (hn : behindInMarks .NotIn b = false := by rfl) : SE X Ve .fr (p1 && p2) (.Compare a [.NotIn] [b] pos) (op2 notinQ f h) :=
  s_cmp (r := fun K => rNotInD K) (op_notInD hu) (fun Z hK => hK ▸ kNotin hd) ha hb hm hn
theorem t_notin (hu : X.A.units + 65 < cLine) (ha : SE X Ve m1 p1 a f) (hb : SE X Ve m2 p2 b h) (hm : okM m1 p2 = true := by rfl) (hd : EqE.dep α < 64 := by decide) (hn : behindInMarks .NotIn b = false := by rfl) : ST X Ve (p1 && p2) (.Compare a [.NotIn] [b] pos) (op2 notinQ f h) :=
  t_cmp (r := fun K => rNotInD K) (op_notInD hu) (fun Z hK => hK ▸ kNotin hd) ha hb hm hn
end
section
variable {X : Cx} {γ α β δ : Type} [Enc α] [Enc β] [Enc δ] {Ve : Ev γ} {m m1 m2 : Md} {p p1 p2 p3 : Bool} {e a b c : Expr} {pos : Pos}
/-! ### is -/
def isQ (a b : Bool) : Option Bool := some (decide (a = b))
def isntQ (a b : Bool) : Option Bool := some (!decide (a = b))
theorem kIs {Z : Fix} : OpK Z rIsB m1 m2 .fr isQ Ve := opK_v fun H x y a b c Q rx ry e q => by
  cases rp_bl rx
  cases rp_bl ry
  obtain rfl := some_inj' e
  exact ⟨a, b, rfl, rfl, q _ fun _ => .bl _⟩
theorem kIsnt {Z : Fix} : OpK Z rNotB m1 m2 .fr isntQ Ve := opK_v fun H x y a b c Q rx ry e q => by
  cases rp_bl rx
  cases rp_bl ry
  obtain rfl := some_inj' e
  exact ⟨a, b, rfl, rfl, q _ fun _ => .bl _⟩
theorem s_isB {f h : Ac γ Bool} (ha : SE X Ve m1 p1 a f) (hb : SE X Ve m2 p2 b h) (hm : okM m1 p2 = true := by rfl) : SE X Ve .fr (p1 && p2) (.Compare a [.Is] [b] pos) (op2 isQ f h) := s_cmp (r := fun _ => rIsB) op_isBl (fun Z hK => kIs) ha hb hm (nomark _)
theorem t_isB {f h : Ac γ Bool} (ha : SE X Ve m1 p1 a f) (hb : SE X Ve m2 p2 b h) (hm : okM m1 p2 = true := by rfl) : ST X Ve (p1 && p2) (.Compare a [.Is] [b] pos) (op2 isQ f h) := t_cmp (r := fun _ => rIsB) op_isBl (fun Z hK => kIs) ha hb hm (nomark _)
theorem s_isntB {f h : Ac γ Bool} (ha : SE X Ve m1 p1 a f) (hb : SE X Ve m2 p2 b h) (hm : okM m1 p2 = true := by rfl) : SE X Ve .fr (p1 && p2) (.Compare a [.IsNot] [b] pos) (op2 isntQ f h) := s_cmp (r := fun _ => rNotB) op_notBl (fun Z hK => kIsnt) ha hb hm (nomark _)
theorem t_isntB {f h : Ac γ Bool} (ha : SE X Ve m1 p1 a f) (hb : SE X Ve m2 p2 b h) (hm : okM m1 p2 = true := by rfl) : ST X Ve (p1 && p2) (.Compare a [.IsNot] [b] pos) (op2 isntQ f h) := t_cmp (r := fun _ => rNotB) op_notBl (fun Z hK => kIsnt) ha hb hm (nomark _)
/-- a thing that is not none as data -/
class NoN (α : Type) [Enc α] : Prop where
  nn : ∀ a : α, enc a ≠ .none
instance : NoN Int := ⟨fun _ h => nomatch h⟩
instance : NoN Bool := ⟨fun _ h => nomatch h⟩
instance : NoN Str := ⟨fun _ h => nomatch h⟩
instance {α : Type} [Enc α] : NoN (List α) := ⟨fun _ h => nomatch h⟩
instance {α β : Type} [Enc α] [Enc β] : NoN (α × β) := ⟨fun _ h => nomatch h⟩
instance {α β γ : Type} [Enc α] [Enc β] [Enc γ] : NoN (T3 α β γ) := ⟨fun _ h => nomatch h⟩
instance {α β γ δ : Type} [Enc α] [Enc β] [Enc γ] [Enc δ] : NoN (T4 α β γ δ) := ⟨fun _ h => nomatch h⟩
instance {α β γ δ ε : Type} [Enc α] [Enc β] [Enc γ] [Enc δ] [Enc ε] : NoN (T5 α β γ δ ε) := ⟨fun _ h => nomatch h⟩
theorem rp_non {K : PySem.W.Frag} {H : Hp} {v : L2.V} {d : D} (h : Rp K H v d) : (v = .non) ↔ d = .none := by
  cases h <;> simp [dkD, exD]
theorem non_opt [NoN α] {K : PySem.W.Frag} {H : Hp} {v : L2.V} {o : Option α} (h : Rp K H v (enc o)) : decide (v = .non) = o.isNone := by
  have h1 := rp_non h
  cases o with
  | none =>
    have : v = .non := h1.mpr rfl
    simp [this]
  | some a =>
    have : ¬ v = .non := fun z => NoN.nn a (h1.mp z)
    simp [this]
def isNoneQ {α : Type} (o : Option α) : Option Bool := some o.isNone
def isSomeQ {α : Type} (o : Option α) : Option Bool := some (!o.isNone)
theorem uIsNone [NoN α] {Z : Fix} : UnK Z (fun v H Q => Q (.bl (decide (v = .non))) H) m1 .fr (isNoneQ (α := α)) Ve := unK_v fun H x o c Q rx e q => by
  obtain rfl := some_inj' e
  rw [non_opt rx]
  exact q _ fun _ => .bl _
theorem uNotNone [NoN α] {Z : Fix} : UnK Z (fun v H Q => Q (.bl (!decide (v = .non))) H) m1 .fr (isSomeQ (α := α)) Ve := unK_v fun H x o c Q rx e q => by
  obtain rfl := some_inj' e
  rw [non_opt rx]
  exact q _ fun _ => .bl _
theorem isN_pe {op : CmpOp} {r : L2.V → Hp → VK → Prop} {te : TE} {j p9} (ho : OpR X (compareOp op) (fun x y H Q => y = .non ∧ r x H Q)) (ha : PE X a te) (hn : behindInMarks op (.Constant .none j p9) = false) : PE X (.Compare a [op] [.Constant .none j p9] pos) (tUn r te) :=
  (pe_cmpR ho ha pe_non hn).weak fun σ H Q q => by
    show te σ H _
    exact (show te σ H fun x H1 => r x H1 Q from q) |> fun z => by
      have : (fun x H1 => (V.non = V.non ∧ r x H1 Q)) = fun x H1 => r x H1 Q := by
        funext x H1
        simp
      show te σ H (fun x H1 => tC .non σ H1 fun y H2 => y = .non ∧ r x H2 Q)
      show te σ H (fun x H1 => (V.non = V.non ∧ r x H1 Q))
      rw [this]
      exact z
theorem s_isNone [NoN α] {f : Ac γ (Option α)} {j p9} (ha : SE X Ve m p a f) : SE X Ve .fr p (.Compare a [.Is] [.Constant .none j p9] pos) (op1 isNoneQ f) := ⟨fun Z W hK tk => (isN_pe op_isN (ha.run Z W hK tk) (nomark _)).weak fun _ _ _ q => tUn_ok uIsNone q⟩
theorem s_notNone [NoN α] {f : Ac γ (Option α)} {j p9} (ha : SE X Ve m p a f) : SE X Ve .fr p (.Compare a [.IsNot] [.Constant .none j p9] pos) (op1 isSomeQ f) := ⟨fun Z W hK tk => (isN_pe op_notN (ha.run Z W hK tk) (nomark _)).weak fun _ _ _ q => tUn_ok uNotNone q⟩
theorem t_isNone [NoN α] {f : Ac γ (Option α)} {j p9} (ha : SE X Ve m p a f) (he : ∀ whole, isTrue (.Compare a [.Is] [.Constant .none j p9] pos) X.env whole = (do let v ← whole; standAt pos; holding [v] (truthy v)) := by intro _; rfl) : ST X Ve p (.Compare a [.Is] [.Constant .none j p9] pos) (op1 isNoneQ f) := t_val (s_isNone ha) he
/-! ### max, min of a list -/
def maxL (x : Int) (l : List Int) : Int := l.foldl max x
def minL (x : Int) (l : List Int) : Int := l.foldl min x
def maxLQ : List Int → Option Int
  | [] => none
  | x :: l => some (maxL x l)
def minLQ : List Int → Option Int
  | [] => none
  | x :: l => some (minL x l)
theorem maxL_spec : ∀ (l : List Int) (x : Int), (∀ m, m ∈ x :: l → (∀ y ∈ x :: l, y ≤ m) → m = maxL x l)
  | [], x => fun m hm _ => by
    show m = x
    simpa using hm
  | a :: l, x => fun m hm hy => by
    show m = maxL (max x a) l
    refine maxL_spec l (max x a) m ?_ fun y h => ?_
    · have h1 := hy x (by simp)
      have h2 := hy a (by simp)
      rcases List.mem_cons.mp hm with e | e
      · have : max x a = x := by omega
        rw [this, e]; simp
      · rcases List.mem_cons.mp e with e | e
        · have : max x a = a := by omega
          rw [this, e]; simp
        · simp [e]
    · rcases List.mem_cons.mp h with e | e
      · have h1 := hy x (by simp)
        have h2 := hy a (by simp)
        omega
      · exact hy y (by simp [e])
theorem minL_spec : ∀ (l : List Int) (x : Int), (∀ m, m ∈ x :: l → (∀ y ∈ x :: l, m ≤ y) → m = minL x l)
  | [], x => fun m hm _ => by
    show m = x
    simpa using hm
  | a :: l, x => fun m hm hy => by
    show m = minL (min x a) l
    refine minL_spec l (min x a) m ?_ fun y h => ?_
    · have h1 := hy x (by simp)
      have h2 := hy a (by simp)
      rcases List.mem_cons.mp hm with e | e
      · have : min x a = x := by omega
        rw [this, e]; simp
      · rcases List.mem_cons.mp e with e | e
        · have : min x a = a := by omega
          rw [this, e]; simp
        · simp [e]
    · rcases List.mem_cons.mp h with e | e
      · have h1 := hy x (by simp)
        have h2 := hy a (by simp)
        omega
      · exact hy y (by simp [e])
theorem s_maxL {f : Ac γ (List Int)} {p0 : Pos} (hc : X.calm = true) (hx : X.mg "max" = none) (ha : SE X Ve m p e f) (hg : Gl X "max" := by rfl) (he : starEach (e :: []) X.env = (false, eval e X.env) :: starEach [] X.env := by rfl) (hpl : (backTo pos (starEach [] X.env)).any (·.1) = false := by rfl) :
    SE X Ve .fr p (.Call (.Name "max" p0) [e] [] pos) (op1 maxLQ f) :=
  s_b1 (id := "max") (r := fun K => rMax K) (cr_max hc) (fun Z hK => fun A g σ H x l c Q j rx e q => by
    obtain ⟨t, vs, rfl, e2, e3⟩ := rm_els rx
    have ev := rpA_ints (ns := l) e3
    subst ev
    cases l with
    | nil => cases e
    | cons y l =>
      obtain rfl := some_inj' e
      exact ⟨t, y :: l, rfl, seqL e2, by simp, fun m hm hy => by rw [maxL_spec l y m hm hy]; exact q _ H (Same.refl H) j (.int _)⟩) hx ha (by decide +kernel) hg (by decide) (by decide) he he hpl
theorem s_minL {f : Ac γ (List Int)} {p0 : Pos} (hc : X.calm = true) (hx : X.mg "min" = none) (ha : SE X Ve m p e f) (hg : Gl X "min" := by rfl) (he : starEach (e :: []) X.env = (false, eval e X.env) :: starEach [] X.env := by rfl) (hpl : (backTo pos (starEach [] X.env)).any (·.1) = false := by rfl) :
    SE X Ve .fr p (.Call (.Name "min" p0) [e] [] pos) (op1 minLQ f) :=
  s_b1 (id := "min") (r := fun K => rMin K) (cr_min hc) (fun Z hK => fun A g σ H x l c Q j rx e q => by
    obtain ⟨t, vs, rfl, e2, e3⟩ := rm_els rx
    have ev := rpA_ints (ns := l) e3
    subst ev
    cases l with
    | nil => cases e
    | cons y l =>
      obtain rfl := some_inj' e
      exact ⟨t, y :: l, rfl, seqL e2, by simp, fun m hm hy => by rw [minL_spec l y m hm hy]; exact q _ H (Same.refl H) j (.int _)⟩) hx ha (by decide +kernel) hg (by decide) (by decide) he he hpl
/-! ### sorted ints -/
def sortIL (l : List Int) : List Int := l.mergeSort fun a b => decide (a ≤ b)
def sortIQ (l : List Int) : Option (List Int) := some (sortIL l)
theorem sortIL_perm (l : List Int) : (sortIL l).Perm l := List.mergeSort_perm l _
theorem sortIL_sorted (l : List Int) : (sortIL l).Pairwise (· ≤ ·) := by
  have h := List.pairwise_mergeSort (le := fun a b : Int => decide (a ≤ b)) (fun a b c h1 h2 => by simp at *; omega) (fun a b => by simp; omega) l
  exact h.imp fun h => by simpa using h
theorem sortIL_eq {l k : List Int} (hp : k.Perm l) (hs : k.Pairwise (· ≤ ·)) : k = sortIL l :=
  List.Perm.eq_of_pairwise (fun a b _ _ h1 h2 => Int.le_antisymm h1 h2) hs (sortIL_sorted l) (hp.trans (sortIL_perm l).symm)
theorem rpA_of_ints {K : PySem.W.Frag} {H : Hp} : ∀ ns : List Int, RpA K H (ns.map V.int) (ns.map enc)
  | [] => .nil
  | n :: ns => .cons (.int n) (rpA_of_ints ns)
theorem s_sortI {f : Ac γ (List Int)} {p0 : Pos} (hx : X.mg "sorted" = none) (ha : SE X Ve m p e f) (hg : Gl X "sorted" := by rfl) (he : starEach (e :: []) X.env = (false, eval e X.env) :: starEach [] X.env := by rfl) (hpl : (backTo pos (starEach [] X.env)).any (·.1) = false := by rfl) :
    SN X Ve p (.Call (.Name "sorted" p0) [e] [] pos) (op1 sortIQ f) :=
  s_b1N (id' := "sorted") (r := fun K => rSortedI K) cr_sortedI (fun Z hK => fun A g σ H x l c Q j rx e q => by
    obtain ⟨t, vs, rfl, e2, e3⟩ := rm_els rx
    obtain rfl := some_inj' e
    have ev := rpA_ints (ns := l) e3
    subst ev
    exact ⟨t, l, rfl, seqL e2, fun ns' n hp hs hn => by rw [sortIL_eq hp hs]; exact q n _ hn (rpA_of_ints _)⟩) hx ha (by decide +kernel) hg (by decide) (by decide) he hpl
/-! ### xs[::-1] -/
theorem s_rev {f : Ac γ (List α)} {k : Nat} {p1' p2' p3' : Pos} (ha : SE X Ve m p a f) (hels : ElsT X (α := α) Ve m := by first | exact fun _ _ _ _ _ _ _ j r => rm_elsT rfl r | exact fun _ _ _ _ _ _ _ j r => rm_elsF j r) :
    SN X Ve p (.Subscript a (.Slice none none (some (.UnaryOp .USub (.Constant (.int 1) k p1') p2')) p3') pos) (op1 revQ f) := ⟨fun Z W hK tk => (pe_revL (ha.run Z W hK tk)).weak fun σ H Q q =>
  tUnN_ok (r := fun x H Q => ∃ a xs, x = .ref a ∧ SqL X.K H a xs ∧ ∀ p, H p = none → Q (.ref p) (upd H p (.lst xs.reverse))) (m1 := m) (fun A g σ H x l c Q j rx e q => by
    obtain ⟨t, vs, rfl, e2, e3⟩ := hels Z A g σ H x l j rx
    obtain rfl := some_inj' e
    refine ⟨t, vs, rfl, seqL e2, fun n hn => q n _ hn ?_⟩
    rw [List.map_reverse]
    exact e3.reverse) q⟩
/-! ### a tuple's part from behind -/
theorem s_prN {f : Ac γ α} (n : Int) (pr : α → δ) {j p8 p9 : _} (ha : SE X Ve m p a f) (h : ∀ x : α, ∃ ds, enc x = .tuple ds ∧ atI ds (-n) = some (enc (pr x)) := by exact fun _ => ⟨_, rfl, rfl⟩) :
    SE X Ve (mdB (elM m)) p (.Subscript a (.UnaryOp .USub (.Constant (.int n) j p8) p9) pos) (op1 (fun x => some (pr x)) f) :=
  ⟨fun Z W hK tk => (pe_ix (r := rIxT X.K) ix_tup (ha.run Z W hK tk) (pe_un un_neg pe_int) (fun _ _ => rfl)).weak fun σ H Q q => by
    refine tUn_ok (r := fun x H Q => ∃ i, V.int n = .int i ∧ rIxT X.K x (.int (-i)) H Q) (m1 := m) (fun A g σ H x l c Q j rx e q => ?_) q
    obtain ⟨ds, e1, e2⟩ := h l
    rw [e1] at rx
    obtain ⟨t, vs, rfl, e3, e4⟩ := rm_tup (g := g) (σ := σ) rx
    obtain rfl := some_inj' e
    obtain ⟨v, e5, e6⟩ := rpA_at e4 e2
    exact ⟨n, rfl, t, vs, -n, v, rfl, rfl, hK ▸ e3, e5, q v H (Same.refl H) j (rm_hp e6)⟩⟩
end
end HL
/-! Fn: tuples of whole numbers of either sign: sorted, set, sorted(set), len(set). -/
namespace HL
open PySem PySem.Spec PyProof.Rows L2

/-! ### the order of tuples -/
def lexL : List Int → List Int → Bool
  | [], [] => false
  | [], _ :: _ => true
  | _ :: _, [] => false
  | a :: l, b :: k => if a = b then lexL l k else decide (a < b)
theorem lexL_asym : ∀ l k : List Int, lexL l k = true → lexL k l = false
  | [], [] => fun _ => rfl
  | [], _ :: _ => fun _ => rfl
  | _ :: _, [] => fun h => nomatch h
  | a :: l, b :: k => fun h => by
    unfold lexL at h ⊢
    by_cases e : a = b
    · rw [if_pos e] at h
      rw [if_pos e.symm]
      exact lexL_asym l k h
    · rw [if_neg e] at h
      rw [if_neg (Ne.symm e)]
      have := of_decide_eq_true h
      exact decide_eq_false (by omega)
theorem lexL_tr : ∀ x y z : List Int, lexL y x = false → lexL z y = false → lexL z x = false
  | [], [], [] => fun _ _ => rfl
  | [], [], _ :: _ => fun _ _ => rfl
  | [], _ :: _, [] => fun _ h => nomatch h
  | [], _ :: _, _ :: _ => fun _ _ => rfl
  | _ :: _, [], _ => fun h _ => nomatch h
  | _ :: _, _ :: _, [] => fun _ h => nomatch h
  | a :: l, b :: k, c :: m => fun h1 h2 => by
    unfold lexL at h1 h2 ⊢
    by_cases e1 : b = a
    · rw [if_pos e1] at h1
      by_cases e2 : c = b
      · rw [if_pos e2] at h2
        rw [if_pos (e2.trans e1)]
        exact lexL_tr l k m h1 h2
      · rw [if_neg e2] at h2
        rw [if_neg (by omega)]
        have := of_decide_eq_false h2
        exact decide_eq_false (by omega)
    · rw [if_neg e1] at h1
      have a1 := of_decide_eq_false h1
      by_cases e2 : c = b
      · rw [if_neg (by omega)]
        exact decide_eq_false (by omega)
      · rw [if_neg e2] at h2
        have a2 := of_decide_eq_false h2
        rw [if_neg (by omega)]
        exact decide_eq_false (by omega)
theorem lexL_anti : ∀ l k : List Int, lexL l k = false → lexL k l = false → l = k
  | [], [] => fun _ _ => rfl
  | [], _ :: _ => fun h _ => nomatch h
  | _ :: _, [] => fun _ h => nomatch h
  | a :: l, b :: k => fun h1 h2 => by
    unfold lexL at h1 h2
    by_cases e : a = b
    · rw [if_pos e] at h1
      rw [if_pos e.symm] at h2
      rw [e, lexL_anti l k h1 h2]
    · rw [if_neg e] at h1
      rw [if_neg (Ne.symm e)] at h2
      have a1 := of_decide_eq_false h1
      have a2 := of_decide_eq_false h2
      omega
theorem swoL {α : Type} (k : α → List Int) : SrtO.Swo fun v u => lexL (k v) (k u) := ⟨fun x y => lexL_asym _ _, fun x y z => lexL_tr _ _ _⟩
section
variable {prog : Program} {w : World} {A : Around} {s : Shared}
theorem kat_lex {fin : Bool} {Q : Bool → Shared → Prop} : ∀ {xs ys : List Value} {l k : List Int} (i : Nat), IntsAre xs l → IntsAre ys k → fin = decide (xs.length < ys.length) → Q (lexL l k) s → PySem.W.KatLex prog w A true fin Q (xs.zip ys) i s
  | _, _, _, _, i, .nil, .nil, hf, q => PySem.W.kat_nil (by rw [hf]; exact q)
  | _, _, _, _, i, .nil, .cons n t r, hf, q => PySem.W.kat_nil (by rw [hf]; exact q)
  | _, _, _, _, i, .cons n t r, .nil, hf, q => PySem.W.kat_nil (by rw [hf]; exact q)
  | _, _, _, _, i, .cons x t (vs := vs) (ns := l) r, .cons y u (vs := us) (ns := k) r', hf, q => by
    show PySem.W.KatLex prog w A true fin Q ((.int x t, .int y u) :: vs.zip us) i s
    refine PySem.W.kat_cons (SeqAt.EqAt.int_int x t y u prog w _ _ ?_)
    refine PySem.W.kat_go (fun e1 => ?_) (fun e1 => ?_)
    · have ex : x = y := by simpa using e1
      refine PySem.W.kat_yes (kat_lex (i + 1) r r' (by rw [hf]; simp) ?_)
      have : lexL (x :: l) (y :: k) = lexL l k := by
        show (if x = y then lexL l k else decide (x < y)) = _
        rw [if_pos ex]
      rw [this] at q
      exact q
    · have ex : ¬ x = y := by simpa using e1
      have e3 : lexL (x :: l) (y :: k) = decide (x < y) := by
        show (if x = y then lexL l k else decide (x < y)) = _
        rw [if_neg ex]
      rw [e3] at q
      refine PySem.W.kat_no ?_
      cases i with
      | zero => exact oneLt_int q
      | succ i => exact PySem.W.kat_one _ _ (PyProof.Rows.lt_int q)
theorem tups_cmp {vs : List Value} {k : Value → List Int} (hp : ∀ v ∈ vs, TS.TupInts s.heap v (k v)) : SrtO.Cmp prog w A s (tuples' true) (fun p => p.1 ∈ vs) (SrtO.lt2 fun v u => lexL (k v) (k u)) := by
  intro p q hm hm'
  obtain ⟨a, xs, e, ⟨o, ho, hc, n, hd⟩, hi⟩ := hp _ hm
  obtain ⟨a', xs', e', ⟨o', ho', hc', n', hd'⟩, hi'⟩ := hp _ hm'
  show wpAny (model prog w) A (keyLt' (tuples' true) p.1 q.1) (fun r s' => s' = s ∧ r = lexL (k p.1) (k q.1)) (fun _ _ => False) s
  rw [e] at hi ⊢
  rw [e'] at hi' ⊢
  refine PySem.W.kat_lt ho hd ho' hd' (kat_lex 0 hi hi' ?_ ⟨rfl, rfl⟩)
  simp
theorem firstsL {h : Heap} {k : Value → List Int} : ∀ {vs : List Value}, (∀ v ∈ vs, TS.TupInts h v (k v) ∧ k v ≠ []) → ∃ fs : List Value, PySem.W.KatTups h vs fs ∧ fs.length = vs.length ∧ ∀ f ∈ fs, ∃ x t, f = Value.int x t
  | [], _ => ⟨[], PySem.W.KatTups.nil, rfl, fun _ hm => by simp at hm⟩
  | v :: vs, hp => by
    obtain ⟨fs, h1, h2, h3⟩ := firstsL (vs := vs) fun v' hm => hp v' (List.mem_cons_of_mem _ hm)
    obtain ⟨⟨a, xs, e, ⟨o, ho, hc, n, hd⟩, hi⟩, hne⟩ := hp v List.mem_cons_self
    cases hk : k v with
    | nil => exact absurd hk hne
    | cons y l =>
      rw [hk] at hi
      obtain ⟨zs⟩ := xs
      cases hi with
      | cons n t r =>
        rw [e]
        refine ⟨_ :: fs, PySem.W.KatTups.cons ho hc hd rfl h1, by simp [h2], fun f hm => ?_⟩
        rcases List.mem_cons.mp hm with rfl | hm
        · exact ⟨_, _, rfl⟩
        · exact h3 f hm
theorem tups_sortable {a : Addr} {vs : List Value} {k : Value → List Int} (h0 : 0 < vs.length) (hp : ∀ v ∈ vs, TS.TupInts s.heap v (k v) ∧ k v ≠ []) (ha : ∀ o, s.heap.get? a = some o → o.cls ≠ .type "tuple") : SrtO.SortableO prog w A s a vs fun v u => lexL (k v) (k u) := by
  intro h' keep
  have hp' : ∀ v ∈ vs, TS.TupInts h' v (k v) ∧ k v ≠ [] := fun v hm => ⟨(hp v hm).1.keeps fun b o e c => keep b o (fun z => by subst z; exact ha o e c) e, (hp v hm).2⟩
  obtain ⟨fs, h1, h2, h3⟩ := firstsL hp'
  refine ⟨tuples' true, fun Q E hq => ?_, tups_cmp fun v hm => (hp' v hm).1⟩
  refine PySem.W.kat_kind (T := .type "int") h1 (by omega) (fun f hm => ?_) (by rfl) ?_
  · obtain ⟨x, t, rfl⟩ := h3 f hm
    exact PySem.W.Looks.now
  · have e : (Value.type "int" != Value.type "tuple") = true := by first | decide +kernel | rfl | decide
    rw [e]
    exact hq
end
end HL
/-! Fo: sorted of lists and of sets of tuples of whole numbers. -/
namespace HL
open PySem PySem.Spec PyProof.Rows L2

/-! ### kinds of tuples of whole numbers -/
class IT (α : Type) [Enc α] where
  key : α → List Int
  encI : ∀ a, enc a = dI (key a)
  inj : ∀ a b, key a = key b → a = b
  ne : ∀ a, key a ≠ []
instance : IT (Int × Int) := ⟨fun a => [a.1, a.2], fun _ => rfl, fun a b h => by
  obtain ⟨a1, a2⟩ := a
  obtain ⟨b1, b2⟩ := b
  simpa using h, fun _ h => nomatch h⟩
instance : IT (T3 Int Int Int) := ⟨fun a => [a.a, a.b, a.c], fun _ => rfl, fun a b h => by
  obtain ⟨a1, a2, a3⟩ := a
  obtain ⟨b1, b2, b3⟩ := b
  simpa using h, fun _ h => nomatch h⟩
instance : IT (T4 Int Int Int Int) := ⟨fun a => [a.a, a.b, a.c, a.d], fun _ => rfl, fun a b h => by
  obtain ⟨a1, a2, a3, a4⟩ := a
  obtain ⟨b1, b2, b3, b4⟩ := b
  simpa using h, fun _ h => nomatch h⟩
section
variable {α : Type} [Enc α] [IT α]
def leT (a b : α) : Bool := !lexL (IT.key b) (IT.key a)
def sortTL (l : List α) : List α := l.mergeSort leT
theorem sortTL_perm (l : List α) : (sortTL l).Perm l := List.mergeSort_perm l _
theorem leT_trans (a b c : α) (h1 : leT a b = true) (h2 : leT b c = true) : leT a c = true := by
  unfold leT at *
  simp only [Bool.not_eq_true'] at *
  exact lexL_tr _ _ _ h1 h2
theorem leT_total (a b : α) : (leT a b || leT b a) = true := by
  unfold leT
  cases h : lexL (IT.key b) (IT.key a) with
  | false => rfl
  | true => rw [lexL_asym _ _ h]; rfl
theorem leT_anti (a b : α) (h1 : leT a b = true) (h2 : leT b a = true) : a = b := by
  unfold leT at *
  simp only [Bool.not_eq_true'] at *
  exact IT.inj _ _ (lexL_anti _ _ h2 h1)
theorem sortTL_sorted (l : List α) : (sortTL l).Pairwise fun a b => leT a b = true := List.pairwise_mergeSort (le := leT) leT_trans leT_total l
theorem sortTL_eq {l k : List α} (hp : k.Perm l) (hs : k.Pairwise fun a b => leT a b = true) : k = sortTL l :=
  List.Perm.eq_of_pairwise (fun a b _ _ h1 h2 => leT_anti a b h1 h2) hs (sortTL_sorted l) (hp.trans (sortTL_perm l).symm)
def sortTQ (l : List α) : Option (List α) := some (sortTL l)
def uniq [DecidableEq α] : List α → List α
  | [] => []
  | a :: l => if a ∈ uniq l then uniq l else a :: uniq l
theorem mem_uniq [DecidableEq α] {a : α} : ∀ {l : List α}, a ∈ uniq l ↔ a ∈ l
  | [] => Iff.rfl
  | b :: l => by
    unfold uniq
    by_cases h : b ∈ uniq l
    · rw [if_pos h, mem_uniq, List.mem_cons]
      exact ⟨.inr, fun z => z.elim (fun e => e ▸ mem_uniq.mp h) fun z => z⟩
    · rw [if_neg h, List.mem_cons, List.mem_cons, mem_uniq]
theorem nodup_uniq [DecidableEq α] : ∀ l : List α, (uniq l).Nodup
  | [] => List.nodup_nil
  | a :: l => by
    unfold uniq
    by_cases h : a ∈ uniq l
    · rw [if_pos h]; exact nodup_uniq l
    · rw [if_neg h]; exact List.nodup_cons.mpr ⟨h, nodup_uniq l⟩
theorem len_uniq [DecidableEq α] : ∀ l : List α, (uniq l).length ≤ l.length
  | [] => Nat.le_refl _
  | a :: l => by
    unfold uniq
    have := len_uniq l
    by_cases h : a ∈ uniq l
    · rw [if_pos h, List.length_cons]; omega
    · rw [if_neg h, List.length_cons, List.length_cons]; omega
def sortSetL [DecidableEq α] (l : List α) : List α := sortTL (uniq l)
def sortSetQ [DecidableEq α] (l : List α) : Option (List α) := if l.length < 64 then some (sortSetL l) else none
def lenSetQ [DecidableEq α] (l : List α) : Option Int := if l.length < 64 then some ((uniq l).length : Int) else none
theorem sortSetL_eq [DecidableEq α] {l k : List α} (hm : ∀ a, a ∈ k ↔ a ∈ l) (hn : k.Nodup) (hs : k.Pairwise fun a b => leT a b = true) : k = sortSetL l :=
  sortTL_eq ((List.perm_ext_iff_of_nodup hn (nodup_uniq l)).mpr fun a => by rw [hm, mem_uniq]) hs
theorem mem_sortSetL [DecidableEq α] {l : List α} {a : α} : a ∈ sortSetL l ↔ a ∈ l := by
  unfold sortSetL
  rw [(sortTL_perm (uniq l)).mem_iff, mem_uniq]
theorem nodup_sortSetL [DecidableEq α] (l : List α) : (sortSetL l).Nodup := (sortTL_perm (uniq l)).nodup_iff.mpr (nodup_uniq l)
theorem sorted_sortSetL [DecidableEq α] (l : List α) : (sortSetL l).Pairwise fun a b => leT a b = true := sortTL_sorted _
/-! the values -/
variable {K : PySem.W.Frag} {Hv : Hp}
theorem rpI_sqT {t : Addr} {ns : List Int} (h : Rp K Hv (.ref t) (dI ns)) : SqT K Hv t (ns.map V.int) := by
  obtain ⟨a, vs, e, h1, h2⟩ := rp_tuple h
  cases e
  have : vs = ns.map V.int := rpA_ints (ns := ns) h2
  rw [← this]
  exact h1
theorem rpA_keys : ∀ {vs : List L2.V} (l : List α), RpA K Hv vs (l.map enc) → ∃ ks : List (Addr × List Int), vs = ks.map (fun p => V.ref p.1) ∧ ks.map (·.2) = l.map IT.key ∧ ∀ p ∈ ks, Rp K Hv (.ref p.1) (dI p.2)
  | _, [], .nil => ⟨[], rfl, rfl, fun p h => nomatch h⟩
  | _, a :: l, .cons r t => by
    obtain ⟨ks, h1, h2, h3⟩ := rpA_keys l t
    rw [IT.encI] at r
    obtain ⟨q, us, e, _⟩ := rp_tuple r
    subst e
    refine ⟨(q, IT.key a) :: ks, by rw [h1]; rfl, by simp [h2], fun p hp => ?_⟩
    rcases List.mem_cons.mp hp with e | hp
    · rw [e]; exact r
    · exact h3 p hp
theorem rpA_back : ∀ {ks : List (Addr × List Int)} {l : List α}, ks.map (·.2) = l.map IT.key → (∀ p ∈ ks, Rp K Hv (.ref p.1) (dI p.2)) → RpA K Hv (ks.map fun p => V.ref p.1) (l.map enc)
  | [], [], _, _ => .nil
  | [], _ :: _, h, _ => nomatch h
  | _ :: _, [], h, _ => nomatch h
  | p :: ks, a :: l, h, r => by
    rw [List.map_cons, List.map_cons, List.cons.injEq] at h
    refine .cons ?_ (rpA_back h.2 fun q hq => r q (List.mem_cons_of_mem _ hq))
    have := r p List.mem_cons_self
    rw [h.1, ← IT.encI] at this
    exact this
end
/-! ### sorted(list) -/
def rSortL (K : PySem.W.Frag) : List L2.V → Hp → VK → Prop := fun vs H Q => ∃ (a : Addr) (ks : List (Addr × List Int)), vs = [V.ref a] ∧ SqL K H a (ks.map fun p => V.ref p.1) ∧ (∀ p ∈ ks, SqT K H p.1 (p.2.map V.int) ∧ p.2 ≠ []) ∧
  ∀ (L : List (Addr × List Int)) (p : Addr), L.Perm ks → (L.Pairwise fun q r => lexL r.2 q.2 = false) → H p = none → Q (.ref p) (upd H p (.lst (L.map fun q => V.ref q.1)))
section
variable {X : Cx}
theorem tupI_of {pins : List (Addr × Obj)} {σ : L2.St} {H : Hp} {s : Shared} {t : Addr} {ns : List Int} (I : Inv X pins σ H s) (h : SqT X.K H t (ns.map V.int)) : TS.TupInts s.heap (.ref t) ns := by
  obtain ⟨its, r, pl, _⟩ := I.tuple h
  exact ⟨t, its.toArray, rfl, pl, by simpa using r.ints⟩
/-- addresses with their keys, in the order of their values -/
theorem back_keys {f : Addr → List Int} : ∀ {out : List Value} {ks : List (Addr × List Int)}, (∀ v ∈ out, ∃ p ∈ ks, v = Value.ref p.1) → (∀ p ∈ ks, f p.1 = p.2) → ∃ L : List (Addr × List Int), out = L.map (fun p => Value.ref p.1) ∧ ∀ p ∈ L, p ∈ ks
  | [], _, _, _ => ⟨[], rfl, fun _ h => nomatch h⟩
  | v :: out, ks, h, hf => by
    obtain ⟨p, hp, e⟩ := h v List.mem_cons_self
    obtain ⟨L, e1, e2⟩ := back_keys (out := out) (fun u hu => h u (List.mem_cons_of_mem _ hu)) hf
    refine ⟨p :: L, by rw [e, e1]; rfl, fun q hq => ?_⟩
    rcases List.mem_cons.mp hq with z | z
    · rw [z]; exact hp
    · exact e2 q z
theorem perm_keys {f : Addr → List Int} {L ks : List (Addr × List Int)} (h : (L.map fun p => Value.ref p.1).Perm (ks.map fun p => Value.ref p.1)) (hL : ∀ p ∈ L, f p.1 = p.2) (hk : ∀ p ∈ ks, f p.1 = p.2) : L.Perm ks := by
  have g : ∀ M : List (Addr × List Int), (∀ p ∈ M, f p.1 = p.2) → (M.map fun p => Value.ref p.1).map (fun v => match v with | .ref a => (a, f a) | _ => (0, [])) = M := by
    intro M hM
    rw [List.map_map]
    conv => rhs; rw [← List.map_id M]
    refine List.map_congr_left fun p hp => ?_
    show (p.1, f p.1) = p
    rw [hM p hp]
  have := h.map (fun v => match v with | .ref a => (a, f a) | _ => ((0 : Addr), ([] : List Int)))
  rw [g L hL, g ks hk] at this
  exact this
theorem vals_keys : ∀ (L : List (Addr × List Int)), Vals (L.map fun p => V.ref p.1) (L.map fun p => Value.ref p.1)
  | [] => .nil
  | p :: L => .cons rfl (vals_keys L)
theorem vals_keys_eq : ∀ {ks : List (Addr × List Int)} {us : List Value}, Vals (ks.map fun p => V.ref p.1) us → us = ks.map fun p => Value.ref p.1
  | [], _, .nil => rfl
  | p :: ks, _, .cons r t => by
    cases r
    rw [vals_keys_eq t]
    rfl
theorem cr_sortL : CallR X (.builtin "sorted") (rSortL X.K) := by
  intro pins s σ H vs us Q I r h
  obtain ⟨a, ks, rfl, hs, hk, q⟩ := h
  obtain ⟨its, rv, hl, hz⟩ := I.list hs
  have ei := vals_keys_eq rv
  rw [Vals.ref1 r]
  have hT : ∀ p ∈ ks, TS.TupInts s.heap (.ref p.1) p.2 := fun p hp => tupI_of I (hk p hp).1
  have hf : ∀ p ∈ ks, TS.intsOf s.heap (.ref p.1) = p.2 := fun p hp => (hT p hp).ints
  have hv : ∀ v ∈ its, TS.TupInts s.heap v (TS.intsOf s.heap v) ∧ TS.intsOf s.heap v ≠ [] := by
    intro v hv
    rw [ei] at hv
    obtain ⟨p, hp, rfl⟩ := List.mem_map.mp hv
    rw [hf p hp]
    exact ⟨hT p hp, (hk p hp).2⟩
  refine SrtO.sorted_ord (ltv := fun v u => lexL (TS.intsOf s.heap v) (TS.intsOf s.heap u)) (swoL (TS.intsOf s.heap)) hl.isList (by rw [← rv.length]; exact hz) (fun h2 h₁ b hb kk => ?_) fun out h1 h2 => ?_
  · refine tups_sortable (s := { s with heap := h₁ }) (by omega) (fun v hm => ⟨(hv v hm).1.keeps fun b o e _ => (kk b o e).2, (hv v hm).2⟩) fun o e => ?_
    have e' : some o = some (seqObj "list" its.toArray 0) := e.symm.trans hb
    cases e'
    intro c
    exact absurd (Value.type.inj c) (by decide)
  · obtain ⟨L, e1, e2⟩ := back_keys (f := fun a => TS.intsOf s.heap (.ref a)) (out := out) (ks := ks) (fun v hv => by
      have : v ∈ its := h2.perm.mem_iff.mp hv
      rw [ei] at this
      obtain ⟨p, hp, e⟩ := List.mem_map.mp this
      exact ⟨p, hp, e.symm⟩) hf
    have hp : L.Perm ks := perm_keys (f := fun a => TS.intsOf s.heap (.ref a)) (by rw [← e1, ← ei]; exact h2.perm) (fun p hp => hf p (e2 p hp)) hf
    have hw : L.Pairwise fun q r => lexL r.2 q.2 = false := by
      rw [e1] at h1
      refine List.Pairwise.imp_of_mem (fun {q r} hq hr hle => ?_) (List.pairwise_map.mp h1)
      rw [← hf q (e2 q hq), ← hf r (e2 r hr)]
      exact hle
    obtain ⟨n, hn⟩ := sortedAll_at s.heap its out.toArray
    refine ⟨.ref (s.heap.objs.size + 1), upd H (s.heap.objs.size + 1) (.lst (L.map fun q => V.ref q.1)), I.laid (t' := s.toks) (fun b o e => sortedAll_old e) (Nat.le_succ _) ⟨?_, out, n, by rw [e1]; exact vals_keys L, hn⟩, rfl, q L _ hp hw (I.hok.fresh (Nat.le_succ _))⟩
    rw [List.length_map, hp.length_eq]
    rw [List.length_map] at hz
    exact hz
/-! ### sorted(set) -/
def rSortS (K : PySem.W.Frag) (P : Program) (w : World) : List L2.V → Hp → VK → Prop := fun vs H Q => ∃ (a : Addr) (L : List (Addr × List Int)), vs = [V.ref a] ∧ H a = some (SetTO P w a L) ∧ (∀ p ∈ L, SqT K H p.1 (p.2.map V.int) ∧ p.2 ≠ []) ∧
  ∀ (M : List (Addr × List Int)) (p : Addr), M.Perm L → (M.map (·.2)).Nodup → (M.Pairwise fun q r => lexL r.2 q.2 = false) → H p = none → Q (.ref p) (upd H p (.lst (M.map fun q => V.ref q.1)))
theorem cr_sortS (hc : X.calm = true) : CallR X (.builtin "sorted") (rSortS X.K X.prog X.w) := by
  intro pins s σ H vs us Q I r h
  obtain ⟨a, L, rfl, ha, hk, q⟩ := h
  have R0 : SetT0 X.prog X.w s.heap a L := (I.hok a _ ha).1
  obtain ⟨es, ep, t, R⟩ := R0.full fun p hp => I.isT (hk p hp).1
  rw [Vals.ref1 r]
  obtain ⟨o, ho, hex, hd⟩ := R.ob
  have hsz := R.size
  have hfew := R.few
  refine Calls.call_function_entry kind_sorted plain_sorted entry_sorted (args_sorted1 _) ?_
  unfold Builtin.«sorted»
  refine wpAny_bind (m := checkCount "sorted" 1 1 _) (wpAny_pure ?_)
  refine wpAny_bind (collect_set (A := X.A.in1) (I.ok.hd hc) ⟨o, ho, hex.1, hd⟩ R.fits (by unfold scanBound; omega) R.tab.ris R.led fun s1 vs k1 hz g1 o1 pm => ?_)
  have hes : es.toList.map (·.2) = L.map fun q => Value.ref q.1 := by
    rw [R.rows]
    unfold rowsOf
    rw [List.map_map]
    rfl
  rw [hes] at pm
  have hT : ∀ p ∈ L, TS.TupInts s1.heap (.ref p.1) p.2 := fun p hp => (tupI_of I (hk p hp).1).keeps fun b o e _ => k1 b o e
  have hf : ∀ p ∈ L, TS.intsOf s1.heap (.ref p.1) = p.2 := fun p hp => (hT p hp).ints
  have hvl : vs.length = L.length := by rw [pm.length_eq, List.length_map]
  have hv : ∀ v ∈ vs, TS.TupInts s1.heap v (TS.intsOf s1.heap v) ∧ TS.intsOf s1.heap v ≠ [] := by
    intro v hv
    obtain ⟨p, hp, rfl⟩ := List.mem_map.mp (pm.mem_iff.mp hv)
    rw [hf p hp]
    exact ⟨hT p hp, (hk p hp).2⟩
  have hline : vs.length ≤ sizeLine := by rw [sizeLine_eq]; omega
  refine wpAny_bind (wpAny_newList ?_ hline)
  have hoL : (s1.heap.push (seqObj "list" vs.toArray 0)).get? s1.heap.objs.size = some (seqObj "list" vs.toArray 0) := Heap.get?_push_size _ rfl
  have kk : ∀ b o, s1.heap.get? b = some o → (s1.heap.push (seqObj "list" vs.toArray 0)).get? b = some o := fun b o e => Heap.get?_push_of_some _ e
  refine wpAny_bind (wpAny_holding (wpAny_call_entry (s := { s1 with heap := s1.heap.push (seqObj "list" vs.toArray 0) }) slot_list_sort ⟨_, hoL, rfl⟩ entry_list_sort
    (SrtO.list_sort_ord (ltv := fun v u => lexL (TS.intsOf s1.heap v) (TS.intsOf s1.heap u)) (swoL (TS.intsOf s1.heap)) hoL hline (fun h2 => ?_) fun out h1 h2 => ⟨_, rfl, ?_⟩) (args_list_sort _)))
  · refine tups_sortable (s := { s1 with heap := s1.heap.push (seqObj "list" vs.toArray 0) }) (by omega) (fun v hm => ⟨(hv v hm).1.keeps fun b o e _ => kk b o e, (hv v hm).2⟩) fun o e => ?_
    have e' : some o = some (seqObj "list" vs.toArray 0) := e.symm.trans hoL
    cases e'
    intro c
    exact absurd (Value.type.inj c) (by decide)
  · obtain ⟨M, e1, e2⟩ := back_keys (f := fun a => TS.intsOf s1.heap (.ref a)) (out := out) (ks := L) (fun v hv => by
      obtain ⟨p, hp, e⟩ := List.mem_map.mp (pm.mem_iff.mp (h2.perm.mem_iff.mp hv))
      exact ⟨p, hp, e.symm⟩) hf
    have hp : M.Perm L := perm_keys (f := fun a => TS.intsOf s1.heap (.ref a)) (by rw [← e1]; exact h2.perm.trans pm) (fun p hp => hf p (e2 p hp)) hf
    have hw : M.Pairwise fun q r => lexL r.2 q.2 = false := by
      rw [e1] at h1
      refine List.Pairwise.imp_of_mem (fun {q r} hq hr hle => ?_) (List.pairwise_map.mp h1)
      rw [← hf q (e2 q hq), ← hf r (e2 r hr)]
      exact hle
    obtain ⟨n, hn⟩ := sortedHeap_at (vs := vs) (out := out.toArray) hoL
    have old : ∀ b o, s.heap.get? b = some o → (sortedHeap (s1.heap.push (seqObj "list" vs.toArray 0)) s1.heap.objs.size vs out.toArray).get? b = some o := fun b o e => by
      have q := k1 b o e
      have hlt := Heap.lt_size q
      rw [sortedHeap_old (Nat.ne_of_lt hlt) (by rw [size_push']; exact Nat.lt_succ_of_lt hlt)]
      exact kk b o q
    have hn' : H s1.heap.objs.size = none := I.hok.fresh hz
    have hlen : (M.map fun q => V.ref q.1).length ≤ sizeLine := by rw [List.length_map, hp.length_eq, sizeLine_eq]; omega
    have J : Inv X pins σ (upd H s1.heap.objs.size (.lst (M.map fun q => V.ref q.1))) { s with heap := sortedHeap (s1.heap.push (seqObj "list" vs.toArray 0)) s1.heap.objs.size vs out.toArray, gens := s1.gens, drawn := s1.drawn, toks := s1.toks } :=
      I.call (ch := []) (Un.laid old hz hn') (I.hok.laid old hz ⟨hlen, out, n, by rw [e1]; exact vals_keys M, hn⟩) (by rw [g1]; exact I.bare) (fun _ z => nomatch z)
    refine wpAny_pure ⟨_, rfl, ?_⟩
    have e : ({ s1 with heap := sortedHeap (s1.heap.push (seqObj "list" vs.toArray 0)) s1.heap.objs.size vs out.toArray } : Shared) = { s with heap := sortedHeap (s1.heap.push (seqObj "list" vs.toArray 0)) s1.heap.objs.size vs out.toArray, gens := s1.gens, drawn := s1.drawn, toks := s1.toks } := by
      cases s1
      cases s
      cases o1
      rfl
    rw [e]
    exact ⟨.ref _, _, J, rfl, q M _ hp ((hp.map (·.2)).nodup_iff.mpr R.nd) hw hn'⟩
/-! ### len(set) -/
def rLenS (K : PySem.W.Frag) (P : Program) (w : World) : List L2.V → Hp → VK → Prop := fun vs H Q => ∃ (a : Addr) (L : List (Addr × List Int)), vs = [V.ref a] ∧ H a = some (SetTO P w a L) ∧ (∀ p ∈ L, SqT K H p.1 (p.2.map V.int)) ∧ ((L.map (·.2)).Nodup → Q (.int L.length) H)
theorem cr_lenS : CallR X (.builtin "len") (rLenS X.K X.prog X.w) := by
  intro pins s σ H vs us Q I r h
  obtain ⟨a, L, rfl, ha, hk, q⟩ := h
  have R0 : SetT0 X.prog X.w s.heap a L := (I.hok a _ ha).1
  obtain ⟨es, ep, t, R⟩ := R0.full fun p hp => I.isT (hk p hp)
  obtain ⟨o, ho, hex, hd⟩ := R.ob
  rw [Vals.ref1 r]
  have hsz := R.size
  have hfew := R.few
  exact call_len_set ho hex hd R.fits (by rw [hsz]; omega) ⟨.int L.length, H, I.tok _, ⟨_, by rw [hsz]⟩, q R.nd⟩
end
section
variable {X : Cx} {γ α : Type} [Enc α] [IT α] {Ve : Ev γ} {m : Md} {p : Bool} {e : Expr} {pos : Pos}
theorem s_sortT {f : Ac γ (List α)} {p0 : Pos} (hx : X.mg "sorted" = none) (ha : SE X Ve m p e f) (hels : ElsT X (α := α) Ve m := by first | exact fun _ _ _ _ _ _ _ j r => rm_elsT rfl r | exact fun _ _ _ _ _ _ _ j r => rm_elsF j r) (hg : Gl X "sorted" := by rfl) (he : starEach (e :: []) X.env = (false, eval e X.env) :: starEach [] X.env := by rfl) (hpl : (backTo pos (starEach [] X.env)).any (·.1) = false := by rfl) :
    SN X Ve p (.Call (.Name "sorted" p0) [e] [] pos) (op1 sortTQ f) :=
  s_b1N (id' := "sorted") (r := fun K => rSortL K) cr_sortL (fun Z hK => fun A g σ H x l c Q j rx e q => by
    obtain ⟨t, vs, rfl, e2, e3⟩ := hels Z A g σ H x l j rx
    obtain rfl := some_inj' e
    obtain ⟨ks, k1, k2, k3⟩ := rpA_keys l e3
    subst k1
    refine ⟨t, ks, rfl, seqL e2, fun y hy => ⟨hK ▸ sqT_same gh_le (rpI_sqT (k3 y hy)), ?_⟩, fun L n hp hs hn => ?_⟩
    · have : y.2 ∈ l.map IT.key := by rw [← k2]; exact List.mem_map.mpr ⟨y, hy, rfl⟩
      obtain ⟨a, _, ea⟩ := List.mem_map.mp this
      rw [← ea]
      exact IT.ne a
    · have h1 : (L.map (·.2)).Perm (l.map IT.key) := by rw [← k2]; exact hp.map _
      have h2 : L.map (·.2) = (sortTL l).map IT.key := by
        refine List.Perm.eq_of_pairwise (le := fun a b => lexL b a = false) (fun a b _ _ z1 z2 => lexL_anti a b z2 z1) (List.pairwise_map.mpr hs) (List.pairwise_map.mpr ((sortTL_sorted l).imp fun {a b} z => ?_)) (h1.trans ((sortTL_perm l).map _).symm)
        simpa [leT] using z
      exact q n _ hn (rpA_back h2 fun y hy => k3 y (hp.mem_iff.mp hy))) hx ha (by decide +kernel) hg (by decide) (by decide) he hpl
theorem tCBset {r1 r2 : List L2.V → Hp → VK → Prop} {te : TE} : tCB r1 (tCons (tCB r2 (tCons te tNil)) tNil) = tUn (fun x H Q => r2 [x] H fun y H2 => r1 [y] H2 Q) te := rfl
def UnN2 {δ : Type} [Enc δ] (Z : Fix) (r : L2.V → Hp → VK → Prop) (m1 : Md) (k : α → Option (List δ)) (Ve : Ev γ) : Prop :=
  ∀ (A : AT) (g : γ) (σ : L2.St) (H : Hp) (x : L2.V) (a : α) (c : List δ) (Q : VK), J Z A (at_ Ve g) σ H → Rm Z A Ve H m1 x (enc a) → k a = some c →
    (∀ q vs H', Same H H' → H' q = none → RpA Z.K (GH Z (OwV A Ve) H') vs (c.map enc) → Q (.ref q) (upd H' q (.lst vs))) → r x H Q
theorem tUnN_ok2 {β δ : Type} [Enc β] [Enc δ] {mg : Str → Option Value} {Z : Fix} {W : WX} {r : L2.V → Hp → VK → Prop} {k : β → Option (List δ)} {f : Ac γ β} (hk : UnN2 Z r m k Ve) {σ : L2.St} {H : Hp} {Q : VK} (h : tN mg Z W Ve p (op1 k f) σ H Q) : tUn r (tE mg Z W Ve m p f) σ H Q := by
  obtain ⟨g, A, j, h⟩ := h
  refine ⟨g, A, j, ?_⟩
  unfold op1 bindA at h
  cases ef : f g with
  | bad => rw [ef] at h; exact h
  | exc x g1 => rw [ef] at h; exact h
  | ok a g1 =>
    rw [ef] at h
    unfold optA at h
    cases ek : k a with
    | none => simp only [ek] at h
    | some c =>
      simp only [ek] at h
      intro v H1 j1 gr sm rv
      exact hk A g1 σ H1 v a c Q j1 rv ek fun q vs H' s hq rq => h q vs H' hq (j1.same s) (gr.trans (.of s)) (fun z => (sm z).trans s) rq
/-- what stands behind set(l) -/
theorem set_keys [DecidableEq α] {l : List α} {ks L : List (Addr × List Int)} (hk : ks.map (·.2) = l.map IT.key) (h1 : ∀ p ∈ L, p ∈ ks) (h2 : ∀ p ∈ ks, p.2 ∈ L.map (·.2)) (hn : (L.map (·.2)).Nodup) :
    ∃ k : List α, L.map (·.2) = k.map IT.key ∧ k.Nodup ∧ ∀ a, a ∈ k ↔ a ∈ l := by
  have h3 : ∀ M : List (Addr × List Int), (∀ p ∈ M, p ∈ ks) → ∃ k : List α, M.map (·.2) = k.map IT.key ∧ ∀ a ∈ k, a ∈ l := by
    intro M
    induction M with
    | nil => intro _; exact ⟨[], rfl, fun a h => nomatch h⟩
    | cons p M ih =>
      intro hM
      obtain ⟨k, e1, e2⟩ := ih fun q hq => hM q (List.mem_cons_of_mem _ hq)
      have : p.2 ∈ l.map IT.key := by rw [← hk]; exact List.mem_map.mpr ⟨p, hM p List.mem_cons_self, rfl⟩
      obtain ⟨a, ha, ea⟩ := List.mem_map.mp this
      refine ⟨a :: k, by rw [List.map_cons, List.map_cons, e1, ea], fun b hb => ?_⟩
      rcases List.mem_cons.mp hb with e | hb
      · rw [e]; exact ha
      · exact e2 b hb
  obtain ⟨k, e1, e2⟩ := h3 L h1
  refine ⟨k, e1, ?_, fun a => ⟨e2 a, fun ha => ?_⟩⟩
  · rw [e1] at hn
    exact List.Pairwise.of_map _ (fun a b hne e => hne (by rw [e])) hn
  · have : IT.key a ∈ ks.map (·.2) := by rw [hk]; exact List.mem_map.mpr ⟨a, ha, rfl⟩
    obtain ⟨p, hp, ep⟩ := List.mem_map.mp this
    have := h2 p hp
    rw [ep, e1] at this
    obtain ⟨b, hb, eb⟩ := List.mem_map.mp this
    rw [← IT.inj b a eb]
    exact hb
theorem s_sortSet [DecidableEq α] {f : Ac γ (List α)} {p0 p1 pos2 : Pos} (hu : X.A.units + 64 < cLine) (hx : X.mg "sorted" = none) (hx2 : X.mg "set" = none) (hc : X.calm = true) (ha : SE X Ve m p e f) (hels : ElsT X (α := α) Ve m := by first | exact fun _ _ _ _ _ _ _ j r => rm_elsT rfl r | exact fun _ _ _ _ _ _ _ j r => rm_elsF j r) (hg : Gl X "sorted" := by rfl) (hg2 : Gl X "set" := by rfl)
    (he : starEach (e :: []) X.env = (false, eval e X.env) :: starEach [] X.env := by rfl) (he2 : starEach (.Call (.Name "set" p1) [e] [] pos2 :: []) X.env = (false, eval (.Call (.Name "set" p1) [e] [] pos2) X.env) :: starEach [] X.env := by rfl) (hpl : (backTo pos (starEach [] X.env)).any (·.1) = false := by rfl) (hpl2 : (backTo pos2 (starEach [] X.env)).any (·.1) = false := by rfl) :
    SN X Ve p (.Call (.Name "sorted" p0) [.Call (.Name "set" p1) [e] [] pos2] [] pos) (op1 sortSetQ f) :=
  ⟨fun Z W hK tk => (pe_callB (cr_sortS hc) hg hx (by decide +kernel) (pa_cons (pe_callTy (cr_setOfT hc hu) hg2 hx2 PyProof.Rows.boot_set (pa_cons (ha.run Z W hK tk) pa_nil he) (by decide) (by decide) he hpl2) pa_nil he2) (by decide) (by decide) he2 hpl).weak fun σ H Q q => by
    rw [tCBset]
    refine tUnN_ok2 (m := m) (fun A g σ H x l c Q j rx e q => ?_) q
    obtain ⟨t, vs, rfl, e2, e3⟩ := hels Z A g σ H x l j rx
    obtain ⟨h64, rfl⟩ := ite_some e
    obtain ⟨ks, k1, k2, k3⟩ := rpA_keys l e3
    subst k1
    have hlen : ks.length = l.length := by
      have := congrArg List.length k2
      simpa using this
    have hne : ∀ y ∈ ks, y.2 ≠ [] := by
      intro y hy
      have : y.2 ∈ l.map IT.key := by rw [← k2]; exact List.mem_map.mpr ⟨y, hy, rfl⟩
      obtain ⟨a, _, ea⟩ := List.mem_map.mp this
      rw [← ea]
      exact IT.ne a
    have hsq : ∀ y ∈ ks, SqT X.K H y.1 (y.2.map V.int) := fun y hy => hK ▸ sqT_same gh_le (rpI_sqT (k3 y hy))
    refine ⟨t, ks, rfl, seqL e2, hsq, by omega, fun a L hn h1 h2 => ?_⟩
    have j2 := j.new (o := SetTO X.prog X.w a L) hn
    have sm : Same H (upd H a (SetTO X.prog X.w a L)) := same_new hn
    refine ⟨a, L, rfl, upd_same, fun y hy => ⟨sqT_same sm (hsq y (h1 y hy)), hne y (h1 y hy)⟩, fun M n hp hnd hs hn2 => ?_⟩
    have hM1 : ∀ y ∈ M, y ∈ ks := fun y hy => h1 y (hp.mem_iff.mp hy)
    have hM2 : ∀ y ∈ ks, y.2 ∈ M.map (·.2) := fun y hy => (hp.map (·.2)).mem_iff.mpr (h2 y hy)
    obtain ⟨k, m1, m2, m3⟩ := set_keys k2 hM1 hM2 hnd
    have ek : k = sortSetL l := by
      refine sortSetL_eq m3 m2 ?_
      have hs' : (M.map (·.2)).Pairwise fun a b => lexL b a = false := List.pairwise_map.mpr hs
      rw [m1] at hs'
      exact (List.pairwise_map.mp hs').imp fun {a b} z => by simp [leT, z]
    subst ek
    refine q n _ _ sm hn2 (rpA_back m1 fun y hy => ?_)
    exact Rp.mono (Gr.of sm).gh _ (k3 y (hM1 y hy))⟩
theorem s_lenSet [DecidableEq α] {f : Ac γ (List α)} {p0 p1 pos2 : Pos} (hu : X.A.units + 64 < cLine) (hx : X.mg "len" = none) (hx2 : X.mg "set" = none) (hc : X.calm = true) (ha : SE X Ve m p e f) (hg : Gl X "len" := by rfl) (hg2 : Gl X "set" := by rfl)
    (he : starEach (e :: []) X.env = (false, eval e X.env) :: starEach [] X.env := by rfl) (he2 : starEach (.Call (.Name "set" p1) [e] [] pos2 :: []) X.env = (false, eval (.Call (.Name "set" p1) [e] [] pos2) X.env) :: starEach [] X.env := by rfl) (hpl : (backTo pos (starEach [] X.env)).any (·.1) = false := by rfl) (hpl2 : (backTo pos2 (starEach [] X.env)).any (·.1) = false := by rfl) :
    SE X Ve .fr p (.Call (.Name "len" p0) [.Call (.Name "set" p1) [e] [] pos2] [] pos) (op1 lenSetQ f) :=
  ⟨fun Z W hK tk => (pe_callB cr_lenS hg hx PySem.boot_len (pa_cons (pe_callTy (cr_setOfT hc hu) hg2 hx2 PyProof.Rows.boot_set (pa_cons (ha.run Z W hK tk) pa_nil he) (by decide) (by decide) he hpl2) pa_nil he2) (by decide) (by decide) he2 hpl).weak fun σ H Q q => by
    rw [tCBset]
    refine tUn_ok (m1 := m) (fun A g σ H x l c Q j rx e q => ?_) q
    obtain ⟨t, vs, rfl, e2, e3⟩ := rm_els rx
    obtain ⟨h64, rfl⟩ := ite_some e
    obtain ⟨ks, k1, k2, k3⟩ := rpA_keys l e3
    subst k1
    have hlen : ks.length = l.length := by
      have := congrArg List.length k2
      simpa using this
    have hsq : ∀ y ∈ ks, SqT X.K H y.1 (y.2.map V.int) := fun y hy => hK ▸ sqT_same hp_le (rpI_sqT (k3 y hy))
    refine ⟨t, ks, rfl, seqL e2, hsq, by omega, fun a L hn h1 h2 => ?_⟩
    have sm : Same H (upd H a (SetTO X.prog X.w a L)) := same_new hn
    refine ⟨a, L, rfl, upd_same, fun y hy => sqT_same sm (hsq y (h1 y hy)), fun hnd => ?_⟩
    obtain ⟨k, m1, m2, m3⟩ := set_keys k2 h1 h2 hnd
    have hl : L.length = (uniq l).length := by
      have e1 := congrArg List.length m1
      simp only [List.length_map] at e1
      rw [e1]
      exact ((List.perm_ext_iff_of_nodup m2 (nodup_uniq l)).mpr fun a => by rw [m3, mem_uniq]).length_eq
    rw [hl]
    exact q _ _ sm (j.new hn) (.int _)⟩
end
end HL
/-! Fp: chained comparisons, own[k], name = e, pop, list(reversed(..)), range with steps. -/
namespace HL
open PySem PySem.Spec PyProof.Rows L2

/-! ### a op b op c -/
def ltB (a b : Int) : Bool := decide (a < b)
def leB (a b : Int) : Bool := decide (a ≤ b)
def chA {γ : Type} (k1 k2 : Int → Int → Bool) (f h l : Ac γ Int) : Ac γ Bool := bindA f fun a => bindA h fun b => if k1 a b = true then bindA l fun c => pureA fun _ => k2 b c else pureA fun _ => false
section
variable {X : Cx} {γ α β : Type} [Enc α] {Ve : Ev γ} {m m1 m2 m3 : Md} {p p1 p2 p3 : Bool} {e a b c : Expr} {pos : Pos}
theorem ch_ok {k1 k2 : Int → Int → Bool} {f h l : Ac γ Int} {mg : Str → Option Value} {Z : Fix} {W : WX} {σ : L2.St} {H : Hp} {Q : VK} (q : tE mg Z W Ve .fr (p1 && (p2 && p3)) (chA k1 k2 f h l) σ H Q) :
    tChain (rI0 fun i j => .bl (k1 i j)) (rI0 fun i j => .bl (k2 i j)) (tE mg Z W Ve m1 p1 f) (tE mg Z W Ve m2 p2 h) (tE mg Z W Ve m3 p3 l) σ H Q := by
  obtain ⟨g, A, j, q⟩ := q
  refine ⟨g, A, j, ?_⟩
  unfold chA bindA pureA at q
  cases ef : f g with
  | bad => simp only [ef] at q
  | exc x g1 => simp only [ef] at q; exact q
  | ok i g1 =>
    simp only [ef] at q
    intro v H1 j1 gr1 sm1 rv
    cases rp_int rv.full
    refine ⟨g1, A, j1, ?_⟩
    cases eh : h g1 with
    | bad => simp only [eh] at q
    | exc x g2 =>
      simp only [eh] at q
      exact fun c H' mc j' gr' => q c H' mc j' (gr1.trans gr')
    | ok k g2 =>
      simp only [eh] at q
      intro w H2 j2 gr2 sm2 rw2
      cases rp_int rw2.full
      refine ⟨i, k, rfl, rfl, k1 i k, rfl, ?_⟩
      cases e1 : k1 i k with
      | false =>
        simp only [e1, Bool.false_eq_true, if_false] at q ⊢
        exact q _ H2 j2 (gr1.trans gr2) (fun z => (sm1 (Bool.and_eq_true_iff.mp z).1).trans (sm2 (Bool.and_eq_true_iff.mp (Bool.and_eq_true_iff.mp z).2).1)) (.bl _)
      | true =>
        simp only [e1, if_true] at q ⊢
        refine ⟨g2, A, j2, ?_⟩
        cases el : l g2 with
        | bad => simp only [el] at q
        | exc x g3 =>
          simp only [el] at q
          exact fun c H' mc j' gr' => q c H' mc j' ((gr1.trans gr2).trans gr')
        | ok n g3 =>
          simp only [el] at q
          intro u H3 j3 gr3 sm3 ru
          cases rp_int ru.full
          exact ⟨k, n, rfl, rfl, q _ H3 j3 ((gr1.trans gr2).trans gr3) (fun z => ((sm1 (Bool.and_eq_true_iff.mp z).1).trans (sm2 (Bool.and_eq_true_iff.mp (Bool.and_eq_true_iff.mp z).2).1)).trans (sm3 (Bool.and_eq_true_iff.mp (Bool.and_eq_true_iff.mp z).2).2)) (.bl _)⟩
theorem op_ltB : OpR X (compareOp .Lt) (rI0 fun i j => .bl (ltB i j)) := op_lt
theorem op_leB : OpR X (compareOp .LtE) (rI0 fun i j => .bl (leB i j)) := op_le
theorem s_ch {op op' : CmpOp} {k1 k2 : Int → Int → Bool} {f h l : Ac γ Int} (ho : OpR X (compareOp op) (rI0 fun i j => .bl (k1 i j))) (ho' : OpR X (compareOp op') (rI0 fun i j => .bl (k2 i j))) (ha : SE X Ve m1 p1 a f) (hb : SE X Ve m2 p2 b h) (hc : SE X Ve m3 p3 c l)
    (hm : lastMarks [op, op'] [b, c] = false := by with_unfolding_all rfl) : SE X Ve .fr (p1 && (p2 && p3)) (.Compare a [op, op'] [b, c] pos) (chA k1 k2 f h l) :=
  ⟨fun Z W hK tk => (pe_chain ho ho' (ha.run Z W hK tk) (hb.run Z W hK tk) (hc.run Z W hK tk) hm).weak fun _ _ _ q => ch_ok q⟩
theorem t_ch {op op' : CmpOp} {k1 k2 : Int → Int → Bool} {f h l : Ac γ Int} (ho : OpR X (compareOp op) (rI0 fun i j => .bl (k1 i j))) (ho' : OpR X (compareOp op') (rI0 fun i j => .bl (k2 i j))) (ha : SE X Ve m1 p1 a f) (hb : SE X Ve m2 p2 b h) (hc : SE X Ve m3 p3 c l)
    (hm : lastMarks [op, op'] [b, c] = false := by with_unfolding_all rfl) : ST X Ve (p1 && (p2 && p3)) (.Compare a [op, op'] [b, c] pos) (chA k1 k2 f h l) :=
  ⟨fun Z W hK tk => (pt_chain ho ho' (ha.run Z W hK tk) (hb.run Z W hK tk) (hc.run Z W hK tk) hm).weak fun _ _ _ q => ch_ok (tT_test q)⟩

/-! ### own[k], name = e -/
def sixNameS {γ α β δ : Type} (get : γ → List α) (put : γ → List α → γ) (k : Int) (set : γ → δ → γ) (f : Ac γ (α × δ)) : Sc γ β := doS f fun a g => match setAt (get g) k a.1 with
  | some l => .nx (set (put g l) a.2)
  | none => .bad
end
section
variable {X : Cx} {γ α β δ : Type} [Enc α] [Enc δ] {C : FC γ β} {xj : XJ γ} {Ve Ve' : Ev γ} {p : Bool} {e : Expr} {pos : Pos}
theorem c_sixName {f : Ac γ (α × δ)} (i i2 : Nat) (get : γ → List α) (put : γ → List α → γ) (k : Int) (set : γ → δ → γ) {n n2 : Str} {p0 sp p2 pt kp : Pos} {kt jk : _} (hx : XOk xj Ve) (hc : X.calm = true) (he : SE X Ve .fr p e f) (hNn : X.N.Nodup)
    (hi : Ve[i]? = some (.own fun g => (get g).map enc) := by rfl) (hput : ∀ g l, at_ Ve (put g l) = (at_ Ve g).set i (.own (l.map enc)) := by exact fun _ _ => rfl) (hV : ∀ g a, at_ Ve' (set g a) = (at_ Ve g).set i2 (.imm true (enc a)) := by exact fun _ _ => rfl) (hno : noOwn Ve [i2] = true := by rfl)
    (hN : X.N[i]? = some n := by rfl) (hv : Vis X.env.scope n := by first | exact Or.inl rfl | exact Or.inr (Or.inl rfl) | exact Or.inr (Or.inr rfl)) (hd : (n == ("__debug__" : Str)) = false := by decide) (hcd : (n == ("__classdict__" : Str)) = false := by decide)
    (hN2 : X.N[i2]? = some n2 := by rfl) (hl2 : Loc X.env.scope n2 := by first | exact .inl rfl | exact .inr rfl) (hf2 : X.fn n2 = true ∨ X.env.scope.names.lookup n2 = some .local := by first | exact .inl rfl | exact .inr rfl)
    (ha : ∀ v, assign (.Subscript (.Name n p0) (.Constant (.int k) jk kp) sp) X.env v = (do
      let ov ← holding [v] (eval (.Name n p0) X.env)
      let iv ← holding [v, ov] (eval (.Constant (.int k) jk kp) X.env)
      standAt sp
      holding [v, ov, iv] (setItem ov iv v)
      release [v, ov, iv] []) := by intro _; rfl)
    (ha1 : (assignEach [.Subscript (.Name n p0) (.Constant (.int k) jk kp) sp, .Name n2 p2] X.env).map (·.2) = assign (.Subscript (.Name n p0) (.Constant (.int k) jk kp) sp) X.env :: (assignEach [.Name n2 p2] X.env).map (·.2) := by rfl)
    (ha2 : (assignEach [.Name n2 p2] X.env).map (·.2) = assign (.Name n2 p2) X.env :: (assignEach [] X.env).map (·.2) := by rfl)
    (hn : (assignEach [.Subscript (.Name n p0) (.Constant (.int k) jk kp) sp, .Name n2 p2] X.env).length = 2 := by rfl) (hst : (assignEach [.Subscript (.Name n p0) (.Constant (.int k) jk kp) sp, .Name n2 p2] X.env).findIdx? (·.1) = none := by rfl)
    (hs : swapsWithSole [.Tuple [.Subscript (.Name n p0) (.Constant (.int k) jk kp) sp, .Name n2 p2] kt pt] e pos.line X.env = pure false := by rfl) (hw : swappedStores [.Tuple [.Subscript (.Name n p0) (.Constant (.int k) jk kp) sp, .Name n2 p2] kt pt] e X.env = pure none := by rfl)
    (h1 : (assignEach [.Tuple [.Subscript (.Name n p0) (.Constant (.int k) jk kp) sp, .Name n2 p2] kt pt] X.env).map (·.2) = [assign (.Tuple [.Subscript (.Name n p0) (.Constant (.int k) jk kp) sp, .Name n2 p2] kt pt) X.env] := by rfl) :
    SS X C xj Ve Ve' (.Assign [.Tuple [.Subscript (.Name n p0) (.Constant (.int k) jk kp) sp, .Name n2 p2] kt pt] e pos) (sixNameS get put k set f) := ⟨fun Z W hK hio tk => by
  refine (ps_asg (he.run Z W hK tk) (pg_tup hc (pgs_cons (pg_sub (pe_var hN hv hd hcd) pe_int set_list ha) (pgs_cons (pg_name hNn hN2 hl2 hf2) pgs_nil ha2) ha1) hn hst) hs hw h1).weak fun D σ H q => ?_
  obtain ⟨g0, A0, j0, q0⟩ := q
  refine ⟨g0, A0, j0, ?_⟩
  unfold sixNameS doS at q0
  cases ef : f g0 with
  | bad => simp only [ef] at q0
  | exc x g1 =>
    simp only [ef] at q0
    exact fun c H' mc j' gr => q0 c A0 σ H' mc (hx _ _ _ _ _ j')
  | ok a g1 =>
    simp only [ef] at q0
    intro v H1 j1 gr sm rv
    have rv' : Rp Z.K (GH Z (OwV A0 Ve) H1) v (.tuple [enc a.1, enc a.2]) := rv
    obtain ⟨t, vs, rfl, e2, e3⟩ := rp_tuple rv'
    obtain ⟨v1, v2, rfl, r1, r2⟩ : ∃ v1 v2, vs = [v1, v2] ∧ Rp Z.K (GH Z (OwV A0 Ve) H1) v1 (enc a.1) ∧ Rp Z.K (GH Z (OwV A0 Ve) H1) v2 (enc a.2) := by
      cases e3 with
      | cons r1 t1 =>
        cases t1 with
        | cons r2 t2 =>
          cases t2
          exact ⟨_, _, rfl, r1, r2⟩
    have hr1 : (at_ Ve g1)[i]? = some (.own ((get g1).map enc)) := by rw [at_get, hi]; rfl
    obtain ⟨e1, us, e4, e5⟩ := j1.own i _ hr1
    rw [ow_at] at e5
    have el := e5.length
    rw [List.length_map] at el
    unfold setAt at q0
    cases en : ixN (get g1).length k with
    | none => simp only [en, Option.map_none] at q0
    | some n' =>
      simp only [en, Option.map_some] at q0
      obtain ⟨j3, st⟩ := j_chg (vs := us.set n' v1) (l := (get g1).set n' a.1) j1 hi hput (by rw [List.map_set]; exact e5.set n' r1)
      refine ⟨t, [v1, v2], rfl, hK ▸ sqT_same gh_le e2, rfl, _, _, rfl, _, e1, A0 i, us, k, n', rfl, rfl, e4, by rw [el]; exact en, _, _, rfl, rfl, ?_⟩
      have r2' : Rp Z.K (GH Z (OwV A0 Ve) (upd H1 (A0 i) (.lst (us.set n' v1)))) v2 (enc a.2) := Rp.mono (stt_gh st) _ r2
      have j4 := j3.setImm (i := i2) (fr := true) (v := v2) (d := enc a.2) (by rw [ow_at]; exact r2') (noio' j3 hno)
      rw [← hV] at j4
      refine q0 A0 _ _ j4 ((gr.stt.trans st).trans fun x o n h => ⟨h, fun y => n ?_⟩)
      rw [← ow_at (g := set (put g1 ((get g1).set n' a.1)) a.2), hV] at y
      rw [← ow_at (g := put g1 ((get g1).set n' a.1))]
      exact ow_set imm_ne x y⟩
end
end HL
/-! Fq: a call that is handed a list made for it alone, and may change it. -/
namespace HL
open PySem PySem.Spec PyProof.Rows L2
section
variable {X : Cx} {γ α β ι : Type} [Enc α] [Flat α] [Enc β] {Ve : Ev γ} {p : Bool} {e : Expr} {k : Nat} {f : Addr} {fd : FuncData} {ps : List Str} {pa : List α × Unit → List Par} {pio : ι → List (Nat × Ob)} {F : List α × Unit → FRes β ι}
theorem s_callT {x : Str} {fA : Ac γ (List α)} {p0 pos : Pos} (FO : FnOk X.prog X.w X.K X.mg X.base (L2.CX X.prog X.w) k f fd ps (spOf X.K X.mg .fr pa enc pio F)) (hr : Room k X.A) (hmg : X.mg x = some (.ref f)) (hk : PySem.W.keepIn X.K (.ref f) = true) (hb : Binds X.K fd ps [])
    (ha : SN X Ve p e fA) (hpa : ∀ a, pa a = [.ino (a.1.map enc)])
    (hg : Gl X x := by rfl) (hdb : (x == ("__debug__" : Str)) = false := by decide) (he : starEach (e :: []) X.env = (false, eval e X.env) :: starEach [] X.env := by rfl) (hpl : (backTo pos (starEach [] X.env)).any (·.1) = false := by rfl) :
    SE X Ve .fr p (.Call (.Name x p0) [e] [] pos) (callA (fun (_ : γ) t => t) F (pairA fA (pureA fun _ => ()))) := ⟨fun Z W hK tk => (pe_callS (E := WE W) FO hr hg hmg hk hb (fun σ => passAt tk σ) (pa_cons (ha.run Z W hK tk) pa_nil he) hdb he hpl).weak fun σ H Q q => by
  obtain ⟨g, A, j, q⟩ := q
  refine ⟨g, A, j, ?_⟩
  unfold callA pairA bindA pureA at q
  cases ef : fA g with
  | bad => simp only [ef] at q
  | exc x g1 => simp only [ef] at q; exact q
  | ok l g1 =>
    simp only [ef] at q
    intro qq vs H1 hn j1 gr1 sm1 rvs
    have jn := j1.new (o := .lst vs) hn
    have snew : Same H1 (upd H1 qq (.lst vs)) := same_new hn
    have hm : ∀ x, (SC Z A Ve [] x ∨ x = qq) → Mut (upd H1 qq (.lst vs) x) := by
      intro x h
      rcases h with h | h
      · exact sc_mut jn h
      · rw [h, upd_same]; trivial
    have hio : ioL 0 [V.ref qq] (pa (l, ())) = [(0, qq)] := by rw [hpa]; rfl
    refine spOf_mk (a := (l, ())) (noT_b (by rw [hpa]; rfl)) ⟨fun x => SC Z A Ve [] x ∨ x = qq, hm, ?_, ?_, ?_⟩
    · rw [hpa]
      refine ⟨⟨qq, rfl, .inr rfl, vs, upd_same, ?_⟩, trivial⟩
      have r2 : RpA Z.K (upd H1 qq (.lst vs)) vs (l.map enc) := RpA.mono (gh_le.trans snew) _ rvs
      rw [hK] at r2
      exact rpA_nomut (flatA_map l) r2
    · rw [hio]
      intro i j a h1 h2
      simp at h1 h2
      rw [h1.1, h2.1]
    rw [hio]
    cases eF : F (l, ()) with
    | bad => simp only [eF] at q
    | exc x' =>
      simp only [eF] at q
      refine fun c H2 mc fr => ?_
      have sm : Same H1 H2 := fun y o h => fr y o (snew _ _ h) fun i z => by
        simp at z
        rw [z.2, hn] at h
        cases h
      exact q c H2 mc (j1.same sm) (gr1.trans (.of sm))
    | ok b i =>
      simp only [eF] at q
      refine fun v H2 co => ?_
      have sm : Same H1 H2 := fun y o h => co.frame y o (snew _ _ h) fun i z => by
        simp at z
        rw [z.2, hn] at h
        cases h
      have rr := co.ret
      rw [← hK] at rr
      refine q v H2 (j1.same sm) (gr1.trans (.of sm)) (fun z => (sm1 z).trans sm) ?_
      exact Rp.mono (hide_same fun x o n e => ⟨fun z => n (mut0 jn z), e⟩) _ rr⟩
theorem x_callT {x : Str} {fA : Ac γ (List α)} {p0 pos : Pos} (c : Cal X.prog X.w X.K X.mg X.base k x ps (spOf X.K X.mg .fr pa enc pio F)) (hr : Room k X.A) (ha : SN X Ve p e fA) (hpa : ∀ a, pa a = [.ino (a.1.map enc)] := by exact fun _ => rfl)
    (hg : Gl X x := by rfl) (hdb : (x == ("__debug__" : Str)) = false := by decide) (he : starEach (e :: []) X.env = (false, eval e X.env) :: starEach [] X.env := by rfl) (hpl : (backTo pos (starEach [] X.env)).any (·.1) = false := by rfl) :
    SE X Ve .fr p (.Call (.Name x p0) [e] [] pos) (callA (fun (_ : γ) t => t) F (pairA fA (pureA fun _ => ()))) := by
  obtain ⟨f, fd, h1, h2, h3, h4⟩ := c.ex
  exact s_callT h1 hr h2 h3 h4 ha hpa hg hdb he hpl
end
end HL
/-! Fr: the plain side of what came behind Fl. -/
namespace HL
open PySem PySem.Spec PyProof.Rows L2
section
variable {γ α β δ : Type} {Q : Bool → Prop} {g : γ} {X : Str → γ → Prop}
theorem o_in [DecidableEq α] {a : α} {l : List α} : opt (inQ a l) Q ↔ Q (decide (a ∈ l)) := Iff.rfl
theorem o_notin [DecidableEq α] {a : α} {l : List α} : opt (notinQ a l) Q ↔ Q (!decide (a ∈ l)) := Iff.rfl
theorem o_is {a b : Bool} : opt (isQ a b) Q ↔ Q (decide (a = b)) := Iff.rfl
theorem o_isnt {a b : Bool} : opt (isntQ a b) Q ↔ Q (!decide (a = b)) := Iff.rfl
theorem o_isNone {o : Option α} : opt (isNoneQ o) Q ↔ Q o.isNone := Iff.rfl
theorem o_isSome {o : Option α} : opt (isSomeQ o) Q ↔ Q (!o.isNone) := Iff.rfl
theorem o_sortI {l : List Int} {Q : List Int → Prop} : opt (sortIQ l) Q ↔ Q (sortIL l) := Iff.rfl
theorem o_sortT [Enc α] [IT α] {l : List α} {Q : List α → Prop} : opt (sortTQ l) Q ↔ Q (sortTL l) := Iff.rfl
theorem o_sortSet [Enc α] [IT α] [DecidableEq α] {l : List α} {Q : List α → Prop} : opt (sortSetQ l) Q ↔ l.length < 64 ∧ Q (sortSetL l) := o_ite
theorem o_lenSet [DecidableEq α] {l : List α} {Q : Int → Prop} : opt (lenSetQ l) Q ↔ l.length < 64 ∧ Q ((uniq l).length : Int) := o_ite
theorem o_divmod {a b : Int} {Q : Int × Int → Prop} : opt (divmodQ a b) Q ↔ DivOk b ∧ Q (a.fdiv b, a.fmod b) := o_ite
theorem p_ch {k1 k2 : Int → Int → Bool} {f h l : Ac γ Int} {Q : Bool → γ → Prop} : (chA k1 k2 f h l g).post Q X ↔ (f g).post (fun a g1 => (h g1).post (fun b g2 => if k1 a b = true then (l g2).post (fun c g3 => Q (k2 b c) g3) X else Q false g2) X) X := by
  unfold chA
  rw [p_bind]
  simp only [p_bind]
  apply iff_of_eq
  congr 1
  funext a g1
  congr 1
  funext b g2
  cases k1 a b
  · rfl
  · simp only [if_true]
    rw [p_bind]
    rfl
theorem q_sixName {get : γ → List α} {put : γ → List α → γ} {k : Int} {set : γ → δ → γ} {f : Ac γ (α × δ)} {N : γ → Prop} {R : β → γ → Prop} : (sixNameS (β := β) get put k set f g).post N R X ↔ (f g).post (fun a g1 => opt (setAt (get g1) k a.1) fun l => N (set (put g1 l) a.2)) X := by
  unfold sixNameS
  rw [q_do]
  apply iff_of_eq
  congr 1
  funext a g1
  cases setAt (get g1) k a.1 <;> rfl
end
end HL
/-! Fs: tuples put together, zip of tuples, a, b, c = x, y, z. -/
namespace HL
open PySem PySem.Spec PyProof.Rows L2 RZ
structure T1 (α : Type) where
  a : α
  deriving DecidableEq, Inhabited
instance {α : Type} [Enc α] : Enc (T1 α) := ⟨fun p => .tuple [enc p.a]⟩
instance {α : Type} [Enc α] [Flat α] : Flat (T1 α) := ⟨fun p => by
  show (flatD (enc p.a) && true) = true
  rw [Flat.flat]
  rfl⟩
section
variable {X : Cx} {γ α β δ τ1 τ2 : Type} [Enc α] [Enc β] [Enc δ] [Enc τ1] [Enc τ2] {Ve : Ev γ} {m m1 m2 : Md} {p p1 p2 : Bool} {a b : Expr} {pos : Pos}
theorem s_catT {f : Ac γ τ1} {h : Ac γ τ2} (mk : τ1 → τ2 → δ) (ha : SE X Ve .fr p1 a f) (hb : SE X Ve .fr p2 b h) (hmk : ∀ x y, ∃ xs ys, enc x = .tuple xs ∧ enc y = .tuple ys ∧ xs ≠ [] ∧ ys ≠ [] ∧ xs.length + ys.length ≤ 1000 ∧ enc (mk x y) = .tuple (xs ++ ys) := by exact fun _ _ => ⟨_, _, rfl, rfl, (fun h => nomatch h), (fun h => nomatch h), of_decide_eq_true rfl, rfl⟩) :
    SE X Ve .fr (p1 && p2) (.BinOp a .Add b pos) (op2 (fun x y => some (mk x y)) f h) :=
  s_op (r := fun K => rCatT K) op_catT (fun Z hK => fun A g σ H x y l k c Q j rx ry e q => by
    obtain rfl := some_inj' e
    obtain ⟨xs, ys, e1, e2, n1, n2, hl, e3⟩ := hmk l k
    have rx' : Rp Z.K (GH Z (OwV A Ve) H) x (enc l) := rx
    have ry' : Rp Z.K (GH Z (OwV A Ve) H) y (enc k) := ry
    rw [e1] at rx'
    rw [e2] at ry'
    obtain ⟨t, vs, rfl, s1, r1⟩ := rp_tuple rx'
    obtain ⟨u, ws, rfl, s2, r2⟩ := rp_tuple ry'
    have l1 := r1.length
    have l2 := r2.length
    have hv : vs ≠ [] := fun z => n1 (List.eq_nil_of_length_eq_zero (by rw [← l1, z]; rfl))
    have hw : ws ≠ [] := fun z => n2 (List.eq_nil_of_length_eq_zero (by rw [← l2, z]; rfl))
    refine ⟨t, u, vs, ws, rfl, rfl, hK ▸ sqT_same gh_le s1, hK ▸ sqT_same gh_le s2, hv, smallN (by omega), fun z => absurd z hw, fun _ n hn => q (.ref n) _ (same_new hn) (j.new hn) ?_⟩
    show Rp Z.K _ _ (enc (mk l k))
    rw [e3]
    have hn' := j.ghnew (o := .tup (vs ++ ws)) hn
    rw [ow_at] at hn'
    exact .tup hn' (RpA.mono (Gr.of (same_new hn)).gh _ (r1.append r2))) ha hb rfl
/-- zip(tuple, tuple) -/
theorem i_zipT {f : Ac γ τ1} {h : Ac γ τ2} (mk1 : τ1 → List α) (mk2 : τ2 → List β) {p0 pos tpos : Pos} {elts : List Expr} {kk : Nat} (hx : X.mg "zip" = none) (ha : SE X Ve .fr p1 a f) (hb : SE X Ve .fr p2 b h) (h1 : ∀ x, enc x = .tuple ((mk1 x).map enc) := by exact fun _ => rfl) (h2 : ∀ x, enc x = .tuple ((mk2 x).map enc) := by exact fun _ => rfl)
    (hg : Gl X "zip" := by rfl) (hs : starEach [a, b] X.env = (false, eval a X.env) :: starEach [b] X.env := by rfl) (hs2 : starEach [b] X.env = (false, eval b X.env) :: starEach [] X.env := by rfl) (hpl : (backTo pos (starEach [b] X.env)).any (·.1) = false := by rfl) :
    SI X Ve true (p1 && p2) (.Tuple elts kk tpos) (.Call (.Name "zip" p0) [a, b] [] pos) (op2 (fun x y => some ((mk1 x).zip (mk2 y))) f h) :=
  ⟨fun Z W hK tk => (RZ.pi_zipA hg hx (pa_cons (ha.run Z W hK tk) (pa_cons (hb.run Z W hK tk) pa_nil hs2) hs) hs hpl).weak fun σ H R q => by
  obtain ⟨g, A, j, q⟩ := q
  refine ⟨g, A, j, ?_⟩
  unfold op2 bindA optA at q
  cases ef : f g with
  | bad => simp only [ef] at q
  | exc x g1 => simp only [ef] at q; exact q
  | ok x g1 =>
    simp only [ef] at q
    intro v H1 j1 gr sm rv
    refine ⟨g1, A, j1, ?_⟩
    cases eh : h g1 with
    | bad => simp only [eh] at q
    | exc x g2 =>
      simp only [eh] at q
      exact fun c H' mc j' gr' => q c H' mc j' (gr.trans gr')
    | ok y g2 =>
      simp only [eh] at q
      intro w H2 j2 gr2 sm2 rw2
      have rv2 : Rm Z A Ve H2 .fr v (enc x) := rv.step (p := p2) gr2 sm2 rfl
      rw [h1] at rv2
      rw [h2] at rw2
      obtain ⟨a, vs, rfl, e1, e3, on⟩ := tup_on rfl rv2
      obtain ⟨a', vs', rfl, e1', e3', on'⟩ := tup_on rfl rw2
      have el := e3.length
      have el' := e3'.length
      rw [List.length_map] at el el'
      rw [hK] at e1 e1' on on'
      refine ⟨a, a', vs, vs', rfl, .inr ⟨e1, e1', q _ H2 j2 (gr.trans gr2) (fun z => (sm (Bool.and_eq_true_iff.mp z).1).trans (sm2 (Bool.and_eq_true_iff.mp z).2)) fun O' H3 st i => ?_⟩⟩
      have e5 := on _ _ st
      have e5' := on' _ _ st
      have hl : (((mk1 x).zip (mk2 y)).map enc).length = min vs.length vs'.length := by rw [List.length_map, List.length_zip, el, el']
      rw [hl]
      refine ⟨fun hi => ⟨vs, vs', vs[i], vs'[i], e5, e5', List.getElem?_eq_getElem (by omega), List.getElem?_eq_getElem (by omega)⟩, fun hi => ⟨vs, vs', e5, e5', by omega⟩, fun z H4 d y9 hd => ?_⟩
      obtain ⟨T, x', y', rfl, hT, rfl, y1, y2⟩ := y9
      have hi : i < min vs.length vs'.length := by
        have := (List.getElem?_eq_some_iff.mp hd).1
        rw [hl] at this
        exact this
      have ea : (mk1 x)[i]? = some (mk1 x)[i] := List.getElem?_eq_getElem (by omega)
      have eb : (mk2 y)[i]? = some (mk2 y)[i] := List.getElem?_eq_getElem (by omega)
      have ez : ((mk1 x).zip (mk2 y))[i]? = some ((mk1 x)[i], (mk2 y)[i]) := List.getElem?_zip_eq_some.mpr ⟨ea, eb⟩
      rw [List.getElem?_map, ez] at hd
      cases hd
      obtain ⟨v, hv, rv⟩ := e3.get (by rw [List.getElem?_map, ea]; rfl)
      obtain ⟨v', hv', rv'⟩ := e3'.get (by rw [List.getElem?_map, eb]; rfl)
      have t1 := y1 vs e5
      have t2 := y2 vs' e5'
      rw [hv] at t1
      rw [hv'] at t2
      cases t1
      cases t2
      exact ⟨same_new hT, .tup (un_new hT (hp_none st hT) upd_same) (.cons (Rp.mono un_le _ rv) (.cons (Rp.mono un_le _ rv') .nil))⟩⟩
end
section
variable {X : Cx} {γ β α1 α2 α3 : Type} [Enc α1] [Enc α2] [Enc α3] {C : FC γ β} {xj : XJ γ} {Ve Ve' : Ev γ} {p : Bool} {e e2 e3 : Expr} {pos : Pos}
/-- a, b, c = e1, e2, e3 -/
theorem c_par3 {f : Ac γ (α1 × (α2 × (α3 × Unit)))} (i k l : Nat) (set : γ → α1 × (α2 × (α3 × Unit)) → γ) {x y z : Str} {px py pz pt : Pos} {kt k2 pt2} (hx : XOk xj Ve) (he : SA X Ve [.val .fr, .val .fr, .val .fr] p [e, e2, e3] (fun t : α1 × (α2 × (α3 × Unit)) => [enc t.1, enc t.2.1, enc t.2.2.1]) f) (hc : X.calm = true)
    (hV : ∀ g t, at_ Ve' (set g t) = (((at_ Ve g).set i (.imm true (enc t.1))).set k (.imm true (enc t.2.1))).set l (.imm true (enc t.2.2.1)) := by exact fun _ _ => rfl) (hno : (ioIx C).contains i = false := by rfl) (hno2 : (ioIx C).contains k = false := by rfl) (hno3 : (ioIx C).contains l = false := by rfl)
    (hN : X.N.Nodup) (hi : X.N[i]? = some x := by rfl) (hk : X.N[k]? = some y := by rfl) (hl : X.N[l]? = some z := by rfl) (hik : i ≠ k := by decide) (hil : i ≠ l := by decide) (hkl : k ≠ l := by decide) (hlx : X.env.scope.names.lookup x = some .local := by rfl) (hly : X.env.scope.names.lookup y = some .local := by rfl) (hlz : X.env.scope.names.lookup z = some .local := by rfl)
    (hw : swappedStores [.Tuple [.Name x px, .Name y py, .Name z pz] kt pt] (.Tuple [e, e2, e3] k2 pt2) X.env = pure (some [x, y, z]) := by rfl) (hs : swapsWithSole [.Tuple [.Name x px, .Name y py, .Name z pz] kt pt] (.Tuple [e, e2, e3] k2 pt2) pos.line X.env = pure false := by rfl) :
    SS X C xj Ve Ve' (.Assign [.Tuple [.Name x px, .Name y py, .Name z pz] kt pt] (.Tuple [e, e2, e3] k2 pt2) pos) (setS set f) := ⟨fun Z W hK hio tk => (ps_par3 hc hN hi hk hl hik hil hkl hlx hly hlz (he.run Z W hK tk) hw hs).weak fun D σ H q => by
  refine tS_doA hx q fun t g A vs H' j rv z => ?_
  obtain ⟨v, w, u, rfl, r1, r2, r3⟩ : ∃ v w u, vs = [v, w, u] ∧ Rm Z A Ve H' .fr v (enc t.1) ∧ Rm Z A Ve H' .fr w (enc t.2.1) ∧ Rm Z A Ve H' .fr u (enc t.2.2.1) := by
    cases vs with
    | nil => exact rv.elim
    | cons v vs =>
      cases vs with
      | nil => exact rv.2.elim
      | cons w vs =>
        cases vs with
        | nil => exact rv.2.2.elim
        | cons u vs =>
          cases vs with
          | nil => exact ⟨v, w, u, rfl, rv.1, rv.2.1, rv.2.2.1⟩
          | cons _ _ => exact rv.2.2.2.elim
  have q1 : Rp Z.K (hp Z (Ow A (at_ Ve g)) H' true) v (enc t.1) := by rw [ow_at]; exact r1
  have q2 : Rp Z.K (hp Z (Ow A (at_ Ve g)) H' true) w (enc t.2.1) := by rw [ow_at]; exact r2
  have q3 : Rp Z.K (hp Z (Ow A (at_ Ve g)) H' true) u (enc t.2.2.1) := by rw [ow_at]; exact r3
  have j1 := j.setImm (i := i) q1 (noio hio hno)
  have j2 := j1.setImm (i := k) (Rp.mono (Gr.hpO (ow_set imm_ne)) _ q2) (noio hio hno2)
  have j3 := j2.setImm (i := l) (Rp.mono (Gr.hpO fun x y => ow_set imm_ne x (ow_set imm_ne x y)) _ q3) (noio hio hno3)
  rw [← hV] at j3
  refine ⟨v, w, u, rfl, z A _ H' j3 fun x o n h => ⟨h, fun y => n ?_⟩⟩
  rw [← ow_at (g := set g t), hV] at y
  rw [← ow_at (g := g)]
  exact ow_set imm_ne x (ow_set imm_ne x (ow_set imm_ne x y))⟩
end
end HL
/-! Ft: try: .. except C as e: .. -/
namespace HL
open PySem PySem.Spec PyProof.Rows L2
/-- where an exception leaves, the state stands as told by Ve -/
def xjJ {γ : Type} (Ve : Ev γ) : XJ γ := fun Z A g σ H => J Z A (at_ Ve g) σ H
theorem xjJ_ok {γ : Type} {Ve : Ev γ} : XOk (xjJ Ve) Ve := fun _ _ _ _ _ j => j
/-- which class is caught: told by name; none of others is known -/
def tryS {γ β : Type} (ct : Str → Option Bool) (f : Sc γ β) (h : Str → Sc γ β) : Sc γ β := fun g => match f g with
  | .exc x g1 => match ct x with
    | some true => match h x g1 with
      | .exc _ _ => .bad
      | r => r
    | some false => .exc x g1
    | none => .bad
  | r => r
section
variable {Z : Fix} {A : AT} {r : List Slot} {σ : L2.St} {H : Hp}
theorem raw_ne {v : L2.V} : NoO (Slot.raw v) := ⟨fun _ z => (by cases z), fun _ z => (by cases z)⟩
theorem J.setRaw (j : J Z A r σ H) {i : Nat} {v : L2.V} (hno : r[i]? = some .no) : J Z A (r.set i (.raw v)) (σ.set i (some v)) H := by
  have il : i < r.length := (List.getElem?_eq_some_iff.mp hno).1
  have get : ∀ {k : Nat} {s : Slot}, (r.set i (.raw v))[k]? = some s → (i = k ∧ s = .raw v) ∨ (i ≠ k ∧ r[k]? = some s) := fun {k s} h => by
    rw [set_get] at h
    by_cases e : i = k
    · rw [if_pos e, if_pos il] at h
      exact .inl ⟨e, (Option.some.inj h).symm⟩
    · rw [if_neg e] at h
      exact .inr ⟨e, h⟩
  have sig : ∀ {k : Nat}, i ≠ k → (σ.set i (some v))[k]? = σ[k]? := fun {k} e => by rw [List.getElem?_set, if_neg e]
  have ow : Ow A (r.set i (.raw v)) = Ow A r := by
    funext x
    refine propext ⟨ow_set raw_ne x, fun h => ?_⟩
    rcases h with ⟨k, ds, h, e⟩ | ⟨k, t, h, e⟩
    · refine .inl ⟨k, ds, ?_, e⟩
      rw [set_get, if_neg (fun z => by subst z; rw [hno] at h; cases h)]
      exact h
    · refine .inr ⟨k, t, ?_, e⟩
      rw [set_get, if_neg (fun z => by subst z; rw [hno] at h; cases h)]
      exact h
  have own' : ∀ {k : Nat} {ds : Ob}, (r.set i (.raw v))[k]? = some (.own ds) → r[k]? = some (.own ds) := fun h => (set_own raw_ne h).2
  refine ⟨fun k fr d h => ?_, fun k ds h => ?_, fun k ns h => ?_, fun k u h => ?_, fun k u h => ?_, fun k l ds es h1 h2 => j.inj k l ds es (own' h1) (own' h2), fun k ds h => j.notS k ds (own' h), j.smut, j.base, j.mm, j.tm, fun k ds h => j.newo k ds (own' h), fun k a h => ?_, j.tr.set raw_ne, ?_⟩
  · rcases get h with ⟨_, z⟩ | ⟨e, h⟩
    · cases z
    · rw [ow, sig e]; exact j.imm k fr d h
  · rcases get h with ⟨_, z⟩ | ⟨e, h⟩
    · cases z
    · rw [ow, sig e]; exact j.own k ds h
  · rcases get h with ⟨_, z⟩ | ⟨e, h⟩
    · cases z
    · rw [ow, sig e]; exact j.scr k ns h
  · rcases get h with ⟨e, z⟩ | ⟨e, h⟩
    · cases z
      subst e
      rw [List.getElem?_set, if_pos rfl, if_pos (by rw [← j.len]; exact il)]
    · rw [sig e]; exact j.raw k u h
  · rcases get h with ⟨_, z⟩ | ⟨e, h⟩
    · cases z
    · rw [ow, sig e]; exact j.pk k u h
  · obtain ⟨e1, ds, e2⟩ := j.ioo k a h
    refine ⟨e1, ds, ?_⟩
    rw [set_get, if_neg (fun z => by subst z; rw [hno] at e2; cases e2)]
    exact e2
  · rw [List.length_set, List.length_set, j.len]
end
theorem J.unraw {Z : Fix} {A : AT} {r : List Slot} {σ : L2.St} {H : Hp} {i : Nat} {v : L2.V} (j : J Z A (r.set i (.raw v)) σ H) (hno : r[i]? = some .no) : J Z A r (σ.set i none) H := by
  have up : ∀ {k : Nat} {s : Slot}, r[k]? = some s → s ≠ .no → i ≠ k ∧ (r.set i (.raw v))[k]? = some s := fun {k s} h hs => by
    have e : i ≠ k := fun z => by
      subst z
      rw [hno] at h
      exact hs (Option.some.inj h).symm
    exact ⟨e, by rw [set_get, if_neg e]; exact h⟩
  have sig : ∀ {k : Nat}, i ≠ k → (σ.set i none)[k]? = σ[k]? := fun {k} e => by rw [List.getElem?_set, if_neg e]
  have ow : Ow A (r.set i (.raw v)) = Ow A r := by
    funext x
    refine propext ⟨ow_set raw_ne x, fun h => ?_⟩
    rcases h with ⟨k, ds, h, e⟩ | ⟨k, t, h, e⟩
    · exact .inl ⟨k, ds, (up h (fun z => by cases z)).2, e⟩
    · exact .inr ⟨k, t, (up h (fun z => by cases z)).2, e⟩
  have own' : ∀ {k : Nat} {ds : Ob}, r[k]? = some (.own ds) → (r.set i (.raw v))[k]? = some (.own ds) := fun h => (up h (fun z => by cases z)).2
  refine ⟨fun k fr d h => ?_, fun k ds h => ?_, fun k ns h => ?_, fun k u h => ?_, fun k u h => ?_, fun k l ds es h1 h2 => j.inj k l ds es (own' h1) (own' h2), fun k ds h => j.notS k ds (own' h), j.smut, j.base, j.mm, j.tm, fun k ds h => j.newo k ds (own' h), fun k a h => ?_, j.tr.keep (fun k t h => by
      obtain ⟨e, h'⟩ := up h (fun z => by cases z)
      exact ⟨h', sig e, rfl, rfl⟩) (fun k ds h => .inl ⟨ds, own' h, rfl⟩) (by rw [ow]; exact Same.refl _) (fun _ _ _ _ _ => rfl) (fun _ _ q => q), ?_⟩
  · obtain ⟨e, h'⟩ := up h (fun z => by cases z)
    rw [sig e, ← ow]; exact j.imm k fr d h'
  · obtain ⟨e, h'⟩ := up h (fun z => by cases z)
    rw [sig e, ← ow]; exact j.own k ds h'
  · obtain ⟨e, h'⟩ := up h (fun z => by cases z)
    rw [sig e, ← ow]; exact j.scr k ns h'
  · obtain ⟨e, h'⟩ := up h (fun z => by cases z)
    rw [sig e]; exact j.raw k u h'
  · obtain ⟨e, h'⟩ := up h (fun z => by cases z)
    rw [sig e, ← ow]; exact j.pk k u h'
  · obtain ⟨e1, ds, e2⟩ := j.ioo k a h
    exact ⟨e1, ds, (set_own raw_ne e2).2⟩
  · have := j.len
    rw [List.length_set] at this
    rw [List.length_set, this]
/-! ### another entry -/
open Classical in
noncomputable def Fix.now (Z : Fix) (O : Addr → Prop) (H : Hp) : Fix := { Z with H0 := fun a => if O a ∧ (∀ i, (i, a) ∉ Z.io) ∧ Z.nt a then none else H a, tio := fun i => (Z.tio i).map fun x => (x.1, x.2.filter fun a => decide (O a)) }
theorem now_tio {Z : Fix} {O : Addr → Prop} {H : Hp} {i : Nat} {x : L2.V × List Addr} (h : Z.tio i = some x) : ∃ T, (Z.now O H).tio i = some (x.1, T) ∧ ∀ a, a ∈ T ↔ a ∈ x.2 ∧ O a := by
  classical
  refine ⟨_, by show (Z.tio i).map _ = _; rw [h]; rfl, fun a => ?_⟩
  simp
theorem now_fx {Z : Fix} {O : Addr → Prop} {H : Hp} {i : Nat} {x : L2.V × List Addr} (h : Z.tio i = some x) (ho : ∀ a ∈ x.2, O a) : (Z.now O H).tio i = some x := by
  classical
  show (Z.tio i).map _ = _
  rw [h]
  show some (x.1, x.2.filter fun a => decide (O a)) = some x
  rw [List.filter_eq_self.mpr fun a m => decide_eq_true (ho a m)]
theorem now_tioB {Z : Fix} {O : Addr → Prop} {H : Hp} {i : Nat} {y : L2.V × List Addr} (h : (Z.now O H).tio i = some y) : ∃ x, Z.tio i = some x ∧ y.1 = x.1 ∧ ∀ a, a ∈ y.2 ↔ a ∈ x.2 ∧ O a := by
  cases e : Z.tio i with
  | none =>
    have h' : (Z.tio i).map _ = some y := h
    rw [e] at h'
    cases h'
  | some x =>
    obtain ⟨T, h1, h2⟩ := now_tio (H := H) (O := O) e
    rw [h1] at h
    cases h
    exact ⟨x, rfl, rfl, h2⟩
theorem now_none {Z : Fix} {O : Addr → Prop} {H : Hp} {i : Nat} (h : Z.tio i = none) : (Z.now O H).tio i = none := by
  show (Z.tio i).map _ = none
  rw [h]
  rfl
theorem ZC.now {γ β : Type} {C : FC γ β} {Z : Fix} {O : Addr → Prop} {H : Hp} (h : ZC Z C) (hk : ∀ i x, Z.tio i = some x → (Z.now O H).tio i = some x) : ZC (Z.now O H) C := ⟨h.io, fun i hi => now_none (h.tio i hi), now_none h.rix, fun hg i y e nd => by
  obtain ⟨x, e1, _, _⟩ := now_tioB e
  rw [hk i x e1] at e
  cases e
  exact h.gro hg i _ e1 nd⟩
open Classical in
theorem now_some {Z : Fix} {O : Addr → Prop} {H : Hp} {a : Addr} {o : HO} : (Z.now O H).H0 a = some o ↔ ¬ (O a ∧ (∀ i, (i, a) ∉ Z.io) ∧ Z.nt a) ∧ H a = some o := by
  show (if O a ∧ (∀ i, (i, a) ∉ Z.io) ∧ Z.nt a then none else H a) = some o ↔ _
  by_cases h : O a ∧ (∀ i, (i, a) ∉ Z.io) ∧ Z.nt a
  · simp [h]
  · simp [h]
theorem now_mut {Z : Fix} {O : Addr → Prop} {H : Hp} {a : Addr} (h : Mut ((Z.now O H).H0 a)) : Mut (H a) := by
  cases q : (Z.now O H).H0 a with
  | none => rw [q] at h; exact h.elim
  | some u =>
    rw [(now_some.mp q).2, ← q]
    exact h
def flatS : Slot → Prop
  | .imm true d => flatD d = true
  | .own (.ls ds) => flatA ds = true
  | .pk _ => False
  | _ => True
section
variable {Z : Fix} {A A0 : AT} {r r0 : List Slot} {σ σ0 : L2.St} {H H2 : Hp}
theorem J.up (j : J Z A r σ H) (hfl : ∀ s ∈ r, flatS s) : J (Z.now (Ow A r) H) A r σ H := by
  have sq : ∀ a xs, H a = some (.tup xs) → GH (Z.now (Ow A r) H) (Ow A r) H a = some (.tup xs) := by
    intro a xs h
    have good : ∀ {o : HO}, H a = some o → ¬ Mut (some o) → GH (Z.now (Ow A r) H) (Ow A r) H a = some o := fun {o} e nm => by
      refine hide_mk (fun z => ?_) e
      rcases z with z | z | z
      · have := j.smut a z
        rw [e] at this
        exact nm this
      · obtain ⟨vs, q, mu⟩ := j.owl z
        rw [e] at q
        cases q
        exact nm mu
      · cases q : (Z.now (Ow A r) H).H0 a with
        | none => rw [q] at z; exact z
        | some u =>
          have := (now_some.mp q).2
          rw [e] at this
          cases this
          rw [q] at z
          exact nm z
    exact good h fun z => z
  have keepT : ∀ {i : Nat} {t : Tr} {a : Addr}, r[i]? = some (.tree t) → a ∈ A.ext i → (∃ x, Z.tio i = some x ∧ a ∈ x.2) → ∃ x, (Z.now (Ow A r) H).tio i = some x ∧ a ∈ x.2 := fun {i t a} h m ⟨x, e1, e2⟩ => by
    obtain ⟨T, h1, h2⟩ := now_tio (H := H) (O := Ow A r) e1
    exact ⟨_, h1, (h2 a).mpr ⟨e2, .inr ⟨i, t, h, m⟩⟩⟩
  have tr : JT (Z.now (Ow A r) H) A r σ H := ⟨j.tr.ok, j.tr.dj, j.tr.ow, fun i t a h m z => keepT h m (j.tr.nS i t a h m z), fun i t a h m => by
    rcases j.tr.nw i t a h m with z | z
    · exact .inl (keepT h m z)
    · cases q : (Z.now (Ow A r) H).H0 a with
      | none => exact .inr rfl
      | some u =>
        refine absurd ⟨.inr ⟨i, t, h, m⟩, fun k hk => ?_, fun k x hx ha => ?_⟩ (now_some.mp q).1
        · obtain ⟨e1, ds, e2⟩ := j.ioo k a hk
          exact j.tr.ow k i ds t e2 h (e1 ▸ m)
        · have := (j.tm k x a hx ha).1
          rw [z] at this
          exact this, fun i t y h e => by
      obtain ⟨x, e1, e2, _⟩ := now_tioB e
      rw [e2]
      exact j.tr.iv i t x h e1, fun i t y h e => by
      obtain ⟨x, e1, _, _⟩ := now_tioB e
      rw [now_fx e1 (fun a m => .inr ⟨i, t, h, (j.tr.fx i t x h e1).1 a m⟩)] at e
      cases e
      exact j.tr.fx i t _ h e1⟩
  refine ⟨fun i fr d h => ?_, fun i ds h => ?_, j.scr, j.raw, fun i t h => (hfl _ (List.mem_of_getElem? h)).elim, j.inj, j.notS, j.smut, fun a o h n _ => (now_some.mp h).2, fun a z => now_mut z, fun i y a h m => ?_, fun i ds h => ?_, j.ioo, tr, j.len⟩
  · obtain ⟨v, e1, e2⟩ := j.imm i fr d h
    refine ⟨v, e1, ?_⟩
    cases fr with
    | false => exact e2
    | true => exact Rp.flat sq d (hfl _ (List.mem_of_getElem? h)) (Rp.mono hp_le _ e2)
  · obtain ⟨e1, e2⟩ := j.own i ds h
    refine ⟨e1, ?_⟩
    cases ds with
    | ls ds =>
      obtain ⟨vs, e2, e3⟩ := e2
      exact ⟨vs, e2, RpA.flat sq ds (hfl _ (List.mem_of_getElem? h)) (RpA.mono gh_le _ e3)⟩
    | dk ks => exact e2
    | la ds => exact e2
    | ob c fs => exact e2
    | tr t => exact e2
  · obtain ⟨x, e1, e2, e3⟩ := now_tioB h
    have m' := ((e3 a).mp m).1
    refine ⟨?_, (j.tm i x a e1 m').2⟩
    have mu := j.mm a (j.tm i x a e1 m').1
    cases q : H a with
    | none => rw [q] at mu; exact mu.elim
    | some u =>
      have e : (Z.now (Ow A r) H).H0 a = some u := now_some.mpr ⟨fun z => z.2.2 i x e1 m', q⟩
      rw [e, ← q]
      exact mu
  · by_cases hio : ∀ k, (k, A i) ∉ Z.io
    · cases q : (Z.now (Ow A r) H).H0 (A i) with
      | none => exact .inr rfl
      | some u => exact absurd ⟨.inl ⟨i, ds, h, rfl⟩, hio, fun k x hx ha => j.notS i ds h (j.tm k x _ hx ha).2⟩ (now_some.mp q).1
    · obtain ⟨k, hk⟩ := Classical.not_forall.mp hio
      have hk := Classical.not_not.mp hk
      obtain ⟨e1, es, e2⟩ := j.ioo k (A i) hk
      have := j.inj k i es ds e2 h e1
      subst this
      exact .inl hk
/-- what stood at the entry stands unowned at the later one, or is handed in to be changed -/
theorem J.entN (j : J Z A0 r0 σ0 H) {a : Addr} {o : HO} (h : Z.H0 a = some o) : ¬ (Ow A0 r0 a ∧ (∀ i, (i, a) ∉ Z.io) ∧ Z.nt a) := by
  rintro ⟨z | z, n, n2⟩
  · obtain ⟨i, ds, e, z⟩ := z
    subst z
    rcases j.newo i ds e with q | q
    · exact n i q
    · rw [q] at h; cases h
  · obtain ⟨i, t, e, z⟩ := z
    rcases j.tr.nw i t a e z with ⟨x, q1, q2⟩ | q
    · exact n2 i x q1 q2
    · rw [q] at h; cases h
theorem J.ent (j : J Z A0 r0 σ0 H) {a : Addr} {o : HO} (h : Z.H0 a = some o) (n : ∀ i, (i, a) ∉ Z.io) (n2 : Z.nt a) : (Z.now (Ow A0 r0) H).H0 a = some o :=
  now_some.mpr ⟨j.entN h, j.base a o h n n2⟩
theorem J.entMut (j : J Z A0 r0 σ0 H) {a : Addr} (h : Mut (Z.H0 a)) : Mut ((Z.now (Ow A0 r0) H).H0 a) := by
  cases q : Z.H0 a with
  | none => rw [q] at h; exact h.elim
  | some u =>
    have mu := j.mm a h
    cases e : H a with
    | none => rw [e] at mu; exact mu.elim
    | some o =>
      rw [now_some.mpr ⟨j.entN q, e⟩, ← e]
      exact mu
/-- what is not known at the later entry is not known at the first one -/
theorem J.entNone (j : J Z A0 r0 σ0 H) {a : Addr} (h : (Z.now (Ow A0 r0) H).H0 a = none) : Z.H0 a = none ∨ ∃ i, (i, a) ∈ Z.io := by
  cases q : Z.H0 a with
  | none => exact .inl rfl
  | some u =>
    by_cases hio : ∀ i, (i, a) ∉ Z.io
    · by_cases ht : Z.nt a
      · rw [j.ent q hio ht] at h; cases h
      · exfalso
        have mu : Mut (Z.H0 a) := Classical.not_not.mp fun z => ht fun i x hx ha => z (j.tm i x a hx ha).1
        have := j.entMut mu
        rw [h] at this
        exact this
    · obtain ⟨i, hi⟩ := Classical.not_forall.mp hio
      exact .inr ⟨i, Classical.not_not.mp hi⟩
theorem J.nowx (j0 : J Z A0 r0 σ0 H) (hk : ∀ i x, Z.tio i = some x → ∃ t, r0[i]? = some (.tree t)) {i : Nat} {x : L2.V × List Addr} (h : Z.tio i = some x) : (Z.now (Ow A0 r0) H).tio i = some x := by
  obtain ⟨t, e⟩ := hk i x h
  exact now_fx h fun a m => .inr ⟨i, t, e, (j0.tr.fx i t x e h).1 a m⟩
theorem J.down (j0 : J Z A0 r0 σ0 H) (j : J (Z.now (Ow A0 r0) H) A r σ H2) (hk : ∀ i x, Z.tio i = some x → ∃ t, r0[i]? = some (.tree t)) : J Z A r σ H2 := by
  have g1 : Same (GH (Z.now (Ow A0 r0) H) (Ow A r) H2) (GH Z (Ow A r) H2) := hide_same fun a o n h => by
    refine ⟨fun z => ?_, h⟩
    rcases z with z | z | z
    · exact n (.inl z)
    · exact n (.inr (.inl z))
    · exact n (.inr (.inr (j0.entMut z)))
  have back : ∀ {i : Nat} {a : Addr}, (∃ x, (Z.now (Ow A0 r0) H).tio i = some x ∧ a ∈ x.2) → ∃ x, Z.tio i = some x ∧ a ∈ x.2 := fun {i a} ⟨y, e1, e2⟩ => by
    obtain ⟨x, h1, _, h3⟩ := now_tioB e1
    exact ⟨x, h1, ((h3 a).mp e2).1⟩
  have tr : JT Z A r σ H2 := ⟨j.tr.ok, j.tr.dj, j.tr.ow, fun i t a h m z => back (j.tr.nS i t a h m z), fun i t a h m => by
    rcases j.tr.nw i t a h m with z | z
    · exact .inl (back z)
    · rcases j0.entNone z with z | ⟨k, hk⟩
      · exact .inr z
      · obtain ⟨e1, ds, e2⟩ := j.ioo k a hk
        exact absurd (e1 ▸ m) (j.tr.ow k i ds t e2 h), fun i t x h e => by
      obtain ⟨T, h1, _⟩ := now_tio (H := H) (O := Ow A0 r0) e
      exact j.tr.iv i t (x.1, T) h h1, fun i t x h e => j.tr.fx i t x h (j0.nowx hk e)⟩
  refine ⟨fun i fr d h => ?_, fun i ds h => ?_, j.scr, j.raw, fun i t h => (j.pk i t h).mono g1, j.inj, j.notS, j.smut, fun a o h n n2 => j.base a o (j0.ent h n n2) n fun i y e m => by
      obtain ⟨x, h1, _, h3⟩ := now_tioB e
      exact n2 i x h1 ((h3 a).mp m).1, fun a z => j.mm a (j0.entMut z), j0.tm, fun i ds h => ?_, j.ioo, tr, j.len⟩
  · obtain ⟨v, e1, e2⟩ := j.imm i fr d h
    refine ⟨v, e1, ?_⟩
    cases fr with
    | false => exact e2
    | true => exact Rp.mono g1 _ e2
  · obtain ⟨e1, e2⟩ := j.own i ds h
    exact ⟨e1, e2.mono g1 (Same.refl _)⟩
  · rcases j.newo i ds h with z | z
    · exact .inl z
    · rcases j0.entNone z with z | ⟨k, hk⟩
      · exact .inr z
      · obtain ⟨e1, es, e2⟩ := j.ioo k (A i) hk
        have := j.inj k i es ds e2 h e1
        subst this
        exact .inl hk
theorem TioR.down {K : PySem.W.Frag} {S : Addr → Prop} {B : Nat → List Addr} {l : List (Nat × Ob)} (j0 : J Z A0 r0 σ0 H) (h : TioR K S (Z.now (Ow A0 r0) H).H0 Z.io (Z.now (Ow A0 r0) H).tio B l H2) (fr : Frame (Z.now (Ow A0 r0) H) H2) (hk : ∀ i x, Z.tio i = some x → ∃ t, r0[i]? = some (.tree t)) : TioR K S Z.H0 Z.io Z.tio B l H2 :=
  ⟨fun i x t h1 h2 => by
    obtain ⟨T, e1, _⟩ := now_tio (H := H) (O := Ow A0 r0) h1
    exact h.ok i (x.1, T) t e1 h2, fun i h1 h2 => h.no i (now_none h1) h2, h.dj, h.ow, fun i x a h1 h2 => by
    obtain ⟨T, e1, e2⟩ := now_tio (H := H) (O := Ow A0 r0) h1
    rcases h.nw i _ a e1 h2 with z | z
    · exact .inl ((e2 a).mp z).1
    · rcases j0.entNone z with z | ⟨k, hk⟩
      · exact .inr z
      · exact absurd h2 (h.ow k i a hk), h.is, fun a h1 => by
    rcases j0.entNone (h.rn a h1) with z | ⟨k, hk⟩
    · exact z
    · exact absurd h1 (h.ow k RIX a hk), h.rd, fun i x a h1 h2 => by
    by_cases c : Ow A0 r0 a
    · obtain ⟨T, e1, e2⟩ := now_tio (H := H) (O := Ow A0 r0) h1
      exact h.dm i _ a e1 ((e2 a).mpr ⟨h2, c⟩)
    · have m := j0.mm a (j0.tm i x a h1 h2).1
      cases e : H a with
      | none => rw [e] at m; exact m.elim
      | some o =>
        have := fr a o (now_some.mpr ⟨fun z => c z.1, e⟩) (fun k hk => c (by
          obtain ⟨e4, ds, e5⟩ := j0.ioo k a hk
          exact .inl ⟨k, ds, e5, e4⟩)) (fun k y h3 h4 => by
          obtain ⟨x', _, _, h5⟩ := now_tioB h3
          exact c ((h5 a).mp h4).2)
        rw [this, ← e]
        exact m, fun i x h1 => h.fx i x (j0.nowx hk h1)⟩
theorem RetOk.down {γ β : Type} {C : FC γ β} {g : γ} {b : β} {v : L2.V} (j0 : J Z A0 r0 σ0 H) (h : RetOk (Z.now (Ow A0 r0) H) C g b v H2) (hk : ∀ i x, Z.tio i = some x → ∃ t, r0[i]? = some (.tree t)) : RetOk Z C g b v H2 := by
  obtain ⟨B, h⟩ := h
  have s1 : Same (hide (fun x => Mut ((Z.now (Ow A0 r0) H).H0 x) ∨ BB B x) H2) (hide (fun x => Mut (Z.H0 x) ∨ BB B x) H2) := hide_imp' fun a z => z.elim (fun z => .inl (j0.entMut z)) .inr
  refine ⟨B, fun a o e n n2 => h.frame a o (j0.ent e n n2) n fun i y e m => by
      obtain ⟨x, h1, _, h3⟩ := now_tioB e
      exact n2 i x h1 ((h3 a).mp m).1, fun i a ds e1 e2 => ?_, ?_, h.tio.down j0 h.frame hk⟩
  · exact (h.io i a ds e1 e2).mono s1 (Same.refl _)
  · have r := h.ret
    cases e : C.rm with
    | an => rw [e] at r; exact r
    | tn s => rw [e] at r; exact r
    | fr => rw [e] at r; exact Rp.mono s1 _ r
    | nw =>
      rw [e] at r
      obtain ⟨q, us, ds, e1, e2, e3, en, e4, e5⟩ := r
      refine ⟨q, us, ds, e1, e2, ?_, en, e4, RpA.mono (hide_imp' fun a z => z.elim (fun z => .inl (z.elim (fun z => .inl (j0.entMut z)) .inr)) .inr) _ e5⟩
      rcases j0.entNone e3 with z | ⟨i, hi⟩
      · exact z
      · exfalso
        obtain ⟨e1, ds, e2⟩ := j0.ioo i q hi
        obtain ⟨vs, e6, _⟩ := j0.owl (.inl ⟨i, ds, e2, e1⟩)
        rw [now_some.mpr ⟨fun z => z.2.1 i hi, e6⟩] at e3
        cases e3
theorem J.stt (j0 : J Z A0 r0 σ0 H) (j : J (Z.now (Ow A0 r0) H) A r σ H2) : Stt (Ow A0 r0) (Ow A r) H H2 := fun a o n h => by
  have e0 : (Z.now (Ow A0 r0) H).H0 a = some o := now_some.mpr ⟨fun z => n z.1, h⟩
  have nio : ∀ i, (i, a) ∉ Z.io := fun i hi => by
    obtain ⟨e1, ds, e2⟩ := j0.ioo i a hi
    exact n (.inl ⟨i, ds, e2, e1⟩)
  have nnt : (Z.now (Ow A0 r0) H).nt a := fun i y e m => by
    obtain ⟨x, _, _, h3⟩ := now_tioB e
    exact n ((h3 a).mp m).2
  refine ⟨j.base a o e0 nio nnt, fun z => ?_⟩
  rcases z with ⟨i, ds, e, z⟩ | ⟨i, t, e, z⟩
  · subst z
    rcases j.newo i ds e with q | q
    · exact nio i q
    · rw [e0] at q; cases q
  · rcases j.tr.nw i t a e z with ⟨x, q1, q2⟩ | q
    · exact nnt i x q1 q2
    · rw [e0] at q; cases q
end
section
variable {X : Cx} {γ β : Type} {C : FC γ β} {xj : XJ γ} {Ve Vx Vb Vs' Ve' : Ev γ}
/-- what the suite is given of the exception that it holds -/
structure ExA (X : Cx) (x : Str) (a : Addr) (oe : Obj) : Prop where
  ex : ∃ Cx : Addr, X.mg x = some (.ref Cx) ∧ Zc (.ref Cx) none oe
  fl : ∃ vs, oe.data = .fields vs
theorem c_try {n nc : Str} {i : Nat} {cv : Value} {ct : Str → Option Bool} {f : Sc γ β} {h : Str → Sc γ β} {body suite : List Stmt} {b₀ : Stmt} {np pos pos' : Pos} (hN : X.N.Nodup) (hs : X.stack = X.env :: X.outer) (hf : X.env.frame = some X.env.locals) (hc : Names X nc cv)
    (hct : ∀ x b c, ct x = some b → X.mg x = some c → PySem.W.exmOne X.K c cv = some b) (href : ∀ x c, ct x = some true → X.mg x = some c → ∃ Cx : Addr, c = .ref Cx)
    (hx : ∀ Z A g σ H, J Z A (at_ Vx g) σ H → xj Z A g σ H) (hfl : ∀ g, ∀ s ∈ at_ Ve g, flatS s)
    (hb : ∀ (pn : List (Addr × Obj)) (xe : Value → Shared → Prop), SB (X.tr pn xe) C (xjJ Vx) Ve Vb body f)
    (hsu : ∀ (x : Str) (a : Addr) (oe : Obj) (pn : List (Addr × Obj)), ct x = some true → ExA X x a oe → SB (X.suite a ((a, oe) :: pn)) C (xfr γ) (Vx.set i (.raw (.ref a))) (Vs'.set i (.raw (.ref a))) (b₀ :: suite) (h x))
    (hVx : Vx[i]? = some .no) (hVs : Vs'[i]? = some .no) (wb : Wkv Vb Ve') (ws : Wkv Vs' Ve') (kb : IosOk Vb C) (ks : IosOk Vs' C) (ke : IosOk Ve' C)
    (hi : X.N[i]? = some n := by rfl) (hln : X.env.kindOf n = some .local := by rfl) (kv : IosOk Ve C := by first | exact ⟨trivial, trivial⟩ | exact ⟨⟨rfl, trivial⟩, trivial⟩ | exact ⟨trivial, rfl, trivial⟩ | exact ⟨⟨rfl, trivial⟩, rfl, trivial⟩ | exact ⟨⟨rfl, rfl, trivial⟩, trivial⟩) :
    SS X C xj Ve Ve' (.Try body [.ExceptHandler (some (.Name nc np)) (some n) (b₀ :: suite) pos'] [] [] pos) (tryS ct f h) := ⟨fun Z W hK hio tk => by
  have key := ps_try_as (X := X) (i := i) (body := body) (suite := suite) (b₀ := b₀) (np := np) (pos := pos) (pos' := pos') hs hf hN hi hln hc tk
    (tb := fun W => fun D σ H => ∃ Z' : Fix, Z'.K = X.K ∧ ZC Z' C ∧ tS X.mg Z' W C (xjJ Vx) Ve Vb f D σ H)
    (ts := fun a cls d => fun D σ H => ∃ (x : Str) (Z' : Fix), Z'.K = X.K ∧ ZC Z' C ∧ ct x = some true ∧ X.mg x = some cls ∧ d = none ∧ tS X.mg Z' (fun _ _ _ _ => False) C (xfr γ) (Vx.set i (.raw (.ref a))) (Vs'.set i (.raw (.ref a))) (h x) D σ H)
    (fun W pn xe tk' _ => ⟨fun pins s σ H D I q => by
      obtain ⟨Z', k1, k2, q⟩ := q
      exact ((hb pn xe).run Z' W k1 k2 tk').run pins s σ H D I q⟩) (fun a oe cls d pn hz hfl => ⟨fun pins s σ H D I q => by
      obtain ⟨x, Z', k1, k2, h1, h2, rfl, q⟩ := q
      obtain ⟨Cx, rfl⟩ := href x cls h1 h2
      exact ((hsu x a oe pn h1 ⟨⟨Cx, h2, hz⟩, hfl⟩).run Z' (fun _ _ _ _ => False) k1 k2 (fun u s' z => by
        obtain ⟨_, _, _, _, _, _, _, _, _, _, _, _, _, _, _, _, z⟩ := z
        exact z)).run pins s σ H D I q⟩)
  refine key.weak fun D σ H q => ?_
  obtain ⟨g, A, j, q⟩ := q
  have ju := j.up (hfl g)
  have hkt : ∀ i x, Z.tio i = some x → ∃ t, (at_ Ve g)[i]? = some (.tree t) := fun i x h => by
    obtain ⟨q, _, e1, e2⟩ := tio_tree (g := g) hio kv h
    exact ⟨_, e2⟩
  have hion : ZC (Z.now (Ow A (at_ Ve g)) H) C := hio.now fun i x h => j.nowx hkt h
  refine ⟨Z.now (Ow A (at_ Ve g)) H, hK, hion, g, A, ju, ?_⟩
  unfold tryS at q
  cases ef : f g with
  | bad => simp only [ef] at q
  | rt b g1 =>
    simp only [ef] at q
    exact fun v H' r => q v H' (RetOk.down j r hkt)
  | nx g1 =>
    simp only [ef] at q
    intro A' σ' H' j' st
    have j3 := j'.weak (wb g1) (wk_io (A := A') kb ke hion)
    have st3 := j.stt j3
    rw [ow_at, ow_at] at st3
    exact q A' σ' H' (j.down j3 hkt) st3
  | exc x g1 =>
    simp only [ef] at q
    intro c A' σ' H' mc jx
    have jx' : J (Z.now (Ow A (at_ Ve g)) H) A' (at_ Vx g1) σ' H' := jx
    cases ec : ct x with
    | none => simp only [ec] at q
    | some b =>
      refine ⟨b, hct x b c ec mc, fun hb1 a hna => ?_, fun hb0 => ?_⟩
      · subst hb1
        simp only [ec] at q
        have jr := jx'.setRaw (i := i) (v := .ref a) (by rw [at_get, hVx]; rfl)
        have ea : ∀ (V : Ev γ) (g : γ) (v : L2.V), (at_ V g).set i (.raw v) = at_ (V.set i (.raw v)) g := fun V g v => by
          unfold at_
          rw [List.map_set]
          rfl
        rw [ea] at jr
        refine ⟨x, Z.now (Ow A (at_ Ve g)) H, hK, hion, ec, mc, rfl, g1, A', jr, ?_⟩
        cases eh : h x g1 with
        | bad => simp only [eh] at q
        | exc y g2 => simp only [eh] at q
        | rt b g2 =>
          simp only [eh] at q
          exact fun v H2 r => q v H2 (RetOk.down j r hkt)
        | nx g2 =>
          simp only [eh] at q
          intro A2 σ2 H2 j2 st2
          rw [← ea] at j2
          have il : i < (at_ Vs' g2).length := by
            have : i < Vs'.length := (List.getElem?_eq_some_iff.mp hVs).1
            unfold at_
            rw [List.length_map]
            exact this
          have hno : (at_ Vs' g2)[i]? = some .no := by rw [at_get, hVs]; rfl
          have j3 : J (Z.now (Ow A (at_ Ve g)) H) A2 (at_ Vs' g2) (σ2.set i none) H2 := j2.unraw hno
          have j4 := j3.weak (ws g2) (wk_io (A := A2) ks ke hion)
          have st4 := j.stt j4
          rw [ow_at, ow_at] at st4
          exact q A2 _ H2 (j.down j4 hkt) st4
      · subst hb0
        simp only [ec] at q
        have jd := j.down jx' hkt
        exact q c A' σ' H' mc (hx _ _ _ _ _ jd)⟩
end
end HL
/-! Fu: isinstance of the exception that a suite holds. -/
namespace HL
open PySem PySem.Spec PyProof.Rows L2
/-- the class named x, asked whether it is one of the class named y: b -/
structure XIs (K : PySem.W.Frag) (mg : Str → Option Value) (x y : Str) (b : Bool) : Prop where
  ex : ∃ Cx Cy : Addr, mg x = some (.ref Cx) ∧ mg y = some (.ref Cy) ∧ ExcC K Cx ∧ PySem.W.kitOne K (.ref Cx) (.ref Cy) = some b
/-- .. of a built-in class -/
structure XIsB (K : PySem.W.Frag) (mg : Str → Option Value) (x y : Str) (b : Bool) : Prop where
  ex : ∃ (Cx : Addr) (T : String), mg x = some (.ref Cx) ∧ mg y = none ∧ bootBuiltins y = some (.type T) ∧ ExcC K Cx ∧ PySem.W.kitOne K (.ref Cx) (.type T) = some b
section
variable {X : Cx} {γ : Type} {Ve : Ev γ} {pos : Pos} {a : Addr} {oe : Obj} {pn : List (Addr × Obj)} {x : Str}
theorem exA_cls {Cx : Addr} (h : ExA X x a oe) (m : X.mg x = some (.ref Cx)) : Zc (.ref Cx) none oe := by
  obtain ⟨C', h1, h2⟩ := h.ex
  rw [m] at h1
  cases h1
  exact h2
theorem s_isE {n y : Str} {b : Bool} {p0 p1 p2 : Pos} (i : Nat) (hE : ExA X x a oe) (c : XIs X.K X.mg x y b) (hx : X.mg "isinstance" = none) (hi : Ve[i]? = some (.raw (.ref a)) := by rfl) (hN : X.N[i]? = some n := by rfl)
    (hv : Vis X.env.scope n := by first | exact Or.inl rfl | exact Or.inr (Or.inl rfl) | exact Or.inr (Or.inr rfl)) (hd : (n == ("__debug__" : Str)) = false := by decide) (hcd : (n == ("__classdict__" : Str)) = false := by decide) (hg : Gl X "isinstance" := by rfl) (hgy : Gl X y := by rfl) (hdy : (y == ("__debug__" : Str)) = false := by decide)
    (he : starEach (.Name n p1 :: [.Name y p2]) X.env = (false, eval (.Name n p1) X.env) :: starEach [.Name y p2] X.env := by rfl) (he2 : starEach (.Name y p2 :: []) X.env = (false, eval (.Name y p2) X.env) :: starEach [] X.env := by rfl) (hpl : (backTo pos (starEach [.Name y p2] X.env)).any (·.1) = false := by rfl) :
    SE (X.suite a ((a, oe) :: pn)) Ve .fr true (.Call (.Name "isinstance" p0) [.Name n p1, .Name y p2] [] pos) (pureA fun _ => b) := ⟨fun Z W hK tk => by
  obtain ⟨Cx, Cy, m1, m2, ec, ek⟩ := c.ex
  refine (pe_callB (X := X.suite a ((a, oe) :: pn)) (call_isE ec (exA_cls hE m1) hE.fl) hg hx PyProof.Rows.boot_isinstance (pa_cons (pe_var (X := X.suite a ((a, oe) :: pn)) hN hv hd hcd) (pa_cons (pe_glob (X := X.suite a ((a, oe) :: pn)) (v := .ref Cy) hgy m2 rfl hdy) pa_nil he2) he) (by decide) (by decide) he hpl).weak fun σ H Q q => ?_
  obtain ⟨g, A, j, q⟩ := q
  have hr : (at_ Ve g)[i]? = some (.raw (.ref a)) := by rw [at_get, hi]; rfl
  refine ⟨_, j.raw i _ hr, .ref Cy, .ref Cy, b, rfl, fun u h => h, ek, ?_⟩
  exact q _ H j (.refl H) (fun _ => Same.refl H) (.bl b)⟩
theorem s_isEB {n y : Str} {b : Bool} {p0 p1 p2 : Pos} (i : Nat) (hE : ExA X x a oe) (c : XIsB X.K X.mg x y b) (hx : X.mg "isinstance" = none) (hi : Ve[i]? = some (.raw (.ref a)) := by rfl) (hN : X.N[i]? = some n := by rfl)
    (hv : Vis X.env.scope n := by first | exact Or.inl rfl | exact Or.inr (Or.inl rfl) | exact Or.inr (Or.inr rfl)) (hd : (n == ("__debug__" : Str)) = false := by decide) (hcd : (n == ("__classdict__" : Str)) = false := by decide) (hg : Gl X "isinstance" := by rfl) (hgy : Gl X y := by rfl) (hny : y ≠ "__name__" := by decide) (hdy : (y == ("__debug__" : Str)) = false := by decide)
    (he : starEach (.Name n p1 :: [.Name y p2]) X.env = (false, eval (.Name n p1) X.env) :: starEach [.Name y p2] X.env := by rfl) (he2 : starEach (.Name y p2 :: []) X.env = (false, eval (.Name y p2) X.env) :: starEach [] X.env := by rfl) (hpl : (backTo pos (starEach [.Name y p2] X.env)).any (·.1) = false := by rfl) :
    SE (X.suite a ((a, oe) :: pn)) Ve .fr true (.Call (.Name "isinstance" p0) [.Name n p1, .Name y p2] [] pos) (pureA fun _ => b) := ⟨fun Z W hK tk => by
  obtain ⟨Cx, T, m1, m2, hb, ec, ek⟩ := c.ex
  refine (pe_callB (X := X.suite a ((a, oe) :: pn)) (call_isE ec (exA_cls hE m1) hE.fl) hg hx PyProof.Rows.boot_isinstance (pa_cons (pe_var (X := X.suite a ((a, oe) :: pn)) hN hv hd hcd) (pa_cons (pe_bltn (X := X.suite a ((a, oe) :: pn)) (v := .ty T) hgy m2 hb rfl hny hdy) pa_nil he2) he) (by decide) (by decide) he hpl).weak fun σ H Q q => ?_
  obtain ⟨g, A, j, q⟩ := q
  have hr : (at_ Ve g)[i]? = some (.raw (.ref a)) := by rw [at_get, hi]; rfl
  refine ⟨_, j.raw i _ hr, .ty T, .type T, b, rfl, fun u h => h, ek, ?_⟩
  exact q _ H j (.refl H) (fun _ => Same.refl H) (.bl b)⟩
end
/-! ### a tuple of classes -/
def rIsET (K : PySem.W.Frag) (D a : Addr) : List L2.V → Hp → VK → Prop := fun xs H Q => ∃ (tp : Addr) (cs : List L2.V) (us : List Value) (b : Bool), xs = [.ref a, .ref tp] ∧ H tp = some (.tup cs) ∧ Paired ClsV cs us ∧ PySem.W.kitAny K (.ref D) us = some b ∧ Q (.bl b) H
theorem call_isET {X : Cx} {a D : Addr} {oe : Obj} {pn : List (Addr × Obj)} (C : ExcC X.K D) (hz : Zc (.ref D) none oe) (hf : ∃ vs, oe.data = .fields vs) : CallR (X.suite a ((a, oe) :: pn)) (.builtin "isinstance") (rIsET X.K D a) := by
  intro pins s σ H xs us Q I r h
  obtain ⟨tp, cs, ws, b, rfl, hT, k, e, q⟩ := h
  obtain ⟨u1, u2, rfl, r1, r2⟩ := vals2 r
  cases (show u1 = Value.ref a from r1)
  cases (show u2 = Value.ref tp from r2)
  obtain ⟨hget, _⟩ := I.pin (a, oe) (List.mem_append.mpr (.inl List.mem_cons_self))
  obtain ⟨vs, hv⟩ := hf
  have J : PySem.W.InstAt s.heap a oe D none := by
    obtain ⟨oc, od, oda, osl⟩ := oe
    obtain ⟨h1, h2⟩ := hz
    dsimp only at h1 h2 hv
    subst h1 h2 hv
    exact ⟨hget, rfl, rfl, trivial⟩
  obtain ⟨_, its, rv, o, h1, h2, n, h3⟩ := (show ObjOk X.prog X.w H s.heap tp (.tup cs) from I.hok tp _ hT)
  have e3 := ClsV.all k rv
  subst e3
  obtain ⟨oc, od, dt, sl⟩ := o
  simp only at h2 h3
  subst h2 h3
  exact PySem.W.kia_tup (PySem.W.handS_kitx_exc C.hg C.hk C.hs C.hd C.ha C.hn C.ht C.hm) I.kIn J h1 e (fun z => nomatch z) fun tk => ⟨.bl b, H, I.kept (t' := tk) fun _ _ z => z, rfl, q⟩
/-- a list of names of classes -/
structure NA (X : Cx) (es : List Expr) (cs : List Addr) : Prop where
  run : PA X es (fun _ H Q => Q (cs.map V.ref) H)
theorem na_nil {X : Cx} : NA X [] [] := ⟨pa_nil⟩
theorem na_cons {X : Cx} {y : Str} {p : Pos} {es : List Expr} {cs : List Addr} (h : X.mg y = some (.ref (He.ga X.K y))) (r : NA X es cs) (hg : Gl X y := by rfl) (hd : (y == ("__debug__" : Str)) = false := by decide) (he : starEach (.Name y p :: es) X.env = (false, eval (.Name y p) X.env) :: starEach es X.env := by rfl) : NA X (.Name y p :: es) (He.ga X.K y :: cs) :=
  ⟨pa_cons (pe_glob (v := .ref (He.ga X.K y)) hg h rfl hd) r.run he⟩
theorem clsV_refs : ∀ cs : List Addr, Paired ClsV (cs.map V.ref) (cs.map Value.ref)
  | [] => .nil
  | c :: cs => .cons (.own c) (clsV_refs cs)
section
variable {X : Cx} {γ : Type} {Ve : Ev γ} {pos : Pos} {a : Addr} {oe : Obj} {pn : List (Addr × Obj)} {x : Str}
theorem s_isET {n : Str} {b : Bool} {p0 p1 p2 : Pos} {es : List Expr} {kt : _} {cs : List Addr} (i : Nat) (hE : ExA X x a oe) (m1 : X.mg x = some (.ref (He.ga X.K x))) (ec : ExcC X.K (He.ga X.K x)) (ek : PySem.W.kitAny X.K (.ref (He.ga X.K x)) (cs.map Value.ref) = some b) (hes : NA (X.suite a ((a, oe) :: pn)) es cs) (hx : X.mg "isinstance" = none) (hl : cs.length ≤ 1000) (hi : Ve[i]? = some (.raw (.ref a)) := by rfl) (hN : X.N[i]? = some n := by rfl)
    (hv : Vis X.env.scope n := by first | exact Or.inl rfl | exact Or.inr (Or.inl rfl) | exact Or.inr (Or.inr rfl)) (hd : (n == ("__debug__" : Str)) = false := by decide) (hcd : (n == ("__classdict__" : Str)) = false := by decide) (hg : Gl X "isinstance" := by rfl)
    (he : starEach (.Name n p1 :: [.Tuple es kt p2]) X.env = (false, eval (.Name n p1) X.env) :: starEach [.Tuple es kt p2] X.env := by rfl) (he2 : starEach (.Tuple es kt p2 :: []) X.env = (false, eval (.Tuple es kt p2) X.env) :: starEach [] X.env := by rfl) (hpl : (backTo pos (starEach [.Tuple es kt p2] X.env)).any (·.1) = false := by rfl) :
    SE (X.suite a ((a, oe) :: pn)) Ve .fr true (.Call (.Name "isinstance" p0) [.Name n p1, .Tuple es kt p2] [] pos) (pureA fun _ => b) := ⟨fun Z W hK tk => by
  refine (pe_callB (X := X.suite a ((a, oe) :: pn)) (call_isET ec (exA_cls hE m1) hE.fl) hg hx PyProof.Rows.boot_isinstance (pa_cons (pe_var (X := X.suite a ((a, oe) :: pn)) hN hv hd hcd) (pa_cons (pe_tup hes.run) pa_nil he2) he) (by decide) (by decide) he hpl).weak fun σ H Q q => ?_
  obtain ⟨g, A, j, q⟩ := q
  have hr : (at_ Ve g)[i]? = some (.raw (.ref a)) := by rw [at_get, hi]; rfl
  refine ⟨_, j.raw i _ hr, by rw [List.length_map]; exact smallN hl, fun tp htp => ⟨tp, cs.map V.ref, cs.map Value.ref, b, rfl, upd_same, clsV_refs cs, ek, ?_⟩⟩
  exact q _ _ (j.new htp) (.of (same_new htp)) (fun _ => same_new htp) (.bl b)⟩
end
end HL
/-! Fv: short forms for a try that one class may leave. -/
namespace HL
open PySem PySem.Spec PyProof.Rows L2
def flatR : List Slot → Prop
  | [] => True
  | s :: r => flatS s ∧ flatR r
theorem flat_all : ∀ {r : List Slot}, flatR r → ∀ s ∈ r, flatS s
  | [], _, s, h => nomatch h
  | t :: r, k, s, h => by
    rcases List.mem_cons.mp h with e | h
    · rw [e]; exact k.1
    · exact flat_all k.2 s h
/-- the class x is caught by a clause that names y -/
structure XCat (K : PySem.W.Frag) (mg : Str → Option Value) (x y : Str) : Prop where
  gx : mg x = some (.ref (He.ga K x))
  gy : mg y = some (.ref (He.ga K y))
  ex : PySem.W.exmOne K (.ref (He.ga K x)) (.ref (He.ga K y)) = some true
theorem cat_names {X : Cx} {x y : Str} (c : XCat X.K X.mg x y) (hg : Gl X y := by rfl) (hd : (y == ("__debug__" : Str)) = false := by decide) : Names X y (.ref (He.ga X.K y)) := ⟨hg, hd, .inl c.gy⟩
theorem ct_one {K : PySem.W.Frag} {mg : Str → Option Value} {x y : Str} (c : XCat K mg x y) : ∀ (z : Str) (b : Bool) (v : Value), (if z = x then some true else none) = some b → mg z = some v → PySem.W.exmOne K v (.ref (He.ga K y)) = some b := fun z b v h m => by
  by_cases e : z = x
  · rw [if_pos e] at h
    cases h
    rw [e, c.gx] at m
    cases m
    exact c.ex
  · rw [if_neg e] at h
    cases h
theorem ct_ref {K : PySem.W.Frag} {mg : Str → Option Value} {x y : Str} (c : XCat K mg x y) : ∀ (z : Str) (v : Value), (if z = x then some true else none) = some true → mg z = some v → ∃ Cx : Addr, v = .ref Cx := fun z v h m => by
  by_cases e : z = x
  · rw [e, c.gx] at m
    cases m
    exact ⟨_, rfl⟩
  · rw [if_neg e] at h
    cases h
theorem ct_suite {X : Cx} {x z : Str} {a : Addr} {oe : Obj} {P : Prop} (h : (if z = x then some true else none) = some true) (hE : ExA X z a oe) (k : ExA X x a oe → P) : P := by
  by_cases e : z = x
  · exact k (e ▸ hE)
  · rw [if_neg e] at h
    cases h
/-- what is asked of the held exception -/
structure XOne (K : PySem.W.Frag) (mg : Str → Option Value) (x y : Str) (b : Bool) : Prop where
  gx : mg x = some (.ref (He.ga K x))
  gy : mg y = some (.ref (He.ga K y))
  ec : ExcC K (He.ga K x)
  ek : PySem.W.kitOne K (.ref (He.ga K x)) (.ref (He.ga K y)) = some b
theorem XOne.is {K : PySem.W.Frag} {mg : Str → Option Value} {x y : Str} {b : Bool} (c : XOne K mg x y b) : XIs K mg x y b := ⟨_, _, c.gx, c.gy, c.ec, c.ek⟩
structure XOneB (K : PySem.W.Frag) (mg : Str → Option Value) (x y : Str) (T : String) (b : Bool) : Prop where
  gx : mg x = some (.ref (He.ga K x))
  gy : mg y = none
  ec : ExcC K (He.ga K x)
  ek : PySem.W.kitOne K (.ref (He.ga K x)) (.type T) = some b
theorem XOneB.is {K : PySem.W.Frag} {mg : Str → Option Value} {x y : Str} {T : String} {b : Bool} (c : XOneB K mg x y T b) (h : bootBuiltins y = some (.type T)) : XIsB K mg x y b := ⟨_, T, c.gx, c.gy, h, c.ec, c.ek⟩
end HL
/-! Fw: len of a tuple. -/
namespace HL
open PySem PySem.Spec PyProof.Rows L2
section
variable {X : Cx} {γ τ : Type} [Enc τ] {Ve : Ev γ} {m : Md} {p : Bool} {e : Expr} {pos : Pos}
theorem s_lenT (n : Int) {f : Ac γ τ} {p0 : Pos} (hx : X.mg "len" = none) (ha : SE X Ve m p e f) (hmk : ∀ x : τ, ∃ ds, enc x = .tuple ds ∧ (ds.length : Int) = n := by exact fun _ => ⟨_, rfl, rfl⟩) (hg : Gl X "len" := by rfl) (he : starEach (e :: []) X.env = (false, eval e X.env) :: starEach [] X.env := by rfl) (hpl : (backTo pos (starEach [] X.env)).any (·.1) = false := by rfl) :
    SE X Ve .fr p (.Call (.Name "len" p0) [e] [] pos) (op1 (fun _ => some n) f) :=
  s_b1 (id := "len") (r := fun K xs H Q => ∃ q ys, xs = [.ref q] ∧ (SqL K H q ys ∨ SqT K H q ys) ∧ Q (.int ys.length) H) call_len_seq (fun Z hK => fun A g σ H x l c Q j rx e q => by
    obtain ⟨ds, e1, e2⟩ := hmk l
    have r := rx.full
    rw [e1] at r
    obtain ⟨t, vs, rfl, s1, s2⟩ := rp_tuple r
    have ec := some_inj' e
    refine ⟨t, vs, rfl, .inr (hK ▸ s1), ?_⟩
    rw [s2.length, e2, ← ec]
    exact q _ H (Same.refl H) j (.int _)) hx ha PySem.boot_len hg (by decide) (by decide) he he hpl
/-- a part of a tuple, its bounds written -/
theorem s_slT {δ : Type} [Enc δ] {a : Expr} {lo hi : Option Expr} {pos2 : Pos} {f : Ac γ τ} {l h : Ac γ (Option Int)} (pr : τ → δ) (ha : SE X Ve .fr p a f) (hl : SO X Ve true lo l) (hh : SO X Ve true hi h)
    (hk : ∃ lo' hi', (∀ g, l g = .ok lo' g) ∧ (∀ g, h g = .ok hi' g) ∧ ∀ x, ∃ ds, enc x = .tuple ds ∧ decide (HT.sIx ds.length 0 lo' = 0 ∧ HT.sIx ds.length ds.length hi' = ds.length) = false ∧ enc (pr x) = .tuple (cut lo' hi' ds) := by exact ⟨_, _, fun _ => rfl, fun _ => rfl, fun _ => ⟨_, rfl, rfl, rfl⟩⟩) :
    SE X Ve .fr p (.Subscript a (.Slice lo hi none pos2) pos) (op1 (fun x => some (pr x)) f) := ⟨fun Z W hK tk => (pe_slice sl_tup (ha.run Z W hK tk) (hl.run Z W hK tk) (hh.run Z W hK tk)).weak fun σ H Q q => by
  obtain ⟨lo', hi', k1, k2, k3⟩ := hk
  obtain ⟨g, A, j, q⟩ := q
  refine ⟨g, A, j, ?_⟩
  unfold op1 bindA at q
  cases ef : f g with
  | bad => rw [ef] at q; exact q
  | exc x g1 => rw [ef] at q; exact q
  | ok x g1 =>
    simp only [ef] at q
    intro v H1 j1 gr1 sm1 rv
    refine ⟨g1, A, j1, ?_⟩
    rw [k1 g1]
    intro H2 j2 gr2 sm2
    refine ⟨g1, A, j2, ?_⟩
    rw [k2 g1]
    intro H3 j3 gr3 sm3
    obtain ⟨ds, e1, e2, e3⟩ := k3 x
    have r3 : Rp Z.K (GH Z (OwV A Ve) H3) v (enc x) := Rp.mono (gr2.trans gr3).gh _ rv
    rw [e1] at r3
    obtain ⟨t, vs, rfl, s1, s2⟩ := rp_tuple r3
    refine ⟨t, vs, rfl, hK ▸ sqT_same gh_le s1, by rw [s2.length]; exact of_decide_eq_false e2, fun n hn => q (.ref n) _ (j3.new hn) (((gr1.trans gr2).trans gr3).trans (.of (same_new hn))) (fun z => (((sm1 z).trans (sm2 rfl)).trans (sm3 rfl)).trans (same_new hn)) ?_⟩
    show Rp Z.K _ _ (enc (pr x))
    rw [e3]
    have hn' := j3.ghnew (o := .tup (cutV vs lo' hi')) hn
    rw [ow_at] at hn'
    exact .tup hn' (RpA.mono (Gr.of (same_new hn)).gh _ (rpA_cut s2))⟩
end
end HL
/-! Fx: casts, values of two kinds, == of what may be none; more of the plain side. -/
namespace HL
open PySem PySem.Spec PyProof.Rows L2
section
variable {X : Cx} {γ α δ : Type} [Enc α] [Enc δ] {Ve : Ev γ} {m : Md} {p : Bool} {e : Expr}
/-- one and the same thing, of another type -/
theorem SE.cast (k : α → Option δ) (hk : ∀ a b, k a = some b → enc b = enc a) {f : Ac γ α} (h : SE X Ve m p e f) : SE X Ve m p e (op1 k f) := ⟨fun Z W hK tk => (h.run Z W hK tk).weak fun σ H Q q => by
  obtain ⟨g, A, j, q⟩ := q
  refine ⟨g, A, j, ?_⟩
  unfold op1 bindA optA at q
  cases ef : f g with
  | bad => simp only [ef] at q
  | exc x g1 => simp only [ef] at q; exact q
  | ok a g1 =>
    simp only [ef] at q
    cases ek : k a with
    | none => simp only [ek] at q
    | some b =>
      simp only [ek] at q
      intro v H1 j1 gr sm rv
      exact q v H1 j1 gr sm (by rw [hk a b ek]; exact rv)⟩
end
section
variable {X : Cx} {γ δ τ : Type} [Enc δ] {Ve : Ev γ} {p : Bool} {es : List Expr} {ks : List AK} {pos : Pos}
/-- a written list of things that are known -/
theorem s_lstA {el : τ → List D} {f : Ac γ τ} (mk : τ → List δ) (ha : SA X Ve ks p es el f) (hk : allK false ks = true := by rfl) (hmk : ∀ t, (mk t).map enc = el t := by exact fun _ => rfl) (hl : ∀ t, (el t).length ≤ 1000 := by exact fun _ => of_decide_eq_true rfl) :
    SE X Ve .an p (.List es pos) (op1 (fun t => some (mk t)) f) := ⟨fun Z W hK tk => (pe_lst (ha.run Z W hK tk)).weak fun σ H Q q => by
  obtain ⟨g, A, j, q⟩ := q
  refine ⟨g, A, j, ?_⟩
  unfold op1 bindA at q
  cases ef : f g with
  | bad => rw [ef] at q; exact q
  | exc x g1 => rw [ef] at q; exact q
  | ok t g1 =>
    rw [ef] at q
    intro vs H1 j1 gr sm rvs
    have ra := rmA_all hk rvs
    refine ⟨by rw [ra.length]; exact smallN (hl t), fun n hn => q (.ref n) _ (j1.new hn) (gr.trans (.of (same_new hn))) (fun z => (sm z).trans (same_new hn)) ?_⟩
    have hn' := j1.ghnew (o := .lst vs) hn
    rw [ow_at] at hn'
    have ra' := RpA.mono (Gr.of (same_new (o := .lst vs) hn)).hp _ ra
    show Rp Z.K _ _ (.list ((mk t).map enc))
    rw [hmk]
    exact .lst (gh_fh _ _ hn') ra'⟩
end
/-- what may be none, as what is not -/
def unO {α : Type} (o : Option α) : Option α := o
theorem unO_ok {α : Type} [Enc α] (a : Option α) (b : α) (h : unO a = some b) : enc b = enc a := by
  unfold unO at h
  rw [h]
  rfl
/-! values of two kinds -/
instance {α β : Type} [Enc α] [Enc β] : Enc (α ⊕ β) := ⟨fun s => match s with | .inl a => enc a | .inr b => enc b⟩
instance {α β : Type} [Enc α] [Enc β] [Flat α] [Flat β] : Flat (α ⊕ β) := ⟨fun s => by
  cases s with
  | inl a => exact Flat.flat a
  | inr b => exact Flat.flat b⟩
def inL {α β : Type} (a : α) : Option (α ⊕ β) := some (.inl a)
def inR {α β : Type} (b : β) : Option (α ⊕ β) := some (.inr b)
def unL {α β : Type} (s : α ⊕ β) : Option α := match s with | .inl a => some a | .inr _ => none
def unR {α β : Type} (s : α ⊕ β) : Option β := match s with | .inl _ => none | .inr b => some b
theorem inL_ok {α β : Type} [Enc α] [Enc β] (a : α) (s : α ⊕ β) (h : inL a = some s) : enc s = enc a := by
  cases h
  rfl
theorem inR_ok {α β : Type} [Enc α] [Enc β] (b : β) (s : α ⊕ β) (h : inR b = some s) : enc s = enc b := by
  cases h
  rfl
theorem unL_ok {α β : Type} [Enc α] [Enc β] (s : α ⊕ β) (a : α) (h : unL s = some a) : enc a = enc s := by
  cases s with
  | inl b => cases h; rfl
  | inr b => cases h
theorem unR_ok {α β : Type} [Enc α] [Enc β] (s : α ⊕ β) (a : β) (h : unR s = some a) : enc a = enc s := by
  cases s with
  | inl b => cases h
  | inr b => cases h; rfl
/-! the type, by the thing -/
class TyV (α : Type) [Enc α] where
  nm : α → String
  ok : ∀ {K : PySem.W.Frag} {H : Hp} {v : L2.V} (x : α), Rp K H v (enc x) → TyX K H v (.type (nm x))
instance (priority := low) {α : Type} [Enc α] [Ty1 α] : TyV α := ⟨fun _ => Ty1.nm α, fun x h => Ty1.ok x h⟩
instance {α : Type} [Enc α] [Ty1 α] : TyV (Option α) := ⟨fun o => if o.isSome = true then Ty1.nm α else "NoneType", fun x h => by
  cases x with
  | none => cases h; exact .base .non
  | some a => exact Ty1.ok a h⟩
instance {α β : Type} [Enc α] [Enc β] [Ty1 α] [Ty1 β] : TyV (α ⊕ β) := ⟨fun s => if s.isLeft = true then Ty1.nm α else Ty1.nm β, fun x h => by
  cases x with
  | inl a => exact Ty1.ok a h
  | inr a => exact Ty1.ok a h⟩
section
variable {X : Cx} {γ α β δ : Type} [Enc α] [Enc β] [Enc δ] {Ve : Ev γ} {m : Md} {p : Bool} {e : Expr} {pos : Pos}
theorem s_isiV [TyV α] {c : Str} {cs : String} (k : α → Bool) {f : Ac γ α} {p0 p9 : Pos} (hx : X.mg "isinstance" = none) (hc : X.mg c = none) (ha : SE X Ve m p e f) (hk : ∀ a, kitB (TyV.nm a) cs = some (k a)) (hv : bootBuiltins c = some (.type cs) := by decide +kernel)
    (hg : Gl X "isinstance" := by rfl) (hgc : Gl X c := by rfl) (hn : c ≠ "__name__" := by decide) (hd : (c == ("__debug__" : Str)) = false := by decide)
    (he : starEach (e :: [.Name c p9]) X.env = (false, eval e X.env) :: starEach [.Name c p9] X.env := by rfl) (he2 : starEach (.Name c p9 :: []) X.env = (false, eval (.Name c p9) X.env) :: starEach [] X.env := by rfl) (hpl : (backTo pos (starEach [.Name c p9] X.env)).any (·.1) = false := by rfl) :
    SE X Ve .fr p (.Call (.Name "isinstance" p0) [e, .Name c p9] [] pos) (op1 (fun a => some (k a)) f) :=
  ⟨fun Z W hK tk => (pe_callB call_isi hg hx PyProof.Rows.boot_isinstance (pa_cons (ha.run Z W hK tk) (pa_cons (pe_bltn (v := .ty cs) hgc hc hv rfl hn hd) pa_nil he2) he) (by decide) (by decide) he hpl).weak fun σ H Q q =>
    tUn_ok (r := fun v H Q => rIsi X.K [v, .ty cs] H Q) (fun A g σ H x l c Q j rx ec q => by
      rw [some_inj' ec] at q
      exact ⟨x, .ty cs, _, _, k l, rfl, .ty cs, hK ▸ TyV.ok l rx.full, hk l, q _ H (Same.refl H) j (.bl _)⟩) q⟩
end
theorem kitO {α : Type} [Enc α] [Ty1 α] {cs : String} {r r2 : Bool} (h : kitB (Ty1.nm α) cs = some r := by decide +kernel) (h2 : kitB "NoneType" cs = some r2 := by decide +kernel) : ∀ a : Option α, kitB (TyV.nm a) cs = some (if a.isSome = true then r else r2) := fun a => by
  cases a with
  | none => exact h2
  | some a => exact h
theorem kitS {α β : Type} [Enc α] [Enc β] [Ty1 α] [Ty1 β] {cs : String} {r r2 : Bool} (h : kitB (Ty1.nm α) cs = some r := by decide +kernel) (h2 : kitB (Ty1.nm β) cs = some r2 := by decide +kernel) : ∀ a : α ⊕ β, kitB (TyV.nm a) cs = some (if a.isLeft = true then r else r2) := fun a => by
  cases a with
  | inl a => exact h
  | inr a => exact h2
/-- tuples -/
class Tup (α : Type) [Enc α] : Prop where
  tup : ∀ a : α, ∃ ds, enc a = .tuple ds
instance {α β : Type} [Enc α] [Enc β] : Tup (α × β) := ⟨fun _ => ⟨_, rfl⟩⟩
instance {α β γ : Type} [Enc α] [Enc β] [Enc γ] : Tup (T3 α β γ) := ⟨fun _ => ⟨_, rfl⟩⟩
instance {α β γ δ : Type} [Enc α] [Enc β] [Enc γ] [Enc δ] : Tup (T4 α β γ δ) := ⟨fun _ => ⟨_, rfl⟩⟩
instance {α : Type} [Enc α] [DecidableEq α] [EqE α] [Tup α] : EqE (Option α) := ⟨fun a b => by
  cases a with
  | none =>
    cases b with
    | none => rfl
    | some b =>
      obtain ⟨ds, e⟩ := Tup.tup b
      show PyData.eqv .none (enc b) = _
      rw [e]
      simp [PyData.eqv]
  | some a =>
    cases b with
    | none =>
      obtain ⟨ds, e⟩ := Tup.tup a
      show PyData.eqv (enc a) .none = _
      rw [e]
      simp [PyData.eqv]
    | some b =>
      show PyData.eqv (enc a) (enc b) = _
      rw [EqE.eqv]
      by_cases h : a = b <;> simp [h], fun a => by
  cases a with
  | none => rfl
  | some a => exact EqE.lay a, EqE.dep α, fun a => by
  cases a with
  | none => exact Nat.zero_le _
  | some a => exact EqE.depth a⟩
instance {α : Type} [Enc α] [DecidableEq α] [EqE α] [Tup α] : EqE (α ⊕ Bool) := ⟨fun a b => by
  cases a with
  | inr a =>
    cases b with
    | inr b =>
      show PyData.eqv (enc a) (enc b) = _
      rw [EqE.eqv]
      by_cases h : a = b <;> simp [h]
    | inl b =>
      obtain ⟨ds, e⟩ := Tup.tup b
      show PyData.eqv (.bool a) (enc b) = _
      rw [e]
      simp [PyData.eqv]
  | inl a =>
    cases b with
    | inr b =>
      obtain ⟨ds, e⟩ := Tup.tup a
      show PyData.eqv (enc a) (.bool b) = _
      rw [e]
      simp [PyData.eqv]
    | inl b =>
      show PyData.eqv (enc a) (enc b) = _
      rw [EqE.eqv]
      by_cases h : a = b <;> simp [h], fun a => by
  cases a with
  | inr a => rfl
  | inl a => exact EqE.lay a, EqE.dep α, fun a => by
  cases a with
  | inr a => exact Nat.zero_le _
  | inl a => exact EqE.depth a⟩
/-! ### the plain side -/
section
variable {γ α β : Type}
theorem rangeL_mem {lo : Int} {n : Nat} {a : Int} (h : a ∈ rangeL lo n) : lo ≤ a ∧ a < lo + n := by
  unfold rangeL at h
  obtain ⟨i, hi, rfl⟩ := List.mem_map.mp h
  have := List.mem_range.mp hi
  omega
theorem rangeL_len {lo : Int} {n : Nat} : (rangeL lo n).length = n := by
  unfold rangeL
  rw [List.length_map, List.length_range]
/-- the turn's number -/
theorem rangeL_at {lo a : Int} {n : Nat} {d r : List Int} (e : rangeL lo n = d ++ a :: r) : d.length < n ∧ a = lo + (d.length : Int) := by
  have h1 := congrArg List.length e
  rw [rangeL_len] at h1
  simp at h1
  have h2 := congrArg (fun l : List Int => l[d.length]?) e
  simp only [List.getElem?_append_right (Nat.le_refl _), Nat.sub_self, List.getElem?_cons_zero] at h2
  rw [rangeL_get (by omega)] at h2
  have := Option.some.inj h2
  omega
theorem at_neg {l : List α} {k : Int} (h : k < 0) (h2 : -(l.length : Int) ≤ k) : atI l k = l[(k + l.length).toNat]? := by
  unfold atI ixN
  rw [if_neg (by omega), if_pos h2]
  rfl
theorem o_atN {l : List α} {k : Int} {Q : α → Prop} (h : k < 0) (h2 : -(l.length : Int) ≤ k) (q : ∀ a ∈ l, Q a) : opt (atI l k) Q := by
  rw [at_neg h h2]
  have : (k + l.length).toNat < l.length := by omega
  rw [List.getElem?_eq_getElem this]
  exact q _ (List.getElem_mem this)
theorem o3m2 {a b c : α} {Q : α → Prop} : opt (atI [a, b, c] (-2)) Q ↔ Q b := Iff.rfl
theorem o3m1 {a b c : α} {Q : α → Prop} : opt (atI [a, b, c] (-1)) Q ↔ Q c := Iff.rfl
theorem q_forN {set : γ → α → γ} {body : Sc γ β} {g : γ} {N : γ → Prop} {R : β → γ → Prop} {X : Str → γ → Prop} : (forR set body [] g).post N R X ↔ N g := Iff.rfl
theorem q_forC {set : γ → α → γ} {body : Sc γ β} {a : α} {l : List α} {g : γ} {N : γ → Prop} {R : β → γ → Prop} {X : Str → γ → Prop} : (forR set body (a :: l) g).post N R X ↔ (body (set g a)).post (fun g' => (forR set body l g').post N R X) R X := q_bind
theorem q_try1 {c : Str} {f : Sc γ β} {h : Str → Sc γ β} {g : γ} {N : γ → Prop} {R : β → γ → Prop} {X : Str → γ → Prop} : (tryS (fun x => if x = c then some true else none) f h g).post N R X ↔ (f g).post N R (fun x g1 => x = c ∧ (h x g1).post N R nX) := by
  unfold tryS
  cases e : f g with
  | bad => exact Iff.rfl
  | nx g1 => exact Iff.rfl
  | rt b g1 => exact Iff.rfl
  | exc x g1 =>
    by_cases hx : x = c
    · simp only [hx, if_true]
      show _ ↔ (c = c ∧ (h c g1).post N R nX)
      cases h c g1 with
      | exc y g2 => exact ⟨fun z => z.elim, fun z => z.2.elim⟩
      | _ => exact ⟨fun z => ⟨rfl, z⟩, fun z => z.2⟩
    · simp only [hx, if_false]
      exact ⟨fun z => z.elim, fun z => hx z.1⟩
end
theorem and_if {b c : Bool} {P R : Prop} : (if b = true then (if c = true then P else R) else (if false = true then P else R)) = if (b && c) = true then P else R := by
  cases b <;> cases c <;> rfl
theorem and_if2 {b c : Bool} {P R : Prop} : (if b = true then (if c = true then P else R) else R) = if (b && c) = true then P else R := by
  cases b <;> cases c <;> rfl
theorem o_inL {α β : Type} {a : α} {Q : α ⊕ β → Prop} : opt (inL a) Q ↔ Q (.inl a) := Iff.rfl
theorem o_inR {α β : Type} {a : β} {Q : α ⊕ β → Prop} : opt (inR a) Q ↔ Q (.inr a) := Iff.rfl
theorem o_unL {α β : Type} {a : α} {Q : α → Prop} : opt (unL (.inl a : α ⊕ β)) Q ↔ Q a := Iff.rfl
theorem o_unR {α β : Type} {a : β} {Q : β → Prop} : opt (unR (.inr a : α ⊕ β)) Q ↔ Q a := Iff.rfl
theorem o_unO {α : Type} {a : α} {Q : α → Prop} : opt (unO (some a)) Q ↔ Q a := Iff.rfl
theorem gcd_step {a b : Int} (ha : 0 ≤ a) (hb : 0 < b) : Nat.gcd b.natAbs (a.fmod b).natAbs = Nat.gcd a.natAbs b.natAbs := by
  have e : (a.fmod b).natAbs = a.natAbs % b.natAbs := by
    rw [Int.fmod_eq_emod_of_nonneg _ (by omega)]
    have := Int.emod_nonneg a (b := b) (by omega)
    have h2 : ((a % b).natAbs : Int) = ((a.natAbs % b.natAbs : Nat) : Int) := by
      rw [Int.natAbs_of_nonneg this, Int.natCast_emod, Int.natAbs_of_nonneg ha, Int.natAbs_of_nonneg (by omega)]
    exact_mod_cast h2
  rw [e, Nat.gcd_comm a.natAbs b.natAbs, Nat.gcd_rec b.natAbs a.natAbs, Nat.gcd_comm]
theorem gcd_le (a b : Nat) : Nat.gcd a b ≤ a + b := by
  rcases Nat.eq_zero_or_pos a with e | e
  · rw [e, Nat.gcd_zero_left]; omega
  · have := Nat.gcd_le_left b e
    omega
theorem Bd.gcd {n m : Nat} {a b : Int} (h : Bd n a) (k : Bd m b) : Bd (n + m + 1) (Nat.gcd a.natAbs b.natAbs : Nat) := by
  unfold Bd at *
  have := pow_add1 n m
  have := gcd_le a.natAbs b.natAbs
  rw [Int.natAbs_natCast]
  omega
theorem fdiv_mul {e n : Int} (h : e ∣ n) : n.fdiv e * e = n := by
  rw [Int.fdiv_eq_ediv_of_dvd h]
  exact Int.ediv_mul_cancel h
theorem fdiv_abs {e n : Int} (h : e ∣ n) : (n.fdiv e).natAbs = n.natAbs / e.natAbs := by
  rw [Int.fdiv_eq_ediv_of_dvd h]
  exact Int.natAbs_ediv_of_dvd h
theorem sgn_div {e q n : Int} (h : q * e = n) (k : (0 < e ∧ 0 < n) ∨ (e < 0 ∧ n < 0)) : 0 < q := by
  rcases Int.lt_trichotomy q 0 with z | z | z
  · rcases k with ⟨k1, k2⟩ | ⟨k1, k2⟩
    · have := Int.mul_neg_of_neg_of_pos z k1
      omega
    · have := Int.mul_pos_of_neg_of_neg z k1
      omega
  · subst z
    omega
  · exact z
theorem zero_div {e q : Int} (h : q * e = 0) (k : e ≠ 0) : q = 0 := by
  rcases Int.mul_eq_zero.mp h with z | z
  · exact z
  · exact absurd z k
def sgn (n : Int) : Int := b2i (decide (0 < n)) - b2i (decide (n < 0))
end HL
/-! Fy: range with steps, [None] * n, max(.., default=..), lists of what may be none. -/
namespace HL
open PySem PySem.Spec PyProof.Rows L2
section
variable {X : Cx} {γ α β δ : Type} [Enc α] [Enc β] [Enc δ] {Ve : Ev γ} {m m1 m2 m3 : Md} {p p1 p2 p3 : Bool} {tg iter a b c e : Expr} {pos : Pos} {Z : Fix}
def rangeC (lo c : Int) (n : Nat) : List Int := (List.range n).map fun i => lo + (i : Nat) * c
theorem rangeC_get {lo c : Int} {n i : Nat} (h : i < n) : (rangeC lo c n)[i]? = some (lo + (i : Nat) * c) := by
  unfold rangeC
  rw [List.getElem?_map, List.getElem?_range h]
  rfl
theorem rangeC_len {lo c : Int} {n : Nat} : (rangeC lo c n).length = n := by
  unfold rangeC
  rw [List.length_map, List.length_range]
@[irreducible] def rng3 (i j c : Int) : Option (List Int) := if c ≠ 0 ∧ c.natAbs < 1073741824 ∧ Builtin.Range.small i j c = true then some (rangeC i c (Builtin.Range.rangeSize i j c).toNat) else none
theorem it_rngC {O : Addr → Prop} {H : Hp} {lo c : Int} {n : Nat} : ItOk Z true O H (Itc lo c n) ((rangeC lo c n).map enc) := fun O' H' st i => by
  have hl : ((rangeC lo c n).map enc).length = n := by simp [rangeC]
  rw [hl]
  refine ⟨fun h => h, fun h => h, fun x H2 d y hd => ?_⟩
  obtain ⟨rfl, rfl⟩ := y
  have hi : i < n := by
    have := (List.getElem?_eq_some_iff.mp hd).1
    omega
  rw [List.getElem?_map, rangeC_get hi] at hd
  cases hd
  exact ⟨Same.refl _, .int _⟩
theorem range_nn (i j c : Int) : 0 ≤ Builtin.Range.rangeSize i j c := by
  unfold Builtin.Range.rangeSize
  split
  · split
    · have := Int.ediv_nonneg (a := j - i - 1) (b := c) (by omega) (by omega)
      omega
    · omega
  · split
    · by_cases h : c = 0
      · subst h
        simp
      · have := Int.ediv_nonneg (a := i - j - 1) (b := -c) (by omega) (by omega)
        omega
    · omega
/-- range(a, b, c) -/
theorem i_rng3 {f h l : Ac γ Int} {p0 pos : Pos} (hx : X.mg "range" = none) (ha : SE X Ve m1 p1 a f) (hb : SE X Ve m2 p2 b h) (hc : SE X Ve m3 p3 c l) (hm : okM m1 (p2 && p3) = true := by rfl) (hm2 : okM m2 p3 = true := by rfl) (hg : Gl X "range" := by rfl) (hs : starEach [a, b, c] X.env = (false, eval a X.env) :: starEach [b, c] X.env := by rfl)
    (hs2 : starEach [b, c] X.env = (false, eval b X.env) :: starEach [c] X.env := by rfl) (hs3 : starEach [c] X.env = (false, eval c X.env) :: starEach [] X.env := by rfl) (hpl : (backTo pos (starEach [b, c] X.env)).any (·.1) = false := by rfl) : SI X Ve true (p1 && (p2 && p3)) tg (.Call (.Name "range" p0) [a, b, c] [] pos) (op3 rng3 f h l) :=
  ⟨fun Z W hK tk => (pi_range3 hg hx (pa_cons (ha.run Z W hK tk) (pa_cons (hb.run Z W hK tk) (pa_cons (hc.run Z W hK tk) pa_nil hs3) hs2) hs) hs hpl).weak fun σ H R q => by
  obtain ⟨g, A, j, q⟩ := q
  refine ⟨g, A, j, ?_⟩
  unfold op3 bindA optA at q
  cases ef : f g with
  | bad => simp only [ef] at q
  | exc x g1 => simp only [ef] at q; exact q
  | ok n g1 =>
    simp only [ef] at q
    intro v H1 j1 gr sm rv
    cases rp_int rv.full
    refine ⟨g1, A, j1, ?_⟩
    cases eh : h g1 with
    | bad => simp only [eh] at q
    | exc x g2 =>
      simp only [eh] at q
      exact fun c H' mc j' gr' => q c H' mc j' (gr.trans gr')
    | ok k g2 =>
      simp only [eh] at q
      intro w H2 j2 gr2 sm2 rw2
      cases rp_int rw2.full
      refine ⟨g2, A, j2, ?_⟩
      cases el : l g2 with
      | bad => simp only [el] at q
      | exc x g3 =>
        simp only [el] at q
        exact fun c H' mc j' gr' => q c H' mc j' ((gr.trans gr2).trans gr')
      | ok i g3 =>
        simp only [el] at q
        intro u H3 j3 gr3 sm3 rw3
        cases rp_int rw3.full
        unfold rng3 at q
        by_cases hn : i ≠ 0 ∧ i.natAbs < 1073741824 ∧ Builtin.Range.small n k i = true
        · rw [if_pos hn] at q
          exact ⟨n, k, i, _, rfl, ⟨hn.1, hn.2.1, hn.2.2, (Int.toNat_of_nonneg (range_nn n k i)).symm⟩, q _ H3 j3 ((gr.trans gr2).trans gr3) (fun z => ((sm (Bool.and_eq_true_iff.mp z).1).trans (sm2 (Bool.and_eq_true_iff.mp (Bool.and_eq_true_iff.mp z).2).1)).trans (sm3 (Bool.and_eq_true_iff.mp (Bool.and_eq_true_iff.mp z).2).2)) it_rngC⟩
        · rw [if_neg hn] at q
          exact q.elim⟩
/-! ### [x] * n -/
@[irreducible] def repQ {α : Type} (l : List α) (n : Int) : Option (List α) := if -(2 ^ 63) ≤ n ∧ n < 2 ^ 63 ∧ l.length * n.toNat ≤ 1000 then some (List.replicate n.toNat l).flatten else none
theorem rpA_rep {K : PySem.W.Frag} {H : Hp} {vs : List L2.V} {ds : List D} (h : RpA K H vs ds) : ∀ n : Nat, RpA K H (List.replicate n vs).flatten (List.replicate n ds).flatten
  | 0 => .nil
  | n + 1 => by
    rw [List.replicate_succ, List.replicate_succ, List.flatten_cons, List.flatten_cons]
    exact h.append (rpA_rep h n)
theorem s_rep {f : Ac γ (List α)} {h : Ac γ Int} (ha : SE X Ve .fr p1 a f) (hb : SE X Ve m2 p2 b h) : SN X Ve (p1 && p2) (.BinOp a .Mult b pos) (op2 repQ f h) :=
  s_opN (r := fun _ => rRep) op_rep (fun Z hK => fun A g σ H x y l k c Q j rx ry e q => by
    obtain ⟨t, vs, rfl, e2, e3⟩ := rm_elsT rfl rx
    cases rp_int ry.full
    unfold repQ at e
    obtain ⟨e0, rfl⟩ := ite_some e
    have el := e3.length
    rw [List.length_map] at el
    refine ⟨t, k, vs, rfl, rfl, e2, e0.1, e0.2.1, by rw [el]; exact smallN e0.2.2, fun n hn => q n _ hn ?_⟩
    have := rpA_rep e3 k.toNat
    rw [show (List.replicate k.toNat l).flatten.map enc = (List.replicate k.toNat (l.map enc)).flatten by rw [List.map_flatten, List.map_replicate]]
    exact this) ha hb rfl
end
/-! ### max(list, default=c) -/
def maxDf (l : List Int) (d : Int) : Int := match l with
  | [] => d
  | n :: ns => ns.foldl max n
theorem readsAll_ints {h : Heap} : ∀ {vs : List Value} {ns : List Int}, IntsAre vs ns → ReadsAll h vs (ns.map PyData.int) []
  | _, _, .nil => .nil
  | _, _, .cons _ _ hi => .cons (as := []) (bs := []) (.int _ _) (readsAll_ints hi)
def rMaxDf (K : PySem.W.Frag) : List L2.V → List L2.V → Hp → VK → Prop := fun xs zs H Q => ∃ (a : Addr) (ns : List Int) (d : Int), xs = [.ref a] ∧ zs = [.int d] ∧ SqL K H a (ns.map V.int) ∧ Q (.int (maxDf ns d)) H
theorem alike_ints (ns : List Int) : PySem.W.AlikeAll (ns.map PyData.int) := ⟨fun x hx y hy => by
  obtain ⟨i, _, rfl⟩ := List.mem_map.mp hx
  obtain ⟨k, _, rfl⟩ := List.mem_map.mp hy
  rfl, fun x hx z => by
  obtain ⟨i, _, rfl⟩ := List.mem_map.mp hx
  cases z⟩
theorem depth_ints : ∀ ns : List Int, PyData.depthAll (ns.map PyData.int) = 0
  | [] => rfl
  | n :: ns => by
    show max (PyData.depth (.int n)) (PyData.depthAll (ns.map PyData.int)) = 0
    rw [depth_ints ns]
    rfl
theorem cr_maxDf {X : Cx} (hc : X.calm = true) (hu : X.A.units + 64 < cLine) : CallRK X (.builtin "max") [Str.ofString "default"] (rMaxDf X.K) := by
  intro pins s σ H xs zs us ws Q I r1 r2 h
  obtain ⟨a, ns, d, rfl, rfl, hs, q⟩ := h
  obtain ⟨its, rv, hl, _⟩ := I.list hs
  rw [Vals.ref1 r1]
  obtain ⟨u, rfl, ru⟩ : ∃ u, ws = [u] ∧ RelV (.int d) u := by
    cases r2 with
    | cons h t => cases t; exact ⟨_, rfl, h⟩
  obtain ⟨t, rfl⟩ := ru
  refine PySem.W.max_list_default (I.ok.hd hc) hl.isList (readsAll_ints rv.ints) (alike_ints ns) (by rw [depth_ints]; omega) (fun e h' tk hk => ?_) fun y ys i v h' tk bs e hv hr hk => ?_
  · have : ns = [] := List.map_eq_nil_iff.mp e
    subst this
    exact ⟨.int d, H, I.kept hk, ⟨t, rfl⟩, q⟩
  · cases ns with
    | nil => cases e
    | cons n ns =>
      cases e
      rw [PySem.W.maxD_ints] at hr
      cases hr with
      | int _ t => exact ⟨.int _, H, I.kept hk, ⟨t, rfl⟩, q⟩
section
variable {X : Cx} {γ α : Type} [Enc α] {Ve : Ev γ} {m m2 : Md} {p p2 : Bool} {e c : Expr} {pos : Pos}
theorem s_maxDf {f : Ac γ (List Int)} (d : Int) {p0 kp cp : Pos} {cj} (hc : X.calm = true) (hu : X.A.units + 64 < cLine) (hx : X.mg "max" = none) (ha : SE X Ve m p e f) (hg : Gl X "max" := by rfl)
    (he0 : starEach (e :: []) X.env = (false, eval e X.env) :: starEach [] X.env := by rfl)
    (he : backTo pos (starEach (e :: []) X.env) = (false, eval e X.env) :: backTo pos (starEach [] X.env) := by rfl) (hpl : (backTo pos (starEach (e :: []) X.env)).any (·.1) = false := by rfl)
    (hall : (backToKw pos (keywordEach [⟨some "default", .Constant (.int d) cj cp, kp⟩] X.env)).all (·.1.isSome) = true := by rfl) (hnone : (backToKw pos (keywordEach [⟨some "default", .Constant (.int d) cj cp, kp⟩] X.env)).any (·.1.isNone) = false := by rfl) (hks : (backToKw pos (keywordEach [⟨some "default", .Constant (.int d) cj cp, kp⟩] X.env)).filterMap (·.1) = [Str.ofString "default"] := by rfl) :
    SE X Ve .fr p (.Call (.Name "max" p0) [e] [⟨some "default", .Constant (.int d) cj cp, kp⟩] pos) (op1 (fun l => some (maxDf l d)) f) :=
  ⟨fun Z W hK tk => (pe_callBK (cr_maxDf hc hu) hg hx (by decide +kernel) (pa_cons (ha.run Z W hK tk) pa_nil he0) (pk_cons pe_int pk_nil) (by decide) (by decide) he hpl hall hnone hks).weak fun σ H Q q => by
  obtain ⟨g, A, j, q⟩ := q
  refine ⟨g, A, j, ?_⟩
  unfold op1 bindA optA at q
  cases ef : f g with
  | bad => simp only [ef] at q
  | exc x g1 => simp only [ef] at q; exact q
  | ok l g1 =>
    simp only [ef] at q
    intro v H1 j1 gr sm rv
    obtain ⟨t, vs, rfl, e2, e3⟩ := rm_els rv
    have ev := rpA_ints (ns := l) e3
    subst ev
    exact ⟨t, l, d, rfl, rfl, seqL e2, q _ H1 j1 gr sm (.int _)⟩⟩
end
/-! ### lists of what may be none -/
def upO {α : Type} (l : List α) : Option (List (Option α)) := some (l.map some)
def unOs {α : Type} : List (Option α) → Option (List α)
  | [] => some []
  | none :: _ => none
  | some a :: l => (unOs l).map (a :: ·)
theorem upO_ok {α : Type} [Enc α] (l : List α) (k : List (Option α)) (h : upO l = some k) : enc k = enc l := by
  cases h
  show PyData.list _ = PyData.list _
  rw [List.map_map]
  rfl
theorem unOs_eq {α : Type} : ∀ {k : List (Option α)} {l : List α}, unOs k = some l → k = l.map some
  | [], l, h => by cases h; rfl
  | none :: k, l, h => by cases h
  | some a :: k, l, h => by
    unfold unOs at h
    cases e : unOs k with
    | none => rw [e] at h; cases h
    | some l' =>
      rw [e] at h
      cases h
      rw [unOs_eq e]
      rfl
theorem unOs_map {α : Type} : ∀ l : List α, unOs (l.map some) = some l
  | [] => rfl
  | a :: l => by
    show (unOs (l.map some)).map (a :: ·) = _
    rw [unOs_map l]
    rfl
theorem unOs_ok {α : Type} [Enc α] (k : List (Option α)) (l : List α) (h : unOs k = some l) : enc l = enc k := by
  rw [unOs_eq h]
  exact (upO_ok l _ rfl).symm
/-! ### the plain side -/
section
variable {α : Type}
theorem o_rep {l : List α} {n : Int} {Q : List α → Prop} : opt (repQ l n) Q ↔ (-(2 ^ 63) ≤ n ∧ n < 2 ^ 63 ∧ l.length * n.toNat ≤ 1000) ∧ Q (List.replicate n.toNat l).flatten := by
  unfold repQ
  exact o_ite
theorem o_rng3 {i j c : Int} {Q : List Int → Prop} : opt (rng3 i j c) Q ↔ (c ≠ 0 ∧ c.natAbs < 1073741824 ∧ Builtin.Range.small i j c = true) ∧ Q (rangeC i c (Builtin.Range.rangeSize i j c).toNat) := by
  unfold rng3
  exact o_ite
theorem o_upO {l : List α} {Q : List (Option α) → Prop} : opt (upO l) Q ↔ Q (l.map some) := Iff.rfl
theorem o_unOs {l : List α} {Q : List α → Prop} : opt (unOs (l.map some)) Q ↔ Q l := by rw [unOs_map]; exact Iff.rfl
end
end HL
/-! Fz: a list of lists of one's own: made, one of them read, one of them lengthened, given up. -/
namespace HL
open PySem PySem.Spec PyProof.Rows L2
/-! ### names that no text bears -/
theorem inv_ph {X : Cx} {pins : List (Addr × Obj)} {σ : L2.St} {H : Hp} {s : Shared} (I : Inv X pins σ H s) {j : Nat} {y : Str} (hN : X.N[j]? = some y) (hv : ¬ Vis X.env.scope y) (w : Option V) : Inv X pins (σ.set j w) H s :=
  ⟨I.ok, I.os, I.bare, I.base, by
    obtain ⟨m, h1, h2⟩ := I.loc
    refine ⟨m, h1, fun i x v hx hs hvis => h2 i x v hx ?_ hvis⟩
    rw [List.getElem?_set] at hs
    by_cases e : j = i
    · subst e
      rw [hN] at hx
      cases hx
      exact absurd hvis hv
    · rw [if_neg e] at hs
      exact hs, I.cell, I.free, I.freeC, I.pin, I.hok, by rw [List.length_set]; exact I.len⟩
theorem ps_ph {X : Cx} {st : Stmt} {t : TS} (h : PS X st t) {j1 j2 : Nat} {y1 y2 : Str} (h1 : X.N[j1]? = some y1) (v1 : ¬ Vis X.env.scope y1) (h2 : X.N[j2]? = some y2) (v2 : ¬ Vis X.env.scope y2) :
    PS X st (fun D σ H => t { D with nx := fun σ' H' => ∃ w1 w2, D.nx ((σ'.set j1 w1).set j2 w2) H' } σ H) := ⟨fun pins s σ H D I q => thn (h.run pins s σ H _ I q) fun f s' z => by
  cases f with
  | next =>
    obtain ⟨σ', H', I', w1, w2, d⟩ := z
    exact ⟨_, H', inv_ph (inv_ph I' h1 v1 w1) h2 v2 w2, d⟩
  | brk => exact z
  | cont => exact z
  | ret u => exact z⟩
theorem pe_anyZ {X : Cx} {γ α : Type} [Enc α] {Ve : Ev γ} {p : Bool} {e : Expr} {f : Ac γ (List α)} (h : SN X Ve p e f) {W : WX} (tk : Takes X W) : PE X e (fun σ H Q => ∃ Z : Fix, Z.K = X.K ∧ tN X.mg Z W Ve p f σ H Q) :=
  ⟨fun pins s σ H Q I q => by
    obtain ⟨Z, k, q⟩ := q
    exact (h.run Z W k tk).run pins s σ H Q I q⟩
section
variable {Z : Fix} {A : AT} {r : List Slot} {σ : L2.St} {H : Hp}
theorem pk_ne {q : Pk} : NoO (Slot.pk q) := ⟨fun _ z => (by cases z), fun _ z => (by cases z)⟩
theorem J.setPkW (j : J Z A r σ H) {i : Nat} {v : Option L2.V} {t : Pk} (hv : PkOk A (GH Z (Ow A r) H) (some v) t) (hio : ∀ a, (i, a) ∉ Z.io) : J Z A (r.set i (.pk t)) (σ.set i v) H := by
  have get : ∀ {k : Nat} {s : Slot}, (r.set i (.pk t))[k]? = some s → (i = k ∧ i < r.length ∧ s = .pk t) ∨ (i ≠ k ∧ r[k]? = some s) := fun {k s} h => by
    rw [set_get] at h
    by_cases e : i = k
    · rw [if_pos e] at h
      by_cases l : i < r.length
      · rw [if_pos l] at h
        cases h
        exact .inl ⟨e, l, rfl⟩
      · rw [if_neg l] at h; cases h
    · rw [if_neg e] at h
      exact .inr ⟨e, h⟩
  have sig : ∀ {k : Nat}, i ≠ k → (σ.set i v)[k]? = σ[k]? := fun {k} e => by rw [List.getElem?_set, if_neg e]
  have ow := ow_set (A := A) (r := r) (i := i) (s := .pk t) pk_ne
  refine ⟨fun k fr d h => ?_, fun k ds h => ?_, fun k ns h => ?_, fun k u h => ?_, fun k u h => ?_, fun k l ds es h1 h2 => j.inj k l ds es (set_own pk_ne h1).2 (set_own pk_ne h2).2, fun k ds h => j.notS k ds (set_own pk_ne h).2, j.smut, j.base, j.mm, j.tm, fun k ds h => j.newo k ds (set_own pk_ne h).2, fun k a h => ?_, j.tr.set pk_ne, ?_⟩
  · rcases get h with ⟨_, _, z⟩ | ⟨e, h⟩
    · cases z
    · obtain ⟨w, e1, e2⟩ := j.imm k fr d h
      exact ⟨w, by rw [sig e]; exact e1, Rp.mono (Gr.hpO ow) _ e2⟩
  · obtain ⟨e, h⟩ := set_own pk_ne h
    obtain ⟨e1, e2⟩ := j.own k ds h
    exact ⟨by rw [sig e]; exact e1, e2.mono (Gr.ghO ow) (Gr.fhO ow)⟩
  · rcases get h with ⟨_, _, z⟩ | ⟨e, h⟩
    · cases z
    · obtain ⟨a, e1, e2⟩ := j.scr k ns h
      exact ⟨a, by rw [sig e]; exact e1, sqL_same (Gr.fhO ow) e2⟩
  · rcases get h with ⟨_, _, z⟩ | ⟨e, h⟩
    · cases z
    · rw [sig e]; exact j.raw k u h
  · rcases get h with ⟨e, l, z⟩ | ⟨e, h⟩
    · cases z
      subst e
      rw [List.getElem?_set, if_pos rfl, if_pos (by rw [← j.len]; exact l)]
      exact hv.mono (Gr.ghO ow)
    · rw [sig e]; exact (j.pk k u h).mono (Gr.ghO ow)
  · obtain ⟨e1, ds, e2⟩ := j.ioo k a h
    refine ⟨e1, ds, ?_⟩
    rw [set_get, if_neg (fun e => hio a (by subst e; exact h))]
    exact e2
  · rw [List.length_set, List.length_set, j.len]
theorem J.setPk (j : J Z A r σ H) {i : Nat} {v : L2.V} {t : Pk} (hv : PkOk A (GH Z (Ow A r) H) (some (some v)) t) (hio : ∀ a, (i, a) ∉ Z.io) : J Z A (r.set i (.pk t)) (σ.set i (some v)) H := j.setPkW hv hio
theorem atsS_set : ∀ {r : List Slot} {i k : Nat} {b : Ob}, k ∈ atsS (r.set i (.own b)) → k ∈ atsS r ∨ k ∈ b.ats
  | [], _, _, _, h => by cases h
  | s :: r, 0, k, b, h => by
    rw [List.set_cons_zero] at h
    have h : k ∈ b.ats ++ atsS r := h
    rcases List.mem_append.mp h with h | h
    · exact .inr h
    · cases s with
      | own b' => exact .inl (List.mem_append_right _ h)
      | _ => exact .inl h
  | s :: r, i + 1, k, b, h => by
    rw [List.set_cons_succ] at h
    cases s with
    | own b' =>
      have h : k ∈ b'.ats ++ atsS (r.set i (.own b)) := h
      rcases List.mem_append.mp h with h | h
      · exact .inl (List.mem_append_left _ h)
      · exact (atsS_set h).imp_left (List.mem_append_right _)
    | _ => exact atsS_set (r := r) (i := i) h
theorem wo_le {D : Addr} : Same (wo D H) H := fun x o e => by
  by_cases h : x = D
  · rw [h, wo_at] at e; cases e
  · rw [wo_ne h] at e; exact e
end
section
variable {X : Cx} {γ α α2 β : Type} [Enc α] [Enc α2] {C : FC γ β} {xj : XJ γ} {Ve Ve' : Ev γ} {m : Md} {p p1 p2 : Bool} {e e1 e2 : Expr} {pos : Pos}
/-- x = [e1, e2], of two new lists -/
theorem c_pack2 {f1 : Ac γ (List α)} {f2 : Ac γ (List α2)} (i j1 j2 : Nat) (set : γ → List α × (List α2 × Unit) → γ) {n y1 y2 : Str} {lp pos' : Pos} (hx : XOk xj Ve) (h1 : SN X Ve p1 e1 f1) (h2 : SN X Ve p2 e2 f2)
    (hN : X.N.Nodup) (v1 : ¬ Vis X.env.scope y1) (v2 : ¬ Vis X.env.scope y2)
    (hV : ∀ g t, at_ Ve' (set g t) = (((at_ Ve g).set j1 (.own (t.1.map enc))).set j2 (.own (t.2.1.map enc))).set i (.pk (.lst [j1, j2])) := by exact fun _ _ => rfl)
    (hno : (ioIx C).contains i = false := by rfl) (hno1 : (ioIx C).contains j1 = false := by rfl) (hno2 : (ioIx C).contains j2 = false := by rfl) (hpk1 : noPk j1 Ve = true := by rfl) (hpk2 : noPk j2 Ve = true := by rfl) (hat1 : ∀ g, (atsS (at_ Ve g)).contains j1 = false := by exact fun _ => rfl) (hat2 : ∀ g, (atsS (at_ Ve g)).contains j2 = false := by exact fun _ => rfl)
    (d12 : j1 ≠ j2 := by decide) (di1 : i ≠ j1 := by decide) (di2 : i ≠ j2 := by decide)
    (hi : X.N[i]? = some n := by rfl) (hj1 : X.N[j1]? = some y1 := by rfl) (hj2 : X.N[j2]? = some y2 := by rfl) (hl : Loc X.env.scope n := by first | exact .inl rfl | exact .inr rfl)
    (hse : starEach (e1 :: [e2]) X.env = (false, eval e1 X.env) :: starEach [e2] X.env := by rfl) (hse2 : starEach (e2 :: []) X.env = (false, eval e2 X.env) :: starEach [] X.env := by rfl)
    (hs : swapsWith (.List [e1, e2] lp) (some (.Name n pos')) pos.line X.env = pure false := by rfl) (hf : X.fn n = true ∨ X.env.scope.names.lookup n = some .local := by first | exact .inl rfl | exact .inr rfl) :
    SS X C xj Ve Ve' (.Assign [.Name n pos'] (.List [e1, e2] lp) pos) (setS set (pairA f1 (pairA f2 (pureA fun _ => ())))) := ⟨fun Z W hK hio tk => by
  refine (ps_ph (ps_set hN hi hl (pe_lst (pa_cons (h1.run Z W hK tk) (pa_cons (pe_anyZ h2 tk) pa_nil hse2) hse)) hs hf) hj1 v1 hj2 v2).weak fun D σ H q => ?_
  obtain ⟨g, A, j, q⟩ := q
  refine ⟨g, A, j, ?_⟩
  unfold setS doS pairA bindA pureA at q
  cases ef : f1 g with
  | bad => simp only [ef] at q
  | exc x g1 =>
    simp only [ef] at q
    exact fun c H' mc j' gr => q c A σ H' mc (hx _ _ _ _ _ j')
  | ok a g1 =>
    simp only [ef] at q
    intro q1 vs1 H1 hq1 j1' gr1 sm1 rv1
    refine ⟨Z.hid q1, hK, g1, A, j1'.inD hq1, ?_⟩
    obtain ⟨f0, fS, fO⟩ := j1'.fresh hq1
    rw [ow_at] at fO
    cases eh : f2 g1 with
    | bad => simp only [eh] at q
    | exc x g2 =>
      simp only [eh] at q
      intro c H' mc j' gr
      exact q c A σ H' mc (hx _ _ _ _ _ ((j'.outD f0 fS).same wo_le))
    | ok b g2 =>
      simp only [eh] at q
      intro q2 vs2 H2 hq2 j2' gr2 sm2 rv2
      have e21 : H2 q1 = some (.lst vs1) := gr2 q1 _ fO upd_same
      have jo := j2'.outD f0 fS
      have gh1 : Same (GH Z (OwV A Ve) H1) (GH Z (OwV A Ve) (wo q1 H2)) := hide_same fun x o n h => by
        have hne : x ≠ q1 := fun z => by rw [z, hq1] at h; cases h
        refine ⟨n, ?_⟩
        rw [wo_ne hne]
        exact gr2 x o (fun z => n (.inr (.inl z))) (by rw [upd_ne hne]; exact h)
      have ja := jo.setOwn (i := j1) (q := q1) (vs := vs1) (ds := a.map enc) wo_at (by rw [ow_at]; exact RpA.mono gh1 _ rv1) (noio hio hno1) (fun k t e _ => noPk_all hpk1 k t e) (noAtS (hat1 g2))
      rw [wo_upd e21] at ja
      have gh2 : Same (GH (Z.hid q1) (OwV A Ve) H2) (GH Z (Ow (A.put j1 q1) ((at_ Ve g2).set j1 (.own (a.map enc)))) H2) := by
        rw [gh_hid]
        refine hide_same fun x o n h => ⟨fun z => n ?_, wo_le x o h⟩
        rcases z with z | z | z
        · exact .inl z
        · rcases ow_setOwn z with z | z
          · rw [ow_at] at z
            exact .inr (.inl z)
          · rw [z, wo_at] at h; cases h
        · exact .inr (.inr z)
      have hpk2' : ∀ k t, ((at_ Ve g2).set j1 (.own (a.map enc)))[k]? = some (.pk t) → k ≠ j2 → j2 ∉ t.js := fun k t e _ => by
        rw [set_get] at e
        by_cases ek : j1 = k
        · rw [if_pos ek] at e
          split at e <;> cases e
        · rw [if_neg ek] at e
          exact noPk_all hpk2 k t e
      have jb := ja.setOwn (i := j2) (q := q2) (vs := vs2) (ds := b.map enc) hq2 (RpA.mono gh2 _ rv2) (noio hio hno2) hpk2' (fun z => by
        rcases atsS_set z with z | z
        · exact noAtS (hat2 g2) z
        · cases z)
      refine ⟨Nat.le_trans (show 2 ≤ 1000 by decide) (by rw [sizeLine_eq]; decide), fun q3 hq3 => ?_⟩
      have jn := jb.new (o := .lst [.ref q1, .ref q2]) hq3
      obtain ⟨k0, kS, kO⟩ := jb.fresh hq3
      have jc := jn.setPk (i := i) (v := .ref q3) (t := .lst [j1, j2]) ⟨q3, rfl, by
        refine hide_mk (fun z => z.elim kS fun z => z.elim kO fun z => by rw [k0] at z; exact z) ?_
        rw [upd_same]
        simp only [List.map_cons, List.map_nil, put_at, if_true, d12, if_false]⟩ (noio hio hno)
      have hv := hV g2 (a, b, ())
      rw [← hv] at jc
      refine ⟨some (.ref q1), some (.ref q2), ?_⟩
      rw [List.set_comm _ _ di1, List.set_comm _ _ di2]
      refine q _ _ _ jc fun x o n h => ?_
      have h1' : H1 x = some o := gr1 x o n h
      have n1 : x ≠ q1 := fun z => by rw [z, hq1] at h1'; cases h1'
      have h2' : H2 x = some o := gr2 x o n (by rw [upd_ne n1]; exact h1')
      have n2 : x ≠ q2 := fun z => by rw [z, hq2] at h2'; cases h2'
      have h3' : (upd H2 q2 (.lst vs2)) x = some o := by rw [upd_ne n2]; exact h2'
      have n3 : x ≠ q3 := fun z => by rw [z, hq3] at h3'; cases h3'
      refine ⟨by rw [upd_ne n3]; exact h3', fun z => n ?_⟩
      have z' : Ow ((A.put j1 q1).put j2 q2) (at_ Ve' (set g2 (a, b, ()))) x := by rw [ow_at]; exact z
      rw [hv] at z'
      rcases ow_setOwn (ow_set pk_ne x z') with z' | z'
      · rcases ow_setOwn z' with z' | z'
        · rw [ow_at] at z'; exact z'
        · exact absurd z' n1
      · exact absurd z' n2⟩
end
end HL
/-! Ga: a def that is handed the exception that a suite holds, called in that suite. -/
namespace HL
open PySem PySem.Spec PyProof.Rows L2
def CXF : CXT := fun _ _ _ _ _ _ => False
/-- the context of its body -/
abbrev cxE (P : Program) (w : World) (K : PySem.W.Frag) (mg : Str → Option Value) (base : Heap) (N : List Str) (qual : Str) (scope : Scope) (f : Addr) (cd : Value) (A : Around) (outer : List Env) (s : Shared) (H : Hp) (a : Addr) (oe : Obj) : Cx :=
  (cxOf CXF P w K mg base N qual scope f cd A outer s H (fun _ _ _ => False)).suite a [(a, oe)]
theorem run_ex {P : Program} {w : World} {K : PySem.W.Frag} {mg : Str → Option Value} {base : Heap} {x qual : Str} {st : Stmt} {f : Addr} {fd : FuncData} {N ps : List Str} {k : Nat} (F : Fun K x qual st f fd) (S : FnScope N ps (defScope st))
    {A0 : Around} {outer : List Env} {s : Shared} {H : Hp} {args : Args} {us : List Value} {vs : List V} {Q : VK} {a : Addr} {oe : Obj} (hr : Room (k + 1) A0) (hpin : L2H.PinOk outer H s (a, oe)) (e0 : Env0 P w K mg base (A0.mark (some (.ref a))) outer s H)
    (hb : BindsTo s fd args (ps.zip us)) (hl : vs.length = ps.length) (r : Vals vs us)
    (hbody : ∀ cdv, Room k (A0.deeper (envOfC qual (defScope st) s.heap.objs.size f cdv)) → ∃ t, PSs (cxE P w K mg base N qual (defScope st) f cdv A0 outer s H a oe) (defBody st) t ∧ t { nx := fun _ H' => Q .non H', rt := Q } (L2.start N vs) H) :
    codeAny (model P w) (A0.mark (some (.ref a))) (.call (.ref f) args) (CR CXF outer P w H s Q (fun _ _ _ => False)) s := by
  obtain ⟨oc, od, kV, doc, pm, an, cdv, ct, osl, rfl, lk, hcd⟩ := F.ex
  have KX : K.In s.heap := e0.mod.kin.keeps fun b o e => (e0.bs b o e).1
  have lim : s.heap.NoLimit := e0.mod.nolimit.keeps fun b o e => (e0.bs b o e).1
  have hkind : ∀ y ∈ ps.zip us, (defScope st).names.lookup y.1 = some .local ∨ ((defScope st).names.lookup y.1 = some .cell ∧ ((cellsFrom (s.heap.objs.size + 1) (defScope st).names []).lookup y.1).isSome = true) := fun ⟨n, v⟩ hy => by
    rcases S.par n (List.of_mem_zip hy).1 with q | q
    · exact .inl q
    · exact .inr ⟨q, PySem.W.cellsFrom_some _ _ _ (.inl q)⟩
  refine codeAny_call_function (show (A0.mark (some (.ref a))).depth < recursionLimit by have := hr.dp; show A0.depth < _; omega) (KX _ _ lk) rfl S.co S.gen rfl (PySem.W.codeRec_of KX hcd) (hb _ _ _ _ ?_)
  refine wpAny_newFunctionEnv_cells S.kind hkind fun env he s1 z => ?_
  subst he
  refine ⟨lim.keeps z.toInCall.keep, codeAny_func ?_⟩
  obtain ⟨t, ht, hq⟩ := hbody cdv (hr.deeper _)
  have I : Inv (cxE P w K mg base N qual (defScope st) f cdv A0 outer s H a oe) [] (L2.start N vs) H s1 := (L2H.inv_startH (CX := CXF) (E := fun _ _ _ => False) S hpin e0 hl r z).toTry (fun _ _ => False)
  refine wpAny_mono (ht.run [] s1 (L2.start N vs) H _ I hq) (fun fl s' hs => ?_) fun e s' hs => False.elim hs
  have fin : ∀ {σ' : L2.St} {H' : Hp} {v : V} {u : Value}, Inv (cxE P w K mg base N qual (defScope st) f cdv A0 outer s H a oe) [] σ' H' s' → RelV v u → Q v H' → CE outer P w H s Q u s' :=
    fun {σ' H' v u} J rv q => ⟨v, H', J.os, J.bare, J.base, J.hok, rv, q⟩
  cases fl with
  | ret u =>
    obtain ⟨v, σ', H', J, rv, q⟩ := hs
    exact fin J rv q
  | next =>
    obtain ⟨σ', H', J, q⟩ := hs
    exact fin (v := V.non) (u := Value.none) J rfl q
  | brk =>
    obtain ⟨_, _, _, q⟩ := hs
    exact False.elim q
  | cont =>
    obtain ⟨_, _, _, q⟩ := hs
    exact False.elim q
section
variable {X : Cx} {γ δ : Type} {Ve : Ev γ} {pos : Pos} {a : Addr} {oe : Obj} {pn : List (Addr × Obj)}
/-- f(e), e the exception that the suite holds, f a def that tells a truth of it -/
theorem s_exCall {x qual y n : Str} {st : Stmt} {f : Addr} {fd : FuncData} {N : List Str} {k : Nat} {p0 p1 : Pos} {V0 V1 : Ev δ} {body : Sc δ Bool} {b : Bool} (i : Nat) (g0 : δ) (F : Fun X.K x qual st f fd) (S : FnScope N [y] (defScope st)) (hr : Room (k + 1) X.A) (hmg : X.mg x = some (.ref f)) (hb : Binds X.K fd [y] [])
    (hbody : ∀ (cdv : Value) (A : Around) (outer : List Env) (s : Shared) (H : Hp), Room k (A.deeper (envOfC qual (defScope st) s.heap.objs.size f cdv)) →
      SB (cxE X.prog X.w X.K X.mg X.base N qual (defScope st) f cdv A outer s H a oe) { rm := .fr, en := enc, ios := [] } (xfr δ) V0 V1 (defBody st) body)
    (hV : at_ V0 g0 = .raw (.ref a) :: List.replicate (N.length - 1) .no) (hrt : ∃ g1, body g0 = .rt b g1)
    (hi : Ve[i]? = some (.raw (.ref a)) := by rfl) (hN : X.N[i]? = some n := by rfl) (hg : Gl X x := by rfl)
    (hv : Vis X.env.scope n := by first | exact Or.inl rfl | exact Or.inr (Or.inl rfl) | exact Or.inr (Or.inr rfl)) (hd : (n == ("__debug__" : Str)) = false := by decide) (hcd : (n == ("__classdict__" : Str)) = false := by decide) (hdb : (x == ("__debug__" : Str)) = false := by decide)
    (he : starEach (.Name n p1 :: []) X.env = (false, eval (.Name n p1) X.env) :: starEach [] X.env := by rfl) (hpl : (backTo pos (starEach [] X.env)).any (·.1) = false := by rfl) :
    SE (X.suite a ((a, oe) :: pn)) Ve .fr true (.Call (.Name x p0) [.Name n p1] [] pos) (pureA fun _ => b) := ⟨fun Z W hK tk => by
  refine ⟨fun pins s σ H Q I q => ?_⟩
  obtain ⟨g, A, j, q⟩ := q
  have hraw : (at_ Ve g)[i]? = some (.raw (.ref a)) := by rw [at_get, hi]; rfl
  refine wpAny_Call_Name_kw (ld_glob (X := X.suite a ((a, oe) :: pn)) I hg hmg ?_ hdb)
  have pa : PA (X.suite a ((a, oe) :: pn)) [.Name n p1] _ := pa_cons (pe_var (X := X.suite a ((a, oe) :: pn)) hN hv hd hcd) pa_nil he
  refine PySem.W.callWith_K (h₀ := X.base) I.ok.mod.kin F.kp (thn (pa.run pos pins s σ H (fun vs H1 => vs = [.ref a] ∧ H1 = H) I ⟨_, j.raw i _ hraw, rfl, rfl⟩) fun us s1 ⟨vs, H1, I1, r, e1, e2⟩ => ⟨I1.kIn, ?_⟩) he hpl
  subst e1 e2
  have hl : us.length = 1 := by rw [← r.length]; rfl
  have b1 := hb s1 us I1.kIn (by rw [List.append_nil]; exact hl)
  rw [List.append_nil] at b1
  have P1 := I1.pin (a, oe) (List.mem_append_left _ List.mem_cons_self)
  have hpin : L2H.PinOk X.stack H1 s1 (a, oe) := ⟨P1.1, P1.2.1, fun hm => (List.mem_cons.mp (I1.stkSub a hm)).elim P1.2.2.1 P1.2.2.2.1, P1.2.2.2.2⟩
  refine wpAny_call (codeAny_mono (run_ex (Q := fun v H' => v = .bl b ∧ Same H1 H') F S hr hpin I1.env0 b1 rfl r fun cdv hr' => ?_) fun rr s' hq => ?_)
  · refine ⟨_, (hbody cdv X.A X.stack s1 H1 hr').run ⟨X.K, H1, fun _ => False, [], fun _ => none⟩ (fun _ _ _ _ => False) rfl ⟨rfl, fun _ _ => rfl, rfl, fun _ _ _ z => by cases z⟩ takes0, g0, ⟨fun _ => 0, fun _ => [], fun _ => .non⟩, ?_, ?_⟩
    · unfold L2.start
      rw [hV]
      have get : ∀ {i : Nat} {t : Slot}, (Slot.raw (.ref a) :: List.replicate (N.length - 1) Slot.no)[i]? = some t → t ≠ .no → i = 0 ∧ t = .raw (.ref a) := fun {i t} h n => by
        cases i with
        | zero => exact ⟨rfl, (Option.some.inj h).symm⟩
        | succ i =>
          rw [List.getElem?_cons_succ, List.getElem?_replicate] at h
          split at h
          · exact absurd (Option.some.inj h).symm n
          · cases h
      refine ⟨fun i fr d h => ?_, fun i ds h => ?_, fun i ns h => ?_, fun i v h => ?_, fun i t h => ?_, fun i l ds es h1 h2 e => ?_, fun i ds h => ?_, fun _ z => z.elim, fun _ _ h _ _ => h, fun _ h => h, fun i x a h => (by cases h), fun i ds h => ?_, fun i a h => (by cases h), ⟨fun i t h => ?_, fun i l s t a h => ?_, fun i l ds t h => ?_, fun i t a h => ?_, fun i t a h => ?_, fun i t a h => ?_, fun i t a _ z => (by cases z)⟩, ?_⟩
      · obtain ⟨_, z⟩ := get h (fun z => by cases z); cases z
      · obtain ⟨_, z⟩ := get h (fun z => by cases z); cases z
      · obtain ⟨_, z⟩ := get h (fun z => by cases z); cases z
      · obtain ⟨rfl, z⟩ := get h (fun z => by cases z)
        cases z
        rfl
      · obtain ⟨_, z⟩ := get h (fun z => by cases z); cases z
      · obtain ⟨_, z⟩ := get h1 (fun z => by cases z); cases z
      · obtain ⟨_, z⟩ := get h (fun z => by cases z); cases z
      · obtain ⟨_, z⟩ := get h (fun z => by cases z); cases z
      · obtain ⟨_, z⟩ := get h (fun z => by cases z); cases z
      · obtain ⟨_, z⟩ := get h (fun z => by cases z); cases z
      · obtain ⟨_, z⟩ := get h (fun z => by cases z); cases z
      · obtain ⟨_, z⟩ := get h (fun z => by cases z); cases z
      · obtain ⟨_, z⟩ := get h (fun z => by cases z); cases z
      · obtain ⟨_, z⟩ := get h (fun z => by cases z); cases z
      · simp
    · obtain ⟨g1, e⟩ := hrt
      rw [e]
      intro v H' ⟨B, ro⟩
      refine ⟨?_, fun x o h => ro.frame x o h (fun _ z => by cases z) fun _ _ z => by cases z⟩
      have rr : Rp _ _ v (.bool b) := ro.ret
      cases rr
      rfl
  · cases rr with
    | error e => exact hq.elim
    | ok fl =>
      cases fl with
      | ret u =>
        obtain ⟨v, H', I2, rv, rfl, sm⟩ := I1.after hq
        exact ⟨_, H', I2, rv, q _ H' (j.same sm) (.of sm) (fun _ => sm) (.bl b)⟩
      | next => exact False.elim hq
      | brk => exact False.elim hq
      | cont => exact False.elim hq⟩
end
/-- a def that may be called so, of an exception of the class cls: b -/
structure ExCal (P : Program) (w : World) (K : PySem.W.Frag) (mg : Str → Option Value) (base : Heap) (k : Nat) (x cls : Str) (b : Bool) : Prop where
  ex : ∃ (qual y : Str) (st : Stmt) (f : Addr) (fd : FuncData) (N : List Str) (j : Nat) (δ : Type) (V0 V1 : Addr → Ev δ) (body : Sc δ Bool) (g0 : δ), k = j + 1 ∧ Fun K x qual st f fd ∧ FnScope N [y] (defScope st) ∧ mg x = some (.ref f) ∧ Binds K fd [y] [] ∧
    (∀ (a : Addr) (oe : Obj) (cdv : Value) (A : Around) (outer : List Env) (s : Shared) (H : Hp), Room j (A.deeper (envOfC qual (defScope st) s.heap.objs.size f cdv)) → ExA (cxOf CXF P w K mg base N qual (defScope st) f cdv A outer s H (fun _ _ _ => False)) cls a oe →
      SB (cxE P w K mg base N qual (defScope st) f cdv A outer s H a oe) { rm := .fr, en := enc, ios := [] } (xfr δ) (V0 a) (V1 a) (defBody st) body) ∧ (∀ a, at_ (V0 a) g0 = .raw (.ref a) :: List.replicate (N.length - 1) .no) ∧ ∃ g1, body g0 = .rt b g1
section
variable {X : Cx} {γ : Type} {Ve : Ev γ} {pos : Pos} {a : Addr} {oe : Obj} {pn : List (Addr × Obj)}
theorem x_exCall {x cls n : Str} {k : Nat} {p0 p1 : Pos} {b : Bool} (i : Nat) (hE : ExA X cls a oe) (c : ExCal X.prog X.w X.K X.mg X.base k x cls b) (hr : Room k X.A)
    (hi : Ve[i]? = some (.raw (.ref a)) := by rfl) (hN : X.N[i]? = some n := by rfl) (hg : Gl X x := by rfl)
    (hv : Vis X.env.scope n := by first | exact Or.inl rfl | exact Or.inr (Or.inl rfl) | exact Or.inr (Or.inr rfl)) (hd : (n == ("__debug__" : Str)) = false := by decide) (hcd : (n == ("__classdict__" : Str)) = false := by decide) (hdb : (x == ("__debug__" : Str)) = false := by decide)
    (he : starEach (.Name n p1 :: []) X.env = (false, eval (.Name n p1) X.env) :: starEach [] X.env := by rfl) (hpl : (backTo pos (starEach [] X.env)).any (·.1) = false := by rfl) :
    SE (X.suite a ((a, oe) :: pn)) Ve .fr true (.Call (.Name x p0) [.Name n p1] [] pos) (pureA fun _ => b) := by
  obtain ⟨qual, y, st, f, fd, N, j, δ, V0, V1, body, g0, rfl, F, S, hmg, hb, hbody, hV, hrt⟩ := c.ex
  exact s_exCall i g0 F S hr hmg hb (fun cdv A outer s H hr' => hbody a oe cdv A outer s H hr' ⟨hE.ex, hE.fl⟩) (hV a) hrt hi hN hg hv hd hcd hdb he hpl
end
/-! ### a call with nothing handed in -/
section
variable {X : Cx} {γ α β ι : Type} [Enc β] {Ve : Ev γ} {k : Nat} {rm : RM} {pa : α → List Par} {pio : ι → List (Nat × Ob)} {F : α → FRes β ι} {m : Md}
theorem pe_call0S {CX : CXT} {f : Addr} {fd : FuncData} {sp : Sp} {E : L2.St → XK} {x : Str} {p pos : Pos} (F : FnOk X.prog X.w X.K X.mg X.base CX k f fd [] sp) (hr : Room k X.A) (hg : Gl X x) (hm : X.mg x = some (.ref f)) (hk : PySem.W.keepIn X.K (.ref f) = true) (hb : Binds X.K fd [] []) (hx : ∀ σ, PassesAt CX X σ (E σ))
    (hdb : (x == ("__debug__" : Str)) = false := by decide) : PE X (.Call (.Name x p) [] [] pos) (fun σ H Q => sp [] H Q (E σ)) := by
  refine ⟨fun pins s σ H Q I h => ?_⟩
  refine wpAny_Call_Name_kw (ld_glob I hg hm ?_ hdb)
  exact PySem.W.callWith_K0 I.kIn hk (run_fnSD (us := []) (vs := []) (dvs := []) F hr hb .nil (hx σ) I .nil h)
theorem x_call0 {x : Str} {p0 pos : Pos} (args : γ → Unit → α) (c : Cal X.prog X.w X.K X.mg X.base k x [] (spOf X.K X.mg rm pa enc pio F)) (hr : Room k X.A) (hpa : ∀ a, pa a = [] := by exact fun _ => rfl) (hm : (rm = .fr ∧ m = .fr) ∨ (rm = .an ∧ m = .an) := by first | exact .inl ⟨rfl, rfl⟩ | exact .inr ⟨rfl, rfl⟩)
    (hg : Gl X x := by rfl) (hdb : (x == ("__debug__" : Str)) = false := by decide) :
    SE X Ve m true (.Call (.Name x p0) [] [] pos) (callA args F (pureA fun _ => ())) := ⟨fun Z W hK tk => by
  obtain ⟨f, fd, h1, h2, h3, h4⟩ := c.ex
  refine (pe_call0S (E := WE W) h1 hr hg h2 h3 h4 (fun σ => passAt tk σ) hdb).weak fun σ H Q q => ?_
  obtain ⟨g, A, j, q⟩ := q
  unfold callA bindA pureA at q
  simp only at q
  refine spOf_mk (a := args g ()) (noT_b (by rw [hpa]; rfl)) ⟨SC Z A Ve [], fun x h => sc_mut j h, by rw [hpa]; exact trivial, by rw [hpa]; exact fun i j a h => (by cases h), ?_⟩
  have ion : ioL 0 [] (pa (args g ())) = [] := by rw [hpa]; rfl
  rw [ion]
  cases eF : F (args g ()) with
  | bad => simp only [eF] at q
  | exc x' =>
    simp only [eF] at q
    refine fun c H2 mc fr => ?_
    have sm : Same H H2 := fun y o h => fr y o h fun i z => by cases z
    exact q c H2 mc (j.same sm) (.of sm)
  | ok b i =>
    simp only [eF] at q
    refine fun v H2 co => ?_
    have sm : Same H H2 := fun y o h => co.frame y o h fun i z => by cases z
    have rr := co.ret
    rw [← hK] at rr
    exact q v H2 (j.same sm) (.of sm) (fun _ => sm) (ret_rm j rr (hm.imp id fun z => ⟨z.1, z.2, rfl⟩))⟩
end
end HL
/-! Gb: lists of lists of one's own: one of them read, lengthened; all given up; walked. -/
namespace HL
open PySem PySem.Spec PyProof.Rows L2
section
variable {X : Cx} {γ α β : Type} [Enc α] {C : FC γ β} {xj : XJ γ} {Ve Ve' V2 : Ev γ} {m : Md} {p p2 : Bool} {e b : Expr} {pos : Pos}
/-- x[k], x a list of lists of one's own -/
theorem s_pkIx (i j : Nat) (k : Int) (js : List Nat) (get : γ → List α) {n : Str} {p1 : Pos} (hb : SE X Ve .fr true b (pureA fun _ => k)) (hi : Ve[i]? = some (.pk (.lst js)) := by rfl) (hk : atI js k = some j := by rfl) (hj : Ve[j]? = some (.own fun g => (get g).map enc) := by rfl) (hN : X.N[i]? = some n := by rfl)
    (hv : Vis X.env.scope n := by first | exact Or.inl rfl | exact Or.inr (Or.inl rfl) | exact Or.inr (Or.inr rfl)) (hd : (n == ("__debug__" : Str)) = false := by decide) (hcd : (n == ("__classdict__" : Str)) = false := by decide) (hs : PlainIx b := by exact fun _ _ => rfl) :
    SE X Ve (.bo j) true (.Subscript (.Name n p1) b pos) (pureA get) := ⟨fun Z W hK tk => (pe_ix (r := rIxL X.K) ix_list (pe_var hN hv hd hcd) (hb.run Z W hK tk) hs).weak fun σ H Q q => by
  obtain ⟨g, A, j0, q⟩ := q
  have hr : (at_ Ve g)[i]? = some (.pk (.lst js)) := by rw [at_get, hi]; rfl
  obtain ⟨a, e1, e2⟩ := j0.pk i _ hr
  refine ⟨_, e1, g, A, j0, ?_⟩
  show ∀ v H', _ → _ → _ → _ → _
  intro v H1 j1 gr sm rv
  cases rp_int rv.full
  obtain ⟨a', e1', e2'⟩ := j1.pk i _ hr
  rw [e1] at e1'
  cases e1'
  have hrj : (at_ Ve g)[j]? = some (.own ((get g).map enc)) := by rw [at_get, hj]; rfl
  obtain ⟨_, vs, e3, e4⟩ := j1.own j _ hrj
  rw [ow_at] at e4
  refine ⟨a, _, k, .ref (A j), rfl, rfl, seqL (gh_le _ _ e2'), by rw [atI_map, hk]; rfl, ?_⟩
  exact q _ H1 j1 gr sm ⟨rfl, j1.notS j _ hrj, vs, _, rfl, e3, e4⟩⟩
def appK {γ α β : Type} (get1 : γ → List α) (put1 : γ → List α → γ) (get2 : γ → List α) (put2 : γ → List α → γ) (h : Ac γ Int) (f : Ac γ α) : Sc γ β := doS h fun k => match ixN 2 k with
  | some 0 => appS get1 put1 f
  | some 1 => appS get2 put2 f
  | _ => fun _ => .bad
/-- x[h].append(e), x a list of two lists of one's own -/
theorem c_appK {h : Ac γ Int} {f : Ac γ α} (i j1 j2 : Nat) (get1 : γ → List α) (put1 : γ → List α → γ) (get2 : γ → List α) (put2 : γ → List α → γ) {n : Str} {p0 sp ap cp : Pos} (hx : XOk xj Ve) (hb : SE X Ve .fr p2 b h) (he : SE X Ve .fr p e f)
    (hi : Ve[i]? = some (.pk (.lst [j1, j2])) := by rfl) (h1 : Ve[j1]? = some (.own fun g => (get1 g).map enc) := by rfl) (h2 : Ve[j2]? = some (.own fun g => (get2 g).map enc) := by rfl)
    (hp1 : ∀ g l, at_ Ve (put1 g l) = (at_ Ve g).set j1 (.own (l.map enc)) := by exact fun _ _ => rfl) (hp2 : ∀ g l, at_ Ve (put2 g l) = (at_ Ve g).set j2 (.own (l.map enc)) := by exact fun _ _ => rfl)
    (hN : X.N[i]? = some n := by rfl) (hv : Vis X.env.scope n := by first | exact Or.inl rfl | exact Or.inr (Or.inl rfl) | exact Or.inr (Or.inr rfl)) (hd : (n == ("__debug__" : Str)) = false := by decide) (hcd : (n == ("__classdict__" : Str)) = false := by decide) (hsx : PlainIx b := by exact fun _ _ => rfl)
    (hm : Bm1 X (.Subscript (.Name n p0) b sp) "append" ap e cp := by exact ⟨rfl, rfl, rfl, rfl, rfl⟩) (hs : swapsWith (.Call (.Attribute (.Subscript (.Name n p0) b sp) "append" ap) [e] [] cp) none pos.line X.env = pure false := by rfl) :
    SS X C xj Ve Ve (.Expr (.Call (.Attribute (.Subscript (.Name n p0) b sp) "append" ap) [e] [] cp) pos) (appK get1 put1 get2 put2 h f) := ⟨fun Z W hK hio tk => by
  obtain ⟨m1, m2, m3, m4, m5⟩ := hm
  refine (ps_expr (pe_bm PySem.F.plainAttrs_list PySem.F.slot_list_append PySem.F.type_list_append mt_append (pe_ix (r := rIxL X.K) ix_list (pe_var hN hv hd hcd) (hb.run Z W hK tk) hsx) (pa_cons (he.run Z W hK tk) pa_nil m4) m1 m2 m3 m4 m5) hs).weak fun D σ H q => ?_
  obtain ⟨g0, A, j0, q⟩ := q
  have hr : ∀ g, (at_ Ve g)[i]? = some (.pk (.lst [j1, j2])) := fun g => by rw [at_get, hi]; rfl
  obtain ⟨a, e1, _⟩ := j0.pk i _ (hr g0)
  refine ⟨_, e1, g0, A, j0, ?_⟩
  unfold appK doS at q
  cases eh : h g0 with
  | bad => simp only [eh] at q
  | exc x g1 =>
    simp only [eh] at q
    exact fun c H' mc j' gr => q c A σ H' mc (hx _ _ _ _ _ j')
  | ok k g1 =>
    simp only [eh] at q
    intro v H1 j1' gr1 sm1 rv1
    cases rp_int rv1.full
    obtain ⟨a', e1', e2'⟩ := j1'.pk i _ (hr g1)
    rw [e1] at e1'
    cases e1'
    have hat : ∀ n, ixN 2 k = some n → atI [j1, j2] k = [j1, j2][n]? := fun n hn => by
      show (ixN 2 k).bind _ = _
      rw [hn]
      rfl
    have q' : Fin X.mg Z W C xj Ve D (OwV A Ve) H ((match ixN 2 k with
      | some 0 => appS get1 put1 f
      | some 1 => appS get2 put2 f
      | _ => fun _ => .bad) g1) := q
    have key : ∃ (j : Nat) (get : γ → List α) (put : γ → List α → γ), Ve[j]? = some (.own fun g => (get g).map enc) ∧ (∀ g l, at_ Ve (put g l) = (at_ Ve g).set j (.own (l.map enc))) ∧ atI [j1, j2] k = some j ∧ Fin X.mg Z W C xj Ve D (OwV A Ve) H (appS get put f g1) := by
      match hk : ixN 2 k with
      | none => rw [hk] at q'; exact q'.elim
      | some 0 => rw [hk] at q'; exact ⟨j1, get1, put1, h1, hp1, hat 0 hk, q'⟩
      | some 1 => rw [hk] at q'; exact ⟨j2, get2, put2, h2, hp2, hat 1 hk, q'⟩
      | some (n + 2) => rw [hk] at q'; exact q'.elim
    obtain ⟨j, get, put, hj, hput, hkj, q0⟩ := key
    have hrj : ∀ g, (at_ Ve g)[j]? = some (.own ((get g).map enc)) := fun g => by rw [at_get, hj]; rfl
    obtain ⟨_, vs0, e3, _⟩ := j1'.own j _ (hrj g1)
    refine ⟨a, _, k, .ref (A j), rfl, rfl, seqL (gh_le _ _ e2'), by rw [atI_map, hkj]; rfl, .inl ⟨rfl, vs0, seqL e3⟩, ?_⟩
    refine ⟨g1, A, j1', ?_⟩
    unfold appS doS at q0
    cases ef : f g1 with
    | bad => simp only [ef] at q0; exact q0
    | exc x g2 =>
      simp only [ef] at q0
      exact fun c H' mc j' gr => q0 c A σ H' mc (hx _ _ _ _ _ j')
    | ok w g2 =>
      simp only [ef] at q0
      intro v H2 j2' gr2 sm2 rv2
      by_cases hl : (get g2).length < LIM
      · rw [if_pos hl] at q0
        obtain ⟨_, vs, e5, e6⟩ := j2'.own j _ (hrj g2)
        rw [ow_at] at e6
        have el := e6.length
        rw [List.length_map] at el
        refine ⟨A j, vs, v, rfl, rfl, e5, by rw [el]; exact Nat.lt_trans hl (by decide), ?_⟩
        obtain ⟨j3, st⟩ := j_chg (vs := vs ++ [v]) (l := get g2 ++ [w]) j2' hj hput (by rw [List.map_append]; exact e6.append (.cons rv2 .nil))
        exact q0 A σ _ j3 ((gr1.stt.trans gr2.stt).trans st)
      · rw [if_neg hl] at q0
        exact q0.elim⟩
end
section
variable {X : Cx} {γ α β : Type} [Enc α] {C : FC γ β} {xj : XJ γ} {Ve Ve' V2 V3 : Ev γ} {m : Md} {p p2 : Bool} {e b : Expr} {pos : Pos} {st : Stmt}
/-- y.append(e), y another name of the list in slot j -/
theorem c_appA {f : Ac γ α} (i j : Nat) (get : γ → List α) (put : γ → List α → γ) {n : Str} {p0 ap cp : Pos} (hx : XOk xj Ve) (he : SE X Ve .fr p e f) (hi : Ve[i]? = some (.pk (.ali j)) := by rfl) (hj : Ve[j]? = some (.own fun g => (get g).map enc) := by rfl) (hput : ∀ g l, at_ Ve (put g l) = (at_ Ve g).set j (.own (l.map enc)) := by exact fun _ _ => rfl)
    (hN : X.N[i]? = some n := by rfl) (hv : Vis X.env.scope n := by first | exact Or.inl rfl | exact Or.inr (Or.inl rfl) | exact Or.inr (Or.inr rfl)) (hd : (n == ("__debug__" : Str)) = false := by decide) (hcd : (n == ("__classdict__" : Str)) = false := by decide)
    (hm : Bm1 X (.Name n p0) "append" ap e cp := by exact ⟨rfl, rfl, rfl, rfl, rfl⟩) (hs : swapsWith (.Call (.Attribute (.Name n p0) "append" ap) [e] [] cp) none pos.line X.env = pure false := by rfl) :
    SS X C xj Ve Ve (.Expr (.Call (.Attribute (.Name n p0) "append" ap) [e] [] cp) pos) (appS get put f) := ⟨fun Z W hK hio tk => by
  obtain ⟨m1, m2, m3, m4, m5⟩ := hm
  refine (ps_expr (pe_bm PySem.F.plainAttrs_list PySem.F.slot_list_append PySem.F.type_list_append mt_append (pe_var hN hv hd hcd) (pa_cons (he.run Z W hK tk) pa_nil m4) m1 m2 m3 m4 m5) hs).weak fun D σ H q => ?_
  obtain ⟨g0, A0, j0, q0⟩ := id q
  have hr : ∀ g, (at_ Ve g)[j]? = some (.own ((get g).map enc)) := fun g => by rw [at_get, hj]; rfl
  have hi0 : (at_ Ve g0)[i]? = some (.pk (.ali j)) := by rw [at_get, hi]; rfl
  have e1 : σ[i]? = some (some (.ref (A0 j))) := j0.pk i _ hi0
  obtain ⟨_, vs0, e2, _⟩ := j0.own j _ (hr g0)
  refine ⟨_, e1, .inl ⟨rfl, vs0, seqL e2⟩, ?_⟩
  refine ⟨g0, A0, j0, ?_⟩
  unfold appS doS at q0
  cases ef : f g0 with
  | bad => simp only [ef] at q0
  | exc x g1 =>
    simp only [ef] at q0
    exact fun c H' mc j' gr => q0 c A0 σ H' mc (hx _ _ _ _ _ j')
  | ok a g1 =>
    simp only [ef] at q0
    intro v H1 j1 gr sm rv
    by_cases hl : (get g1).length < LIM
    · rw [if_pos hl] at q0
      obtain ⟨_, vs, e3, e4⟩ := j1.own j _ (hr g1)
      rw [ow_at] at e4
      have el := e4.length
      rw [List.length_map] at el
      refine ⟨A0 j, vs, v, rfl, rfl, e3, by rw [el]; exact Nat.lt_trans hl (by decide), ?_⟩
      obtain ⟨j2, st⟩ := j_chg (vs := vs ++ [v]) (l := get g1 ++ [a]) j1 hj hput (by rw [List.map_append]; exact e4.append (.cons rv .nil))
      exact q0 A0 σ _ j2 (gr.stt.trans st)
    · rw [if_neg hl] at q0
      exact q0.elim⟩
def upS {γ β : Type} (up : γ → γ) (h : Sc γ β) : Sc γ β := fun g => h (up g)
theorem no_ne : NoO Slot.no := ⟨fun _ z => (by cases z), fun _ z => (by cases z)⟩
theorem wks_refl : ∀ r : List Slot, Wks r r
  | [] => trivial
  | a :: r => ⟨.refl a, wks_refl r⟩
theorem wks_set : ∀ {r : List Slot} {i : Nat} {s s' : Slot}, r[i]? = some s → Wk1 s s' → Wks r (r.set i s')
  | [], _, _, _, h, _ => by simp at h
  | a :: r, 0, s, s', h, w => by
    simp at h
    subst h
    exact ⟨w, wks_refl r⟩
  | a :: r, i + 1, s, s', h, w => ⟨.refl a, wks_set (i := i) (by simpa using h) w⟩
theorem set_self {σ : L2.St} {i : Nat} {w : Option V} (h : σ[i]? = some w) : σ.set i w = σ := by
  obtain ⟨hl, e⟩ := List.getElem?_eq_some_iff.mp h
  rw [← e]
  exact List.set_getElem_self hl
/-- a list of two lists of one's own is given up: it is data from now on -/
theorem j_up2 {Z : Fix} {A : AT} {r : List Slot} {σ : L2.St} {H : Hp} {i j1 j2 : Nat} {ds1 ds2 : List D} (j : J Z A r σ H) (hi : r[i]? = some (.pk (.lst [j1, j2]))) (h1 : r[j1]? = some (.own ds1)) (h2 : r[j2]? = some (.own ds2)) (n1 : ∀ a, (j1, a) ∉ Z.io) (n2 : ∀ a, (j2, a) ∉ Z.io) (ni : ∀ a, (i, a) ∉ Z.io) (d12 : j1 ≠ j2) (d1 : j1 ≠ i) (d2 : j2 ≠ i) :
    J Z A ((((r.set j1 .no).set j2 .no).set i (.imm true (.list [.list ds1, .list ds2])))) σ H := by
  have w1 : Wks r (r.set j1 (.imm true (.list ds1))) := wks_set h1 (.give (.ls ds1))
  have ja := j.weak w1 fun k a ds hk e => by
    have : j1 ≠ k := fun z => n1 a (z ▸ hk)
    rw [set_get, if_neg this]
    exact e
  have h2' : (r.set j1 (.imm true (.list ds1)))[j2]? = some (.own ds2) := by rw [set_get, if_neg d12]; exact h2
  have jb : J Z A ((r.set j1 (.imm true (.list ds1))).set j2 (.imm true (.list ds2))) σ H := ja.weak (wks_set h2' (.give (.ls ds2))) fun k a ds hk e => by
    have : j2 ≠ k := fun z => n2 a (z ▸ hk)
    rw [set_get, if_neg this]
    exact e
  obtain ⟨a, e1, e2⟩ := j.pk i _ hi
  have hib : ((r.set j1 (.imm true (.list ds1))).set j2 (.imm true (.list ds2)))[i]? = some (.pk (.lst [j1, j2])) := by
    rw [set_get, if_neg d2, set_get, if_neg d1]; exact hi
  obtain ⟨a', e1', e3⟩ := jb.pk i _ hib
  rw [e1] at e1'
  cases e1'
  have il1 : j1 < r.length := (List.getElem?_eq_some_iff.mp h1).1
  have il2 : j2 < r.length := (List.getElem?_eq_some_iff.mp h2).1
  obtain ⟨v1, f1, f2⟩ := jb.imm j1 true (.list ds1) (by rw [set_get, if_neg (Ne.symm d12), set_get, if_pos rfl, if_pos il1])
  obtain ⟨v2, f3, f4⟩ := jb.imm j2 true (.list ds2) (by rw [set_get, if_pos rfl, if_pos (by rw [List.length_set]; exact il2)])
  rw [(j.own j1 _ h1).1] at f1
  rw [(j.own j2 _ h2).1] at f3
  cases f1
  cases f3
  have jc := jb.setImm (i := i) (v := .ref a) (fr := true) (d := .list [.list ds1, .list ds2]) (.lst (xs := [.ref (A j1), .ref (A j2)]) (by simpa [HL.hp] using e3) (.cons f2 (.cons f4 .nil))) ni
  rw [set_self e1] at jc
  have k1 : (((r.set j1 (.imm true (.list ds1))).set j2 (.imm true (.list ds2))).set i (.imm true (.list [.list ds1, .list ds2])))[j1]? = some (.imm true (.list ds1)) := by
    rw [set_get, if_neg (Ne.symm d1), set_get, if_neg (Ne.symm d12), set_get, if_pos rfl, if_pos il1]
  have jd := jc.weak (wks_set k1 (.no _)) fun k a ds hk e => by
    have : j1 ≠ k := fun z => n1 a (z ▸ hk)
    rw [set_get, if_neg this]
    exact e
  have k2 : ((((r.set j1 (.imm true (.list ds1))).set j2 (.imm true (.list ds2))).set i (.imm true (.list [.list ds1, .list ds2]))).set j1 .no)[j2]? = some (.imm true (.list ds2)) := by
    rw [set_get, if_neg d12, set_get, if_neg (Ne.symm d2), set_get, if_pos rfl, if_pos (by rw [List.length_set]; exact il2)]
  have je := jd.weak (wks_set k2 (.no _)) fun k a ds hk e => by
    have : j2 ≠ k := fun z => n2 a (z ▸ hk)
    rw [set_get, if_neg this]
    exact e
  have e : ((((r.set j1 (.imm true (.list ds1))).set j2 (.imm true (.list ds2))).set i (.imm true (.list [.list ds1, .list ds2]))).set j1 .no).set j2 .no = ((r.set j1 .no).set j2 .no).set i (.imm true (.list [.list ds1, .list ds2])) := by
    refine List.ext_getElem? fun k => ?_
    simp only [List.getElem?_set, List.length_set]
    by_cases z1 : j2 = k
    · subst z1
      simp [d12, Ne.symm d2, d2, il2, il1, Ne.symm d12]
    · by_cases z2 : j1 = k
      · subst z2
        simp [z1, Ne.symm d1, il1, d1]
      · simp [z1, z2]
  rw [e] at je
  exact je
theorem SS.up2 {h : Sc γ β} (i j1 j2 : Nat) (get1 get2 : γ → List α) (up : γ → γ) (hk : SS X C xj V2 V3 st h) (hi : Ve[i]? = some (.pk (.lst [j1, j2])) := by rfl) (h1 : Ve[j1]? = some (.own fun g => (get1 g).map enc) := by rfl) (h2 : Ve[j2]? = some (.own fun g => (get2 g).map enc) := by rfl)
    (hV : ∀ g, at_ V2 (up g) = (((at_ Ve g).set j1 .no).set j2 .no).set i (.imm true (enc [get1 g, get2 g])) := by exact fun _ => rfl)
    (n1 : (ioIx C).contains j1 = false := by rfl) (n2 : (ioIx C).contains j2 = false := by rfl) (ni : (ioIx C).contains i = false := by rfl) (d12 : j1 ≠ j2 := by decide) (d1 : j1 ≠ i := by decide) (d2 : j2 ≠ i := by decide) : SS X C xj Ve V3 st (upS up h) := ⟨fun Z W hK hio tk => (hk.run Z W hK hio tk).weak fun D σ H q => by
  obtain ⟨g, A, j, q⟩ := q
  have j2 := j_up2 j (i := i) (j1 := j1) (j2 := j2) (ds1 := (get1 g).map enc) (ds2 := (get2 g).map enc) (by rw [at_get, hi]; rfl) (by rw [at_get, h1]; rfl) (by rw [at_get, h2]; rfl) (noio hio n1) (noio hio n2) (noio hio ni) d12 d1 d2
  have hv := hV g
  have j3 : J Z A (at_ V2 (up g)) σ H := by
    rw [hv]
    exact j2
  refine ⟨up g, A, j3, ?_⟩
  have q' : Fin X.mg Z W C xj V3 D (OwV A Ve) H (h (up g)) := q
  have st0 : Stt (OwV A Ve) (OwV A V2) H H := fun x o n hx => ⟨hx, fun z => n (by
    rw [← ow_at (g := up g), hv] at z
    rw [← ow_at (g := g)]
    exact ow_set no_ne x (ow_set no_ne x (ow_set imm_ne x z)))⟩
  exact q'.step st0⟩
end
/-! ### for y in x -/
theorem owv_set {γ : Type} {A : AT} {V : Ev γ} {k : Nat} {s : SlotG γ} (h : V[k]? = some .no) (ns : (∀ ds, s ≠ .own ds) ∧ ∀ t, s ≠ .tree t) : OwV A (V.set k s) = OwV A V := by
  funext a
  have away : ∀ {i : Nat} {s' : SlotG γ}, (V.set k s)[i]? = some s' → s' ≠ s → V[i]? = some s' := fun {i s'} e n => by
    rw [List.getElem?_set] at e
    by_cases q : k = i
    · rw [if_pos q] at e
      split at e
      · exact absurd (Option.some.inj e).symm n
      · cases e
    · rw [if_neg q] at e
      exact e
  have back : ∀ {i : Nat} {s' : SlotG γ}, V[i]? = some s' → s' ≠ .no → (V.set k s)[i]? = some s' := fun {i s'} e n => by
    have q : k ≠ i := fun q => by
      rw [q, e] at h
      exact n (Option.some.inj h)
    rw [List.getElem?_set, if_neg q]
    exact e
  refine propext ⟨fun z => ?_, fun z => ?_⟩
  · rcases z with ⟨i, ds, e, z⟩ | ⟨i, t, e, z⟩
    · exact .inl ⟨i, ds, away e fun q => ns.1 ds q.symm, z⟩
    · exact .inr ⟨i, t, away e fun q => ns.2 t q.symm, z⟩
  · rcases z with ⟨i, ds, e, z⟩ | ⟨i, t, e, z⟩
    · exact .inl ⟨i, ds, back e (fun q => by cases q), z⟩
    · exact .inr ⟨i, t, back e (fun q => by cases q), z⟩
theorem at_setV {γ : Type} (V : Ev γ) (g : γ) (k : Nat) (s : SlotG γ) : at_ (V.set k s) g = (at_ V g).set k (s.at g) := by
  unfold at_
  rw [List.map_set]
theorem set_no {r : List Slot} {k : Nat} {s : Slot} (h : r[k]? = some .no) : (r.set k s).set k .no = r := by
  rw [List.set_set]
  obtain ⟨hl, e⟩ := List.getElem?_eq_some_iff.mp h
  rw [← e]
  exact List.set_getElem_self hl
section
variable {X : Cx} {γ β : Type} {C : FC γ β} {xj : XJ γ} {Ve : Ev γ} {pos : Pos}
/-- a slot that holds no list is forgotten again -/
theorem j_drop {Z : Fix} {A : AT} {g : γ} {σ : L2.St} {H : Hp} {V : Ev γ} {k : Nat} {q : Pk} (h : V[k]? = some .no) (hno : (ioIx C).contains k = false) (hio : ZC Z C) (j : J Z A (at_ (V.set k (.pk q)) g) σ H) : J Z A (at_ V g) σ H := by
  rw [at_setV] at j
  have hk : (at_ V g)[k]? = some .no := by rw [at_get, h]; rfl
  have hl : k < (at_ V g).length := (List.getElem?_eq_some_iff.mp hk).1
  have j2 := j.weak (wks_set (i := k) (s' := .no) (by rw [set_get, if_pos rfl, if_pos hl]) (.no _)) fun i a ds hi e => by
    have : k ≠ i := fun z => noio hio hno a (z ▸ hi)
    rw [set_get, if_neg this]
    exact e
  rw [set_no hk] at j2
  exact j2
theorem c_forPk {b1 b2 : Sc γ β} {bs : List Stmt} (i k p j1 j2 : Nat) {x y : Str} {px py : Pos} (hp : PassesOwn (model X.prog X.w) X.A X.env X.xe) (hc : X.calm = true) (hNd : X.N.Nodup)
    (hb1 : ∀ a, SB X C xj ((Ve.set p (.pk (.at a [j1, j2]))).set k (.pk (.ali j1))) ((Ve.set p (.pk (.at a [j1, j2]))).set k (.pk (.ali j1))) bs b1)
    (hb2 : ∀ a, SB X C xj ((Ve.set p (.pk (.at a [j1, j2]))).set k (.pk (.ali j2))) ((Ve.set p (.pk (.at a [j1, j2]))).set k (.pk (.ali j2))) bs b2)
    (hi : Ve[i]? = some (.pk (.lst [j1, j2])) := by rfl) (hk0 : Ve[k]? = some .no := by rfl) (hp0 : Ve[p]? = some .no := by rfl) (hkp : p ≠ k := by decide) (nk : (ioIx C).contains k = false := by rfl) (np : (ioIx C).contains p = false := by rfl)
    (hN : X.N[i]? = some x := by rfl) (hv : Vis X.env.scope x := by first | exact Or.inl rfl | exact Or.inr (Or.inl rfl) | exact Or.inr (Or.inr rfl)) (hd : (x == ("__debug__" : Str)) = false := by decide) (hcd : (x == ("__classdict__" : Str)) = false := by decide)
    (hNk : X.N[k]? = some y := by rfl) (hly : Loc X.env.scope y := by first | exact .inl rfl | exact .inr rfl) (hf : X.fn y = true ∨ X.env.scope.names.lookup y = some .local := by first | exact .inl rfl | exact .inr rfl)
    (hs : ∀ v, foldedSetIterable (.Name x px) X.env v = pure v := by intro _; rfl) : SS X C xj Ve Ve (.For (.Name y py) (.Name x px) bs [] pos) (bindS b1 b2) := ⟨fun Z W hK hio tk => by
  have hb : PSs X bs (fun D σ H => ∃ a, tS X.mg Z W C xj ((Ve.set p (.pk (.at a [j1, j2]))).set k (.pk (.ali j1))) ((Ve.set p (.pk (.at a [j1, j2]))).set k (.pk (.ali j1))) b1 D σ H ∨ tS X.mg Z W C xj ((Ve.set p (.pk (.at a [j1, j2]))).set k (.pk (.ali j2))) ((Ve.set p (.pk (.at a [j1, j2]))).set k (.pk (.ali j2))) b2 D σ H) := ⟨fun pins s σ H D I q => by
    obtain ⟨a, q | q⟩ := q
    · exact ((hb1 a).run Z W hK hio tk).run pins s σ H D I q
    · exact ((hb2 a).run Z W hK hio tk).run pins s σ H D I q⟩
  refine (ps_for hp hc (pi_list (pe_var hN hv hd hcd)) (pg_name hNd hNk hly hf) hb hs).weak fun D σ H q => ?_
  obtain ⟨g, A, j, q⟩ := q
  have hr : (at_ Ve g)[i]? = some (.pk (.lst [j1, j2])) := by rw [at_get, hi]; rfl
  obtain ⟨a, e1, e2⟩ := j.pk i _ hr
  refine ⟨_, e1, a, rfl, ⟨_, seqL (gh_le _ _ e2)⟩, ?_⟩
  have pl : p < σ.length := by
    rw [← j.len]
    unfold at_
    rw [List.length_map]
    exact (List.getElem?_eq_some_iff.mp hp0).1
  have jp : J Z A (at_ (Ve.set p (.pk (.at a [j1, j2]))) g) σ H := by
    rw [at_setV]
    have := j.setPkW (i := p) (v := σ[p]) (t := .at a [j1, j2]) e2 (noio hio np)
    rw [set_self (List.getElem?_eq_getElem pl)] at this
    exact this
  have hk1 : ∀ a, (Ve.set p (.pk (.at a [j1, j2])))[k]? = some .no := fun a => by rw [List.getElem?_set, if_neg hkp]; exact hk0
  have ow1 : ∀ (A : AT) (a : Addr) (q : Pk), OwV A ((Ve.set p (.pk (.at a [j1, j2]))).set k (.pk q)) = OwV A Ve := fun A a q => by
    rw [owv_set (hk1 a) ⟨fun _ z => (by cases z), fun _ z => (by cases z)⟩, owv_set hp0 ⟨fun _ z => (by cases z), fun _ z => (by cases z)⟩]
  let rest : Nat → Sc γ β := fun t => match t with
    | 0 => bindS b1 b2
    | 1 => b2
    | _ => nxS
  have pg : ∀ {A : AT} {g : γ} {σ : L2.St} {H : Hp}, J Z A (at_ (Ve.set p (.pk (.at a [j1, j2]))) g) σ H → GH Z (Ow A (at_ (Ve.set p (.pk (.at a [j1, j2]))) g)) H a = some (.lst [.ref (A j1), .ref (A j2)]) := fun {A g σ H} jj => by
    have hl : p < Ve.length := (List.getElem?_eq_some_iff.mp hp0).1
    exact jj.pk p (.at a [j1, j2]) (by rw [at_get, List.getElem?_set, if_pos rfl, if_pos hl]; rfl)
  refine ⟨fun t m σ' H' => m = 2 - t ∧ t ≤ 2 ∧ ∃ g' A', J Z A' (at_ (Ve.set p (.pk (.at a [j1, j2]))) g') σ' H' ∧ Stt (OwV A Ve) (OwV A' Ve) H H' ∧ Fin X.mg Z W C xj Ve D (OwV A' Ve) H' (rest t g'), ⟨2, rfl, by decide, g, A, jp, .refl, q⟩, ?_⟩
  rintro t m σ2 H2 ⟨rfl, ht, g2, A2, j2', st2, q2⟩
  have ea := pg j2'
  have turn : ∀ (jt : Nat) (bt : Sc γ β), t < 2 → [j1, j2][t]? = some jt → (rest t = bindS bt (rest (t + 1)) ∨ (rest t = bt ∧ rest (t + 1) = nxS)) →
      (∀ {D' : Ends} {σ' : L2.St} {H' : Hp}, tS X.mg Z W C xj ((Ve.set p (.pk (.at a [j1, j2]))).set k (.pk (.ali jt))) ((Ve.set p (.pk (.at a [j1, j2]))).set k (.pk (.ali jt))) bt D' σ' H' → ∃ a, tS X.mg Z W C xj ((Ve.set p (.pk (.at a [j1, j2]))).set k (.pk (.ali j1))) ((Ve.set p (.pk (.at a [j1, j2]))).set k (.pk (.ali j1))) b1 D' σ' H' ∨ tS X.mg Z W C xj ((Ve.set p (.pk (.at a [j1, j2]))).set k (.pk (.ali j2))) ((Ve.set p (.pk (.at a [j1, j2]))).set k (.pk (.ali j2))) b2 D' σ' H') →
      ((Itl X.K a).go t H2 ∧ ∃ N : L2.St → Hp → Prop, (∀ σ' H', N σ' H' → ∃ m', m' < 2 - t ∧ (m' = 2 - (t + 1) ∧ t + 1 ≤ 2 ∧ ∃ g' A', J Z A' (at_ (Ve.set p (.pk (.at a [j1, j2]))) g') σ' H' ∧ Stt (OwV A Ve) (OwV A' Ve) H H' ∧ Fin X.mg Z W C xj Ve D (OwV A' Ve) H' (rest (t + 1) g'))) ∧
        ∀ x H', (Itl X.K a).yld t H2 x H' → gName k x σ2 H' fun σ2 H2 => ∃ a, tS X.mg Z W C xj ((Ve.set p (.pk (.at a [j1, j2]))).set k (.pk (.ali j1))) ((Ve.set p (.pk (.at a [j1, j2]))).set k (.pk (.ali j1))) b1 { D with nx := N, ct := N, bk := D.nx } σ2 H2 ∨ tS X.mg Z W C xj ((Ve.set p (.pk (.at a [j1, j2]))).set k (.pk (.ali j2))) ((Ve.set p (.pk (.at a [j1, j2]))).set k (.pk (.ali j2))) b2 { D with nx := N, ct := N, bk := D.nx } σ2 H2) := fun jt bt hlt hjt hrest hsel => by
    have hx : ([j1, j2].map fun j => L2.V.ref (A2 j))[t]? = some (.ref (A2 jt)) := by rw [List.getElem?_map, hjt]; rfl
    refine ⟨⟨_, _, seqL (gh_le _ _ ea), hx⟩, fun σ' H' => ∃ g' A', J Z A' (at_ (Ve.set p (.pk (.at a [j1, j2]))) g') σ' H' ∧ Stt (OwV A Ve) (OwV A' Ve) H H' ∧ Fin X.mg Z W C xj Ve D (OwV A' Ve) H' (rest (t + 1) g'), fun σ' H' h => ⟨2 - (t + 1), by omega, rfl, by omega, h⟩, ?_⟩
    rintro x H3 ⟨rfl, hy⟩
    have ex := hy _ (seqL (gh_le _ _ ea))
    rw [show ([L2.V.ref (A2 j1), L2.V.ref (A2 j2)] : List L2.V)[t]? = ([j1, j2].map fun j => L2.V.ref (A2 j))[t]? from rfl, hx] at ex
    cases ex
    refine hsel ⟨g2, A2, ?_, ?_⟩
    · rw [at_setV]
      exact j2'.setPk (i := k) (v := .ref (A2 jt)) (t := .ali jt) rfl (noio hio nk)
    · have step : ∀ g3, (∀ A' σ' H', J Z A' (at_ ((Ve.set p (.pk (.at a [j1, j2]))).set k (.pk (.ali jt))) g3) σ' H' → Stt (OwV A2 ((Ve.set p (.pk (.at a [j1, j2]))).set k (.pk (.ali jt)))) (OwV A' ((Ve.set p (.pk (.at a [j1, j2]))).set k (.pk (.ali jt)))) H3 H' → Fin X.mg Z W C xj Ve D (OwV A' Ve) H' (rest (t + 1) g3) → (∃ g' A', J Z A' (at_ (Ve.set p (.pk (.at a [j1, j2]))) g') σ' H' ∧ Stt (OwV A Ve) (OwV A' Ve) H H' ∧ Fin X.mg Z W C xj Ve D (OwV A' Ve) H' (rest (t + 1) g'))) := fun g3 A' σ' H' j' st' qq => by
        rw [ow1, ow1] at st'
        exact ⟨g3, A', j_drop (C := C) (hk1 a) nk hio j', st2.trans st', qq⟩
      rcases hrest with hrest | ⟨hr1, hr2⟩
      · rw [hrest] at q2
        unfold bindS at q2
        cases eb : bt g2 with
        | bad => simp only [eb] at q2; exact q2
        | exc x g3 => simp only [eb] at q2; exact q2
        | rt b g3 => simp only [eb] at q2; exact q2
        | nx g3 =>
          simp only [eb] at q2
          intro A' σ' H' j' st'
          have st'' := st'
          rw [ow1, ow1] at st''
          exact step g3 A' σ' H' j' st' (q2.step st'')
      · rw [hr1] at q2
        cases eb : bt g2 with
        | bad => rw [eb] at q2; exact q2
        | exc x g3 => rw [eb] at q2; exact q2
        | rt b g3 => rw [eb] at q2; exact q2
        | nx g3 =>
          rw [eb] at q2
          intro A' σ' H' j' st'
          have st'' := st'
          rw [ow1, ow1] at st''
          refine step g3 A' σ' H' j' st' ?_
          rw [hr2]
          exact fun A3 σ3 H3' j3 st3 => q2 A3 σ3 H3' j3 (st''.trans st3)
  match t, ht, turn, q2 with
  | 0, _, turn, q2 => exact .inr (turn j1 b1 (by decide) rfl (.inl rfl) fun h => ⟨a, .inl h⟩)
  | 1, _, turn, q2 => exact .inr (turn j2 b2 (by decide) rfl (.inr ⟨rfl, rfl⟩) fun h => ⟨a, .inr h⟩)
  | 2, _, turn, q2 => exact .inl ⟨⟨_, seqL (gh_le _ _ ea), Nat.le_refl 2⟩, q2 A2 σ2 H2 (j_drop (C := C) hp0 np hio j2') .refl⟩
  | t + 3, h, _, _ => omega⟩
end
theorem nv_of {sc : Scope} {x : Str} (h : sc.names.lookup x = none) : ¬ Vis sc x := fun z => by
  unfold Vis at z
  rw [h] at z
  rcases z with z | z | z <;> cases z
/-! ### plain side -/
def pick2 (k : Int) (P Q : Prop) : Prop := match ixN 2 k with
  | some 0 => P
  | some 1 => Q
  | _ => False
theorem pick2_of {k : Int} {P Q : Prop} (h0 : 0 ≤ k) (h2 : k < 2) (p : P) (q : Q) : pick2 k P Q := by
  have : k = 0 ∨ k = 1 := by omega
  rcases this with e | e
  · subst e; exact p
  · subst e; exact q
section
variable {γ α β : Type} {g : γ} {N : γ → Prop} {R : β → γ → Prop} {X : Str → γ → Prop}
theorem q_up {up : γ → γ} {h : Sc γ β} : (upS up h g).post N R X ↔ (h (up g)).post N R X := Iff.rfl
theorem q_appK {get1 get2 : γ → List α} {put1 put2 : γ → List α → γ} {h : Ac γ Int} {f : Ac γ α} : (appK (β := β) get1 put1 get2 put2 h f g).post N R X ↔
    (h g).post (fun k g1 => pick2 k ((f g1).post (fun a g2 => (get1 g2).length < LIM ∧ N (put1 g2 (get1 g2 ++ [a]))) X) ((f g1).post (fun a g2 => (get2 g2).length < LIM ∧ N (put2 g2 (get2 g2 ++ [a]))) X)) X := by
  unfold appK
  rw [q_do]
  apply iff_of_eq
  congr 1
  funext k g1
  unfold pick2
  match ixN 2 k with
  | none => rfl
  | some 0 => exact propext q_app
  | some 1 => exact propext q_app
  | some (n + 2) => rfl
end
end HL
/-! Gc: a call that is handed a list made for it alone, and one thing more. -/
namespace HL
open PySem PySem.Spec PyProof.Rows L2
theorem pe_anyE {X : Cx} {γ α : Type} [Enc α] {Ve : Ev γ} {m : Md} {p : Bool} {e : Expr} {f : Ac γ α} (h : SE X Ve m p e f) {W : WX} (tk : Takes X W) : PE X e (fun σ H Q => ∃ Z : Fix, Z.K = X.K ∧ tE X.mg Z W Ve m p f σ H Q) :=
  ⟨fun pins s σ H Q I q => by
    obtain ⟨Z, k, q⟩ := q
    exact (h.run Z W k tk).run pins s σ H Q I q⟩
section
variable {X : Cx} {γ α α2 β ι : Type} [Enc α] [Flat α] [Enc α2] [Flat α2] [Enc β] {Ve : Ev γ} {p p2 : Bool} {e e2 : Expr} {k : Nat} {ps : List Str} {pa : List α × α2 × Unit → List Par} {pio : ι → List (Nat × Ob)} {F : List α × α2 × Unit → FRes β ι}
theorem x_callT2 {x : Str} {fA : Ac γ (List α)} {f2 : Ac γ α2} {p0 pos : Pos} (c : Cal X.prog X.w X.K X.mg X.base k x ps (spOf X.K X.mg .fr pa enc pio F)) (hr : Room k X.A) (ha : SN X Ve p e fA) (h2 : SE X Ve .fr p2 e2 f2) (hpa : ∀ a, pa a = [.ino (a.1.map enc), .imm true (enc a.2.1)] := by exact fun _ => rfl)
    (hg : Gl X x := by rfl) (hdb : (x == ("__debug__" : Str)) = false := by decide) (he : starEach (e :: [e2]) X.env = (false, eval e X.env) :: starEach [e2] X.env := by rfl) (he2 : starEach (e2 :: []) X.env = (false, eval e2 X.env) :: starEach [] X.env := by rfl) (hpl : (backTo pos (starEach [e2] X.env)).any (·.1) = false := by rfl) :
    SE X Ve .fr (p && p2) (.Call (.Name x p0) [e, e2] [] pos) (callA (fun (_ : γ) t => t) F (pairA fA (pairA f2 (pureA fun _ => ())))) := ⟨fun Z W hK tk => by
  obtain ⟨f, fd, FO, hmg, hk, hb⟩ := c.ex
  refine (pe_callS (E := WE W) FO hr hg hmg hk hb (fun σ => passAt tk σ) (pa_cons (ha.run Z W hK tk) (pa_cons (pe_anyE h2 tk) pa_nil he2) he) hdb he hpl).weak fun σ H Q q => ?_
  obtain ⟨g, A, j, q⟩ := q
  refine ⟨g, A, j, ?_⟩
  unfold callA pairA bindA pureA at q
  cases ef : fA g with
  | bad => simp only [ef] at q
  | exc x g1 =>
    simp only [ef] at q
    exact q
  | ok l g1 =>
    simp only [ef] at q
    intro qq vs H1 hn j1 gr1 sm1 rvs
    have snew : Same H1 (upd H1 qq (.lst vs)) := same_new hn
    obtain ⟨k0, kS, kO⟩ := j1.fresh hn
    rw [ow_at] at kO
    refine ⟨Z.hid qq, hK, g1, A, j1.inD hn, ?_⟩
    cases eh : f2 g1 with
    | bad => simp only [eh] at q
    | exc x g2 =>
      simp only [eh] at q
      exact fun c H' mc j' gr => q c H' mc ((j'.outD k0 kS).same wo_le) (gr1.trans fun y o n h => gr y o n (snew _ _ h))
    | ok b g2 =>
      simp only [eh] at q
      intro w H2 j2 gr2 sm2 rw2
      have e2q : H2 qq = some (.lst vs) := gr2 qq _ kO upd_same
      have jo := j2.outD k0 kS
      have mutW : ∀ {x : Addr}, Mut (wo qq H2 x) → Mut (H2 x) := fun {x} h => by
        by_cases e : x = qq
        · rw [e, wo_at] at h; exact h.elim
        · rw [wo_ne e] at h; exact h
      have hm : ∀ x, (SC Z A Ve [] x ∨ x = qq) → Mut (H2 x) := by
        intro x h
        rcases h with h | h
        · exact mutW (sc_mut jo h)
        · rw [h, e2q]; trivial
      have hio : ioL 0 [V.ref qq, w] (pa (l, b, ())) = [(0, qq)] := by
        rw [hpa]
        cases w <;> rfl
      have g12 : Gr (OwV A Ve) H1 H2 := fun y o n h => gr2 y o n (snew _ _ h)
      refine spOf_mk (a := (l, b, ())) (noT_b (by rw [hpa]; rfl)) ⟨fun x => SC Z A Ve [] x ∨ x = qq, hm, ?_, ?_, ?_⟩
      · rw [hpa]
        refine ⟨⟨qq, rfl, .inr rfl, vs, e2q, ?_⟩, ⟨?_, fun _ => Flat.flat _⟩, trivial⟩
        · have r2 : RpA Z.K H2 vs (l.map enc) := RpA.mono ((Gr.gh (Z := Z) g12).trans gh_le) _ rvs
          rw [hK] at r2
          exact rpA_nomut (flatA_map l) r2
        · have r3 : RpA Z.K H2 [w] [enc b] := .cons (Rp.mono gh_le _ rw2) .nil
          rw [hK] at r3
          have r4 := rpA_nomut (show flatA [enc b] = true by
            show (flatD (enc b) && true) = true
            rw [Flat.flat]
            rfl) r3
          cases r4 with
          | cons r5 _ => exact Rp.mono (hide_same fun y o n h => ⟨fun z => n (hm y z), h⟩) _ r5
      · rw [hio]
        intro i j a h1 h2
        simp at h1 h2
        rw [h1.1, h2.1]
      rw [hio]
      have keep : ∀ {H3 : Hp}, (∀ y o, H2 y = some o → (∀ i, (i, y) ∉ [(0, qq)]) → H3 y = some o) → Same (wo qq H2) H3 := fun {H3} fr y o h => by
        have hne : y ≠ qq := fun z => by rw [z, wo_at] at h; cases h
        rw [wo_ne hne] at h
        exact fr y o h fun i z => by
          simp at z
          exact hne z.2
      have gr3 : ∀ {H3 : Hp}, Same (wo qq H2) H3 → Gr (OwV A Ve) H1 H3 := fun {H3} sm y o n h => sm y o (by
        have hne : y ≠ qq := fun z => by rw [z, hn] at h; cases h
        rw [wo_ne hne]
        exact g12 y o n h)
      cases eF : F (l, b, ()) with
      | bad => simp only [eF] at q
      | exc x' =>
        simp only [eF] at q
        refine fun c H3 mc fr => ?_
        exact q c H3 mc (jo.same (keep fr)) (gr1.trans (gr3 (keep fr)))
      | ok b' i =>
        simp only [eF] at q
        refine fun v H3 co => ?_
        have sm := keep co.frame
        have rr := co.ret
        rw [← hK] at rr
        refine q v H3 (jo.same sm) (gr1.trans (gr3 sm)) (fun z => ?_) ?_
        · obtain ⟨z1, z2⟩ := Bool.and_eq_true_iff.mp z
          refine (sm1 z1).trans fun y o h => sm y o ?_
          have hne : y ≠ qq := fun z => by rw [z, hn] at h; cases h
          rw [wo_ne hne]
          exact sm2 z2 y o (snew _ _ h)
        · exact Rp.mono (hide_same fun x o n e => ⟨fun z => n (mutW (mut0 jo z)), e⟩) _ rr⟩
end
end HL
/-! Ic: texts: their signs, their length, joined. -/
namespace HL
open PySem PySem.Spec PyProof.Rows L2
def lenSQ (s : Str) : Option Int := if s.length ≤ 100000 then some (s.length : Int) else none
def atSQ (s : Str) (i : Int) : Option Str := if s.length ≤ 100000 then (atI s.cps.toList i).map fun c => (⟨#[c]⟩ : Str) else none
def joinQ (a : Str) (ys : List Str) : Option Str := if (ys.map (·.length)).sum + ys.length * a.length ≤ 1000000 then some (Txt.join a ys) else none
section
variable {X : Cx} {γ : Type} {Ve : Ev γ} {m m1 m2 : Md} {p p1 p2 : Bool} {a b e o : Expr} {pos : Pos}
theorem s_lenStr {f : Ac γ Str} {p0 : Pos} (hx : X.mg "len" = none) (ha : SE X Ve m p e f) (hg : Gl X "len" := by rfl) (he : starEach (e :: []) X.env = (false, eval e X.env) :: starEach [] X.env := by rfl) (hpl : (backTo pos (starEach [] X.env)).any (·.1) = false := by rfl) :
    SE X Ve .fr p (.Call (.Name "len" p0) [e] [] pos) (op1 lenSQ f) :=
  s_b1 (id := "len") (r := fun _ xs H Q => ∃ z, xs = [.str z] ∧ z.length ≤ sizeLine ∧ Q (.int z.length) H) call_len_str (fun Z hK => fun A g σ H x l c Q j rx e q => by
    have := rp_str rx.full
    subst this
    unfold lenSQ at e
    by_cases h : l.length ≤ 100000
    · rw [if_pos h] at e
      obtain rfl := some_inj' e
      exact ⟨l, rfl, (Nat.le_trans h (by decide)), q _ H (Same.refl H) j (.int _)⟩
    · rw [if_neg h] at e
      cases e) hx ha PySem.boot_len hg (by decide) (by decide) he he hpl
theorem s_ixStr {f : Ac γ Str} {h : Ac γ Int} (ha : SE X Ve m p1 a f) (hb : SE X Ve .fr p2 b h) (hm : okM m p2 = true := by rfl) (hs : PlainIx b := by exact fun _ _ => rfl) : SE X Ve .fr (p1 && p2) (.Subscript a b pos) (op2 atSQ f h) :=
  ⟨fun Z W hK tk => (pe_ix (r := rIxS) ix_str (ha.run Z W hK tk) (hb.run Z W hK tk) hs).weak fun _ _ _ q => tOp_ok (fun A g σ H x y l i c Q j rx ry e q => by
    have := rp_str rx.full
    subst this
    cases rp_int ry.full
    unfold atSQ at e
    by_cases h : l.length ≤ 100000
    · rw [if_pos h] at e
      obtain ⟨c', e1, rfl⟩ := Option.map_eq_some_iff.mp e
      exact ⟨l, i, c', rfl, rfl, (Nat.le_trans h (by decide)), e1, q _ H (Same.refl H) j (.str _)⟩
    · rw [if_neg h] at e
      cases e) hm q⟩
theorem s_join {f : Ac γ Str} {h : Ac γ (List Str)} {apos : Pos} (ha : SE X Ve m1 p1 o f) (hb : SE X Ve m2 p2 e h) (hs : starEach [e] X.env = [(false, eval e X.env)] := by rfl) (hbase : attributeBase o "join" X.env (eval o X.env) = eval o X.env := by rfl) (hline : (apos.endLine == pos.line) = true := by rfl) :
    SE X Ve .fr (p1 && p2) (.Call (.Attribute o "join" apos) [e] [] pos) (op2 joinQ f h) :=
  ⟨fun Z W hK tk => (pe_join (ha.run Z W hK tk) (hb.run Z W hK tk) hs hbase hline).weak fun σ H Q q => by
    obtain ⟨g, A, j, q⟩ := q
    refine ⟨g, A, j, ?_⟩
    unfold op2 bindA at q
    cases ef : f g with
    | bad => rw [ef] at q; exact q
    | exc x g1 => rw [ef] at q; exact q
    | ok s g1 =>
      rw [ef] at q
      intro v H1 j1 gr sm rv
      have := rp_str rv.full
      subst this
      refine ⟨⟨s, rfl⟩, g1, A, j1, ?_⟩
      simp only at q
      cases eh : h g1 with
      | bad => simp only [eh] at q
      | exc x g2 =>
        simp only [eh] at q
        exact fun c H' mc j' gr' => q c H' mc j' (gr.trans gr')
      | ok ys g2 =>
        simp only [eh] at q
        unfold optA at q
        cases ek : joinQ s ys with
        | none => simp only [ek] at q
        | some c =>
          simp only [ek] at q
          intro w H2 j2 gr2 sm2 rw2
          obtain ⟨t, vs, rfl, e2, e3⟩ := rm_els rw2
          have := rpA_strs e3
          subst this
          unfold joinQ at ek
          by_cases hz : (ys.map (·.length)).sum + ys.length * s.length ≤ 1000000
          · rw [if_pos hz] at ek
            obtain rfl := some_inj' ek
            exact ⟨s, t, ys, rfl, rfl, .inl (seqL e2), Nat.le_trans hz (by decide), q _ H2 j2 (gr.trans gr2) (fun z => (sm (Bool.and_eq_true_iff.mp z).1).trans (sm2 (Bool.and_eq_true_iff.mp z).2)) (.str _)⟩
          · rw [if_neg hz] at ek
            cases ek⟩
theorem o_lenStr {s : Str} {Q : Int → Prop} : opt (lenSQ s) Q ↔ s.length ≤ 100000 ∧ Q (s.length : Int) := by
  unfold lenSQ
  split
  · rename_i h
    exact ⟨fun q => ⟨h, q⟩, fun q => q.2⟩
  · rename_i h
    exact ⟨fun q => q.elim, fun q => (h q.1).elim⟩
theorem o_join {s : Str} {ys : List Str} {Q : Str → Prop} : opt (joinQ s ys) Q ↔ (ys.map (·.length)).sum + ys.length * s.length ≤ 1000000 ∧ Q (Txt.join s ys) := by
  unfold joinQ
  split
  · rename_i h
    exact ⟨fun q => ⟨h, q⟩, fun q => q.2⟩
  · rename_i h
    exact ⟨fun q => q.elim, fun q => (h q.1).elim⟩
end
end HL
/-! Id: exceptions as things: made, asked for their class; of nine classes. -/
namespace HL
open PySem PySem.Spec PyProof.Rows L2
structure Ex where
  name : Str
deriving DecidableEq
instance : Enc Ex := ⟨fun e => exD e.name⟩
theorem rp_exo {K : PySem.W.Frag} {H : Hp} {v : L2.V} {e : Ex} (h : Rp K H v (enc e)) : ∃ a, v = .ref a ∧ H a = some (ExO (.ref (He.ga K e.name)) a) := by
  have h : Rp K H v (exD e.name) := h
  generalize hd : exD e.name = dd at h
  cases h with
  | dic h1 =>
    rename_i a ks
    exfalso
    unfold exD dkD at hd
    have e1 := PyData.dict.inj hd
    cases ks with
    | nil => cases e1
    | cons k t =>
      have e2 := (List.cons.inj e1).1
      have e3 := (Prod.mk.inj e2).1
      cases e3
  | exo h1 =>
    unfold exD at hd
    have e1 := PyData.dict.inj hd
    have e2 := (Prod.mk.inj (List.cons.inj e1).1).1
    have e3 := PyData.str.inj e2
    subst e3
    exact ⟨_, rfl, h1⟩
  | _ => unfold exD at hd; cases hd
def nine : List Str := ["NoLine", "Empty", "NoText", "NoFlat", "NoShare", "NoRows", "Lacking", "NoRow", "NoName"]
structure XTab (K : PySem.W.Frag) (mg : Str → Option Value) : Prop where
  ex : ∀ x ∈ nine, ExcC K (He.ga K x)
  gl : ∀ x ∈ nine, mg x = some (.ref (He.ga K x))
  one : ∀ x ∈ nine, ∀ y ∈ nine, PySem.W.kitOne K (.ref (He.ga K x)) (.ref (He.ga K y)) = some (decide (x = y))
  le : ∀ x ∈ nine, PySem.W.kitOne K (.ref (He.ga K x)) (.ref (He.ga K "LineError")) = some true
  lg : mg "LineError" = some (.ref (He.ga K "LineError"))
  ve : ∀ x ∈ nine, PySem.W.kitOne K (.ref (He.ga K x)) (.type "ValueError") = some true
  vf : mg "ValueError" = none
  xm : ∀ x ∈ nine, PySem.W.exmOne K (.ref (He.ga K x)) (.ref (He.ga K "LineError")) = some true
  cl : ∀ x ∈ nine, XCls K mg x
theorem all9 {P : Str → Prop} (h1 : P "NoLine") (h2 : P "Empty") (h3 : P "NoText") (h4 : P "NoFlat") (h5 : P "NoShare") (h6 : P "NoRows") (h7 : P "Lacking") (h8 : P "NoRow") (h9 : P "NoName") : ∀ x ∈ nine, P x := by
  intro x hx
  simp only [nine, List.mem_cons, List.not_mem_nil, or_false] at hx
  rcases hx with rfl | rfl | rfl | rfl | rfl | rfl | rfl | rfl | rfl <;> assumption
theorem oneT {K : PySem.W.Frag} {x y : Str} {b : Bool} (h : PySem.W.kitOne K (.ref (He.ga K x)) (.ref (He.ga K y)) = some b) (e : decide (x = y) = b := by decide) : PySem.W.kitOne K (.ref (He.ga K x)) (.ref (He.ga K y)) = some (decide (x = y)) := by rw [e]; exact h
/-! ### asked for their class -/
def rIsO (K : PySem.W.Frag) : List L2.V → Hp → VK → Prop := fun xs H Q => ∃ (a D : Addr) (c : L2.V) (cv : Value) (b : Bool), xs = [.ref a, c] ∧ H a = some (ExO (.ref D) a) ∧ ExcC K D ∧ (∀ u, RelV c u → u = cv) ∧ PySem.W.kitOne K (.ref D) cv = some b ∧ Q (.bl b) H
theorem call_isO {X : Cx} : CallR X (.builtin "isinstance") (rIsO X.K) := by
  intro pins s σ H xs us Q I r h
  obtain ⟨a, D, c, cv, b, rfl, hH, C, hcv, e, q⟩ := h
  cases r with
  | cons rx rr =>
    cases rr with
    | cons rt rr =>
      cases rr
      cases rx
      have ec := hcv _ rt
      subst ec
      obtain ⟨⟨oe, vs, hget, hz, hv, _⟩, _, _⟩ := I.hok a _ hH
      have J : PySem.W.InstAt s.heap a oe D none := by
        obtain ⟨oc, od, oda, osl⟩ := oe
        obtain ⟨h1, h2⟩ := hz
        dsimp only at h1 h2 hv
        subst h1 h2 hv
        exact ⟨hget, rfl, rfl, trivial⟩
      exact PySem.W.kia_one (PySem.W.handS_kitx_exc C.hg C.hk C.hs C.hd C.ha C.hn C.ht C.hm) I.kIn J e (fun z => nomatch z) fun tk => ⟨.bl b, H, I.kept (t' := tk) fun _ _ z => z, rfl, q⟩
def isXQ (y : Str) (e : Ex) : Option Bool := if e.name ∈ nine then some (decide (e.name = y)) else none
def isLQ (e : Ex) : Option Bool := if e.name ∈ nine then some true else none
section
variable {X : Cx} {γ : Type} {Ve : Ev γ} {m : Md} {p : Bool} {e : Expr} {pos : Pos} {f : Ac γ Ex}
theorem s_isXG {y : Str} {k : Ex → Option Bool} {C : Addr} {p0 p9 : Pos} (T : XTab X.K X.mg) (hk : ∀ (e : Ex) (b : Bool), k e = some b → e.name ∈ nine ∧ PySem.W.kitOne X.K (.ref (He.ga X.K e.name)) (.ref C) = some b) (hgm : X.mg y = some (.ref C)) (ha : SE X Ve m p e f) (hx : X.mg "isinstance" = none)
    (hg : Gl X "isinstance" := by rfl) (hgy : Gl X y := by rfl) (hdy : (y == ("__debug__" : Str)) = false := by decide)
    (he : starEach (e :: [.Name y p9]) X.env = (false, eval e X.env) :: starEach [.Name y p9] X.env := by rfl) (he2 : starEach (.Name y p9 :: []) X.env = (false, eval (.Name y p9) X.env) :: starEach [] X.env := by rfl) (hpl : (backTo pos (starEach [.Name y p9] X.env)).any (·.1) = false := by rfl) :
    SE X Ve .fr p (.Call (.Name "isinstance" p0) [e, .Name y p9] [] pos) (op1 k f) :=
  ⟨fun Z W hK tk => (pe_callB call_isO hg hx PyProof.Rows.boot_isinstance (pa_cons (ha.run Z W hK tk) (pa_cons (pe_glob (v := .ref C) hgy hgm rfl hdy) pa_nil he2) he) (by decide) (by decide) he hpl).weak fun σ H Q q =>
    tUn_ok (r := fun v H Q => rIsO X.K [v, .ref C] H Q) (fun A g σ H x l c Q j rx ec q => by
      obtain ⟨a, rfl, h1⟩ := rp_exo rx.full
      obtain ⟨k1, k2⟩ := hk l c ec
      rw [hK] at h1
      exact ⟨a, _, .ref C, .ref C, c, rfl, h1, T.ex _ k1, fun u h => h, k2, q _ H (Same.refl H) j (.bl _)⟩) q⟩
theorem s_isX {y : Str} {p0 p9 : Pos} (T : XTab X.K X.mg) (ha : SE X Ve m p e f) (hx : X.mg "isinstance" = none) (hy : y ∈ nine := by decide)
    (hg : Gl X "isinstance" := by rfl) (hgy : Gl X y := by rfl) (hdy : (y == ("__debug__" : Str)) = false := by decide)
    (he : starEach (e :: [.Name y p9]) X.env = (false, eval e X.env) :: starEach [.Name y p9] X.env := by rfl) (he2 : starEach (.Name y p9 :: []) X.env = (false, eval (.Name y p9) X.env) :: starEach [] X.env := by rfl) (hpl : (backTo pos (starEach [.Name y p9] X.env)).any (·.1) = false := by rfl) :
    SE X Ve .fr p (.Call (.Name "isinstance" p0) [e, .Name y p9] [] pos) (op1 (isXQ y) f) :=
  s_isXG T (fun e b h => by
    unfold isXQ at h
    split at h
    · rename_i h1
      obtain rfl := some_inj' h
      exact ⟨h1, T.one _ h1 _ hy⟩
    · cases h) (T.gl y hy) ha hx hg hgy hdy he he2 hpl
theorem s_isL {p0 p9 : Pos} (T : XTab X.K X.mg) (ha : SE X Ve m p e f) (hx : X.mg "isinstance" = none)
    (hg : Gl X "isinstance" := by rfl) (hgy : Gl X "LineError" := by rfl)
    (he : starEach (e :: [.Name "LineError" p9]) X.env = (false, eval e X.env) :: starEach [.Name "LineError" p9] X.env := by rfl) (he2 : starEach (.Name "LineError" p9 :: []) X.env = (false, eval (.Name "LineError" p9) X.env) :: starEach [] X.env := by rfl) (hpl : (backTo pos (starEach [.Name "LineError" p9] X.env)).any (·.1) = false := by rfl) :
    SE X Ve .fr p (.Call (.Name "isinstance" p0) [e, .Name "LineError" p9] [] pos) (op1 isLQ f) :=
  s_isXG T (fun e b h => by
    unfold isLQ at h
    split at h
    · rename_i h1
      obtain rfl := some_inj' h
      exact ⟨h1, T.le _ h1⟩
    · cases h) T.lg ha hx hg hgy (by decide) he he2 hpl
theorem s_isV {p0 p9 : Pos} (T : XTab X.K X.mg) (ha : SE X Ve m p e f) (hx : X.mg "isinstance" = none)
    (hg : Gl X "isinstance" := by rfl) (hgy : Gl X "ValueError" := by rfl)
    (he : starEach (e :: [.Name "ValueError" p9]) X.env = (false, eval e X.env) :: starEach [.Name "ValueError" p9] X.env := by rfl) (he2 : starEach (.Name "ValueError" p9 :: []) X.env = (false, eval (.Name "ValueError" p9) X.env) :: starEach [] X.env := by rfl) (hpl : (backTo pos (starEach [.Name "ValueError" p9] X.env)).any (·.1) = false := by rfl) :
    SE X Ve .fr p (.Call (.Name "isinstance" p0) [e, .Name "ValueError" p9] [] pos) (op1 isLQ f) :=
  ⟨fun Z W hK tk => (pe_callB call_isO hg hx PyProof.Rows.boot_isinstance (pa_cons (ha.run Z W hK tk) (pa_cons (pe_bltn (v := .ty "ValueError") hgy T.vf (by decide +kernel) rfl (by decide) (by decide)) pa_nil he2) he) (by decide) (by decide) he hpl).weak fun σ H Q q =>
    tUn_ok (r := fun v H Q => rIsO X.K [v, .ty "ValueError"] H Q) (fun A g σ H x l c Q j rx ec q => by
      obtain ⟨a, rfl, h1⟩ := rp_exo rx.full
      unfold isLQ at ec
      split at ec
      · rename_i k1
        obtain rfl := some_inj' ec
        rw [hK] at h1
        exact ⟨a, _, .ty "ValueError", .type "ValueError", true, rfl, h1, T.ex _ k1, fun u h => h, T.ve _ k1, q _ H (Same.refl H) j (.bl _)⟩
      · cases ec) q⟩
end
/-! ### made -/
theorem pe_exc0 {X : Cx} {C : Addr} {bmB : List Value} {B newId initId : String} {x : Str} {p pos : Pos} (F : ExcBaseFacts B newId initId bmB) (q : PySem.W.excIn X.K C bmB newId = true) (gC : X.mg x = some (.ref C)) (kC : PySem.W.keepIn X.K (.ref C) = true) (hg : Gl X x)
    (hdb : (x == ("__debug__" : Str)) = false := by decide) :
    PE X (.Call (.Name x p) [] [] pos) (fun σ H Q => ∀ a, H a = none → Q (.ref a) (upd H a (ExO (.ref C) a))) := by
  refine ⟨fun pins s σ H Q I h => ?_⟩
  refine wpAny_Call_Name_kw (ld_glob I hg gC ?_ hdb)
  refine PySem.W.callWith_K0 I.kIn kC ?_
  show wpAny _ _ (call (.ref C) []) _ _ _
  obtain ⟨bm, N, nm, qn, bs, hdct, sn, sub, ab, col, dd, k0, k1, k2, k3, k5, mN, hC, hN, hni, T⟩ := exc_obj I.kIn q
  refine wpAny_call_exc_subT F T hC hN hni (fun h' a hm => ?_) (by show 0 ≤ sizeLine; rw [sizeLine_eq]; omega)
  have hn : H a = none := I.hok.gone hm.new
  obtain ⟨t, ht, _, _⟩ := hm.there
  exact ⟨.ref a, upd H a (ExO (.ref C) a), I.laidN hm.keeps hm.new hn (exO_ok ht ⟨rfl, rfl⟩ rfl rfl rfl (show 4 < 6 by decide)), rfl, h a hn⟩
section
variable {X : Cx} {γ α β : Type} [Enc α] {Ve Ve' : Ev γ} {m : Md} {p : Bool} {e : Expr} {pos : Pos} {f : Ac γ α} {C : FC γ β} {xj : XJ γ}
theorem s_exc0 {x : Str} {p0 : Pos} (T : XTab X.K X.mg) (hx : x ∈ nine := by decide) (hg : Gl X x := by rfl) (hdb : (x == ("__debug__" : Str)) = false := by decide) :
    SE X Ve .fr true (.Call (.Name x p0) [] [] pos) (pureA fun _ => (⟨x⟩ : Ex)) := ⟨fun Z W hK tk => by
  obtain ⟨Ca, h, a1, a2, a3, a4⟩ := (T.cl x hx).ex
  have e1 := h.symm.trans (T.gl x hx)
  cases e1
  exact (pe_exc0 PySem.F.excBase_ValueError a1 h a2 hg hdb).weak fun σ H Q q => by
    obtain ⟨g, A, j, q⟩ := q
    intro a ha
    have hn := j.ghnew (o := ExO (.ref (He.ga X.K x)) a) ha
    rw [ow_at, ← hK] at hn
    rw [← hK]
    exact q _ _ (j.new ha) (.of (same_new ha)) (fun _ => same_new ha) (Rp.exo hn)⟩
theorem s_exc1 {x : Str} {p0 : Pos} (T : XTab X.K X.mg) (ha : SE X Ve m p e f) (hx : x ∈ nine := by decide) (hg : Gl X x := by rfl) (hs : starEach [e] X.env = (false, eval e X.env) :: starEach [] X.env := by rfl) (hdb : (x == ("__debug__" : Str)) = false := by decide) :
    SE X Ve .fr p (.Call (.Name x p0) [e] [] pos) (op1 (fun _ => some (⟨x⟩ : Ex)) f) := ⟨fun Z W hK tk => by
  obtain ⟨Ca, h, a1, a2, a3, a4⟩ := (T.cl x hx).ex
  have e1 := h.symm.trans (T.gl x hx)
  cases e1
  exact (pe_exc1 PySem.F.excBase_ValueError a1 h a2 hg (ha.run Z W hK tk) hs hdb).weak fun σ H Q q =>
    tUn_ok (r := fun _ H Q => ∀ a, H a = none → Q (.ref a) (upd H a (ExO (.ref (He.ga X.K x)) a))) (fun A g σ H v l c Q j rx ec q => by
      obtain rfl := some_inj' ec
      intro a ha
      have hn := j.ghnew (o := ExO (.ref (He.ga X.K x)) a) ha
      rw [ow_at, ← hK] at hn
      rw [← hK]
      exact q _ _ (same_new ha) (j.new ha) (Rp.exo hn)) q⟩
/-- raise X(e), e a name -/
theorem c_raise1 {x : Str} {y : γ → α} {p0 pos2 : Pos} (hx : XOk xj Ve) (hc : X.calm = true) (c : XCls X.K X.mg x) (ha : SE X Ve m true e (pureA y)) (hg : Gl X x := by rfl) (hs : starEach [e] X.env = (false, eval e X.env) :: starEach [] X.env := by rfl) (hdb : (x == ("__debug__" : Str)) = false := by decide) :
    SS X C xj Ve Ve' (.Raise (some (.Call (.Name x p0) [e] [] pos)) none pos2) (raiseS x) := ⟨fun Z W hK hio tk => by
  obtain ⟨Ca, gC, q, kC, h1, h2⟩ := c.ex
  exact (ps_raise hc tk (SkE.pmk_own1 PySem.F.excBase_ValueError q gC kC (raises_own h1 h2) hg (ha.run Z W hK tk) hs hdb)).weak fun D σ H q => by
    obtain ⟨g, A, j, q⟩ := q
    exact ⟨g, A, j, fun v H1 j1 _ _ _ => q _ A σ H1 gC (hx _ _ _ _ _ j1)⟩⟩
end
end HL
/-! Ie: a def that is handed the exception that a suite holds and tells a new list of truths; suites for the nine. -/
namespace HL
open PySem PySem.Spec PyProof.Rows L2
theorem rpA_blsN {K : PySem.W.Frag} {H : Hp} : ∀ {vs : List L2.V} {bs : List Bool}, RpA K H vs (bs.map enc) → vs = bs.map V.bl
  | _, [], h => by cases h; rfl
  | _, b :: bs, h => by
    cases h with
    | cons h1 h2 =>
      have := rp_bl h1
      subst this
      rw [rpA_blsN h2]
      rfl
theorem rpA_blsT {K : PySem.W.Frag} {H : Hp} : ∀ bs : List Bool, RpA K H (bs.map V.bl) (bs.map enc)
  | [] => .nil
  | b :: bs => .cons (.bl b) (rpA_blsT bs)
section
variable {X : Cx} {γ δ : Type} {Ve : Ev γ} {pos : Pos} {a : Addr} {oe : Obj} {pn : List (Addr × Obj)}
/-- f(e), e the exception that the suite holds, f a def that tells a new list of truths of it -/
theorem s_exCallN {x qual y n : Str} {st : Stmt} {f : Addr} {fd : FuncData} {N : List Str} {k : Nat} {p0 p1 : Pos} {V0 V1 : Ev δ} {body : Sc δ (List Bool)} {b : List Bool} (i : Nat) (g0 : δ) (F : Fun X.K x qual st f fd) (S : FnScope N [y] (defScope st)) (hr : Room (k + 1) X.A) (hmg : X.mg x = some (.ref f)) (hb : Binds X.K fd [y] [])
    (hbody : ∀ (cdv : Value) (A : Around) (outer : List Env) (s : Shared) (H : Hp), Room k (A.deeper (envOfC qual (defScope st) s.heap.objs.size f cdv)) →
      SB (cxE X.prog X.w X.K X.mg X.base N qual (defScope st) f cdv A outer s H a oe) { rm := .nw, en := enc, ios := [] } (xfr δ) V0 V1 (defBody st) body)
    (hV : at_ V0 g0 = .raw (.ref a) :: List.replicate (N.length - 1) .no) (hrt : ∃ g1, body g0 = .rt b g1)
    (hi : Ve[i]? = some (.raw (.ref a)) := by rfl) (hN : X.N[i]? = some n := by rfl) (hg : Gl X x := by rfl)
    (hv : Vis X.env.scope n := by first | exact Or.inl rfl | exact Or.inr (Or.inl rfl) | exact Or.inr (Or.inr rfl)) (hd : (n == ("__debug__" : Str)) = false := by decide) (hcd : (n == ("__classdict__" : Str)) = false := by decide) (hdb : (x == ("__debug__" : Str)) = false := by decide)
    (he : starEach (.Name n p1 :: []) X.env = (false, eval (.Name n p1) X.env) :: starEach [] X.env := by rfl) (hpl : (backTo pos (starEach [] X.env)).any (·.1) = false := by rfl) :
    SN (X.suite a ((a, oe) :: pn)) Ve true (.Call (.Name x p0) [.Name n p1] [] pos) (pureA fun _ => b) := ⟨fun Z W hK tk => by
  refine ⟨fun pins s σ H Q I q => ?_⟩
  obtain ⟨g, A, j, q⟩ := q
  have hraw : (at_ Ve g)[i]? = some (.raw (.ref a)) := by rw [at_get, hi]; rfl
  refine wpAny_Call_Name_kw (ld_glob (X := X.suite a ((a, oe) :: pn)) I hg hmg ?_ hdb)
  have pa : PA (X.suite a ((a, oe) :: pn)) [.Name n p1] _ := pa_cons (pe_var (X := X.suite a ((a, oe) :: pn)) hN hv hd hcd) pa_nil he
  refine PySem.W.callWith_K (h₀ := X.base) I.ok.mod.kin F.kp (thn (pa.run pos pins s σ H (fun vs H1 => vs = [.ref a] ∧ H1 = H) I ⟨_, j.raw i _ hraw, rfl, rfl⟩) fun us s1 ⟨vs, H1, I1, r, e1, e2⟩ => ⟨I1.kIn, ?_⟩) he hpl
  subst e1 e2
  have hl : us.length = 1 := by rw [← r.length]; rfl
  have b1 := hb s1 us I1.kIn (by rw [List.append_nil]; exact hl)
  rw [List.append_nil] at b1
  have P1 := I1.pin (a, oe) (List.mem_append_left _ List.mem_cons_self)
  have hpin : L2H.PinOk X.stack H1 s1 (a, oe) := ⟨P1.1, P1.2.1, fun hm => (List.mem_cons.mp (I1.stkSub a hm)).elim P1.2.2.1 P1.2.2.2.1, P1.2.2.2.2⟩
  refine wpAny_call (codeAny_mono (run_ex (Q := fun v H' => (∃ n, v = .ref n ∧ H1 n = none ∧ H' n = some (.lst (b.map V.bl))) ∧ Same H1 H') F S hr hpin I1.env0 b1 rfl r fun cdv hr' => ?_) fun rr s' hq => ?_)
  · refine ⟨_, (hbody cdv X.A X.stack s1 H1 hr').run ⟨X.K, H1, fun _ => False, [], fun _ => none⟩ (fun _ _ _ _ => False) rfl ⟨rfl, fun _ _ => rfl, rfl, fun _ _ _ z => by cases z⟩ takes0, g0, ⟨fun _ => 0, fun _ => [], fun _ => .non⟩, ?_, ?_⟩
    · unfold L2.start
      rw [hV]
      have get : ∀ {i : Nat} {t : Slot}, (Slot.raw (.ref a) :: List.replicate (N.length - 1) Slot.no)[i]? = some t → t ≠ .no → i = 0 ∧ t = .raw (.ref a) := fun {i t} h n => by
        cases i with
        | zero => exact ⟨rfl, (Option.some.inj h).symm⟩
        | succ i =>
          rw [List.getElem?_cons_succ, List.getElem?_replicate] at h
          split at h
          · exact absurd (Option.some.inj h).symm n
          · cases h
      refine ⟨fun i fr d h => ?_, fun i ds h => ?_, fun i ns h => ?_, fun i v h => ?_, fun i t h => ?_, fun i l ds es h1 h2 e => ?_, fun i ds h => ?_, fun _ z => z.elim, fun _ _ h _ _ => h, fun _ h => h, fun i x a h => (by cases h), fun i ds h => ?_, fun i a h => (by cases h), ⟨fun i t h => ?_, fun i l s t a h => ?_, fun i l ds t h => ?_, fun i t a h => ?_, fun i t a h => ?_, fun i t a h => ?_, fun i t a _ z => (by cases z)⟩, ?_⟩
      · obtain ⟨_, z⟩ := get h (fun z => by cases z); cases z
      · obtain ⟨_, z⟩ := get h (fun z => by cases z); cases z
      · obtain ⟨_, z⟩ := get h (fun z => by cases z); cases z
      · obtain ⟨rfl, z⟩ := get h (fun z => by cases z)
        cases z
        rfl
      · obtain ⟨_, z⟩ := get h (fun z => by cases z); cases z
      · obtain ⟨_, z⟩ := get h1 (fun z => by cases z); cases z
      · obtain ⟨_, z⟩ := get h (fun z => by cases z); cases z
      · obtain ⟨_, z⟩ := get h (fun z => by cases z); cases z
      · obtain ⟨_, z⟩ := get h (fun z => by cases z); cases z
      · obtain ⟨_, z⟩ := get h (fun z => by cases z); cases z
      · obtain ⟨_, z⟩ := get h (fun z => by cases z); cases z
      · obtain ⟨_, z⟩ := get h (fun z => by cases z); cases z
      · obtain ⟨_, z⟩ := get h (fun z => by cases z); cases z
      · obtain ⟨_, z⟩ := get h (fun z => by cases z); cases z
      · simp
    · obtain ⟨g1, e⟩ := hrt
      rw [e]
      intro v H' ⟨B, ro⟩
      refine ⟨?_, fun x o h => ro.frame x o h (fun _ z => by cases z) fun _ _ z => by cases z⟩
      obtain ⟨n, us, ds, rfl, e2, e3, _, e4, e5⟩ := ro.ret
      have e2' : ds = b.map enc := (PyData.list.inj e2).symm
      subst e2'
      exact ⟨n, rfl, e3, by rw [e4, rpA_blsN e5]⟩
  · cases rr with
    | error e => exact hq.elim
    | ok fl =>
      cases fl with
      | ret u =>
        obtain ⟨v, H', I2, rv, ⟨n, rfl, hn, e4⟩, sm⟩ := I1.after hq
        let H3 : Hp := fun x => if x = n then none else H' x
        have up : upd H3 n (.lst (b.map V.bl)) = H' := by
          funext x
          by_cases ex : x = n
          · rw [ex, upd_same, e4]
          · rw [upd_ne ex]
            show (if x = n then none else H' x) = H' x
            rw [if_neg ex]
        have sm3 : Same H1 H3 := fun x o h => by
          show (if x = n then none else H' x) = some o
          rw [if_neg (fun ex => by rw [ex, hn] at h; cases h)]
          exact sm x o h
        have q' := q n (b.map V.bl) H3 (by show (if n = n then none else H' n) = none; rw [if_pos rfl]) (j.same sm3) (.of sm3) (fun _ => sm3) (rpA_blsT b)
        rw [up] at q'
        exact ⟨_, H', I2, rv, q'⟩
      | next => exact False.elim hq
      | brk => exact False.elim hq
      | cont => exact False.elim hq⟩
end
/-- a def that may be called so, of an exception of the class cls: b -/
structure ExCalN (P : Program) (w : World) (K : PySem.W.Frag) (mg : Str → Option Value) (base : Heap) (k : Nat) (x cls : Str) (b : List Bool) : Prop where
  ex : ∃ (qual y : Str) (st : Stmt) (f : Addr) (fd : FuncData) (N : List Str) (j : Nat) (δ : Type) (V0 V1 : Addr → Ev δ) (body : Sc δ (List Bool)) (g0 : δ), k = j + 1 ∧ Fun K x qual st f fd ∧ FnScope N [y] (defScope st) ∧ mg x = some (.ref f) ∧ Binds K fd [y] [] ∧
    (∀ (a : Addr) (oe : Obj) (cdv : Value) (A : Around) (outer : List Env) (s : Shared) (H : Hp), Room j (A.deeper (envOfC qual (defScope st) s.heap.objs.size f cdv)) → ExA (cxOf CXF P w K mg base N qual (defScope st) f cdv A outer s H (fun _ _ _ => False)) cls a oe →
      SB (cxE P w K mg base N qual (defScope st) f cdv A outer s H a oe) { rm := .nw, en := enc, ios := [] } (xfr δ) (V0 a) (V1 a) (defBody st) body) ∧ (∀ a, at_ (V0 a) g0 = .raw (.ref a) :: List.replicate (N.length - 1) .no) ∧ ∃ g1, body g0 = .rt b g1
section
variable {X : Cx} {γ : Type} {Ve : Ev γ} {pos : Pos} {a : Addr} {oe : Obj} {pn : List (Addr × Obj)}
theorem x_exCallN {x cls n : Str} {k : Nat} {p0 p1 : Pos} {b : List Bool} (i : Nat) (hE : ExA X cls a oe) (c : ExCalN X.prog X.w X.K X.mg X.base k x cls b) (hr : Room k X.A)
    (hi : Ve[i]? = some (.raw (.ref a)) := by rfl) (hN : X.N[i]? = some n := by rfl) (hg : Gl X x := by rfl)
    (hv : Vis X.env.scope n := by first | exact Or.inl rfl | exact Or.inr (Or.inl rfl) | exact Or.inr (Or.inr rfl)) (hd : (n == ("__debug__" : Str)) = false := by decide) (hcd : (n == ("__classdict__" : Str)) = false := by decide) (hdb : (x == ("__debug__" : Str)) = false := by decide)
    (he : starEach (.Name n p1 :: []) X.env = (false, eval (.Name n p1) X.env) :: starEach [] X.env := by rfl) (hpl : (backTo pos (starEach [] X.env)).any (·.1) = false := by rfl) :
    SN (X.suite a ((a, oe) :: pn)) Ve true (.Call (.Name x p0) [.Name n p1] [] pos) (pureA fun _ => b) := by
  obtain ⟨qual, y, st, f, fd, N, j, δ, V0, V1, body, g0, rfl, F, S, hmg, hb, hbody, hV, hrt⟩ := c.ex
  exact s_exCallN i g0 F S hr hmg hb (fun cdv A outer s H hr' => hbody a oe cdv A outer s H hr' ⟨hE.ex, hE.fl⟩) (hV a) hrt hi hN hg hv hd hcd hdb he hpl
end
/-! ### suites for the nine -/
theorem XTab.is {K : PySem.W.Frag} {mg : Str → Option Value} (T : XTab K mg) {x y : Str} (hx : x ∈ nine) (hy : y ∈ nine := by decide) : XIs K mg x y (decide (x = y)) := ⟨_, _, T.gl x hx, T.gl y hy, T.ex x hx, T.one x hx y hy⟩
def ct9 (x : Str) : Option Bool := if x ∈ nine then some true else none
theorem ct9_mem {x : Str} (h : ct9 x = some true) : x ∈ nine := by
  unfold ct9 at h
  split at h
  · assumption
  · cases h
theorem ct9_names {X : Cx} (T : XTab X.K X.mg) (hg : Gl X "LineError" := by rfl) : Names X "LineError" (.ref (He.ga X.K "LineError")) := ⟨hg, by decide, .inl T.lg⟩
theorem ct9_one {K : PySem.W.Frag} {mg : Str → Option Value} (T : XTab K mg) : ∀ (z : Str) (b : Bool) (v : Value), ct9 z = some b → mg z = some v → PySem.W.exmOne K v (.ref (He.ga K "LineError")) = some b := fun z b v h m => by
  unfold ct9 at h
  split at h
  · rename_i hz
    cases h
    rw [T.gl z hz] at m
    cases m
    exact T.xm z hz
  · cases h
theorem ct9_ref {K : PySem.W.Frag} {mg : Str → Option Value} (T : XTab K mg) : ∀ (z : Str) (v : Value), ct9 z = some true → mg z = some v → ∃ Cx : Addr, v = .ref Cx := fun z v h m => by
  rw [T.gl z (ct9_mem h)] at m
  cases m
  exact ⟨_, rfl⟩
section
variable {γ β : Type}
theorem q_try9 {f : Sc γ β} {h : Str → Sc γ β} {g : γ} {N : γ → Prop} {R : β → γ → Prop} {X : Str → γ → Prop} : (tryS ct9 f h g).post N R X ↔ (f g).post N R (fun x g1 => x ∈ nine ∧ (h x g1).post N R nX) := by
  unfold tryS
  cases e : f g with
  | bad => exact Iff.rfl
  | nx g1 => exact Iff.rfl
  | rt b g1 => exact Iff.rfl
  | exc x g1 =>
    by_cases hx : x ∈ nine
    · have e9 : ct9 x = some true := if_pos hx
      simp only [e9]
      show _ ↔ (x ∈ nine ∧ (h x g1).post N R nX)
      cases h x g1 with
      | exc y g2 => exact ⟨fun z => z.elim, fun z => z.2.elim⟩
      | _ => exact ⟨fun z => ⟨hx, z⟩, fun z => z.2⟩
    · have e9 : ct9 x = none := if_neg hx
      simp only [e9]
      exact ⟨fun z => z.elim, fun z => hx z.1⟩
theorem o_isX {y : Str} {e : Ex} {Q : Bool → Prop} : opt (isXQ y e) Q ↔ e.name ∈ nine ∧ Q (decide (e.name = y)) := by
  unfold isXQ
  split
  · rename_i h
    exact ⟨fun q => ⟨h, q⟩, fun q => q.2⟩
  · rename_i h
    exact ⟨fun q => q.elim, fun q => (h q.1).elim⟩
theorem o_isL {e : Ex} {Q : Bool → Prop} : opt (isLQ e) Q ↔ e.name ∈ nine ∧ Q true := by
  unfold isLQ
  split
  · rename_i h
    exact ⟨fun q => ⟨h, q⟩, fun q => q.2⟩
  · rename_i h
    exact ⟨fun q => q.elim, fun q => (h q.1).elim⟩
end
end HL
namespace HL
open PySem PySem.Spec PyProof.Rows L2
def topS (i : Nat) : Stmt := PySem.Challenge.pw_halveline_k16_refusals_made.main.body.getD i (.Pass ⟨0, 0, 0, 0⟩)
/-! common -/
structure G_common where
  v_one : Int
  v_other : Int
abbrev V_common_0 : Ev G_common := [.imm true fun g => enc g.v_one, .imm true fun g => enc g.v_other]
abbrev A_common := Int × Int × Unit
def pa_common (a : A_common) : List Par := [.imm true (enc a.1), .imm true (enc a.2.1)]
def in_common (a : A_common) : G_common := { v_one := a.1, v_other := a.2.1 }
def io_common (g : G_common) : Unit := ()
def po_common (y : Unit) : List (Nat × Ob) := []
abbrev C_common : FC G_common Int := { rm := .fr, en := enc, ios := [] }
abbrev b_common : Sc G_common Int :=
      (bindS (setS (fun g a => { g with v_one := a }) (op1 absQ (pureA (fun g : G_common => g.v_one))))
      (bindS (setS (fun g a => { g with v_other := a }) (op1 absQ (pureA (fun g : G_common => g.v_other))))
      (bindS (whileS (op2 gtI (pureA (fun g : G_common => g.v_other)) (pureA fun _ => (0 : Int))) (setS (fun g t => { g with v_one := t.1, v_other := t.2.1 }) (pairA (pureA (fun g : G_common => g.v_other)) (pairA (op2 modI (pureA (fun g : G_common => g.v_one)) (pureA (fun g : G_common => g.v_other))) (pureA fun _ => ())))))
      (retS (pureA (fun g : G_common => g.v_one))))))
def F_common : A_common → FRes Int Unit := finF b_common in_common io_common (none)
abbrev sS_common : Stmt := topS 12
abbrev N_common : List Str := ["one", "other"]
theorem sc_common : FnScope N_common ["one", "other"] (defScope sS_common) := ⟨rfl, rfl, rfl, by decide +kernel, rfl, by decide +kernel, by decide +kernel⟩
abbrev P_common (K : PySem.W.Frag) (mg : Str → Option Value) : Sp := spOf K mg (.fr) pa_common enc po_common F_common
set_option maxHeartbeats 4000000 in
theorem ok_common {P : Program} {w : World} {K : PySem.W.Frag} {mg : Str → Option Value} {base : Heap} {f : Addr} {fd : FuncData} (F : Fun K "common" "common" sS_common f fd) (B : Bi mg) : FnOk P w K mg base (L2.CX P w) 1 f fd ["one", "other"] (P_common K mg) := by
  refine fn_ok F sc_common C_common V_common_0 V_common_0 pa_common in_common io_common po_common (none) (body := b_common) (fun _ => rfl) (fun _ => rfl) (fun _ => rfl) (fun _ => rfl) (by intro b h; cases h) fun cdv A outer s H E hr => ?_
  exact (s_cons (c_set (Ve' := V_common_0) 0 (fun g a => { g with v_one := a }) xfr_ok (s_abs B.abs (svT 0 (fun g : G_common => g.v_one))) (hN := sc_common.nd))
      (s_cons (c_set (Ve' := V_common_0) 1 (fun g a => { g with v_other := a }) xfr_ok (s_abs B.abs (svT 1 (fun g : G_common => g.v_other))) (hN := sc_common.nd))
      (s_cons (c_while (Ve := V_common_0) xfr_ok (passes_of rfl) (t_gt (svT 1 (fun g : G_common => g.v_other)) (si 0)) (s_last (c_par (Ve' := V_common_0) 0 1 (fun g t => { g with v_one := t.1, v_other := t.2.1 }) xfr_ok (a_cons (svT 1 (fun g : G_common => g.v_other)) (a_cons (s_mod (svT 0 (fun g : G_common => g.v_one)) (svT 1 (fun g : G_common => g.v_other))) a_nil)) rfl (hN := sc_common.nd))))
      (s_last (c_ret xfr_ok (svT 0 (fun g : G_common => g.v_one)))))))
/-! through -/
structure G_through where
  v_one : (Int × Int)
  v_other : (Int × Int)
  v_a : Int
  v_b : Int
  v_by : Int
abbrev V_through_0 : Ev G_through := [.imm true fun g => enc g.v_one, .imm true fun g => enc g.v_other, .no, .no, .no]
abbrev V_through_1 : Ev G_through := [.imm true fun g => enc g.v_one, .imm true fun g => enc g.v_other, .imm true fun g => enc g.v_a, .no, .no]
abbrev V_through_2 : Ev G_through := [.imm true fun g => enc g.v_one, .imm true fun g => enc g.v_other, .imm true fun g => enc g.v_a, .imm true fun g => enc g.v_b, .no]
abbrev V_through_3 : Ev G_through := [.imm true fun g => enc g.v_one, .imm true fun g => enc g.v_other, .imm true fun g => enc g.v_a, .imm true fun g => enc g.v_b, .imm true fun g => enc g.v_by]
abbrev A_through := (Int × Int) × (Int × Int) × Unit
def pa_through (a : A_through) : List Par := [.imm true (enc a.1), .imm true (enc a.2.1)]
def in_through (a : A_through) : G_through := { v_one := a.1, v_other := a.2.1, v_a := 0, v_b := 0, v_by := 0 }
def io_through (g : G_through) : Unit := ()
def po_through (y : Unit) : List (Nat × Ob) := []
abbrev C_through : FC G_through (T3 Int Int Int) := { rm := .fr, en := enc, ios := [] }
abbrev b_through : Sc G_through (T3 Int Int Int) :=
      (bindS (ifS (op2 eqQ (pureA (fun g : G_through => g.v_one)) (pureA (fun g : G_through => g.v_other))) (raiseS "NoLine")
      nxS)
      (bindS (setS (fun g a => { g with v_a := a }) (op2 subI (op1 (fun x => some ((fun x : (Int × Int) => x.2) x)) (pureA (fun g : G_through => g.v_other))) (op1 (fun x => some ((fun x : (Int × Int) => x.2) x)) (pureA (fun g : G_through => g.v_one)))))
      (bindS (setS (fun g a => { g with v_b := a }) (op2 subI (op1 (fun x => some ((fun x : (Int × Int) => x.1) x)) (pureA (fun g : G_through => g.v_one))) (op1 (fun x => some ((fun x : (Int × Int) => x.1) x)) (pureA (fun g : G_through => g.v_other)))))
      (bindS (setS (fun g a => { g with v_by := a }) (callA (fun (g : G_through) (t : Int × Int × Unit) => (t.1, t.2.1, ())) F_common (pairA (pureA (fun g : G_through => g.v_a)) (pairA (pureA (fun g : G_through => g.v_b)) (pureA fun _ => ())))))
      (bindS (ifS (orA (op2 ltI (pureA (fun g : G_through => g.v_a)) (pureA fun _ => (0 : Int))) (andA (op2 eqQ (pureA (fun g : G_through => g.v_a)) (pureA fun _ => (0 : Int))) (op2 ltI (pureA (fun g : G_through => g.v_b)) (pureA fun _ => (0 : Int))))) (setS (fun g a => { g with v_by := a }) (op1 negI (pureA (fun g : G_through => g.v_by))))
      nxS)
      (bindS (augS fdivI (fun g : G_through => g.v_a) (fun g l => { g with v_a := l }) (pureA (fun g : G_through => g.v_by)))
      (bindS (augS fdivI (fun g : G_through => g.v_b) (fun g l => { g with v_b := l }) (pureA (fun g : G_through => g.v_by)))
      (retS (op1 (fun t => some ((fun t : Int × Int × Int × Unit => (⟨t.1, t.2.1, t.2.2.1⟩ : (T3 Int Int Int))) t)) (pairA (pureA (fun g : G_through => g.v_a)) (pairA (pureA (fun g : G_through => g.v_b)) (pairA (op2 addI (op2 mulI (pureA (fun g : G_through => g.v_a)) (op1 (fun x => some ((fun x : (Int × Int) => x.1) x)) (pureA (fun g : G_through => g.v_one)))) (op2 mulI (pureA (fun g : G_through => g.v_b)) (op1 (fun x => some ((fun x : (Int × Int) => x.2) x)) (pureA (fun g : G_through => g.v_one))))) (pureA fun _ => ())))))))))))))
def F_through : A_through → FRes (T3 Int Int Int) Unit := finF b_through in_through io_through (none)
abbrev sS_through : Stmt := topS 13
abbrev N_through : List Str := ["one", "other", "a", "b", "by"]
theorem sc_through : FnScope N_through ["one", "other"] (defScope sS_through) := ⟨rfl, rfl, rfl, by decide +kernel, rfl, by decide +kernel, by decide +kernel⟩
abbrev P_through (K : PySem.W.Frag) (mg : Str → Option Value) : Sp := spOf K mg (.fr) pa_through enc po_through F_through
set_option maxHeartbeats 4000000 in
theorem ok_through {P : Program} {w : World} {K : PySem.W.Frag} {mg : Str → Option Value} {base : Heap} {f : Addr} {fd : FuncData} (F : Fun K "through" "through" sS_through f fd) (B : Bi mg) (c_common : Cal P w K mg base 1 "common" ["one", "other"] (P_common K mg)) (XC_NoLine : XCls K mg "NoLine") : FnOk P w K mg base (L2.CX P w) 2 f fd ["one", "other"] (P_through K mg) := by
  refine fn_ok F sc_through C_through V_through_0 V_through_0 pa_through in_through io_through po_through (none) (body := b_through) (fun _ => rfl) (fun _ => rfl) (fun _ => rfl) (fun _ => rfl) (by intro b h; cases h) fun cdv A outer s H E hr => ?_
  exact (s_cons (c_if (Ve' := V_through_0) xfr_ok (t_eq hr.units (svT 0 (fun g : G_through => g.v_one)) (svT 1 (fun g : G_through => g.v_other))) (s_last (x_raise xfr_ok rfl XC_NoLine))
      s_nil)
      (s_cons (c_set (Ve' := V_through_1) 2 (fun g a => { g with v_a := a }) xfr_ok (s_sub (s_pr 1 (fun x : (Int × Int) => x.2) (svT 1 (fun g : G_through => g.v_other))) (s_pr 1 (fun x : (Int × Int) => x.2) (svT 0 (fun g : G_through => g.v_one)))) (hN := sc_through.nd))
      (s_cons (c_set (Ve' := V_through_2) 3 (fun g a => { g with v_b := a }) xfr_ok (s_sub (s_pr 0 (fun x : (Int × Int) => x.1) (svT 0 (fun g : G_through => g.v_one))) (s_pr 0 (fun x : (Int × Int) => x.1) (svT 1 (fun g : G_through => g.v_other)))) (hN := sc_through.nd))
      (s_cons (c_set (Ve' := V_through_3) 4 (fun g a => { g with v_by := a }) xfr_ok (x_call (bs := []) (fun (g : G_through) (t : Int × Int × Unit) => (t.1, t.2.1, ())) c_common hr (a_cons (svT 2 (fun g : G_through => g.v_a)) (a_cons (svT 3 (fun g : G_through => g.v_b)) a_nil)) (by exact fun _ _ => ⟨⟨rfl, fun _ => Flat.flat _⟩, ⟨rfl, fun _ => Flat.flat _⟩, trivial⟩)) (hN := sc_through.nd))
      (s_cons (c_if (Ve' := V_through_3) xfr_ok (SW.t (w_or (t_lt (svT 2 (fun g : G_through => g.v_a)) (si 0)) (w_or1 (SW.t (w_and (t_eq hr.units (svT 2 (fun g : G_through => g.v_a)) (si 0)) (w_and1 (t_lt (svT 3 (fun g : G_through => g.v_b)) (si 0)))))))) (s_last (c_set (Ve' := V_through_3) 4 (fun g a => { g with v_by := a }) xfr_ok (s_neg (svT 4 (fun g : G_through => g.v_by))) (hN := sc_through.nd)))
      s_nil)
      (s_cons (c_augDiv 2 (fun g : G_through => g.v_a) (fun g l => { g with v_a := l }) xfr_ok (svT 4 (fun g : G_through => g.v_by)) sc_through.nd)
      (s_cons (c_augDiv 3 (fun g : G_through => g.v_b) (fun g l => { g with v_b := l }) xfr_ok (svT 4 (fun g : G_through => g.v_by)) sc_through.nd)
      (s_last (c_ret xfr_ok (s_tup (fun t : Int × Int × Int × Unit => (⟨t.1, t.2.1, t.2.2.1⟩ : (T3 Int Int Int))) true (a_cons (svT 2 (fun g : G_through => g.v_a)) (a_cons (svT 3 (fun g : G_through => g.v_b)) (a_cons (s_add (s_mul (svT 2 (fun g : G_through => g.v_a)) (s_pr 0 (fun x : (Int × Int) => x.1) (svT 0 (fun g : G_through => g.v_one)))) (s_mul (svT 3 (fun g : G_through => g.v_b)) (s_pr 1 (fun x : (Int × Int) => x.2) (svT 0 (fun g : G_through => g.v_one))))) a_nil)))))))))))))
/-! _law_pot -/
structure G_l_pot where
  v_script : List Int
  v_k : Int
  v_cell : Int
abbrev V_l_pot_0 : Ev G_l_pot := [.scr fun g => g.v_script, .imm true fun g => enc g.v_k, .imm true fun g => enc g.v_cell]
abbrev V_l_pot_1 : Ev G_l_pot := [.scr fun g => g.v_script, .imm true fun g => enc g.v_k, .no]
abbrev A_l_pot := List Int × Int × Unit
def pa_l_pot (a : A_l_pot) : List Par := [.scr a.1, .imm true (enc a.2.1)]
def in_l_pot (a : A_l_pot) : G_l_pot := { v_script := a.1, v_k := a.2.1, v_cell := 0 }
def io_l_pot (g : G_l_pot) : Unit := ()
def po_l_pot (y : Unit) : List (Nat × Ob) := []
abbrev C_l_pot : FC G_l_pot (List Int) := { rm := .nw, en := enc, ios := [] }
abbrev b_l_pot : Sc G_l_pot (List Int) :=
      (bindS (setS (fun g a => { g with v_cell := a }) (pureA fun _ => (0 : Int)))
      (bindS (ifS (op2 ltI (pureA (fun g : G_l_pot => g.v_k)) (pureA fun g : G_l_pot => (g.v_script.length : Int))) (setS (fun g a => { g with v_cell := a }) (bindA (pureA (fun g : G_l_pot => g.v_k)) fun k => scrOp (fun g : G_l_pot => g.v_script) fun l => atI l k))
      nxS)
      (retS (op1 (fun t => some ((fun t : Int × Int × Unit => ([t.1, t.2.1] : List Int)) t)) (pairA (op2 max2Q (pureA fun _ => (0 : Int)) (op2 subI (pureA (fun g : G_l_pot => g.v_cell)) (op2 powI (pureA fun _ => (10 : Int)) (pureA fun _ => (18 : Int))))) (pairA (op2 addI (op2 modI (op2 addI (op2 addI (op1 absQ (pureA (fun g : G_l_pot => g.v_cell))) (op2 mulI (pureA fun _ => (7919 : Int)) (pureA (fun g : G_l_pot => g.v_k)))) (pureA fun _ => (17 : Int))) (pureA fun _ => (2147483629 : Int))) (pureA fun _ => (1 : Int))) (pureA fun _ => ())))))))
def F_l_pot : A_l_pot → FRes (List Int) Unit := finF b_l_pot in_l_pot io_l_pot (none)
abbrev sS_l_pot : Stmt := topS 15
abbrev N_l_pot : List Str := ["_law_script", "_law_k", "_law_cell"]
theorem sc_l_pot : FnScope N_l_pot ["_law_script", "_law_k"] (defScope sS_l_pot) := ⟨rfl, rfl, rfl, by decide +kernel, rfl, by decide +kernel, by decide +kernel⟩
abbrev P_l_pot (K : PySem.W.Frag) (mg : Str → Option Value) : Sp := spOf K mg (.nw) pa_l_pot enc po_l_pot F_l_pot
set_option maxHeartbeats 4000000 in
theorem ok_l_pot {P : Program} {w : World} {K : PySem.W.Frag} {mg : Str → Option Value} {base : Heap} {f : Addr} {fd : FuncData} (F : Fun K "_law_pot" "_law_pot" sS_l_pot f fd) (B : Bi mg) : FnOk P w K mg base (L2.CX P w) 1 f fd ["_law_script", "_law_k"] (P_l_pot K mg) := by
  refine fn_ok F sc_l_pot C_l_pot V_l_pot_1 V_l_pot_1 pa_l_pot in_l_pot io_l_pot po_l_pot (none) (body := b_l_pot) (fun _ => rfl) (fun _ => rfl) (fun _ => rfl) (fun _ => rfl) (by intro b h; cases h) fun cdv A outer s H E hr => ?_
  exact (s_cons (c_set (Ve' := V_l_pot_0) 2 (fun g a => { g with v_cell := a }) xfr_ok (si 0) (hN := sc_l_pot.nd))
      (s_cons (c_if (Ve' := V_l_pot_0) xfr_ok (t_lt (svT 1 (fun g : G_l_pot => g.v_k)) (s_lenS 0 (fun g : G_l_pot => g.v_script) B.len)) (s_last (c_set (Ve' := V_l_pot_0) 2 (fun g a => { g with v_cell := a }) xfr_ok (s_ixS 0 (fun g : G_l_pot => g.v_script) (svT 1 (fun g : G_l_pot => g.v_k))) (hN := sc_l_pot.nd)))
      s_nil)
      (s_last (c_retN xfr_ok (s_lst (fun t : Int × Int × Unit => ([t.1, t.2.1] : List Int)) (a_cons (s_max2 rfl B.max (si 0) (s_sub (svT 2 (fun g : G_l_pot => g.v_cell)) (s_pow (si 10) (si 18)))) (a_cons (s_add (s_mod (s_add (s_add (s_abs B.abs (svT 2 (fun g : G_l_pot => g.v_cell))) (s_mul (si 7919) (svT 1 (fun g : G_l_pot => g.v_k)))) (si 17)) (si 2147483629)) (si 1)) a_nil)))))))
/-! _law_draw -/
structure G_l_draw where
  v_pot_here : (List Int)
  v_many : Int
  v_digit : Int
abbrev V_l_draw_0 : Ev G_l_draw := [.own fun g => g.v_pot_here.map enc, .imm true fun g => enc g.v_many, .imm true fun g => enc g.v_digit]
abbrev V_l_draw_1 : Ev G_l_draw := [.own fun g => g.v_pot_here.map enc, .imm true fun g => enc g.v_many, .no]
abbrev A_l_draw := (List Int) × Int × Unit
def pa_l_draw (a : A_l_draw) : List Par := [.ino (a.1.map enc), .imm true (enc a.2.1)]
def in_l_draw (a : A_l_draw) : G_l_draw := { v_pot_here := a.1, v_many := a.2.1, v_digit := 0 }
def io_l_draw (g : G_l_draw) : (List Int) := (g.v_pot_here)
def po_l_draw (y : (List Int)) : List (Nat × Ob) := [(0, y.map enc)]
abbrev C_l_draw : FC G_l_draw Int := { rm := .fr, en := enc, ios := [(0, fun g => g.v_pot_here.map enc)] }
abbrev b_l_draw : Sc G_l_draw Int :=
      (bindS (ifS (op2 gtI (op2 atI (pureA (fun g : G_l_draw => g.v_pot_here)) (pureA fun _ => (0 : Int))) (pureA fun _ => (0 : Int))) (bindS (sixNameS (fun g : G_l_draw => g.v_pot_here) (fun g l => { g with v_pot_here := l }) 0 (fun g a => { g with v_digit := a }) (op2 divmodQ (op2 atI (pureA (fun g : G_l_draw => g.v_pot_here)) (pureA fun _ => (0 : Int))) (pureA (fun g : G_l_draw => g.v_many))))
      (retS (pureA (fun g : G_l_draw => g.v_digit))))
      nxS)
      (bindS (sixS (fun g : G_l_draw => g.v_pot_here) (fun g l => { g with v_pot_here := l }) (op2 modI (op2 addI (op2 mulI (op2 atI (pureA (fun g : G_l_draw => g.v_pot_here)) (pureA fun _ => (1 : Int))) (pureA fun _ => (48271 : Int))) (pureA fun _ => (11 : Int))) (pureA fun _ => (2147483647 : Int))) (pureA fun _ => (1 : Int)))
      (retS (op2 modI (op2 fdivI (op2 modI (op2 mulI (op2 atI (pureA (fun g : G_l_draw => g.v_pot_here)) (pureA fun _ => (1 : Int))) (op2 atI (pureA (fun g : G_l_draw => g.v_pot_here)) (pureA fun _ => (1 : Int)))) (pureA fun _ => (2147483629 : Int))) (pureA fun _ => (3 : Int))) (pureA (fun g : G_l_draw => g.v_many))))))
def F_l_draw : A_l_draw → FRes Int ((List Int)) := finF b_l_draw in_l_draw io_l_draw (none)
abbrev sS_l_draw : Stmt := topS 16
abbrev N_l_draw : List Str := ["_law_pot_here", "_law_many", "_law_digit"]
theorem sc_l_draw : FnScope N_l_draw ["_law_pot_here", "_law_many"] (defScope sS_l_draw) := ⟨rfl, rfl, rfl, by decide +kernel, rfl, by decide +kernel, by decide +kernel⟩
abbrev P_l_draw (K : PySem.W.Frag) (mg : Str → Option Value) : Sp := spOf K mg (.fr) pa_l_draw enc po_l_draw F_l_draw
set_option maxHeartbeats 4000000 in
theorem ok_l_draw {P : Program} {w : World} {K : PySem.W.Frag} {mg : Str → Option Value} {base : Heap} {f : Addr} {fd : FuncData} (F : Fun K "_law_draw" "_law_draw" sS_l_draw f fd) (B : Bi mg) : FnOk P w K mg base (L2.CX P w) 1 f fd ["_law_pot_here", "_law_many"] (P_l_draw K mg) := by
  refine fn_ok F sc_l_draw C_l_draw V_l_draw_1 V_l_draw_1 pa_l_draw in_l_draw io_l_draw po_l_draw (none) (body := b_l_draw) (fun _ => rfl) (fun _ => rfl) (fun _ => rfl) (fun _ => rfl) (by intro b h; cases h) fun cdv A outer s H E hr => ?_
  exact (s_cons (c_if (Ve' := V_l_draw_1) xfr_ok (t_gt (s_ix (so 0 (fun g : G_l_draw => g.v_pot_here)) (si 0)) (si 0)) (s_cons (c_sixName (Ve' := V_l_draw_0) 0 2 (fun g : G_l_draw => g.v_pot_here) (fun g l => { g with v_pot_here := l }) 0 (fun g a => { g with v_digit := a }) xfr_ok rfl (s_divmod B.divmod (s_ix (so 0 (fun g : G_l_draw => g.v_pot_here)) (si 0)) (svT 1 (fun g : G_l_draw => g.v_many))) sc_l_draw.nd)
      (s_last (c_ret xfr_ok (svT 2 (fun g : G_l_draw => g.v_digit)))))
      s_nil)
      (s_cons (c_six 0 (fun g : G_l_draw => g.v_pot_here) (fun g l => { g with v_pot_here := l }) xfr_ok (s_mod (s_add (s_mul (s_ix (so 0 (fun g : G_l_draw => g.v_pot_here)) (si 1)) (si 48271)) (si 11)) (si 2147483647)) (si 1))
      (s_last (c_ret xfr_ok (s_mod (s_fdiv (s_mod (s_mul (s_ix (so 0 (fun g : G_l_draw => g.v_pot_here)) (si 1)) (s_ix (so 0 (fun g : G_l_draw => g.v_pot_here)) (si 1))) (si 2147483629)) (si 3)) (svT 1 (fun g : G_l_draw => g.v_many)))))))
/-! _law_text -/
structure G_l_text where
  v_pot_here : (List Int)
  v_signs : Str
  v_k : Int
abbrev V_l_text_0 : Ev G_l_text := [.own fun g => g.v_pot_here.map enc, .imm true fun g => enc g.v_signs, .no]
abbrev V_l_text_1 : Ev G_l_text := [.own fun g => g.v_pot_here.map enc, .imm true fun g => enc g.v_signs, .imm true fun g => enc g.v_k]
abbrev V_l_text_2 : Ev G_l_text := [.own fun g => g.v_pot_here.map enc, .no, .no]
abbrev A_l_text := (List Int) × Unit
def pa_l_text (a : A_l_text) : List Par := [.ino (a.1.map enc)]
def in_l_text (a : A_l_text) : G_l_text := { v_pot_here := a.1, v_signs := "", v_k := 0 }
def io_l_text (g : G_l_text) : (List Int) := (g.v_pot_here)
def po_l_text (y : (List Int)) : List (Nat × Ob) := [(0, y.map enc)]
abbrev C_l_text : FC G_l_text Str := { rm := .fr, en := enc, ios := [(0, fun g => g.v_pot_here.map enc)] }
abbrev b_l_text : Sc G_l_text Str :=
      (bindS (setS (fun g a => { g with v_signs := a }) (pureA fun _ => ("abcdefghijklmnopqrstuvwxyz BZ,.-0123456789" : Str)))
      (retS (op2 joinQ (pureA fun _ => ("" : Str)) (compA (op1 rng1 (callIo (fun (g : G_l_text) (t : Int × Unit) => (g.v_pot_here, t.1, ())) (fun (g : G_l_text) y => { g with v_pot_here := y }) F_l_draw (pairA (pureA fun _ => (31 : Int)) (pureA fun _ => ())))) (fun (g : G_l_text) (a : Int) => { g with v_k := a }) yesA (op2 atSQ (pureA (fun g : G_l_text => g.v_signs)) (callIo (fun (g : G_l_text) (t : Int × Unit) => (g.v_pot_here, t.1, ())) (fun (g : G_l_text) y => { g with v_pot_here := y }) F_l_draw (pairA (op1 lenSQ (pureA (fun g : G_l_text => g.v_signs))) (pureA fun _ => ()))))))))
def F_l_text : A_l_text → FRes Str ((List Int)) := finF b_l_text in_l_text io_l_text (none)
abbrev sS_l_text : Stmt := topS 17
abbrev N_l_text : List Str := ["_law_pot_here", "_law_signs", "_law_k"]
theorem sc_l_text : FnScope N_l_text ["_law_pot_here"] (defScope sS_l_text) := ⟨rfl, rfl, rfl, by decide +kernel, rfl, by decide +kernel, by decide +kernel⟩
abbrev P_l_text (K : PySem.W.Frag) (mg : Str → Option Value) : Sp := spOf K mg (.fr) pa_l_text enc po_l_text F_l_text
set_option maxHeartbeats 4000000 in
theorem ok_l_text {P : Program} {w : World} {K : PySem.W.Frag} {mg : Str → Option Value} {base : Heap} {f : Addr} {fd : FuncData} (F : Fun K "_law_text" "_law_text" sS_l_text f fd) (B : Bi mg) (c_l_draw : Cal P w K mg base 1 "_law_draw" ["_law_pot_here", "_law_many"] (P_l_draw K mg)) : FnOk P w K mg base (L2.CX P w) 2 f fd ["_law_pot_here"] (P_l_text K mg) := by
  refine fn_ok F sc_l_text C_l_text V_l_text_2 V_l_text_2 pa_l_text in_l_text io_l_text po_l_text (none) (body := b_l_text) (fun _ => rfl) (fun _ => rfl) (fun _ => rfl) (fun _ => rfl) (by intro b h; cases h) fun cdv A outer s H E hr => ?_
  exact (s_cons (c_set (Ve' := V_l_text_0) 1 (fun g a => { g with v_signs := a }) xfr_ok (ss "abcdefghijklmnopqrstuvwxyz BZ,.-0123456789") (hN := sc_l_text.nd))
      (s_last (c_ret xfr_ok (s_join (ss "") (SN.se (s_lc (α := Int) (set := (fun (g : G_l_text) (a : Int) => { g with v_k := a })) (ok := blkOk_by (N := N_l_text) (sc := defScope sS_l_text) (by decide +kernel)) [("_law_k", 2)] V_l_text_1  rfl sc_l_text.nd (i_rng1 B.range (x_callIo (bs := []) (fun (g : G_l_text) (t : Int × Unit) => (g.v_pot_here, t.1, ())) (fun (g : G_l_text) y => { g with v_pot_here := y }) 0 0 (fun y => y.map enc) c_l_draw hr (a_slot 0 (a_cons (si 31) a_nil)) (by exact fun _ _ => ⟨⟨rfl, _, rfl, .ls _ (flatA_map _)⟩, ⟨rfl, fun _ => Flat.flat _⟩, trivial⟩))) (fun _ _ _ _ _ => (g_name (Ve' := V_l_text_1) 2 (fun (g : G_l_text) (a : Int) => { g with v_k := a }) (hN := sc_l_text.nd))) (fun _ _ _ _ _ => ts_nil) (fun _ _ _ _ _ => (s_ixStr (svT 1 (fun g : G_l_text => g.v_signs)) (x_callIo (bs := []) (fun (g : G_l_text) (t : Int × Unit) => (g.v_pot_here, t.1, ())) (fun (g : G_l_text) y => { g with v_pot_here := y }) 0 0 (fun y => y.map enc) c_l_draw hr (a_slot 0 (a_cons (s_lenStr B.len (svT 1 (fun g : G_l_text => g.v_signs))) a_nil)) (by exact fun _ _ => ⟨⟨rfl, _, rfl, .ls _ (flatA_map _)⟩, ⟨rfl, fun _ => Flat.flat _⟩, trivial⟩))))))))))
/-! _law_kinds -/
structure G_l_kinds_w where
  v_kinds_here : (List Bool)
abbrev V_l_kinds_w_0 : Ev G_l_kinds_w := [.no, .imm true fun g => enc g.v_kinds_here]
abbrev V_l_kinds_w_1 : Ev G_l_kinds_w := [.no, .no]
abbrev g0_l_kinds_w : G_l_kinds_w := { v_kinds_here := [] }
abbrev b_l_kinds_w (x : Str) : Sc G_l_kinds_w (List Bool) :=
      (bindS (setS (fun g a => { g with v_kinds_here := a }) (op1 (fun t => some ((fun t : Bool × Bool × Bool × Bool × Unit => ([t.1, t.2.1, t.2.2.1, t.2.2.2.1] : List Bool)) t)) (pairA (pureA fun _ => decide (x = "NoLine")) (pairA (pureA fun _ => decide (x = "Empty")) (pairA (pureA fun _ => decide (x = "NoText")) (pairA (pureA fun _ => decide (x = "NoFlat")) (pureA fun _ => ())))))))
      (bindS (setS (fun g a => { g with v_kinds_here := a }) (op2 catQ (pureA (fun g : G_l_kinds_w => g.v_kinds_here)) (op1 (fun t => some ((fun t : Bool × Bool × Bool × Bool × Unit => ([t.1, t.2.1, t.2.2.1, t.2.2.2.1] : List Bool)) t)) (pairA (pureA fun _ => decide (x = "NoShare")) (pairA (pureA fun _ => decide (x = "NoRows")) (pairA (pureA fun _ => decide (x = "Lacking")) (pairA (pureA fun _ => decide (x = "NoRow")) (pureA fun _ => ()))))))))
      (retS (op2 catQ (pureA (fun g : G_l_kinds_w => g.v_kinds_here)) (op1 (fun t => some ((fun t : Bool × Unit => ([t.1] : List Bool)) t)) (pairA (pureA fun _ => decide (x = "NoName")) (pureA fun _ => ())))))))
abbrev sS_l_kinds_w : Stmt := topS 18
abbrev N_l_kinds_w : List Str := ["_law_e", "_law_kinds_here"]
def R_l_kinds_w (x : Str) : (List Bool) := match b_l_kinds_w x g0_l_kinds_w with | .rt b _ => b | _ => []
theorem sc_l_kinds_w : FnScope N_l_kinds_w ["_law_e"] (defScope sS_l_kinds_w) := ⟨rfl, rfl, rfl, by decide +kernel, rfl, by decide +kernel, by decide +kernel⟩
set_option maxHeartbeats 4000000 in
theorem ok_l_kinds_w {P : Program} {w : World} {K : PySem.W.Frag} {mg : Str → Option Value} {base : Heap} {f : Addr} {fd : FuncData} (F : Fun K "_law_kinds" "_law_kinds" sS_l_kinds_w f fd) (B : Bi mg) (XTAB : XTab K mg) (hmg : mg "_law_kinds" = some (.ref f)) (hb : Binds K fd ["_law_e"] []) : ∀ x ∈ nine, ExCalN P w K mg base 1 "_law_kinds" x (R_l_kinds_w x) := fun x hx9 =>
  ⟨"_law_kinds", "_law_e", sS_l_kinds_w, f, fd, N_l_kinds_w, 0, G_l_kinds_w, fun a => (V_l_kinds_w_1.set 0 (.raw (.ref a))), fun a => (V_l_kinds_w_1.set 0 (.raw (.ref a))), b_l_kinds_w x, g0_l_kinds_w, rfl, F, sc_l_kinds_w, hmg, hb, fun a oe cdv A outer s H hr hE => (s_cons (c_set (Ve' := (V_l_kinds_w_0.set 0 (.raw (.ref a)))) 1 (fun g a => { g with v_kinds_here := a }) xfr_ok (SN.se (s_lst (fun t : Bool × Bool × Bool × Bool × Unit => ([t.1, t.2.1, t.2.2.1, t.2.2.2.1] : List Bool)) (a_cons (s_isE 0 hE (XTAB.is hx9) B.isinstance) (a_cons (s_isE 0 hE (XTAB.is hx9) B.isinstance) (a_cons (s_isE 0 hE (XTAB.is hx9) B.isinstance) (a_cons (s_isE 0 hE (XTAB.is hx9) B.isinstance) a_nil)))))) (hN := sc_l_kinds_w.nd))
      (s_cons (c_set (Ve' := (V_l_kinds_w_0.set 0 (.raw (.ref a)))) 1 (fun g a => { g with v_kinds_here := a }) xfr_ok (SN.se (s_cat (svT 1 (fun g : G_l_kinds_w => g.v_kinds_here)) (SN.se (s_lst (fun t : Bool × Bool × Bool × Bool × Unit => ([t.1, t.2.1, t.2.2.1, t.2.2.2.1] : List Bool)) (a_cons (s_isE 0 hE (XTAB.is hx9) B.isinstance) (a_cons (s_isE 0 hE (XTAB.is hx9) B.isinstance) (a_cons (s_isE 0 hE (XTAB.is hx9) B.isinstance) (a_cons (s_isE 0 hE (XTAB.is hx9) B.isinstance) a_nil)))))))) (hN := sc_l_kinds_w.nd))
      (s_last (c_retN xfr_ok (s_cat (svT 1 (fun g : G_l_kinds_w => g.v_kinds_here)) (SN.se (s_lst (fun t : Bool × Unit => ([t.1] : List Bool)) (a_cons (s_isE 0 hE (XTAB.is hx9) B.isinstance) a_nil)))))))), fun a => rfl, ⟨_, rfl⟩⟩
/-! _law_kinds -/
structure G_l_kinds_data where
  v_e : Ex
  v_kinds_here : (List Bool)
abbrev V_l_kinds_data_0 : Ev G_l_kinds_data := [.imm false fun g => enc g.v_e, .imm true fun g => enc g.v_kinds_here]
abbrev V_l_kinds_data_1 : Ev G_l_kinds_data := [.imm false fun g => enc g.v_e, .no]
abbrev A_l_kinds_data := Ex × Unit
def pa_l_kinds_data (a : A_l_kinds_data) : List Par := [.imm false (enc a.1)]
def in_l_kinds_data (a : A_l_kinds_data) : G_l_kinds_data := { v_e := a.1, v_kinds_here := [] }
def io_l_kinds_data (g : G_l_kinds_data) : Unit := ()
def po_l_kinds_data (y : Unit) : List (Nat × Ob) := []
abbrev C_l_kinds_data : FC G_l_kinds_data (List Bool) := { rm := .nw, en := enc, ios := [] }
abbrev b_l_kinds_data : Sc G_l_kinds_data (List Bool) :=
      (bindS (setS (fun g a => { g with v_kinds_here := a }) (op1 (fun t => some ((fun t : Bool × Bool × Bool × Bool × Unit => ([t.1, t.2.1, t.2.2.1, t.2.2.2.1] : List Bool)) t)) (pairA (op1 (isXQ "NoLine") (pureA (fun g : G_l_kinds_data => g.v_e))) (pairA (op1 (isXQ "Empty") (pureA (fun g : G_l_kinds_data => g.v_e))) (pairA (op1 (isXQ "NoText") (pureA (fun g : G_l_kinds_data => g.v_e))) (pairA (op1 (isXQ "NoFlat") (pureA (fun g : G_l_kinds_data => g.v_e))) (pureA fun _ => ())))))))
      (bindS (setS (fun g a => { g with v_kinds_here := a }) (op2 catQ (pureA (fun g : G_l_kinds_data => g.v_kinds_here)) (op1 (fun t => some ((fun t : Bool × Bool × Bool × Bool × Unit => ([t.1, t.2.1, t.2.2.1, t.2.2.2.1] : List Bool)) t)) (pairA (op1 (isXQ "NoShare") (pureA (fun g : G_l_kinds_data => g.v_e))) (pairA (op1 (isXQ "NoRows") (pureA (fun g : G_l_kinds_data => g.v_e))) (pairA (op1 (isXQ "Lacking") (pureA (fun g : G_l_kinds_data => g.v_e))) (pairA (op1 (isXQ "NoRow") (pureA (fun g : G_l_kinds_data => g.v_e))) (pureA fun _ => ()))))))))
      (retS (op2 catQ (pureA (fun g : G_l_kinds_data => g.v_kinds_here)) (op1 (fun t => some ((fun t : Bool × Unit => ([t.1] : List Bool)) t)) (pairA (op1 (isXQ "NoName") (pureA (fun g : G_l_kinds_data => g.v_e))) (pureA fun _ => ())))))))
def F_l_kinds_data : A_l_kinds_data → FRes (List Bool) Unit := finF b_l_kinds_data in_l_kinds_data io_l_kinds_data (none)
abbrev sS_l_kinds_data : Stmt := topS 18
abbrev N_l_kinds_data : List Str := ["_law_e", "_law_kinds_here"]
theorem sc_l_kinds_data : FnScope N_l_kinds_data ["_law_e"] (defScope sS_l_kinds_data) := ⟨rfl, rfl, rfl, by decide +kernel, rfl, by decide +kernel, by decide +kernel⟩
abbrev P_l_kinds_data (K : PySem.W.Frag) (mg : Str → Option Value) : Sp := spOf K mg (.nw) pa_l_kinds_data enc po_l_kinds_data F_l_kinds_data
set_option maxHeartbeats 4000000 in
theorem ok_l_kinds_data {P : Program} {w : World} {K : PySem.W.Frag} {mg : Str → Option Value} {base : Heap} {f : Addr} {fd : FuncData} (F : Fun K "_law_kinds" "_law_kinds" sS_l_kinds_data f fd) (B : Bi mg) (XTAB : XTab K mg) : FnOk P w K mg base (L2.CX P w) 1 f fd ["_law_e"] (P_l_kinds_data K mg) := by
  refine fn_ok F sc_l_kinds_data C_l_kinds_data V_l_kinds_data_1 V_l_kinds_data_1 pa_l_kinds_data in_l_kinds_data io_l_kinds_data po_l_kinds_data (none) (body := b_l_kinds_data) (fun _ => rfl) (fun _ => rfl) (fun _ => rfl) (fun _ => rfl) (by intro b h; cases h) fun cdv A outer s H E hr => ?_
  exact (s_cons (c_set (Ve' := V_l_kinds_data_0) 1 (fun g a => { g with v_kinds_here := a }) xfr_ok (SN.se (s_lst (fun t : Bool × Bool × Bool × Bool × Unit => ([t.1, t.2.1, t.2.2.1, t.2.2.2.1] : List Bool)) (a_cons (s_isX XTAB (svF 0 (fun g : G_l_kinds_data => g.v_e)) B.isinstance) (a_cons (s_isX XTAB (svF 0 (fun g : G_l_kinds_data => g.v_e)) B.isinstance) (a_cons (s_isX XTAB (svF 0 (fun g : G_l_kinds_data => g.v_e)) B.isinstance) (a_cons (s_isX XTAB (svF 0 (fun g : G_l_kinds_data => g.v_e)) B.isinstance) a_nil)))))) (hN := sc_l_kinds_data.nd))
      (s_cons (c_set (Ve' := V_l_kinds_data_0) 1 (fun g a => { g with v_kinds_here := a }) xfr_ok (SN.se (s_cat (svT 1 (fun g : G_l_kinds_data => g.v_kinds_here)) (SN.se (s_lst (fun t : Bool × Bool × Bool × Bool × Unit => ([t.1, t.2.1, t.2.2.1, t.2.2.2.1] : List Bool)) (a_cons (s_isX XTAB (svF 0 (fun g : G_l_kinds_data => g.v_e)) B.isinstance) (a_cons (s_isX XTAB (svF 0 (fun g : G_l_kinds_data => g.v_e)) B.isinstance) (a_cons (s_isX XTAB (svF 0 (fun g : G_l_kinds_data => g.v_e)) B.isinstance) (a_cons (s_isX XTAB (svF 0 (fun g : G_l_kinds_data => g.v_e)) B.isinstance) a_nil)))))))) (hN := sc_l_kinds_data.nd))
      (s_last (c_retN xfr_ok (s_cat (svT 1 (fun g : G_l_kinds_data => g.v_kinds_here)) (SN.se (s_lst (fun t : Bool × Unit => ([t.1] : List Bool)) (a_cons (s_isX XTAB (svF 0 (fun g : G_l_kinds_data => g.v_e)) B.isinstance) a_nil))))))))
/-! _law_raise -/
structure G_l_raise where
  v_k : Int
  v_told : Str
abbrev V_l_raise_0 : Ev G_l_raise := [.imm true fun g => enc g.v_k, .imm true fun g => enc g.v_told]
abbrev A_l_raise := Int × Str × Unit
def pa_l_raise (a : A_l_raise) : List Par := [.imm true (enc a.1), .imm true (enc a.2.1)]
def in_l_raise (a : A_l_raise) : G_l_raise := { v_k := a.1, v_told := a.2.1 }
def io_l_raise (g : G_l_raise) : Unit := ()
def po_l_raise (y : Unit) : List (Nat × Ob) := []
abbrev C_l_raise : FC G_l_raise Unit := { rm := .fr, en := enc, ios := [] }
abbrev b_l_raise : Sc G_l_raise Unit :=
      (bindS (ifS (op2 eqQ (pureA (fun g : G_l_raise => g.v_k)) (pureA fun _ => (0 : Int))) (raiseS "NoLine")
      nxS)
      (bindS (ifS (op2 eqQ (pureA (fun g : G_l_raise => g.v_k)) (pureA fun _ => (1 : Int))) (raiseS "Empty")
      nxS)
      (bindS (ifS (op2 eqQ (pureA (fun g : G_l_raise => g.v_k)) (pureA fun _ => (2 : Int))) (raiseS "NoText")
      nxS)
      (bindS (ifS (op2 eqQ (pureA (fun g : G_l_raise => g.v_k)) (pureA fun _ => (3 : Int))) (raiseS "NoFlat")
      nxS)
      (bindS (ifS (op2 eqQ (pureA (fun g : G_l_raise => g.v_k)) (pureA fun _ => (4 : Int))) (raiseS "NoShare")
      nxS)
      (bindS (ifS (op2 eqQ (pureA (fun g : G_l_raise => g.v_k)) (pureA fun _ => (5 : Int))) (raiseS "NoRows")
      nxS)
      (bindS (ifS (op2 eqQ (pureA (fun g : G_l_raise => g.v_k)) (pureA fun _ => (6 : Int))) (raiseS "Lacking")
      nxS)
      (bindS (ifS (op2 eqQ (pureA (fun g : G_l_raise => g.v_k)) (pureA fun _ => (7 : Int))) (raiseS "NoRow")
      nxS)
      (raiseS "NoName")))))))))
def F_l_raise : A_l_raise → FRes Unit Unit := finF b_l_raise in_l_raise io_l_raise (none)
abbrev sS_l_raise : Stmt := topS 20
abbrev N_l_raise : List Str := ["_law_k", "_law_told"]
theorem sc_l_raise : FnScope N_l_raise ["_law_k", "_law_told"] (defScope sS_l_raise) := ⟨rfl, rfl, rfl, by decide +kernel, rfl, by decide +kernel, by decide +kernel⟩
abbrev P_l_raise (K : PySem.W.Frag) (mg : Str → Option Value) : Sp := spOf K mg (.fr) pa_l_raise enc po_l_raise F_l_raise
set_option maxHeartbeats 4000000 in
theorem ok_l_raise {P : Program} {w : World} {K : PySem.W.Frag} {mg : Str → Option Value} {base : Heap} {f : Addr} {fd : FuncData} (F : Fun K "_law_raise" "_law_raise" sS_l_raise f fd) (B : Bi mg) (XC_Empty : XCls K mg "Empty") (XC_Lacking : XCls K mg "Lacking") (XC_NoFlat : XCls K mg "NoFlat") (XC_NoLine : XCls K mg "NoLine") (XC_NoName : XCls K mg "NoName") (XC_NoRow : XCls K mg "NoRow") (XC_NoRows : XCls K mg "NoRows") (XC_NoShare : XCls K mg "NoShare") (XC_NoText : XCls K mg "NoText") : FnOk P w K mg base (L2.CX P w) 1 f fd ["_law_k", "_law_told"] (P_l_raise K mg) := by
  refine fn_ok F sc_l_raise C_l_raise V_l_raise_0 V_l_raise_0 pa_l_raise in_l_raise io_l_raise po_l_raise (none) (body := b_l_raise) (fun _ => rfl) (fun _ => rfl) (fun _ => rfl) (fun _ => rfl) (by intro b h; cases h) fun cdv A outer s H E hr => ?_
  exact (s_cons (c_if (Ve' := V_l_raise_0) xfr_ok (t_eq hr.units (svT 0 (fun g : G_l_raise => g.v_k)) (si 0)) (s_last (c_raise1 xfr_ok rfl XC_NoLine (svT 1 (fun g : G_l_raise => g.v_told))))
      s_nil)
      (s_cons (c_if (Ve' := V_l_raise_0) xfr_ok (t_eq hr.units (svT 0 (fun g : G_l_raise => g.v_k)) (si 1)) (s_last (c_raise1 xfr_ok rfl XC_Empty (svT 1 (fun g : G_l_raise => g.v_told))))
      s_nil)
      (s_cons (c_if (Ve' := V_l_raise_0) xfr_ok (t_eq hr.units (svT 0 (fun g : G_l_raise => g.v_k)) (si 2)) (s_last (c_raise1 xfr_ok rfl XC_NoText (svT 1 (fun g : G_l_raise => g.v_told))))
      s_nil)
      (s_cons (c_if (Ve' := V_l_raise_0) xfr_ok (t_eq hr.units (svT 0 (fun g : G_l_raise => g.v_k)) (si 3)) (s_last (c_raise1 xfr_ok rfl XC_NoFlat (svT 1 (fun g : G_l_raise => g.v_told))))
      s_nil)
      (s_cons (c_if (Ve' := V_l_raise_0) xfr_ok (t_eq hr.units (svT 0 (fun g : G_l_raise => g.v_k)) (si 4)) (s_last (c_raise1 xfr_ok rfl XC_NoShare (svT 1 (fun g : G_l_raise => g.v_told))))
      s_nil)
      (s_cons (c_if (Ve' := V_l_raise_0) xfr_ok (t_eq hr.units (svT 0 (fun g : G_l_raise => g.v_k)) (si 5)) (s_last (c_raise1 xfr_ok rfl XC_NoRows (svT 1 (fun g : G_l_raise => g.v_told))))
      s_nil)
      (s_cons (c_if (Ve' := V_l_raise_0) xfr_ok (t_eq hr.units (svT 0 (fun g : G_l_raise => g.v_k)) (si 6)) (s_last (c_raise1 xfr_ok rfl XC_Lacking (svT 1 (fun g : G_l_raise => g.v_told))))
      s_nil)
      (s_cons (c_if (Ve' := V_l_raise_0) xfr_ok (t_eq hr.units (svT 0 (fun g : G_l_raise => g.v_k)) (si 7)) (s_last (c_raise1 xfr_ok rfl XC_NoRow (svT 1 (fun g : G_l_raise => g.v_told))))
      s_nil)
      (s_last (c_raise1 xfr_ok rfl XC_NoName (svT 1 (fun g : G_l_raise => g.v_told))))))))))))
/-! _law_raised -/
structure G_l_raised where
  v_k : Int
  v_told : Str
  v_found : (List Bool)
abbrev V_l_raised_0 : Ev G_l_raised := [.imm true fun g => enc g.v_k, .imm true fun g => enc g.v_told, .imm true fun g => enc g.v_found, .no]
abbrev V_l_raised_1 : Ev G_l_raised := [.imm true fun g => enc g.v_k, .imm true fun g => enc g.v_told, .imm false fun g => enc g.v_found, .no]
abbrev V_l_raised_2 : Ev G_l_raised := [.imm true fun g => enc g.v_k, .imm true fun g => enc g.v_told, .no, .no]
abbrev A_l_raised := Int × Str × Unit
def pa_l_raised (a : A_l_raised) : List Par := [.imm true (enc a.1), .imm true (enc a.2.1)]
def in_l_raised (a : A_l_raised) : G_l_raised := { v_k := a.1, v_told := a.2.1, v_found := [] }
def io_l_raised (g : G_l_raised) : Unit := ()
def po_l_raised (y : Unit) : List (Nat × Ob) := []
abbrev C_l_raised : FC G_l_raised (List Bool) := { rm := .an, en := enc, ios := [] }
abbrev b_l_raised : Sc G_l_raised (List Bool) :=
      (bindS (setS (fun g a => { g with v_found := a }) (op1 (fun t => some ((fun t : Unit => ([] : List Bool)) t)) (pureA fun _ => ())))
      (bindS (tryS ct9 (dropS (callA (fun (g : G_l_raised) (t : Int × Str × Unit) => (t.1, t.2.1, ())) F_l_raise (pairA (pureA (fun g : G_l_raised => g.v_k)) (pairA (pureA (fun g : G_l_raised => g.v_told)) (pureA fun _ => ())))))
      (fun x => (setS (fun g a => { g with v_found := a }) (pureA fun _ => R_l_kinds_w x))))
      (retS (pureA (fun g : G_l_raised => g.v_found)))))
def F_l_raised : A_l_raised → FRes (List Bool) Unit := finF b_l_raised in_l_raised io_l_raised (none)
abbrev sS_l_raised : Stmt := topS 19
abbrev N_l_raised : List Str := ["_law_k", "_law_told", "_law_found", "_law_e"]
theorem sc_l_raised : FnScope N_l_raised ["_law_k", "_law_told"] (defScope sS_l_raised) := ⟨rfl, rfl, rfl, by decide +kernel, rfl, by decide +kernel, by decide +kernel⟩
abbrev P_l_raised (K : PySem.W.Frag) (mg : Str → Option Value) : Sp := spOf K mg (.an) pa_l_raised enc po_l_raised F_l_raised
set_option maxHeartbeats 4000000 in
theorem ok_l_raised {P : Program} {w : World} {K : PySem.W.Frag} {mg : Str → Option Value} {base : Heap} {f : Addr} {fd : FuncData} (F : Fun K "_law_raised" "_law_raised" sS_l_raised f fd) (B : Bi mg) (c_l_raise : Cal P w K mg base 1 "_law_raise" ["_law_k", "_law_told"] (P_l_raise K mg)) (c_l_kinds_w : ∀ x ∈ nine, ExCalN P w K mg base 1 "_law_kinds" x (R_l_kinds_w x)) (c_l_kinds_data : Cal P w K mg base 1 "_law_kinds" ["_law_e"] (P_l_kinds_data K mg)) (XTAB : XTab K mg) : FnOk P w K mg base (L2.CX P w) 2 f fd ["_law_k", "_law_told"] (P_l_raised K mg) := by
  refine fn_ok F sc_l_raised C_l_raised V_l_raised_2 V_l_raised_2 pa_l_raised in_l_raised io_l_raised po_l_raised (none) (body := b_l_raised) (fun _ => rfl) (fun _ => rfl) (fun _ => rfl) (fun _ => rfl) (by intro b h; cases h) fun cdv A outer s H E hr => ?_
  exact (s_cons (c_set (Ve' := V_l_raised_0) 2 (fun g a => { g with v_found := a }) xfr_ok (SN.se (s_lst (fun t : Unit => ([] : List Bool)) a_nil)) (hN := sc_l_raised.nd))
      (s_cons (SS.pre (Ve := V_l_raised_0) (Ve' := V_l_raised_1) (c_try (Vx := V_l_raised_1) (Vb := V_l_raised_1) (Vs' := V_l_raised_0) (Ve' := V_l_raised_1) (i := 3) (ct := ct9) sc_l_raised.nd rfl rfl (ct9_names XTAB) (ct9_one XTAB) (ct9_ref XTAB) xfr_ok (fun g => flat_all ⟨Flat.flat _, Flat.flat _, trivial, trivial, trivial⟩) (fun pn xe => (s_last (c_drop xjJ_ok (x_call (bs := []) (fun (g : G_l_raised) (t : Int × Str × Unit) => (t.1, t.2.1, ())) c_l_raise hr (a_cons (svT 0 (fun g : G_l_raised => g.v_k)) (a_cons (svT 1 (fun g : G_l_raised => g.v_told)) a_nil)) (by exact fun _ _ => ⟨⟨rfl, fun _ => Flat.flat _⟩, ⟨rfl, fun _ => Flat.flat _⟩, trivial⟩)))))
      (fun x a oe pn hx9 hE => (s_last (c_set (Ve' := (V_l_raised_0.set 3 (.raw (.ref a)))) 2 (fun g a => { g with v_found := a }) xfr_ok (SN.se (x_exCallN 3 hE (c_l_kinds_w x (ct9_mem hx9)) hr)) (hN := sc_l_raised.nd)))) rfl rfl (fun _ => ⟨.refl _, .refl _, .refl _, .no _, trivial⟩) (fun _ => ⟨.refl _, .refl _, .an _, .no _, trivial⟩) (by exact ⟨trivial, trivial⟩) (by exact ⟨trivial, trivial⟩) (by exact ⟨trivial, trivial⟩)) (fun _ => ⟨.refl _, .refl _, .an _, .no _, trivial⟩) (by exact ⟨trivial, trivial⟩) (by exact ⟨trivial, trivial⟩))
      (s_last (c_ret xfr_ok (svF 2 (fun g : G_l_raised => g.v_found))))))
/-! _law_through -/
structure G_l_through where
  v_point : (Int × Int)
  v_found : (List Bool)
abbrev V_l_through_0 : Ev G_l_through := [.imm true fun g => enc g.v_point, .imm true fun g => enc g.v_found, .no]
abbrev V_l_through_1 : Ev G_l_through := [.imm true fun g => enc g.v_point, .imm false fun g => enc g.v_found, .no]
abbrev V_l_through_2 : Ev G_l_through := [.imm true fun g => enc g.v_point, .no, .no]
abbrev A_l_through := (Int × Int) × Unit
def pa_l_through (a : A_l_through) : List Par := [.imm true (enc a.1)]
def in_l_through (a : A_l_through) : G_l_through := { v_point := a.1, v_found := [] }
def io_l_through (g : G_l_through) : Unit := ()
def po_l_through (y : Unit) : List (Nat × Ob) := []
abbrev C_l_through : FC G_l_through (List Bool) := { rm := .an, en := enc, ios := [] }
abbrev b_l_through : Sc G_l_through (List Bool) :=
      (bindS (setS (fun g a => { g with v_found := a }) (op1 (fun t => some ((fun t : Unit => ([] : List Bool)) t)) (pureA fun _ => ())))
      (bindS (tryS (fun x => if x = "NoLine" then some true else none) (dropS (callA (fun (g : G_l_through) (t : (Int × Int) × (Int × Int) × Unit) => (t.1, t.2.1, ())) F_through (pairA (pureA (fun g : G_l_through => g.v_point)) (pairA (pureA (fun g : G_l_through => g.v_point)) (pureA fun _ => ())))))
      (fun _ => (setS (fun g a => { g with v_found := a }) (pureA fun _ => R_l_kinds_w "NoLine"))))
      (retS (pureA (fun g : G_l_through => g.v_found)))))
def F_l_through : A_l_through → FRes (List Bool) Unit := finF b_l_through in_l_through io_l_through (none)
abbrev sS_l_through : Stmt := topS 21
abbrev N_l_through : List Str := ["_law_point", "_law_found", "_law_e"]
theorem sc_l_through : FnScope N_l_through ["_law_point"] (defScope sS_l_through) := ⟨rfl, rfl, rfl, by decide +kernel, rfl, by decide +kernel, by decide +kernel⟩
abbrev P_l_through (K : PySem.W.Frag) (mg : Str → Option Value) : Sp := spOf K mg (.an) pa_l_through enc po_l_through F_l_through
set_option maxHeartbeats 4000000 in
theorem ok_l_through {P : Program} {w : World} {K : PySem.W.Frag} {mg : Str → Option Value} {base : Heap} {f : Addr} {fd : FuncData} (F : Fun K "_law_through" "_law_through" sS_l_through f fd) (B : Bi mg) (c_through : Cal P w K mg base 2 "through" ["one", "other"] (P_through K mg)) (c_l_kinds_w : ∀ x ∈ nine, ExCalN P w K mg base 1 "_law_kinds" x (R_l_kinds_w x)) (c_l_kinds_data : Cal P w K mg base 1 "_law_kinds" ["_law_e"] (P_l_kinds_data K mg)) (XM_NoLine_LineError : PySem.W.exmOne K (.ref (He.ga K "NoLine")) (.ref (He.ga K "LineError")) = some true) (XG_NoLine : mg "NoLine" = some (.ref (He.ga K "NoLine"))) (XG_LineError : mg "LineError" = some (.ref (He.ga K "LineError"))) : FnOk P w K mg base (L2.CX P w) 3 f fd ["_law_point"] (P_l_through K mg) := by
  refine fn_ok F sc_l_through C_l_through V_l_through_2 V_l_through_2 pa_l_through in_l_through io_l_through po_l_through (none) (body := b_l_through) (fun _ => rfl) (fun _ => rfl) (fun _ => rfl) (fun _ => rfl) (by intro b h; cases h) fun cdv A outer s H E hr => ?_
  exact (s_cons (c_set (Ve' := V_l_through_0) 1 (fun g a => { g with v_found := a }) xfr_ok (SN.se (s_lst (fun t : Unit => ([] : List Bool)) a_nil)) (hN := sc_l_through.nd))
      (s_cons (SS.pre (Ve := V_l_through_0) (Ve' := V_l_through_1) (c_try (Vx := V_l_through_1) (Vb := V_l_through_1) (Vs' := V_l_through_0) (Ve' := V_l_through_1) (i := 2) (ct := (fun x => if x = "NoLine" then some true else none)) sc_l_through.nd rfl rfl (cat_names (XCat.mk (x := "NoLine") (y := "LineError") XG_NoLine XG_LineError XM_NoLine_LineError)) (ct_one (XCat.mk (x := "NoLine") (y := "LineError") XG_NoLine XG_LineError XM_NoLine_LineError)) (ct_ref (XCat.mk (x := "NoLine") (y := "LineError") XG_NoLine XG_LineError XM_NoLine_LineError)) xfr_ok (fun g => flat_all ⟨Flat.flat _, trivial, trivial, trivial⟩) (fun pn xe => (s_last (c_drop xjJ_ok (x_call (bs := []) (fun (g : G_l_through) (t : (Int × Int) × (Int × Int) × Unit) => (t.1, t.2.1, ())) c_through hr (a_cons (svT 0 (fun g : G_l_through => g.v_point)) (a_cons (svT 0 (fun g : G_l_through => g.v_point)) a_nil)) (by exact fun _ _ => ⟨⟨rfl, fun _ => Flat.flat _⟩, ⟨rfl, fun _ => Flat.flat _⟩, trivial⟩)))))
      (fun x a oe pn hx9 hE9 => ct_suite hx9 hE9 fun hE => (s_last (c_set (Ve' := (V_l_through_0.set 2 (.raw (.ref a)))) 1 (fun g a => { g with v_found := a }) xfr_ok (SN.se (x_exCallN 2 hE (c_l_kinds_w "NoLine" (by decide)) (hr.mono (by decide)))) (hN := sc_l_through.nd)))) rfl rfl (fun _ => ⟨.refl _, .refl _, .no _, trivial⟩) (fun _ => ⟨.refl _, .an _, .no _, trivial⟩) (by exact ⟨trivial, trivial⟩) (by exact ⟨trivial, trivial⟩) (by exact ⟨trivial, trivial⟩)) (fun _ => ⟨.refl _, .an _, .no _, trivial⟩) (by exact ⟨trivial, trivial⟩) (by exact ⟨trivial, trivial⟩))
      (s_last (c_ret xfr_ok (svF 1 (fun g : G_l_through => g.v_found))))))
/-! law -/
structure G_law where
  v_script : List Int
  v_bare : (List Ex)
  v_j : Int
  v_pot_here : (List Int)
  v_told : Str
  v_first : Int
  v_made : (List Ex)
  v_k : Int
  v_at : Int
  v_due : (List Bool)
  v_e : Ex
  v_at2 : Int
  v_at3 : Int
abbrev V_law_0 : Ev G_law := [.scr fun g => g.v_script, .imm true fun g => enc g.v_bare, .no, .no, .no, .no, .no, .no, .no, .no, .no]
abbrev V_law_1 : Ev G_law := [.scr fun g => g.v_script, .imm true fun g => enc g.v_bare, .imm true fun g => enc g.v_j, .no, .no, .no, .no, .no, .no, .no, .no]
abbrev V_law_2 : Ev G_law := [.scr fun g => g.v_script, .imm true fun g => enc g.v_bare, .imm true fun g => enc g.v_j, .own fun g => g.v_pot_here.map enc, .no, .no, .no, .no, .no, .no, .no]
abbrev V_law_3 : Ev G_law := [.scr fun g => g.v_script, .imm true fun g => enc g.v_bare, .imm true fun g => enc g.v_j, .own fun g => g.v_pot_here.map enc, .imm true fun g => enc g.v_told, .no, .no, .no, .no, .no, .no]
abbrev V_law_4 : Ev G_law := [.scr fun g => g.v_script, .imm true fun g => enc g.v_bare, .imm true fun g => enc g.v_j, .own fun g => g.v_pot_here.map enc, .imm true fun g => enc g.v_told, .imm true fun g => enc g.v_first, .no, .no, .no, .no, .no]
abbrev V_law_5 : Ev G_law := [.scr fun g => g.v_script, .imm true fun g => enc g.v_bare, .imm true fun g => enc g.v_j, .own fun g => g.v_pot_here.map enc, .imm true fun g => enc g.v_told, .imm true fun g => enc g.v_first, .imm true fun g => enc g.v_made, .no, .no, .no, .no]
abbrev V_law_6 : Ev G_law := [.scr fun g => g.v_script, .imm true fun g => enc g.v_bare, .imm true fun g => enc g.v_j, .own fun g => g.v_pot_here.map enc, .imm true fun g => enc g.v_told, .imm true fun g => enc g.v_first, .imm true fun g => enc g.v_made, .imm true fun g => enc g.v_k, .no, .no, .no]
abbrev V_law_7 : Ev G_law := [.scr fun g => g.v_script, .imm true fun g => enc g.v_bare, .imm true fun g => enc g.v_j, .own fun g => g.v_pot_here.map enc, .imm true fun g => enc g.v_told, .imm true fun g => enc g.v_first, .imm true fun g => enc g.v_made, .imm true fun g => enc g.v_k, .no, .no, .imm true fun g => enc g.v_at]
abbrev V_law_8 : Ev G_law := [.scr fun g => g.v_script, .imm true fun g => enc g.v_bare, .imm true fun g => enc g.v_j, .own fun g => g.v_pot_here.map enc, .imm true fun g => enc g.v_told, .imm true fun g => enc g.v_first, .imm true fun g => enc g.v_made, .imm true fun g => enc g.v_k, .imm true fun g => enc g.v_due, .no, .no]
abbrev V_law_9 : Ev G_law := [.scr fun g => g.v_script, .imm true fun g => enc g.v_bare, .imm true fun g => enc g.v_j, .own fun g => g.v_pot_here.map enc, .imm true fun g => enc g.v_told, .imm true fun g => enc g.v_first, .imm true fun g => enc g.v_made, .imm true fun g => enc g.v_k, .imm true fun g => enc g.v_due, .imm true fun g => enc g.v_e, .no]
abbrev V_law_10 : Ev G_law := [.scr fun g => g.v_script, .imm true fun g => enc g.v_bare, .imm true fun g => enc g.v_j, .own fun g => g.v_pot_here.map enc, .imm true fun g => enc g.v_told, .imm true fun g => enc g.v_first, .imm true fun g => enc g.v_made, .no, .no, .no, .imm true fun g => enc g.v_at2]
abbrev V_law_11 : Ev G_law := [.scr fun g => g.v_script, .imm true fun g => enc g.v_bare, .imm true fun g => enc g.v_j, .own fun g => g.v_pot_here.map enc, .imm true fun g => enc g.v_told, .imm true fun g => enc g.v_first, .imm true fun g => enc g.v_made, .no, .no, .no, .imm true fun g => enc g.v_at3]
abbrev V_law_12 : Ev G_law := [.scr fun g => g.v_script, .imm true fun g => enc g.v_bare, .imm true fun g => enc g.v_j, .imm true fun g => enc g.v_pot_here, .imm true fun g => enc g.v_told, .imm true fun g => enc g.v_first, .imm true fun g => enc g.v_made, .no, .no, .no, .no]
abbrev V_law_13 : Ev G_law := [.scr fun g => g.v_script, .no, .no, .no, .no, .no, .no, .no, .no, .no, .no]
abbrev A_law := List Int × Unit
def pa_law (a : A_law) : List Par := [.scr a.1]
def in_law (a : A_law) : G_law := { v_script := a.1, v_bare := [], v_j := 0, v_pot_here := [], v_told := "", v_first := 0, v_made := [], v_k := 0, v_at := 0, v_due := [], v_e := ⟨""⟩, v_at2 := 0, v_at3 := 0 }
def io_law (g : G_law) : Unit := ()
def po_law (y : Unit) : List (Nat × Ob) := []
abbrev C_law : FC G_law Bool := { rm := .fr, en := enc, ios := [] }
abbrev b_law : Sc G_law Bool :=
      (bindS (setS (fun g a => { g with v_bare := a }) (op1 (fun t => some ((fun t : Ex × Ex × Ex × Ex × Ex × Ex × Ex × Ex × Ex × Unit => ([t.1, t.2.1, t.2.2.1, t.2.2.2.1, t.2.2.2.2.1, t.2.2.2.2.2.1, t.2.2.2.2.2.2.1, t.2.2.2.2.2.2.2.1, t.2.2.2.2.2.2.2.2.1] : List Ex)) t)) (pairA (pureA fun _ => (⟨"NoLine"⟩ : Ex)) (pairA (pureA fun _ => (⟨"Empty"⟩ : Ex)) (pairA (pureA fun _ => (⟨"NoText"⟩ : Ex)) (pairA (pureA fun _ => (⟨"NoFlat"⟩ : Ex)) (pairA (pureA fun _ => (⟨"NoShare"⟩ : Ex)) (pairA (pureA fun _ => (⟨"NoRows"⟩ : Ex)) (pairA (pureA fun _ => (⟨"Lacking"⟩ : Ex)) (pairA (pureA fun _ => (⟨"NoRow"⟩ : Ex)) (pairA (pureA fun _ => (⟨"NoName"⟩ : Ex)) (pureA fun _ => ()))))))))))))
      (bindS (forS (op1 rng1 (op2 max2Q (pureA fun _ => (1 : Int)) (op2 min2Q (pureA fun g : G_law => (g.v_script.length : Int)) (pureA fun _ => (6 : Int))))) (fun (g : G_law) (a : Int) => { g with v_j := a }) (bindS (setS (fun g l => { g with v_pot_here := l }) (callA (fun (g : G_law) (t : List Int × Int × Unit) => (t.1, t.2.1, ())) F_l_pot (pairA (pureA fun g : G_law => g.v_script) (pairA (pureA (fun g : G_law => g.v_j)) (pureA fun _ => ())))))
      (bindS (setS (fun g a => { g with v_told := a }) (callIo (fun (g : G_law) (t : Unit) => (g.v_pot_here, ())) (fun (g : G_law) y => { g with v_pot_here := y }) F_l_text (pureA fun _ => ())))
      (bindS (setS (fun g a => { g with v_first := a }) (callIo (fun (g : G_law) (t : Int × Unit) => (g.v_pot_here, t.1, ())) (fun (g : G_law) y => { g with v_pot_here := y }) F_l_draw (pairA (pureA fun _ => (9 : Int)) (pureA fun _ => ()))))
      (bindS (setS (fun g a => { g with v_made := a }) (op1 (fun t => some ((fun t : Ex × Ex × Ex × Ex × Ex × Ex × Ex × Unit => ([t.1, t.2.1, t.2.2.1, t.2.2.2.1, t.2.2.2.2.1, t.2.2.2.2.2.1, t.2.2.2.2.2.2.1] : List Ex)) t)) (pairA (op1 (fun _ => some (⟨"NoLine"⟩ : Ex)) (pureA (fun g : G_law => g.v_told))) (pairA (op1 (fun _ => some (⟨"Empty"⟩ : Ex)) (pureA (fun g : G_law => g.v_told))) (pairA (op1 (fun _ => some (⟨"NoText"⟩ : Ex)) (pureA (fun g : G_law => g.v_told))) (pairA (op1 (fun _ => some (⟨"NoFlat"⟩ : Ex)) (pureA (fun g : G_law => g.v_told))) (pairA (op1 (fun _ => some (⟨"NoShare"⟩ : Ex)) (pureA (fun g : G_law => g.v_told))) (pairA (op1 (fun _ => some (⟨"NoRows"⟩ : Ex)) (pureA (fun g : G_law => g.v_told))) (pairA (op1 (fun _ => some (⟨"Lacking"⟩ : Ex)) (pureA (fun g : G_law => g.v_told))) (pureA fun _ => ()))))))))))
      (bindS (setS (fun g a => { g with v_made := a }) (op2 catQ (pureA (fun g : G_law => g.v_made)) (op1 (fun t => some ((fun t : Ex × Ex × Unit => ([t.1, t.2.1] : List Ex)) t)) (pairA (op1 (fun _ => some (⟨"NoRow"⟩ : Ex)) (pureA (fun g : G_law => g.v_told))) (pairA (op1 (fun _ => some (⟨"NoName"⟩ : Ex)) (pureA (fun g : G_law => g.v_told))) (pureA fun _ => ()))))))
      (bindS (forS (op1 rng1 (pureA fun _ => (9 : Int))) (fun (g : G_law) (a : Int) => { g with v_k := a }) (bindS (setS (fun g l => { g with v_due := l }) (compA (op1 rng1 (pureA fun _ => (9 : Int))) (fun (g : G_law) (a : Int) => { g with v_at := a }) yesA (op2 eqQ (pureA (fun g : G_law => g.v_at)) (pureA (fun g : G_law => g.v_k)))))
      (forS (op1 (fun t => some ((fun t : Ex × Ex × Unit => ([t.1, t.2.1] : List Ex)) t)) (pairA (op2 atI (pureA (fun g : G_law => g.v_bare)) (pureA (fun g : G_law => g.v_k))) (pairA (op2 atI (pureA (fun g : G_law => g.v_made)) (pureA (fun g : G_law => g.v_k))) (pureA fun _ => ())))) (fun (g : G_law) (a : Ex) => { g with v_e := a }) (ifS (orA (op2 neQ (callA (fun (g : G_law) (t : Ex × Unit) => (t.1, ())) F_l_kinds_data (pairA (pureA (fun g : G_law => g.v_e)) (pureA fun _ => ()))) (pureA (fun g : G_law => g.v_due))) (orA (notA (op1 isLQ (pureA (fun g : G_law => g.v_e)))) (notA (op1 isLQ (pureA (fun g : G_law => g.v_e)))))) (retS (pureA fun _ => false))
      nxS))))
      (bindS (ifS (op2 neQ (callA (fun (g : G_law) (t : Int × Str × Unit) => (t.1, t.2.1, ())) F_l_raised (pairA (pureA (fun g : G_law => g.v_first)) (pairA (pureA (fun g : G_law => g.v_told)) (pureA fun _ => ())))) (compA (op1 rng1 (pureA fun _ => (9 : Int))) (fun (g : G_law) (a : Int) => { g with v_at2 := a }) yesA (op2 eqQ (pureA (fun g : G_law => g.v_at2)) (pureA (fun g : G_law => g.v_first))))) (retS (pureA fun _ => false))
      nxS)
      (ifS (op2 neQ (callA (fun (g : G_law) (t : (Int × Int) × Unit) => (t.1, ())) F_l_through (pairA (op1 (fun t => some ((fun t : Int × Int × Unit => ((t.1, t.2.1) : (Int × Int))) t)) (pairA (op2 subI (callIo (fun (g : G_law) (t : Int × Unit) => (g.v_pot_here, t.1, ())) (fun (g : G_law) y => { g with v_pot_here := y }) F_l_draw (pairA (pureA fun _ => (99 : Int)) (pureA fun _ => ()))) (pureA fun _ => (49 : Int))) (pairA (op2 subI (callIo (fun (g : G_law) (t : Int × Unit) => (g.v_pot_here, t.1, ())) (fun (g : G_law) y => { g with v_pot_here := y }) F_l_draw (pairA (pureA fun _ => (99 : Int)) (pureA fun _ => ()))) (pureA fun _ => (49 : Int))) (pureA fun _ => ())))) (pureA fun _ => ()))) (compA (op1 rng1 (pureA fun _ => (9 : Int))) (fun (g : G_law) (a : Int) => { g with v_at3 := a }) yesA (op2 eqQ (pureA (fun g : G_law => g.v_at3)) (pureA fun _ => (0 : Int))))) (retS (pureA fun _ => false))
      nxS)))))))))
      (retS (pureA fun _ => true))))
def F_law : A_law → FRes Bool Unit := finF b_law in_law io_law (none)
abbrev sS_law : Stmt := topS 22
abbrev N_law : List Str := ["_law_script", "_law_bare", "_law_j", "_law_pot_here", "_law_told", "_law_first", "_law_made", "_law_k", "_law_due", "_law_e", "_law_at"]
theorem sc_law : FnScope N_law ["_law_script"] (defScope sS_law) := ⟨rfl, rfl, rfl, by decide +kernel, rfl, by decide +kernel, by decide +kernel⟩
abbrev P_law (K : PySem.W.Frag) (mg : Str → Option Value) : Sp := spOf K mg (.fr) pa_law enc po_law F_law
set_option maxHeartbeats 4000000 in
theorem ok_law {P : Program} {w : World} {K : PySem.W.Frag} {mg : Str → Option Value} {base : Heap} {f : Addr} {fd : FuncData} (F : Fun K "law" "law" sS_law f fd) (B : Bi mg) (c_l_pot : Cal P w K mg base 1 "_law_pot" ["_law_script", "_law_k"] (P_l_pot K mg)) (c_l_text : Cal P w K mg base 2 "_law_text" ["_law_pot_here"] (P_l_text K mg)) (c_l_draw : Cal P w K mg base 1 "_law_draw" ["_law_pot_here", "_law_many"] (P_l_draw K mg)) (c_l_raised : Cal P w K mg base 2 "_law_raised" ["_law_k", "_law_told"] (P_l_raised K mg)) (c_l_through : Cal P w K mg base 3 "_law_through" ["_law_point"] (P_l_through K mg)) (c_l_kinds_w : ∀ x ∈ nine, ExCalN P w K mg base 1 "_law_kinds" x (R_l_kinds_w x)) (c_l_kinds_data : Cal P w K mg base 1 "_law_kinds" ["_law_e"] (P_l_kinds_data K mg)) (XTAB : XTab K mg) : FnOk P w K mg base (L2.CX P w) 4 f fd ["_law_script"] (P_law K mg) := by
  refine fn_ok F sc_law C_law V_law_13 V_law_13 pa_law in_law io_law po_law (none) (body := b_law) (fun _ => rfl) (fun _ => rfl) (fun _ => rfl) (fun _ => rfl) (by intro b h; cases h) fun cdv A outer s H E hr => ?_
  exact (s_cons (c_set (Ve' := V_law_0) 1 (fun g a => { g with v_bare := a }) xfr_ok (SN.se (s_lst (fun t : Ex × Ex × Ex × Ex × Ex × Ex × Ex × Ex × Ex × Unit => ([t.1, t.2.1, t.2.2.1, t.2.2.2.1, t.2.2.2.2.1, t.2.2.2.2.2.1, t.2.2.2.2.2.2.1, t.2.2.2.2.2.2.2.1, t.2.2.2.2.2.2.2.2.1] : List Ex)) (a_cons (s_exc0 XTAB) (a_cons (s_exc0 XTAB) (a_cons (s_exc0 XTAB) (a_cons (s_exc0 XTAB) (a_cons (s_exc0 XTAB) (a_cons (s_exc0 XTAB) (a_cons (s_exc0 XTAB) (a_cons (s_exc0 XTAB) (a_cons (s_exc0 XTAB) a_nil))))))))))) (hN := sc_law.nd))
      (s_cons (c_for (Ve := V_law_0) (VL := V_law_1) (set := (fun (g : G_law) (a : Int) => { g with v_j := a })) xfr_ok (passes_of rfl) rfl (i_rng1 B.range (s_max2 rfl B.max (si 1) (s_min2 rfl B.min (s_lenS 0 (fun g : G_law => g.v_script) B.len) (si 6)))) (g_name (Ve' := V_law_1) 2 (fun (g : G_law) (a : Int) => { g with v_j := a }) (hN := sc_law.nd))
      (SB.wk (Ve' := V_law_5) (s_cons (c_own (Ve' := V_law_2) 3 (fun g l => { g with v_pot_here := l }) xfr_ok (x_callN (bs := []) (fun (g : G_law) (t : List Int × Int × Unit) => (t.1, t.2.1, ())) c_l_pot (hr.mono (by decide)) (a_scr 0 (fun g : G_law => g.v_script) (a_cons (svT 2 (fun g : G_law => g.v_j)) a_nil)) (by exact fun _ _ => ⟨rfl, ⟨rfl, fun _ => Flat.flat _⟩, trivial⟩)) (hN := sc_law.nd))
      (s_cons (c_set (Ve' := V_law_3) 4 (fun g a => { g with v_told := a }) xfr_ok (x_callIo (bs := []) (fun (g : G_law) (t : Unit) => (g.v_pot_here, ())) (fun (g : G_law) y => { g with v_pot_here := y }) 3 0 (fun y => y.map enc) c_l_text (hr.mono (by decide)) (a_slot 3 a_nil) (by exact fun _ _ => ⟨⟨rfl, _, rfl, .ls _ (flatA_map _)⟩, trivial⟩)) (hN := sc_law.nd))
      (s_cons (c_set (Ve' := V_law_4) 5 (fun g a => { g with v_first := a }) xfr_ok (x_callIo (bs := []) (fun (g : G_law) (t : Int × Unit) => (g.v_pot_here, t.1, ())) (fun (g : G_law) y => { g with v_pot_here := y }) 3 0 (fun y => y.map enc) c_l_draw (hr.mono (by decide)) (a_slot 3 (a_cons (si 9) a_nil)) (by exact fun _ _ => ⟨⟨rfl, _, rfl, .ls _ (flatA_map _)⟩, ⟨rfl, fun _ => Flat.flat _⟩, trivial⟩)) (hN := sc_law.nd))
      (s_cons (c_set (Ve' := V_law_5) 6 (fun g a => { g with v_made := a }) xfr_ok (SN.se (s_lst (fun t : Ex × Ex × Ex × Ex × Ex × Ex × Ex × Unit => ([t.1, t.2.1, t.2.2.1, t.2.2.2.1, t.2.2.2.2.1, t.2.2.2.2.2.1, t.2.2.2.2.2.2.1] : List Ex)) (a_cons (s_exc1 XTAB (svT 4 (fun g : G_law => g.v_told))) (a_cons (s_exc1 XTAB (svT 4 (fun g : G_law => g.v_told))) (a_cons (s_exc1 XTAB (svT 4 (fun g : G_law => g.v_told))) (a_cons (s_exc1 XTAB (svT 4 (fun g : G_law => g.v_told))) (a_cons (s_exc1 XTAB (svT 4 (fun g : G_law => g.v_told))) (a_cons (s_exc1 XTAB (svT 4 (fun g : G_law => g.v_told))) (a_cons (s_exc1 XTAB (svT 4 (fun g : G_law => g.v_told))) a_nil))))))))) (hN := sc_law.nd))
      (s_cons (c_set (Ve' := V_law_5) 6 (fun g a => { g with v_made := a }) xfr_ok (SN.se (s_cat (svT 6 (fun g : G_law => g.v_made)) (SN.se (s_lst (fun t : Ex × Ex × Unit => ([t.1, t.2.1] : List Ex)) (a_cons (s_exc1 XTAB (svT 4 (fun g : G_law => g.v_told))) (a_cons (s_exc1 XTAB (svT 4 (fun g : G_law => g.v_told))) a_nil)))))) (hN := sc_law.nd))
      (s_cons (c_for (Ve := V_law_5) (VL := V_law_6) (set := (fun (g : G_law) (a : Int) => { g with v_k := a })) xfr_ok (passes_of rfl) rfl (i_rng1 B.range (si 9)) (g_name (Ve' := V_law_6) 7 (fun (g : G_law) (a : Int) => { g with v_k := a }) (hN := sc_law.nd))
      (SB.wk (Ve' := V_law_8) (s_cons (c_setLc (Ve' := V_law_8) 8 (fun g l => { g with v_due := l }) [("_law_at", 10)] V_law_7 xfr_ok rfl sc_law.nd (i_rng1 B.range (si 9)) (fun _ _ _ _ _ => (g_name (Ve' := V_law_7) 10 (fun (g : G_law) (a : Int) => { g with v_at := a }) (hN := sc_law.nd))) (fun _ _ _ _ _ => ts_nil) (fun _ _ _ _ _ => (s_eq hr.units (svT 10 (fun g : G_law => g.v_at)) (svT 7 (fun g : G_law => g.v_k)))) (α := Int) (set := (fun (g : G_law) (a : Int) => { g with v_at := a })) (ok := blkOk_by (N := N_law) (sc := defScope sS_law) (by decide +kernel)))
      (s_last (c_for (Ve := V_law_8) (VL := V_law_9) (set := (fun (g : G_law) (a : Ex) => { g with v_e := a })) xfr_ok (passes_of rfl) rfl (i_list (SN.se (s_lst (fun t : Ex × Ex × Unit => ([t.1, t.2.1] : List Ex)) (a_cons (s_ix (svT 1 (fun g : G_law => g.v_bare)) (svT 7 (fun g : G_law => g.v_k))) (a_cons (s_ix (svT 6 (fun g : G_law => g.v_made)) (svT 7 (fun g : G_law => g.v_k))) a_nil))))) (g_name (Ve' := V_law_9) 9 (fun (g : G_law) (a : Ex) => { g with v_e := a }) (hN := sc_law.nd))
      (SB.wk (Ve' := V_law_9) (s_last (c_if (Ve' := V_law_9) xfr_ok (SW.t (w_or (t_ne hr.units (SN.se (x_callN (bs := []) (fun (g : G_law) (t : Ex × Unit) => (t.1, ())) c_l_kinds_data (hr.mono (by decide)) (a_cons (svT 9 (fun g : G_law => g.v_e)) a_nil) (by exact fun _ _ => ⟨⟨rfl, fun h => nomatch h⟩, trivial⟩))) (svT 8 (fun g : G_law => g.v_due))) (w_or (t_not (t_val (s_isL XTAB (svT 9 (fun g : G_law => g.v_e)) B.isinstance))) (w_or1 (t_not (t_val (s_isV XTAB (svT 9 (fun g : G_law => g.v_e)) B.isinstance))))))) (s_last (c_ret xfr_ok (sb false)))
      s_nil)) (fun _ => ⟨.refl _, .refl _, .refl _, .refl _, .refl _, .refl _, .refl _, .refl _, .refl _, .no _, .no _, trivial⟩) (by exact ⟨trivial, trivial⟩) (by exact ⟨trivial, trivial⟩))))) (fun _ => ⟨.refl _, .refl _, .refl _, .refl _, .refl _, .refl _, .refl _, .no _, .no _, .no _, .no _, trivial⟩) (by exact ⟨trivial, trivial⟩) (by exact ⟨trivial, trivial⟩)))
      (s_cons (c_if (Ve' := V_law_5) xfr_ok (t_ne hr.units (x_call (bs := []) (fun (g : G_law) (t : Int × Str × Unit) => (t.1, t.2.1, ())) c_l_raised (hr.mono (by decide)) (a_cons (svT 5 (fun g : G_law => g.v_first)) (a_cons (svT 4 (fun g : G_law => g.v_told)) a_nil)) (by exact fun _ _ => ⟨⟨rfl, fun _ => Flat.flat _⟩, ⟨rfl, fun _ => Flat.flat _⟩, trivial⟩)) (SN.se (s_lc (α := Int) (set := (fun (g : G_law) (a : Int) => { g with v_at2 := a })) (ok := blkOk_by (N := N_law) (sc := defScope sS_law) (by decide +kernel)) [("_law_at", 10)] V_law_10  rfl sc_law.nd (i_rng1 B.range (si 9)) (fun _ _ _ _ _ => (g_name (Ve' := V_law_10) 10 (fun (g : G_law) (a : Int) => { g with v_at2 := a }) (hN := sc_law.nd))) (fun _ _ _ _ _ => ts_nil) (fun _ _ _ _ _ => (s_eq hr.units (svT 10 (fun g : G_law => g.v_at2)) (svT 5 (fun g : G_law => g.v_first))))))) (s_last (c_ret xfr_ok (sb false)))
      s_nil)
      (s_last (c_if (Ve' := V_law_5) xfr_ok (t_ne hr.units (x_call (bs := []) (fun (g : G_law) (t : (Int × Int) × Unit) => (t.1, ())) c_l_through hr (a_cons (s_tup (fun t : Int × Int × Unit => ((t.1, t.2.1) : (Int × Int))) true (a_cons (s_sub (x_callIo (bs := []) (fun (g : G_law) (t : Int × Unit) => (g.v_pot_here, t.1, ())) (fun (g : G_law) y => { g with v_pot_here := y }) 3 0 (fun y => y.map enc) c_l_draw (hr.mono (by decide)) (a_slot 3 (a_cons (si 99) a_nil)) (by exact fun _ _ => ⟨⟨rfl, _, rfl, .ls _ (flatA_map _)⟩, ⟨rfl, fun _ => Flat.flat _⟩, trivial⟩)) (si 49)) (a_cons (s_sub (x_callIo (bs := []) (fun (g : G_law) (t : Int × Unit) => (g.v_pot_here, t.1, ())) (fun (g : G_law) y => { g with v_pot_here := y }) 3 0 (fun y => y.map enc) c_l_draw (hr.mono (by decide)) (a_slot 3 (a_cons (si 99) a_nil)) (by exact fun _ _ => ⟨⟨rfl, _, rfl, .ls _ (flatA_map _)⟩, ⟨rfl, fun _ => Flat.flat _⟩, trivial⟩)) (si 49)) a_nil))) a_nil) (by exact fun _ _ => ⟨⟨rfl, fun _ => Flat.flat _⟩, trivial⟩)) (SN.se (s_lc (α := Int) (set := (fun (g : G_law) (a : Int) => { g with v_at3 := a })) (ok := blkOk_by (N := N_law) (sc := defScope sS_law) (by decide +kernel)) [("_law_at", 10)] V_law_11  rfl sc_law.nd (i_rng1 B.range (si 9)) (fun _ _ _ _ _ => (g_name (Ve' := V_law_11) 10 (fun (g : G_law) (a : Int) => { g with v_at3 := a }) (hN := sc_law.nd))) (fun _ _ _ _ _ => ts_nil) (fun _ _ _ _ _ => (s_eq hr.units (svT 10 (fun g : G_law => g.v_at3)) (si 0)))))) (s_last (SS.pre (Ve := V_law_5) (Ve' := V_law_12) (c_ret xfr_ok (sb false)) (fun _ => ⟨.refl _, .refl _, .refl _, .give (.ls _), .refl _, .refl _, .refl _, .no _, .no _, .no _, .no _, trivial⟩) (by exact ⟨trivial, trivial⟩) (by exact ⟨trivial, trivial⟩)))
      s_nil))))))))) (fun _ => ⟨.refl _, .refl _, .no _, .no _, .no _, .no _, .no _, .no _, .no _, .no _, .no _, trivial⟩) (by exact ⟨trivial, trivial⟩) (by exact ⟨trivial, trivial⟩)))
      (s_last (c_ret xfr_ok (sb true)))))
end HL
namespace HL
open PySem PySem.Spec PyProof.Rows L2
def PotOk (p : List Int) : Prop := ∃ a b, p = [a, b] ∧ Bd 60 b
theorem sp_pot {ns : List Int} {k : Int} (hk : Bd 20 k) (h0 : 0 ≤ k) : (F_l_pot (ns, k, ())).post (fun p _ => PotOk p) nXF := by
  unfold F_l_pot
  first | rw [q_fin] | rw [q_finT] | rw [q_finX]
  simp only [b_l_pot, in_l_pot, io_l_pot, p_pure, p_bind, p_op1, p_op2, p_op3, p_and, p_or, p_not, p_ite, p_pair, p_scr, p_ixO, p_sl, p_call, p_callIo, p_comp, o_some', o_add, o_sub, o_mul, o_fdiv, o_mod, o_pow, o_lt, o_le, o_gt, o_ge, o_neg, o_eq, o_ne, o_len, o_abs, o_max, o_min, o_intB, o_sum, o_all, o_any, o_list, o_cat, o_rev, o_enum, o_zip, o_countI, o_rng1, o_rng2, o_at0, o_at1, o_at2, o_set0, o_set1, o_set2, o_in, o_notin, o_is, o_isnt, o_isNone, o_isSome, o_sortI, o_sortT, o_sortSet, o_lenSet, o_divmod, p_ch, q_sixName, q_bind, q_set, q_ret, q_drop, q_if, q_nx, q_raise, q_app, q_ext, q_six, q_aug, q_augIx, q_for, q_try1, q_up, q_appK, o_inL, o_inR, o_unL, o_unR, o_unO, o_rep, o_rng3, o_upO, o_unOs, Int.reduceToNat, Int.reducePow, Int.reduceMul, Int.reduceAdd, Int.reduceSub, o_lenStr, o_join, q_try9, o_isX, o_isL]
  have e : ∀ n : Int, Bd 60 (n.fmod 2147483629 + 1) := fun n => by
    have := fmod_lt (a := n) (b := 2147483629) (by decide)
    unfold Bd
    omega
  split
  · rename_i hl
    exact o_at h0 (by simpa using hl) fun d _ => ⟨by decide, (mulOk (by (repeat (first | assumption | with_reducible apply Bd.add | with_reducible apply Bd.sub | with_reducible apply Bd.mul | with_reducible apply Bd.neg | with_reducible apply Bd.fmod | with_reducible apply Bd.fdiv | with_reducible apply Bd.abs | with_reducible apply Bd.max | with_reducible apply Bd.min | with_reducible apply Bd.pow | with_reducible exact bdLit | decide | omega))) (by (repeat (first | assumption | with_reducible apply Bd.add | with_reducible apply Bd.sub | with_reducible apply Bd.mul | with_reducible apply Bd.neg | with_reducible apply Bd.fmod | with_reducible apply Bd.fdiv | with_reducible apply Bd.abs | with_reducible apply Bd.max | with_reducible apply Bd.min | with_reducible apply Bd.pow | with_reducible exact bdLit | decide | omega))) (by decide +kernel)), by decide, _, _, rfl, e _⟩
  · exact ⟨by decide, (mulOk (by (repeat (first | assumption | with_reducible apply Bd.add | with_reducible apply Bd.sub | with_reducible apply Bd.mul | with_reducible apply Bd.neg | with_reducible apply Bd.fmod | with_reducible apply Bd.fdiv | with_reducible apply Bd.abs | with_reducible apply Bd.max | with_reducible apply Bd.min | with_reducible apply Bd.pow | with_reducible exact bdLit | decide | omega))) (by (repeat (first | assumption | with_reducible apply Bd.add | with_reducible apply Bd.sub | with_reducible apply Bd.mul | with_reducible apply Bd.neg | with_reducible apply Bd.fmod | with_reducible apply Bd.fdiv | with_reducible apply Bd.abs | with_reducible apply Bd.max | with_reducible apply Bd.min | with_reducible apply Bd.pow | with_reducible exact bdLit | decide | omega))) (by decide +kernel)), by decide, _, _, rfl, e _⟩
theorem sp_draw {p : List Int} {m : Int} (hp : PotOk p) (hm : 0 < m) (hm2 : Bd 8000 m) : (F_l_draw (p, m, ())).post (fun d q => 0 ≤ d ∧ d < m ∧ PotOk q) nXF := by
  obtain ⟨a, b, rfl, hb⟩ := hp
  unfold F_l_draw
  first | rw [q_fin] | rw [q_finT] | rw [q_finX]
  simp only [b_l_draw, in_l_draw, io_l_draw, p_pure, p_bind, p_op1, p_op2, p_op3, p_and, p_or, p_not, p_ite, p_pair, p_scr, p_ixO, p_sl, p_call, p_callIo, p_comp, o_some', o_add, o_sub, o_mul, o_fdiv, o_mod, o_pow, o_lt, o_le, o_gt, o_ge, o_neg, o_eq, o_ne, o_len, o_abs, o_max, o_min, o_intB, o_sum, o_all, o_any, o_list, o_cat, o_rev, o_enum, o_zip, o_countI, o_rng1, o_rng2, o_at0, o_at1, o_at2, o_set0, o_set1, o_set2, o_in, o_notin, o_is, o_isnt, o_isNone, o_isSome, o_sortI, o_sortT, o_sortSet, o_lenSet, o_divmod, p_ch, q_sixName, q_bind, q_set, q_ret, q_drop, q_if, q_nx, q_raise, q_app, q_ext, q_six, q_aug, q_augIx, q_for, q_try1, q_up, q_appK, o_inL, o_inR, o_unL, o_unR, o_unO, o_rep, o_rng3, o_upO, o_unOs, Int.reduceToNat, Int.reducePow, Int.reduceMul, Int.reduceAdd, Int.reduceSub, o_lenStr, o_join, q_try9, o_isX, o_isL]
  split
  · exact ⟨divOk hm2 (by omega) (by decide), (fmod_lt hm).1, (fmod_lt hm).2, _, _, rfl, hb⟩
  · refine ⟨(mulOk (by (repeat (first | assumption | with_reducible apply Bd.add | with_reducible apply Bd.sub | with_reducible apply Bd.mul | with_reducible apply Bd.neg | with_reducible apply Bd.fmod | with_reducible apply Bd.fdiv | with_reducible apply Bd.abs | with_reducible apply Bd.max | with_reducible apply Bd.min | with_reducible apply Bd.pow | with_reducible exact bdLit | decide | omega))) (by (repeat (first | assumption | with_reducible apply Bd.add | with_reducible apply Bd.sub | with_reducible apply Bd.mul | with_reducible apply Bd.neg | with_reducible apply Bd.fmod | with_reducible apply Bd.fdiv | with_reducible apply Bd.abs | with_reducible apply Bd.max | with_reducible apply Bd.min | with_reducible apply Bd.pow | with_reducible exact bdLit | decide | omega))) (by decide +kernel)), by decide, (mulOk (by (repeat (first | assumption | with_reducible apply Bd.add | with_reducible apply Bd.sub | with_reducible apply Bd.mul | with_reducible apply Bd.neg | with_reducible apply Bd.fmod | with_reducible apply Bd.fdiv | with_reducible apply Bd.abs | with_reducible apply Bd.max | with_reducible apply Bd.min | with_reducible apply Bd.pow | with_reducible exact bdLit | decide | omega))) (by (repeat (first | assumption | with_reducible apply Bd.add | with_reducible apply Bd.sub | with_reducible apply Bd.mul | with_reducible apply Bd.neg | with_reducible apply Bd.fmod | with_reducible apply Bd.fdiv | with_reducible apply Bd.abs | with_reducible apply Bd.max | with_reducible apply Bd.min | with_reducible apply Bd.pow | with_reducible exact bdLit | decide | omega))) (by decide +kernel)), by decide, (divOk (by (repeat (first | assumption | with_reducible apply Bd.add | with_reducible apply Bd.sub | with_reducible apply Bd.mul | with_reducible apply Bd.neg | with_reducible apply Bd.fmod | with_reducible apply Bd.fdiv | with_reducible apply Bd.abs | with_reducible apply Bd.max | with_reducible apply Bd.min | with_reducible apply Bd.pow | with_reducible exact bdLit | decide | omega))) (by omega) (by decide +kernel)), by omega, (fmod_lt hm).1, (fmod_lt hm).2, _, _, rfl, ?_⟩
    exact Bd.mono (by (repeat (first | assumption | with_reducible apply Bd.add | with_reducible apply Bd.sub | with_reducible apply Bd.mul | with_reducible apply Bd.neg | with_reducible apply Bd.fmod | with_reducible apply Bd.fdiv | with_reducible apply Bd.abs | with_reducible apply Bd.max | with_reducible apply Bd.min | with_reducible apply Bd.pow | with_reducible exact bdLit | decide | omega))) (show _ ≤ _ by decide +kernel)
def kindsL (x : Str) : List Bool := nine.map fun y => decide (x = y)
def nineE : List Ex := [⟨"NoLine"⟩, ⟨"Empty"⟩, ⟨"NoText"⟩, ⟨"NoFlat"⟩, ⟨"NoShare"⟩, ⟨"NoRows"⟩, ⟨"Lacking"⟩, ⟨"NoRow"⟩, ⟨"NoName"⟩]
theorem due_eq {k : Int} (h0 : 0 ≤ k) (h9 : k < 9) : ∃ x, x ∈ nine ∧ atI nineE k = some ⟨x⟩ ∧ nine[k.toNat]? = some x ∧ kindsL x = (rangeL 0 9).map fun a => decide (a = k) := by
  have : k = 0 ∨ k = 1 ∨ k = 2 ∨ k = 3 ∨ k = 4 ∨ k = 5 ∨ k = 6 ∨ k = 7 ∨ k = 8 := by omega
  rcases this with rfl | rfl | rfl | rfl | rfl | rfl | rfl | rfl | rfl <;> exact ⟨_, by decide, rfl, rfl, by decide⟩
theorem kinds_w (x : Str) : R_l_kinds_w x = kindsL x := rfl
theorem sp_kinds {e : Ex} (h : e.name ∈ nine) : (F_l_kinds_data (e, ())).post (fun r _ => r = kindsL e.name) nXF := by
  unfold F_l_kinds_data
  first | rw [q_fin] | rw [q_finT] | rw [q_finX]
  simp only [b_l_kinds_data, in_l_kinds_data, io_l_kinds_data, p_pure, p_bind, p_op1, p_op2, p_op3, p_and, p_or, p_not, p_ite, p_pair, p_scr, p_ixO, p_sl, p_call, p_callIo, p_comp, o_some', o_add, o_sub, o_mul, o_fdiv, o_mod, o_pow, o_lt, o_le, o_gt, o_ge, o_neg, o_eq, o_ne, o_len, o_abs, o_max, o_min, o_intB, o_sum, o_all, o_any, o_list, o_cat, o_rev, o_enum, o_zip, o_countI, o_rng1, o_rng2, o_at0, o_at1, o_at2, o_set0, o_set1, o_set2, o_in, o_notin, o_is, o_isnt, o_isNone, o_isSome, o_sortI, o_sortT, o_sortSet, o_lenSet, o_divmod, p_ch, q_sixName, q_bind, q_set, q_ret, q_drop, q_if, q_nx, q_raise, q_app, q_ext, q_six, q_aug, q_augIx, q_for, q_try1, q_up, q_appK, o_inL, o_inR, o_unL, o_unR, o_unO, o_rep, o_rng3, o_upO, o_unOs, Int.reduceToNat, Int.reducePow, Int.reduceMul, Int.reduceAdd, Int.reduceSub, o_lenStr, o_join, q_try9, o_isX, o_isL]
  simp only [h, true_and]
  exact ⟨by simp, by simp, rfl⟩
theorem if2 {c : Prop} [Decidable c] {P Q : Prop} (h : c → P) (k : ¬ c → Q) : if c then P else Q := by
  split
  · exact h ‹_›
  · exact k ‹_›
theorem sp_raise {k : Int} {t : Str} (h0 : 0 ≤ k) (h9 : k < 9) : (F_l_raise (k, t, ())).post (fun _ _ => False) (fun c => nine[k.toNat]? = some c) := by
  unfold F_l_raise
  first | rw [q_fin] | rw [q_finT] | rw [q_finX]
  simp only [b_l_raise, in_l_raise, io_l_raise, p_pure, p_bind, p_op1, p_op2, p_op3, p_and, p_or, p_not, p_ite, p_pair, p_scr, p_ixO, p_sl, p_call, p_callIo, p_comp, o_some', o_add, o_sub, o_mul, o_fdiv, o_mod, o_pow, o_lt, o_le, o_gt, o_ge, o_neg, o_eq, o_ne, o_len, o_abs, o_max, o_min, o_intB, o_sum, o_all, o_any, o_list, o_cat, o_rev, o_enum, o_zip, o_countI, o_rng1, o_rng2, o_at0, o_at1, o_at2, o_set0, o_set1, o_set2, o_in, o_notin, o_is, o_isnt, o_isNone, o_isSome, o_sortI, o_sortT, o_sortSet, o_lenSet, o_divmod, p_ch, q_sixName, q_bind, q_set, q_ret, q_drop, q_if, q_nx, q_raise, q_app, q_ext, q_six, q_aug, q_augIx, q_for, q_try1, q_up, q_appK, o_inL, o_inR, o_unL, o_unR, o_unO, o_rep, o_rng3, o_upO, o_unOs, Int.reduceToNat, Int.reducePow, Int.reduceMul, Int.reduceAdd, Int.reduceSub, o_lenStr, o_join, q_try9, o_isX, o_isL]
  have : k = 0 ∨ k = 1 ∨ k = 2 ∨ k = 3 ∨ k = 4 ∨ k = 5 ∨ k = 6 ∨ k = 7 ∨ k = 8 := by omega
  rcases this with rfl | rfl | rfl | rfl | rfl | rfl | rfl | rfl | rfl <;> rfl
theorem sp_raised {k : Int} {t : Str} (h0 : 0 ≤ k) (h9 : k < 9) : (F_l_raised (k, t, ())).post (fun r _ => r = (rangeL 0 9).map fun a => decide (a = k)) nXF := by
  obtain ⟨x, m, _, e1, e2⟩ := due_eq h0 h9
  unfold F_l_raised
  first | rw [q_fin] | rw [q_finT] | rw [q_finX]
  simp only [b_l_raised, in_l_raised, io_l_raised, p_pure, p_bind, p_op1, p_op2, p_op3, p_and, p_or, p_not, p_ite, p_pair, p_scr, p_ixO, p_sl, p_call, p_callIo, p_comp, o_some', o_add, o_sub, o_mul, o_fdiv, o_mod, o_pow, o_lt, o_le, o_gt, o_ge, o_neg, o_eq, o_ne, o_len, o_abs, o_max, o_min, o_intB, o_sum, o_all, o_any, o_list, o_cat, o_rev, o_enum, o_zip, o_countI, o_rng1, o_rng2, o_at0, o_at1, o_at2, o_set0, o_set1, o_set2, o_in, o_notin, o_is, o_isnt, o_isNone, o_isSome, o_sortI, o_sortT, o_sortSet, o_lenSet, o_divmod, p_ch, q_sixName, q_bind, q_set, q_ret, q_drop, q_if, q_nx, q_raise, q_app, q_ext, q_six, q_aug, q_augIx, q_for, q_try1, q_up, q_appK, o_inL, o_inR, o_unL, o_unR, o_unO, o_rep, o_rng3, o_upO, o_unOs, Int.reduceToNat, Int.reducePow, Int.reduceMul, Int.reduceAdd, Int.reduceSub, o_lenStr, o_join, q_try9, o_isX, o_isL]
  refine fImp (sp_raise h0 h9) (fun f _ h => h.elim) fun c h => ?_
  rw [e1] at h
  obtain rfl := Option.some.inj h
  refine ⟨m, ?_⟩
  rw [kinds_w, e2]
theorem sp_thr {p : Int × Int} : (F_through (p, p, ())).post (fun _ _ => False) (fun c => c = "NoLine") := by
  unfold F_through
  first | rw [q_fin] | rw [q_finT] | rw [q_finX]
  simp only [b_through, in_through, io_through, p_pure, p_bind, p_op1, p_op2, p_op3, p_and, p_or, p_not, p_ite, p_pair, p_scr, p_ixO, p_sl, p_call, p_callIo, p_comp, o_some', o_add, o_sub, o_mul, o_fdiv, o_mod, o_pow, o_lt, o_le, o_gt, o_ge, o_neg, o_eq, o_ne, o_len, o_abs, o_max, o_min, o_intB, o_sum, o_all, o_any, o_list, o_cat, o_rev, o_enum, o_zip, o_countI, o_rng1, o_rng2, o_at0, o_at1, o_at2, o_set0, o_set1, o_set2, o_in, o_notin, o_is, o_isnt, o_isNone, o_isSome, o_sortI, o_sortT, o_sortSet, o_lenSet, o_divmod, p_ch, q_sixName, q_bind, q_set, q_ret, q_drop, q_if, q_nx, q_raise, q_app, q_ext, q_six, q_aug, q_augIx, q_for, q_try1, q_up, q_appK, o_inL, o_inR, o_unL, o_unR, o_unO, o_rep, o_rng3, o_upO, o_unOs, Int.reduceToNat, Int.reducePow, Int.reduceMul, Int.reduceAdd, Int.reduceSub, o_lenStr, o_join, q_try9, o_isX, o_isL]
  simp
theorem sp_through {p : Int × Int} : (F_l_through (p, ())).post (fun r _ => r = (rangeL 0 9).map fun a => decide (a = 0)) nXF := by
  obtain ⟨x, m, _, e1, e2⟩ := due_eq (k := 0) (by decide) (by decide)
  have ex : x = "NoLine" := (Option.some.inj e1).symm
  subst ex
  unfold F_l_through
  first | rw [q_fin] | rw [q_finT] | rw [q_finX]
  simp only [b_l_through, in_l_through, io_l_through, p_pure, p_bind, p_op1, p_op2, p_op3, p_and, p_or, p_not, p_ite, p_pair, p_scr, p_ixO, p_sl, p_call, p_callIo, p_comp, o_some', o_add, o_sub, o_mul, o_fdiv, o_mod, o_pow, o_lt, o_le, o_gt, o_ge, o_neg, o_eq, o_ne, o_len, o_abs, o_max, o_min, o_intB, o_sum, o_all, o_any, o_list, o_cat, o_rev, o_enum, o_zip, o_countI, o_rng1, o_rng2, o_at0, o_at1, o_at2, o_set0, o_set1, o_set2, o_in, o_notin, o_is, o_isnt, o_isNone, o_isSome, o_sortI, o_sortT, o_sortSet, o_lenSet, o_divmod, p_ch, q_sixName, q_bind, q_set, q_ret, q_drop, q_if, q_nx, q_raise, q_app, q_ext, q_six, q_aug, q_augIx, q_for, q_try1, q_up, q_appK, o_inL, o_inR, o_unL, o_unR, o_unO, o_rep, o_rng3, o_upO, o_unOs, Int.reduceToNat, Int.reducePow, Int.reduceMul, Int.reduceAdd, Int.reduceSub, o_lenStr, o_join, q_try9, o_isX, o_isL]
  refine fImp sp_thr (fun f _ h => h.elim) fun c h => ?_
  refine ⟨h, ?_⟩
  rw [kinds_w, e2]
theorem o_atS {s : Str} {k : Int} {Q : Str → Prop} (hs : s.length ≤ 100000) (h0 : 0 ≤ k) (h : k < s.length) (q : ∀ x : Str, x.length = 1 → Q x) : opt (atSQ s k) Q := by
  unfold atSQ
  rw [if_pos hs]
  have hl : s.cps.toList.length = s.length := by simp [Str.length]
  obtain ⟨c, e, _⟩ := at_mem (l := s.cps.toList) h0 (by rw [hl]; exact h)
  rw [e]
  exact q _ rfl
def signsT : Str := "abcdefghijklmnopqrstuvwxyz BZ,.-0123456789"
theorem signs_len : signsT.length = 42 := by decide
theorem sum_one : ∀ {l : List Str}, (∀ x ∈ l, x.length = 1) → (l.map fun x => x.length).sum = l.length
  | [], _ => rfl
  | x :: l, h => by
    rw [List.map_cons, List.sum_cons, h x List.mem_cons_self, sum_one fun y hy => h y (List.mem_cons_of_mem _ hy), List.length_cons]
    omega
theorem sp_text {p : List Int} (hp : PotOk p) : (F_l_text (p, ())).post (fun _ q => PotOk q) nXF := by
  unfold F_l_text
  first | rw [q_fin] | rw [q_finT] | rw [q_finX]
  simp only [b_l_text, in_l_text, io_l_text, p_pure, p_bind, p_op1, p_op2, p_op3, p_and, p_or, p_not, p_ite, p_pair, p_scr, p_ixO, p_sl, p_call, p_callIo, p_comp, o_some', o_add, o_sub, o_mul, o_fdiv, o_mod, o_pow, o_lt, o_le, o_gt, o_ge, o_neg, o_eq, o_ne, o_len, o_abs, o_max, o_min, o_intB, o_sum, o_all, o_any, o_list, o_cat, o_rev, o_enum, o_zip, o_countI, o_rng1, o_rng2, o_at0, o_at1, o_at2, o_set0, o_set1, o_set2, o_in, o_notin, o_is, o_isnt, o_isNone, o_isSome, o_sortI, o_sortT, o_sortSet, o_lenSet, o_divmod, p_ch, q_sixName, q_bind, q_set, q_ret, q_drop, q_if, q_nx, q_raise, q_app, q_ext, q_six, q_aug, q_augIx, q_for, q_try1, q_up, q_appK, o_inL, o_inR, o_unL, o_unR, o_unO, o_rep, o_rng3, o_upO, o_unOs, Int.reduceToNat, Int.reducePow, Int.reduceMul, Int.reduceAdd, Int.reduceSub, o_lenStr, o_join, q_try9, o_isX, o_isL]
  refine fUse (sp_draw hp (by decide) (by unfold Bd; decide +kernel)) fun b i ⟨b1, b2, hi⟩ => ⟨by omega, ?_, comp_all (fun g => PotOk g.v_pot_here ∧ g.v_signs = signsT) (fun x => x.length = 1) ⟨hi, rfl⟩ (fun ds g e1 e2 h => ⟨?_, h.1⟩) fun a ha g ⟨g1, g2⟩ => ?_⟩
  · rw [rangeL_len]
    show _ ≤ 1000000
    omega
  · rw [sum_one e2, e1, rangeL_len]
    have : (Str.ofString "").length = 0 := by decide
    rw [this]
    omega
  · simp only [p_pure, p_bind, p_op1, p_op2, p_op3, p_and, p_or, p_not, p_ite, p_pair, p_scr, p_ixO, p_sl, p_call, p_callIo, p_comp, o_some', o_add, o_sub, o_mul, o_fdiv, o_mod, o_pow, o_lt, o_le, o_gt, o_ge, o_neg, o_eq, o_ne, o_len, o_abs, o_max, o_min, o_intB, o_sum, o_all, o_any, o_list, o_cat, o_rev, o_enum, o_zip, o_countI, o_rng1, o_rng2, o_at0, o_at1, o_at2, o_set0, o_set1, o_set2, o_in, o_notin, o_is, o_isnt, o_isNone, o_isSome, o_sortI, o_sortT, o_sortSet, o_lenSet, o_divmod, p_ch, q_sixName, q_bind, q_set, q_ret, q_drop, q_if, q_nx, q_raise, q_app, q_ext, q_six, q_aug, q_augIx, q_for, q_try1, q_up, q_appK, o_inL, o_inR, o_unL, o_unR, o_unO, o_rep, o_rng3, o_upO, o_unOs, Int.reduceToNat, Int.reducePow, Int.reduceMul, Int.reduceAdd, Int.reduceSub, o_lenStr, o_join, q_try9, o_isX, o_isL]
    rw [g2]
    refine ⟨by rw [signs_len]; decide, fUse (sp_draw g1 (by rw [signs_len]; decide) (by rw [signs_len]; unfold Bd; decide +kernel)) fun b i ⟨b1, b2, hi⟩ => ?_⟩
    exact o_atS (by rw [signs_len]; decide) b1 b2 fun x hx => ⟨hx, hi, (by first | rfl | trivial | exact ⟨rfl, trivial⟩)⟩
def Jb (ns : List Int) (first : Int) (g : G_law) : Prop := g.v_script = ns ∧ g.v_bare = nineE ∧ g.v_made = nineE ∧ g.v_first = first ∧ PotOk g.v_pot_here
theorem rl9 : (rangeL 0 9).length ≤ LIM := by decide
set_option maxHeartbeats 4000000 in
theorem law_true (ns : List Int) (hn : ns.length ≤ 63) : F_law (ns, ()) = .ok true () := by
  apply FRes.post_eq
  unfold F_law
  first | rw [q_fin] | rw [q_finT] | rw [q_finX]
  simp only [b_law, in_law, io_law, p_pure, p_bind, p_op1, p_op2, p_op3, p_and, p_or, p_not, p_ite, p_pair, p_scr, p_ixO, p_sl, p_call, p_callIo, p_comp, o_some', o_add, o_sub, o_mul, o_fdiv, o_mod, o_pow, o_lt, o_le, o_gt, o_ge, o_neg, o_eq, o_ne, o_len, o_abs, o_max, o_min, o_intB, o_sum, o_all, o_any, o_list, o_cat, o_rev, o_enum, o_zip, o_countI, o_rng1, o_rng2, o_at0, o_at1, o_at2, o_set0, o_set1, o_set2, o_in, o_notin, o_is, o_isnt, o_isNone, o_isSome, o_sortI, o_sortT, o_sortSet, o_lenSet, o_divmod, p_ch, q_sixName, q_bind, q_set, q_ret, q_drop, q_if, q_nx, q_raise, q_app, q_ext, q_six, q_aug, q_augIx, q_for, q_try1, q_up, q_appK, o_inL, o_inR, o_unL, o_unR, o_unO, o_rep, o_rng3, o_upO, o_unOs, Int.reduceToNat, Int.reducePow, Int.reduceMul, Int.reduceAdd, Int.reduceSub, o_lenStr, o_join, q_try9, o_isX, o_isL]
  refine ⟨by omega, for_inv (fun d r g => g.v_script = ns ∧ g.v_bare = nineE) ⟨rfl, rfl⟩ (fun g _ => ⟨(by first | rfl | trivial | exact ⟨rfl, trivial⟩), (by first | rfl | trivial | exact ⟨rfl, trivial⟩)⟩) ?_⟩
  rintro d a r g e ⟨g1, g2⟩
  have hd := rangeL_at e
  simp only [p_pure, p_bind, p_op1, p_op2, p_op3, p_and, p_or, p_not, p_ite, p_pair, p_scr, p_ixO, p_sl, p_call, p_callIo, p_comp, o_some', o_add, o_sub, o_mul, o_fdiv, o_mod, o_pow, o_lt, o_le, o_gt, o_ge, o_neg, o_eq, o_ne, o_len, o_abs, o_max, o_min, o_intB, o_sum, o_all, o_any, o_list, o_cat, o_rev, o_enum, o_zip, o_countI, o_rng1, o_rng2, o_at0, o_at1, o_at2, o_set0, o_set1, o_set2, o_in, o_notin, o_is, o_isnt, o_isNone, o_isSome, o_sortI, o_sortT, o_sortSet, o_lenSet, o_divmod, p_ch, q_sixName, q_bind, q_set, q_ret, q_drop, q_if, q_nx, q_raise, q_app, q_ext, q_six, q_aug, q_augIx, q_for, q_try1, q_up, q_appK, o_inL, o_inR, o_unL, o_unR, o_unO, o_rep, o_rng3, o_upO, o_unOs, Int.reduceToNat, Int.reducePow, Int.reduceMul, Int.reduceAdd, Int.reduceSub, o_lenStr, o_join, q_try9, o_isX, o_isL]
  rw [g1, g2]
  refine fUse (sp_pot (by unfold Bd; omega) (by omega)) fun p _ hp => fUse (sp_text hp) fun told i hi => fUse (sp_draw hi (by decide) (by unfold Bd; decide +kernel)) fun first i ⟨f1, f2, hi⟩ => ?_
  refine ⟨by simp, by decide, for_all (Jb ns first) ⟨rfl, rfl, rfl, rfl, hi⟩ (fun g hg => ?_) fun k hk g hg => ?_⟩
  · obtain ⟨g1, g2, g3, g4, g5⟩ := hg
    rw [g4]
    refine fUse (sp_raised f1 f2) fun b _ eb => ⟨by decide, rl9, comp_map (Jb ns first) (fun a => decide (a = first)) ⟨g1, g2, g3, g4, g5⟩ (fun g hg => ?_) fun a ha g hg => ?_⟩
    · obtain ⟨g1, g2, g3, g4, g5⟩ := hg
      subst eb
      simp only [decide_true, Bool.not_true, Bool.false_eq_true, if_false]
      refine fUse (sp_draw g5 (by decide) (by unfold Bd; decide +kernel)) fun x i ⟨x1, x2, hi⟩ => fUse (sp_draw hi (by decide) (by unfold Bd; decide +kernel)) fun y i ⟨y1, y2, hi⟩ => fUse sp_through fun b _ eb => ⟨by decide, rl9, comp_map (fun g => g.v_script = ns ∧ g.v_bare = nineE) (fun a => decide (a = 0)) ⟨g1, g2⟩ (fun g hg => ?_) fun a ha g hg => ?_⟩
      · subst eb
        simp only [decide_true, Bool.not_true, Bool.false_eq_true, if_false]
        exact hg
      · simp only [p_pure, p_bind, p_op1, p_op2, p_op3, p_and, p_or, p_not, p_ite, p_pair, p_scr, p_ixO, p_sl, p_call, p_callIo, p_comp, o_some', o_add, o_sub, o_mul, o_fdiv, o_mod, o_pow, o_lt, o_le, o_gt, o_ge, o_neg, o_eq, o_ne, o_len, o_abs, o_max, o_min, o_intB, o_sum, o_all, o_any, o_list, o_cat, o_rev, o_enum, o_zip, o_countI, o_rng1, o_rng2, o_at0, o_at1, o_at2, o_set0, o_set1, o_set2, o_in, o_notin, o_is, o_isnt, o_isNone, o_isSome, o_sortI, o_sortT, o_sortSet, o_lenSet, o_divmod, p_ch, q_sixName, q_bind, q_set, q_ret, q_drop, q_if, q_nx, q_raise, q_app, q_ext, q_six, q_aug, q_augIx, q_for, q_try1, q_up, q_appK, o_inL, o_inR, o_unL, o_unR, o_unO, o_rep, o_rng3, o_upO, o_unOs, Int.reduceToNat, Int.reducePow, Int.reduceMul, Int.reduceAdd, Int.reduceSub, o_lenStr, o_join, q_try9, o_isX, o_isL]
        exact ⟨(by first | rfl | trivial | exact ⟨rfl, trivial⟩), hg⟩
    · simp only [p_pure, p_bind, p_op1, p_op2, p_op3, p_and, p_or, p_not, p_ite, p_pair, p_scr, p_ixO, p_sl, p_call, p_callIo, p_comp, o_some', o_add, o_sub, o_mul, o_fdiv, o_mod, o_pow, o_lt, o_le, o_gt, o_ge, o_neg, o_eq, o_ne, o_len, o_abs, o_max, o_min, o_intB, o_sum, o_all, o_any, o_list, o_cat, o_rev, o_enum, o_zip, o_countI, o_rng1, o_rng2, o_at0, o_at1, o_at2, o_set0, o_set1, o_set2, o_in, o_notin, o_is, o_isnt, o_isNone, o_isSome, o_sortI, o_sortT, o_sortSet, o_lenSet, o_divmod, p_ch, q_sixName, q_bind, q_set, q_ret, q_drop, q_if, q_nx, q_raise, q_app, q_ext, q_six, q_aug, q_augIx, q_for, q_try1, q_up, q_appK, o_inL, o_inR, o_unL, o_unR, o_unO, o_rep, o_rng3, o_upO, o_unOs, Int.reduceToNat, Int.reducePow, Int.reduceMul, Int.reduceAdd, Int.reduceSub, o_lenStr, o_join, q_try9, o_isX, o_isL]
      obtain ⟨g1, g2, g3, g4, g5⟩ := hg
      rw [g4]
      exact ⟨(by first | rfl | trivial | exact ⟨rfl, trivial⟩), g1, g2, g3, (by first | rfl | trivial | exact ⟨rfl, trivial⟩), g5⟩
  · obtain ⟨k0, k9⟩ := rangeL_mem hk
    obtain ⟨x, m, e1, e2, e3⟩ := due_eq k0 (by omega)
    simp only [p_pure, p_bind, p_op1, p_op2, p_op3, p_and, p_or, p_not, p_ite, p_pair, p_scr, p_ixO, p_sl, p_call, p_callIo, p_comp, o_some', o_add, o_sub, o_mul, o_fdiv, o_mod, o_pow, o_lt, o_le, o_gt, o_ge, o_neg, o_eq, o_ne, o_len, o_abs, o_max, o_min, o_intB, o_sum, o_all, o_any, o_list, o_cat, o_rev, o_enum, o_zip, o_countI, o_rng1, o_rng2, o_at0, o_at1, o_at2, o_set0, o_set1, o_set2, o_in, o_notin, o_is, o_isnt, o_isNone, o_isSome, o_sortI, o_sortT, o_sortSet, o_lenSet, o_divmod, p_ch, q_sixName, q_bind, q_set, q_ret, q_drop, q_if, q_nx, q_raise, q_app, q_ext, q_six, q_aug, q_augIx, q_for, q_try1, q_up, q_appK, o_inL, o_inR, o_unL, o_unR, o_unO, o_rep, o_rng3, o_upO, o_unOs, Int.reduceToNat, Int.reducePow, Int.reduceMul, Int.reduceAdd, Int.reduceSub, o_lenStr, o_join, q_try9, o_isX, o_isL]
    refine ⟨by decide, rl9, comp_map (fun g => Jb ns first g ∧ g.v_k = k) (fun a => decide (a = k)) ⟨hg, (by first | rfl | trivial | exact ⟨rfl, trivial⟩)⟩ (fun g hg => ?_) fun a ha g hg => ?_⟩
    · obtain ⟨⟨g1, g2, g3, g4, g5⟩, g6⟩ := hg
      rw [g2, g3, g6, e1, ← e3]
      refine for_all (fun g => Jb ns first g ∧ g.v_due = kindsL x) ⟨⟨g1, (by first | rfl | trivial | exact ⟨rfl, trivial⟩), (by first | rfl | trivial | exact ⟨rfl, trivial⟩), g4, g5⟩, (by first | rfl | trivial | exact ⟨rfl, trivial⟩)⟩ (fun g hg => hg.1) fun q hq g hg => ?_
      have eq : q = ⟨x⟩ := by
        rcases List.mem_cons.mp hq with z | z
        · exact z
        · exact List.mem_singleton.mp z
      subst eq
      simp only [p_pure, p_bind, p_op1, p_op2, p_op3, p_and, p_or, p_not, p_ite, p_pair, p_scr, p_ixO, p_sl, p_call, p_callIo, p_comp, o_some', o_add, o_sub, o_mul, o_fdiv, o_mod, o_pow, o_lt, o_le, o_gt, o_ge, o_neg, o_eq, o_ne, o_len, o_abs, o_max, o_min, o_intB, o_sum, o_all, o_any, o_list, o_cat, o_rev, o_enum, o_zip, o_countI, o_rng1, o_rng2, o_at0, o_at1, o_at2, o_set0, o_set1, o_set2, o_in, o_notin, o_is, o_isnt, o_isNone, o_isSome, o_sortI, o_sortT, o_sortSet, o_lenSet, o_divmod, p_ch, q_sixName, q_bind, q_set, q_ret, q_drop, q_if, q_nx, q_raise, q_app, q_ext, q_six, q_aug, q_augIx, q_for, q_try1, q_up, q_appK, o_inL, o_inR, o_unL, o_unR, o_unO, o_rep, o_rng3, o_upO, o_unOs, Int.reduceToNat, Int.reducePow, Int.reduceMul, Int.reduceAdd, Int.reduceSub, o_lenStr, o_join, q_try9, o_isX, o_isL]
      rw [hg.2]
      refine fUse (sp_kinds m) fun b _ eb => ?_
      subst eb
      simp only [decide_true, Bool.not_true, Bool.false_eq_true, if_false]
      exact ⟨m, m, hg.1, (by first | rfl | trivial | exact ⟨rfl, trivial⟩)⟩
    · simp only [p_pure, p_bind, p_op1, p_op2, p_op3, p_and, p_or, p_not, p_ite, p_pair, p_scr, p_ixO, p_sl, p_call, p_callIo, p_comp, o_some', o_add, o_sub, o_mul, o_fdiv, o_mod, o_pow, o_lt, o_le, o_gt, o_ge, o_neg, o_eq, o_ne, o_len, o_abs, o_max, o_min, o_intB, o_sum, o_all, o_any, o_list, o_cat, o_rev, o_enum, o_zip, o_countI, o_rng1, o_rng2, o_at0, o_at1, o_at2, o_set0, o_set1, o_set2, o_in, o_notin, o_is, o_isnt, o_isNone, o_isSome, o_sortI, o_sortT, o_sortSet, o_lenSet, o_divmod, p_ch, q_sixName, q_bind, q_set, q_ret, q_drop, q_if, q_nx, q_raise, q_app, q_ext, q_six, q_aug, q_augIx, q_for, q_try1, q_up, q_appK, o_inL, o_inR, o_unL, o_unR, o_unO, o_rep, o_rng3, o_upO, o_unOs, Int.reduceToNat, Int.reducePow, Int.reduceMul, Int.reduceAdd, Int.reduceSub, o_lenStr, o_join, q_try9, o_isX, o_isL]
      obtain ⟨⟨g1, g2, g3, g4, g5⟩, g6⟩ := hg
      rw [g6]
      exact ⟨(by first | rfl | trivial | exact ⟨rfl, trivial⟩), ⟨g1, g2, g3, g4, g5⟩, (by first | rfl | trivial | exact ⟨rfl, trivial⟩)⟩
end HL
/-! Hx: the head's facts about classes of refusals. -/
namespace HL
open PySem PySem.Spec PyProof.Rows L2
def eqOV (a : Option (Option Value)) (b : Option (Option Value)) : Bool := decide (a = b)
def excB (K : PySem.W.Frag) (D : Addr) : Bool :=
  eqOV (PySem.W.findIn K (.ref D) "__getattribute__") (some (some (.builtin "BaseException.__getattribute__"))) && (eqOV (PySem.W.findIn K (.ref D) "__getattr__") (some none) && (decide (PySem.W.subIn K (.ref D) (.type "BaseException") = some true) && (PySem.W.hasDictIn K D &&
  (eqOV (PySem.W.findIn K (.ref D) "__class__") (some (some (.builtin "object.__class__"))) && (eqOV (PySem.W.specialIn K (.builtin "object.__class__") "__get__") (some (some (.builtin "getset_descriptor.__get__"))) && (decide (PySem.W.takesIn K (.builtin "object.__class__") = some true) && decide (PySem.W.mroIn K D (.type "object") = some true)))))))
theorem excB_ok {K : PySem.W.Frag} {D : Addr} (h : excB K D = true) : ExcC K D := by
  unfold excB eqOV at h
  simp only [Bool.and_eq_true, decide_eq_true_eq] at h
  obtain ⟨h1, h2, h3, h4, h5, h6, h7, h8⟩ := h
  exact ⟨h1, h2, h3, h4, h5, h6, h7, h8⟩
inductive Fk where
  | exc (x : Str)
  | one (x y : Str) (b : Bool)
  | oneB (x : Str) (T : String) (b : Bool)
  | any (x : Str) (ys : List Str) (b : Bool)
def Fk.ok (K : PySem.W.Frag) : Fk → Bool
  | .exc x => excB K (He.ga K x)
  | .one x y b => decide (PySem.W.kitOne K (.ref (He.ga K x)) (.ref (He.ga K y)) = some b)
  | .oneB x T b => decide (PySem.W.kitOne K (.ref (He.ga K x)) (.type T) = some b)
  | .any x ys b => decide (PySem.W.kitAny K (.ref (He.ga K x)) (ys.map fun y => .ref (He.ga K y)) = some b)
def obsX (fa : List He.Fa) (fn : List He.FnD) (fk : List Fk) (K : PySem.W.Frag) : He.Al := ((He.obsE fa fn K).1 && fk.all fun f => f.ok K, (He.obsE fa fn K).2)
def SaysX (fa : List He.Fa) (fn : List He.FnD) (fk : List Fk) (K : PySem.W.Frag) : Prop := obsX fa fn fk K = He.valE fn
def obsXG (n : Nat) (fa : List He.Fa) (fn : List He.FnD) (fk : List Fk) (g : Addr → Option Obj) : He.Al := obsX fa fn fk (He.frG g (He.asG g n))
def hookX (n : Nat) (fa : List He.Fa) (fn : List He.FnD) (fk : List Fk) : PySem.W.Hook where
  α := He.Al
  obs := fun s => obsXG n fa fn fk s.heap.get?
  val := fun _ => He.valE fn
  says := fun _ h => ∃ K : PySem.W.Frag, K.In h ∧ SaysX fa fn fk K
  of := fun _ _ e => ⟨_, He.frG_in, e⟩
  keeps := fun _ _ _ ⟨K, hK, c⟩ k => ⟨K, PySem.W.Frag.In.keeps hK k, c⟩
theorem obsXG_eq {n : Nat} {fa : List He.Fa} {fn : List He.FnD} {fk : List Fk} {g : Addr → Option Obj} {s : Shared} (h : ∀ a, g a = s.heap.get? a) : obsXG n fa fn fk g = (hookX n fa fn fk).obs s := by
  have e : g = s.heap.get? := funext h
  rw [e]
  rfl
theorem SaysX.says {fa : List He.Fa} {fn : List He.FnD} {fk : List Fk} {K : PySem.W.Frag} (c : SaysX fa fn fk K) : He.SaysE fa fn K := by
  have h1 : ((He.obsE fa fn K).1 && fk.all fun f => f.ok K) = true := congrArg (fun z : He.Al => z.1) c
  have h2 : (obsX fa fn fk K).2 = (He.valE fn).2 := congrArg (fun z : He.Al => z.2) c
  exact Prod.ext (Bool.and_eq_true_iff.mp h1).1 h2
theorem SaysX.cls {fa : List He.Fa} {fn : List He.FnD} {fk : List Fk} {K : PySem.W.Frag} (c : SaysX fa fn fk K) (i : Nat) {f : Fk} (h : fk[i]? = some f := by rfl) : f.ok K = true := by
  have h1 : ((He.obsE fa fn K).1 && fk.all fun f => f.ok K) = true := congrArg (fun z : He.Al => z.1) c
  exact List.all_eq_true.mp (Bool.and_eq_true_iff.mp h1).2 f (List.mem_of_getElem? h)
end HL
namespace HL
open PySem PySem.Spec PyProof.Rows L2
def dD (i : Nat) (x : Str) : He.FnD := ⟨(x, none), x, x, defArgs (topS i), defBody (topS i), defScope (topS i)⟩
def hFn_0 : List He.FnD := [dD 12 "common", dD 13 "through", dD 15 "_law_pot", dD 16 "_law_draw", dD 17 "_law_text", dD 18 "_law_kinds", dD 19 "_law_raised", dD 20 "_law_raise", dD 21 "_law_through", dD 22 "law"]
def hFn : List He.FnD := hFn_0
def hFa_0 : List He.Fa := [.glo "common", .keep "common", .glo "through", .keep "through", .glo "_law_pot", .keep "_law_pot", .glo "_law_draw", .keep "_law_draw", .glo "_law_text", .keep "_law_text", .glo "_law_kinds", .keep "_law_kinds", .glo "_law_raised", .keep "_law_raised", .glo "_law_raise", .keep "_law_raise", .glo "_law_through", .keep "_law_through", .glo "law", .keep "law", .free "len", .free "abs", .free "max", .free "min", .free "int", .free "sum", .free "all", .free "any", .free "list", .free "tuple"]
def hFa_1 : List He.Fa := [.free "sorted", .free "set", .free "range", .free "enumerate", .free "zip", .free "reversed", .free "isinstance", .free "divmod", .free "str", .free "bool", .free "dict", .free "repr", .free "ValueError", .glo "NoLine", .exc "NoLine", .glo "Empty", .exc "Empty", .glo "NoText", .exc "NoText", .glo "NoFlat", .exc "NoFlat", .glo "NoShare", .exc "NoShare", .glo "NoRows", .exc "NoRows", .glo "Lacking", .exc "Lacking", .glo "NoRow", .exc "NoRow", .glo "NoName"]
def hFa_2 : List He.Fa := [.exc "NoName", .glo "LineError", .exm "NoLine" "LineError" true, .exm "Empty" "LineError" true, .exm "NoText" "LineError" true, .exm "NoFlat" "LineError" true, .exm "NoShare" "LineError" true, .exm "NoRows" "LineError" true, .exm "Lacking" "LineError" true, .exm "NoRow" "LineError" true, .exm "NoName" "LineError" true]
def hFa : List He.Fa := hFa_0 ++ hFa_1 ++ hFa_2
def hFk_0 : List Fk := [.exc "NoLine", .one "NoLine" "NoLine" true, .one "NoLine" "Empty" false, .one "NoLine" "NoText" false, .one "NoLine" "NoFlat" false, .one "NoLine" "NoShare" false, .one "NoLine" "NoRows" false, .one "NoLine" "Lacking" false, .one "NoLine" "NoRow" false, .one "NoLine" "NoName" false, .one "NoLine" "LineError" true, .oneB "NoLine" "ValueError" true, .exc "Empty", .one "Empty" "NoLine" false, .one "Empty" "Empty" true, .one "Empty" "NoText" false, .one "Empty" "NoFlat" false, .one "Empty" "NoShare" false, .one "Empty" "NoRows" false, .one "Empty" "Lacking" false, .one "Empty" "NoRow" false, .one "Empty" "NoName" false, .one "Empty" "LineError" true, .oneB "Empty" "ValueError" true, .exc "NoText", .one "NoText" "NoLine" false, .one "NoText" "Empty" false, .one "NoText" "NoText" true, .one "NoText" "NoFlat" false, .one "NoText" "NoShare" false]
def hFk_1 : List Fk := [.one "NoText" "NoRows" false, .one "NoText" "Lacking" false, .one "NoText" "NoRow" false, .one "NoText" "NoName" false, .one "NoText" "LineError" true, .oneB "NoText" "ValueError" true, .exc "NoFlat", .one "NoFlat" "NoLine" false, .one "NoFlat" "Empty" false, .one "NoFlat" "NoText" false, .one "NoFlat" "NoFlat" true, .one "NoFlat" "NoShare" false, .one "NoFlat" "NoRows" false, .one "NoFlat" "Lacking" false, .one "NoFlat" "NoRow" false, .one "NoFlat" "NoName" false, .one "NoFlat" "LineError" true, .oneB "NoFlat" "ValueError" true, .exc "NoShare", .one "NoShare" "NoLine" false, .one "NoShare" "Empty" false, .one "NoShare" "NoText" false, .one "NoShare" "NoFlat" false, .one "NoShare" "NoShare" true, .one "NoShare" "NoRows" false, .one "NoShare" "Lacking" false, .one "NoShare" "NoRow" false, .one "NoShare" "NoName" false, .one "NoShare" "LineError" true, .oneB "NoShare" "ValueError" true]
def hFk_2 : List Fk := [.exc "NoRows", .one "NoRows" "NoLine" false, .one "NoRows" "Empty" false, .one "NoRows" "NoText" false, .one "NoRows" "NoFlat" false, .one "NoRows" "NoShare" false, .one "NoRows" "NoRows" true, .one "NoRows" "Lacking" false, .one "NoRows" "NoRow" false, .one "NoRows" "NoName" false, .one "NoRows" "LineError" true, .oneB "NoRows" "ValueError" true, .exc "Lacking", .one "Lacking" "NoLine" false, .one "Lacking" "Empty" false, .one "Lacking" "NoText" false, .one "Lacking" "NoFlat" false, .one "Lacking" "NoShare" false, .one "Lacking" "NoRows" false, .one "Lacking" "Lacking" true, .one "Lacking" "NoRow" false, .one "Lacking" "NoName" false, .one "Lacking" "LineError" true, .oneB "Lacking" "ValueError" true, .exc "NoRow", .one "NoRow" "NoLine" false, .one "NoRow" "Empty" false, .one "NoRow" "NoText" false, .one "NoRow" "NoFlat" false, .one "NoRow" "NoShare" false]
def hFk_3 : List Fk := [.one "NoRow" "NoRows" false, .one "NoRow" "Lacking" false, .one "NoRow" "NoRow" true, .one "NoRow" "NoName" false, .one "NoRow" "LineError" true, .oneB "NoRow" "ValueError" true, .exc "NoName", .one "NoName" "NoLine" false, .one "NoName" "Empty" false, .one "NoName" "NoText" false, .one "NoName" "NoFlat" false, .one "NoName" "NoShare" false, .one "NoName" "NoRows" false, .one "NoName" "Lacking" false, .one "NoName" "NoRow" false, .one "NoName" "NoName" true, .one "NoName" "LineError" true, .oneB "NoName" "ValueError" true]
def hFk : List Fk := hFk_0 ++ hFk_1 ++ hFk_2 ++ hFk_3
def hLo_0 : List Str := ["LineError", "NoLine", "Empty", "NoText", "NoFlat", "NoShare", "NoRows", "Lacking", "NoRow", "NoName", "common", "through", "_law_pot", "_law_draw", "_law_text", "_law_kinds", "_law_raised", "_law_raise", "_law_through"]
def hLo : List Str := hLo_0
abbrev R : PySem.W.OpenRow := PySem.W.OpenLaw.row PySem.Challenge.rw_halveline_k16_refusals_made
abbrev hk : PySem.W.Hook := hookX 5 hFa hFn hFk
def ob (s : PySem.W.SharedT) : He.Al := obsXG 5 hFa hFn hFk (HandSHeadRun.getT s)
theorem ob_eq (s : PySem.W.SharedT) : ob s = hk.obs s.abs := obsXG_eq (HandSHeadRun.getT_eq s)
set_option maxHeartbeats 0 in
theorem run (w : World) : HandSHeadRun.RunEq R (PySem.W.view R.prog [22]) hk ob 4000 hLo w := by
  intro os
  kernel_rfl
set_option maxHeartbeats 0 in
theorem facts {P : Program} {w : World} {K : PySem.W.Frag} {h : Heap} {mg : Str → Option Value} {f : Addr} (X : K.In h) (G : h.Ns mainGlobals mg) (hfa : mg ("law" : Str) = some (.ref f)) (cX : SaysX hFa hFn hFk K) :
    ∃ fd : FuncData, (∀ (s : Shared) (v : Value), BindsTo s fd ⟨[v], []⟩ [("_law_script", v)]) ∧ ∀ base : Heap, K.In base → base.Ns mainGlobals mg → FnOk P w K mg base (L2.CX P w) 4 f fd ["_law_script"] (P_law K mg) := by
  have c := cX.says
  have B : Bi mg := ⟨He.free_ok X G (c.fact 20 rfl), He.free_ok X G (c.fact 21 rfl), He.free_ok X G (c.fact 22 rfl), He.free_ok X G (c.fact 23 rfl), He.free_ok X G (c.fact 24 rfl), He.free_ok X G (c.fact 25 rfl), He.free_ok X G (c.fact 26 rfl), He.free_ok X G (c.fact 27 rfl), He.free_ok X G (c.fact 28 rfl), He.free_ok X G (c.fact 29 rfl), He.free_ok X G (c.fact 30 rfl), He.free_ok X G (c.fact 31 rfl), He.free_ok X G (c.fact 32 rfl), He.free_ok X G (c.fact 33 rfl), He.free_ok X G (c.fact 34 rfl), He.free_ok X G (c.fact 35 rfl), He.free_ok X G (c.fact 36 rfl), He.free_ok X G (c.fact 37 rfl), He.free_ok X G (c.fact 38 rfl), He.free_ok X G (c.fact 39 rfl), He.free_ok X G (c.fact 40 rfl), He.free_ok X G (c.fact 41 rfl)⟩
  have XC_NoLine : XCls K mg "NoLine" := XCls.of (He.glo_ok X G (c.fact 43 rfl)) (He.exc_ok (c.fact 44 rfl))
  have XC_Empty : XCls K mg "Empty" := XCls.of (He.glo_ok X G (c.fact 45 rfl)) (He.exc_ok (c.fact 46 rfl))
  have XC_NoText : XCls K mg "NoText" := XCls.of (He.glo_ok X G (c.fact 47 rfl)) (He.exc_ok (c.fact 48 rfl))
  have XC_NoFlat : XCls K mg "NoFlat" := XCls.of (He.glo_ok X G (c.fact 49 rfl)) (He.exc_ok (c.fact 50 rfl))
  have XC_NoShare : XCls K mg "NoShare" := XCls.of (He.glo_ok X G (c.fact 51 rfl)) (He.exc_ok (c.fact 52 rfl))
  have XC_NoRows : XCls K mg "NoRows" := XCls.of (He.glo_ok X G (c.fact 53 rfl)) (He.exc_ok (c.fact 54 rfl))
  have XC_Lacking : XCls K mg "Lacking" := XCls.of (He.glo_ok X G (c.fact 55 rfl)) (He.exc_ok (c.fact 56 rfl))
  have XC_NoRow : XCls K mg "NoRow" := XCls.of (He.glo_ok X G (c.fact 57 rfl)) (He.exc_ok (c.fact 58 rfl))
  have XC_NoName : XCls K mg "NoName" := XCls.of (He.glo_ok X G (c.fact 59 rfl)) (He.exc_ok (c.fact 60 rfl))
  have XTAB : XTab K mg := by
    refine ⟨?_, ?_, ?_, ?_, ?_, ?_, ?_, ?_, ?_⟩
    · exact (all9 (excB_ok (cX.cls 0 rfl)) (excB_ok (cX.cls 12 rfl)) (excB_ok (cX.cls 24 rfl)) (excB_ok (cX.cls 36 rfl)) (excB_ok (cX.cls 48 rfl)) (excB_ok (cX.cls 60 rfl)) (excB_ok (cX.cls 72 rfl)) (excB_ok (cX.cls 84 rfl)) (excB_ok (cX.cls 96 rfl)))
    · exact (all9 (He.glo_ok X G (c.fact 43 rfl)) (He.glo_ok X G (c.fact 45 rfl)) (He.glo_ok X G (c.fact 47 rfl)) (He.glo_ok X G (c.fact 49 rfl)) (He.glo_ok X G (c.fact 51 rfl)) (He.glo_ok X G (c.fact 53 rfl)) (He.glo_ok X G (c.fact 55 rfl)) (He.glo_ok X G (c.fact 57 rfl)) (He.glo_ok X G (c.fact 59 rfl)))
    · exact (all9 (all9 (oneT (of_decide_eq_true (cX.cls 1 rfl))) (oneT (of_decide_eq_true (cX.cls 2 rfl))) (oneT (of_decide_eq_true (cX.cls 3 rfl))) (oneT (of_decide_eq_true (cX.cls 4 rfl))) (oneT (of_decide_eq_true (cX.cls 5 rfl))) (oneT (of_decide_eq_true (cX.cls 6 rfl))) (oneT (of_decide_eq_true (cX.cls 7 rfl))) (oneT (of_decide_eq_true (cX.cls 8 rfl))) (oneT (of_decide_eq_true (cX.cls 9 rfl)))) (all9 (oneT (of_decide_eq_true (cX.cls 13 rfl))) (oneT (of_decide_eq_true (cX.cls 14 rfl))) (oneT (of_decide_eq_true (cX.cls 15 rfl))) (oneT (of_decide_eq_true (cX.cls 16 rfl))) (oneT (of_decide_eq_true (cX.cls 17 rfl))) (oneT (of_decide_eq_true (cX.cls 18 rfl))) (oneT (of_decide_eq_true (cX.cls 19 rfl))) (oneT (of_decide_eq_true (cX.cls 20 rfl))) (oneT (of_decide_eq_true (cX.cls 21 rfl)))) (all9 (oneT (of_decide_eq_true (cX.cls 25 rfl))) (oneT (of_decide_eq_true (cX.cls 26 rfl))) (oneT (of_decide_eq_true (cX.cls 27 rfl))) (oneT (of_decide_eq_true (cX.cls 28 rfl))) (oneT (of_decide_eq_true (cX.cls 29 rfl))) (oneT (of_decide_eq_true (cX.cls 30 rfl))) (oneT (of_decide_eq_true (cX.cls 31 rfl))) (oneT (of_decide_eq_true (cX.cls 32 rfl))) (oneT (of_decide_eq_true (cX.cls 33 rfl)))) (all9 (oneT (of_decide_eq_true (cX.cls 37 rfl))) (oneT (of_decide_eq_true (cX.cls 38 rfl))) (oneT (of_decide_eq_true (cX.cls 39 rfl))) (oneT (of_decide_eq_true (cX.cls 40 rfl))) (oneT (of_decide_eq_true (cX.cls 41 rfl))) (oneT (of_decide_eq_true (cX.cls 42 rfl))) (oneT (of_decide_eq_true (cX.cls 43 rfl))) (oneT (of_decide_eq_true (cX.cls 44 rfl))) (oneT (of_decide_eq_true (cX.cls 45 rfl)))) (all9 (oneT (of_decide_eq_true (cX.cls 49 rfl))) (oneT (of_decide_eq_true (cX.cls 50 rfl))) (oneT (of_decide_eq_true (cX.cls 51 rfl))) (oneT (of_decide_eq_true (cX.cls 52 rfl))) (oneT (of_decide_eq_true (cX.cls 53 rfl))) (oneT (of_decide_eq_true (cX.cls 54 rfl))) (oneT (of_decide_eq_true (cX.cls 55 rfl))) (oneT (of_decide_eq_true (cX.cls 56 rfl))) (oneT (of_decide_eq_true (cX.cls 57 rfl)))) (all9 (oneT (of_decide_eq_true (cX.cls 61 rfl))) (oneT (of_decide_eq_true (cX.cls 62 rfl))) (oneT (of_decide_eq_true (cX.cls 63 rfl))) (oneT (of_decide_eq_true (cX.cls 64 rfl))) (oneT (of_decide_eq_true (cX.cls 65 rfl))) (oneT (of_decide_eq_true (cX.cls 66 rfl))) (oneT (of_decide_eq_true (cX.cls 67 rfl))) (oneT (of_decide_eq_true (cX.cls 68 rfl))) (oneT (of_decide_eq_true (cX.cls 69 rfl)))) (all9 (oneT (of_decide_eq_true (cX.cls 73 rfl))) (oneT (of_decide_eq_true (cX.cls 74 rfl))) (oneT (of_decide_eq_true (cX.cls 75 rfl))) (oneT (of_decide_eq_true (cX.cls 76 rfl))) (oneT (of_decide_eq_true (cX.cls 77 rfl))) (oneT (of_decide_eq_true (cX.cls 78 rfl))) (oneT (of_decide_eq_true (cX.cls 79 rfl))) (oneT (of_decide_eq_true (cX.cls 80 rfl))) (oneT (of_decide_eq_true (cX.cls 81 rfl)))) (all9 (oneT (of_decide_eq_true (cX.cls 85 rfl))) (oneT (of_decide_eq_true (cX.cls 86 rfl))) (oneT (of_decide_eq_true (cX.cls 87 rfl))) (oneT (of_decide_eq_true (cX.cls 88 rfl))) (oneT (of_decide_eq_true (cX.cls 89 rfl))) (oneT (of_decide_eq_true (cX.cls 90 rfl))) (oneT (of_decide_eq_true (cX.cls 91 rfl))) (oneT (of_decide_eq_true (cX.cls 92 rfl))) (oneT (of_decide_eq_true (cX.cls 93 rfl)))) (all9 (oneT (of_decide_eq_true (cX.cls 97 rfl))) (oneT (of_decide_eq_true (cX.cls 98 rfl))) (oneT (of_decide_eq_true (cX.cls 99 rfl))) (oneT (of_decide_eq_true (cX.cls 100 rfl))) (oneT (of_decide_eq_true (cX.cls 101 rfl))) (oneT (of_decide_eq_true (cX.cls 102 rfl))) (oneT (of_decide_eq_true (cX.cls 103 rfl))) (oneT (of_decide_eq_true (cX.cls 104 rfl))) (oneT (of_decide_eq_true (cX.cls 105 rfl)))))
    · exact (all9 (of_decide_eq_true (cX.cls 10 rfl)) (of_decide_eq_true (cX.cls 22 rfl)) (of_decide_eq_true (cX.cls 34 rfl)) (of_decide_eq_true (cX.cls 46 rfl)) (of_decide_eq_true (cX.cls 58 rfl)) (of_decide_eq_true (cX.cls 70 rfl)) (of_decide_eq_true (cX.cls 82 rfl)) (of_decide_eq_true (cX.cls 94 rfl)) (of_decide_eq_true (cX.cls 106 rfl)))
    · exact (He.glo_ok X G (c.fact 61 rfl))
    · exact (all9 (of_decide_eq_true (cX.cls 11 rfl)) (of_decide_eq_true (cX.cls 23 rfl)) (of_decide_eq_true (cX.cls 35 rfl)) (of_decide_eq_true (cX.cls 47 rfl)) (of_decide_eq_true (cX.cls 59 rfl)) (of_decide_eq_true (cX.cls 71 rfl)) (of_decide_eq_true (cX.cls 83 rfl)) (of_decide_eq_true (cX.cls 95 rfl)) (of_decide_eq_true (cX.cls 107 rfl)))
    · exact He.free_ok X G (c.fact 42 rfl)
    · exact (all9 (of_decide_eq_true (c.fact 62 rfl)) (of_decide_eq_true (c.fact 63 rfl)) (of_decide_eq_true (c.fact 64 rfl)) (of_decide_eq_true (c.fact 65 rfl)) (of_decide_eq_true (c.fact 66 rfl)) (of_decide_eq_true (c.fact 67 rfl)) (of_decide_eq_true (c.fact 68 rfl)) (of_decide_eq_true (c.fact 69 rfl)) (of_decide_eq_true (c.fact 70 rfl)))
    · exact (all9 XC_NoLine XC_Empty XC_NoText XC_NoFlat XC_NoShare XC_NoRows XC_Lacking XC_NoRow XC_NoName)
  have XM_NoLine_LineError : PySem.W.exmOne K (.ref (He.ga K "NoLine")) (.ref (He.ga K "LineError")) = some true := of_decide_eq_true (c.fact 62 rfl)
  have XG_NoLine : mg "NoLine" = some (.ref (He.ga K "NoLine")) := He.glo_ok X G (c.fact 43 rfl)
  have XG_LineError : mg "LineError" = some (.ref (He.ga K "LineError")) := He.glo_ok X G (c.fact 61 rfl)
  have c_common : ∀ {base : Heap}, Cal P w K mg base 1 "common" ["one", "other"] (P_common K mg) := fun {base} => by
    obtain ⟨oc, od, osl, kV, doc, pm, an, cdv, ct, l, cc⟩ := c.def_ 0 (d := dD 12 "common") rfl
    have F : Fun K "common" "common" sS_common _ _ := fun_mk l cc (He.keep_ok (c.fact 1 rfl))
    exact ⟨_, _, ok_common F B, He.glo_ok X G (c.fact 0 rfl), F.kp, F.binds fun _ _ _ _ _ _ us hl => match us, hl with | [_, _], _ => rfl⟩
  have c_through : ∀ {base : Heap}, Cal P w K mg base 2 "through" ["one", "other"] (P_through K mg) := fun {base} => by
    obtain ⟨oc, od, osl, kV, doc, pm, an, cdv, ct, l, cc⟩ := c.def_ 1 (d := dD 13 "through") rfl
    have F : Fun K "through" "through" sS_through _ _ := fun_mk l cc (He.keep_ok (c.fact 3 rfl))
    exact ⟨_, _, ok_through F B c_common XC_NoLine, He.glo_ok X G (c.fact 2 rfl), F.kp, F.binds fun _ _ _ _ _ _ us hl => match us, hl with | [_, _], _ => rfl⟩
  have c_l_pot : ∀ {base : Heap}, Cal P w K mg base 1 "_law_pot" ["_law_script", "_law_k"] (P_l_pot K mg) := fun {base} => by
    obtain ⟨oc, od, osl, kV, doc, pm, an, cdv, ct, l, cc⟩ := c.def_ 2 (d := dD 15 "_law_pot") rfl
    have F : Fun K "_law_pot" "_law_pot" sS_l_pot _ _ := fun_mk l cc (He.keep_ok (c.fact 5 rfl))
    exact ⟨_, _, ok_l_pot F B, He.glo_ok X G (c.fact 4 rfl), F.kp, F.binds fun _ _ _ _ _ _ us hl => match us, hl with | [_, _], _ => rfl⟩
  have c_l_draw : ∀ {base : Heap}, Cal P w K mg base 1 "_law_draw" ["_law_pot_here", "_law_many"] (P_l_draw K mg) := fun {base} => by
    obtain ⟨oc, od, osl, kV, doc, pm, an, cdv, ct, l, cc⟩ := c.def_ 3 (d := dD 16 "_law_draw") rfl
    have F : Fun K "_law_draw" "_law_draw" sS_l_draw _ _ := fun_mk l cc (He.keep_ok (c.fact 7 rfl))
    exact ⟨_, _, ok_l_draw F B, He.glo_ok X G (c.fact 6 rfl), F.kp, F.binds fun _ _ _ _ _ _ us hl => match us, hl with | [_, _], _ => rfl⟩
  have c_l_text : ∀ {base : Heap}, Cal P w K mg base 2 "_law_text" ["_law_pot_here"] (P_l_text K mg) := fun {base} => by
    obtain ⟨oc, od, osl, kV, doc, pm, an, cdv, ct, l, cc⟩ := c.def_ 4 (d := dD 17 "_law_text") rfl
    have F : Fun K "_law_text" "_law_text" sS_l_text _ _ := fun_mk l cc (He.keep_ok (c.fact 9 rfl))
    exact ⟨_, _, ok_l_text F B c_l_draw, He.glo_ok X G (c.fact 8 rfl), F.kp, F.binds fun _ _ _ _ _ _ us hl => match us, hl with | [_], _ => rfl⟩
  have c_l_kinds_w : ∀ {base : Heap}, ∀ x ∈ nine, ExCalN P w K mg base 1 "_law_kinds" x (R_l_kinds_w x) := fun {base} => by
    obtain ⟨oc, od, osl, kV, doc, pm, an, cdv, ct, l, cc⟩ := c.def_ 5 (d := dD 18 "_law_kinds") rfl
    have F : Fun K "_law_kinds" "_law_kinds" sS_l_kinds_w _ _ := fun_mk l cc (He.keep_ok (c.fact 11 rfl))
    exact ok_l_kinds_w F B XTAB (He.glo_ok X G (c.fact 10 rfl)) (F.binds fun _ _ _ _ _ _ us hl => match us, hl with | [_], _ => rfl)
  have c_l_kinds_data : ∀ {base : Heap}, Cal P w K mg base 1 "_law_kinds" ["_law_e"] (P_l_kinds_data K mg) := fun {base} => by
    obtain ⟨oc, od, osl, kV, doc, pm, an, cdv, ct, l, cc⟩ := c.def_ 5 (d := dD 18 "_law_kinds") rfl
    have F : Fun K "_law_kinds" "_law_kinds" sS_l_kinds_data _ _ := fun_mk l cc (He.keep_ok (c.fact 11 rfl))
    exact ⟨_, _, ok_l_kinds_data F B XTAB, He.glo_ok X G (c.fact 10 rfl), F.kp, F.binds fun _ _ _ _ _ _ us hl => match us, hl with | [_], _ => rfl⟩
  have c_l_raise : ∀ {base : Heap}, Cal P w K mg base 1 "_law_raise" ["_law_k", "_law_told"] (P_l_raise K mg) := fun {base} => by
    obtain ⟨oc, od, osl, kV, doc, pm, an, cdv, ct, l, cc⟩ := c.def_ 7 (d := dD 20 "_law_raise") rfl
    have F : Fun K "_law_raise" "_law_raise" sS_l_raise _ _ := fun_mk l cc (He.keep_ok (c.fact 15 rfl))
    exact ⟨_, _, ok_l_raise F B XC_Empty XC_Lacking XC_NoFlat XC_NoLine XC_NoName XC_NoRow XC_NoRows XC_NoShare XC_NoText, He.glo_ok X G (c.fact 14 rfl), F.kp, F.binds fun _ _ _ _ _ _ us hl => match us, hl with | [_, _], _ => rfl⟩
  have c_l_raised : ∀ {base : Heap}, Cal P w K mg base 2 "_law_raised" ["_law_k", "_law_told"] (P_l_raised K mg) := fun {base} => by
    obtain ⟨oc, od, osl, kV, doc, pm, an, cdv, ct, l, cc⟩ := c.def_ 6 (d := dD 19 "_law_raised") rfl
    have F : Fun K "_law_raised" "_law_raised" sS_l_raised _ _ := fun_mk l cc (He.keep_ok (c.fact 13 rfl))
    exact ⟨_, _, ok_l_raised F B c_l_raise c_l_kinds_w c_l_kinds_data XTAB, He.glo_ok X G (c.fact 12 rfl), F.kp, F.binds fun _ _ _ _ _ _ us hl => match us, hl with | [_, _], _ => rfl⟩
  have c_l_through : ∀ {base : Heap}, Cal P w K mg base 3 "_law_through" ["_law_point"] (P_l_through K mg) := fun {base} => by
    obtain ⟨oc, od, osl, kV, doc, pm, an, cdv, ct, l, cc⟩ := c.def_ 8 (d := dD 21 "_law_through") rfl
    have F : Fun K "_law_through" "_law_through" sS_l_through _ _ := fun_mk l cc (He.keep_ok (c.fact 17 rfl))
    exact ⟨_, _, ok_l_through F B c_through c_l_kinds_w c_l_kinds_data XM_NoLine_LineError XG_NoLine XG_LineError, He.glo_ok X G (c.fact 16 rfl), F.kp, F.binds fun _ _ _ _ _ _ us hl => match us, hl with | [_], _ => rfl⟩
  obtain ⟨oc, od, osl, kV, doc, pm, an, cdv, ct, l, cc⟩ := c.def_ 9 (d := dD 22 "law") rfl
  have F : Fun K "law" "law" sS_law _ _ := fun_mk l cc (He.keep_ok (c.fact 19 rfl))
  have e := hfa.symm.trans (He.glo_ok X G (c.fact 18 rfl))
  cases e
  exact ⟨_, fun s v => .of_eq rfl, fun base _ _ => ok_law F B c_l_pot c_l_text c_l_draw c_l_raised c_l_through c_l_kinds_w c_l_kinds_data XTAB⟩
end HL
open PySem PySem.W PySem.Calls PyProof.Rows
set_option maxHeartbeats 0 in
theorem PySem.Challenge.cw_halveline_k16_refusals_made_holds : PySem.Challenge.rw_halveline_k16_refusals_made.Holds := by
  w_on; o_law
  refine HandSHeadRun.head_any (r := OpenLaw.row PySem.Challenge.rw_halveline_k16_refusals_made) (q := view (OpenLaw.row PySem.Challenge.rw_halveline_k16_refusals_made).prog [22]) (H := HL.hk) (ob := HL.ob) (M := 4000) (loose := HL.hLo) (d := HandSHeadRun.topDef (OpenLaw.row PySem.Challenge.rw_halveline_k16_refusals_made).prog 22) (kwd := []) HL.ob_eq
    (by kernel_rfl) (fun s => by kernel_rfl) HL.run (by kernel_rfl) (by kernel_rfl) (by kernel_rfl) (by rfl) (by first | assumption | decide +kernel) (by decide +kernel) ⟨rfl, rfl, rfl, rfl, rfl, by decide +kernel⟩ ?hw ?hc
  case hw => w_witness2
  case hc =>
    refine L2.walk_ofE (l := PySem.Challenge.rw_halveline_k16_refusals_made) (n := 63) (k := 4) (x := "_law_script") (CX := HL.CXw (PySem.Challenge.rw_halveline_k16_refusals_made).prog) rfl (by decide) (by kernel_rfl) ⟨rfl, by decide, by decide⟩ ?F (fun H s e s' z => HL.no_exc z)
    intro w mg fa h Y G hmg0
    obtain ⟨K, KX, c⟩ := Y
    have hmg : mg ("law" : PySem.Str) = some (.ref fa) := by
      have e : (HandSHeadRun.topDef (OpenLaw.row PySem.Challenge.rw_halveline_k16_refusals_made).prog 22).name = ("law" : PySem.Str) := by kernel_rfl
      rw [← e]
      exact hmg0
    obtain ⟨fd, hb, hF⟩ := HL.facts (P := (PySem.Challenge.rw_halveline_k16_refusals_made).prog) (w := w) KX G hmg c
    exact ⟨K, fd, HL.P_law K mg, KX, hb, fun H a ns hl _ hS => HL.law_says (fun _ => rfl) (HL.law_true ns hl) hS, fun base h1 h2 => HL.cxw (hF base h1 h2)⟩
