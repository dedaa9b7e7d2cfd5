import PyProof.Rows.All
import Wide.All
import OpenK.AllK
import Wide.FinOn
import HandS.ForMost
import HandS.ForExc
import HandS.Defaults
import HandS.TupAny
import HandS.IsInst
import HandS.Wide
import HandS.Style
import HandS.TupMul
import HandS.Deep
import HandS.SortInts
import HandS.TupLen
import HandS.Conv
import KE.SortData
import KE.KDictPairs
import HandS.SetFor
import HandS.SetKeys
import HandS.More
import HandS.Zip
import HandS.Rev
import KE.GoesMore
import HandS.Small
import HandS.ExcOwn
import HandS.TryOnly
import HandS.Strs
import HandS.Codes
import HandS.Ends
import HandS.HeadEnd
import HandS.Head0
import KE.KStateDown
import HandS.Head1
import HandS.Head2
import HandS.HeadHook1
import HandS.HeadHook2
import Lean
import PySem.Challenge.RW_fewrooms_k63_plans_of_rows_and_squares
set_option Elab.async false
set_option linter.all false
set_option maxRecDepth 100000
set_option maxHeartbeats 0
/-! Lf: values with tuples in them, an abstract heap of what may change, readings over these. -/
namespace Lf
open PySem PySem.Spec L2
open PyProof.Rows hiding St

/-- how a tuple is kept: own: a plain one; fix: one whose object is known; wri: one of the module's -/
inductive TK where
  | own | fix | wri
  deriving DecidableEq
/-- a value; a tuple is its items; fro: a list that is read alone (the script) -/
inductive PV where
  | non | bl (b : Bool) | int (i : Int) | str (x : Str) | tup (k : TK) (xs : List PV) | fro (xs : List PV) | ref (a : Addr) | ty (n : String)

/-- what stands at an address -/
inductive AO where
  | lst (xs : List PV)
  | dK (kvs : List (Key × PV))
  | dT (kvs : List (List Key × PV))
  | ins (C : Addr) (fs : List (Str × PV))
  | dD
abbrev AH := Addr → Option AO
def aupd (A : AH) (a : Addr) (o : AO) : AH := fun b => if b = a then some o else A b
theorem aupd_same {A : AH} {a : Addr} {o : AO} : aupd A a o a = some o := if_pos rfl
theorem aupd_ne {A : AH} {a b : Addr} {o : AO} (h : b ≠ a) : aupd A a o b = A b := if_neg h
theorem aupd_aupd {A : AH} {a : Addr} {o u : AO} : aupd (aupd A a o) a u = aupd A a u := by
  funext b; unfold aupd; split <;> rfl
theorem aupd_comm {A : AH} {a b : Addr} {o u : AO} (h : a ≠ b) : aupd (aupd A a o) b u = aupd (aupd A b u) a o := by
  funext c; unfold aupd
  by_cases h1 : c = b
  · subst h1; rw [if_pos rfl, if_neg (Ne.symm h), if_pos rfl]
  · by_cases h2 : c = a
    · subst h2; rw [if_neg h1, if_pos rfl, if_pos rfl]
    · rw [if_neg h1, if_neg h2, if_neg h2, if_neg h1]
def Sub (A B : AH) : Prop := ∀ a o, A a = some o → B a = some o
theorem Sub.refl (A : AH) : Sub A A := fun _ _ h => h
theorem Sub.trans {A B C : AH} (h : Sub A B) (g : Sub B C) : Sub A C := fun a o q => g a o (h a o q)
theorem Sub.upd {A B : AH} {a : Addr} {o : AO} (h : Sub A B) (hn : A a = none) : Sub A (aupd B a o) := fun b u q => by
  rw [aupd_ne (fun z => by rw [z, hn] at q; cases q)]; exact h b u q
theorem Sub.up {A B : AH} {a : Addr} {o : AO} (h : Sub A B) : Sub (aupd A a o) (aupd B a o) := fun b u q => by
  unfold aupd at *
  split
  · rename_i e; rw [if_pos e] at q; exact q
  · rename_i e; rw [if_neg e] at q; exact h b u q
theorem ane {A : AH} {a b : Addr} {o : AO} (h : A a = some o) (h' : A b = none) : a ≠ b := fun e => by
  subst e; rw [h] at h'; cases h'

/-- a list that nothing changes -/
def SqF (K : PySem.W.Frag) (H : Hp) (a : Addr) (xs : List V) : Prop :=
  (∃ o, H a = some (.frz o (.lst xs))) ∨
    ∃ (o : Obj) (its : Array Value) (n : Nat), K.lookup a = some o ∧ o.cls = .type "list" ∧ o.dict = none ∧ o.data = .seq its n ∧ its.size ≤ sizeLine ∧ Vals xs its.toList
theorem SqF.seq {K : PySem.W.Frag} {H : Hp} {a : Addr} {xs : List V} (h : SqF K H a xs) : SqL K H a xs := h.elim (fun ⟨o, e⟩ => .inl (.inr ⟨o, e⟩)) .inr
def SqW (K : PySem.W.Frag) (a : Addr) (xs : List V) : Prop := ∃ (o : Obj) (its : Array Value) (n : Nat), K.lookup a = some o ∧ o.cls = .type "tuple" ∧ o.data = .seq its n ∧ its.size ≤ sizeLine ∧ Vals xs its.toList
theorem SqW.seq {K : PySem.W.Frag} {H : Hp} {a : Addr} {xs : List V} (h : SqW K a xs) : SqT K H a xs := .inr h
def TupAt (K : PySem.W.Frag) (H : Hp) : TK → Addr → List V → Prop
  | .own, a, vs => H a = some (.tup vs)
  | .fix, a, vs => ∃ o : Obj, H a = some (.frz o (.tup vs)) ∧ o.dict = none
  | .wri, a, vs => SqW K a vs
theorem TupAt.sq {K : PySem.W.Frag} {H : Hp} {k : TK} {a : Addr} {xs : List V} (h : TupAt K H k a xs) : SqT K H a xs := by
  cases k with
  | own => exact .of h
  | fix => obtain ⟨o, h, _⟩ := h; exact .inl (.inr ⟨o, h⟩)
  | wri => exact SqW.seq h
section
variable (K : PySem.W.Frag) (H : Hp)
mutual
inductive RepV : PV → V → Prop
  | non : RepV .non .non
  | bl (b : Bool) : RepV (.bl b) (.bl b)
  | int (i : Int) : RepV (.int i) (.int i)
  | str (x : Str) : RepV (.str x) (.str x)
  | ty (n : String) : RepV (.ty n) (.ty n)
  | ref (a : Addr) : RepV (.ref a) (.ref a)
  | tup {k : TK} {a : Addr} {vs : List V} {xs : List PV} : TupAt K H k a vs → RepVs xs vs → RepV (.tup k xs) (.ref a)
  | fro {a : Addr} {vs : List V} {xs : List PV} : SqF K H a vs → RepVs xs vs → RepV (.fro xs) (.ref a)
inductive RepVs : List PV → List V → Prop
  | nil : RepVs [] []
  | cons {x : PV} {v : V} {xs : List PV} {vs : List V} : RepV x v → RepVs xs vs → RepVs (x :: xs) (v :: vs)
end
end
/-- tuples and what is locked stay -/
structure Ext (K : PySem.W.Frag) (H H' : Hp) : Prop where
  t : ∀ a xs, H a = some (.tup xs) → H' a = some (.tup xs)
  z : ∀ a o u, H a = some (.frz o u) → H' a = some (.frz o u)
theorem Ext.f {K : PySem.W.Frag} {H H' : Hp} (e : Ext K H H') {a : Addr} {xs : List V} (h : SqF K H a xs) : SqF K H' a xs := h.imp (fun ⟨o, q⟩ => ⟨o, e.z _ _ _ q⟩) id
theorem Ext.tk {K : PySem.W.Frag} {H H' : Hp} (e : Ext K H H') {k : TK} {a : Addr} {xs : List V} (h : TupAt K H k a xs) : TupAt K H' k a xs := by
  cases k with
  | own => exact e.t _ _ h
  | fix => obtain ⟨o, h, q⟩ := h; exact ⟨o, e.z _ _ _ h, q⟩
  | wri => exact h
section
variable {K : PySem.W.Frag} {H H' H'' : Hp}
theorem Ext.refl (K : PySem.W.Frag) (H : Hp) : Ext K H H := ⟨fun _ _ h => h, fun _ _ _ h => h⟩
theorem Ext.trans (h : Ext K H H') (g : Ext K H' H'') : Ext K H H'' := ⟨fun a xs q => g.t a xs (h.t a xs q), fun a o u q => g.z a o u (h.z a o u q)⟩
mutual
theorem RepV.ext (e : Ext K H H') : ∀ {x : PV} {v : V}, RepV K H x v → RepV K H' x v
  | _, _, .non => .non
  | _, _, .bl b => .bl b
  | _, _, .int i => .int i
  | _, _, .str x => .str x
  | _, _, .ty n => .ty n
  | _, _, .ref a => .ref a
  | _, _, .tup h r => .tup (e.tk h) (RepVs.ext e r)
  | _, _, .fro h r => .fro (e.f h) (RepVs.ext e r)
theorem RepVs.ext (e : Ext K H H') : ∀ {xs : List PV} {vs : List V}, RepVs K H xs vs → RepVs K H' xs vs
  | _, _, .nil => .nil
  | _, _, .cons h r => .cons (RepV.ext e h) (RepVs.ext e r)
end
theorem RepVs.length : ∀ {xs : List PV} {vs : List V}, RepVs K H xs vs → xs.length = vs.length
  | _, _, .nil => rfl
  | _, _, .cons _ r => congrArg Nat.succ (RepVs.length r)
theorem RepVs.get : ∀ {xs : List PV} {vs : List V} {i : Nat} {x : PV}, RepVs K H xs vs → xs[i]? = some x → ∃ v, vs[i]? = some v ∧ RepV K H x v
  | _, _, _, _, .nil, e => by simp at e
  | _, _, 0, _, .cons r _, e => by simp at e; subst e; exact ⟨_, rfl, r⟩
  | _, _, i + 1, x, .cons _ t, e => by
    obtain ⟨v, h1, h2⟩ := RepVs.get (i := i) (x := x) t (by simpa using e)
    exact ⟨v, by simpa using h1, h2⟩
theorem RepVs.set {x : PV} {v : V} (r : RepV K H x v) : ∀ {xs : List PV} {vs : List V} (i : Nat), RepVs K H xs vs → RepVs K H (xs.set i x) (vs.set i v)
  | _, _, _, .nil => .nil
  | _, _, 0, .cons _ t => .cons r t
  | _, _, i + 1, .cons q t => .cons q (RepVs.set r i t)
theorem RepVs.append : ∀ {xs ys : List PV} {us ws : List V}, RepVs K H xs us → RepVs K H ys ws → RepVs K H (xs ++ ys) (us ++ ws)
  | _, _, _, _, .nil, s => s
  | _, _, _, _, .cons r t, s => .cons r (RepVs.append t s)
theorem RepVs.take : ∀ {xs : List PV} {us : List V} (n : Nat), RepVs K H xs us → RepVs K H (xs.take n) (us.take n)
  | _, _, 0, _ => .nil
  | _, _, _ + 1, .nil => .nil
  | _, _, n + 1, .cons r t => .cons r (RepVs.take n t)
theorem RepVs.drop : ∀ {xs : List PV} {us : List V} (n : Nat), RepVs K H xs us → RepVs K H (xs.drop n) (us.drop n)
  | _, _, 0, r => r
  | _, _, _ + 1, .nil => .nil
  | _, _, n + 1, .cons _ t => RepVs.drop n t
theorem RepVs.reverse {xs : List PV} {vs : List V} (h : RepVs K H xs vs) : RepVs K H xs.reverse vs.reverse := by
  induction xs generalizing vs with
  | nil => cases h; exact .nil
  | cons x r ih =>
    cases h with
    | cons a b => rw [List.reverse_cons, List.reverse_cons]; exact (ih b).append (.cons a .nil)
theorem RepVs.eraseIdx : ∀ {xs : List PV} {us : List V} (n : Nat), RepVs K H xs us → RepVs K H (xs.eraseIdx n) (us.eraseIdx n)
  | _, _, _, .nil => .nil
  | _, _, 0, .cons _ t => t
  | _, _, n + 1, .cons r t => .cons r (RepVs.eraseIdx n t)
theorem RepVs.dropLast : ∀ {xs : List PV} {us : List V}, RepVs K H xs us → RepVs K H xs.dropLast us.dropLast
  | _, _, .nil => .nil
  | _, _, .cons _ .nil => .nil
  | _, _, .cons r (.cons q t) => .cons r (RepVs.dropLast (.cons q t))
theorem RepVs.ints : ∀ {ns : List Int} {vs : List V}, RepVs K H (ns.map PV.int) vs → vs = ns.map V.int
  | [], _, .nil => rfl
  | _ :: _, _, .cons (.int _) t => by rw [RepVs.ints t]; rfl
theorem RepVs.of_ints : ∀ (ns : List Int), RepVs K H (ns.map PV.int) (ns.map V.int)
  | [] => .nil
  | n :: r => .cons (.int n) (RepVs.of_ints r)
theorem RepVs.bls : ∀ {ns : List Bool} {vs : List V}, RepVs K H (ns.map PV.bl) vs → vs = ns.map V.bl
  | [], _, .nil => rfl
  | _ :: _, _, .cons (.bl _) t => by rw [RepVs.bls t]; rfl
theorem RepVs.strs : ∀ {ns : List Str} {vs : List V}, RepVs K H (ns.map PV.str) vs → vs = ns.map V.str
  | [], _, .nil => rfl
  | _ :: _, _, .cons (.str _) t => by rw [RepVs.strs t]; rfl
theorem RepVs.of_strs : ∀ (ns : List Str), RepVs K H (ns.map PV.str) (ns.map V.str)
  | [] => .nil
  | n :: r => .cons (.str n) (RepVs.of_strs r)

theorem Ext.new {p : Addr} {o : HO} (h : H p = none) : Ext K H (upd H p o) :=
  ⟨fun a xs q => by rw [upd_ne (ne_of_none q h)]; exact q, fun a ob u q => by rw [upd_ne (ne_of_none q h)]; exact q⟩
theorem Ext.mut {p : Addr} {o : HO} (h : Mut (H p)) : Ext K H (upd H p o) := by
  have ne : ∀ a u, H a = some u → ¬ Mut (some u) → a ≠ p := fun a u e n z => by subst z; rw [e] at h; exact n h
  exact ⟨fun a xs q => by rw [upd_ne (ne _ _ q fun z => z)]; exact q, fun a ob u q => by rw [upd_ne (ne _ _ q fun z => z)]; exact q⟩
/-- behind a call, a block -/
theorem Ext.of_un {fs ex : List Addr} {h h' : Heap} (u : Un fs ex H H' h h') : Ext K H H' := ⟨u.tups, u.frzs⟩
end

/-! ### keys -/
def kP : Key → PV
  | .inl i => .int i
  | .inr x => .str x
def RepD (K : PySem.W.Frag) (H : Hp) {κ : Type} : List (κ × PV) → List (κ × V) → Prop := Paired fun p q => p.1 = q.1 ∧ RepV K H p.2 q.2
def RepF (K : PySem.W.Frag) (H : Hp) : List (Str × PV) → List (Str × V) → Prop := Paired fun p q => p.1 = q.1 ∧ RepV K H p.2 q.2
/-- what the abstract object at a is -/
def RepA (K : PySem.W.Frag) (H : Hp) (a : Addr) : AO → Prop
  | .lst xs => ∃ vs, H a = some (.lst vs) ∧ RepVs K H xs vs
  | .dK kvs => (∃ ks, H a = some (.dK ks) ∧ RepD K H kvs ks) ∨ kvs = [] ∧ H a = some (.dT [])
  | .dT kvs => ∃ ks, H a = some (.dT ks) ∧ RepD K H kvs ks
  | .ins C fs => ∃ dx gs, H a = some (.ins C dx gs) ∧ RepF K H fs gs
  | .dD => H a = some (.dK [])
def RepH (K : PySem.W.Frag) (H : Hp) (A : AH) : Prop := ∀ a o, A a = some o → RepA K H a o
section
variable {K : PySem.W.Frag} {H H' : Hp} {A : AH}
theorem Paired.mono {α β : Type} {F G : α → β → Prop} (h : ∀ a b, F a b → G a b) : ∀ {l : List α} {m : List β}, Paired F l m → Paired G l m
  | _, _, .nil => .nil
  | _, _, .cons r t => .cons (h _ _ r) (Paired.mono h t)
theorem RepD.ext {κ : Type} (e : Ext K H H') {l : List (κ × PV)} {m : List (κ × V)} (r : RepD K H l m) : RepD K H' l m := Paired.mono (fun _ _ h => ⟨h.1, h.2.ext e⟩) r
theorem RepF.ext (e : Ext K H H') {l : List (Str × PV)} {m : List (Str × V)} (r : RepF K H l m) : RepF K H' l m := Paired.mono (fun _ _ h => ⟨h.1, h.2.ext e⟩) r
/-- an object at a that is still what it was -/
theorem RepA.keep (e : Ext K H H') {a : Addr} {o : AO} (hs : ∀ u, H a = some u → H' a = some u) (r : RepA K H a o) : RepA K H' a o := by
  cases o with
  | lst xs => obtain ⟨vs, h, q⟩ := r; exact ⟨vs, hs _ h, q.ext e⟩
  | dK kvs =>
    rcases r with ⟨ks, h, q⟩ | ⟨h, q⟩
    · exact .inl ⟨ks, hs _ h, q.ext e⟩
    · exact .inr ⟨h, hs _ q⟩
  | dT kvs => obtain ⟨ks, h, q⟩ := r; exact ⟨ks, hs _ h, q.ext e⟩
  | ins C fs => obtain ⟨dx, gs, h, q⟩ := r; exact ⟨dx, gs, hs _ h, q.ext e⟩
  | dD => exact hs _ r
theorem RepH.sub {B : AH} (r : RepH K H A) (h : Sub B A) : RepH K H B := fun a o q => r a o (h a o q)
/-- a new object at p -/
theorem RepH.new {p : Addr} {o : AO} {u : HO} (r : RepH K H A) (hp : H p = none) (h : RepA K (upd H p u) p o) : RepH K (upd H p u) (aupd A p o) := fun a q e => by
  by_cases z : a = p
  · subst z; rw [aupd_same] at e; cases e; exact h
  · rw [aupd_ne z] at e
    exact (r a q e).keep (.new hp) fun v hv => by rw [upd_ne z]; exact hv
/-- a new object that is not spoken of (a tuple) -/
theorem RepH.newT {p : Addr} {u : HO} (r : RepH K H A) (hp : H p = none) : RepH K (upd H p u) A := fun a q e =>
  (r a q e).keep (.new hp) fun v hv => by rw [upd_ne (ne_of_none hv hp)]; exact hv
/-- the object at p is another one -/
theorem RepH.put {p : Addr} {o : AO} {u : HO} (r : RepH K H A) (hp : Mut (H p)) (h : RepA K (upd H p u) p o) : RepH K (upd H p u) (aupd A p o) := fun a q e => by
  by_cases z : a = p
  · subst z; rw [aupd_same] at e; cases e; exact h
  · rw [aupd_ne z] at e
    exact (r a q e).keep (.mut hp) fun v hv => by rw [upd_ne z]; exact hv
theorem RepH.free (r : RepH K H A) {p : Addr} (hp : H p = none) : A p = none := by
  cases e : A p with
  | none => rfl
  | some o =>
    have q := r p o e
    cases o with
    | lst xs => obtain ⟨vs, h, _⟩ := q; rw [hp] at h; cases h
    | dK kvs => rcases q with ⟨vs, h, _⟩ | ⟨_, h⟩ <;> (rw [hp] at h; cases h)
    | dT kvs => obtain ⟨vs, h, _⟩ := q; rw [hp] at h; cases h
    | ins C fs => obtain ⟨dx, gs, h, _⟩ := q; rw [hp] at h; cases h
    | dD => have h : H p = some (.dK []) := q; rw [hp] at h; cases h
end
end Lf
namespace Lf
open PySem PySem.Spec L2
open PyProof.Rows hiding St

abbrev LSt := List (Option PV)
@[reducible] def sget : LSt → Nat → Option PV
  | [], _ => none
  | x :: _, 0 => x
  | _ :: r, n + 1 => sget r n
@[reducible] def sset : LSt → Nat → PV → LSt
  | [], _, _ => []
  | _ :: r, 0, v => some v :: r
  | x :: r, n + 1, v => x :: sset r n v
@[reducible] def snone : LSt → Nat → LSt
  | [], _ => []
  | _ :: r, 0 => none :: r
  | x :: r, n + 1 => x :: snone r n
theorem sget_eq : ∀ {s : LSt} {i : Nat} {v : PV}, sget s i = some v → s[i]? = some (some v)
  | [], _, _, h => by cases h
  | x :: _, 0, v, h => by simpa [sget] using h
  | _ :: r, n + 1, v, h => by simpa using sget_eq (s := r) (i := n) h
theorem sset_eq : ∀ (s : LSt) (i : Nat) (v : PV), sset s i v = s.set i (some v)
  | [], _, _ => rfl
  | _ :: _, 0, _ => rfl
  | x :: r, n + 1, v => by simp [sset, sset_eq r n v]
theorem snone_eq : ∀ (s : LSt) (i : Nat), snone s i = s.set i none
  | [], _ => rfl
  | _ :: _, 0 => rfl
  | x :: r, n + 1 => by simp [snone, snone_eq r n]
abbrev QK := PV → AH → Prop
abbrev LE := LSt → AH → QK → Prop
abbrev LT := LSt → AH → (Bool → AH → Prop) → Prop
abbrev LA := LSt → AH → (List PV → AH → Prop) → Prop
structure LEnds where
  nx : LSt → AH → Prop
  rt : QK
  bk : LSt → AH → Prop
  ct : LSt → AH → Prop
abbrev LS := LEnds → LSt → AH → Prop
/-- what is wanted of an exception: its class, its own dict; within a body with the slots -/
abbrev LX := Value → Option Addr → AH → Prop
abbrev LW := Value → Option Addr → LSt → AH → Prop
abbrev LSp := List PV → AH → QK → LX → Prop

structure RepS (K : PySem.W.Frag) (H : Hp) (s : LSt) (σ : St) : Prop where
  at_ : ∀ (i : Nat) (x : PV), s[i]? = some (some x) → ∃ v, σ[i]? = some (some v) ∧ RepV K H x v
  len : s.length = σ.length
theorem RepS.ext {K : PySem.W.Frag} {H H' : Hp} {s : LSt} {σ : St} (e : Ext K H H') (r : RepS K H s σ) : RepS K H' s σ :=
  ⟨fun i x h => let ⟨v, a, b⟩ := r.at_ i x h; ⟨v, a, b.ext e⟩, r.len⟩
theorem RepS.set {K : PySem.W.Frag} {H : Hp} {s : LSt} {σ : St} (r : RepS K H s σ) (i : Nat) {x : PV} {v : V} (q : RepV K H x v) : RepS K H (sset s i x) (σ.set i (some v)) := by
  rw [sset_eq]
  refine ⟨fun j y h => ?_, by simp [r.len]⟩
  by_cases e : i = j
  · subst e
    rw [List.getElem?_set] at h ⊢
    simp only [if_true] at h ⊢
    split at h
    · rename_i hl
      rw [if_pos (by rw [← r.len]; exact hl)]
      cases h; exact ⟨v, rfl, q⟩
    · cases h
  · rw [List.getElem?_set_ne e] at h ⊢
    exact r.at_ j y h
theorem RepS.setN {K : PySem.W.Frag} {H : Hp} {s : LSt} {σ : St} (r : RepS K H s σ) (i : Nat) : RepS K H (snone s i) (σ.set i none) := by
  rw [snone_eq]
  refine ⟨fun j y h => ?_, by simp [r.len]⟩
  by_cases e : i = j
  · subst e
    rw [List.getElem?_set] at h
    simp only [if_true] at h
    split at h <;> cases h
  · rw [List.getElem?_set_ne e] at h ⊢
    exact r.at_ j y h
/-- less known -/
theorem RepS.forget {K : PySem.W.Frag} {H : Hp} {s : LSt} {σ : St} (r : RepS K H s σ) (i : Nat) : RepS K H (s.set i none) σ := by
  refine ⟨fun j y h => ?_, by simp [r.len]⟩
  by_cases e : i = j
  · subst e
    rw [List.getElem?_set] at h
    simp only [if_true] at h
    split at h <;> cases h
  · rw [List.getElem?_set_ne e] at h
    exact r.at_ j y h

def cE (K : PySem.W.Frag) (t : LE) : TE := fun σ H R => ∃ (s : LSt) (A : AH) (Q : QK), RepS K H s σ ∧ RepH K H A ∧ t s A Q ∧ ∀ x A', Q x A' → ∀ v H', Ext K H H' → RepV K H' x v → RepH K H' A' → R v H'
def cT (K : PySem.W.Frag) (t : LT) : TT := fun σ H R => ∃ (s : LSt) (A : AH) (Q : Bool → AH → Prop), RepS K H s σ ∧ RepH K H A ∧ t s A Q ∧ ∀ b A', Q b A' → ∀ H', Ext K H H' → RepH K H' A' → R b H'
def cA (K : PySem.W.Frag) (t : LA) : TA := fun σ H R => ∃ (s : LSt) (A : AH) (Q : List PV → AH → Prop), RepS K H s σ ∧ RepH K H A ∧ t s A Q ∧ ∀ xs A', Q xs A' → ∀ vs H', Ext K H H' → RepVs K H' xs vs → RepH K H' A' → R vs H'
structure EndsTo (K : PySem.W.Frag) (H : Hp) (L : LEnds) (D : Ends) : Prop where
  nx : ∀ s A, L.nx s A → ∀ σ H', Ext K H H' → RepS K H' s σ → RepH K H' A → D.nx σ H'
  rt : ∀ x A, L.rt x A → ∀ v H', Ext K H H' → RepV K H' x v → RepH K H' A → D.rt v H'
  bk : ∀ s A, L.bk s A → ∀ σ H', Ext K H H' → RepS K H' s σ → RepH K H' A → D.bk σ H'
  ct : ∀ s A, L.ct s A → ∀ σ H', Ext K H H' → RepS K H' s σ → RepH K H' A → D.ct σ H'
theorem EndsTo.ext {K : PySem.W.Frag} {H H1 : Hp} {L : LEnds} {D : Ends} (e : Ext K H H1) (h : EndsTo K H L D) : EndsTo K H1 L D :=
  ⟨fun s A q σ H' e' => h.nx s A q σ H' (e.trans e'), fun x A q v H' e' => h.rt x A q v H' (e.trans e'), fun s A q σ H' e' => h.bk s A q σ H' (e.trans e'), fun s A q σ H' e' => h.ct s A q σ H' (e.trans e')⟩
def cS (K : PySem.W.Frag) (t : LS) : TS := fun D σ H => ∃ (s : LSt) (A : AH) (L : LEnds), RepS K H s σ ∧ RepH K H A ∧ t L s A ∧ EndsTo K H L D
def cW (K : PySem.W.Frag) (W : LW) : WX := fun cls d σ H => ∃ (s : LSt) (A : AH), RepS K H s σ ∧ RepH K H A ∧ W cls d s A
def cSp (K : PySem.W.Frag) (S : LSp) : Sp := fun vs H R E => ∃ (xs : List PV) (A : AH) (Q : QK) (Z : LX), RepVs K H xs vs ∧ RepH K H A ∧ S xs A Q Z ∧
  (∀ x A', Q x A' → ∀ v H', Ext K H H' → RepV K H' x v → RepH K H' A' → R v H') ∧ ∀ cls d A', Z cls d A' → ∀ H', Ext K H H' → RepH K H' A' → E cls d H'

abbrev JE (X : Cx) (e : Expr) (t : LE) : Prop := PE X e (cE X.K t)
abbrev JT (X : Cx) (e : Expr) (t : LT) : Prop := PT X e (cT X.K t)
abbrev JA (X : Cx) (es : List Expr) (t : LA) : Prop := PA X es (cA X.K t)
abbrev JS (X : Cx) (st : Stmt) (t : LS) : Prop := PS X st (cS X.K t)
abbrev JSs (X : Cx) (st : List Stmt) (t : LS) : Prop := PSs X st (cS X.K t)

theorem _root_.L2.PE.imp {X : Cx} {e : Expr} {t t' : TE} (h : PE X e t) (q : ∀ σ H R, t' σ H R → t σ H R) : PE X e t' := ⟨fun pins s σ H Q I z => h.run pins s σ H Q I (q _ _ _ z)⟩
theorem _root_.L2.PT.imp {X : Cx} {e : Expr} {t t' : TT} (h : PT X e t) (q : ∀ σ H R, t' σ H R → t σ H R) : PT X e t' := ⟨fun pins s σ H Q I z => h.run pins s σ H Q I (q _ _ _ z)⟩
theorem _root_.L2.PW.imp {X : Cx} {e : Expr} {t t' : TT} (h : PW X e t) (q : ∀ σ H R, t' σ H R → t σ H R) : PW X e t' := ⟨fun wh pins s σ H Q I z => h.run wh pins s σ H Q I (q _ _ _ z)⟩
theorem _root_.L2.PA.imp {X : Cx} {e : List Expr} {t t' : TA} (h : PA X e t) (q : ∀ σ H R, t' σ H R → t σ H R) : PA X e t' := ⟨fun pos pins s σ H Q I z => h.run pos pins s σ H Q I (q _ _ _ z)⟩
theorem _root_.L2.PS.imp {X : Cx} {e : Stmt} {t t' : TS} (h : PS X e t) (q : ∀ D σ H, t' D σ H → t D σ H) : PS X e t' := ⟨fun pins s σ H D I z => h.run pins s σ H D I (q _ _ _ z)⟩
theorem _root_.L2.PSs.imp {X : Cx} {e : List Stmt} {t t' : TS} (h : PSs X e t) (q : ∀ D σ H, t' D σ H → t D σ H) : PSs X e t' := ⟨fun pins s σ H D I z => h.run pins s σ H D I (q _ _ _ z)⟩
/-- with the invariant at hand -/
theorem _root_.L2.PE.withInv {X : Cx} {e : Expr} {t' : TE} (h : ∀ pins s σ H R, Inv X pins σ H s → t' σ H R → ∃ t, PE X e t ∧ t σ H R) : PE X e t' := ⟨fun pins s σ H Q I z => let ⟨_, p, q⟩ := h pins s σ H Q I z; p.run pins s σ H Q I q⟩

/-! ### names, constants -/
@[reducible] def lVar (i : Nat) : LE := fun s A Q => match sget s i with
  | some v => Q v A
  | _ => False
@[reducible] def lC (v : PV) : LE := fun _ A Q => Q v A
section
variable {X : Cx} {a b c : Expr} {ta tb tc : LE} {pos : Pos}
theorem je_var {i : Nat} {x : Str} (hN : X.N[i]? = some x) (hv : Vis X.env.scope x) (hd : (x == ("__debug__" : Str)) = false) (hcd : (x == ("__classdict__" : Str)) = false) : JE X (.Name x pos) (lVar i) :=
  (pe_var hN hv hd hcd).imp fun σ H R ⟨s, A, Q, rs, rh, t, k⟩ => by
    unfold lVar at t
    split at t
    · rename_i v e
      obtain ⟨u, h1, h2⟩ := rs.at_ i v (sget_eq e)
      exact ⟨u, h1, k _ _ t _ _ (.refl _ _) h2 rh⟩
    · exact t.elim
theorem je_const {e : Expr} {v : V} {x : PV} (h : PE X e (tC v)) (r : ∀ H, RepV X.K H x v) : JE X e (lC x) := h.imp fun σ H R ⟨s, A, Q, rs, rh, t, k⟩ => k _ _ t _ _ (.refl _ _) (r H) rh

/-! ### operations on values -/
abbrev L2R := PV → PV → AH → QK → Prop
def cR (K : PySem.W.Frag) (r : L2R) : R2 := fun x y H R => ∃ (p q : PV) (A : AH) (Q : QK), RepV K H p x ∧ RepV K H q y ∧ RepH K H A ∧ r p q A Q ∧ ∀ z A', Q z A' → ∀ v H', Ext K H H' → RepV K H' z v → RepH K H' A' → R v H'
abbrev LOp (X : Cx) (f : Value → Value → Sem Value) (r : L2R) : Prop := OpR X f (cR X.K r)
theorem _root_.L2.OpR.imp {X : Cx} {f : Value → Value → Sem Value} {r r' : R2} (h : OpR X f r) (q : ∀ x y H R, r' x y H R → r x y H R) : OpR X f r' := fun pins s σ H x y v u Q I rx ry z => h pins s σ H x y v u Q I rx ry (q _ _ _ _ z)
@[reducible] def lOp (r : L2R) (ta tb : LE) : LE := fun s A Q => ta s A fun x A1 => tb s A1 fun y A2 => r x y A2 Q
theorem lOp_to {K : PySem.W.Frag} {r : L2R} {σ : St} {H : Hp} {R : VK} (h : cE K (lOp r ta tb) σ H R) : tOp (cR K r) (cE K ta) (cE K tb) σ H R := by
  obtain ⟨s, A, Q, rs, rh, t, k⟩ := h
  refine ⟨s, A, _, rs, rh, t, fun x A1 t1 v1 H1 e1 r1 rh1 => ⟨s, A1, _, rs.ext e1, rh1, t1, fun y A2 t2 v2 H2 e2 r2 rh2 => ⟨x, y, A2, Q, r1.ext e2, r2, rh2, t2, fun z A3 t3 v3 H3 e3 => k z A3 t3 v3 H3 (e1.trans (e2.trans e3))⟩⟩⟩
theorem je_op {op : Operator} {r : L2R} (ho : LOp X (binaryOp op) r) (ha : JE X a ta) (hb : JE X b tb) : JE X (.BinOp a op b pos) (lOp r ta tb) :=
  (pe_op ho ha hb).imp fun _ _ _ h => lOp_to h
theorem je_cmp {op : CmpOp} {r : L2R} (ho : LOp X (compareOp op) r) (ha : JE X a ta) (hb : JE X b tb) (hm : behindInMarks op b = false) : JE X (.Compare a [op] [b] pos) (lOp r ta tb) :=
  (pe_cmpR ho ha hb hm).imp fun _ _ _ h => lOp_to h
/-- a bool, as a test -/
@[reducible] def lTest (t : LE) : LT := fun s A Q => t s A fun x A' => match x with
  | .bl k => Q k A'
  | _ => False
theorem lTest_to {K : PySem.W.Frag} {t : LE} {t0 : TE} (h0 : ∀ σ H R, cE K t σ H R → t0 σ H R) {σ : St} {H : Hp} {R : Bool → Hp → Prop} (h : cT K (lTest t) σ H R) : tTest t0 σ H R := by
  obtain ⟨s, A, Q, rs, rh, t, k⟩ := h
  refine h0 _ _ _ ⟨s, A, _, rs, rh, t, fun x A1 t1 v1 H1 e1 r1 rh1 => ?_⟩
  cases r1 with
  | bl b => exact ⟨b, rfl, k _ _ t1 _ e1 rh1⟩
  | _ => exact (show False from t1).elim
theorem jt_cmp {op : CmpOp} {r : L2R} (ho : LOp X (compareOp op) r) (ha : JE X a ta) (hb : JE X b tb) (hm : behindInMarks op b = false) : JT X (.Compare a [op] [b] pos) (lTest (lOp r ta tb)) :=
  (pt_cmpR ho ha hb hm).imp fun _ _ _ h => lTest_to (fun _ _ _ => lOp_to) h
@[reducible] def lChain (r r' : L2R) (ta tb tc : LE) : LE := fun s A Q => ta s A fun x A1 => tb s A1 fun y A2 => r x y A2 fun z A3 => match z with
  | .bl k => if k = true then tc s A3 fun w A4 => r' y w A4 Q else Q (.bl false) A3
  | _ => False
theorem lChain_to {K : PySem.W.Frag} {r r' : L2R} {σ : St} {H : Hp} {R : VK} (h : cE K (lChain r r' ta tb tc) σ H R) : tChain (cR K r) (cR K r') (cE K ta) (cE K tb) (cE K tc) σ H R := by
  obtain ⟨s, A, Q, rs, rh, t, k⟩ := h
  refine ⟨s, A, _, rs, rh, t, fun x A1 t1 v1 H1 e1 r1 rh1 => ⟨s, A1, _, rs.ext e1, rh1, t1, fun y A2 t2 v2 H2 e2 r2 rh2 => ⟨x, y, A2, _, r1.ext e2, r2, rh2, t2, fun z A3 t3 v3 H3 e3 r3 rh3 => ?_⟩⟩⟩
  cases r3 with
  | bl c =>
    refine ⟨c, rfl, ?_⟩
    have t3' : if c = true then tc s A3 fun w A4 => r' y w A4 Q else Q (.bl false) A3 := t3
    cases c with
    | true =>
      rw [if_pos rfl] at t3' ⊢
      exact ⟨s, A3, _, rs.ext (e1.trans (e2.trans e3)), rh3, t3', fun w A4 t4 v4 H4 e4 r4 rh4 => ⟨y, w, A4, Q, r2.ext (e3.trans e4), r4, rh4, t4, fun z' A5 t5 v5 H5 e5 => k z' A5 t5 v5 H5 (e1.trans (e2.trans (e3.trans (e4.trans e5))))⟩⟩
    | false =>
      rw [if_neg Bool.false_ne_true] at t3' ⊢
      exact k _ _ t3' _ _ (e1.trans (e2.trans e3)) (.bl false) rh3
  | _ => exact (show False from t3).elim
theorem je_chain {op op' : CmpOp} {r r' : L2R} (ho : LOp X (compareOp op) r) (ho' : LOp X (compareOp op') r') (ha : JE X a ta) (hb : JE X b tb) (hc : JE X c tc) (hm : lastMarks [op, op'] [b, c] = false) : JE X (.Compare a [op, op'] [b, c] pos) (lChain r r' ta tb tc) :=
  (pe_chain ho ho' ha hb hc hm).imp fun _ _ _ h => lChain_to h
theorem jt_chain {op op' : CmpOp} {r r' : L2R} (ho : LOp X (compareOp op) r) (ho' : LOp X (compareOp op') r') (ha : JE X a ta) (hb : JE X b tb) (hc : JE X c tc) (hm : lastMarks [op, op'] [b, c] = false) : JT X (.Compare a [op, op'] [b, c] pos) (lTest (lChain r r' ta tb tc)) :=
  (pt_chain ho ho' ha hb hc hm).imp fun _ _ _ h => lTest_to (fun _ _ _ => lChain_to) h

/-! ### truth, and, or, not, if -/
@[reducible] def lTru (x : PV) (A : AH) (Q : Bool → Prop) : Prop := match x with
  | .non => Q false
  | .bl b => Q b
  | .int i => Q (i != 0)
  | .str y => y.length ≤ sizeLine ∧ Q ((y.length : Int) != 0)
  | .tup _ xs => Q (!xs.isEmpty)
  | .ref p => match A p with
    | some (.lst xs) => Q (!xs.isEmpty)
    | _ => False
  | _ => False
theorem RepVs.empty {K : PySem.W.Frag} {H : Hp} {xs : List PV} {vs : List V} (r : RepVs K H xs vs) : vs.isEmpty = xs.isEmpty := by cases r <;> rfl
theorem RepD.empty {K : PySem.W.Frag} {H : Hp} {κ : Type} {xs : List (κ × PV)} {vs : List (κ × V)} (r : RepD K H xs vs) : vs.isEmpty = xs.isEmpty := by cases r <;> rfl
theorem lTru_to {K : PySem.W.Frag} {H : Hp} {A : AH} {x : PV} {v : V} {Q : Bool → Prop} (rx : RepV K H x v) (rh : RepH K H A) (h : lTru x A Q) : ∃ k, TruV K v H k ∧ Q k := by
  cases rx with
  | non => exact ⟨false, rfl, h⟩
  | bl b => exact ⟨b, rfl, h⟩
  | int i => exact ⟨_, rfl, h⟩
  | str y => exact ⟨_, ⟨h.1, rfl⟩, h.2⟩
  | tup hs r => exact ⟨_, .inr (.inl ⟨_, hs.sq, rfl⟩), by rw [r.empty]; exact h⟩
  | ref p =>
    have h' : (match A p with
      | some (.lst xs) => Q (!xs.isEmpty)
      | _ => False) := h
    split at h'
    · rename_i xs e
      obtain ⟨vs, q, r⟩ := rh p _ e
      exact ⟨_, .inl ⟨_, .of q, rfl⟩, by rw [r.empty]; exact h'⟩
    · exact h'.elim
  | _ => exact (show False from h).elim
@[reducible] def lTruE (t : LE) : LT := fun s A Q => t s A fun x A' => lTru x A' fun b => Q b A'
theorem jt_truth (ha : JE X a ta) (he : ∀ whole, isTrue a X.env whole = (do let v ← whole; standAt a.pos; holding [v] (truthy v))) : JT X a (lTruE ta) :=
  (pt_truth ha he).imp fun σ H R ⟨s, A, Q, rs, rh, t, k⟩ => ⟨s, A, _, rs, rh, t, fun x A1 t1 v1 H1 e1 r1 rh1 => by
    obtain ⟨b, h1, h2⟩ := lTru_to r1 rh1 t1
    exact ⟨b, h1, k _ _ h2 _ e1 rh1⟩⟩
@[reducible] def lAnd (t u : LT) : LT := fun s A Q => t s A fun c A1 => if c = true then u s A1 Q else Q false A1
@[reducible] def lOr (t u : LT) : LT := fun s A Q => t s A fun c A1 => if c = true then Q true A1 else u s A1 Q
@[reducible] def lNot (t : LT) : LT := fun s A Q => t s A fun c A1 => Q (!c) A1
variable {t u : LT} {rest : List Expr}
theorem jw_and (ha : JT X a t) (hb : PW X (.BoolOp .And (b :: rest) pos) (cT X.K u)) : PW X (.BoolOp .And (a :: b :: rest) pos) (cT X.K (lAnd t u)) :=
  PW.imp (pw_and ha hb) fun σ H R ⟨s, A, Q, rs, rh, t, k⟩ => ⟨s, A, _, rs, rh, t, fun c A1 t1 H1 e1 rh1 => by
    cases c with
    | true => exact ⟨s, A1, Q, rs.ext e1, rh1, t1, fun b A2 t2 H2 e2 => k b A2 t2 H2 (e1.trans e2)⟩
    | false => exact k _ _ t1 _ e1 rh1⟩
theorem jw_or (ha : JT X a t) (hb : PW X (.BoolOp .Or (b :: rest) pos) (cT X.K u)) : PW X (.BoolOp .Or (a :: b :: rest) pos) (cT X.K (lOr t u)) :=
  PW.imp (pw_or ha hb) fun σ H R ⟨s, A, Q, rs, rh, t, k⟩ => ⟨s, A, _, rs, rh, t, fun c A1 t1 H1 e1 rh1 => by
    cases c with
    | true => exact k _ _ t1 _ e1 rh1
    | false => exact ⟨s, A1, Q, rs.ext e1, rh1, t1, fun b A2 t2 H2 e2 => k b A2 t2 H2 (e1.trans e2)⟩⟩
theorem jt_not (ha : JT X a t) : JT X (.UnaryOp .Not a pos) (lNot t) :=
  (pt_not ha).imp fun σ H R ⟨s, A, Q, rs, rh, t, k⟩ => ⟨s, A, _, rs, rh, t, fun c A1 t1 H1 e1 rh1 => k _ _ t1 _ e1 rh1⟩
@[reducible] def lAndV (ta tb : LE) : LE := fun s A Q => ta s A fun x A1 => match x with
  | .bl c => if c = true then tb s A1 Q else Q (.bl false) A1
  | _ => False
@[reducible] def lOrV (ta tb : LE) : LE := fun s A Q => ta s A fun x A1 => match x with
  | .bl c => if c = true then Q (.bl true) A1 else tb s A1 Q
  | _ => False
@[reducible] def lNotV (ta : LE) : LE := fun s A Q => ta s A fun x A1 => match x with
  | .bl c => Q (.bl (!c)) A1
  | _ => False
theorem je_and (ha : JE X a ta) (hb : JE X (.BoolOp .And (b :: rest) pos) tb) : JE X (.BoolOp .And (a :: b :: rest) pos) (lAndV ta tb) :=
  (pe_and ha hb).imp fun σ H R ⟨s, A, Q, rs, rh, t, k⟩ => ⟨s, A, _, rs, rh, t, fun x A1 t1 v1 H1 e1 r1 rh1 => by
    cases r1 with
    | bl c =>
      refine ⟨c, rfl, ?_⟩
      cases c with
      | true => exact ⟨s, A1, Q, rs.ext e1, rh1, t1, fun b A2 t2 v2 H2 e2 => k b A2 t2 v2 H2 (e1.trans e2)⟩
      | false => exact k _ _ t1 _ _ e1 (.bl _) rh1
    | _ => exact (show False from t1).elim⟩
theorem je_or (ha : JE X a ta) (hb : JE X (.BoolOp .Or (b :: rest) pos) tb) : JE X (.BoolOp .Or (a :: b :: rest) pos) (lOrV ta tb) :=
  (pe_or ha hb).imp fun σ H R ⟨s, A, Q, rs, rh, t, k⟩ => ⟨s, A, _, rs, rh, t, fun x A1 t1 v1 H1 e1 r1 rh1 => by
    cases r1 with
    | bl c =>
      refine ⟨c, rfl, ?_⟩
      cases c with
      | true => exact k _ _ t1 _ _ e1 (.bl _) rh1
      | false => exact ⟨s, A1, Q, rs.ext e1, rh1, t1, fun b A2 t2 v2 H2 e2 => k b A2 t2 v2 H2 (e1.trans e2)⟩
    | _ => exact (show False from t1).elim⟩
theorem je_not (ha : JE X a ta) : JE X (.UnaryOp .Not a pos) (lNotV ta) :=
  (pe_not ha).imp fun σ H R ⟨s, A, Q, rs, rh, t, k⟩ => ⟨s, A, _, rs, rh, t, fun x A1 t1 v1 H1 e1 r1 rh1 => by
    cases r1 with
    | bl c => exact ⟨c, rfl, k _ _ t1 _ _ e1 (.bl _) rh1⟩
    | _ => exact (show False from t1).elim⟩
@[reducible] def lIf (t : LT) (ta tb : LE) : LE := fun s A Q => t s A fun c A1 => if c = true then ta s A1 Q else tb s A1 Q
theorem je_ifExp (hc : JT X c t) (ha : JE X a ta) (hb : JE X b tb) : JE X (.IfExp c a b pos) (lIf t ta tb) :=
  (pe_ifExp hc ha hb).imp fun σ H R ⟨s, A, Q, rs, rh, t, k⟩ => ⟨s, A, _, rs, rh, t, fun c A1 t1 H1 e1 rh1 => by
    cases c with
    | true => exact ⟨s, A1, Q, rs.ext e1, rh1, t1, fun b A2 t2 v2 H2 e2 => k b A2 t2 v2 H2 (e1.trans e2)⟩
    | false => exact ⟨s, A1, Q, rs.ext e1, rh1, t1, fun b A2 t2 v2 H2 e2 => k b A2 t2 v2 H2 (e1.trans e2)⟩⟩

/-! ### argument lists, displays -/
@[reducible] def lNil : LA := fun _ A Q => Q [] A
@[reducible] def lCons (ta : LE) (tr : LA) : LA := fun s A Q => ta s A fun x A1 => tr s A1 fun xs A2 => Q (x :: xs) A2
variable {e : Expr} {es : List Expr} {tr : LA}
theorem ja_nil : JA X [] lNil := PA.imp pa_nil fun σ H R ⟨s, A, Q, rs, rh, t, k⟩ => k _ _ t _ _ (.refl _ _) .nil rh
theorem ja_cons (ha : JE X e ta) (hr : JA X es tr) (hs : starEach (e :: es) X.env = (false, eval e X.env) :: starEach es X.env) : JA X (e :: es) (lCons ta tr) :=
  PA.imp (pa_cons ha hr hs) fun σ H R ⟨s, A, Q, rs, rh, t, k⟩ => ⟨s, A, _, rs, rh, t, fun x A1 t1 v1 H1 e1 r1 rh1 => ⟨s, A1, _, rs.ext e1, rh1, t1, fun xs A2 t2 vs H2 e2 r2 rh2 => k _ _ t2 _ _ (e1.trans e2) (.cons (r1.ext e2) r2) rh2⟩⟩
@[reducible] def lTup (t : LA) : LE := fun s A Q => t s A fun xs A1 => xs.length ≤ sizeLine ∧ Q (.tup .own xs) A1
@[reducible] def lLst (t : LA) : LE := fun s A Q => t s A fun xs A1 => xs.length ≤ sizeLine ∧ ∀ p, A1 p = none → Q (.ref p) (aupd A1 p (.lst xs))
theorem newTup {K : PySem.W.Frag} {H : Hp} {xs : List PV} {vs : List V} {p : Addr} (r : RepVs K H xs vs) (hp : H p = none) : RepV K (upd H p (.tup vs)) (.tup .own xs) (.ref p) :=
  .tup (k := .own) upd_same (r.ext (.new hp))
theorem newLst {K : PySem.W.Frag} {H : Hp} {A : AH} {xs : List PV} {vs : List V} {p : Addr} (r : RepVs K H xs vs) (rh : RepH K H A) (hp : H p = none) : RepH K (upd H p (.lst vs)) (aupd A p (.lst xs)) :=
  rh.new hp ⟨vs, upd_same, r.ext (.new hp)⟩
theorem putLst {K : PySem.W.Frag} {H : Hp} {A : AH} {xs : List PV} {ys vs : List V} {p : Addr} (r : RepVs K H xs vs) (rh : RepH K H A) (hp : H p = some (.lst ys)) : RepH K (upd H p (.lst vs)) (aupd A p (.lst xs)) :=
  rh.put (by rw [hp]; trivial) ⟨vs, upd_same, r.ext (.mut (by rw [hp]; trivial))⟩
theorem extLst {K : PySem.W.Frag} {H : Hp} {ys : List V} {p : Addr} {o : HO} (hp : H p = some (.lst ys)) : Ext K H (upd H p o) := .mut (by rw [hp]; trivial)
theorem je_tup {x1 : Nat} (h : JA X es tr) : JE X (.Tuple es x1 pos) (lTup tr) :=
  (pe_tup h).imp fun σ H R ⟨s, A, Q, rs, rh, t, k⟩ => ⟨s, A, _, rs, rh, t, fun xs A1 t1 vs H1 e1 r1 rh1 => ⟨by rw [← r1.length]; exact t1.1, fun p hp =>
    k _ _ t1.2 _ _ (e1.trans (.new hp)) (newTup r1 hp) (rh1.newT hp)⟩⟩
theorem je_lst (h : JA X es tr) : JE X (.List es pos) (lLst tr) :=
  (pe_lst h).imp fun σ H R ⟨s, A, Q, rs, rh, t, k⟩ => ⟨s, A, _, rs, rh, t, fun xs A1 t1 vs H1 e1 r1 rh1 => ⟨by rw [← r1.length]; exact t1.1, fun p hp =>
    k _ _ (t1.2 p (rh1.free hp)) _ _ (e1.trans (.new hp)) (.ref p) (newLst r1 rh1 hp)⟩⟩
end
end Lf
namespace Lf
open PySem PySem.Spec L2
open PyProof.Rows hiding St

section
variable {X : Cx}
/-- an answer without an address -/
theorem fin0 {K : PySem.W.Frag} {H : Hp} {A : AH} {Q : QK} {R : VK} {z : PV} {v : V} (t : Q z A) (rz : RepV K H z v) (rh : RepH K H A) (k : ∀ x A', Q x A' → ∀ v H', Ext K H H' → RepV K H' x v → RepH K H' A' → R v H') : R v H :=
  k z A t v H (.refl _ _) rz rh

@[reducible] def lAdd : L2R := fun x y A Q => match x, y with
  | .int i, .int j => Q (.int (i + j)) A
  | .int i, .bl j => Q (.int (i + b2i j)) A
  | .str a, .str b => a.length + b.length ≤ sizeLine ∧ Q (.str (a ++ b)) A
  | .tup .own xs, .tup .own ys => xs.length + ys.length ≤ sizeLine ∧ Q (.tup .own (xs ++ ys)) A
  | .ref p, .ref q => match A p, A q with
    | some (.lst xs), some (.lst ys) => xs.length + ys.length ≤ sizeLine ∧ ∀ r, A r = none → Q (.ref r) (aupd A r (.lst (xs ++ ys)))
    | _, _ => False
  | _, _ => False
theorem lop_add : LOp X (binaryOp .Add) lAdd := by
  intro pins s σ H x y v u R I rx ry h
  obtain ⟨p, q, A, Q, rp, rq, rh, t, k⟩ := h
  cases rp with
  | int i =>
    cases rq with
    | int j => exact op_add pins s σ H _ _ v u R I rx ry ⟨i, j, rfl, rfl, fin0 t (.int _) rh k⟩
    | bl j => exact op_add_ib pins s σ H _ _ v u R I rx ry ⟨i, j, rfl, rfl, fin0 t (.int _) rh k⟩
    | _ => exact (show False from t).elim
  | str i =>
    cases rq with
    | str j => exact op_add_str pins s σ H _ _ v u R I rx ry ⟨i, j, rfl, rfl, t.1, fin0 t.2 (.str _) rh k⟩
    | _ => exact (show False from t).elim
  | @tup k1 a1 vs1 xs1 hs r =>
    cases k1 with
    | own => ?_
    | _ => cases rq with
      | @tup k2 _ _ _ _ _ => cases k2 <;> exact (show False from t).elim
      | _ => exact (show False from t).elim
    cases rq with
    | @tup k2 a2 vs2 ys2 hs' r' =>
      cases k2 with
      | own => ?_
      | _ => exact (show False from t).elim
      obtain ⟨t1, t2⟩ := t
      refine op_catA pins s σ H _ _ v u R I rx ry ⟨_, _, _, _, rfl, rfl, hs.sq, hs'.sq, by rw [← r.length, ← r'.length]; exact t1, fun e => ?_, fun _ e => ?_, fun _ _ p hp => ?_⟩
      · subst e; cases r; exact fin0 t2 (.tup hs' r') rh k
      · subst e; cases r'; exact fin0 t2 (by rw [List.append_nil]; exact .tup hs r) rh k
      · exact k _ _ t2 _ _ (.new hp) (newTup (r.append r') hp) (rh.newT hp)
    | _ => exact (show False from t).elim
  | ref a =>
    cases rq with
    | ref b =>
      have t' : (match A a, A b with
        | some (.lst xs), some (.lst ys) => xs.length + ys.length ≤ sizeLine ∧ ∀ r, A r = none → Q (.ref r) (aupd A r (.lst (xs ++ ys)))
        | _, _ => False) := t
      split at t'
      · rename_i xs ys e1 e2
        obtain ⟨vs, h1, r1⟩ := rh a _ e1
        obtain ⟨ws, h2, r2⟩ := rh b _ e2
        exact op_cat pins s σ H _ _ v u R I rx ry ⟨_, _, _, _, rfl, rfl, h1, h2, by rw [← r1.length, ← r2.length]; exact t'.1, fun p hp =>
          k _ _ (t'.2 p (rh.free hp)) _ _ (.new hp) (.ref p) (newLst (r1.append r2) rh hp)⟩
      · exact t'.elim
    | _ => exact (show False from t).elim
  | _ => exact (show False from t).elim
@[reducible] def lII (C : Int → Int → Prop) (g : Int → Int → PV) : L2R := fun x y A Q => match x, y with
  | .int i, .int j => C i j ∧ Q (g i j) A
  | _, _ => False
theorem lop_II {f : Value → Value → Sem Value} {C : Int → Int → Prop} {g : Int → Int → Int} (h : OpR X f (rI C fun i j => .int (g i j))) : LOp X f (lII C fun i j => .int (g i j)) := by
  intro pins s σ H x y v u R I rx ry hh
  obtain ⟨p, q, A, Q, rp, rq, rh, t, k⟩ := hh
  cases rp with
  | int i =>
    cases rq with
    | int j => exact h pins s σ H _ _ v u R I rx ry ⟨i, j, rfl, rfl, t.1, fin0 t.2 (.int _) rh k⟩
    | _ => exact (show False from t).elim
  | _ => cases rq <;> exact (show False from t).elim
@[reducible] def lI0 (g : Int → Int → PV) : L2R := fun x y A Q => match x, y with
  | .int i, .int j => Q (g i j) A
  | _, _ => False
theorem lop_I0 {f : Value → Value → Sem Value} {g : Int → Int → Int} (h : OpR X f (rI0 fun i j => .int (g i j))) : LOp X f (lI0 fun i j => .int (g i j)) := by
  intro pins s σ H x y v u R I rx ry hh
  obtain ⟨p, q, A, Q, rp, rq, rh, t, k⟩ := hh
  cases rp with
  | int i =>
    cases rq with
    | int j => exact h pins s σ H _ _ v u R I rx ry ⟨i, j, rfl, rfl, fin0 t (.int _) rh k⟩
    | _ => exact (show False from t).elim
  | _ => cases rq <;> exact (show False from t).elim
abbrev lSub : L2R := lI0 fun i j => .int (i - j)
abbrev lFdiv : L2R := lII CDiv fun i j => .int (i / j)
abbrev lMod : L2R := lII (fun _ j => 0 < j) fun i j => .int (i % j)
abbrev lPow : L2R := lII CPow fun i j => .int (i ^ j.toNat)
abbrev lShl : L2R := lII CPow fun i j => .int (i * 2 ^ j.toNat)
abbrev lShr : L2R := lII (fun _ j => 0 ≤ j) fun i j => .int (i / 2 ^ j.toNat)
abbrev lBand : L2R := lI0 fun i j => .int (Builtin.bitAnd i j)
abbrev lBor : L2R := lI0 fun i j => .int (Builtin.bitOr i j)
abbrev lBxor : L2R := lI0 fun i j => .int (Builtin.bitXor i j)
/-- a * b: ints; a list or a tuple so many times -/
@[reducible] def lMul : L2R := fun x y A Q => match x, y with
  | .int i, .int j => CMul i j ∧ Q (.int (i * j)) A
  | .tup _ xs, .int k => (xs ≠ [] ∧ 2 ≤ k ∧ k ≤ 1000 ∧ xs.length ≤ 1000) ∧ Q (.tup .own (List.replicate k.toNat xs).flatten) A
  | .ref p, .int k => match A p with
    | some (.lst xs) => (-(2 ^ 63) ≤ k ∧ k < 2 ^ 63 ∧ xs.length * k.toNat ≤ sizeLine) ∧ ∀ r, A r = none → Q (.ref r) (aupd A r (.lst (List.replicate k.toNat xs).flatten))
    | _ => False
  | _, _ => False
theorem RepVs.rep {K : PySem.W.Frag} {H : Hp} {xs : List PV} {vs : List V} (h : RepVs K H xs vs) : ∀ k : Nat, RepVs K H (List.replicate k xs).flatten (List.replicate k vs).flatten
  | 0 => .nil
  | k + 1 => by rw [List.replicate_succ, List.replicate_succ, List.flatten_cons, List.flatten_cons]; exact h.append (RepVs.rep h k)
theorem lop_mul : LOp X (binaryOp .Mult) lMul := by
  intro pins s σ H x y v u R I rx ry h
  obtain ⟨p, q, A, Q, rp, rq, rh, t, k⟩ := h
  cases rp with
  | int i =>
    cases rq with
    | int j => exact op_mul pins s σ H _ _ v u R I rx ry ⟨i, j, rfl, rfl, t.1, fin0 t.2 (.int _) rh k⟩
    | _ => exact (show False from t).elim
  | tup hs r =>
    cases rq with
    | int j =>
      obtain ⟨⟨t1, t2, t3, t4⟩, t5⟩ := t
      refine op_repT pins s σ H _ _ v u R I rx ry ⟨_, j, _, rfl, rfl, hs.sq, fun e => t1 ?_, t2, t3, by rw [← r.length]; exact t4, fun p hp => ?_⟩
      · subst e; cases r; rfl
      · exact k _ _ t5 _ _ (.new hp) (newTup (r.rep _) hp) (rh.newT hp)
    | _ => exact (show False from t).elim
  | ref a =>
    cases rq with
    | int j =>
      have t' : (match A a with
        | some (.lst xs) => (-(2 ^ 63) ≤ j ∧ j < 2 ^ 63 ∧ xs.length * j.toNat ≤ sizeLine) ∧ ∀ r, A r = none → Q (.ref r) (aupd A r (.lst (List.replicate j.toNat xs).flatten))
        | _ => False) := t
      split at t'
      · rename_i xs e1
        obtain ⟨vs, h1, r1⟩ := rh a _ e1
        obtain ⟨⟨u1, u2, u3⟩, u4⟩ := t'
        exact op_rep pins s σ H _ _ v u R I rx ry ⟨_, j, _, rfl, rfl, h1, u1, u2, by rw [← r1.length]; exact u3, fun p hp =>
          k _ _ (u4 p (rh.free hp)) _ _ (.new hp) (.ref p) (newLst (r1.rep _) rh hp)⟩
      · exact t'.elim
    | _ => exact (show False from t).elim
  | _ => exact (show False from t).elim

/-! ### data -/
mutual
def toD : PV → Option PyData
  | .non => some .none
  | .bl b => some (.bool b)
  | .int i => some (.int i)
  | .str x => some (.str x)
  | .tup _ xs => (toDs xs).map PyData.tuple
  | .fro xs => (toDs xs).map PyData.list
  | _ => none
def toDs : List PV → Option (List PyData)
  | [] => some []
  | x :: r => match toD x, toDs r with
    | some d, some ds => some (d :: ds)
    | _, _ => none
end
def dataOf (A : AH) (x : PV) : Option PyData := match x with
  | .ref p => match A p with
    | some (.lst xs) => (toDs xs).map PyData.list
    | _ => none
  | x => toD x
mutual
theorem toD_dp {K : PySem.W.Frag} {H : Hp} : ∀ {x : PV} {v : V} {d : PyData}, RepV K H x v → toD x = some d → Dp K H v d
  | _, _, _, .non, e => by cases e; exact .non
  | _, _, _, .bl b, e => by cases e; exact .bl b
  | _, _, _, .int i, e => by cases e; exact .int i
  | _, _, _, .str x, e => by cases e; exact .str x
  | _, _, _, .ty _, e => nomatch e
  | _, _, _, .ref _, e => nomatch e
  | _, _, _, .tup (xs := xs) h r, e => by
    have e' : (toDs xs).map PyData.tuple = some _ := e
    obtain ⟨ds, e1, rfl⟩ := Option.map_eq_some_iff.mp e'
    exact .tup h.sq (toDs_dp r e1)
  | _, _, _, .fro (xs := xs) h r, e => by
    have e' : (toDs xs).map PyData.list = some _ := e
    obtain ⟨ds, e1, rfl⟩ := Option.map_eq_some_iff.mp e'
    exact .lst h.seq (toDs_dp r e1)
theorem toDs_dp {K : PySem.W.Frag} {H : Hp} : ∀ {xs : List PV} {vs : List V} {ds : List PyData}, RepVs K H xs vs → toDs xs = some ds → DpAll K H vs ds
  | _, _, _, .nil, e => by cases e; exact .nil
  | x :: xs, _, _, .cons h r, e => by
    have e' : (match toD x, toDs xs with
      | some d, some ds => some (d :: ds)
      | _, _ => none) = some _ := e
    split at e'
    · rename_i d ds e1 e2
      cases e'
      exact .cons (toD_dp h e1) (toDs_dp r e2)
    · cases e'
end
theorem dataOf_dp {K : PySem.W.Frag} {H : Hp} {A : AH} {x : PV} {v : V} {d : PyData} (r : RepV K H x v) (rh : RepH K H A) (e : dataOf A x = some d) : Dp K H v d := by
  cases r with
  | ref p =>
    have e' : (match A p with
      | some (.lst xs) => (toDs xs).map PyData.list
      | _ => none) = some d := e
    split at e'
    · rename_i xs ea
      obtain ⟨ds, e1, rfl⟩ := Option.map_eq_some_iff.mp e'
      obtain ⟨vs, h1, r1⟩ := rh p _ ea
      exact .lst (.of h1) (toDs_dp r1 e1)
    · cases e'
  | non => exact toD_dp .non e
  | bl b => exact toD_dp (.bl b) e
  | int i => exact toD_dp (.int i) e
  | str i => exact toD_dp (.str i) e
  | ty i => cases e
  | tup h q => exact toD_dp (.tup h q) e
  | fro h q => exact toD_dp (.fro h q) e
def okD (d : PyData) : Prop := SeqAt.shaped d = true
/-- == by what it says -/
@[reducible] def eqK (x y : PV) (A : AH) (k : Bool → Prop) : Prop := match x, y with
  | .int i, .int j => k (decide (i = j))
  | .str i, .str j => k (decide (i = j))
  | .bl i, .bl j => k (decide (i = j))
  | .int _, .non => k false
  | .non, .non => k true
  | x, y => match dataOf A x, dataOf A y with
    | some d, some e => okD d ∧ okD e ∧ k (PyData.eqv d e)
    | _, _ => False
@[reducible] def lEq : L2R := fun x y A Q => eqK x y A fun b => Q (.bl b) A
@[reducible] def lNe : L2R := fun x y A Q => eqK x y A fun b => Q (.bl (!b)) A
theorem eqK_to {K : PySem.W.Frag} {H : Hp} {A : AH} {x y : PV} {v w : V} {k : Bool → Prop} (rx : RepV K H x v) (ry : RepV K H y w) (rh : RepH K H A) (h : eqK x y A k) :
    (scal v w = true ∧ k (decide (v = w))) ∨ ∃ d e, Dp K H v d ∧ Dp K H w e ∧ SeqAt.shaped d = true ∧ SeqAt.shaped e = true ∧ k (PyData.eqv d e) := by
  unfold eqK at h
  split at h
  · cases rx; cases ry; exact .inl ⟨rfl, by rw [dec_int, Bool.beq_eq_decide_eq]; exact h⟩
  · cases rx; cases ry; exact .inl ⟨rfl, by rw [dec_str, Bool.beq_eq_decide_eq]; exact h⟩
  · cases rx; cases ry; exact .inl ⟨rfl, by rw [dec_bl, Bool.beq_eq_decide_eq]; exact h⟩
  · cases rx; cases ry; exact .inl ⟨rfl, by simpa using h⟩
  · cases rx; cases ry; exact .inl ⟨rfl, by simpa using h⟩
  · split at h
    · rename_i d e e1 e2
      exact .inr ⟨d, e, dataOf_dp rx rh e1, dataOf_dp ry rh e2, h.1, h.2.1, h.2.2⟩
    · exact h.elim
theorem lop_eq (hu : X.A.units + 64 < cLine) : LOp X (compareOp .Eq) lEq := by
  intro pins s σ H x y v u R I rx ry h
  obtain ⟨p, q, A, Q, rp, rq, rh, t, k⟩ := h
  rcases eqK_to rp rq rh t with ⟨h1, h2⟩ | ⟨d, e, h1, h2, h3, h4, h5⟩
  · exact op_eq pins s σ H _ _ v u R I rx ry ⟨h1, fin0 h2 (.bl _) rh k⟩
  · exact op_eqD hu pins s σ H _ _ v u R I rx ry ⟨d, e, h1, h2, h3, h4, fin0 h5 (.bl _) rh k⟩
theorem lop_ne (hu : X.A.units + 64 < cLine) : LOp X (compareOp .NotEq) lNe := by
  intro pins s σ H x y v u R I rx ry h
  obtain ⟨p, q, A, Q, rp, rq, rh, t, k⟩ := h
  rcases eqK_to rp rq rh t with ⟨h1, h2⟩ | ⟨d, e, h1, h2, h3, h4, h5⟩
  · exact op_ne pins s σ H _ _ v u R I rx ry ⟨h1, fin0 h2 (.bl _) rh k⟩
  · exact op_neD hu pins s σ H _ _ v u R I rx ry ⟨d, e, h1, h2, h3, h4, fin0 h5 (.bl _) rh k⟩
@[reducible] def lCmpI (g : Int → Int → Bool) : L2R := fun x y A Q => match x, y with
  | .int i, .int j => Q (.bl (g i j)) A
  | _, _ => False
theorem lop_cmpI {f : Value → Value → Sem Value} {g : Int → Int → Bool} (h : OpR X f (rI0 fun i j => .bl (g i j))) : LOp X f (lCmpI g) := by
  intro pins s σ H x y v u R I rx ry hh
  obtain ⟨p, q, A, Q, rp, rq, rh, t, k⟩ := hh
  cases rp with
  | int i =>
    cases rq with
    | int j => exact h pins s σ H _ _ v u R I rx ry ⟨i, j, rfl, rfl, fin0 t (.bl _) rh k⟩
    | _ => exact (show False from t).elim
  | _ => cases rq <;> exact (show False from t).elim
abbrev lLt : L2R := lCmpI fun i j => decide (i < j)
abbrev lLe : L2R := lCmpI fun i j => decide (i ≤ j)
abbrev lGt : L2R := lCmpI fun i j => decide (j < i)
abbrev lGe : L2R := lCmpI fun i j => decide (j ≤ i)
def isNonP : PV → Bool
  | .non => true
  | _ => false
@[reducible] def isK (x y : PV) (k : Bool → Prop) : Prop := match y with
  | .non => k (isNonP x)
  | .bl b => match x with
    | .bl a => k (decide (a = b))
    | _ => False
  | _ => False
@[reducible] def lIs : L2R := fun x y A Q => isK x y fun b => Q (.bl b) A
@[reducible] def lIsNot : L2R := fun x y A Q => isK x y fun b => Q (.bl (!b)) A
theorem RepV.isNon {K : PySem.W.Frag} {H : Hp} {x : PV} {v : V} (r : RepV K H x v) : decide (v = V.non) = isNonP x := by cases r <;> simp [isNonP]
theorem lop_is : LOp X (compareOp .Is) lIs := by
  intro pins s σ H x y v u R I rx ry h
  obtain ⟨p, q, A, Q, rp, rq, rh, t, k⟩ := h
  cases rq with
  | non => exact op_isN pins s σ H _ _ v u R I rx ry ⟨rfl, by rw [rp.isNon]; exact fin0 t (.bl _) rh k⟩
  | bl b =>
    cases rp with
    | bl a => exact op_isBl pins s σ H _ _ v u R I rx ry ⟨a, b, rfl, rfl, fin0 t (.bl _) rh k⟩
    | _ => exact (show False from t).elim
  | _ => exact (show False from t).elim
theorem lop_isNot : LOp X (compareOp .IsNot) lIsNot := by
  intro pins s σ H x y v u R I rx ry h
  obtain ⟨p, q, A, Q, rp, rq, rh, t, k⟩ := h
  cases rq with
  | non => exact op_notN pins s σ H _ _ v u R I rx ry ⟨rfl, by rw [rp.isNon]; exact fin0 t (.bl _) rh k⟩
  | bl b =>
    cases rp with
    | bl a => exact op_notBl pins s σ H _ _ v u R I rx ry ⟨a, b, rfl, rfl, fin0 t (.bl _) rh k⟩
    | _ => exact (show False from t).elim
  | _ => exact (show False from t).elim

/-! ### in -/
def flatP : PV → Bool
  | .non => true
  | .bl _ => true
  | .int _ => true
  | .str _ => true
  | _ => false
def eqP : PV → PV → Bool
  | .non, .non => true
  | .bl a, .bl b => a == b
  | .bl a, .int b => (if a then 1 else 0) == b
  | .int a, .bl b => a == (if b then 1 else 0)
  | .int a, .int b => a == b
  | .str a, .str b => a == b
  | _, _ => false
theorem RepV.flat {K : PySem.W.Frag} {H : Hp} {x : PV} {v : V} (r : RepV K H x v) (h : flatP x = true) : flatV v = true := by
  cases r <;> first | rfl | (cases h)
theorem RepVs.flat {K : PySem.W.Frag} {H : Hp} : ∀ {xs : List PV} {vs : List V}, RepVs K H xs vs → xs.all flatP = true → vs.all flatV = true
  | _, _, .nil, _ => rfl
  | _, _, .cons r t, h => by
    rw [List.all_cons, Bool.and_eq_true] at h ⊢
    exact ⟨r.flat h.1, RepVs.flat t h.2⟩
theorem RepV.eqF {K : PySem.W.Frag} {H : Hp} {x y : PV} {v w : V} (r : RepV K H x v) (q : RepV K H y w) (h : flatP x = true) (g : flatP y = true) : eqV v w = eqP x y := by
  cases r <;> first | (cases h; done) | (cases q <;> first | rfl | (cases g; done))
theorem RepVs.inF {K : PySem.W.Frag} {H : Hp} {x : PV} {v : V} (q : RepV K H x v) (g : flatP x = true) : ∀ {xs : List PV} {vs : List V}, RepVs K H xs vs → xs.all flatP = true → inV v vs = xs.any fun y => eqP y x
  | _, _, .nil, _ => rfl
  | _, _, .cons r t, h => by
    rw [List.all_cons, Bool.and_eq_true] at h
    unfold inV
    rw [List.any_cons, List.any_cons, r.eqF q h.1 g]
    exact congrArg _ (RepVs.inF q g t h.2)
/-- a key -/
@[reducible] def keyP : PV → Option Key
  | .int i => some (.inl i)
  | .str x => some (.inr x)
  | _ => none
@[reducible] def keysP : List PV → Option (List Key)
  | [] => some []
  | x :: r => match keyP x, keysP r with
    | some k, some ks => some (k :: ks)
    | _, _ => none
theorem keyP_rep {K : PySem.W.Frag} {H : Hp} {x : PV} {v : V} {k : Key} (r : RepV K H x v) (e : keyP x = some k) : v = kV k := by
  cases r <;> first | (cases e; done) | (cases e; rfl)
theorem keysP_rep {K : PySem.W.Frag} {H : Hp} : ∀ {xs : List PV} {vs : List V} {ks : List Key}, RepVs K H xs vs → keysP xs = some ks → vs = ks.map kV
  | _, _, _, .nil, e => by cases e; rfl
  | x :: xs, _, _, .cons r t, e => by
    have e' : (match keyP x, keysP xs with
      | some k, some ks => some (k :: ks)
      | _, _ => none) = some _ := e
    split at e'
    · rename_i k ks e1 e2
      cases e'
      rw [keyP_rep r e1, keysP_rep t e2]; rfl
    · cases e'
def valP {κ : Type} [DecidableEq κ] (kvs : List (κ × PV)) (k : κ) : Option PV := (kvs.find? fun kv => decide (kv.1 = k)).map (·.2)
def putP {κ : Type} [DecidableEq κ] (kvs : List (κ × PV)) (k : κ) (v : PV) : List (κ × PV) :=
  if kvs.any (fun kv => decide (kv.1 = k)) then kvs.map fun kv => if kv.1 = k then (kv.1, v) else kv else kvs ++ [(k, v)]
def dropP {κ : Type} [DecidableEq κ] (kvs : List (κ × PV)) (k : κ) : List (κ × PV) := kvs.filter fun kv => decide (kv.1 ≠ k)
end
end Lf
namespace Lf
open PySem PySem.Spec L2
open PyProof.Rows hiding St

section
variable {κ : Type} [DecidableEq κ] {K : PySem.W.Frag} {H : Hp}
theorem RepD.val {kvs : List (κ × PV)} {ks : List (κ × V)} (r : RepD K H kvs ks) (k : κ) : (valP kvs k = none ∧ valV ks k = none) ∨ ∃ x v, valP kvs k = some x ∧ valV ks k = some v ∧ RepV K H x v := by
  induction kvs generalizing ks with
  | nil => cases r; exact .inl ⟨rfl, rfl⟩
  | cons p t ih =>
    cases r with
    | cons h t' =>
      rename_i q qs
      by_cases e : p.1 = k
      · refine .inr ⟨p.2, q.2, ?_, valV_pos (by rw [← h.1]; exact e), h.2⟩
        simp [valP, List.find?_cons, e]
      · have e1 : valP (p :: t) k = valP t k := by simp [valP, List.find?_cons, e]
        rw [e1, valV_neg (by rw [← h.1]; exact e)]
        exact ih t'
theorem RepD.any {kvs : List (κ × PV)} {ks : List (κ × V)} (r : RepD K H kvs ks) (k : κ) : (kvs.any fun kv => decide (kv.1 = k)) = ks.any fun kv => decide (kv.1 = k) := by
  induction kvs generalizing ks with
  | nil => cases r; rfl
  | cons p t ih =>
    cases r with
    | cons h t' => rw [List.any_cons, List.any_cons, ih t', h.1]
theorem RepD.append {kvs lvs : List (κ × PV)} {ks ls : List (κ × V)} (r : RepD K H kvs ks) (q : RepD K H lvs ls) : RepD K H (kvs ++ lvs) (ks ++ ls) := by
  induction kvs generalizing ks with
  | nil => cases r; exact q
  | cons p t ih =>
    cases r with
    | cons h t' => exact .cons h (ih t')
theorem RepD.repl (k : κ) {x : PV} {v : V} (rv : RepV K H x v) : ∀ {kvs : List (κ × PV)} {ks : List (κ × V)}, RepD K H kvs ks → RepD K H (kvs.map fun kv => if kv.1 = k then (kv.1, x) else kv) (ks.map fun kv => if kv.1 = k then (kv.1, v) else kv)
  | _, _, .nil => .nil
  | p :: t, q :: u, .cons h t' => by
    rw [List.map_cons, List.map_cons]
    refine .cons ?_ (RepD.repl k rv t')
    rw [h.1]
    split
    · exact ⟨rfl, rv⟩
    · exact h
theorem RepD.put {kvs : List (κ × PV)} {ks : List (κ × V)} (r : RepD K H kvs ks) (k : κ) {x : PV} {v : V} (rv : RepV K H x v) : RepD K H (putP kvs k x) (putK ks k v) := by
  unfold putP putK
  rw [r.any k]
  split
  · exact RepD.repl k rv r
  · exact r.append (.cons ⟨rfl, rv⟩ .nil)
theorem RepD.drop {kvs : List (κ × PV)} {ks : List (κ × V)} (r : RepD K H kvs ks) (k : κ) : RepD K H (dropP kvs k) (dropK ks k) := by
  unfold dropP dropK
  induction kvs generalizing ks with
  | nil => cases r; exact .nil
  | cons p t ih =>
    cases r with
    | cons h t' =>
      rw [List.filter_cons, List.filter_cons, h.1]
      split
      · exact .cons h (ih t')
      · exact ih t'
theorem RepD.length {kvs : List (κ × PV)} {ks : List (κ × V)} (r : RepD K H kvs ks) : kvs.length = ks.length := by
  induction kvs generalizing ks with
  | nil => cases r; rfl
  | cons p t ih =>
    cases r with
    | cons h t' => exact congrArg Nat.succ (ih t')
end

/-- an empty dict may hold tuples as keys -/
theorem _root_.L2.Inv.reK {X : Cx} {pins : List (Addr × Obj)} {σ : St} {H : Hp} {s : Shared} {a : Addr} (I : Inv X pins σ H s) (h : H a = some (.dK [])) : Inv X pins σ (upd H a (.dT [])) s := by
  have mu : Mut (H a) := by rw [h]; trivial
  obtain ⟨z, y, vs, kv, dd⟩ := (I.hok a _ h : ObjOk X.prog X.w H s.heap a (.dK []))
  have e0 : vs = [] := by cases kv; rfl
  subst e0
  obtain ⟨o, es, ep, e, ex, dt, _, prs, nd⟩ := dd
  have new : ObjOk X.prog X.w (upd H a (.dT [])) s.heap a (.dT []) := by
    refine ⟨Nat.zero_le _, y, [], .nil, o, es, ep, e, ex, dt, by cases h0 : es.toList with
      | nil => exact ⟨rfl, List.nodup_nil⟩
      | cons x r => rw [h0] at prs; cases prs⟩
  have hw := I.write (x := a) (e := a) (o := .dT []) (h' := s.heap) (t' := s.toks) mu (.inl rfl) (fun b u _ q => q) ⟨o, e⟩ new
  exact hw

theorem _root_.L2.Inv.reT {X : Cx} {pins : List (Addr × Obj)} {σ : St} {H : Hp} {s : Shared} {a : Addr} (I : Inv X pins σ H s) (h : H a = some (.dT [])) : Inv X pins σ (upd H a (.dK [])) s := by
  have mu : Mut (H a) := by rw [h]; trivial
  obtain ⟨z, y, xs, kv, o, es, ep, e, ex, dt, rel, nd⟩ := (I.hok a _ h : ObjOk X.prog X.w H s.heap a (.dT []))
  have e0 : xs = [] := by cases kv; rfl
  subst e0
  have e1 : es = #[] := by
    have : es.toList = [] := rel
    cases es; simpa using this
  subst e1
  have new : ObjOk X.prog X.w (upd H a (.dK [])) s.heap a (.dK []) :=
    ⟨Nat.zero_le _, y, [], .nil, o, #[], ep, e, ex, dt, fun e he => absurd he (by simp), .nil, List.nodup_nil⟩
  exact I.write (x := a) (e := a) (o := .dK []) (h' := s.heap) (t' := s.toks) mu (.inl rfl) (fun b u _ q => q) ⟨o, e⟩ new
section
variable {X : Cx} {pins : List (Addr × Obj)} {σ : St} {H : Hp} {s : Shared} {A : AH} {a : Addr}
theorem aupd_self {A : AH} {a : Addr} {o : AO} (h : A a = some o) : aupd A a o = A := by
  funext b; unfold aupd
  split
  · rename_i e; rw [e, h]
  · rfl
/-- a dict of ints and texts, told so -/
theorem norm_K (I : Inv X pins σ H s) (rh : RepH X.K H A) {kvs : List (Key × PV)} (e : A a = some (.dK kvs)) :
    ∃ H1 ks, Inv X pins σ H1 s ∧ Ext X.K H H1 ∧ RepH X.K H1 A ∧ H1 a = some (.dK ks) ∧ RepD X.K H1 kvs ks := by
  rcases rh a _ e with ⟨ks, h, r⟩ | ⟨h, r⟩
  · exact ⟨H, ks, I, .refl _ _, rh, h, r⟩
  · subst h
    have mu : Mut (H a) := by rw [r]; trivial
    have q := rh.put (p := a) (o := .dK []) (u := .dK []) mu (.inl ⟨[], upd_same, .nil⟩)
    rw [aupd_self e] at q
    exact ⟨_, [], I.reT r, .mut mu, q, upd_same, .nil⟩
theorem norm_T (I : Inv X pins σ H s) (rh : RepH X.K H A) (e : A a = some (.dK [])) :
    ∃ H1, Inv X pins σ H1 s ∧ Ext X.K H H1 ∧ RepH X.K H1 A ∧ H1 a = some (.dT []) := by
  rcases rh a _ e with ⟨ks, h, r⟩ | ⟨h, r⟩
  · cases r
    have mu : Mut (H a) := by rw [h]; trivial
    have q := rh.put (p := a) (o := .dK []) (u := .dT []) mu (.inr ⟨rfl, upd_same⟩)
    rw [aupd_self e] at q
    exact ⟨_, I.reK h, .mut mu, q, upd_same⟩
  · exact ⟨H, I, .refl _ _, rh, r⟩
end
section
variable {X : Cx}
/-! ### in -/
@[reducible] def inSeq (x : PV) (ys : List PV) (k : Bool → Prop) : Prop := flatP x = true ∧ ys.all flatP = true ∧ k (ys.any fun z => eqP z x)
@[reducible] def inK (x y : PV) (A : AH) (k : Bool → Prop) : Prop := match y with
  | .tup _ ys => inSeq x ys k
  | .str t => match x with
    | .str i => k (!(Builtin.Str.occurrences t i 0 t.length 1).isEmpty)
    | _ => False
  | .ref p => match A p with
    | some (.lst ys) => inSeq x ys k
    | some (.dK kvs) => match x with
      | .int i => k (valP kvs (.inl i)).isSome
      | .str i => k (valP kvs (.inr i)).isSome
      | .tup .own ks => kvs = [] ∧ (keysP ks).isSome = true ∧ k false
      | _ => False
    | some (.dT kvs) => match x with
      | .tup .own ks => match keysP ks with
        | some ks => k (valP kvs ks).isSome
        | none => False
      | _ => False
    | _ => False
  | _ => False
@[reducible] def lIn : L2R := fun x y A Q => inK x y A fun b => Q (.bl b) A
@[reducible] def lNotIn : L2R := fun x y A Q => inK x y A fun b => Q (.bl (!b)) A
theorem op_inDict (hu : X.A.units + 1 < cLine) : OpR X (compareOp .In) (fun y x H Q => ∃ a o, x = .ref a ∧ DGet H a y o ∧ Q (.bl o.isSome) H) := by
  intro pins s σ H y x v u Q I ry rx ⟨a, o, e, g, q⟩
  subst e; cases rx
  exact d_in hu I g ry fun s3 I3 => ⟨.bl o.isSome, H, I3, rfl, q⟩
theorem op_notInDict (hu : X.A.units + 1 < cLine) : OpR X (compareOp .NotIn) (fun y x H Q => ∃ a o, x = .ref a ∧ DGet H a y o ∧ Q (.bl (!o.isSome)) H) := by
  intro pins s σ H y x v u Q I ry rx ⟨a, o, e, g, q⟩
  subst e; cases rx
  exact d_notIn hu I g ry fun s3 I3 => ⟨.bl (!o.isSome), H, I3, rfl, q⟩
theorem RepD.isSome {κ : Type} [DecidableEq κ] {K : PySem.W.Frag} {H : Hp} {kvs : List (κ × PV)} {ks : List (κ × V)} (r : RepD K H kvs ks) (k : κ) : (valV ks k).isSome = (valP kvs k).isSome := by
  rcases r.val k with ⟨h1, h2⟩ | ⟨x, v, h1, h2, _⟩ <;> rw [h1, h2] <;> rfl
/-- the answer of in -/
inductive InSays (X : Cx) (pins : List (Addr × Obj)) (σ : St) (s : Shared) (A : AH) (H : Hp) (x y : V) (k : Bool → Prop) : Prop
  | seq (p : Addr) (xs : List V) (e : y = .ref p) (h : SqL X.K H p xs ∨ SqT X.K H p xs) (f : flatV x = true) (g : xs.all flatV = true) (q : k (inV x xs))
  | str (i j : Str) (e1 : x = .str i) (e2 : y = .str j) (q : k (!(Builtin.Str.occurrences j i 0 j.length 1).isEmpty))
  | dct (a : Addr) (o : Option V) (H1 : Hp) (I : Inv X pins σ H1 s) (ex : Ext X.K H H1) (rh : RepH X.K H1 A) (e : y = .ref a) (g : DGet H1 a x o) (q : k o.isSome)
theorem inK_to {pins : List (Addr × Obj)} {σ : St} {s : Shared} {H : Hp} {A : AH} {x y : PV} {v w : V} {k : Bool → Prop} (I : Inv X pins σ H s) (rx : RepV X.K H x v) (ry : RepV X.K H y w) (rh : RepH X.K H A) (h : inK x y A k) : InSays X pins σ s A H v w k := by
  unfold inK at h
  cases ry with
  | tup hs r => exact .seq _ _ rfl (.inr hs.sq) (rx.flat h.1) (r.flat h.2.1) (by rw [RepVs.inF rx h.1 r h.2.1]; exact h.2.2)
  | str t =>
    cases rx with
    | str i => exact .str _ _ rfl rfl h
    | _ => exact (show False from h).elim
  | ref p =>
    dsimp only at h
    split at h
    · rename_i ys e
      obtain ⟨vs, q, r⟩ := rh p _ e
      exact .seq _ _ rfl (.inl (.of q)) (rx.flat h.1) (r.flat h.2.1) (by rw [RepVs.inF rx h.1 r h.2.1]; exact h.2.2)
    · rename_i kvs e
      split at h
      · obtain ⟨H1, ks, I1, ex, rh1, q, r⟩ := norm_K I rh e
        cases rx; exact .dct _ _ H1 I1 ex rh1 rfl (DGet.k (k := .inl _) q) (by rw [r.isSome]; exact h)
      · obtain ⟨H1, ks, I1, ex, rh1, q, r⟩ := norm_K I rh e
        cases rx; exact .dct _ _ H1 I1 ex rh1 rfl (DGet.k (k := .inr _) q) (by rw [r.isSome]; exact h)
      · rename_i ts
        obtain ⟨h1, h2, h3⟩ := h
        subst h1
        obtain ⟨H1, I1, ex, rh1, q⟩ := norm_T I rh e
        obtain ⟨kk, e2⟩ := Option.isSome_iff_exists.mp h2
        cases rx.ext ex with
        | tup hs r => exact .dct _ none H1 I1 ex rh1 rfl (DGet.t (k := kk) q (by rw [show _ = _ from hs, keysP_rep r e2])) h3
      · exact h.elim
    · rename_i kvs e
      obtain ⟨ks, q, r⟩ := rh p _ e
      split at h
      · rename_i ts
        split at h
        · rename_i kk e2
          cases rx with
          | tup hs r' => exact .dct _ _ H I (.refl _ _) rh rfl (DGet.t q (by rw [show _ = _ from hs, keysP_rep r' e2])) (by rw [r.isSome]; exact h)
        · exact h.elim
      · exact h.elim
    · exact h.elim
  | _ => exact (show False from h).elim
theorem lop_in (hu : X.A.units + 1 < cLine) : LOp X (compareOp .In) lIn := by
  intro pins s σ H x y v u R I rx ry h
  obtain ⟨p, q, A, Q, rp, rq, rh, t, k⟩ := h
  cases inK_to I rp rq rh t with
  | seq p xs e h f g q => exact op_in_seq pins s σ H _ _ v u R I rx ry ⟨p, xs, e, h, f, g, fin0 q (.bl _) rh k⟩
  | str i j e1 e2 q => exact op_in_str pins s σ H _ _ v u R I rx ry ⟨i, j, e1, e2, fin0 q (.bl _) rh k⟩
  | dct a o H1 I1 ex rh1 e g q => exact op_inDict hu pins s σ H1 _ _ v u R I1 rx ry ⟨a, o, e, g, k _ _ q _ _ ex (.bl _) rh1⟩
theorem lop_notIn (hu : X.A.units + 1 < cLine) : LOp X (compareOp .NotIn) lNotIn := by
  intro pins s σ H x y v u R I rx ry h
  obtain ⟨p, q, A, Q, rp, rq, rh, t, k⟩ := h
  cases inK_to I rp rq rh t with
  | seq p xs e h f g q => exact op_notIn_seq pins s σ H _ _ v u R I rx ry ⟨p, xs, e, h, f, g, fin0 q (.bl _) rh k⟩
  | str i j e1 e2 q => exact op_notIn_str pins s σ H _ _ v u R I rx ry ⟨i, j, e1, e2, fin0 q (.bl _) rh k⟩
  | dct a o H1 I1 ex rh1 e g q => exact op_notInDict hu pins s σ H1 _ _ v u R I1 rx ry ⟨a, o, e, g, k _ _ q _ _ ex (.bl _) rh1⟩

/-! ### items -/
@[reducible] def orF {α : Type} (o : Option α) (k : α → Prop) : Prop := match o with
  | some v => k v
  | none => False
@[reducible] def lIx : L2R := fun x y A Q => match x with
  | .tup _ xs => match y with
    | .int i => orF (atI xs i) fun v => Q v A
    | _ => False
  | .fro xs => match y with
    | .int i => orF (atI xs i) fun v => Q v A
    | _ => False
  | .str z => match y with
    | .int i => z.length ≤ sizeLine ∧ orF (atI z.cps.toList i) fun c => Q (.str ⟨#[c]⟩) A
    | _ => False
  | .ref p => match A p with
    | some (.lst xs) => match y with
      | .int i => orF (atI xs i) fun v => Q v A
      | _ => False
    | some (.dK kvs) => orF (keyP y) fun k => orF (valP kvs k) fun v => Q v A
    | some (.dT kvs) => match y with
      | .tup .own ks => orF (keysP ks) fun k => orF (valP kvs k) fun v => Q v A
      | _ => False
    | _ => False
  | _ => False
theorem orF_some {α : Type} {o : Option α} {k : α → Prop} (h : orF o k) : ∃ v, o = some v ∧ k v := by
  cases o with
  | none => exact h.elim
  | some v => exact ⟨v, rfl, h⟩
theorem RepVs.atI {K : PySem.W.Frag} {H : Hp} {xs : List PV} {vs : List V} {i : Int} {x : PV} (r : RepVs K H xs vs) (h : L2.atI xs i = some x) : ∃ v, L2.atI vs i = some v ∧ RepV K H x v := by
  unfold L2.atI at h ⊢
  rw [← r.length]
  obtain ⟨j, h1, h2⟩ := Option.bind_eq_some_iff.mp h
  obtain ⟨v, h3, h4⟩ := r.get h2
  exact ⟨v, by rw [h1]; exact h3, h4⟩
theorem ix_dict (hu : X.A.units + 1 < cLine) : IxR X (fun x y H Q => ∃ a v, x = .ref a ∧ DGet H a y (some v) ∧ Q v H) := by
  intro value slice pins s σ H x y v u Q I rx ry ⟨a, z, e, g, q⟩ hs
  subst e
  cases rx
  exact tail_any (dict_typeIs I g) PySem.F.slot_dict_getitem.lookup (d_getItem hu I g ry fun w' s' I' r' => ⟨z, H, I', r', q⟩) hs
theorem lix (hu : X.A.units + 1 < cLine) : IxR X (cR X.K lIx) := by
  intro value slice pins s σ H x y v u R I rx ry h hsub
  obtain ⟨p, q, A, Q, rp, rq, rh, t, k⟩ := h
  unfold lIx at t
  cases rp with
  | tup hs r =>
    cases rq with
    | int i =>
      obtain ⟨z, e, tq⟩ := orF_some t
      obtain ⟨z', e', rz⟩ := r.atI e
      exact ix_tup value slice pins s σ H _ _ v u R I rx ry ⟨_, _, i, z', rfl, rfl, hs.sq, e', fin0 tq rz rh k⟩ hsub
    | _ => exact (show False from t).elim
  | fro hs r =>
    cases rq with
    | int i =>
      obtain ⟨z, e, tq⟩ := orF_some t
      obtain ⟨z', e', rz⟩ := r.atI e
      exact ix_list value slice pins s σ H _ _ v u R I rx ry ⟨_, _, i, z', rfl, rfl, hs.seq, e', fin0 tq rz rh k⟩ hsub
    | _ => exact (show False from t).elim
  | str z =>
    cases rq with
    | int i =>
      obtain ⟨t1, t2⟩ := t
      obtain ⟨c, e, tq⟩ := orF_some t2
      exact ix_str value slice pins s σ H _ _ v u R I rx ry ⟨z, i, c, rfl, rfl, t1, e, fin0 tq (.str _) rh k⟩ hsub
    | _ => exact (show False from t).elim
  | ref a =>
    dsimp only at t
    split at t
    · rename_i xs e
      obtain ⟨vs, h1, r⟩ := rh a _ e
      cases rq with
      | int i =>
        obtain ⟨z, e, tq⟩ := orF_some t
        obtain ⟨z', e', rz⟩ := r.atI e
        exact ix_list value slice pins s σ H _ _ v u R I rx ry ⟨_, _, i, z', rfl, rfl, .of h1, e', fin0 tq rz rh k⟩ hsub
      | _ => exact (show False from t).elim
    · rename_i kvs e
      obtain ⟨kk, e1, t1⟩ := orF_some t
      obtain ⟨z, e2, tq⟩ := orF_some t1
      obtain ⟨H1, ks, I1, ex, rh1, h1, r⟩ := norm_K I rh e
      have ey := keyP_rep rq e1
      subst ey
      rcases r.val kk with ⟨e3, _⟩ | ⟨x, w, e3, e4, rw'⟩
      · rw [e3] at e2; cases e2
      · rw [e3] at e2; cases e2
        exact ix_dict hu value slice pins s σ H1 _ _ v u R I1 rx ry ⟨a, w, rfl, by rw [← e4]; exact DGet.k h1, k _ _ tq _ _ ex rw' rh1⟩ hsub
    · rename_i kvs e
      obtain ⟨ks, h1, r⟩ := rh a _ e
      cases rq with
      | @tup k1 _ _ _ hs r' =>
        cases k1 with
        | own => ?_
        | _ => exact (show False from t).elim
        obtain ⟨kk, e1, t1⟩ := orF_some t
        obtain ⟨z, e2, tq⟩ := orF_some t1
        rcases r.val kk with ⟨e3, _⟩ | ⟨x, w, e3, e4, rw'⟩
        · rw [e3] at e2; cases e2
        · rw [e3] at e2; cases e2
          exact ix_dict hu value slice pins s σ H _ _ v u R I rx ry ⟨a, w, rfl, by rw [← e4]; exact DGet.t h1 (by rw [show _ = _ from hs, keysP_rep r' e1]), fin0 tq rw' rh k⟩ hsub
      | _ => exact (show False from t).elim
    · exact t.elim
  | _ => exact (show False from t).elim
variable {a b : Expr} {ta tb : LE} {pos : Pos}
theorem je_ix (hu : X.A.units + 1 < cLine) (ha : JE X a ta) (hb : JE X b tb) (hs : PlainIx b) : JE X (.Subscript a b pos) (lOp lIx ta tb) :=
  (pe_ix (lix hu) ha hb hs).imp fun _ _ _ h => lOp_to h

/-! ### slices -/
abbrev LO := LSt → AH → (Option Int → AH → Prop) → Prop
@[reducible] def lNoPart : LO := fun _ A Q => Q none A
@[reducible] def lPart (t : LE) : LO := fun s A Q => t s A fun x A1 => match x with
  | .int i => Q (some i) A1
  | _ => False
def cO (K : PySem.W.Frag) (t : LO) : TO := fun σ H R => ∃ (s : LSt) (A : AH) (Q : Option Int → AH → Prop), RepS K H s σ ∧ RepH K H A ∧ t s A Q ∧ ∀ x A', Q x A' → ∀ H', Ext K H H' → RepH K H' A' → R x H'
theorem _root_.L2.PO.imp {X : Cx} {e : Option Expr} {t t' : TO} (h : PO X e t) (q : ∀ σ H R, t' σ H R → t σ H R) : PO X e t' := ⟨fun pins s σ H Q I z => h.run pins s σ H Q I (q _ _ _ z)⟩
theorem jo_none : PO X none (cO X.K lNoPart) := PO.imp po_none fun σ H R ⟨s, A, Q, rs, rh, t, k⟩ => k _ _ t _ (.refl _ _) rh
theorem jo_some (h : JE X a ta) : PO X (some a) (cO X.K (lPart ta)) := PO.imp (po_some h) fun σ H R ⟨s, A, Q, rs, rh, t, k⟩ => ⟨s, A, _, rs, rh, t, fun x A1 t1 v1 H1 e1 r1 rh1 => by
  cases r1 with
  | int i => exact ⟨i, rfl, k _ _ t1 _ e1 rh1⟩
  | _ => exact (show False from t1).elim⟩
def cutP {α : Type} (xs : List α) (lo hi : Option Int) : List α := (xs.drop (HT.sIx xs.length 0 lo)).take (HT.sIx xs.length xs.length hi - HT.sIx xs.length 0 lo)
theorem RepVs.cut {K : PySem.W.Frag} {H : Hp} {xs : List PV} {vs : List V} (r : RepVs K H xs vs) (lo hi : Option Int) : RepVs K H (cutP xs lo hi) (cutV vs lo hi) := by
  unfold cutP cutV
  rw [r.length]
  exact (r.drop _).take _
theorem cutP_whole {α : Type} {xs : List α} {lo hi : Option Int} (h : HT.sIx xs.length 0 lo = 0 ∧ HT.sIx xs.length xs.length hi = xs.length) : cutP xs lo hi = xs := by
  unfold cutP
  rw [h.1, h.2]
  simp
@[reducible] def lCut (x : PV) (lo hi : Option Int) (A : AH) (Q : QK) : Prop := match x with
  | .tup .own xs => Q (.tup .own (cutP xs lo hi)) A
  | .fro xs => ∀ p, A p = none → Q (.ref p) (aupd A p (.lst (cutP xs lo hi)))
  | .ref a => match A a with
    | some (.lst xs) => ∀ p, A p = none → Q (.ref p) (aupd A p (.lst (cutP xs lo hi)))
    | _ => False
  | _ => False
def cCut (K : PySem.W.Frag) : V → Option Int → Option Int → Hp → VK → Prop := fun v lo hi H R => ∃ x A Q, RepV K H x v ∧ RepH K H A ∧ lCut x lo hi A Q ∧ ∀ z A', Q z A' → ∀ v H', Ext K H H' → RepV K H' z v → RepH K H' A' → R v H'
theorem lsl : SlR X (cCut X.K) := by
  intro pins s σ H x v vl vu lo hi sl R I rx hs pl pu h
  obtain ⟨p, A, Q, rp, rh, t, k⟩ := h
  unfold lCut at t
  cases rp with
  | @tup k1 _ _ _ h0 r =>
    cases k1 with
    | own => ?_
    | _ => exact (show False from t).elim
    refine sl_tupA pins s σ H _ v vl vu lo hi sl R I rx hs pl pu ⟨_, _, rfl, h0.sq, fun hw => ?_, fun _ p hp => ?_⟩
    · have e : cutP _ lo hi = _ := cutP_whole (xs := (_ : List PV)) (by rw [r.length]; exact hw)
      exact fin0 t (by rw [e]; exact .tup h0 r) rh k
    · exact k _ _ t _ _ (.new hp) (newTup (r.cut lo hi) hp) (rh.newT hp)
  | fro h0 r =>
    exact sl_list pins s σ H _ v vl vu lo hi sl R I rx hs pl pu ⟨_, _, rfl, h0.seq, fun p hp => k _ _ (t p (rh.free hp)) _ _ (.new hp) (.ref p) (newLst (r.cut lo hi) rh hp)⟩
  | ref a =>
    dsimp only at t
    split at t
    · rename_i xs e
      obtain ⟨vs, h1, r⟩ := rh a _ e
      exact sl_list pins s σ H _ v vl vu lo hi sl R I rx hs pl pu ⟨_, _, rfl, .of h1, fun p hp => k _ _ (t p (rh.free hp)) _ _ (.new hp) (.ref p) (newLst (r.cut lo hi) rh hp)⟩
    · exact t.elim
  | _ => exact (show False from t).elim
@[reducible] def lSl (te : LE) (tl th : LO) : LE := fun s A Q => te s A fun x A1 => tl s A1 fun lo A2 => th s A2 fun hi A3 => lCut x lo hi A3 Q
theorem je_slice {lo hi : Option Expr} {tl th : LO} {p2 : Pos} (he : JE X a ta) (hl : PO X lo (cO X.K tl)) (hu : PO X hi (cO X.K th)) : JE X (.Subscript a (.Slice lo hi none p2) pos) (lSl ta tl th) :=
  (pe_slice lsl he hl hu).imp fun σ H R ⟨s, A, Q, rs, rh, t, k⟩ => ⟨s, A, _, rs, rh, t, fun x A1 t1 v1 H1 e1 r1 rh1 => ⟨s, A1, _, rs.ext e1, rh1, t1, fun l A2 t2 H2 e2 rh2 => ⟨s, A2, _, rs.ext (e1.trans e2), rh2, t2, fun u A3 t3 H3 e3 rh3 =>
    ⟨x, A3, Q, r1.ext (e2.trans e3), rh3, t3, fun z A4 t4 v4 H4 e4 => k z A4 t4 v4 H4 (e1.trans (e2.trans (e3.trans e4)))⟩⟩⟩⟩
end
end Lf
namespace Lf
open PySem PySem.Spec L2
open PyProof.Rows hiding St

section
variable {X : Cx}
abbrev LCR := List PV → AH → QK → Prop
def cC (K : PySem.W.Frag) (r : LCR) : List V → Hp → VK → Prop := fun vs H R => ∃ (xs : List PV) (A : AH) (Q : QK), RepVs K H xs vs ∧ RepH K H A ∧ r xs A Q ∧ ∀ z A', Q z A' → ∀ v H', Ext K H H' → RepV K H' z v → RepH K H' A' → R v H'
abbrev LCall (X : Cx) (f : Value) (r : LCR) : Prop := CallR X f (cC X.K r)
@[reducible] def lCB (r : LCR) (ta : LA) : LE := fun s A Q => ta s A fun xs A1 => r xs A1 Q
theorem lCB_to {K : PySem.W.Frag} {r : LCR} {ta : LA} {σ : St} {H : Hp} {R : VK} (h : cE K (lCB r ta) σ H R) : tCB (cC K r) (cA K ta) σ H R := by
  obtain ⟨s, A, Q, rs, rh, t, k⟩ := h
  exact ⟨s, A, _, rs, rh, t, fun xs A1 t1 vs H1 e1 r1 rh1 => ⟨xs, A1, Q, r1, rh1, t1, fun z A2 t2 v H2 e2 => k z A2 t2 v H2 (e1.trans e2)⟩⟩
/-- one value in -/
@[reducible] def l1 (r : PV → AH → QK → Prop) : LCR := fun xs A Q => match xs with
  | [x] => r x A Q
  | _ => False
@[reducible] def l2 (r : PV → PV → AH → QK → Prop) : LCR := fun xs A Q => match xs with
  | [x, y] => r x y A Q
  | _ => False

/-! ### len -/
@[reducible] def lenP (x : PV) (A : AH) (k : Nat → Prop) : Prop := match x with
  | .str y => y.length ≤ sizeLine ∧ k y.length
  | .tup _ xs => k xs.length
  | .fro xs => k xs.length
  | .ref p => match A p with
    | some (.lst xs) => k xs.length
    | some (.dK xs) => k xs.length
    | some (.dT xs) => k xs.length
    | _ => False
  | _ => False
@[reducible] def lLen : LCR := l1 fun x A Q => lenP x A fun n => Q (.int n) A
theorem lcall_len : LCall X (.builtin "len") lLen := by
  intro pins s σ H vs us R I r h
  obtain ⟨xs, A, Q, rv, rh, t, k⟩ := h
  cases rv with
  | nil => exact t.elim
  | cons rx rr =>
    cases rr with
    | cons _ _ => exact t.elim
    | nil =>
      have t' : lenP _ A fun n => Q (.int n) A := t
      unfold lenP at t'
      cases rx with
      | str y => exact call_len pins s σ H _ us R I r ⟨_, _, rfl, ⟨t'.1, rfl⟩, fin0 t'.2 (.int _) rh k⟩
      | tup hs q => exact call_len pins s σ H _ us R I r ⟨_, _, rfl, .inr ⟨_, hs.sq, q.length⟩, fin0 t' (.int _) rh k⟩
      | fro hs q => exact call_len pins s σ H _ us R I r ⟨_, _, rfl, .inl ⟨_, hs.seq, q.length⟩, fin0 t' (.int _) rh k⟩
      | ref p =>
        dsimp only at t'
        split at t'
        · rename_i xs e
          obtain ⟨ws, h1, q⟩ := rh p _ e
          exact call_len pins s σ H _ us R I r ⟨_, _, rfl, .inl ⟨_, .of h1, q.length⟩, fin0 t' (.int _) rh k⟩
        · rename_i xs e
          obtain ⟨H1, ks, I1, ex, rh1, h1, q⟩ := norm_K I rh e
          obtain ⟨u, rfl, ru⟩ := vals1 r
          cases ru
          exact d_len I1 (.of h1) fun tk s' I2 => ⟨.int _, H1, I2, ⟨tk, rfl⟩, k _ _ t' _ _ ex (by rw [q.length]; exact .int _) rh1⟩
        · rename_i xs e
          obtain ⟨ks, h1, q⟩ := rh p _ e
          exact call_len_dT pins s σ H _ us R I r ⟨p, ks, rfl, h1, fin0 t' (by rw [q.length]; exact .int _) rh k⟩
        · exact t'.elim
      | _ => exact (show False from t').elim

/-! ### ints and bools -/
@[reducible] def lAbs : LCR := l1 fun x A Q => match x with
  | .int i => Q (.int (if i < 0 then -i else i)) A
  | _ => False
theorem lcall_abs : LCall X (.builtin "abs") lAbs := by
  intro pins s σ H vs us R I r h
  obtain ⟨xs, A, Q, rv, rh, t, k⟩ := h
  cases rv with
  | nil => exact t.elim
  | cons rx rr =>
    cases rr with
    | cons _ _ => exact t.elim
    | nil =>
      cases rx with
      | int i => exact call_abs pins s σ H _ us R I r ⟨i, rfl, fin0 (Q := Q) t (.int _) rh k⟩
      | _ => exact (show False from t).elim
@[reducible] def lInt : LCR := l1 fun x A Q => match x with
  | .int i => Q (.int i) A
  | .bl b => Q (.int (if b then 1 else 0)) A
  | _ => False
theorem lcall_int : LCall X (.type "int") lInt := by
  intro pins s σ H vs us R I r h
  obtain ⟨xs, A, Q, rv, rh, t, k⟩ := h
  cases rv with
  | nil => exact t.elim
  | cons rx rr =>
    cases rr with
    | cons _ _ => exact t.elim
    | nil =>
      cases rx with
      | int i => exact call_int1 pins s σ H _ us R I r (.inl ⟨i, rfl, fin0 (Q := Q) t (.int _) rh k⟩)
      | bl i => exact call_int1 pins s σ H _ us R I r (.inr ⟨i, rfl, fin0 (Q := Q) t (.int _) rh k⟩)
      | _ => exact (show False from t).elim
@[reducible] def lBool : LCR := l1 fun x A Q => match x with
  | .int i => Q (.bl (i != 0)) A
  | .bl b => Q (.bl b) A
  | _ => False
theorem lcall_bool : LCall X (.type "bool") lBool := by
  intro pins s σ H vs us R I r h
  obtain ⟨xs, A, Q, rv, rh, t, k⟩ := h
  cases rv with
  | nil => exact t.elim
  | cons rx rr =>
    cases rr with
    | cons _ _ => exact t.elim
    | nil =>
      cases rx with
      | int i => exact call_bool1 pins s σ H _ us R I r (.inl ⟨i, rfl, fin0 (Q := Q) t (.bl _) rh k⟩)
      | bl i => exact call_bool1 pins s σ H _ us R I r (.inr ⟨i, rfl, fin0 (Q := Q) t (.bl _) rh k⟩)
      | _ => exact (show False from t).elim
@[reducible] def lStr : LCR := l1 fun x A Q => match x with
  | .int i => i.natAbs.log2 < 1920 ∧ Q (.str (toString i)) A
  | _ => False
theorem lcall_str : LCall X (.type "str") lStr := by
  intro pins s σ H vs us R I r h
  obtain ⟨xs, A, Q, rv, rh, t, k⟩ := h
  cases rv with
  | nil => exact t.elim
  | cons rx rr =>
    cases rr with
    | cons _ _ => exact t.elim
    | nil =>
      cases rx with
      | int i =>
        have t' : i.natAbs.log2 < 1920 ∧ Q (.str (toString i)) A := t
        exact call_str_int pins s σ H _ us R I r ⟨i, rfl, t'.1, fin0 (Q := Q) t'.2 (.str _) rh k⟩
      | _ => exact (show False from t).elim
@[reducible] def lDivmod : LCR := l2 fun x y A Q => match x, y with
  | .int i, .int j => CDiv i j ∧ Q (.tup .own [.int (i / j), .int (i % j)]) A
  | _, _ => False
theorem lcall_divmod : LCall X (.builtin "divmod") lDivmod := by
  intro pins s σ H vs us R I r h
  obtain ⟨xs, A, Q, rv, rh, t, k⟩ := h
  cases rv with
  | nil => exact t.elim
  | cons rx rr =>
    cases rr with
    | nil => exact t.elim
    | cons ry rr =>
      cases rr with
      | cons _ _ => exact t.elim
      | nil =>
        cases rx with
        | int i =>
          cases ry with
          | int j =>
            have t' : CDiv i j ∧ Q (.tup .own [.int (i / j), .int (i % j)]) A := t
            exact call_divmod pins s σ H _ us R I r ⟨i, j, rfl, t'.1, fun p hp => k _ _ t'.2 _ _ (.new hp) (newTup (.cons (.int _) (.cons (.int _) .nil)) hp) (rh.newT hp)⟩
          | _ => exact (show False from t).elim
        | _ => cases ry <;> exact (show False from t).elim

/-! ### max, min, sum, all, any -/
def intsOf : List PV → Option (List Int)
  | [] => some []
  | .int i :: r => (intsOf r).map (i :: ·)
  | _ => none
def blsOf : List PV → Option (List Bool)
  | [] => some []
  | .bl i :: r => (blsOf r).map (i :: ·)
  | _ => none
theorem intsOf_map (ns : List Int) : intsOf (ns.map .int) = some ns := by
  induction ns with
  | nil => rfl
  | cons n r ih => show (intsOf (r.map .int)).map (n :: ·) = _; rw [ih]; rfl
theorem blsOf_map (ns : List Bool) : blsOf (ns.map .bl) = some ns := by
  induction ns with
  | nil => rfl
  | cons n r ih => show (blsOf (r.map .bl)).map (n :: ·) = _; rw [ih]; rfl
theorem intsOf_some : ∀ {xs : List PV} {ns : List Int}, intsOf xs = some ns → xs = ns.map .int
  | [], _, e => by cases e; rfl
  | .int i :: r, ns, e => by
    obtain ⟨m, e1, rfl⟩ := Option.map_eq_some_iff.mp (show (intsOf r).map (i :: ·) = some ns from e)
    rw [intsOf_some e1]; rfl
  | .non :: _, _, e => nomatch e
  | .bl _ :: _, _, e => nomatch e
  | .str _ :: _, _, e => nomatch e
  | .tup _ _ :: _, _, e => nomatch e
  | .fro _ :: _, _, e => nomatch e
  | .ref _ :: _, _, e => nomatch e
  | .ty _ :: _, _, e => nomatch e
theorem blsOf_some : ∀ {xs : List PV} {ns : List Bool}, blsOf xs = some ns → xs = ns.map .bl
  | [], _, e => by cases e; rfl
  | .bl i :: r, ns, e => by
    obtain ⟨m, e1, rfl⟩ := Option.map_eq_some_iff.mp (show (blsOf r).map (i :: ·) = some ns from e)
    rw [blsOf_some e1]; rfl
  | .non :: _, _, e => nomatch e
  | .int _ :: _, _, e => nomatch e
  | .str _ :: _, _, e => nomatch e
  | .tup _ _ :: _, _, e => nomatch e
  | .fro _ :: _, _, e => nomatch e
  | .ref _ :: _, _, e => nomatch e
  | .ty _ :: _, _, e => nomatch e
/-- the list at an address, of ints -/
@[reducible] def lstK (x : PV) (A : AH) (k : List PV → Prop) : Prop := match x with
  | .ref p => match A p with
    | some (.lst xs) => k xs
    | _ => False
  | _ => False
theorem lstK_to {K : PySem.W.Frag} {H : Hp} {A : AH} {x : PV} {v : V} {k : List PV → Prop} (rx : RepV K H x v) (rh : RepH K H A) (h : lstK x A k) : ∃ p xs vs, x = .ref p ∧ v = .ref p ∧ A p = some (.lst xs) ∧ H p = some (.lst vs) ∧ RepVs K H xs vs ∧ k xs := by
  cases rx with
  | ref p =>
    have h' : (match A p with
      | some (.lst xs) => k xs
      | _ => False) := h
    split at h'
    · rename_i xs e
      obtain ⟨vs, h1, r⟩ := rh p _ e
      exact ⟨p, xs, vs, rfl, rfl, e, h1, r, h'⟩
    · exact h'.elim
  | _ => exact (show False from h).elim
def maxI (ns : List Int) : Int := ns.foldl max (ns.headD 0)
def minI (ns : List Int) : Int := ns.foldl min (ns.headD 0)
theorem foldl_max_ge (ns : List Int) : ∀ a : Int, a ≤ ns.foldl max a ∧ ∀ n ∈ ns, n ≤ ns.foldl max a := by
  induction ns with
  | nil => intro a; exact ⟨Int.le_refl _, fun _ h => nomatch h⟩
  | cons m r ih =>
    intro a
    obtain ⟨h1, h2⟩ := ih (max a m)
    rw [List.foldl_cons]
    refine ⟨by omega, fun n hn => ?_⟩
    rcases List.mem_cons.mp hn with rfl | hn
    · omega
    · exact h2 n hn
theorem foldl_max_mem (ns : List Int) : ∀ a : Int, ns.foldl max a = a ∨ ns.foldl max a ∈ ns := by
  induction ns with
  | nil => intro a; exact .inl rfl
  | cons m r ih =>
    intro a
    rw [List.foldl_cons]
    rcases ih (max a m) with h | h
    · rw [h]
      by_cases q : a ≤ m
      · right; rw [Int.max_eq_right q]; exact List.mem_cons_self
      · left; rw [Int.max_eq_left (by omega)]
    · exact .inr (List.mem_cons_of_mem _ h)
theorem foldl_min_le (ns : List Int) : ∀ a : Int, ns.foldl min a ≤ a ∧ ∀ n ∈ ns, ns.foldl min a ≤ n := by
  induction ns with
  | nil => intro a; exact ⟨Int.le_refl _, fun _ h => nomatch h⟩
  | cons m r ih =>
    intro a
    obtain ⟨h1, h2⟩ := ih (min a m)
    rw [List.foldl_cons]
    refine ⟨by omega, fun n hn => ?_⟩
    rcases List.mem_cons.mp hn with rfl | hn
    · omega
    · exact h2 n hn
theorem foldl_min_mem (ns : List Int) : ∀ a : Int, ns.foldl min a = a ∨ ns.foldl min a ∈ ns := by
  induction ns with
  | nil => intro a; exact .inl rfl
  | cons m r ih =>
    intro a
    rw [List.foldl_cons]
    rcases ih (min a m) with h | h
    · rw [h]
      by_cases q : a ≤ m
      · left; rw [Int.min_eq_left q]
      · right; rw [Int.min_eq_right (by omega)]; exact List.mem_cons_self
    · exact .inr (List.mem_cons_of_mem _ h)
theorem maxI_of {ns : List Int} {m : Int} (h : m ∈ ns) (g : ∀ y ∈ ns, y ≤ m) : m = maxI ns := by
  have h1 := (foldl_max_ge ns (ns.headD 0)).2 m h
  have h2 : maxI ns ∈ ns := by
    unfold maxI
    cases ns with
    | nil => exact nomatch h
    | cons n r =>
      rcases foldl_max_mem (n :: r) n with e | e
      · show List.foldl max n (n :: r) ∈ _; rw [e]; exact List.mem_cons_self
      · exact e
  have h3 := g _ h2
  show m = maxI ns
  unfold maxI at *
  omega
theorem minI_of {ns : List Int} {m : Int} (h : m ∈ ns) (g : ∀ y ∈ ns, m ≤ y) : m = minI ns := by
  have h1 := (foldl_min_le ns (ns.headD 0)).2 m h
  have h2 : minI ns ∈ ns := by
    unfold minI
    cases ns with
    | nil => exact nomatch h
    | cons n r =>
      rcases foldl_min_mem (n :: r) n with e | e
      · show List.foldl min n (n :: r) ∈ _; rw [e]; exact List.mem_cons_self
      · exact e
  have h3 := g _ h2
  show m = minI ns
  unfold minI at *
  omega
@[reducible] def lMax : LCR := fun xs A Q => match xs with
  | [x] => lstK x A fun xs => orF (intsOf xs) fun ns => 0 < ns.length ∧ Q (.int (maxI ns)) A
  | [.int i, .int j] => Q (.int (if j > i then j else i)) A
  | _ => False
@[reducible] def lMin : LCR := fun xs A Q => match xs with
  | [x] => lstK x A fun xs => orF (intsOf xs) fun ns => 0 < ns.length ∧ Q (.int (minI ns)) A
  | [.int i, .int j] => Q (.int (if j < i then j else i)) A
  | _ => False
theorem lcall_max (hc : X.calm = true) : LCall X (.builtin "max") lMax := by
  intro pins s σ H vs us R I r h
  obtain ⟨xs, A, Q, rv, rh, t, k⟩ := h
  unfold lMax at t
  split at t
  · cases rv with
    | cons rx rr =>
      cases rr
      obtain ⟨p, ys, ws, rfl, rfl, e, h1, q, t1⟩ := lstK_to rx rh t
      obtain ⟨ns, e1, t2, t3⟩ := orF_some t1
      have e2 := intsOf_some e1
      subst e2
      have e3 := q.ints
      subst e3
      exact cr_max hc pins s σ H _ us R I r ⟨p, ns, rfl, .of h1, t2, fun m h1 h2 => by rw [maxI_of h1 h2]; exact fin0 t3 (.int _) rh k⟩
  · cases rv with
    | cons rx rr =>
      cases rr with
      | cons ry rr =>
        cases rr; cases rx; cases ry
        exact call_max2 hc pins s σ H _ us R I r ⟨_, _, rfl, fin0 t (.int _) rh k⟩
  · exact t.elim
theorem lcall_min (hc : X.calm = true) : LCall X (.builtin "min") lMin := by
  intro pins s σ H vs us R I r h
  obtain ⟨xs, A, Q, rv, rh, t, k⟩ := h
  unfold lMin at t
  split at t
  · cases rv with
    | cons rx rr =>
      cases rr
      obtain ⟨p, ys, ws, rfl, rfl, e, h1, q, t1⟩ := lstK_to rx rh t
      obtain ⟨ns, e1, t2, t3⟩ := orF_some t1
      have e2 := intsOf_some e1
      subst e2
      have e3 := q.ints
      subst e3
      exact cr_min hc pins s σ H _ us R I r ⟨p, ns, rfl, .of h1, t2, fun m h1 h2 => by rw [minI_of h1 h2]; exact fin0 t3 (.int _) rh k⟩
  · cases rv with
    | cons rx rr =>
      cases rr with
      | cons ry rr =>
        cases rr; cases rx; cases ry
        exact call_min2 hc pins s σ H _ us R I r ⟨_, _, rfl, fin0 t (.int _) rh k⟩
  · exact t.elim
@[reducible] def lSum : LCR := l1 fun x A Q => lstK x A fun xs => orF (intsOf xs) fun ns => Q (.int ns.sum) A
theorem lcall_sum (hc : X.calm = true) : LCall X (.builtin "sum") lSum := by
  intro pins s σ H vs us R I r h
  obtain ⟨xs, A, Q, rv, rh, t, k⟩ := h
  cases rv with
  | nil => exact t.elim
  | cons rx rr =>
    cases rr with
    | cons _ _ => exact t.elim
    | nil =>
      obtain ⟨p, ys, ws, rfl, rfl, e, h1, q, t1⟩ := lstK_to rx rh t
      obtain ⟨ns, e1, t3⟩ := orF_some t1
      have e2 := intsOf_some e1
      subst e2
      have e3 := q.ints
      subst e3
      exact cr_sum hc pins s σ H _ us R I r ⟨p, ns, rfl, .of h1, fin0 t3 (.int _) rh k⟩
@[reducible] def lAll : LCR := l1 fun x A Q => lstK x A fun xs => orF (blsOf xs) fun bs => Q (.bl (bs.all id)) A
@[reducible] def lAny : LCR := l1 fun x A Q => lstK x A fun xs => orF (blsOf xs) fun bs => Q (.bl (bs.any id)) A
theorem lcall_all (hc : X.calm = true) : LCall X (.builtin "all") lAll := by
  intro pins s σ H vs us R I r h
  obtain ⟨xs, A, Q, rv, rh, t, k⟩ := h
  cases rv with
  | nil => exact t.elim
  | cons rx rr =>
    cases rr with
    | cons _ _ => exact t.elim
    | nil =>
      obtain ⟨p, ys, ws, rfl, rfl, e, h1, q, t1⟩ := lstK_to rx rh t
      obtain ⟨ns, e1, t3⟩ := orF_some t1
      have e2 := blsOf_some e1
      subst e2
      have e3 := q.bls
      subst e3
      exact cr_all hc pins s σ H _ us R I r ⟨p, ns, rfl, .of h1, fin0 t3 (.bl _) rh k⟩
theorem lcall_any (hc : X.calm = true) : LCall X (.builtin "any") lAny := by
  intro pins s σ H vs us R I r h
  obtain ⟨xs, A, Q, rv, rh, t, k⟩ := h
  cases rv with
  | nil => exact t.elim
  | cons rx rr =>
    cases rr with
    | cons _ _ => exact t.elim
    | nil =>
      obtain ⟨p, ys, ws, rfl, rfl, e, h1, q, t1⟩ := lstK_to rx rh t
      obtain ⟨ns, e1, t3⟩ := orF_some t1
      have e2 := blsOf_some e1
      subst e2
      have e3 := q.bls
      subst e3
      exact cr_any hc pins s σ H _ us R I r ⟨p, ns, rfl, .of h1, fin0 t3 (.bl _) rh k⟩

/-! ### isinstance -/
@[reducible] def tyOfP (x : PV) (A : AH) : Option String := match x with
  | .non => some "NoneType"
  | .bl _ => some "bool"
  | .int _ => some "int"
  | .str _ => some "str"
  | .tup _ _ => some "tuple"
  | .fro _ => some "list"
  | .ref p => match A p with
    | some (.lst _) => some "list"
    | some (.dK _) => some "dict"
    | some (.dT _) => some "dict"
    | _ => none
  | .ty _ => none
def isiP (T n : String) : Bool := T == n || (T == "bool" && n == "int")
theorem isiP_ok : ∀ T ∈ ["NoneType", "bool", "int", "str", "tuple", "list", "dict"], ∀ n ∈ ["bool", "int", "str", "tuple", "list", "dict"], kitB T n = some (isiP T n) := by decide +kernel
theorem tyOfP_mem {x : PV} {A : AH} {T : String} (h : tyOfP x A = some T) : T ∈ ["NoneType", "bool", "int", "str", "tuple", "list", "dict"] := by
  unfold tyOfP at h
  split at h
  all_goals first | (cases h; simp; done) | (cases h; done) | skip
  split at h <;> first | (cases h; simp; done) | cases h
theorem tyOfP_to {K : PySem.W.Frag} {H : Hp} {A : AH} {x : PV} {v : V} {T : String} (rx : RepV K H x v) (rh : RepH K H A) (h : tyOfP x A = some T) : TyX K H v (.type T) := by
  cases rx with
  | non => cases h; exact .base .non
  | bl b => cases h; exact .base (.bl b)
  | int b => cases h; exact .base (.int b)
  | str b => cases h; exact .base (.str b)
  | @tup kk a vs xs hs r =>
    cases h
    cases kk with
    | own => exact .base (.tup hs)
    | fix => obtain ⟨o, hs, _⟩ := hs; exact .fTuple hs
    | wri => obtain ⟨o, its, n, hk, hc, _⟩ := hs; exact .kTuple hk hc
  | fro hs r =>
    cases h
    rcases hs with ⟨o, hs⟩ | ⟨o, its, n, hk, hc, _⟩
    · exact .base (.frz hs)
    · exact .kList hk hc
  | ty n => cases h
  | ref p =>
    have h' : (match A p with
      | some (.lst _) => some "list"
      | some (.dK _) => some "dict"
      | some (.dT _) => some "dict"
      | _ => none) = some T := h
    split at h'
    · rename_i xs e
      cases h'
      obtain ⟨vs, q, _⟩ := rh p _ e
      exact .base (.lst q)
    · rename_i xs e
      cases h'
      rcases rh p _ e with ⟨ks, q, _⟩ | ⟨_, q⟩
      · exact .base (.dK q)
      · exact .base (.dT q)
    · rename_i xs e
      cases h'
      obtain ⟨vs, q, _⟩ := rh p _ e
      exact .base (.dT q)
    · cases h'
def isiTys : List String := ["bool", "int", "str", "tuple", "list", "dict"]
@[reducible] def lIsi : LCR := l2 fun x c A Q => match c with
  | .ty n => n ∈ isiTys ∧ orF (tyOfP x A) fun T => Q (.bl (isiP T n)) A
  | _ => False
theorem lcall_isi : LCall X (.builtin "isinstance") lIsi := by
  intro pins s σ H vs us R I r h
  obtain ⟨xs, A, Q, rv, rh, t, k⟩ := h
  cases rv with
  | nil => exact t.elim
  | cons rx rr =>
    cases rr with
    | nil => exact t.elim
    | cons ry rr =>
      cases rr with
      | cons _ _ => exact t.elim
      | nil =>
        cases ry with
        | ty n =>
          obtain ⟨t0, t1⟩ := t
          obtain ⟨T, e, t2⟩ := orF_some t1
          exact call_isi pins s σ H _ us R I r ⟨_, .ty n, .type T, .type n, isiP T n, rfl, .ty n, tyOfP_to rx rh e, kit_ty (isiP_ok T (tyOfP_mem e) n t0), fin0 t2 (.bl _) rh k⟩
        | _ => exact (show False from t).elim

/-! ### list, tuple, sorted, dict -/
@[reducible] def lList : LCR := fun xs A Q => match xs with
  | [.tup _ xs] => ∀ p, A p = none → Q (.ref p) (aupd A p (.lst xs))
  | [.fro xs] => ∀ p, A p = none → Q (.ref p) (aupd A p (.lst xs))
  | [.ref a] => match A a with
    | some (.lst xs) => ∀ p, A p = none → Q (.ref p) (aupd A p (.lst xs))
    | some (.dK kvs) => ∀ p, A p = none → Q (.ref p) (aupd A p (.lst (kvs.map fun kv => kP kv.1)))
    | _ => False
  | _ => False
theorem kP_rep {K : PySem.W.Frag} {H : Hp} : ∀ k : Key, RepV K H (kP k) (kV k)
  | .inl i => .int i
  | .inr x => .str x
theorem RepD.keys {K : PySem.W.Frag} {H : Hp} : ∀ {kvs : List (Key × PV)} {ks : List (Key × V)}, RepD K H kvs ks → RepVs K H (kvs.map fun kv => kP kv.1) (ks.map fun kv => kV kv.1)
  | _, _, .nil => .nil
  | p :: t, q :: u, .cons h t' => by
    rw [List.map_cons, List.map_cons, h.1]
    exact .cons (kP_rep _) (RepD.keys t')
theorem lcall_list (hc : X.calm = true) : LCall X (.type "list") lList := by
  intro pins s σ H vs us R I r h
  obtain ⟨xs, A, Q, rv, rh, t, k⟩ := h
  unfold lList at t
  split at t
  · cases rv with
    | cons rx rr =>
      cases rr
      cases rx with
      | tup hs q => exact call_list_of pins s σ H _ us R I r ⟨_, _, rfl, .inr hs.sq, fun p hp => k _ _ (t p (rh.free hp)) _ _ (.new hp) (.ref p) (newLst q rh hp)⟩
  · cases rv with
    | cons rx rr =>
      cases rr
      cases rx with
      | fro hs q => exact call_list_of pins s σ H _ us R I r ⟨_, _, rfl, .inl hs.seq, fun p hp => k _ _ (t p (rh.free hp)) _ _ (.new hp) (.ref p) (newLst q rh hp)⟩
  · rename_i a
    cases rv with
    | cons rx rr =>
      cases rr
      cases rx
      split at t
      · rename_i xs e
        obtain ⟨ws, h1, q⟩ := rh a _ e
        exact call_list_of pins s σ H _ us R I r ⟨_, _, rfl, .inl (.of h1), fun p hp => k _ _ (t p (rh.free hp)) _ _ (.new hp) (.ref p) (newLst q rh hp)⟩
      · rename_i kvs e
        obtain ⟨H1, ks, I1, ex, rh1, h1, q⟩ := norm_K I rh e
        exact call_list_dK hc pins s σ H1 _ us R I1 r ⟨a, ks, rfl, h1, fun p hp => k _ _ (t p (rh1.free hp)) _ _ (ex.trans (.new hp)) (.ref p) (newLst q.keys rh1 hp)⟩
      · exact t.elim
  · exact t.elim
/-- a new tuple of the wanted kind -/
def TupObj (f : TK) (its : List Value) (vs : List V) : HO := match f with
  | .fix => .frz { cls := .type "tuple", data := .seq its.toArray } (.tup vs)
  | _ => .tup vs
theorem tupObj_rep {K : PySem.W.Frag} {H : Hp} {f : TK} (hf : f ≠ .wri) {its : List Value} {xs : List PV} {vs : List V} {p : Addr} (r : RepVs K H xs vs) (hp : H p = none) : RepV K (upd H p (TupObj f its vs)) (.tup f xs) (.ref p) := by
  cases f with
  | own => exact newTup r hp
  | fix => exact .tup ⟨_, upd_same, rfl⟩ (r.ext (.new hp))
  | wri => exact absurd rfl hf
theorem tupObj_ok {P : Program} {w : World} {H : Hp} {h : Heap} {f : TK} {its : List Value} {vs : List V} (hz : vs.length ≤ sizeLine) (r : Vals vs its) : ObjOk P w H (h.push { cls := .type "tuple", data := .seq its.toArray }) h.objs.size (TupObj f its vs) := by
  cases f with
  | fix => exact ⟨Heap.get?_push_size h rfl, hz, its, r, IsTup.new _ _⟩
  | own => exact ⟨hz, its, r, IsTup.new _ _⟩
  | wri => exact ⟨hz, its, r, IsTup.new _ _⟩
@[reducible] def lTuple (f : TK) : LCR := fun xs A Q => match xs with
  | [.tup k xs] => Q (.tup k xs) A
  | [.fro xs] => Q (.tup f xs) A
  | [.ref a] => match A a with
    | some (.lst xs) => Q (.tup f xs) A
    | _ => False
  | _ => False
theorem lcall_tuple {f : TK} (hf : f ≠ .wri) : LCall X (.type "tuple") (lTuple f) := by
  intro pins s σ H vs us R I r h
  obtain ⟨xs, A, Q, rv, rh, t, k⟩ := h
  have go : ∀ {p : Addr} {xs : List PV} {ws : List V}, SqL X.K H p ws → RepVs X.K H xs ws → Q (.tup f xs) A → wpAny (model X.prog X.w) X.A (call (.type "tuple") [.ref p]) (EP X pins σ R) X.xe s := by
    intro p xs ws hq q t
    obtain ⟨its, r', pl, hz⟩ := I.list hq
    have hlen := r'.length
    refine call_tuple_list pl.isList (fun h' kp => ?_) (by simp only [List.size_toArray] <;> omega)
    have I1 : Inv X pins σ H { s with heap := h' } := I.kept (t' := s.toks) kp
    have I2 : Inv X pins σ (upd H h'.objs.size (TupObj f its ws)) { s with heap := h'.push { cls := .type "tuple", data := .seq its.toArray } } :=
      I1.laid (t' := s.toks) (fun b o e => Heap.get?_push_of_some _ e) (Nat.le_refl _) (tupObj_ok hz r')
    have hp : H h'.objs.size = none := I1.hok.fresh (Nat.le_refl _)
    exact ⟨.ref h'.objs.size, _, I2, rfl, k _ _ t _ _ (.new hp) (tupObj_rep hf q hp) (rh.newT hp)⟩
  unfold lTuple at t
  split at t
  · cases rv with
    | cons rx rr =>
      cases rr
      cases rx with
      | tup hs q => exact call_tuple_of pins s σ H _ us R I r ⟨_, _, rfl, .inr ⟨hs.sq, fin0 t (.tup hs q) rh k⟩⟩
  · cases rv with
    | cons rx rr =>
      cases rr
      cases rx with
      | fro hs q =>
        obtain ⟨u, rfl, ru⟩ := vals1 r
        cases ru
        exact go hs.seq q t
  · rename_i a
    cases rv with
    | cons rx rr =>
      cases rr
      cases rx
      split at t
      · rename_i xs e
        obtain ⟨ws, h1, q⟩ := rh a _ e
        obtain ⟨u, rfl, ru⟩ := vals1 r
        cases ru
        exact go (.of h1) q t
      · exact t.elim
  · exact t.elim
/-- a tuple display of the wanted kind -/
@[reducible] def lTupF (f : TK) (t : LA) : LE := fun s A Q => t s A fun xs A1 => xs.length ≤ sizeLine ∧ Q (.tup f xs) A1
theorem je_tupF {f : TK} (hf : f ≠ .wri) {es : List Expr} {tr : LA} {x1 : Nat} {pos : Pos} (h : JA X es tr) : JE X (.Tuple es x1 pos) (lTupF f tr) := by
  refine ⟨fun pins s σ H R I ⟨s0, A, Q, rs, rh, t, k⟩ => ?_⟩
  refine wpAny_Tuple_spliced (thn (h.run pos pins s σ H (fun vs H1 => ∃ xs A1, Ext X.K H H1 ∧ RepVs X.K H1 xs vs ∧ RepH X.K H1 A1 ∧ xs.length ≤ sizeLine ∧ Q (.tup f xs) A1) I ⟨s0, A, _, rs, rh, t, fun xs A1 t1 vs H1 e1 r1 rh1 => ⟨xs, A1, e1, r1, rh1, t1.1, t1.2⟩⟩) fun us s1 ⟨vs, H1, I1, r, xs, A1, e1, r1, rh1, z, q⟩ => ⟨by rw [← r.length, ← r1.length]; exact z, ?_⟩)
  have hf' : H1 s1.heap.objs.size = none := I1.hok.fresh (Nat.le_refl _)
  refine ⟨.ref s1.heap.objs.size, upd H1 s1.heap.objs.size (TupObj f us vs), I1.laid (t' := s1.toks) (fun b u e => Heap.get?_push_of_some _ e) (Nat.le_refl _) (tupObj_ok (by rw [← r1.length]; exact z) r), rfl, ?_⟩
  exact k _ _ q _ _ (e1.trans (.new hf')) (tupObj_rep hf r1 hf') (rh1.newT hf')

/-! ### sorted -/
def pd (x : PV) : PyData := (toD x).getD .none
def psort (xs : List PV) : List PV := xs.mergeSort (PySem.W.dataLe false pd)
structure SortOk (xs : List PV) : Prop where
  all : ∀ x ∈ xs, (toD x).isSome = true
  alk : PySem.W.AllAlike (xs.map pd)
  srt : PySem.W.Sortable (xs.map pd)
  dep : ∀ x ∈ xs, (pd x).depth ≤ 60
theorem toD_pd {x : PV} (h : (toD x).isSome = true) : toD x = some (pd x) := by
  obtain ⟨d, e⟩ := Option.isSome_iff_exists.mp h
  unfold pd; rw [e]; rfl
theorem each_reads {pins : List (Addr × Obj)} {σ : St} {H : Hp} {s : Shared} (I : Inv X pins σ H s) : ∀ {xs : List PV} {vs : List V} {us : List Value}, RepVs X.K H xs vs → Vals vs us → (∀ x ∈ xs, (toD x).isSome = true) →
    PySem.W.EachIs (fun u b => ∃ as, PySem.Reads s.heap u (pd b) as) us xs ∧ PySem.W.EachIs (fun u b => ∃ v, RelV v u ∧ RepV X.K H b v) us xs
  | _, _, _, .nil, .nil, _ => ⟨.nil, .nil⟩
  | _, _, _, .cons r rt, .cons q qt, h => by
    obtain ⟨h1, h2⟩ := each_reads I rt qt fun x hx => h x (List.mem_cons_of_mem _ hx)
    obtain ⟨as, hr⟩ := Dp.reads I _ _ _ (toD_dp r (toD_pd (h _ List.mem_cons_self))) q
    exact ⟨.cons ⟨as, hr⟩ h1, .cons ⟨_, q, r⟩ h2⟩
theorem each_back {K : PySem.W.Frag} {H : Hp} : ∀ {us : List Value} {xs : List PV}, PySem.W.EachIs (fun u b => ∃ v, RelV v u ∧ RepV K H b v) us xs → ∃ vs, Vals vs us ∧ RepVs K H xs vs
  | _, _, .nil => ⟨[], .nil, .nil⟩
  | _, _, .cons ⟨v, q, r⟩ t => by
    obtain ⟨vs, h1, h2⟩ := each_back t
    exact ⟨v :: vs, .cons q h1, .cons r h2⟩
@[reducible] def seqK (x : PV) (A : AH) (k : List PV → Prop) : Prop := match x with
  | .tup _ xs => k xs
  | .fro xs => k xs
  | .ref p => match A p with
    | some (.lst xs) => k xs
    | _ => False
  | _ => False
@[reducible] def lSorted : LCR := l1 fun x A Q => lstK x A fun xs => SortOk xs ∧ ∀ p, A p = none → Q (.ref p) (aupd A p (.lst (psort xs)))
theorem lcall_sorted (hu : X.A.units + 200 < cLine) : LCall X (.builtin "sorted") lSorted := by
  intro pins s σ H vs us R I r h
  obtain ⟨xs, A, Q, rv, rh, t, k⟩ := h
  cases rv with
  | nil => exact t.elim
  | cons rx rr =>
    cases rr with
    | cons _ _ => exact t.elim
    | nil =>
      obtain ⟨p, ys, ws, rfl, rfl, e, h1, q, ok, t1⟩ := lstK_to rx rh t
      obtain ⟨u, rfl, ru⟩ := vals1 r
      cases ru
      obtain ⟨its, ri, pl, hz⟩ := I.list (.of h1)
      obtain ⟨er, ee⟩ := each_reads I q ri ok.all
      refine PySem.W.sorted_data pl.isList ee er ok.alk ok.srt (by rw [q.length]; exact hz) (fun b hb => by have := ok.dep b hb; omega) fun out hlen eo => ?_
      obtain ⟨zs, hv, hr⟩ := each_back eo
      obtain ⟨ep, he'⟩ := PyProof.Rows.sortedAll_at s.heap its out.toArray
      have hf : H (s.heap.objs.size + 1) = none := I.hok.fresh (Nat.le_succ _)
      have hlz : zs.length ≤ sizeLine := by rw [hv.length, hlen, q.length]; exact hz
      exact ⟨.ref _, upd H (s.heap.objs.size + 1) (.lst zs), I.laid (t' := s.toks) (fun _ _ => PyProof.Rows.sortedAll_old) (Nat.le_succ _) ⟨hlz, out, ep, hv, he'⟩, rfl, k _ _ (t1 _ (rh.free hf)) _ _ (.new hf) (.ref _) (newLst hr rh hf)⟩

/-! ### dict of pairs -/
def pairP : PV → Option (Key × PV)
  | .tup _ [k, v] => (keyP k).map fun k => (k, v)
  | _ => none
def pairsP : List PV → Option (List (Key × PV))
  | [] => some []
  | x :: r => match pairP x, pairsP r with
    | some p, some ps => some (p :: ps)
    | _, _ => none
def mergeP (kvs more : List (Key × PV)) : List (Key × PV) := more.foldl (fun acc kv => putP acc kv.1 kv.2) kvs
theorem RepD.merge {K : PySem.W.Frag} {H : Hp} : ∀ {more : List (Key × PV)} {ms : List (Key × V)} {kvs : List (Key × PV)} {ks : List (Key × V)}, RepD K H more ms → RepD K H kvs ks → RepD K H (mergeP kvs more) (mergeK ks ms)
  | _, _, _, _, .nil, h => h
  | p :: t, q :: u, kvs, ks, .cons h t', g => by
    show RepD K H (mergeP (putP kvs p.1 p.2) t) (mergeK (putK ks q.1 q.2) u)
    rw [h.1]
    exact RepD.merge t' (g.put _ h.2)
theorem pairsP_to {K : PySem.W.Frag} {H : Hp} : ∀ {xs : List PV} {vs : List V} {ps : List (Key × PV)}, RepVs K H xs vs → pairsP xs = some ps →
    ∃ (as : List Addr) (ks : List (Key × V)), vs = as.map V.ref ∧ Paired (fun p kv => SqT K H p [kV kv.1, kv.2]) as ks ∧ RepD K H ps ks
  | _, _, _, .nil, e => by cases e; exact ⟨[], [], rfl, .nil, .nil⟩
  | x :: xs, _, _, .cons r rt, e => by
    have e' : (match pairP x, pairsP xs with
      | some p, some ps => some (p :: ps)
      | _, _ => none) = some _ := e
    split at e'
    · rename_i p ps e1 e2
      cases e'
      obtain ⟨as, ks, h1, h2, h3⟩ := pairsP_to rt e2
      unfold pairP at e1
      split at e1
      · obtain ⟨kk, e3, rfl⟩ := Option.map_eq_some_iff.mp e1
        cases r with
        | @tup kk0 a0 ws0 ys0 hs q =>
          cases q with
          | cons q1 q =>
            cases q with
            | cons q2 q =>
              cases q
              have z := keyP_rep q1 e3
              subst z
              exact ⟨a0 :: as, (kk, _) :: ks, by rw [h1]; rfl, .cons hs.sq h2, .cons ⟨rfl, q2⟩ h3⟩
      · cases e1
    · cases e'
@[reducible] def lDict : LCR := fun xs A Q => match xs with
  | [.tup .fix xs] => orF (pairsP xs) fun ps => ∀ p, A p = none → Q (.ref p) (aupd A p (.dK (mergeP [] ps)))
  | [x] => lstK x A fun xs => orF (pairsP xs) fun ps => ∀ p, A p = none → Q (.ref p) (aupd A p (.dK (mergeP [] ps)))
  | _ => False
theorem newDK {K : PySem.W.Frag} {H : Hp} {A : AH} {xs : List (Key × PV)} {vs : List (Key × V)} {p : Addr} (r : RepD K H xs vs) (rh : RepH K H A) (hp : H p = none) : RepH K (upd H p (.dK vs)) (aupd A p (.dK xs)) :=
  rh.new hp (.inl ⟨vs, upd_same, r.ext (.new hp)⟩)
theorem pairs2 {pins : List (Addr × Obj)} {σ : St} {H : Hp} {s : Shared} (I : Inv X pins σ H s) : ∀ {as : List Addr} {ks : List (Key × V)}, Paired (fun p kv => SqT X.K H p [kV kv.1, kv.2]) as ks →
    ∃ prs : List (Value × Value), ∃ kvs : List (Key × Value), KV ks kvs ∧ kvs.length = prs.length ∧ prs.length = as.length ∧ (∀ (j : Nat) (k v : Value), prs[j]? = some (k, v) → ∃ (b : Addr) (kk : Key), as[j]? = some b ∧ IsTup s.heap b #[k, v] ∧ kvs[j]? = some (kk, v) ∧ keyIs kk k = true)
  | _, _, .nil => ⟨[], [], .nil, rfl, rfl, fun j k v e => by simp at e⟩
  | _, _, .cons (a := p) (b := kv) h t => by
    obtain ⟨prs, kvs, r, hl, hl2, hp⟩ := pairs2 I t
    obtain ⟨its, rv, ht, _⟩ := I.tuple h
    obtain ⟨u, y, ei, ru, ry⟩ := vals2 rv
    subst ei
    refine ⟨(u, y) :: prs, (kv.1, y) :: kvs, .cons ⟨rfl, ry⟩ r, by rw [List.length_cons, List.length_cons, hl], by rw [List.length_cons, List.length_cons, hl2], fun j k v e => ?_⟩
    cases j with
    | zero =>
      have e' : (u, y) = (k, v) := Option.some.inj e
      cases e'
      exact ⟨p, kv.1, rfl, ht, rfl, kV_is (P := X.prog) (w := X.w) ru⟩
    | succ j =>
      obtain ⟨b, kk, e1, e2, e3, e4⟩ := hp j k v (by simpa using e)
      exact ⟨b, kk, by simpa using e1, e2, by simpa using e3, e4⟩
theorem call_dictF (hcalm : X.calm = true) : CallR X (.type "dict") (fun xs H Q => ∃ (a : Addr) (o : Obj) (as : List Addr) (ks : List (Key × V)), xs = [.ref a] ∧ H a = some (.frz o (.tup (as.map V.ref))) ∧ o.dict = none ∧ Paired (fun p kv => SqT X.K H p [kV kv.1, kv.2]) as ks ∧
    ∀ p, H p = none → Q (.ref p) (upd H p (.dK (mergeK [] ks)))) := by
  intro pins s σ H xs us Q I r q
  obtain ⟨a, o, as, ks, ex, hq, ho, hp, q⟩ := q
  subst ex
  obtain ⟨u, eu, rx⟩ := vals1 r
  subst eu
  cases rx
  obtain ⟨hget, hz, its, rv, o2, h1, h2, n, h3⟩ := (I.hok a _ hq : ObjOk X.prog X.w H s.heap a (.frz o (.tup (as.map V.ref))))
  rw [hget] at h1
  have e1 := Option.some.inj h1
  subst e1
  have ei := refs_at rv
  subst ei
  rw [List.length_map] at hz
  obtain ⟨prs, kvs, rel, hl, hl2, hpr⟩ := pairs2 I hp
  refine PySem.call_dict_pairs (knd := mixKind X.prog X.w) (kvs := kvs) (PySem.PairArg.tuple a (as.map Value.ref).toArray (fun j => as.getD j 0) prs) (I.ok.hd hcalm) ⟨⟨o, n, hget, h2, ho, h3⟩, by simp [hl2], fun j k v e => ?_⟩ ⟨hl, fun i k v e => ?_⟩ (by rw [hl2]; exact hz) fun h' tk hd' kk => ?_
  · obtain ⟨b, k0, e1, e2, _, _⟩ := hpr j k v e
    have e3 : as.getD j 0 = b := by simp [List.getD, e1]
    dsimp only
    rw [e3]
    exact ⟨by simp [e1], .inl e2⟩
  · obtain ⟨b, k0, _, _, e3, e4⟩ := hpr i k v e
    exact ⟨k0, e3, e4⟩
  · have hm : (s.heap.objs.size == sysModules) = false := beq_eq_false_iff_ne.mpr (Nat.ne_of_gt I.big)
    have hlen : (mergeK [] ks).length ≤ sizeLine := by
      refine Nat.le_trans (length_mergeK ks []) ?_
      rw [List.length_nil, Nat.zero_add, rel.length, hl, hl2]
      exact hz
    exact ⟨.ref s.heap.objs.size, upd H s.heap.objs.size (.dK (mergeK [] ks)), I.laid (t' := tk) (fun b o e => kk b o (by simp) e) (Nat.le_refl _) (show ObjOk X.prog X.w _ _ _ (.dK (mergeK [] ks)) from ⟨hlen, hm, merged [] kvs, KV.merge rel .nil, hd'⟩), rfl, q _ (I.hok.fresh (Nat.le_refl _))⟩
theorem lcall_dict (hc : X.calm = true) : LCall X (.type "dict") lDict := by
  intro pins s σ H vs us R I r h
  obtain ⟨xs, A, Q, rv, rh, t, k⟩ := h
  unfold lDict at t
  split at t
  · cases rv with
    | cons rx rr =>
      cases rr
      obtain ⟨ps, e, t1⟩ := orF_some t
      cases rx with
      | tup hs q =>
        obtain ⟨o, hs, ho⟩ := hs
        obtain ⟨as, ks, e1, h2, h3⟩ := pairsP_to q e
        subst e1
        exact call_dictF hc pins s σ H _ us R I r ⟨_, o, as, ks, rfl, hs, ho, h2, fun p hp => k _ _ (t1 p (rh.free hp)) _ _ (.new hp) (.ref p) (newDK (h3.merge .nil) rh hp)⟩
  · cases rv with
    | cons rx rr =>
      cases rr
      obtain ⟨p, ys, ws, rfl, rfl, e, h1, q, t1⟩ := lstK_to rx rh t
      obtain ⟨ps, e1, t2⟩ := orF_some t1
      obtain ⟨as, ks, e2, h2, h3⟩ := pairsP_to q e1
      subst e2
      exact call_dictP hc pins s σ H _ us R I r ⟨_, as, ks, rfl, .of h1, h2, fun p hp => k _ _ (t2 p (rh.free hp)) _ _ (.new hp) (.ref p) (newDK (h3.merge .nil) rh hp)⟩
  · exact t.elim
end
end Lf
namespace Lf
open PySem PySem.Spec L2
open PyProof.Rows hiding St

section
variable {X : Cx}
abbrev LMR := PV → List PV → AH → QK → Prop
def cM (K : PySem.W.Frag) (r : LMR) : V → List V → Hp → VK → Prop := fun v vs H R => ∃ (x : PV) (xs : List PV) (A : AH) (Q : QK), RepV K H x v ∧ RepVs K H xs vs ∧ RepH K H A ∧ r x xs A Q ∧ ∀ z A', Q z A' → ∀ v H', Ext K H H' → RepV K H' z v → RepH K H' A' → R v H'
abbrev LMt (X : Cx) (id : String) (r : LMR) : Prop := MtR X id (cM X.K r)
structure MAlt (X : Cx) (name : Str) (T : String) (r : LMR) : Prop where
  ex : ∃ id : String, PlainAttrs T ∧ Slot T name id ∧ typeOf (.builtin id) = pure (.type "method_descriptor") ∧ LMt X id r
@[reducible] def lMeth (alts : List (String × LMR)) (to : LE) (ta : LA) : LE := fun s A Q => to s A fun x A1 => orF (tyOfP x A1) fun T => orF (alts.lookup T) fun r => ta s A1 fun xs A2 => r x xs A2 Q
theorem tyP_is {pins : List (Addr × Obj)} {σ : St} {H : Hp} {s : Shared} {A : AH} {x : PV} {v : V} {u : Value} {T : String} (I : Inv X pins σ H s) (rx : RepV X.K H x v) (rh : RepH X.K H A) (ru : RelV v u) (h : tyOfP x A = some T) (ht : T ∈ ["str", "int", "list", "dict"]) :
    s.TypeIs u T ∧ ∀ a, u = .ref a → ∃ ob, s.heap.get? a = some ob ∧ ob.dict = none := by
  refine tyV_is I ru ?_
  cases rx with
  | non => cases h; simp at ht
  | bl b => cases h; simp at ht
  | int b => cases h; rfl
  | str b => cases h; rfl
  | tup hs r => cases h; simp at ht
  | fro hs r => cases h; exact .inl ⟨rfl, _, hs.seq⟩
  | ty n => cases h
  | ref p =>
    have h' : (match A p with
      | some (.lst _) => some "list"
      | some (.dK _) => some "dict"
      | some (.dT _) => some "dict"
      | _ => none) = some T := h
    split at h'
    · rename_i xs e
      cases h'
      obtain ⟨vs, q, _⟩ := rh p _ e
      exact .inl ⟨rfl, _, .of q⟩
    · rename_i xs e
      cases h'
      rcases rh p _ e with ⟨ks, q, _⟩ | ⟨_, q⟩
      · exact .inr (.inr (.inl ⟨rfl, .inl ⟨_, q⟩⟩))
      · exact .inr (.inr (.inl ⟨rfl, .inr ⟨_, q⟩⟩))
    · rename_i xs e
      cases h'
      obtain ⟨vs, q, _⟩ := rh p _ e
      exact .inr (.inr (.inl ⟨rfl, .inr ⟨_, q⟩⟩))
    · cases h'
variable {o e : Expr} {es : List Expr} {to : LE} {ta : LA} {name : Str} {apos cpos : Pos} {alts : List (String × LMR)}
def altsIn (alts : List (String × LMR)) : Bool := alts.all fun p => p.1 ∈ ["str", "int", "list", "dict"]
theorem lookup_mem {β : Type} {T : String} {r : β} : ∀ {l : List (String × β)}, l.lookup T = some r → (T, r) ∈ l
  | (k, v) :: t, h => by
    rw [List.lookup_cons] at h
    split at h
    · rename_i e
      cases h
      rw [beq_iff_eq.mp e]; exact List.mem_cons_self
    · exact List.mem_cons_of_mem _ (lookup_mem h)
theorem alts_ok (hin : altsIn alts = true) (hal : ∀ p ∈ alts, MAlt X name p.1 p.2) {T : String} {r : LMR} (h : alts.lookup T = some r) : T ∈ ["str", "int", "list", "dict"] ∧ MAlt X name T r := by
  have hm : (T, r) ∈ alts := lookup_mem h
  have q := List.all_eq_true.mp hin _ hm
  exact ⟨by simpa using q, hal _ hm⟩
theorem je_meth0 (hin : altsIn alts = true) (hal : ∀ p ∈ alts, MAlt X name p.1 p.2) (ho : JE X o to)
    (hbase : attributeBase o name X.env (eval o X.env) = eval o X.env) (hline : (apos.endLine == cpos.line) = true) : JE X (.Call (.Attribute o name apos) [] [] cpos) (lMeth alts to lNil) := by
  refine ⟨fun pins s σ H R I ⟨s0, A, Q, rs, rh, t, k⟩ => ?_⟩
  refine wpAny_Call_method0_late hbase hline (thn (ho.run pins s σ H (fun v H1 => ∃ x A1, Ext X.K H H1 ∧ RepV X.K H1 x v ∧ RepH X.K H1 A1 ∧ orF (tyOfP x A1) fun T => orF (alts.lookup T) fun r => r x [] A1 Q) I ⟨s0, A, _, rs, rh, t, fun x A1 t1 v1 H1 e1 r1 rh1 => ⟨x, A1, e1, r1, rh1, t1⟩⟩) fun v s1 ⟨v', H1, I1, rv, x, A1, e1, r1, rh1, t1⟩ => ?_)
  obtain ⟨T, eT, t2⟩ := orF_some t1
  obtain ⟨r, er, t3⟩ := orF_some t2
  obtain ⟨hT, ⟨id, pa, slot, hty, hm⟩⟩ := alts_ok hin hal er
  obtain ⟨h1, h2⟩ := tyP_is I1 r1 rh1 rv eT hT
  exact ⟨T, id, pa, slot, hty, h1, h2, Calls.callWith_builtin rfl (PySem.evalArgs_none (hm pins s1 σ H1 _ [] v [] R I1 rv .nil ⟨x, [], A1, Q, r1, .nil, rh1, t3, fun z A2 t2 v2 H2 e2 => k z A2 t2 v2 H2 (e1.trans e2)⟩))⟩
theorem je_meth (hin : altsIn alts = true) (hal : ∀ p ∈ alts, MAlt X name p.1 p.2) (ho : JE X o to) (ha : JA X (e :: es) ta)
    (hbase : attributeBase o name X.env (eval o X.env) = eval o X.env)
    (hfew : ((backTo cpos (starEach (e :: es) X.env)).all (fun x => !x.1) && (backToKw cpos (keywordEach [] X.env)).all (fun x => x.1.isSome)
      && decide ((e :: es).length + ([] : List Keyword).length + (if ([] : List Keyword).isEmpty then 0 else 1) < 30)) = true)
    (hline : (apos.endLine == cpos.line) = true) (hs : starEach (e :: es) X.env = (false, eval e X.env) :: starEach es X.env) (hplain : (backTo cpos (starEach es X.env)).any (·.1) = false) :
    JE X (.Call (.Attribute o name apos) (e :: es) [] cpos) (lMeth alts to ta) := by
  refine ⟨fun pins s σ H R I ⟨s0, A, Q, rs, rh, t, k⟩ => ?_⟩
  refine wpAny_Call_method_late hbase hfew hline rfl (thn (ho.run pins s σ H (fun v H1 => ∃ x A1, Ext X.K H H1 ∧ RepV X.K H1 x v ∧ RepH X.K H1 A1 ∧ orF (tyOfP x A1) fun T => orF (alts.lookup T) fun r => ta s0 A1 fun xs A2 => r x xs A2 Q) I ⟨s0, A, _, rs, rh, t, fun x A1 t1 v1 H1 e1 r1 rh1 => ⟨x, A1, e1, r1, rh1, t1⟩⟩) fun v s1 ⟨v', H1, I1, rv, x, A1, e1, r1, rh1, t1⟩ => ?_)
  obtain ⟨T, eT, t2⟩ := orF_some t1
  obtain ⟨r, er, t3⟩ := orF_some t2
  obtain ⟨hT, ⟨id, pa, slot, hty, hm⟩⟩ := alts_ok hin hal er
  obtain ⟨h1, h2⟩ := tyP_is I1 r1 rh1 rv eT hT
  refine ⟨T, id, pa, slot, hty, h1, h2, ?_⟩
  have hA := ha.run cpos pins s1 σ H1 (fun vs H2 => ∃ xs A2, Ext X.K H1 H2 ∧ RepVs X.K H2 xs vs ∧ RepH X.K H2 A2 ∧ r x xs A2 Q) I1 ⟨s0, A1, _, rs.ext e1, rh1, t3, fun xs A2 t4 vs H2 e2 r2 rh2 => ⟨xs, A2, e2, r2, rh2, t4⟩⟩
  rw [hs] at hA ⊢
  refine Calls.callWith_builtin (by show (false || (backTo cpos (starEach es X.env)).any (·.1)) = false; rw [hplain] <;> rfl) (Calls.evalArgs_plain ?_)
  exact thn hA fun us s2 ⟨vs, H2, I2, r2, xs, A2, e2, rr2, rh2, t4⟩ => hm pins s2 σ H2 _ vs v us R I2 rv r2 ⟨x, xs, A2, Q, r1.ext e2, rr2, rh2, t4, fun z A3 t5 v3 H3 e3 => k z A3 t5 v3 H3 (e1.trans (e2.trans e3))⟩

/-! ### lists -/
/-- a list's own address and items -/
@[reducible] def lstM (x : PV) (A : AH) (k : Addr → List PV → Prop) : Prop := match x with
  | .ref p => match A p with
    | some (.lst xs) => k p xs
    | _ => False
  | _ => False
theorem lstM_to {K : PySem.W.Frag} {H : Hp} {A : AH} {x : PV} {v : V} {k : Addr → List PV → Prop} (rx : RepV K H x v) (rh : RepH K H A) (h : lstM x A k) : ∃ p xs vs, x = .ref p ∧ v = .ref p ∧ A p = some (.lst xs) ∧ H p = some (.lst vs) ∧ RepVs K H xs vs ∧ k p xs := by
  cases rx with
  | ref p =>
    have h' : (match A p with
      | some (.lst xs) => k p xs
      | _ => False) := h
    split at h'
    · rename_i xs e
      obtain ⟨vs, h1, r⟩ := rh p _ e
      exact ⟨p, xs, vs, rfl, rfl, e, h1, r, h'⟩
    · exact h'.elim
  | _ => exact (show False from h).elim
@[reducible] def lAppend : LMR := fun x ys A Q => lstM x A fun p xs => match ys with
  | [y] => xs.length < sizeLine ∧ Q .non (aupd A p (.lst (xs ++ [y])))
  | _ => False
theorem lmt_append : LMt X "list.append" lAppend := by
  intro pins s σ H x vs v us R I rx rv ⟨px, pxs, A, Q, rp, rps, rh, t, k⟩
  obtain ⟨p, xs, ws, rfl, rfl, ea, h1, q, t1⟩ := lstM_to rp rh t
  split at t1
  · cases rps with
    | cons ry rr =>
      cases rr
      exact mt_append pins s σ H _ _ v us R I rx rv ⟨p, ws, _, rfl, rfl, h1, by rw [← q.length]; exact t1.1, k _ _ t1.2 _ _ (extLst h1) .non (putLst (q.append (.cons ry .nil)) rh h1)⟩
  · exact t1.elim
@[reducible] def lExtend : LMR := fun x ys A Q => lstM x A fun p xs => match ys with
  | [y] => lstK y A fun zs => xs.length + zs.length ≤ sizeLine ∧ Q .non (aupd A p (.lst (xs ++ zs)))
  | _ => False
theorem lmt_extend : LMt X "list.extend" lExtend := by
  intro pins s σ H x vs v us R I rx rv ⟨px, pxs, A, Q, rp, rps, rh, t, k⟩
  obtain ⟨p, xs, ws, rfl, rfl, ea, h1, q, t1⟩ := lstM_to rp rh t
  split at t1
  · cases rps with
    | cons ry rr =>
      cases rr
      obtain ⟨p2, ys, w2, rfl, rfl, ea2, h2, q2, t2⟩ := lstK_to ry rh t1
      exact mt_extend pins s σ H _ _ v us R I rx rv ⟨p, p2, ws, w2, rfl, rfl, h1, h2, by rw [← q.length, ← q2.length]; exact t2.1, k _ _ t2.2 _ _ (extLst h1) .non (putLst (q.append q2) rh h1)⟩
  · exact t1.elim
@[reducible] def lPopL : LMR := fun x ys A Q => lstM x A fun p xs => match ys with
  | [] => orF xs[xs.length - 1]? fun y => Q y (aupd A p (.lst xs.dropLast))
  | [.int i] => (-(2 ^ 63) ≤ i ∧ i < 2 ^ 63) ∧ orF (seqIndex? i xs.length) fun j => orF xs[j]? fun y => Q y (aupd A p (.lst (xs.eraseIdx j)))
  | _ => False
theorem lmt_popL : LMt X "list.pop" lPopL := by
  intro pins s σ H x vs v us R I rx rv ⟨px, pxs, A, Q, rp, rps, rh, t, k⟩
  obtain ⟨p, xs, ws, rfl, rfl, ea, h1, q, t1⟩ := lstM_to rp rh t
  split at t1
  · cases rps
    obtain ⟨y, ey, t2⟩ := orF_some t1
    obtain ⟨w, ew, ry⟩ := q.get ey
    exact mt_pop pins s σ H _ _ v us R I rx rv ⟨p, ws, w, rfl, rfl, h1, by rw [← q.length]; exact ew, k _ _ t2 _ _ (extLst h1) (ry.ext (extLst h1)) (putLst q.dropLast rh h1)⟩
  · cases rps with
    | cons ri rr =>
      cases rr; cases ri
      obtain ⟨⟨b1, b2⟩, t2⟩ := t1
      obtain ⟨j, ej, t3⟩ := orF_some t2
      obtain ⟨y, ey, t4⟩ := orF_some t3
      obtain ⟨w, ew, ry⟩ := q.get ey
      exact mt_popAt pins s σ H _ _ v us R I rx rv ⟨p, ws, _, j, w, rfl, rfl, h1, b1, b2, by rw [← q.length]; exact ej, ew, k _ _ t4 _ _ (extLst h1) (ry.ext (extLst h1)) (putLst (q.eraseIdx _) rh h1)⟩
  · exact t1.elim
@[reducible] def lReverse : LMR := fun x ys A Q => lstM x A fun p xs => match ys with
  | [] => Q .non (aupd A p (.lst xs.reverse))
  | _ => False
theorem lmt_reverse : LMt X "list.reverse" lReverse := by
  intro pins s σ H x vs v us R I rx rv ⟨px, pxs, A, Q, rp, rps, rh, t, k⟩
  obtain ⟨p, xs, ws, rfl, rfl, ea, h1, q, t1⟩ := lstM_to rp rh t
  split at t1
  · cases rps
    exact mt_reverse pins s σ H _ _ v us R I rx rv ⟨p, ws, rfl, rfl, h1, k _ _ t1 _ _ (extLst h1) .non (putLst q.reverse rh h1)⟩
  · exact t1.elim
@[reducible] def lClear : LMR := fun x ys A Q => lstM x A fun p xs => match ys with
  | [] => Q .non (aupd A p (.lst []))
  | _ => False
theorem lmt_clear : LMt X "list.clear" lClear := by
  intro pins s σ H x vs v us R I rx rv ⟨px, pxs, A, Q, rp, rps, rh, t, k⟩
  obtain ⟨p, xs, ws, rfl, rfl, ea, h1, q, t1⟩ := lstM_to rp rh t
  split at t1
  · cases rps
    exact mt_clear pins s σ H _ _ v us R I rx rv ⟨p, ws, rfl, rfl, h1, k _ _ t1 _ _ (extLst h1) .non (putLst .nil rh h1)⟩
  · exact t1.elim
/-- the first place of a flat thing -/
def idxP (xs : List PV) (y : PV) : Option Nat := xs.findIdx? fun z => eqP z y
@[reducible] def lIndex : LMR := fun x ys A Q => lstM x A fun p xs => match ys with
  | [y] => flatP y = true ∧ xs.all flatP = true ∧ orF (idxP xs y) fun j => Q (.int (j : Nat)) A
  | _ => False
theorem lmt_index : LMt X "list.index" lIndex := by
  intro pins s σ H x vs v us R I rx rv ⟨px, pxs, A, Q, rp, rps, rh, t, k⟩
  obtain ⟨p, xs, ws, rfl, rfl, ea, h1, q, t1⟩ := lstM_to rp rh t
  split at t1
  · cases rps with
    | cons ry rr =>
      cases rr
      obtain ⟨f1, f2, t2⟩ := t1
      obtain ⟨j, ej, t3⟩ := orF_some t2
      have hj := List.findIdx?_eq_some_iff_getElem.mp ej
      obtain ⟨hlt, hz, hno⟩ := hj
      obtain ⟨w, ew, rz⟩ := q.get (i := j) (x := xs[j]) (by simp [hlt])
      have fl : ∀ z ∈ xs, flatP z = true := fun z hz => List.all_eq_true.mp f2 z hz
      refine mt_index pins s σ H _ _ v us R I rx rv ⟨p, ws, _, j, w, rfl, rfl, .of h1, ry.flat f1, q.flat f2, ew, by rw [rz.eqF ry (fl _ (List.getElem_mem _)) f1]; exact hz, fun m z' hm ez => ?_, fin0 t3 (.int _) rh k⟩
      have hm' : m < xs.length := by omega
      obtain ⟨w2, ew2, rz2⟩ := q.get (i := m) (x := xs[m]) (by simp [hm'])
      rw [ez] at ew2
      cases ew2
      rw [rz2.eqF ry (fl _ (List.getElem_mem _)) f1]
      have := hno m hm
      simpa using this
  · exact t1.elim
/-! ### dicts -/
@[reducible] def dkO (A : AH) (x y : PV) (k : Option PV → Prop) : Prop := match x with
  | .ref p => match A p with
    | some (.dK kvs) => match y with
      | .int i => k (valP kvs (.inl i))
      | .str i => k (valP kvs (.inr i))
      | .tup .own ks => kvs = [] ∧ (keysP ks).isSome = true ∧ k none
      | _ => False
    | some (.dT kvs) => match y with
      | .tup .own ks => orF (keysP ks) fun ks => k (valP kvs ks)
      | _ => False
    | _ => False
  | _ => False
theorem dkO_to {pins : List (Addr × Obj)} {σ : St} {s : Shared} {H : Hp} {A : AH} {x y : PV} {v w : V} {k : Option PV → Prop} (I : Inv X pins σ H s) (rx : RepV X.K H x v) (ry : RepV X.K H y w) (rh : RepH X.K H A) (h : dkO A x y k) :
    ∃ p o r H1, v = .ref p ∧ Inv X pins σ H1 s ∧ Ext X.K H H1 ∧ RepH X.K H1 A ∧ DGet H1 p w r ∧ k o ∧ ((o = none ∧ r = none) ∨ ∃ z u, o = some z ∧ r = some u ∧ RepV X.K H1 z u) := by
  unfold dkO at h
  split at h
  · rename_i p
    cases rx
    split at h
    · rename_i kvs e
      split at h
      · obtain ⟨H1, ks, I1, ex, rh1, q, r⟩ := norm_K I rh e
        cases ry
        exact ⟨p, _, _, H1, rfl, I1, ex, rh1, DGet.k (k := .inl _) q, h, r.val _⟩
      · obtain ⟨H1, ks, I1, ex, rh1, q, r⟩ := norm_K I rh e
        cases ry
        exact ⟨p, _, _, H1, rfl, I1, ex, rh1, DGet.k (k := .inr _) q, h, r.val _⟩
      · obtain ⟨h1, h2, h3⟩ := h
        subst h1
        obtain ⟨H1, I1, ex, rh1, q⟩ := norm_T I rh e
        obtain ⟨kk, e2⟩ := Option.isSome_iff_exists.mp h2
        cases ry.ext ex with
        | tup hs r => exact ⟨p, none, none, H1, rfl, I1, ex, rh1, DGet.t (k := kk) q (by rw [show _ = _ from hs, keysP_rep r e2]), h3, .inl ⟨rfl, rfl⟩⟩
      · exact h.elim
    · rename_i kvs e
      obtain ⟨ks, q, r⟩ := rh p _ e
      split at h
      · obtain ⟨kk, e2, h3⟩ := orF_some h
        cases ry with
        | tup hs r' => exact ⟨p, _, _, H, rfl, I, .refl _ _, rh, DGet.t q (by rw [show _ = _ from hs, keysP_rep r' e2]), h3, r.val _⟩
      · exact h.elim
    · exact h.elim
  · exact h.elim
@[reducible] def lGet : LMR := fun x ys A Q => match ys with
  | [y] => dkO A x y fun o => Q (o.getD .non) A
  | [y, d] => dkO A x y fun o => Q (o.getD d) A
  | _ => False
theorem lmt_get (hu : X.A.units + 1 < cLine) : LMt X "dict.get" lGet := by
  intro pins s σ H x vs v us R I rx rv ⟨px, pxs, A, Q, rp, rps, rh, t, k⟩
  unfold lGet at t
  split at t
  · cases rps with
    | cons ry rr =>
      cases rr
      obtain ⟨p, o, r, H1, rfl, I1, ex, rh1, g, t1, ho⟩ := dkO_to I rp ry rh t
      cases rx
      obtain ⟨u, rfl, ru⟩ := vals1 rv
      refine d_get1 hu I1 g ru fun w' s' I' rw' => ⟨_, H1, I', rw', ?_⟩
      rcases ho with ⟨rfl, rfl⟩ | ⟨z, w, rfl, rfl, rz⟩
      · exact k _ _ t1 _ _ ex .non rh1
      · exact k _ _ t1 _ _ ex rz rh1
  · cases rps with
    | cons ry rr =>
      cases rr with
      | cons rd rr =>
        cases rr
        obtain ⟨p, o, r, H1, rfl, I1, ex, rh1, g, t1, ho⟩ := dkO_to I rp ry rh t
        cases rx
        obtain ⟨u, u2, rfl, ru, ru2⟩ := vals2 rv
        refine d_get2 hu I1 g ru ru2 fun w' s' I' rw' => ⟨_, H1, I', rw', ?_⟩
        rcases ho with ⟨rfl, rfl⟩ | ⟨z, w, rfl, rfl, rz⟩
        · exact k _ _ t1 _ _ ex (rd.ext ex) rh1
        · exact k _ _ t1 _ _ ex rz rh1
  · exact t.elim
/-- d.pop(k), there; keys ints, texts -/
@[reducible] def lPopD : LMR := fun x ys A Q => match ys with
  | [y] => match x with
    | .ref p => match A p with
      | some (.dK kvs) => orF (keyP y) fun k => orF (valP kvs k) fun z => Q z (aupd A p (.dK (dropP kvs k)))
      | _ => False
    | _ => False
  | _ => False
theorem lmt_popD : LMt X "dict.pop" lPopD := by
  intro pins s σ H x vs v us R I rx rv ⟨px, pxs, A, Q, rp, rps, rh, t, k⟩
  unfold lPopD at t
  split at t
  · split at t
    · rename_i p
      cases rp
      cases rx
      split at t
      · rename_i kvs e
        cases rps with
        | cons ry rr =>
          cases rr
          obtain ⟨kk, e1, t1⟩ := orF_some t
          obtain ⟨z, e2, t2⟩ := orF_some t1
          obtain ⟨H1, ks, I1, ex, rh1, q, r⟩ := norm_K I rh e
          have ez := keyP_rep ry e1
          subst ez
          obtain ⟨u, rfl, ru⟩ := vals1 rv
          rcases r.val kk with ⟨e3, _⟩ | ⟨z', w, e3, e4, rw'⟩
          · rw [e3] at e2; cases e2
          · rw [e3] at e2; cases e2
            have mu : Mut (H1 p) := by rw [q]; trivial
            exact d_pop I1 q ru e4 (.inl rfl) fun w' s' I' rr => ⟨w, _, I', rr, k _ _ t2 _ _ (ex.trans (.mut mu)) (rw'.ext (.mut mu)) (rh1.put mu (.inl ⟨_, upd_same, (r.drop kk).ext (.mut mu)⟩))⟩
      · exact t.elim
    · exact t.elim
  · exact t.elim
end
end Lf
namespace Lf
open PySem PySem.Spec L2
open PyProof.Rows hiding St

/-! ### enumerate of a tuple -/
def IteT (K : PySem.W.Frag) (a : Addr) : It :=
  ⟨fun i H => ∃ (xs : List V) (x : V), SqT K H a xs ∧ xs[i]? = some x, fun i H v H' => ∃ T x, v = .ref T ∧ H T = none ∧ H' = upd H T (.tup [.int (i : Nat), x]) ∧ ∀ xs, SqT K H a xs → xs[i]? = some x, fun i H => ∃ xs : List V, SqT K H a xs ∧ xs.length ≤ i⟩
theorem enum_tup_ne {h : Heap} {e it a : Addr} {k : Int} {old : Value} {its : Array Value} (he : IsEnum h e it k old) (p : IsTup h a its) : e ≠ a := fun z => by
  subst z
  obtain ⟨o, ho, hc, _⟩ := p
  have he' : h.get? e = some _ := he
  rw [he'] at ho
  cases ho
  exact absurd (show Value.type "enumerate" = Value.type "tuple" from hc) (by decide)
theorem enum_it_ne {h : Heap} {it a : Addr} {i : Nat} {its : Array Value} (he : h.IsTupleIter it a i) (p : IsTup h a its) : a ≠ it := fun z => by
  subst z
  obtain ⟨o, ho, hc, _⟩ := p
  obtain ⟨o2, ho2, hc2, _⟩ := he
  rw [ho] at ho2
  cases ho2
  rw [hc] at hc2
  exact absurd hc2 (by decide)
theorem turn_enumT {P : Program} {w : World} {K : PySem.W.Frag} {elts : List Expr} {kk : Nat} {tpos : Pos} (a e it : Addr) :
    Turn P w K (.Tuple elts kk tpos) (IteT K a) [e, it] e (fun i h => (∃ old, IsEnum h e it ((i : Nat) : Int) old) ∧ h.IsTupleIter it a i ∧ e ≠ it) where
  mem := by simp
  obj := fun i h st b hb => by
    obtain ⟨⟨old, he⟩, ⟨o, ho, hc, hd⟩, _⟩ := st
    have e' : b = e ∨ b = it := by simpa using hb
    rcases e' with z | z
    · rw [z]; exact ⟨_, he, fun v q => nomatch q⟩
    · rw [z]; exact ⟨o, ho, fun v q => by rw [hd] at q; cases q⟩
  keep := fun i h h' st k => let ⟨⟨old, he⟩, hi, hne⟩ := st; ⟨⟨old, k e (by simp) _ he⟩, hi.at fun o q => k it (by simp) o q, hne⟩
  item := by
    intro X hP hw hK hc i pins s σ H E I hf st hg
    subst hP hw hK
    obtain ⟨⟨old, he⟩, hit, hne⟩ := st
    obtain ⟨xs, x, hq, hx⟩ := hg
    obtain ⟨its, rv, p, hz⟩ := I.tuple hq
    obtain ⟨u, hu, ru⟩ := rv.get hx
    have hel : e < s.heap.objs.size := Heap.lt_size he
    have hil : it < s.heap.objs.size := by obtain ⟨_, q, _⟩ := hit; exact Heap.lt_size q
    have hta : e ≠ a := enum_tup_ne he p
    have hia : a ≠ it := enum_it_ne hit p
    have hlt : i < its.toArray.size := by
      rw [List.size_toArray]
      exact (List.getElem?_eq_some_iff.mp hu).1
    refine wpAny_pyNext_enum_itemD (PySem.Draws.tuple (A := X.A.in1) (I.ok.hd hc) it a hia its.toArray) he ⟨hit, show s.heap.IsTuple a its.toArray from p⟩ hlt hne (by simp [hne, hta]) fun x' h' tk hP ho hst' hT hsz hk => ?_
    have ex : x' = u := by
      have : its.toArray[i]? = some u := by simpa using hu
      rw [this] at hP; exact (Option.some.inj hP).symm
    subst ex
    refine ⟨_, rfl, wpAny_letOwnedTupleGo_enum (s := { s with heap := h', toks := tk + 1 }) ho fun h'' he' sb => ?_⟩
    have hT2 : h''.get? s.heap.objs.size = some { cls := .type "tuple", data := .seq #[.int i tk, x'] } := (sb.2 _ (Nat.ne_of_gt hel)).trans hT
    have new : ObjOk X.prog X.w (upd H s.heap.objs.size (.tup [.int (i : Nat), x])) h'' s.heap.objs.size (.tup [.int (i : Nat), x]) :=
      ⟨by show 2 ≤ sizeLine; decide, [.int i tk, x'], .cons ⟨_, rfl⟩ (.cons ru .nil), ⟨_, hT2, rfl, _, rfl⟩⟩
    have I1 : Inv X pins σ (upd H s.heap.objs.size (.tup [.int (i : Nat), x])) { s with heap := h'', toks := tk + 1 } :=
      I.turnedNew (ch := [e, it]) (fun b ob hb q => (sb.2 b (fun z => hb (by simp [z]))).trans (hk b ob (fun z => hb (by simp [z])) (fun z => hb (by simp [z])) q)) hf (Nat.le_refl _) new
    refine ⟨.ref s.heap.objs.size, _, I1, rfl, ⟨_, x, rfl, I.hok.fresh (Nat.le_refl _), rfl, fun ys hy => by rw [I.tuple_inj hy hq]; exact hx⟩, ⟨⟨x', ?_⟩, hst'.1.at fun o q => (sb.2 it (Ne.symm hne)).trans q, hne⟩, fun b hb => ?_⟩
    · have e1 : ((i + 1 : Nat) : Int) = (i : Int) + 1 := by omega
      rw [e1]; exact he'
    · have hb' : b < s.heap.objs.size := by
        have e' : b = e ∨ b = it := by simpa using hb
        rcases e' with z | z
        · rw [z]; exact hel
        · rw [z]; exact hil
      rw [upd_ne (Nat.ne_of_lt hb')]
      exact (hf b hb).1
  done := by
    intro X hP hw hK hc i pins s σ H E I hf st hg
    subst hP hw hK
    obtain ⟨⟨old, he⟩, hit, hne⟩ := st
    obtain ⟨xs, hq, hx⟩ := hg
    obtain ⟨its, rv, p, hz⟩ := I.tuple hq
    obtain ⟨f0, f1, f2, f3, f4, f5⟩ := hf it (by simp)
    have hl := rv.length
    have hia : a ≠ it := enum_it_ne hit p
    have hge : its.toArray.size ≤ i := by rw [List.size_toArray]; omega
    have hT : s.TypeIs (.ref e) "enumerate" := ⟨_, he, rfl⟩
    unfold pyNext
    refine wpAny_bind (wpAny_attempt (wpAny_callSpecial?_slot (name := Str.ofString "__next__") hT F.slot_enumerate_next
      (wpAny_call_entry F.slot_enumerate_next hT F.entry_enumerate_next ?_ (F.args_enumerate_next_1 _))))
    show wpAny _ _ (field (.ref e) 2 >>= _) _ _ _
    refine wpAny_bind (wpAny_field he rfl (x := .ref it) rfl ?_)
    refine wpAny_bind (PySem.wpAny_nextOf_tuple_end (A := X.A.in1) (I.ok.hd hc) hit (show s.heap.IsTuple a its.toArray from p) (by simp <;> omega) fun h' x he' hx' => ?_)
    obtain ⟨o, ho, hc'⟩ := hx'
    refine wpAny_bind (wpAny_isInstance (T := "StopIteration") (b := true) ⟨o, ho, hc'⟩ isSubtype_stop ?_)
    exact wpAny_pure ⟨rfl, I.turned (t' := s.toks) (fun b o hb q => he' b o hb q) f0 f1 f3 f4 f5⟩
  self := fun A i s Q E st h => let ⟨⟨_, he⟩, _⟩ := st; wpAny_pyIter_enum he h
set_option maxHeartbeats 1000000 in
theorem meets_enumerate_newT (a : Addr) (items : Array Value) :
    Meets (Builtin.«enumerate.__new__» ⟨[.type "enumerate", .ref a], []⟩) (fun _ R s => s.heap.IsTuple a items ∧
      R (.ok (.ret (.ref (s.heap.push { cls := .type "tuple_iterator", data := .fields #[.ref a, .int 0 0] }).objs.size)))
        { s with heap := (s.heap.push { cls := .type "tuple_iterator", data := .fields #[.ref a, .int 0 0] }).push { cls := .type "enumerate", data := .fields #[.none, .bool false, .ref s.heap.objs.size, rawInt 0, .none, .none] } }) :=
  .of_wp fun prog w A R s h => by
    obtain ⟨hp, g, d, tk, os⟩ := s; obtain ⟨h1, h⟩ := h
    have hsub := sub_enumerate
    have q1 : ∀ {A' : Around} {E : Value → Shared → Prop} {Q : Value → Shared → Prop}, Q (.ref hp.objs.size) ⟨hp.push { cls := .type "tuple_iterator", data := .fields #[.ref a, .int 0 0] }, g, d, tk, os⟩ → wpAny (model prog w) A' (pyIter (.ref a)) Q E ⟨hp, g, d, tk, os⟩ :=
      fun q => wpAny_pyIter_tuple h1 q
    wp_walk using q1
    refine wpAny_stack_any fun st => wpAny_pure ?_
    split
    · rename_i c _ _ _ _ _
      cases (c == Value.type "enumerate")
      · wp_walk using q1
        exact ⟨_, rfl, h⟩
      · wp_walk using q1
        exact ⟨_, rfl, h⟩
    · wp_walk using q1
      exact ⟨_, rfl, h⟩
section
variable {prog : Program} {w : World} {A : Around} {E : Value → Shared → Prop} {s : Shared}
theorem call_enumerate_tuple {a : Addr} {items : Array Value} {Q : Value → Shared → Prop} (ht : s.heap.IsTuple a items)
    (h : ∀ h', IsEnum h' (s.heap.objs.size + 1) s.heap.objs.size 0 .none → h'.IsTupleIter s.heap.objs.size a 0 → h'.objs.size = s.heap.objs.size + 2 →
      (∀ b o, s.heap.get? b = some o → h'.get? b = some o) → Q (.ref (s.heap.objs.size + 1)) { s with heap := h' }) :
    wpAny (model prog w) A (call (.type "enumerate") [.ref a]) Q E s := by
  refine callType_new F.called_enumerate (by decide) (F.typeCall_enumerate_1 _) (F.newCall_enumerate_1 _) (fun obj => F.args_object_init_2 obj _) F.entry_enumerate_new
    (meets_enumerate_newT a items) ⟨ht, ?_⟩
  have hz : (s.heap.push { cls := .type "tuple_iterator", data := .fields #[.ref a, .int 0 0] }).objs.size = s.heap.objs.size + 1 := Heap.size_push ..
  show _ ∧ _
  rw [hz]
  have he : IsEnum ((s.heap.push { cls := .type "tuple_iterator", data := .fields #[.ref a, .int 0 0] }).push
      { cls := .type "enumerate", data := .fields #[.none, .bool false, .ref s.heap.objs.size, rawInt 0, .none, .none] }) (s.heap.objs.size + 1) s.heap.objs.size 0 .none := by
    have := Heap.get?_push_size (s.heap.push { cls := .type "tuple_iterator", data := .fields #[.ref a, .int 0 0] })
      (o := { cls := .type "enumerate", data := .fields #[.none, .bool false, .ref s.heap.objs.size, rawInt 0, .none, .none] }) rfl
    rw [hz] at this; exact this
  refine ⟨⟨_, he, rfl⟩, h _ he ⟨_, Heap.get?_push_of_some _ (Heap.get?_push_size _ rfl), rfl, rfl⟩ (by rw [Heap.size_push, hz]) fun b o x => Heap.get?_push_of_some _ (Heap.get?_push_of_some _ x)⟩
end

/-! ### what a loop walks: the items, and what must stay -/
abbrev LI := LSt → AH → (List PV → (AH → Prop) → AH → Prop) → Prop
structure IterRep (K : PySem.W.Frag) (items : List PV) (St : AH → Prop) (H1 : Hp) (J : It) : Prop where
  go : ∀ i H' A', i < items.length → Ext K H1 H' → RepH K H' A' → St A' → J.go i H'
  yld : ∀ i H' A' x H'', i < items.length → Ext K H1 H' → RepH K H' A' → St A' → J.yld i H' x H'' → Ext K H' H'' ∧ RepH K H'' A' ∧ (∀ a, H' a ≠ none → H'' a = H' a) ∧ ∃ p, items[i]? = some p ∧ RepV K H'' p x
  stop : ∀ H' A', Ext K H1 H' → RepH K H' A' → St A' → J.stop items.length H'
def cI (K : PySem.W.Frag) (t : LI) : TI := fun σ H R => ∃ (s : LSt) (A : AH) (Q : List PV → (AH → Prop) → AH → Prop), RepS K H s σ ∧ RepH K H A ∧ t s A Q ∧
  ∀ items St A1, Q items St A1 → ∀ J H1, Ext K H H1 → RepH K H1 A1 → IterRep K items St H1 J → R J H1
abbrev JI (X : Cx) (tg iter : Expr) (t : LI) : Prop := PI X tg iter (cI X.K t)
section
variable {K : PySem.W.Frag} {H : Hp} {A : AH}
theorem iterTup {xs : List PV} {vs : List V} {k : TK} {a : Addr} (hs : TupAt K H k a vs) (r : RepVs K H xs vs) : IterRep K xs (fun _ => True) H (Itt K a) where
  go := fun i H' A' hi e _ _ => ⟨vs, vs[i]'(by rw [← r.length]; exact hi), (e.tk hs).sq, by simp⟩
  yld := fun i H' A' x H'' hi e rh _ ⟨e1, hy⟩ => by
    subst e1
    have hx := hy vs (e.tk hs).sq
    obtain ⟨v, h1, h2⟩ := r.get (i := i) (x := xs[i]) (by simp [hi])
    rw [hx] at h1
    cases h1
    exact ⟨.refl _ _, rh, fun _ _ => rfl, xs[i], by simp [hi], h2.ext e⟩
  stop := fun H' A' e _ _ => ⟨vs, (e.tk hs).sq, by rw [r.length]; exact Nat.le_refl _⟩
theorem iterFro {xs : List PV} {vs : List V} {a : Addr} (hs : SqF K H a vs) (r : RepVs K H xs vs) : IterRep K xs (fun _ => True) H (Itl K a) where
  go := fun i H' A' hi e _ _ => ⟨vs, vs[i]'(by rw [← r.length]; exact hi), (e.f hs).seq, by simp⟩
  yld := fun i H' A' x H'' hi e rh _ ⟨e1, hy⟩ => by
    subst e1
    have hx := hy vs (e.f hs).seq
    obtain ⟨v, h1, h2⟩ := r.get (i := i) (x := xs[i]) (by simp [hi])
    rw [hx] at h1
    cases h1
    exact ⟨.refl _ _, rh, fun _ _ => rfl, xs[i], by simp [hi], h2.ext e⟩
  stop := fun H' A' e _ _ => ⟨vs, (e.f hs).seq, by rw [r.length]; exact Nat.le_refl _⟩
theorem iterLst {xs : List PV} {a : Addr} : IterRep K xs (fun A' => A' a = some (.lst xs)) H (Itl K a) where
  go := fun i H' A' hi e rh st => by
    obtain ⟨vs, h1, r⟩ := rh a _ st
    exact ⟨vs, vs[i]'(by rw [← r.length]; exact hi), .of h1, by simp⟩
  yld := fun i H' A' x H'' hi e rh st ⟨e1, hy⟩ => by
    subst e1
    obtain ⟨vs, h0, r⟩ := rh a _ st
    have hx := hy vs (.of h0)
    obtain ⟨v, h1, h2⟩ := r.get (i := i) (x := xs[i]) (by simp [hi])
    rw [hx] at h1
    cases h1
    exact ⟨.refl _ _, rh, fun _ _ => rfl, xs[i], by simp [hi], h2⟩
  stop := fun H' A' e rh st => by
    obtain ⟨vs, h0, r⟩ := rh a _ st
    exact ⟨vs, .of h0, by rw [r.length]; exact Nat.le_refl _⟩
/-- lo, lo + 1, .. -/
def rangeP (lo : Int) (n : Nat) : List PV := (List.range n).map fun i => .int (lo + (i : Nat))
theorem rangeP_len (lo : Int) (n : Nat) : (rangeP lo n).length = n := by simp [rangeP]
theorem rangeP_get {lo : Int} {n i : Nat} (h : i < n) : (rangeP lo n)[i]? = some (.int (lo + (i : Nat))) := by simp [rangeP, h]
theorem iterRange {lo : Int} {n : Nat} : IterRep K (rangeP lo n) (fun _ => True) H (Itr lo n) where
  go := fun i H' A' hi e rh st => by rw [rangeP_len] at hi; exact hi
  yld := fun i H' A' x H'' hi e rh st ⟨e1, hy⟩ => by
    subst e1
    rw [rangeP_len] at hi
    rw [hy]
    exact ⟨.refl _ _, rh, fun _ _ => rfl, _, rangeP_get hi, .int _⟩
  stop := fun H' A' e rh st => by rw [rangeP_len]; exact Nat.le_refl _
/-- lo, lo + c, .. -/
def rangeC (lo c : Int) (n : Nat) : List PV := (List.range n).map fun i => .int (lo + (i : Nat) * c)
theorem iterRangeC {lo c : Int} {n : Nat} : IterRep K (rangeC lo c n) (fun _ => True) H (Itc lo c n) where
  go := fun i H' A' hi e rh st => by simp only [rangeC, List.length_map, List.length_range] at hi; exact hi
  yld := fun i H' A' x H'' hi e rh st ⟨e1, hy⟩ => by
    subst e1
    simp only [rangeC, List.length_map, List.length_range] at hi
    rw [hy]
    exact ⟨.refl _ _, rh, fun _ _ => rfl, .int (lo + (i : Nat) * c), by simp [rangeC, hi], .int _⟩
  stop := fun H' A' e rh st => by simp only [rangeC, List.length_map, List.length_range]; exact Nat.le_refl _
/-- pairs (i, x) -/
def enumP (xs : List PV) : List PV := (List.range xs.length).zipWith (fun i x => .tup .own [.int (i : Nat), x]) xs
theorem enumP_len (xs : List PV) : (enumP xs).length = xs.length := by simp [enumP]
theorem enumP_get {xs : List PV} {i : Nat} (h : i < xs.length) : (enumP xs)[i]? = some (.tup .own [.int (i : Nat), xs[i]]) := by
  simp [enumP, List.getElem?_zipWith, h]
theorem iterEnumL {xs : List PV} {a : Addr} : IterRep K (enumP xs) (fun A' => A' a = some (.lst xs)) H (Ite K a) where
  go := fun i H' A' hi e rh st => by
    rw [enumP_len] at hi
    obtain ⟨vs, h1, r⟩ := rh a _ st
    exact ⟨vs, vs[i]'(by rw [← r.length]; exact hi), .of h1, by simp⟩
  yld := fun i H' A' x H'' hi e rh st ⟨T, y, e1, hT, e2, hy⟩ => by
    rw [enumP_len] at hi
    subst e1 e2
    obtain ⟨vs, h0, r⟩ := rh a _ st
    have hx := hy vs (.of h0)
    obtain ⟨v, h1, h2⟩ := r.get (i := i) (x := xs[i]) (by simp [hi])
    rw [hx] at h1
    cases h1
    exact ⟨.new hT, rh.newT hT, fun b hb => upd_ne fun z => by subst z; exact hb hT, _, enumP_get hi, newTup (.cons (.int _) (.cons h2 .nil)) hT⟩
  stop := fun H' A' e rh st => by
    rw [enumP_len]
    obtain ⟨vs, h0, r⟩ := rh a _ st
    exact ⟨vs, .of h0, by rw [r.length]; exact Nat.le_refl _⟩
theorem iterEnumT {xs : List PV} {vs : List V} {k : TK} {a : Addr} (hs : TupAt K H k a vs) (r : RepVs K H xs vs) : IterRep K (enumP xs) (fun _ => True) H (IteT K a) where
  go := fun i H' A' hi e _ _ => by
    rw [enumP_len] at hi
    exact ⟨vs, vs[i]'(by rw [← r.length]; exact hi), (e.tk hs).sq, by simp⟩
  yld := fun i H' A' x H'' hi e rh _ ⟨T, y, e1, hT, e2, hy⟩ => by
    rw [enumP_len] at hi
    subst e1 e2
    have hx := hy vs (e.tk hs).sq
    obtain ⟨v, h1, h2⟩ := r.get (i := i) (x := xs[i]) (by simp [hi])
    rw [hx] at h1
    cases h1
    exact ⟨.new hT, rh.newT hT, fun b hb => upd_ne fun z => by subst z; exact hb hT, _, enumP_get hi, newTup (.cons (.int _) (.cons (h2.ext e) .nil)) hT⟩
  stop := fun H' A' e _ _ => by
    rw [enumP_len]
    exact ⟨vs, (e.tk hs).sq, by rw [r.length]; exact Nat.le_refl _⟩
/-- pairs of the items of two -/
def zipP (xs ys : List PV) : List PV := xs.zipWith (fun x y => .tup .own [x, y]) ys
theorem zipP_len (xs ys : List PV) : (zipP xs ys).length = min xs.length ys.length := by simp [zipP]
theorem zipP_get {xs ys : List PV} {i : Nat} (h : i < xs.length) (g : i < ys.length) : (zipP xs ys)[i]? = some (.tup .own [xs[i], ys[i]]) := by
  simp [zipP, List.getElem?_zipWith, h, g]
theorem iterZipL {xs ys : List PV} {a b : Addr} : IterRep K (zipP xs ys) (fun A' => A' a = some (.lst xs) ∧ A' b = some (.lst ys)) H (Itz K a b) where
  go := fun i H' A' hi e rh st => by
    rw [zipP_len] at hi
    obtain ⟨vs, h1, r⟩ := rh a _ st.1
    obtain ⟨ws, h2, q⟩ := rh b _ st.2
    exact ⟨vs, ws, vs[i]'(by rw [← r.length]; omega), ws[i]'(by rw [← q.length]; omega), .of h1, .of h2, by simp, by simp⟩
  yld := fun i H' A' x H'' hi e rh st ⟨T, u, v, e1, hT, e2, hy, hz⟩ => by
    rw [zipP_len] at hi
    subst e1 e2
    obtain ⟨vs, h1, r⟩ := rh a _ st.1
    obtain ⟨ws, h2, q⟩ := rh b _ st.2
    have hx := hy vs (.of h1)
    have hx2 := hz ws (.of h2)
    obtain ⟨v1, g1, g2⟩ := r.get (i := i) (x := xs[i]) (by simp <;> omega)
    obtain ⟨v2, g3, g4⟩ := q.get (i := i) (x := ys[i]) (by simp <;> omega)
    rw [hx] at g1
    cases g1
    rw [hx2] at g3
    cases g3
    exact ⟨.new hT, rh.newT hT, fun c hb => upd_ne fun z => by subst z; exact hb hT, _, zipP_get (by omega) (by omega), newTup (.cons g2 (.cons g4 .nil)) hT⟩
  stop := fun H' A' e rh st => by
    rw [zipP_len]
    obtain ⟨vs, h1, r⟩ := rh a _ st.1
    obtain ⟨ws, h2, q⟩ := rh b _ st.2
    exact ⟨vs, ws, .of h1, .of h2, by rw [r.length, q.length]; omega⟩
theorem iterZipT {xs ys : List PV} {vs ws : List V} {k l : TK} {a b : Addr} (hs : TupAt K H k a vs) (r : RepVs K H xs vs) (gs : TupAt K H l b ws) (q : RepVs K H ys ws) : IterRep K (zipP xs ys) (fun _ => True) H (RZ.ItzT K a b) where
  go := fun i H' A' hi e rh st => by
    rw [zipP_len] at hi
    exact ⟨vs, ws, vs[i]'(by rw [← r.length]; omega), ws[i]'(by rw [← q.length]; omega), (e.tk hs).sq, (e.tk gs).sq, by simp, by simp⟩
  yld := fun i H' A' x H'' hi e rh st ⟨T, u, v, e1, hT, e2, hy, hz⟩ => by
    rw [zipP_len] at hi
    subst e1 e2
    have hx := hy vs (e.tk hs).sq
    have hx2 := hz ws (e.tk gs).sq
    obtain ⟨v1, g1, g2⟩ := r.get (i := i) (x := xs[i]) (by simp <;> omega)
    obtain ⟨v2, g3, g4⟩ := q.get (i := i) (x := ys[i]) (by simp <;> omega)
    rw [hx] at g1
    cases g1
    rw [hx2] at g3
    cases g3
    exact ⟨.new hT, rh.newT hT, fun c hb => upd_ne fun z => by subst z; exact hb hT, _, zipP_get (by omega) (by omega), newTup (.cons (g2.ext e) (.cons (g4.ext e) .nil)) hT⟩
  stop := fun H' A' e rh st => by
    rw [zipP_len]
    exact ⟨vs, ws, (e.tk hs).sq, (e.tk gs).sq, by rw [r.length, q.length]; omega⟩
theorem iterRevL {xs : List PV} {a : Addr} : IterRep K xs.reverse (fun A' => A' a = some (.lst xs)) H (Itv K a xs.length) where
  go := fun i H' A' hi e rh st => by
    rw [List.length_reverse] at hi
    obtain ⟨vs, h1, r⟩ := rh a _ st
    exact ⟨hi, vs, vs[xs.length - 1 - i]'(by rw [← r.length]; omega), .of h1, by simp⟩
  yld := fun i H' A' x H'' hi e rh st ⟨e1, hy⟩ => by
    rw [List.length_reverse] at hi
    subst e1
    obtain ⟨vs, h0, r⟩ := rh a _ st
    have hx := hy vs (.of h0)
    obtain ⟨v, h1, h2⟩ := r.get (i := xs.length - 1 - i) (x := xs[xs.length - 1 - i]) (by simp <;> omega)
    rw [hx] at h1
    cases h1
    exact ⟨.refl _ _, rh, fun _ _ => rfl, xs[xs.length - 1 - i], by rw [List.getElem?_reverse hi]; simp, h2⟩
  stop := fun H' A' e rh st => by rw [List.length_reverse]; exact Nat.le_refl _
end
end Lf
namespace Lf
open PySem PySem.Spec L2
open PyProof.Rows hiding St

section
variable {X : Cx} {tg e : Expr} {te : LE}
theorem _root_.L2.PI.imp {X : Cx} {tg iter : Expr} {t t' : TI} (h : PI X tg iter t) (q : ∀ σ H R, t' σ H R → t σ H R) : PI X tg iter t' := ⟨fun pins s σ H R I z => h.run pins s σ H R I (q _ _ _ z)⟩
/-- what a value is walked as -/
@[reducible] def itK (x : PV) (A : AH) (Q : List PV → (AH → Prop) → AH → Prop) : Prop := match x with
  | .tup _ xs => Q xs (fun _ => True) A
  | .fro xs => Q xs (fun _ => True) A
  | .ref p => match A p with
    | some (.lst xs) => Q xs (fun A' => A' p = some (.lst xs)) A
    | _ => False
  | _ => False
@[reducible] def lIter (te : LE) : LI := fun s A Q => te s A fun x A1 => itK x A1 Q
theorem ji_any (he : JE X e te) : JI X tg e (lIter te) := by
  refine ⟨fun pins s σ H R I ⟨s0, A, Q, rs, rh, t, k⟩ => ?_⟩
  refine thn (he.run pins s σ H (fun v H1 => ∃ x A1, Ext X.K H H1 ∧ RepV X.K H1 x v ∧ RepH X.K H1 A1 ∧ itK x A1 Q) I ⟨s0, A, _, rs, rh, t, fun x A1 t1 v1 H1 e1 r1 rh1 => ⟨x, A1, e1, r1, rh1, t1⟩⟩) fun v s1 ⟨v', H1, I1, rv, x, A1, e1, r1, rh1, t1⟩ => ?_
  have goT : ∀ {a : Addr} {vs : List V}, SqT X.K H1 a vs → R (Itt X.K a) H1 → wpAny (model X.prog X.w) X.A (pyIter (.ref a)) (PIE X pins σ tg R) X.xe s1 := by
    intro a vs hq q
    obtain ⟨its, rv, p, hz⟩ := I1.tuple hq
    refine wpAny_pyIter_tuple (show s1.heap.IsTuple a its.toArray from p) ?_
    refine ⟨s1.heap.objs.size, [s1.heap.objs.size], _, _, H1, rfl, I1.kept (t' := s1.toks) fun b o e => Heap.get?_push_of_some _ e, turn_tuple a _, ⟨_, Heap.get?_push_size _ rfl, rfl, rfl⟩, fun b hb => ?_, q⟩
    have e : b = s1.heap.objs.size := by simpa using hb
    subst e
    exact I1.fpOk (Nat.le_refl _) (I1.hok.fresh (Nat.le_refl _))
  have goL : ∀ {a : Addr} {vs : List V}, SqL X.K H1 a vs → R (Itl X.K a) H1 → wpAny (model X.prog X.w) X.A (pyIter (.ref a)) (PIE X pins σ tg R) X.xe s1 := by
    intro a vs hq q
    obtain ⟨its, rv, p, hz⟩ := I1.list hq
    refine wpAny_pyIter_list p.isList ?_
    refine ⟨s1.heap.objs.size, [s1.heap.objs.size], _, _, H1, rfl, I1.kept (t' := s1.toks) fun b o e => Heap.get?_push_of_some _ e, turn_list a _, ⟨_, Heap.get?_push_size _ rfl, rfl, rfl⟩, fun b hb => ?_, q⟩
    have e : b = s1.heap.objs.size := by simpa using hb
    subst e
    exact I1.fpOk (Nat.le_refl _) (I1.hok.fresh (Nat.le_refl _))
  unfold itK at t1
  cases r1 with
  | tup hs r =>
    cases rv
    exact goT hs.sq (k _ _ _ t1 _ _ e1 rh1 (iterTup hs r))
  | fro hs r =>
    cases rv
    exact goL hs.seq (k _ _ _ t1 _ _ e1 rh1 (iterFro hs r))
  | ref p =>
    cases rv
    dsimp only at t1
    split at t1
    · rename_i xs ea
      obtain ⟨vs, h1, r⟩ := rh1 p _ ea
      exact goL (.of h1) (k _ _ _ t1 _ _ e1 rh1 iterLst)
    · exact t1.elim
  | _ => exact (show False from t1).elim
variable {ta : LA} {p pos tpos : Pos} {elts : List Expr} {kk : Nat} {a b c : Expr}
@[reducible] def lRng1 (ta : LA) : LI := fun s A Q => ta s A fun vs A1 => match vs with
  | [.int j] => (-(2 ^ 62) ≤ j ∧ j < 2 ^ 62) ∧ Q (rangeP 0 j.toNat) (fun _ => True) A1
  | _ => False
theorem ji_range1 (hg : Gl X "range") (hm : X.mg "range" = none) (ha : JA X [a] ta) (hs : starEach [a] X.env = [(false, eval a X.env)]) : JI X tg (.Call (.Name "range" p) [a] [] pos) (lRng1 ta) :=
  (pi_range1 hg hm ha hs).imp fun σ H R ⟨s, A, Q, rs, rh, t, k⟩ => ⟨s, A, _, rs, rh, t, fun xs A1 t1 vs H1 e1 r1 rh1 => by
    split at t1
    · rename_i j
      cases r1 with
      | cons r rr =>
        cases rr; cases r
        exact ⟨j, rfl, t1.1.1, t1.1.2, k _ _ _ t1.2 _ _ e1 rh1 iterRange⟩
    · exact t1.elim⟩
@[reducible] def lRng2 (ta : LA) : LI := fun s A Q => ta s A fun vs A1 => match vs with
  | [.int i, .int j] => (-(2 ^ 62) ≤ i ∧ i < 2 ^ 62 ∧ -(2 ^ 62) ≤ j ∧ j < 2 ^ 62) ∧ Q (rangeP i (j - i).toNat) (fun _ => True) A1
  | _ => False
theorem ji_range2 (hg : Gl X "range") (hm : X.mg "range" = none) (ha : JA X [a, b] ta) (hs : starEach [a, b] X.env = [(false, eval a X.env), (false, eval b X.env)]) (hs2 : starEach [b] X.env = [(false, eval b X.env)]) : JI X tg (.Call (.Name "range" p) [a, b] [] pos) (lRng2 ta) :=
  (pi_range2 hg hm ha hs hs2).imp fun σ H R ⟨s, A, Q, rs, rh, t, k⟩ => ⟨s, A, _, rs, rh, t, fun xs A1 t1 vs H1 e1 r1 rh1 => by
    split at t1
    · rename_i i j
      cases r1 with
      | cons r rr =>
        cases rr with
        | cons r' rr =>
          cases rr; cases r; cases r'
          exact ⟨i, j, rfl, t1.1, k _ _ _ t1.2 _ _ e1 rh1 iterRange⟩
    · exact t1.elim⟩
/-- downward by one -/
@[reducible] def lRng3 (ta : LA) : LI := fun s A Q => ta s A fun vs A1 => match vs with
  | [.int i, .int j, .int c] => c = -1 ∧ (-(2 ^ 62) ≤ i ∧ i < 2 ^ 62 ∧ -(2 ^ 62) ≤ j ∧ j < 2 ^ 62) ∧ Q (rangeC i (-1) (i - j).toNat) (fun _ => True) A1
  | _ => False
theorem ji_range3 (hg : Gl X "range") (hm : X.mg "range" = none) (ha : JA X [a, b, c] ta) (h : PI X tg (.Call (.Name "range" p) [a, b, c] [] pos) (iRng3 (cA X.K ta))) : JI X tg (.Call (.Name "range" p) [a, b, c] [] pos) (lRng3 ta) :=
  h.imp fun σ H R ⟨s, A, Q, rs, rh, t, k⟩ => ⟨s, A, _, rs, rh, t, fun xs A1 t1 vs H1 e1 r1 rh1 => by
    split at t1
    · rename_i i j c
      cases r1 with
      | cons r rr =>
        cases rr with
        | cons r' rr =>
          cases rr with
          | cons r'' rr =>
            cases rr; cases r; cases r'; cases r''
            obtain ⟨rfl, ⟨b1, b2, b3, b4⟩, t2⟩ := t1
            exact ⟨i, j, -1, _, rfl, RgC.neg b1 b2 b3 b4, k _ _ _ t2 _ _ e1 rh1 iterRangeC⟩
    · exact t1.elim⟩
/-- enumerate -/
@[reducible] def enK (x : PV) (A : AH) (Q : List PV → (AH → Prop) → AH → Prop) : Prop := match x with
  | .tup _ xs => Q (enumP xs) (fun _ => True) A
  | .ref p => match A p with
    | some (.lst xs) => Q (enumP xs) (fun A' => A' p = some (.lst xs)) A
    | _ => False
  | _ => False
@[reducible] def lEnum (ta : LA) : LI := fun s A Q => ta s A fun vs A1 => match vs with
  | [x] => enK x A1 Q
  | _ => False
theorem ji_enum (hg : Gl X "enumerate") (hm : X.mg "enumerate" = none) (ha : JA X [e] ta) (hs : starEach [e] X.env = [(false, eval e X.env)]) : JI X (.Tuple elts kk tpos) (.Call (.Name "enumerate" p) [e] [] pos) (lEnum ta) := by
  refine ⟨fun pins s σ H R I ⟨s0, A, Q, rs, rh, t, k⟩ => ?_⟩
  refine Call_ (ld_blt I hg hm boot_enumerate (PyProof.Rows.callWith_type1 (thn (ha.run pos pins s σ H (fun vs H1 => ∃ xs A1, Ext X.K H H1 ∧ RepVs X.K H1 xs vs ∧ RepH X.K H1 A1 ∧ match xs with
    | [x] => enK x A1 Q
    | _ => False) I ⟨s0, A, _, rs, rh, t, fun xs A1 t1 vs H1 e1 r1 rh1 => ⟨xs, A1, e1, r1, rh1, t1⟩⟩) fun us s1 ⟨vs, H1, I1, rr1, xs, A1, e1, r1, rh1, t1⟩ => ?_) hs rfl))
  have fp2 : ∀ b, b ∈ [s1.heap.objs.size + 1, s1.heap.objs.size] → FpOk X pins H1 b := fun b hb => by
    have e' : b = s1.heap.objs.size + 1 ∨ b = s1.heap.objs.size := by simpa using hb
    have hle : s1.heap.objs.size ≤ b := by
      rcases e' with z | z
      · rw [z]; exact Nat.le_add_right _ _
      · rw [z]; exact Nat.le_refl _
    exact I1.fpOk hle (I1.hok.fresh hle)
  split at t1
  · rename_i x
    cases r1 with
    | cons r rr =>
      cases rr
      obtain ⟨u, rfl, ru⟩ := vals1 rr1
      unfold enK at t1
      cases r with
      | tup hs' q =>
        cases ru
        obtain ⟨its, rv, p', hz⟩ := I1.tuple hs'.sq
        refine call_enumerate_tuple (show s1.heap.IsTuple _ its.toArray from p') fun h' he hit hsz hk => wpAny_pyIter_enum he ?_
        have I2 : Inv X pins σ H1 { s1 with heap := h' } := I1.kept (t' := s1.toks) hk
        exact ⟨s1.heap.objs.size + 1, [s1.heap.objs.size + 1, s1.heap.objs.size], _, _, H1, rfl, I2, turn_enumT _ (s1.heap.objs.size + 1) s1.heap.objs.size, ⟨⟨.none, he⟩, hit, Nat.succ_ne_self _⟩, fp2, k _ _ _ t1 _ _ e1 rh1 (iterEnumT hs' q)⟩
      | ref a =>
        cases ru
        dsimp only at t1
        split at t1
        · rename_i ys ea
          obtain ⟨ws, h1, q⟩ := rh1 a _ ea
          obtain ⟨its, rv, p', hz⟩ := I1.list (.of h1)
          refine call_enumerate_list p'.isList fun h' he hit hsz hk => wpAny_pyIter_enum he ?_
          have I2 : Inv X pins σ H1 { s1 with heap := h' } := I1.kept (t' := s1.toks) hk
          exact ⟨s1.heap.objs.size + 1, [s1.heap.objs.size + 1, s1.heap.objs.size], _, _, H1, rfl, I2, turn_enum _ (s1.heap.objs.size + 1) s1.heap.objs.size, ⟨⟨.none, he⟩, hit, Nat.succ_ne_self _⟩, fp2, k _ _ _ t1 _ _ e1 rh1 iterEnumL⟩
        · exact t1.elim
      | _ => exact (show False from t1).elim
  · exact t1.elim
/-- zip of two of a kind -/
@[reducible] def zipK (x y : PV) (A : AH) (Q : List PV → (AH → Prop) → AH → Prop) : Prop := match x, y with
  | .tup _ xs, .tup _ ys => Q (zipP xs ys) (fun _ => True) A
  | .ref p, .ref q => match A p, A q with
    | some (.lst xs), some (.lst ys) => Q (zipP xs ys) (fun A' => A' p = some (.lst xs) ∧ A' q = some (.lst ys)) A
    | _, _ => False
  | _, _ => False
@[reducible] def lZip (ta : LA) : LI := fun s A Q => ta s A fun vs A1 => match vs with
  | [x, y] => zipK x y A1 Q
  | _ => False
theorem ji_zip (hg : Gl X "zip") (hm : X.mg "zip" = none) (ha : JA X [a, b] ta) (hs : starEach [a, b] X.env = (false, eval a X.env) :: starEach [b] X.env) (hpl : (backTo pos (starEach [b] X.env)).any (·.1) = false) : JI X (.Tuple elts kk tpos) (.Call (.Name "zip" p) [a, b] [] pos) (lZip ta) :=
  (RZ.pi_zipA hg hm ha hs hpl).imp fun σ H R ⟨s, A, Q, rs, rh, t, k⟩ => ⟨s, A, _, rs, rh, t, fun xs A1 t1 vs H1 e1 r1 rh1 => by
    split at t1
    · cases r1 with
      | cons r rr =>
        cases rr with
        | cons r' rr =>
          cases rr
          unfold zipK at t1
          cases r with
          | tup hs q =>
            cases r' with
            | tup hs' q' => exact ⟨_, _, _, _, rfl, .inr ⟨hs.sq, hs'.sq, k _ _ _ t1 _ _ e1 rh1 (iterZipT hs q hs' q')⟩⟩
            | _ => exact (show False from t1).elim
          | ref a =>
            cases r' with
            | ref b =>
              dsimp only at t1
              split at t1
              · rename_i xs ys ea eb
                obtain ⟨ws, h1, q⟩ := rh1 a _ ea
                obtain ⟨ws2, h2, q2⟩ := rh1 b _ eb
                exact ⟨_, _, _, _, rfl, .inl ⟨.of h1, .of h2, k _ _ _ t1 _ _ e1 rh1 iterZipL⟩⟩
              · exact t1.elim
            | _ => exact (show False from t1).elim
          | _ => cases r' <;> exact (show False from t1).elim
    · exact t1.elim⟩
/-- reversed of a list -/
@[reducible] def lRev (ta : LA) : LI := fun s A Q => ta s A fun vs A1 => match vs with
  | [.ref p] => match A1 p with
    | some (.lst xs) => Q xs.reverse (fun A' => A' p = some (.lst xs)) A1
    | _ => False
  | _ => False
theorem ji_rev (hg : Gl X "reversed") (hm : X.mg "reversed" = none) (ha : JA X [e] ta) (hs : starEach [e] X.env = [(false, eval e X.env)]) : JI X tg (.Call (.Name "reversed" p) [e] [] pos) (lRev ta) :=
  (pi_reversed hg hm ha hs).imp fun σ H R ⟨s, A, Q, rs, rh, t, k⟩ => ⟨s, A, _, rs, rh, t, fun xs A1 t1 vs H1 e1 r1 rh1 => by
    split at t1
    · rename_i a
      cases r1 with
      | cons r rr =>
        cases rr; cases r
        split at t1
        · rename_i xs ea
          obtain ⟨ws, h1, q⟩ := rh1 a _ ea
          exact ⟨a, ws, rfl, .of h1, by rw [← q.length]; exact k _ _ _ t1 _ _ e1 rh1 iterRevL⟩
        · exact t1.elim
    · exact t1.elim⟩

/-! ### targets -/
abbrev LG := PV → LSt → AH → (LSt → AH → Prop) → Prop
def cG (K : PySem.W.Frag) (g : LG) : TG := fun v σ H R => ∃ (x : PV) (s : LSt) (A : AH) (Q : LSt → AH → Prop), RepV K H x v ∧ RepS K H s σ ∧ RepH K H A ∧ g x s A Q ∧ ∀ s' A', Q s' A' → ∀ σ' H', Ext K H H' → RepS K H' s' σ' → RepH K H' A' → R σ' H'
abbrev JG (X : Cx) (tg : Expr) (g : LG) : Prop := PG X tg (cG X.K g)
theorem _root_.L2.PG.imp {X : Cx} {tg : Expr} {t t' : TG} (h : PG X tg t) (q : ∀ v σ H R, t' v σ H R → t v σ H R) : PG X tg t' := ⟨fun pins s σ H v u Q I r z => h.run pins s σ H v u Q I r (q _ _ _ _ z)⟩
/-- names and tuples of them -/
inductive Tgt where
  | name (i : Nat)
  | tup (ts : List Tgt)
mutual
def lgT : Tgt → LG
  | .name i => fun x s A Q => Q (sset s i x) A
  | .tup ts => fun x s A Q => match x with
    | .tup _ xs => lgTs ts xs s A Q
    | _ => False
def lgTs : List Tgt → List PV → LSt → AH → (LSt → AH → Prop) → Prop
  | [], xs, s, A, Q => xs = [] ∧ Q s A
  | t :: ts, xs, s, A, Q => match xs with
    | x :: r => lgT t x s A fun s1 A1 => lgTs ts r s1 A1 Q
    | [] => False
end
mutual
def hgT (K : PySem.W.Frag) : Tgt → TG
  | .name i => gName i
  | .tup ts => gTup K ts.length (hgTs K ts)
def hgTs (K : PySem.W.Frag) : List Tgt → TGs
  | [] => gNil
  | t :: ts => gCons (hgT K t) (hgTs K ts)
end
mutual
def slotsT : Tgt → List Nat
  | .name i => [i]
  | .tup ts => slotsTs ts
def slotsTs : List Tgt → List Nat
  | [] => []
  | t :: ts => slotsT t ++ slotsTs ts
end
theorem wipe_set {σ : St} {i : Nat} {v : Option V} : ∀ {vs : List Nat}, i ∈ vs → wipe (σ.set i v) vs = wipe σ vs := by
  intro vs hi
  apply List.ext_getElem?
  intro j
  by_cases hj : j ∈ vs
  · have h1 : ∀ τ : St, (wipe τ vs)[j]? = if j < τ.length then some none else none := by
      intro τ
      clear hi
      induction vs generalizing τ with
      | nil => exact nomatch hj
      | cons k r ih =>
        show ((wipe τ r).set k none)[j]? = _
        by_cases hk : k = j
        · subst hk
          rw [List.getElem?_set, wipe_length]
          simp
        · rw [List.getElem?_set_ne hk]
          refine ih ?_ τ
          rcases List.mem_cons.mp hj with e | e
          · exact absurd e.symm hk
          · exact e
    rw [h1, h1]
    simp
  · have hij : i ≠ j := fun z => by subst z; exact hj hi
    rw [wipe_out hj, wipe_out hj, List.getElem?_set_ne hij]
mutual
theorem hgT_of {K : PySem.W.Frag} {vs : List Nat} : ∀ (t : Tgt) {x : PV} {v : V} {s : LSt} {σ : St} {H : Hp} {A : AH} {Q : LSt → AH → Prop} {R : St → Hp → Prop}, (∀ i ∈ slotsT t, i ∈ vs) → RepV K H x v → RepS K H s σ → RepH K H A → lgT t x s A Q →
    (∀ s' A' σ', Q s' A' → RepS K H s' σ' → RepH K H A' → wipe σ' vs = wipe σ vs → R σ' H) → hgT K t v σ H R
  | .name i, x, v, s, σ, H, A, Q, R, hv, rx, rs, rh, h, k => by
    have h' : Q (sset s i x) A := by simpa only [lgT] using h
    show gName i v σ H R
    exact k _ _ _ h' (rs.set i rx) rh (wipe_set (hv i (by simp [slotsT])))
  | .tup ts, x, v, s, σ, H, A, Q, R, hv, rx, rs, rh, h, k => by
    rw [lgT] at h
    cases rx with
    | tup hs r =>
      have hl := hgTs_len ts h
      rw [hgT]
      exact ⟨_, _, rfl, hs.sq, by rw [← r.length, hl], hgTs_of ts (fun i hi => hv i (by rw [slotsT]; exact hi)) r rs rh h k⟩
    | _ => exact h.elim
theorem hgTs_of {K : PySem.W.Frag} {vs : List Nat} : ∀ (ts : List Tgt) {xs : List PV} {ws : List V} {s : LSt} {σ : St} {H : Hp} {A : AH} {Q : LSt → AH → Prop} {R : St → Hp → Prop}, (∀ i ∈ slotsTs ts, i ∈ vs) → RepVs K H xs ws → RepS K H s σ → RepH K H A → lgTs ts xs s A Q →
    (∀ s' A' σ', Q s' A' → RepS K H s' σ' → RepH K H A' → wipe σ' vs = wipe σ vs → R σ' H) → hgTs K ts ws σ H R
  | [], xs, ws, s, σ, H, A, Q, R, hv, rx, rs, rh, h, k => by
    rw [lgTs] at h
    obtain ⟨rfl, h⟩ := h
    cases rx
    rw [hgTs]
    exact ⟨rfl, k _ _ _ h rs rh rfl⟩
  | t :: ts, xs, ws, s, σ, H, A, Q, R, hv, rx, rs, rh, h, k => by
    rw [hgTs]
    cases rx with
    | nil => rw [lgTs] at h; exact h.elim
    | cons r rr =>
      rw [lgTs] at h
      refine ⟨_, _, rfl, hgT_of t (fun i hi => hv i (by rw [slotsTs]; exact List.mem_append_left _ hi)) r rs rh h fun s' A' σ' q rs' rh' ew => ?_⟩
      exact hgTs_of ts (fun i hi => hv i (by rw [slotsTs]; exact List.mem_append_right _ hi)) rr rs' rh' q fun s2 A2 σ2 q2 rs2 rh2 ew2 => k _ _ _ q2 rs2 rh2 (ew2.trans ew)
theorem hgTs_len : ∀ (ts : List Tgt) {xs : List PV} {s : LSt} {A : AH} {Q : LSt → AH → Prop}, lgTs ts xs s A Q → xs.length = ts.length
  | [], xs, s, A, Q, h => by rw [lgTs] at h; rw [h.1]; rfl
  | t :: ts, [], s, A, Q, h => by rw [lgTs] at h; exact h.elim
  | t :: ts, x :: xs, s, A, Q, h => by
    rw [lgTs] at h
    have : ∃ s' A', lgTs ts xs s' A' Q := lgT_some t h
    obtain ⟨s', A', h'⟩ := this
    exact congrArg Nat.succ (hgTs_len ts h')
theorem lgT_some : ∀ (t : Tgt) {x : PV} {s : LSt} {A : AH} {Q : LSt → AH → Prop}, lgT t x s A Q → ∃ s' A', Q s' A'
  | .name i, x, s, A, Q, h => ⟨_, _, by simpa [lgT] using h⟩
  | .tup ts, x, s, A, Q, h => by
    rw [lgT] at h
    split at h
    · exact lgTs_some ts h
    · exact h.elim
theorem lgTs_some : ∀ (ts : List Tgt) {xs : List PV} {s : LSt} {A : AH} {Q : LSt → AH → Prop}, lgTs ts xs s A Q → ∃ s' A', Q s' A'
  | [], xs, s, A, Q, h => by rw [lgTs] at h; exact ⟨_, _, h.2⟩
  | t :: ts, [], s, A, Q, h => by rw [lgTs] at h; exact h.elim
  | t :: ts, x :: xs, s, A, Q, h => by
    rw [lgTs] at h
    obtain ⟨s', A', h'⟩ := lgT_some t h
    exact lgTs_some ts h'
end
end
end Lf
namespace Lf
open PySem PySem.Spec L2
open PyProof.Rows hiding St

/-! ### less known -/
structure SubS (s s' : LSt) : Prop where
  at_ : ∀ (i : Nat) (x : PV), s[i]? = some (some x) → s'[i]? = some (some x)
  len : s.length = s'.length
theorem RepS.subS {K : PySem.W.Frag} {H : Hp} {s s' : LSt} {σ : St} (r : RepS K H s' σ) (h : SubS s s') : RepS K H s σ :=
  ⟨fun i x e => r.at_ i x (h.at_ i x e), h.len.trans r.len⟩
theorem SubS.refl (s : LSt) : SubS s s := ⟨fun _ _ h => h, rfl⟩
theorem SubS.nil : SubS [] [] := .refl _
theorem SubS.none {x : Option PV} {s s' : LSt} (h : SubS s s') : SubS (none :: s) (x :: s') := ⟨fun i y e => by
  cases i with
  | zero => simp at e
  | succ i => simpa using h.at_ i y (by simpa using e), by simp [h.len]⟩
theorem SubS.cons {x : Option PV} {s s' : LSt} (h : SubS s s') : SubS (x :: s) (x :: s') := ⟨fun i y e => by
  cases i with
  | zero => simpa using e
  | succ i => simpa using h.at_ i y (by simpa using e), by simp [h.len]⟩
/-- P, of slots and objects some of which are left out -/
def wk (P : LSt → AH → Prop) : LSt → AH → Prop := fun s A => ∃ s' A', SubS s' s ∧ Sub A' A ∧ P s' A'
theorem wk_of {P : LSt → AH → Prop} {s : LSt} {A : AH} (h : P s A) : wk P s A := ⟨s, A, .refl _, .refl _, h⟩
theorem EndsTo.wk {K : PySem.W.Frag} {H : Hp} {L : LEnds} {D : Ends} (h : EndsTo K H L D) : EndsTo K H { L with nx := wk L.nx, ct := wk L.ct, bk := wk L.bk } D :=
  ⟨fun s A ⟨s', A', es, ea, q⟩ σ H' e rs rh => h.nx _ _ q σ H' e (rs.subS es) (rh.sub ea), h.rt, fun s A ⟨s', A', es, ea, q⟩ σ H' e rs rh => h.bk _ _ q σ H' e (rs.subS es) (rh.sub ea), fun s A ⟨s', A', es, ea, q⟩ σ H' e rs rh => h.ct _ _ q σ H' e (rs.subS es) (rh.sub ea)⟩

/-! ### small statements -/
section
variable {X : Cx} {st : Stmt} {rest : List Stmt} {t u : LS} {e : Expr} {te : LE} {pos : Pos}
@[reducible] def lNext : LS := fun L s A => L.nx s A
@[reducible] def lSeq (t u : LS) : LS := fun L s A => t { L with nx := u L } s A
@[reducible] def lBreak : LS := fun L s A => L.bk s A
@[reducible] def lCont : LS := fun L s A => L.ct s A
@[reducible] def lDrop (te : LE) : LS := fun L s A => te s A fun _ A1 => L.nx s A1
@[reducible] def lRet (te : LE) : LS := fun L s A => te s A L.rt
@[reducible] def lRetN : LS := fun L _ A => L.rt .non A
@[reducible] def lIfS (c : LT) (t u : LS) : LS := fun L s A => c s A fun b A1 => if b = true then t L s A1 else u L s A1
@[reducible] def lNever : LS := fun _ _ _ => False
theorem js_next {st : Stmt} (h : PS X st tNext) : JS X st lNext := PS.imp h fun D σ H ⟨s, A, L, rs, rh, t, k⟩ => k.nx _ _ t _ _ (.refl _ _) rs rh
theorem jss_nil : JSs X [] lNext := PSs.imp pss_nil fun D σ H ⟨s, A, L, rs, rh, t, k⟩ => k.nx _ _ t _ _ (.refl _ _) rs rh
theorem jss_cons (h1 : JS X st t) (h2 : JSs X rest u) : JSs X (st :: rest) (lSeq t u) :=
  PSs.imp (pss_cons h1 h2) fun D σ H ⟨s, A, L, rs, rh, t, k⟩ => ⟨s, A, { L with nx := u L }, rs, rh, t, fun s1 A1 q σ1 H1 e r1 h1 => ⟨s1, A1, L, r1, h1, q, k.ext e⟩, k.rt, k.bk, k.ct⟩
theorem jss_one (h1 : JS X st t) : JSs X [st] t := pss_one h1
theorem js_break : JS X (.Break pos) lBreak := PS.imp ps_break fun D σ H ⟨s, A, L, rs, rh, t, k⟩ => k.bk _ _ t _ _ (.refl _ _) rs rh
theorem js_cont : JS X (.Continue pos) lCont := PS.imp ps_continue fun D σ H ⟨s, A, L, rs, rh, t, k⟩ => k.ct _ _ t _ _ (.refl _ _) rs rh
theorem js_pass : JS X (.Pass pos) lNext := js_next ps_pass
theorem js_expr (he : JE X e te) (hs : swapsWith e none pos.line X.env = pure false) : JS X (.Expr e pos) (lDrop te) :=
  PS.imp (ps_expr he hs) fun D σ H ⟨s, A, L, rs, rh, t, k⟩ => ⟨s, A, _, rs, rh, t, fun x A1 q v H1 e1 r1 h1 => k.nx _ _ q _ _ e1 (rs.ext e1) h1⟩
theorem js_ret (he : JE X e te) : JS X (.Return (some e) pos) (lRet te) :=
  PS.imp (ps_ret he) fun D σ H ⟨s, A, L, rs, rh, t, k⟩ => ⟨s, A, _, rs, rh, t, fun x A1 q v H1 e1 r1 h1 => k.rt _ _ q _ _ e1 r1 h1⟩
theorem js_retN : JS X (.Return none pos) lRetN :=
  PS.imp ps_retN fun D σ H ⟨s, A, L, rs, rh, t, k⟩ => k.rt _ _ t _ _ (.refl _ _) .non rh
theorem js_if {c : Expr} {a b : List Stmt} {tc : LT} (hc : JT X c tc) (ha : JSs X a t) (hb : JSs X b u) : JS X (.If c a b pos) (lIfS tc t u) :=
  PS.imp (ps_if hc ha hb) fun D σ H ⟨s, A, L, rs, rh, t, k⟩ => ⟨s, A, _, rs, rh, t, fun c A1 t1 H1 e1 rh1 => by
    cases c with
    | true => exact ⟨s, A1, L, rs.ext e1, rh1, t1, k.ext e1⟩
    | false => exact ⟨s, A1, L, rs.ext e1, rh1, t1, k.ext e1⟩⟩
theorem js_never : JS X st lNever := PS.imp ps_never fun D σ H ⟨s, A, L, rs, rh, t, k⟩ => t

/-! ### targets -/
abbrev LGs := List PV → LSt → AH → (LSt → AH → Prop) → Prop
def cGs (K : PySem.W.Frag) (g : LGs) : TGs := fun vs σ H R => ∃ (xs : List PV) (s : LSt) (A : AH) (Q : LSt → AH → Prop), RepVs K H xs vs ∧ RepS K H s σ ∧ RepH K H A ∧ g xs s A Q ∧ ∀ s' A', Q s' A' → ∀ σ' H', Ext K H H' → RepS K H' s' σ' → RepH K H' A' → R σ' H'
theorem _root_.L2.PGs.imp {X : Cx} {tg : List Expr} {t t' : TGs} (h : PGs X tg t) (q : ∀ v σ H R, t' v σ H R → t v σ H R) : PGs X tg t' := ⟨fun pins s σ H v u Q I r z => h.run pins s σ H v u Q I r (q _ _ _ _ z)⟩
@[reducible] def lgName (i : Nat) : LG := fun x s A Q => Q (sset s i x) A
@[reducible] def lgNil : LGs := fun xs s A Q => xs = [] ∧ Q s A
@[reducible] def lgCons (g : LG) (u : LGs) : LGs := fun xs s A Q => match xs with
  | x :: r => g x s A fun s1 A1 => u r s1 A1 Q
  | [] => False
@[reducible] def lgTup (n : Nat) (u : LGs) : LG := fun x s A Q => match x with
  | .tup _ xs => xs.length = n ∧ u xs s A Q
  | _ => False
theorem jg_name {i : Nat} {x : Str} (hN : X.N.Nodup) (hi : X.N[i]? = some x) (hx : Loc X.env.scope x) (hf : X.fn x = true ∨ X.env.scope.names.lookup x = some .local) : JG X (.Name x pos) (lgName i) :=
  (pg_name hN hi hx hf).imp fun v σ H R ⟨x, s, A, Q, rx, rs, rh, t, k⟩ => k _ _ t _ _ (.refl _ _) (rs.set i rx) rh
theorem jgs_nil : PGs X [] (cGs X.K lgNil) := pgs_nil.imp fun vs σ H R ⟨xs, s, A, Q, rx, rs, rh, t, k⟩ => by
  obtain ⟨rfl, t⟩ := t
  cases rx
  exact ⟨rfl, k _ _ t _ _ (.refl _ _) rs rh⟩
theorem jgs_cons {e : Expr} {es : List Expr} {g : LG} {u : LGs} (h1 : JG X e g) (h2 : PGs X es (cGs X.K u))
    (hs : (assignEach (e :: es) X.env).map (·.2) = assign e X.env :: (assignEach es X.env).map (·.2)) : PGs X (e :: es) (cGs X.K (lgCons g u)) :=
  (pgs_cons h1 h2 hs).imp fun vs σ H R ⟨xs, s, A, Q, rx, rs, rh, t, k⟩ => by
    cases rx with
    | nil => exact (show False from t).elim
    | cons r rr => exact ⟨_, _, rfl, _, s, A, _, r, rs, rh, t, fun s1 A1 q σ1 H1 e1 rs1 rh1 => ⟨_, s1, A1, Q, rr.ext e1, rs1, rh1, q, fun s2 A2 q2 σ2 H2 e2 => k s2 A2 q2 σ2 H2 (e1.trans e2)⟩⟩
theorem jg_tup {es : List Expr} {k : Nat} {u : LGs} {n : Nat} (hc : X.calm = true) (h : PGs X es (cGs X.K u))
    (hn : (assignEach es X.env).length = n) (hst : (assignEach es X.env).findIdx? (·.1) = none) : JG X (.Tuple es k pos) (lgTup n u) :=
  (pg_tup hc h hn hst).imp fun v σ H R ⟨x, s, A, Q, rx, rs, rh, t, k⟩ => by
    cases rx with
    | tup hs r => exact ⟨_, _, rfl, hs.sq, by rw [← r.length]; exact t.1, _, s, A, Q, r, rs, rh, t.2, k⟩
    | _ => exact (show False from t).elim

@[reducible] def lSet (o i x : PV) (A : AH) (Q : AH → Prop) : Prop := match o with
  | .ref p => match A p with
    | some (.lst xs) => match i with
      | .int k => orF (ixN xs.length k) fun j => Q (aupd A p (.lst (xs.set j x)))
      | _ => False
    | some (.dK kvs) => match i with
      | .int k => kvs.length < sizeLine ∧ Q (aupd A p (.dK (putP kvs (.inl k) x)))
      | .str k => kvs.length < sizeLine ∧ Q (aupd A p (.dK (putP kvs (.inr k) x)))
      | .tup .own ks => kvs = [] ∧ orF (keysP ks) fun kk => Q (aupd A p (.dT (putP [] kk x)))
      | _ => False
    | some (.dT kvs) => match i with
      | .tup .own ks => kvs.length < sizeLine ∧ orF (keysP ks) fun kk => Q (aupd A p (.dT (putP kvs kk x)))
      | _ => False
    | _ => False
  | _ => False
def cSet (K : PySem.W.Frag) : TSet := fun o i v H Q => ∃ (x y z : PV) (A : AH) (R : AH → Prop), RepV K H x o ∧ RepV K H y i ∧ RepV K H z v ∧ RepH K H A ∧ lSet x y z A R ∧ ∀ A', R A' → ∀ H', Ext K H H' → RepH K H' A' → Q H'
theorem sz0 : 0 < sizeLine := by rw [sizeLine_eq]; omega
theorem lset (hu : X.A.units + 1 < cLine) : PSet X (cSet X.K) := by
  intro pins s σ H o i v ov iv u Q I ro ri rv ⟨x, y, z, A, R, rx, ry, rz, rh, h, k⟩
  unfold lSet at h
  split at h
  · rename_i p
    cases rx
    have putK' : ∀ {kvs : List (Key × PV)} (kk : Key), A p = some (.dK kvs) → i = kV kk → kvs.length < sizeLine → R (aupd A p (.dK (putP kvs kk z))) → wpAny (model X.prog X.w) X.A (setItem ov iv u) (fun _ s' => ∃ H', Inv X pins σ H' s' ∧ Q H') X.xe s := by
      intro kvs kk e ei hz q
      obtain ⟨H1, ks, I1, ex, rh1, hp, r⟩ := norm_K I rh e
      subst ei
      cases (show ov = Value.ref p from ro)
      refine d_setItem hu I1 (DPut.k (k := kk) hp (by rw [← r.length]; exact hz)) ri rv fun s' I' => ⟨_, I', ?_⟩
      have mu : Mut (H1 p) := by rw [hp]; trivial
      refine k _ q _ (ex.trans (.mut mu)) (rh1.put mu (.inl ⟨_, upd_same, ?_⟩))
      exact (r.put kk (rz.ext ex)).ext (.mut mu)
    split at h
    · rename_i xs e
      split at h
      · rename_i kk
        obtain ⟨j, ej, q⟩ := orF_some h
        obtain ⟨vs, hp, r⟩ := rh p _ e
        cases ry
        refine wpAny_mono (set_list pins s σ H _ _ _ ov iv u (fun H' => Q H') I ro ri rv ⟨p, vs, kk, j, rfl, rfl, hp, by rw [← r.length]; exact ej, ?_⟩) (fun _ _ q => q) fun _ _ q => q
        exact k _ q _ (extLst hp) (putLst (r.set rz j) rh hp)
      · exact h.elim
    · rename_i kvs e
      split at h
      · cases ry
        exact putK' (.inl _) e rfl h.1 h.2
      · cases ry
        exact putK' (.inr _) e rfl h.1 h.2
      · rename_i ks
        obtain ⟨h1, h2⟩ := h
        subst h1
        obtain ⟨kk, ek, q⟩ := orF_some h2
        obtain ⟨H1, I1, ex, rh1, hp⟩ := norm_T I rh e
        cases (show ov = Value.ref p from ro)
        cases ry.ext ex with
        | tup hs r =>
          refine d_setItem hu I1 (DPut.t (k := kk) hp (by rw [show _ = _ from hs, keysP_rep r ek]) sz0) ri rv fun s' I' => ⟨_, I', ?_⟩
          have mu : Mut (H1 p) := by rw [hp]; trivial
          refine k _ q _ (ex.trans (.mut mu)) (rh1.put mu ⟨_, upd_same, ?_⟩)
          exact (RepD.put (.nil) kk (rz.ext ex)).ext (.mut mu)
      · exact h.elim
    · rename_i kvs e
      split at h
      · rename_i ks
        obtain ⟨hz, h2⟩ := h
        obtain ⟨kk, ek, q⟩ := orF_some h2
        obtain ⟨vs, hp, rd⟩ := rh p _ e
        cases (show ov = Value.ref p from ro)
        cases ry with
        | tup hs r =>
          refine d_setItem hu I (DPut.t (k := kk) hp (by rw [show _ = _ from hs, keysP_rep r ek]) (by rw [← rd.length]; exact hz)) ri rv fun s' I' => ⟨_, I', ?_⟩
          have mu : Mut (H p) := by rw [hp]; trivial
          refine k _ q _ (.mut mu) (rh.put mu ⟨_, upd_same, ?_⟩)
          exact (rd.put kk rz).ext (.mut mu)
      · exact h.elim
    · exact h.elim
  · exact h.elim
@[reducible] def lgSub (to ti : LE) : LG := fun x s A Q => to s A fun o A1 => ti s A1 fun i A2 => lSet o i x A2 fun A3 => Q s A3
theorem jg_sub {o i : Expr} {to ti : LE} (hu : X.A.units + 1 < cLine) (ho : JE X o to) (hi : JE X i ti)
    (ha : ∀ v, assign (.Subscript o i pos) X.env v = (do
      let ov ← holding [v] (eval o X.env)
      let iv ← holding [v, ov] (eval i X.env)
      standAt pos
      holding [v, ov, iv] (setItem ov iv v)
      release [v, ov, iv] [])) : JG X (.Subscript o i pos) (lgSub to ti) :=
  (pg_sub ho hi (lset hu) ha).imp fun v σ H R ⟨x, s, A, Q, rx, rs, rh, t, k⟩ => ⟨s, A, _, rs, rh, t, fun o A1 t1 v1 H1 e1 r1 rh1 => ⟨s, A1, _, rs.ext e1, rh1, t1, fun i A2 t2 v2 H2 e2 r2 rh2 =>
    ⟨o, i, x, A2, _, r1.ext e2, r2, rx.ext (e1.trans e2), rh2, t2, fun A3 q H3 e3 rh3 => k _ _ q _ _ (e1.trans (e2.trans e3)) (rs.ext (e1.trans (e2.trans e3))) rh3⟩⟩⟩
/-- target = value -/
@[reducible] def lAsg (te : LE) (g : LG) : LS := fun L s A => te s A fun x A1 => g x s A1 L.nx
theorem js_asg {tg e : Expr} {te : LE} {g : LG} (he : JE X e te) (hg : JG X tg g) (hs : swapsWithSole [tg] e pos.line X.env = pure false) (hw : swappedStores [tg] e X.env = pure none)
    (h1 : (assignEach [tg] X.env).map (·.2) = [assign tg X.env]) : JS X (.Assign [tg] e pos) (lAsg te g) :=
  PS.imp (ps_asg he hg hs hw h1) fun D σ H ⟨s, A, L, rs, rh, t, k⟩ => ⟨s, A, _, rs, rh, t, fun x A1 q v H1 e1 r1 h1 => ⟨x, s, A1, _, r1, rs.ext e1, h1, q, fun s2 A2 q2 σ2 H2 e2 => k.nx _ _ q2 σ2 H2 (e1.trans e2)⟩⟩
@[reducible] def lPar (i j : Nat) (ta : LA) : LS := fun L s A => ta s A fun xs A1 => match xs with
  | [x, y] => L.nx (sset (sset s i x) j y) A1
  | _ => False
theorem js_par {i j : Nat} {x y : Str} {a b : Expr} {ta : LA} {px py pt : Pos} {kt k2 pt2} (hc : X.calm = true) (hN : X.N.Nodup) (hi : X.N[i]? = some x) (hj : X.N[j]? = some y) (hij : i ≠ j)
    (hx : X.env.scope.names.lookup x = some .local) (hy : X.env.scope.names.lookup y = some .local) (ha : JA X [a, b] ta)
    (hw : swappedStores [.Tuple [.Name x px, .Name y py] kt pt] (.Tuple [a, b] k2 pt2) X.env = pure (some [x, y])) :
    JS X (.Assign [.Tuple [.Name x px, .Name y py] kt pt] (.Tuple [a, b] k2 pt2) pos) (lPar i j ta) :=
  PS.imp (ps_par hc hN hi hj hij hx hy ha hw) fun D σ H ⟨s, A, L, rs, rh, t, k⟩ => ⟨s, A, _, rs, rh, t, fun xs A1 q vs H1 e1 r1 h1 => by
    split at q
    · cases r1 with
      | cons r rr =>
        cases rr with
        | cons r' rr =>
          cases rr
          exact ⟨_, _, rfl, k.nx _ _ q _ _ e1 (((rs.ext e1).set i r).set j r') h1⟩
    · exact q.elim⟩
@[reducible] def lPar3 (i j l : Nat) (ta : LA) : LS := fun L s A => ta s A fun xs A1 => match xs with
  | [x, y, z] => L.nx (sset (sset (sset s i x) j y) l z) A1
  | _ => False
theorem js_par3 {i j l : Nat} {x y z : Str} {a b c : Expr} {ta : LA} {px py pz pt pos : Pos} {kt k2 pt2} (hc : X.calm = true) (hN : X.N.Nodup) (hi : X.N[i]? = some x) (hj : X.N[j]? = some y) (hl : X.N[l]? = some z) (hij : i ≠ j) (hil : i ≠ l) (hjl : j ≠ l)
    (hx : X.env.scope.names.lookup x = some .local) (hy : X.env.scope.names.lookup y = some .local) (hz : X.env.scope.names.lookup z = some .local) (ha : JA X [a, b, c] ta)
    (hw : swappedStores [.Tuple [.Name x px, .Name y py, .Name z pz] kt pt] (.Tuple [a, b, c] k2 pt2) X.env = pure (some [x, y, z])) :
    JS X (.Assign [.Tuple [.Name x px, .Name y py, .Name z pz] kt pt] (.Tuple [a, b, c] k2 pt2) pos) (lPar3 i j l ta) :=
  PS.imp (ps_par3 hc hN hi hj hl hij hil hjl hx hy hz ha hw) fun D σ H ⟨s, A, L, rs, rh, t, k⟩ => ⟨s, A, _, rs, rh, t, fun xs A1 q vs H1 e1 r1 h1 => by
    split at q
    · cases r1 with
      | cons r rr =>
        cases rr with
        | cons r' rr =>
          cases rr with
          | cons r'' rr =>
            cases rr
            exact ⟨_, _, _, rfl, k.nx _ _ q _ _ e1 ((((rs.ext e1).set i r).set j r').set l r'') h1⟩
    · exact q.elim⟩

/-! ### x op= e -/
@[reducible] def lAug (i : Nat) (r : L2R) (te : LE) : LS := fun L s A => match sget s i with
  | some x => te s A fun y A1 => r x y A1 fun z A2 => L.nx (sset s i z) A2
  | _ => False
theorem js_aug {i : Nat} {x : Str} {e : Expr} {te : LE} {op : Operator} {r : L2R} {pos' : Pos} (hN : X.N.Nodup) (hi : X.N[i]? = some x) (hx : Loc X.env.scope x) (he : JE X e te) (ho : LOp X (inplaceOp op) r) (hf : X.fn x = true ∨ X.env.scope.names.lookup x = some .local) :
    JS X (.AugAssign (.Name x pos') op e pos) (lAug i r te) :=
  PS.imp (ps_aug hN hi hx he (ti := cR X.K r) (fun pins s σ H x y v u Q I rx ry h => ho pins s σ H x y v u Q I rx ry h) hf) fun D σ H ⟨s, A, L, rs, rh, t, k⟩ => by
    unfold lAug at t
    split at t
    · rename_i z ez
      obtain ⟨v, e1, rz⟩ := rs.at_ i z (sget_eq ez)
      exact ⟨v, e1, s, A, _, rs, rh, t, fun y A1 t1 w H1 e2 r1 rh1 => ⟨z, y, A1, _, rz.ext e2, r1, rh1, t1, fun q A2 t2 vq H2 e3 r2 rh2 => k.nx _ _ t2 _ _ (e2.trans e3) ((rs.ext (e2.trans e3)).set i r2) rh2⟩⟩
    · exact t.elim
/-- o[i] op= e -/
@[reducible] def lAugS (to ti te : LE) (r : L2R) : LS := fun L s A => to s A fun o A1 => ti s A1 fun i A2 => lIx o i A2 fun x A3 => te s A3 fun y A4 => r x y A4 fun z A5 => lSet o i z A5 fun A6 => L.nx s A6

/-! ### while -/
def lWhileK (L : LEnds) (s : LSt) (A : AH) (c : LT) (tb : LS) : Prop := ∃ W : Nat → LSt → AH → Prop, (∃ m, W m s A) ∧ ∀ m s A, W m s A →
  c s A fun b A1 => if b = true then tb { L with nx := wk fun s' A' => ∃ m', m' < m ∧ W m' s' A', ct := wk fun s' A' => ∃ m', m' < m ∧ W m' s' A', bk := L.nx } s A1 else L.nx s A1
@[reducible] def lWhile (c : LT) (tb : LS) : LS := fun L s A => lWhileK L s A c tb
theorem js_while {c : Expr} {body : List Stmt} {tc : LT} {tb : LS} (hp : PassesOwn (model X.prog X.w) X.A X.env X.xe) (hc : JT X c tc) (hb : JSs X body tb) : JS X (.While c body [] pos) (lWhile tc tb) :=
  PS.imp (ps_while hp hc hb) fun D σ H ⟨s, A, L, rs, rh, ⟨W, ⟨m0, w0⟩, turn⟩, k⟩ => by
    refine ⟨fun m σ' H' => ∃ s A, Ext X.K H H' ∧ RepS X.K H' s σ' ∧ RepH X.K H' A ∧ W m s A, ⟨m0, s, A, .refl _ _, rs, rh, w0⟩, ?_⟩
    rintro m σ1 H1 ⟨s1, A1, e1, rs1, rh1, w1⟩
    refine ⟨s1, A1, _, rs1, rh1, turn m s1 A1 w1, fun b A2 q2 H2 e2 rh2 => ?_⟩
    cases b with
    | true =>
      rw [if_pos rfl] at q2 ⊢
      have inv : ∀ (s3 : LSt) (A3 : AH), wk (fun s' A' => ∃ m', m' < m ∧ W m' s' A') s3 A3 → ∀ (σ3 : St) (H3 : Hp), Ext X.K H2 H3 → RepS X.K H3 s3 σ3 → RepH X.K H3 A3 → ∃ m' s A, m' < m ∧ Ext X.K H H3 ∧ RepS X.K H3 s σ3 ∧ RepH X.K H3 A ∧ W m' s A :=
        fun s3 A3 ⟨s', A', es, ea, m', hm, w'⟩ σ3 H3 e3 rs3 rh3 => ⟨m', s', A', hm, e1.trans (e2.trans e3), rs3.subS es, rh3.sub ea, w'⟩
      refine ⟨fun σ' H' => ∃ m' s A, m' < m ∧ Ext X.K H H' ∧ RepS X.K H' s σ' ∧ RepH X.K H' A ∧ W m' s A, fun σ' H' ⟨m', s, A, hm, q⟩ => ⟨m', hm, s, A, q⟩, s1, A2, _, rs1.ext e2, rh2, q2, ?_⟩
      exact ⟨inv, fun x A q v H' e => k.rt x A q v H' (e1.trans (e2.trans e)), fun s A q σ' H' e => k.nx s A q σ' H' (e1.trans (e2.trans e)), inv⟩
    | false =>
      rw [if_neg Bool.false_ne_true] at q2 ⊢
      exact k.nx _ _ q2 _ _ (e1.trans e2) (rs1.ext e2) rh2

/-! ### for -/
def lForK (L : LEnds) (items : List PV) (St : AH → Prop) (s : LSt) (A1 : AH) (g : LG) (tb : LS) : Prop := ∃ W : Nat → LSt → AH → Prop, W 0 s A1 ∧ ∀ i s A, W i s A → St A ∧ (i = items.length → L.nx s A) ∧
  ∀ x, items[i]? = some x → g x s A fun s2 A2 => tb { L with nx := wk (W (i + 1)), ct := wk (W (i + 1)), bk := L.nx } s2 A2
@[reducible] def lFor (wi : LI) (g : LG) (tb : LS) : LS := fun L s A => wi s A fun items St A1 => lForK L items St s A1 g tb
theorem js_for {tg iter : Expr} {body : List Stmt} {wi : LI} {g : LG} {tb : LS} (hp : PassesOwn (model X.prog X.w) X.A X.env X.xe) (hc : X.calm = true) (hi : JI X tg iter wi) (hg : JG X tg g) (hb : JSs X body tb)
    (hs : ∀ x, foldedSetIterable iter X.env x = pure x) : JS X (.For tg iter body [] pos) (lFor wi g tb) :=
  PS.imp (ps_for hp hc hi hg hb hs) fun D σ H ⟨s, A, L, rs, rh, t, k⟩ => by
    refine ⟨s, A, _, rs, rh, t, ?_⟩
    rintro items St A1 ⟨W, w0, turn⟩ J H1 e1 rh1 IR
    refine ⟨fun i m σ' H' => m = items.length - i ∧ i ≤ items.length ∧ ∃ s A, Ext X.K H1 H' ∧ RepS X.K H' s σ' ∧ RepH X.K H' A ∧ W i s A, ⟨_, rfl, Nat.zero_le _, s, A1, .refl _ _, rs.ext e1, rh1, w0⟩, ?_⟩
    rintro i m σ2 H2 ⟨rfl, hi, s2, A2, e2, rs2, rh2, w2⟩
    obtain ⟨st, fin, step⟩ := turn i s2 A2 w2
    by_cases hlt : i < items.length
    · have inv : ∀ (H3 : Hp), Ext X.K H2 H3 → ∀ (s3 : LSt) (A3 : AH), wk (W (i + 1)) s3 A3 → ∀ (σ4 : L2.St) (H4 : Hp), Ext X.K H3 H4 → RepS X.K H4 s3 σ4 → RepH X.K H4 A3 → ∃ s A, Ext X.K H1 H4 ∧ RepS X.K H4 s σ4 ∧ RepH X.K H4 A ∧ W (i + 1) s A :=
        fun H3 e3 s3 A3 ⟨s', A', es, ea, w'⟩ σ4 H4 e4 rs3 rh3 => ⟨s', A', e2.trans (e3.trans e4), rs3.subS es, rh3.sub ea, w'⟩
      refine .inr ⟨IR.go i H2 A2 hlt e2 rh2 st, fun σ' H' => ∃ s A, Ext X.K H1 H' ∧ RepS X.K H' s σ' ∧ RepH X.K H' A ∧ W (i + 1) s A, fun σ' H' q => ⟨items.length - (i + 1), by omega, rfl, hlt, q⟩, fun x H' y => ?_⟩
      obtain ⟨e3, rh3, _, p, ep, rp⟩ := IR.yld i H2 A2 x H' hlt e2 rh2 st y
      refine ⟨p, s2, A2, _, rp, rs2.ext e3, rh3, step p ep, fun s4 A4 q4 σ4 H4 e4 rs4 rh4 => ⟨s4, A4, _, rs4, rh4, q4, ?_⟩⟩
      have e5 := e1.trans (e2.trans (e3.trans e4))
      exact ⟨inv _ (e3.trans e4), fun x A q v H' e => k.rt x A q v H' (e5.trans e), fun s A q σ' H' e => k.nx s A q σ' H' (e5.trans e), inv _ (e3.trans e4)⟩
    · have e : i = items.length := by omega
      subst e
      exact .inl ⟨IR.stop H2 A2 e2 rh2 st, k.nx _ _ (fin rfl) _ _ (e1.trans e2) rs2 rh2⟩
end
end Lf
namespace Lf
open PySem PySem.Spec L2
open PyProof.Rows hiding St

section
variable {X : Cx}
/-! ### comprehensions -/
@[reducible] def wipeL (s : LSt) : List Nat → LSt
  | [] => s
  | v :: vs => snone (wipeL s vs) v
theorem RepS.wipe {K : PySem.W.Frag} {H : Hp} {s : LSt} {σ : St} (r : RepS K H s σ) : ∀ vs : List Nat, RepS K H (wipeL s vs) (L2.wipe σ vs)
  | [] => r
  | v :: vs => (RepS.wipe r vs).setN v
def lCompK (items : List PV) (St : AH → Prop) (A1 : AH) (s : LSt) (tg : Tgt) (tt : LT) (te : LE) (vs : List Nat) (Q : QK) : Prop := ∀ D, A1 D = none →
  ∃ W : Nat → List PV → AH → Prop, W 0 [] (aupd A1 D (.lst [])) ∧ ∀ i acc A2, W i acc A2 → A2 D = some (.lst acc) → St A2 ∧ (i = items.length → Q (.ref D) A2) ∧
    ∀ x, items[i]? = some x → lgT tg x (wipeL s vs) A2 fun s3 A3 => tt s3 A3 fun b A4 => if b = true then te s3 A4 fun y A5 => ∃ A6, Sub A6 A5 ∧ A6 D = some (.lst acc) ∧ acc.length < sizeLine ∧ W (i + 1) (acc ++ [y]) (aupd A6 D (.lst (acc ++ [y])))
      else ∃ A6, Sub A6 A4 ∧ A6 D = some (.lst acc) ∧ W (i + 1) acc A6
@[reducible] def lComp (wi : LI) (tg : Tgt) (tt : LT) (te : LE) (vs : List Nat) : LE := fun s A Q => wi s A fun items St A1 => lCompK items St A1 s tg tt te vs Q
theorem lComp_to {K : PySem.W.Frag} {wi : LI} {tg : Tgt} {tt : LT} {te : LE} {vs : List Nat} (hv : ∀ i ∈ slotsT tg, i ∈ vs) {σ : St} {H : Hp} {R : VK} (h : cE K (lComp wi tg tt te vs) σ H R) : tLc (cI K wi) (hgT K tg) (cT K tt) (cE K te) vs σ H R := by
  obtain ⟨s, A, Q, rs, rh, t, k⟩ := h
  refine ⟨s, A, _, rs, rh, t, ?_⟩
  intro items St A1 q1 J H1 e1 rh1 IR D hD
  obtain ⟨W, w0, turn⟩ := q1 D (rh1.free hD)
  have rh2 : RepH K (upd H1 D (.lst [])) (aupd A1 D (.lst [])) := newLst .nil rh1 hD
  refine ⟨fun i m H' => m = items.length - i ∧ i ≤ items.length ∧ ∃ acc A, Ext K (upd H1 D (.lst [])) H' ∧ RepH K H' A ∧ A D = some (.lst acc) ∧ W i acc A, ⟨_, rfl, Nat.zero_le _, [], _, .refl _ _, rh2, aupd_same, w0⟩, ?_⟩
  rintro i m H2 ⟨rfl, hi, acc, A2, e2, rh2, hA2, w2⟩
  obtain ⟨st, fin, step⟩ := turn i acc A2 w2 hA2
  have e1' : Ext K H1 H2 := (Ext.new hD).trans e2
  by_cases hlt : i < items.length
  · refine .inr ⟨IR.go i H2 A2 hlt e1' rh2 st, fun H' => ∃ acc A, Ext K (upd H1 D (.lst [])) H' ∧ RepH K H' A ∧ A D = some (.lst acc) ∧ W (i + 1) acc A, fun H' q => ⟨items.length - (i + 1), by omega, rfl, hlt, q⟩, fun x H' y => ?_⟩
    obtain ⟨e3, rh3, _, p, ep, rp⟩ := IR.yld i H2 A2 x H' hlt e1' rh2 st y
    refine hgT_of tg hv rp (((rs.ext e1).ext e1').ext e3 |>.wipe vs) rh3 (step p ep) fun s4 A4 σ4 q4 rs4 rh4 hw => ⟨?_, s4, A4, _, rs4, rh4, q4, fun b A5 q5 H5 e5 rh5 => ?_⟩
    · rw [hw]
      clear hw q4 rs4
      have idem : L2.wipe (L2.wipe σ vs) vs = L2.wipe σ vs := by
        apply List.ext_getElem?
        intro j
        by_cases hj : j ∈ vs
        · cases h1 : (L2.wipe (L2.wipe σ vs) vs)[j]? with
          | none =>
            have l1 := List.getElem?_eq_none_iff.mp h1
            rw [wipe_length] at l1
            exact (List.getElem?_eq_none_iff.mpr l1).symm
          | some o =>
            cases o with
            | some v => exact absurd hj (wipe_some h1).2
            | none =>
              cases h2 : (L2.wipe σ vs)[j]? with
              | none =>
                have l1 := List.getElem?_eq_none_iff.mp h2
                have l2 := List.getElem?_eq_some_iff.mp h1
                obtain ⟨l2, _⟩ := l2
                rw [wipe_length] at l2
                omega
              | some o =>
                cases o with
                | some v => exact absurd hj (wipe_some h2).2
                | none => rfl
        · rw [wipe_out hj]
      exact idem
    · cases b with
      | false =>
        rw [if_neg Bool.false_ne_true] at q5 ⊢
        obtain ⟨A6, ea, hA6, w6⟩ := q5
        exact ⟨acc, A6, e2.trans (e3.trans e5), rh5.sub ea, hA6, w6⟩
      | true =>
        rw [if_pos rfl] at q5 ⊢
        refine ⟨s4, A5, _, rs4.ext e5, rh5, q5, fun y A6 q6 v6 H6 e6 r6 rh6 => ?_⟩
        obtain ⟨A7, ea, hA7, hz, w7⟩ := q6
        obtain ⟨us, hD6, ru⟩ := (rh6.sub ea) D _ hA7
        refine ⟨us, hD6, by rw [← ru.length]; exact hz, acc ++ [y], _, (e2.trans (e3.trans (e5.trans e6))).trans (extLst hD6), putLst (ru.append (.cons r6 .nil)) (rh6.sub ea) hD6, aupd_same, w7⟩
  · have e : i = items.length := by omega
    subst e
    exact .inl ⟨IR.stop H2 A2 e1' rh2 st, k _ _ (fin rfl) _ _ (e1.trans e1') (.ref D) rh2⟩
abbrev Blk (X : Cx) (s : Shared) (H : Hp) (scope : Scope) (C : Addr) (cl : List (Str × Addr)) (fp : List Addr) : Cx := X.blk s H scope (compEnvC scope cl C X.env) fp
abbrev JTs (X : Cx) (ifs : List Expr) (t : LT) : Prop := PTs X ifs (cT X.K t)
theorem _root_.L2.PTs.imp {X : Cx} {e : List Expr} {t t' : TT} (h : PTs X e t) (q : ∀ σ H R, t' σ H R → t σ H R) : PTs X e t' := ⟨fun pins s σ H Q I z => h.run pins s σ H Q I (q _ _ _ z)⟩
@[reducible] def lYes : LT := fun _ A Q => Q true A
theorem jts_nil : JTs X [] lYes := PTs.imp pts_nil fun σ H R ⟨s, A, Q, rs, rh, t, k⟩ => k _ _ t _ (.refl _ _) rh
theorem jts_one {c : Expr} {t : LT} (h : JT X c t) : JTs X [c] t := pts_one h
variable {elt tg iter : Expr} {ifs : List Expr} {scope : Scope} {own : List (Str × Nat)} {pos spos : Pos} {wi : LI} {T : Tgt} {tt : LT} {te : LE}
theorem je_lc (hc : X.calm = true) (hN : X.N.Nodup) (hi : JI X tg iter wi) (ok : BlkOk X.N X.env.scope scope own) (hv : ∀ i ∈ slotsT T, i ∈ own.map (·.2))
    (hg : ∀ s H C cl fp, PG (Blk X s H scope C cl fp) tg (hgT X.K T)) (ht : ∀ s H C cl fp, JTs (Blk X s H scope C cl fp) ifs tt)
    (he : ∀ s H C cl fp, JE (Blk X s H scope C cl fp) elt te) (hs : ∀ x, foldedSetIterable iter X.env x = pure x) :
    JE X (.ListComp elt [⟨tg, iter, ifs, 0⟩] scope pos) (lComp wi T tt te (own.map (·.2))) :=
  (pe_lc hc hN hi ok hg ht he hs).imp fun σ H R h => lComp_to hv h
theorem js_lc {i : Nat} {y : Str} {py : Pos} (hc : X.calm = true) (hN : X.N.Nodup) (hy : X.N[i]? = some y) (hyl : X.env.scope.names.lookup y = some .local)
    (hsw : swapsWith (.ListComp elt [⟨tg, iter, ifs, 0⟩] scope pos) (some (.Name y py)) spos.line X.env = pure true) (hi : JI X tg iter wi) (ok : BlkOk X.N X.env.scope scope own) (hv : ∀ i ∈ slotsT T, i ∈ own.map (·.2))
    (hg : ∀ s H C cl fp, PG (Blk X s H scope C cl fp) tg (hgT X.K T)) (ht : ∀ s H C cl fp, JTs (Blk X s H scope C cl fp) ifs tt)
    (he : ∀ s H C cl fp, JE (Blk X s H scope C cl fp) elt te) (hs : ∀ x, foldedSetIterable iter X.env x = pure x) :
    JS X (.Assign [.Name y py] (.ListComp elt [⟨tg, iter, ifs, 0⟩] scope pos) spos) (lAsg (lComp wi T tt te (own.map (·.2))) (lgName i)) :=
  PS.imp (ps_setLc hc hN hy hyl hsw hi ok hg ht he hs) fun D σ H ⟨s, A, L, rs, rh, t, k⟩ => by
    have z : cE X.K (lComp wi T tt te (own.map (·.2))) σ H (fun x H1 => gName i x σ H1 D.nx) := ⟨s, A, _, rs, rh, t, fun x A1 q v H1 e1 r1 h1 => k.nx _ _ q _ _ e1 ((rs.ext e1).set i r1) h1⟩
    exact lComp_to hv z

/-! ### targets of names -/
theorem hg_name {x : Str} {i : Nat} {p : Pos} (hN : X.N.Nodup) (hi : X.N[i]? = some x) (hx : Loc X.env.scope x) (hf : X.fn x = true ∨ X.env.scope.names.lookup x = some .local) {K : PySem.W.Frag} : PG X (.Name x p) (hgT K (.name i)) := by
  rw [hgT]; exact pg_name hN hi hx hf
theorem hgs_nil {K : PySem.W.Frag} : PGs X [] (hgTs K []) := by rw [hgTs]; exact pgs_nil
theorem hgs_cons {e : Expr} {es : List Expr} {t : Tgt} {ts : List Tgt} {K : PySem.W.Frag} (h1 : PG X e (hgT K t)) (h2 : PGs X es (hgTs K ts))
    (hs : (assignEach (e :: es) X.env).map (·.2) = assign e X.env :: (assignEach es X.env).map (·.2)) : PGs X (e :: es) (hgTs K (t :: ts)) := by
  rw [hgTs]; exact pgs_cons h1 h2 hs
theorem hg_tup {es : List Expr} {ts : List Tgt} {k : Nat} {p : Pos} (hc : X.calm = true) (h : PGs X es (hgTs X.K ts))
    (hn : (assignEach es X.env).length = ts.length) (hst : (assignEach es X.env).findIdx? (·.1) = none) : PG X (.Tuple es k p) (hgT X.K (.tup ts)) := by
  rw [hgT]; exact pg_tup hc h hn hst
theorem jg_T {e : Expr} {t : Tgt} (h : PG X e (hgT X.K t)) : JG X e (lgT t) := h.imp fun v σ H R ⟨x, s, A, Q, rx, rs, rh, z, k⟩ =>
  hgT_of (vs := slotsT t) t (fun _ h => h) rx rs rh z fun s' A' σ' q rs' rh' _ => k _ _ q _ _ (.refl _ _) rs' rh'

/-! ### calls of own defs -/
@[reducible] def lCall (W : LW) (S : LSp) (ta : LA) : LE := fun s A Q => ta s A fun xs A1 => S xs A1 Q fun cls d A2 => W cls d s A2
abbrev LFn (P : Program) (w : World) (K : PySem.W.Frag) (mg : Str → Option Value) (base : Heap) (k : Nat) (f : Addr) (fd : FuncData) (ps : List Str) (S : LSp) : Prop := FnOk P w K mg base (CX P w) k f fd ps (cSp K S)
def lwNo : LW := fun _ _ _ _ => False
theorem takes_no : Takes X (cW X.K lwNo) := fun u s' ⟨a, B, sI, pins, σ, H, cls, d, e, I, nb, up, sky, na, os, ag, w⟩ => by
  obtain ⟨s, A, _, _, w⟩ := w
  exact (show False from w).elim
variable {W : LW} {k : Nat} {f : Addr} {fd : FuncData} {ps : List Str} {S : LSp} {x : Str} {p : Pos} {e : Expr} {es : List Expr} {ta : LA}
theorem je_call (F : LFn X.prog X.w X.K X.mg X.base k f fd ps S) (tk : Takes X (cW X.K W)) (hr : Room k X.A) (hg : Gl X x) (hm : X.mg x = some (.ref f)) (hk : PySem.W.keepIn X.K (.ref f) = true) (hb : Binds X.K fd ps [])
    (ha : JA X (e :: es) ta) (hdb : (x == ("__debug__" : Str)) = false) (he : starEach (e :: es) X.env = (false, eval e X.env) :: starEach es X.env) (hpl : (backTo pos (starEach es X.env)).any (·.1) = false) :
    JE X (.Call (.Name x p) (e :: es) [] pos) (lCall W S ta) :=
  (pe_callS F hr hg hm hk hb (fun σ => passAt tk σ) ha hdb he hpl).imp fun σ H R ⟨s, A, Q, rs, rh, t, k⟩ => ⟨s, A, _, rs, rh, t, fun xs A1 t1 vs H1 e1 r1 rh1 => ⟨xs, A1, Q, _, r1, rh1, t1, fun z A2 q v H2 e2 r2 rh2 => k z A2 q v H2 (e1.trans e2) r2 rh2,
    fun cls d A2 q H2 e2 rh2 => ⟨s, A2, rs.ext (e1.trans e2), rh2, q⟩⟩⟩

/-! ### a def -/
def startL (N : List Str) (xs : List PV) : LSt := xs.map some ++ List.replicate (N.length - xs.length) none
theorem RepVs.somes {K : PySem.W.Frag} {H : Hp} : ∀ {xs : List PV} {vs : List V}, RepVs K H xs vs → ∀ n : Nat, RepS K H (xs.map some ++ List.replicate n none) (vs.map some ++ List.replicate n none)
  | _, _, .nil, n => by
    refine ⟨fun i x h => ?_, by simp⟩
    simp [List.getElem?_replicate] at h
  | _, _, .cons r t, n => by
    have q := RepVs.somes t n
    refine ⟨fun i x h => ?_, by simpa using congrArg Nat.succ q.len⟩
    cases i with
    | zero => simp at h; subst h; exact ⟨_, by simp, r⟩
    | succ i => simpa using q.at_ i x (by simpa using h)
theorem RepS.start {K : PySem.W.Frag} {H : Hp} {N : List Str} {xs : List PV} {vs : List V} (r : RepVs K H xs vs) : RepS K H (startL N xs) (L2.start N vs) := by
  unfold startL L2.start
  rw [r.length]
  exact r.somes _
/-- Q of a value, of objects some of which are left out -/
def wkV (Q : QK) : QK := fun x A => ∃ A', Sub A' A ∧ Q x A'
@[reducible] def endsOf (Q : QK) : LEnds := ⟨fun _ A => wkV Q .non A, wkV Q, fun _ _ => False, fun _ _ => False⟩
@[reducible] def wOf (Z : LX) : LW := fun cls d _ A => Z cls d A
theorem ends_to {K : PySem.W.Frag} {H : Hp} {Q : QK} {R : VK} (k : ∀ x A', Q x A' → ∀ v H', Ext K H H' → RepV K H' x v → RepH K H' A' → R v H') : EndsTo K H (endsOf Q) { nx := fun _ H' => R .non H', rt := R } :=
  ⟨fun s A ⟨A', ea, q⟩ σ H' e rs rh => k _ _ q _ _ e .non (rh.sub ea), fun x A ⟨A', ea, q⟩ v H' e r rh => k _ _ q _ _ e r (rh.sub ea), fun _ _ h => h.elim, fun _ _ h => h.elim⟩
/-- a def's law over its reading -/
def Keeps (N : List Str) (T : LW → LS) (S : LSp) : Prop := ∀ xs A Q Z, S xs A Q Z → T (wOf Z) (endsOf Q) (startL N xs) A
variable {P : Program} {w : World} {K : PySem.W.Frag} {mg : Str → Option Value} {base : Heap} {qual : Str} {params : Arguments} {body : List Stmt} {N : List Str} {T : LW → LS}
theorem lfn (F : FunD K x qual params body scope [] [] f fd) (sc : FnScope N ps scope) (len : ∀ xs A Q Z, S xs A Q Z → xs.length = ps.length) (hT : Keeps N T S)
    (hb : ∀ (cdv : Value) (A : Around) (outer : List Env) (s : Shared) (H : Hp) (E : XK) (W : LW), Room k (A.deeper (envOfC qual scope s.heap.objs.size f cdv)) → Takes (cxOf (CX P w) P w K mg base N qual scope f cdv A outer s H E) (cW K W) →
      JSs (cxOf (CX P w) P w K mg base N qual scope f cdv A outer s H E) body (T W)) : LFn P w K mg base (k + 1) f fd ps S := by
  refine F.ok sc (fun vs H Q E ⟨xs, A, Q', Z, r, _, h, _⟩ => by rw [← r.length]; exact len _ _ _ _ h) fun cdv A outer s H vs Q E hr ⟨xs, B, Q', Z, r, rh, h, k, kz⟩ => ?_
  refine ⟨cS K (T (fun cls d s' A' => Z cls d A')), ?_, startL N xs, B, endsOf Q', .start r, rh, hT xs B Q' Z h, ends_to k⟩
  refine hb cdv A outer s H E _ hr ?_
  rintro u s' ⟨a, B', sI, pins, σ, H', cls, d, e, I, nb, up, sky, na, os, ag, s1, A1, _, rh1, z⟩
  exact takes_of (X := cxOf (CX P w) P w K mg base N qual scope f cdv A outer s H E) (E := E) rfl rfl rfl rfl u s' ⟨a, B', sI, pins, σ, H', cls, d, e, I, nb, up, sky, na, os, ag, kz cls d A1 z H' (Ext.of_un I.base) rh1⟩
end
end Lf
namespace Lf
open PySem PySem.Spec L2
open PyProof.Rows hiding St
section
variable {P : Program} {w : World} {A : Around} {E : Value → Shared → Prop} {s : Shared}
set_option maxRecDepth 100000 in
set_option maxHeartbeats 3200000 in
theorem call_set_lstI {l : Addr} {items : Array Value} (ns : List Int) {Q : Value → Shared → Prop} (hh : A.handled = none) (hl : s.heap.IsList l items) (hit : IntsAre items.toList ns) (hb : ns.length + 1 < scanBound)
    (h : ∀ (h' : Heap) (tk c : Nat), SetR w h' s.heap.objs.size (fun j => decide (j ∈ ns)) c → c ≤ ns.length → (∀ b o, s.heap.get? b = some o → h'.get? b = some o) → Q (.ref s.heap.objs.size) { s with heap := h', toks := tk }) :
    wpAny (model P w) A (call (.type "set") [.ref l]) Q E s := by
  have hisz : items.size = ns.length := by
    have q := IntsAre.length hit
    rw [Array.length_toList] at q
    exact q
  obtain ⟨c, tl, hmro⟩ := F.called_set.mro
  have hmade := F.called_set.made
  have hsub := F.called_set.sub
  refine wpAny_call (codeAny_of_tree ?_)
  show wpAny _ _ (callAny (.type "set") _) _ _ _
  refine wpAny_pure ⟨Code.quiet_builtin _ (by decide +kernel), codeAny_builtin F.entry_type_call ?_⟩
  rw [Around.under_plain (weight_type_call_type "set" [.ref l] []) rfl]
  have h1 := F.called_set.notType
  have h2 := F.called_set.canCreate
  have hct := F.typeCall_set_1 (.ref l)
  repeat (any_goals (first | assumption | wp_step))

  refine codeAny_mono (code_set_led1 (.ref l) (E := E) (Q₁ := fun obj s₁ => obj = .ref s.heap.objs.size ∧ s₁ = { s with heap := s.heap.push { cls := .type "set", dict := none, data := .set #[] 0 (.fresh 0 0 (!w.params.followText "set-order")) } }) ⟨rfl, rfl⟩) fun r s₁ hr => ?_
  cases r with
  | error e => exact hr
  | ok fl =>
    cases fl with
    | ret obj =>
      obtain ⟨rfl, rfl⟩ := hr
      have hS : (s.heap.push { cls := .type "set", dict := none, data := .set #[] 0 (.fresh 0 0 (!w.params.followText "set-order")) }).get? s.heap.objs.size = some { cls := .type "set", dict := none, data := .set #[] 0 (.fresh 0 0 (!w.params.followText "set-order")) } := Heap.get?_push_size _ rfl
      have hT : Shared.TypeIs { s with heap := s.heap.push { cls := .type "set", dict := none, data := .set #[] 0 (.fresh 0 0 (!w.params.followText "set-order")) } } (.ref s.heap.objs.size) "set" := ⟨_, hS, rfl⟩
      have hli := F.called_set.init.lookup
      have hbi := F.called_set.init.bind (.ref s.heap.objs.size)
      repeat (any_goals (first | assumption | wp_step))

      refine codeAny_mono (codeAny_call_builtin (R := wants (fun r s₂ => r = .none ∧ ∃ h' tk c, s₂ = { s with heap := h', toks := tk } ∧ SetR w h' s.heap.objs.size (fun j => decide (j ∈ ns)) c ∧ c ≤ ns.length ∧
          (∀ b o, s.heap.get? b = some o → h'.get? b = some o)) E) F.called_set.init.plain F.entry_set_init (check_set_init_1 hT ?_)) fun r₂ s₂ hr₂ => ?_
      · obtain ⟨ol, hol, hcl, nl, hdl⟩ := hl
        obtain ⟨ocls, odict, odata, oslots⟩ := ol
        simp only at hcl hdl
        subst hcl; subst hdl
        have hol' : (s.heap.push { cls := .type "set", dict := none, data := .set #[] 0 (.fresh 0 0 (!w.params.followText "set-order")) }).get? l = some { cls := .type "list", dict := odict, data := .seq items nl, slots := oslots } := Heap.get?_push_of_some _ hol
        have hsls := F.sub_list_set
        have hslf := F.sub_list_frozenset
        have hne : (Value.type "list" == Value.type "dict") = false := by decide
        have hl1 : (s.heap.push { cls := .type "set", dict := none, data := .set #[] 0 (.fresh 0 0 (!w.params.followText "set-order")) }).IsList l items := ⟨_, hol', rfl, nl, rfl⟩
        unfold Builtin.«set.__init__» noKeywords Builtin.Frozenset.updateFrom
        generalize hPI : pyIter = PI
        wp_walk
        subst hPI

        refine wpAny_pyIter_list hl1 ?_
        refine wpAny_bind (wpAny_runValue ?_)
        have hlS : l < s.heap.objs.size := Heap.lt_size hol
        have hh3 : A.in1.in1.in1.handled = none := by simp [hh]
        have hz1 : (s.heap.push { cls := .type "set", dict := none, data := .set #[] 0 (.fresh 0 0 (!w.params.followText "set-order")) }).objs.size = s.heap.objs.size + 1 := Heap.size_push ..
        have hneI : l ≠ (s.heap.push { cls := .type "set", dict := none, data := .set #[] 0 (.fresh 0 0 (!w.params.followText "set-order")) }).objs.size := by
          rw [Heap.size_push]; exact Nat.ne_of_lt (Nat.lt_succ_of_lt hlS)
        have hSf : s.heap.objs.size ∉ [(s.heap.push { cls := .type "set", dict := none, data := .set #[] 0 (.fresh 0 0 (!w.params.followText "set-order")) }).objs.size, l] := by
          rw [Heap.size_push]; simp only [List.mem_cons, List.mem_singleton, List.not_mem_nil, or_false, not_or]
          exact ⟨Nat.ne_of_lt (Nat.lt_succ_self _), Nat.ne_of_gt hlS⟩
        have hval : ∀ (i : Nat) (v : Value), items[i]? = some v → ∃ k t, ns[i]? = some k ∧ v = .int k t := fun i v hv => by
          have hi : i < ns.length := by rw [← hisz]; exact (Array.getElem?_eq_some_iff.mp hv).1
          obtain ⟨t, e⟩ := PyProof.Rows.IntsAre.int_at hit i v (by rw [Array.getElem?_toList]; exact hv)
          refine ⟨ns[i], t, List.getElem?_eq_getElem hi, ?_⟩
          rw [e, List.getD_eq_getElem?_getD, List.getElem?_eq_getElem hi] <;> rfl
        refine set_update_ints ((Walks.list hh3 _ l hneI items).toS) s.heap.objs.size
          hSf ns hisz hb hval (items.size - 0) 0 _ (by omega) (Nat.zero_le _)
          ⟨⟨_, Heap.get?_push_size _ rfl, rfl, rfl⟩, (hl1.push _)⟩ ?hS0 ?hR
        case hS0 =>
          have hget : ((s.heap.push { cls := .type "set", dict := none, data := .set #[] 0 (.fresh 0 0 (!w.params.followText "set-order")) }).push { cls := .type "list_iterator", data := .fields #[.ref l, .int 0 0] }).get? s.heap.objs.size
              = some { cls := .type "set", dict := none, data := .set #[] 0 (.fresh 0 0 (!w.params.followText "set-order")) } := Heap.get?_push_of_some _ hS
          exact ⟨0, Nat.le_refl 0, setR_new_at hget⟩
        case hR =>
          intro s' c' hm hc' hS'
          obtain ⟨h', g2, d', tk', os'⟩ := s'
          have eg : g2 = s.gens := hm.gens
          have ed : d' = s.drawn := hm.drawn
          have eo : os' = s.os := hm.os
          subst eg; subst ed; subst eo
          show wpAny _ _ _ _ _ _
          refine wpAny_pure ?_
          show wpAny _ _ (ret Value.none) _ _ _
          rw [hisz] at hc'
          refine wpAny_pure ⟨rfl, h', tk', c', rfl, hS', hc', fun b o e => ?_⟩
          have hb0 : b < s.heap.objs.size := Heap.lt_size e
          have hb1 : b ≠ s.heap.objs.size := Nat.ne_of_lt hb0
          have hb2 : b ≠ (s.heap.push { cls := .type "set", dict := none, data := .set #[] 0 (.fresh 0 0 (!w.params.followText "set-order")) }).objs.size := by
            rw [Heap.size_push]; exact Nat.ne_of_lt (Nat.lt_succ_of_lt hb0)
          exact hm.heap b o (by simp only [List.mem_cons, List.mem_singleton, List.not_mem_nil, or_false, not_or]; exact ⟨hb1, hb2⟩) (Heap.get?_push_of_some _ (Heap.get?_push_of_some _ e))

      · cases r₂ with
        | error e => exact hr₂
        | ok fl₂ =>
          cases fl₂ with
          | ret r =>
            obtain ⟨rfl, h', tk, c', rfl, hS', hc', hk'⟩ := hr₂
            repeat (any_goals (first | assumption | wp_step))
            exact h _ _ _ hS' hc' hk'
          | _ => exact hr₂.elim
    | _ => exact hr.elim

end
end Lf
namespace Lf
open PySem PySem.Spec L2
open PyProof.Rows hiding St

/-! ### sorted(set(ints)) -/
def insU (k : Int) : List Int → List Int
  | [] => [k]
  | m :: r => if k < m then k :: m :: r else if k = m then m :: r else m :: insU k r
def sortU (ns : List Int) : List Int := ns.foldr insU []
theorem insU_mem {k j : Int} : ∀ {l : List Int}, j ∈ insU k l ↔ j = k ∨ j ∈ l
  | [] => by simp [insU]
  | m :: r => by
    unfold insU
    split
    · simp
    · split
      · rename_i h; subst h; simp
      · simp only [List.mem_cons, insU_mem (l := r)]
        constructor
        · rintro (h | h | h) <;> simp [h]
        · rintro (h | h | h) <;> simp [h]
theorem insU_sorted {k : Int} : ∀ {l : List Int}, l.Pairwise (· < ·) → (insU k l).Pairwise (· < ·)
  | [], _ => by simp [insU]
  | m :: r, h => by
    obtain ⟨h1, h2⟩ := List.pairwise_cons.mp h
    unfold insU
    split
    · rename_i hk
      refine List.pairwise_cons.mpr ⟨fun y hy => ?_, h⟩
      rcases List.mem_cons.mp hy with e | e
      · rw [e]; exact hk
      · have := h1 y e; omega
    · split
      · exact h
      · refine List.pairwise_cons.mpr ⟨fun y hy => ?_, insU_sorted h2⟩
        rcases insU_mem.mp hy with e | e
        · omega
        · exact h1 y e
theorem sortU_mem {k : Int} : ∀ {l : List Int}, k ∈ sortU l ↔ k ∈ l
  | [] => by simp [sortU]
  | m :: r => by
    have : sortU (m :: r) = insU m (sortU r) := rfl
    rw [this, insU_mem, sortU_mem (l := r)]; simp
theorem sortU_sorted : ∀ l : List Int, (sortU l).Pairwise (· < ·)
  | [] => by simp [sortU]
  | m :: r => insU_sorted (sortU_sorted r)
/-- two rising lists of the same members are one -/
theorem rising_ext : ∀ {l m : List Int}, l.Pairwise (· < ·) → m.Pairwise (· < ·) → (∀ k, k ∈ l ↔ k ∈ m) → l = m
  | [], [], _, _, _ => rfl
  | [], b :: m, _, _, h => absurd ((h b).mpr List.mem_cons_self) (by simp)
  | a :: l, [], _, _, h => absurd ((h a).mp List.mem_cons_self) (by simp)
  | a :: l, b :: m, hl, hm, h => by
    obtain ⟨l1, l2⟩ := List.pairwise_cons.mp hl
    obtain ⟨m1, m2⟩ := List.pairwise_cons.mp hm
    have e : a = b := by
      rcases List.mem_cons.mp ((h a).mp List.mem_cons_self) with e | e
      · exact e
      · rcases List.mem_cons.mp ((h b).mpr List.mem_cons_self) with f | f
        · exact f.symm
        · have := m1 a e; have := l1 b f; omega
    subst e
    rw [rising_ext l2 m2 fun k => ?_]
    constructor
    · intro hk
      rcases List.mem_cons.mp ((h k).mp (List.mem_cons_of_mem _ hk)) with e | e
      · have := l1 k hk; omega
      · exact e
    · intro hk
      rcases List.mem_cons.mp ((h k).mpr (List.mem_cons_of_mem _ hk)) with e | e
      · have := m1 k hk; omega
      · exact e
section
variable {X : Cx} {pos : Pos}
@[reducible] def lSortSet (te : LE) : LE := fun s A Q => te s A fun x A1 => seqK x A1 fun xs => orF (intsOf xs) fun ns => ns.length < 64 ∧ ∀ p, A1 p = none → Q (.ref p) (aupd A1 p (.lst ((sortU ns).map .int)))
theorem seqK_to {K : PySem.W.Frag} {H : Hp} {A : AH} {x : PV} {v : V} {k : List PV → Prop} (rx : RepV K H x v) (rh : RepH K H A) (h : seqK x A k) : ∃ p xs vs, v = .ref p ∧ (SqL K H p vs ∨ SqT K H p vs) ∧ RepVs K H xs vs ∧ k xs := by
  unfold seqK at h
  cases rx with
  | tup hs r => exact ⟨_, _, _, rfl, .inr hs.sq, r, h⟩
  | fro hs r => exact ⟨_, _, _, rfl, .inl hs.seq, r, h⟩
  | ref p =>
    dsimp only at h
    split at h
    · rename_i xs e
      obtain ⟨vs, q, r⟩ := rh p _ e
      exact ⟨p, xs, vs, rfl, .inl (.of q), r, h⟩
    · exact h.elim
  | _ => exact (show False from h).elim
theorem je_sortSet {e : Expr} {te : LE} {p p2 q : Pos} (hc : X.calm = true) (hg : Gl X "sorted") (hm : X.mg "sorted" = none) (hg2 : Gl X "set") (hm2 : X.mg "set" = none) (he : JE X e te)
    (na : starEach [e] X.env = (false, eval e X.env) :: starEach [] X.env) : JE X (.Call (.Name "sorted" p) [.Call (.Name "set" p2) [e] [] q] [] pos) (lSortSet te) := by
  refine ⟨fun pins s σ H R I ⟨s0, A, Q, rs, rh, t, k⟩ => ?_⟩
  refine Call_ (ld_blt I hg hm boot_sorted ?_)
  refine PyProof.Rows.callWith_builtin1 (PyProof.Rows.args_cons ?_ rfl) rfl rfl
  refine Call_ (ld_blt I hg2 hm2 boot_set ?_)
  refine PyProof.Rows.callWith_type1 (PyProof.Rows.args_cons (thn (he.run pins s σ H (fun v H1 => ∃ x A1, Ext X.K H H1 ∧ RepV X.K H1 x v ∧ RepH X.K H1 A1 ∧ seqK x A1 fun xs => orF (intsOf xs) fun ns => ns.length < 64 ∧ ∀ p, A1 p = none → Q (.ref p) (aupd A1 p (.lst ((sortU ns).map .int)))) I ⟨s0, A, _, rs, rh, t, fun x A1 t1 v1 H1 e1 r1 rh1 => ⟨x, A1, e1, r1, rh1, t1⟩⟩) fun v s1 ⟨v', H1, I1, r1, x, A1, e1, rx, rh1, t1⟩ => PyProof.Rows.args_nil ?_) na) na rfl
  obtain ⟨l, xs, vs, rfl, hq, rr, t2⟩ := seqK_to rx rh1 t1
  obtain ⟨ns, en, hlt, q1⟩ := orF_some t2
  cases r1
  have ex := intsOf_some en
  subst ex
  have evs := rr.ints
  subst evs
  have fin : ∀ (h' : Heap) (tk c : Nat), SetR X.w h' s1.heap.objs.size (fun j => decide (j ∈ ns)) c → c ≤ ns.length → (∀ b o, s1.heap.get? b = some o → h'.get? b = some o) →
      wpAny (model X.prog X.w) X.A (spliced (backTo pos (starEach [] X.env))) (fun vs s₂ => wpAny (model X.prog X.w) X.A (call (.builtin "sorted") (Value.ref s1.heap.objs.size :: vs)) (EP X pins σ R) X.xe s₂) X.xe { s1 with heap := h', toks := tk } := fun h' tk c RS hc' hk => by
    refine PyProof.Rows.args_nil ?_
    have hn : H1 s1.heap.objs.size = none := I1.hok.fresh (Nat.le_refl _)
    have I2 : Inv X pins σ (upd H1 s1.heap.objs.size (SetO X.w s1.heap.objs.size (fun j => decide (j ∈ ns)) c)) { s1 with heap := h', toks := tk } := I1.laid (t' := tk) hk (Nat.le_refl _) (setO_new RS)
    refine wpAny_mono (cr_sortedSet hc pins _ σ _ [V.ref s1.heap.objs.size] [Value.ref s1.heap.objs.size] R I2 (.cons rfl .nil) ⟨_, _, _, rfl, upd_same, by omega, fun ms p hs hm hl hp => ?_⟩) (fun _ _ q => q) fun _ _ q => q
    have em : ms = sortU ns := rising_ext hs (sortU_sorted ns) fun k => by rw [hm k, sortU_mem]; simp
    subst em
    have rh2 : RepH X.K (upd H1 s1.heap.objs.size (SetO X.w s1.heap.objs.size (fun j => decide (j ∈ ns)) c)) A1 := rh1.newT hn
    have pn : A1 p = none := rh2.free hp
    exact k _ _ (q1 p pn) _ _ ((e1.trans (.new hn)).trans (.new hp)) (.ref p) (newLst (.of_ints _) rh2 hp)
  rcases hq with hq | hq
  · obtain ⟨its, r, pl, hz⟩ := I1.list hq
    exact call_set_lstI ns (I1.ok.hd hc) pl.isList (by simpa using ints_of_vals r) (by unfold scanBound; omega) fun h' tk c RS hc' hk => fin h' tk c RS hc' hk
  · obtain ⟨its, r, pl, hz⟩ := I1.tuple hq
    exact call_set_tupI ns (I1.ok.hd hc) pl (by simpa using ints_of_vals r) (by unfold scanBound; omega) fun h' tk c RS hc' hk => fin h' tk c RS hc' hk

/-! ### tuple(range(..)), list(range(..)) -/
abbrev LRg := LSt → AH → (Int → Int → AH → Prop) → Prop
def cRg (K : PySem.W.Frag) (t : LRg) : L2.St → Hp → (Int → Int → Hp → Prop) → Prop := fun σ H R => ∃ s A Q, RepS K H s σ ∧ RepH K H A ∧ t s A Q ∧ ∀ a b A', Q a b A' → ∀ H', Ext K H H' → RepH K H' A' → R a b H'
@[reducible] def lRg1 (ta : LE) : LRg := fun s A Q => ta s A fun x A1 => match x with
  | .int n => Q 0 n A1
  | _ => False
@[reducible] def lRg2 (ta tb : LE) : LRg := fun s A Q => ta s A fun x A1 => tb s A1 fun y A2 => match x, y with
  | .int i, .int j => Q i j A2
  | _, _ => False
variable {a b : Expr} {ta tb : LE} {p : Pos}
theorem PRg.imp {X : Cx} {e : Expr} {t t' : L2.St → Hp → (Int → Int → Hp → Prop) → Prop} (h : PRg X e t) (q : ∀ σ H R, t' σ H R → t σ H R) : PRg X e t' := fun pins s σ H Q I z => h pins s σ H Q I (q _ _ _ z)
theorem jrg_1 (hg : Gl X "range") (hm : X.mg "range" = none) (ha : JE X a ta) (na : starEach [a] X.env = (false, eval a X.env) :: starEach [] X.env) : PRg X (.Call (.Name "range" p) [a] [] pos) (cRg X.K (lRg1 ta)) :=
  PRg.imp (prg_1 hg hm ha na) fun σ H R ⟨s, A, Q, rs, rh, t, k⟩ => ⟨s, A, _, rs, rh, t, fun x A1 q v H1 e1 r1 rh1 => by
    cases r1 with
    | int i => exact ⟨i, rfl, k _ _ _ q _ e1 rh1⟩
    | _ => exact (show False from q).elim⟩
theorem jrg_2 (hg : Gl X "range") (hm : X.mg "range" = none) (ha : JE X a ta) (hb : JE X b tb) (na : starEach [a, b] X.env = (false, eval a X.env) :: starEach [b] X.env)
    (nb : starEach [b] X.env = (false, eval b X.env) :: starEach [] X.env) (hp : (backTo pos (starEach [b] X.env)).any (·.1) = false) : PRg X (.Call (.Name "range" p) [a, b] [] pos) (cRg X.K (lRg2 ta tb)) :=
  PRg.imp (prg_2 hg hm ha hb na nb hp) fun σ H R ⟨s, A, Q, rs, rh, t, k⟩ => ⟨s, A, _, rs, rh, t, fun x A1 q v H1 e1 r1 rh1 => ⟨s, A1, _, rs.ext e1, rh1, q, fun y A2 q2 v2 H2 e2 r2 rh2 => by
    cases r1 with
    | int i =>
      cases r2 with
      | int j => exact ⟨i, j, rfl, rfl, k _ _ _ q2 _ (e1.trans e2) rh2⟩
      | _ => exact (show False from q2).elim
    | _ => exact (show False from q2).elim⟩⟩
def RgS (a b : Int) : Prop := -(2 ^ 62) ≤ a ∧ a < 2 ^ 62 ∧ -(2 ^ 62) ≤ b ∧ b < 2 ^ 62 ∧ (b - a).toNat ≤ 2 ^ 24
theorem repRg {K : PySem.W.Frag} {H : Hp} (a b : Int) : RepVs K H (rangeP a (b - a).toNat) (rgV a b) := by
  have := RepVs.of_ints (K := K) (H := H) ((List.range (b - a).toNat).map fun i => a + (i : Nat))
  rw [List.map_map, List.map_map] at this
  exact this
@[reducible] def lTupRg (t : LRg) : LE := fun s A Q => t s A fun i j A1 => RgS i j ∧ Q (.tup .own (rangeP i (j - i).toNat)) A1
@[reducible] def lLstRg (t : LRg) : LE := fun s A Q => t s A fun i j A1 => RgS i j ∧ ∀ p, A1 p = none → Q (.ref p) (aupd A1 p (.lst (rangeP i (j - i).toNat)))
variable {e : Expr} {tr : LRg}
theorem je_tupRg (hc : X.calm = true) (hg : Gl X "tuple") (hm : X.mg "tuple" = none) (he : PRg X e (cRg X.K tr)) (na : starEach [e] X.env = (false, eval e X.env) :: starEach [] X.env) : JE X (.Call (.Name "tuple" p) [e] [] pos) (lTupRg tr) :=
  (pe_tupRg hc hg hm he na).imp fun σ H R ⟨s, A, Q, rs, rh, t, k⟩ => ⟨s, A, _, rs, rh, t, fun i j A1 q H1 e1 rh1 => ⟨q.1, fun p hp => k _ _ q.2 _ _ (e1.trans (.new hp)) (newTup (repRg i j) hp) (rh1.newT hp)⟩⟩
theorem je_listRg (hc : X.calm = true) (hg : Gl X "list") (hm : X.mg "list" = none) (he : PRg X e (cRg X.K tr)) (na : starEach [e] X.env = (false, eval e X.env) :: starEach [] X.env) : JE X (.Call (.Name "list" p) [e] [] pos) (lLstRg tr) :=
  (pe_listRg hc hg hm he na).imp fun σ H R ⟨s, A, Q, rs, rh, t, k⟩ => ⟨s, A, _, rs, rh, t, fun i j A1 q H1 e1 rh1 => ⟨q.1, fun p hp => k _ _ (q.2 p (rh1.free hp)) _ _ (e1.trans (.new hp)) (.ref p) (newLst (repRg i j) rh1 hp)⟩⟩

/-! ### dicts displayed -/
@[reducible] def lDict0 : LE := fun s A Q => ∀ p, A p = none → Q (.ref p) (aupd A p (.dK []))
theorem je_dict0 : JE X (.Dict [] [] pos) lDict0 := PE.imp pe_dnewK fun σ H R ⟨s, A, Q, rs, rh, t, k⟩ => fun p hp => k _ _ (t p (rh.free hp)) _ _ (.new hp) (.ref p) (rh.new hp (.inl ⟨[], upd_same, .nil⟩))
abbrev LPs := LSt → AH → (List (PV × PV) → AH → Prop) → Prop
@[reducible] def lPs : List (LE × LE) → LPs
  | [] => fun _ A Q => Q [] A
  | (tk, tv) :: r => fun s A Q => tk s A fun x A1 => tv s A1 fun y A2 => lPs r s A2 fun ps A3 => Q ((x, y) :: ps) A3
def kpOf : List (PV × PV) → Option (List (Key × PV))
  | [] => some []
  | (x, y) :: r => match keyP x, kpOf r with
    | some k, some t => some ((k, y) :: t)
    | _, _ => none
@[reducible] def lDisp (trs : List (LE × LE)) : LE := fun s A Q => ∀ p, A p = none → lPs trs s (aupd A p .dD) fun ps A2 => A2 p = some .dD ∧ ps.length ≤ 15 ∧ orF (kpOf ps) fun kvs => Q (.ref p) (aupd A2 p (.dK (mergeP [] kvs)))
abbrev RepPs (K : PySem.W.Frag) (H : Hp) : List (PV × PV) → List (V × V) → Prop := Paired fun p q => RepV K H p.1 q.1 ∧ RepV K H p.2 q.2
theorem RepPs.ext {K : PySem.W.Frag} {H H' : Hp} (e : Ext K H H') {l : List (PV × PV)} {m : List (V × V)} (r : RepPs K H l m) : RepPs K H' l m := Paired.mono (fun _ _ h => ⟨h.1.ext e, h.2.ext e⟩) r
theorem lPs_to {K : PySem.W.Frag} : ∀ {trs : List (LE × LE)} {s : LSt} {A : AH} {σ : L2.St} {H : Hp} {Q : List (PV × PV) → AH → Prop} {R : List (V × V) → Hp → Prop}, RepS K H s σ → RepH K H A → lPs trs s A Q →
    (∀ ps A', Q ps A' → ∀ us H', Ext K H H' → RepPs K H' ps us → RepH K H' A' → R us H') → tPairs (trs.map fun p => (cE K p.1, cE K p.2)) σ H R
  | [], s, A, σ, H, Q, R, rs, rh, t, k => k _ _ t _ _ (.refl _ _) .nil rh
  | (tk, tv) :: r, s, A, σ, H, Q, R, rs, rh, t, k => ⟨s, A, _, rs, rh, t, fun x A1 q v H1 e1 r1 rh1 => ⟨s, A1, _, rs.ext e1, rh1, q, fun y A2 q2 v2 H2 e2 r2 rh2 =>
      lPs_to (trs := r) ((rs.ext e1).ext e2) rh2 q2 fun ps A3 q3 us H3 e3 r3 rh3 => k _ _ q3 _ _ (e1.trans (e2.trans e3)) (.cons ⟨(r1.ext e2).ext e3, r2.ext e3⟩ r3) rh3⟩⟩
theorem kpOf_to {K : PySem.W.Frag} {H : Hp} : ∀ {ps : List (PV × PV)} {us : List (V × V)} {kvs : List (Key × PV)}, RepPs K H ps us → kpOf ps = some kvs → ∃ ks, us = ks.map (fun kv => (kV kv.1, kv.2)) ∧ RepD K H kvs ks
  | [], _, kvs, .nil, e => by
    have : kvs = [] := by simpa [kpOf] using e.symm
    subst this; exact ⟨[], rfl, .nil⟩
  | (x, y) :: r, (v, w) :: m, kvs, .cons h t, e => by
    unfold kpOf at e
    split at e
    · rename_i kk tt e1 e2
      cases e
      obtain ⟨ks, rfl, q⟩ := kpOf_to t e2
      have := keyP_rep h.1 e1
      dsimp only at this
      subst this
      exact ⟨(kk, w) :: ks, rfl, .cons ⟨rfl, h.2⟩ q⟩
    · cases e
theorem je_disp {keys : List (Option Expr)} {values : List Expr} {trs : List (LE × LE)} (h : PPs X pos keys values (trs.map fun p => (cE X.K p.1, cE X.K p.2))) (hall : keys.all (·.isSome) = true) (hl : keys.length = values.length) (h0 : keys ≠ [])
    (h15 : keys.length ≤ 15) : JE X (.Dict keys values pos) (lDisp trs) :=
  (pe_disp h hall hl h0 h15).imp fun σ H R ⟨s, A, Q, rs, rh, t, k⟩ => fun p hp => by
    have rh1 : RepH X.K (upd H p (.dK [])) (aupd A p .dD) := rh.new hp upd_same
    refine lPs_to (rs.ext (.new hp)) rh1 (t p (rh.free hp)) fun ps A2 ⟨eA, h15', q⟩ us H2 e2 rp rh2 => ?_
    obtain ⟨kvs, ek, q⟩ := orF_some q
    have l0 : ∀ {l : List (PV × PV)} {m : List (V × V)}, RepPs X.K H2 l m → l.length = m.length := fun r => by
      induction r with
      | nil => rfl
      | cons _ _ ih => simp [ih]
    have l0 := l0 rp
    obtain ⟨ks, rfl, rd⟩ := kpOf_to rp ek
    have hd : H2 p = some (.dK []) := rh2 p _ eA
    refine ⟨hd, ks, rfl, ?_, ?_⟩
    · rw [List.length_map] at l0; omega
    · have mu : Mut (H2 p) := by rw [hd]; trivial
      exact k _ _ q _ _ ((Ext.new hp).trans (e2.trans (.mut mu))) (.ref p) (rh2.put mu (.inl ⟨_, upd_same, (RepD.merge rd .nil).ext (.mut mu)⟩))

/-! ### minus, and, or -/
@[reducible] def lNegE (te : LE) : LE := fun s A Q => te s A fun x A1 => match x with
  | .int i => Q (.int (-i)) A1
  | _ => False
theorem je_neg (ha : JE X a ta) : JE X (.UnaryOp .USub a pos) (lNegE ta) := (pe_un un_neg ha).imp fun σ H R ⟨s, A, Q, rs, rh, t, k⟩ => ⟨s, A, _, rs, rh, t, fun x A1 q v H1 e1 r1 rh1 => by
  cases r1 with
  | int i => exact ⟨i, rfl, k _ _ q _ _ e1 (.int _) rh1⟩
  | _ => exact (show False from q).elim⟩
end
end Lf
namespace Lf
open PySem PySem.Spec L2
open PyProof.Rows hiding St

/-! ### the printed walk's lemmas: what is seen of the text is asked behind the parts -/
def visB (sc : Scope) (x : Str) : Bool := match sc.names.lookup x with
  | some .local => true
  | some .cell => true
  | some .free => true
  | _ => false
def locB (sc : Scope) (x : Str) : Bool := match sc.names.lookup x with
  | some .local => true
  | some .cell => true
  | _ => false
theorem vis_of {sc : Scope} {x : Str} (h : visB sc x = true) : Vis sc x := by
  unfold visB at h
  split at h
  · exact .inl (by assumption)
  · exact .inr (.inl (by assumption))
  · exact .inr (.inr (by assumption))
  · cases h
theorem loc_of {sc : Scope} {x : Str} (h : locB sc x = true) : Loc sc x := by
  unfold locB at h
  split at h
  · exact .inl (by assumption)
  · exact .inr (by assumption)
  · cases h
theorem u64 {n : Nat} (h : n + 200 < cLine) : n + 64 < cLine := by omega
theorem u1 {n : Nat} (h : n + 200 < cLine) : n + 1 < cLine := by omega
/-- no builtin that is used is a global -/
structure Blts (mg : Str → Option Value) : Prop where
  len : mg "len" = none
  range : mg "range" = none
  sorted : mg "sorted" = none
  set : mg "set" = none
  dict : mg "dict" = none
  list : mg "list" = none
  tuple : mg "tuple" = none
  min : mg "min" = none
  max : mg "max" = none
  isinstance : mg "isinstance" = none
  all : mg "all" = none
  any : mg "any" = none
  int : mg "int" = none
  enumerate : mg "enumerate" = none
  zip : mg "zip" = none
  abs : mg "abs" = none
  bool : mg "bool" = none
  str : mg "str" = none
  divmod : mg "divmod" = none
  sum : mg "sum" = none
  reversed : mg "reversed" = none
/-- a def that stands at a global name -/
structure GFn (P : Program) (w : World) (K : PySem.W.Frag) (mg : Str → Option Value) (base : Heap) (k : Nat) (x : Str) (ps : List Str) (S : LSp) : Prop where
  ex : ∃ (f : Addr) (fd : FuncData), mg x = some (.ref f) ∧ PySem.W.keepIn K (.ref f) = true ∧ Binds K fd ps [] ∧ LFn P w K mg base k f fd ps S
theorem GFn.mono {P : Program} {w : World} {K : PySem.W.Frag} {mg : Str → Option Value} {base : Heap} {j k : Nat} {x : Str} {ps : List Str} {S : LSp} (F : GFn P w K mg base j x ps S) (h : j ≤ k) : GFn P w K mg base k x ps S :=
  let ⟨f, fd, a, b, c, d⟩ := F.ex; ⟨f, fd, a, b, c, FnOk.mono d h⟩
section
variable {X : Cx} {x : Str} {p pos p2 p3 : Pos} {e a b c : Expr} {es : List Expr} {te ta tb tc : LE} {tes : LA}
theorem w_v (i : Nat) (h1 : X.N[i]? = some x := by rfl) (h2 : visB X.env.scope x = true := by rfl) (h3 : (x == ("__debug__" : Str)) = false := by rfl) (h4 : (x == ("__classdict__" : Str)) = false := by rfl) : JE X (.Name x p) (lVar i) := je_var h1 (vis_of h2) h3 h4
theorem w_i {i : Int} {j : Nat} : JE X (.Constant (.int i) j p) (lC (.int i)) := je_const pe_int fun _ => .int i
theorem w_s {i : Str} {j : Nat} : JE X (.Constant (.str i) j p) (lC (.str i)) := je_const pe_str fun _ => .str i
theorem w_bl {i : Bool} {j : Nat} : JE X (.Constant (.bool i) j p) (lC (.bl i)) := je_const pe_bl fun _ => .bl i
theorem w_n {j : Nat} : JE X (.Constant .none j p) (lC .non) := je_const pe_non fun _ => .non
theorem w_a (h : JE X e te) (hr : JA X es tes) (hs : starEach (e :: es) X.env = (false, eval e X.env) :: starEach es X.env := by rfl) : JA X (e :: es) (lCons te tes) := ja_cons h hr hs
theorem w_cmp {op : CmpOp} {r : L2R} (ho : LOp X (compareOp op) r) (ha : JE X a ta) (hb : JE X b tb) (hm : behindInMarks op b = false := by rfl) : JE X (.Compare a [op] [b] pos) (lOp r ta tb) := je_cmp ho ha hb hm
theorem w_tcmp {op : CmpOp} {r : L2R} (ho : LOp X (compareOp op) r) (ha : JE X a ta) (hb : JE X b tb) (hm : behindInMarks op b = false := by rfl) : JT X (.Compare a [op] [b] pos) (lTest (lOp r ta tb)) := jt_cmp ho ha hb hm
theorem w_chain {op op' : CmpOp} {r r' : L2R} (ho : LOp X (compareOp op) r) (ho' : LOp X (compareOp op') r') (ha : JE X a ta) (hb : JE X b tb) (hc : JE X c tc) (hm : lastMarks [op, op'] [b, c] = false := by rfl) : JE X (.Compare a [op, op'] [b, c] pos) (lChain r r' ta tb tc) := je_chain ho ho' ha hb hc hm
theorem w_tchain {op op' : CmpOp} {r r' : L2R} (ho : LOp X (compareOp op) r) (ho' : LOp X (compareOp op') r') (ha : JE X a ta) (hb : JE X b tb) (hc : JE X c tc) (hm : lastMarks [op, op'] [b, c] = false := by rfl) : JT X (.Compare a [op, op'] [b, c] pos) (lTest (lChain r r' ta tb tc)) := jt_chain ho ho' ha hb hc hm
theorem w_tru (ha : JE X a ta) (he : ∀ whole, isTrue a X.env whole = (do let v ← whole; standAt a.pos; holding [v] (truthy v)) := by intro _; rfl) : JT X a (lTruE ta) := jt_truth ha he
theorem w_pt {t : LT} (h : PW X e (cT X.K t)) : JT X e t := PW.pt h
theorem w_and1 {t : LT} (h : JT X a t) : PW X (.BoolOp .And [a] pos) (cT X.K t) := pw_and1 h
theorem w_or1 {t : LT} (h : JT X a t) : PW X (.BoolOp .Or [a] pos) (cT X.K t) := pw_or1 h
theorem w_cb {id : String} {r : LCR} (hc : LCall X (.builtin id) r) (hm : X.mg x = none) (hv : bootBuiltins x = some (.builtin id)) (ha : JA X (e :: es) tes) (hg : Gl X x := by rfl) (hn : x ≠ "__name__" := by decide) (hdb : (x == ("__debug__" : Str)) = false := by rfl)
    (he : starEach (e :: es) X.env = (false, eval e X.env) :: starEach es X.env := by rfl) (hpl : (backTo pos (starEach es X.env)).any (·.1) = false := by rfl) : JE X (.Call (.Name x p) (e :: es) [] pos) (lCB r tes) :=
  (pe_callB hc hg hm hv ha hn hdb he hpl).imp fun _ _ _ h => lCB_to h
theorem w_ct {id : String} {r : LCR} (hc : LCall X (.type id) r) (hm : X.mg x = none) (hv : bootBuiltins x = some (.type id)) (ha : JA X (e :: es) tes) (hg : Gl X x := by rfl) (hn : x ≠ "__name__" := by decide) (hdb : (x == ("__debug__" : Str)) = false := by rfl)
    (he : starEach (e :: es) X.env = (false, eval e X.env) :: starEach es X.env := by rfl) (hpl : (backTo pos (starEach es X.env)).any (·.1) = false := by rfl) : JE X (.Call (.Name x p) (e :: es) [] pos) (lCB r tes) :=
  (pe_callTy hc hg hm hv ha hn hdb he hpl).imp fun _ _ _ h => lCB_to h
theorem w_ty {T : String} (hm : X.mg x = none) (hv : bootBuiltins x = some (.type T)) (hg : Gl X x := by rfl) (hn : x ≠ "__name__" := by decide) (hdb : (x == ("__debug__" : Str)) = false := by rfl) : JE X (.Name x p) (lC (.ty T)) :=
  ⟨fun pins s σ H R I ⟨s0, A, Q, rs, rh, t, k⟩ => ld_blt I hg hm hv ⟨.ty T, H, I, rfl, k _ _ t _ _ (.refl _ _) (.ty T) rh⟩ hn hdb⟩
theorem w_call {W : LW} {k : Nat} {ps : List Str} {S : LSp} (F : GFn X.prog X.w X.K X.mg X.base k x ps S) (tk : Takes X (cW X.K W)) (hr : Room k X.A) (ha : JA X (e :: es) tes) (hg : Gl X x := by rfl) (hdb : (x == ("__debug__" : Str)) = false := by rfl)
    (he : starEach (e :: es) X.env = (false, eval e X.env) :: starEach es X.env := by rfl) (hpl : (backTo pos (starEach es X.env)).any (·.1) = false := by rfl) : JE X (.Call (.Name x p) (e :: es) [] pos) (lCall W S tes) :=
  let ⟨_, _, a, b, c, d⟩ := F.ex; je_call d tk hr hg a b c ha hdb he hpl
theorem w_ix (hu : X.A.units + 200 < cLine) (ha : JE X a ta) (hb : JE X b tb) (hs : PlainIx b := by intro _ _; rfl) : JE X (.Subscript a b pos) (lOp lIx ta tb) := je_ix (by omega) ha hb hs
/-! methods -/
variable {o : Expr} {to : LE} {name : Str} {apos cpos : Pos} {alts : List (String × LMR)}
theorem w_m0 (hal : altsIn alts = true ∧ ∀ p ∈ alts, MAlt X name p.1 p.2) (ho : JE X o to) (hbase : attributeBase o name X.env (eval o X.env) = eval o X.env := by rfl) (hline : (apos.endLine == cpos.line) = true := by rfl) :
    JE X (.Call (.Attribute o name apos) [] [] cpos) (lMeth alts to lNil) := je_meth0 hal.1 hal.2 ho hbase hline
theorem w_m (hal : altsIn alts = true ∧ ∀ p ∈ alts, MAlt X name p.1 p.2) (ho : JE X o to) (ha : JA X (e :: es) tes)
    (hbase : attributeBase o name X.env (eval o X.env) = eval o X.env := by rfl)
    (hfew : ((backTo cpos (starEach (e :: es) X.env)).all (fun x => !x.1) && (backToKw cpos (keywordEach [] X.env)).all (fun x => x.1.isSome)
      && decide ((e :: es).length + ([] : List Keyword).length + (if ([] : List Keyword).isEmpty then 0 else 1) < 30)) = true := by rfl)
    (hline : (apos.endLine == cpos.line) = true := by rfl) (hs : starEach (e :: es) X.env = (false, eval e X.env) :: starEach es X.env := by rfl) (hplain : (backTo cpos (starEach es X.env)).any (·.1) = false := by rfl) :
    JE X (.Call (.Attribute o name apos) (e :: es) [] cpos) (lMeth alts to tes) := je_meth hal.1 hal.2 ho ha hbase hfew hline hs hplain
abbrev AltsOk (X : Cx) (name : Str) (alts : List (String × LMR)) : Prop := altsIn alts = true ∧ ∀ p ∈ alts, MAlt X name p.1 p.2
theorem alt_nil : AltsOk X name [] := ⟨rfl, fun _ h => nomatch h⟩
theorem alt_cons {T : String} {r : LMR} (h : MAlt X name T r) (t : AltsOk X name alts) (hin : altsIn ((T, r) :: alts) = true := by decide +kernel) : AltsOk X name ((T, r) :: alts) :=
  ⟨hin, fun p hp => by
    rcases List.mem_cons.mp hp with e | e
    · subst e; exact h
    · exact t.2 p e⟩
abbrev mAppend : List (String × LMR) := [("list", lAppend)]
abbrev mExtend : List (String × LMR) := [("list", lExtend)]
abbrev mReverse : List (String × LMR) := [("list", lReverse)]
abbrev mClear : List (String × LMR) := [("list", lClear)]
abbrev mIndex : List (String × LMR) := [("list", lIndex)]
abbrev mPop : List (String × LMR) := [("list", lPopL), ("dict", lPopD)]
abbrev mGet : List (String × LMR) := [("dict", lGet)]
theorem al_append : AltsOk X "append" mAppend := alt_cons ⟨_, F.plainAttrs_list, F.slot_list_append, F.type_list_append, lmt_append⟩ alt_nil
theorem al_extend : AltsOk X "extend" mExtend := alt_cons ⟨_, F.plainAttrs_list, F.slot_list_extend, F.type_list_extend, lmt_extend⟩ alt_nil
theorem al_reverse : AltsOk X "reverse" mReverse := alt_cons ⟨_, F.plainAttrs_list, F.slot_list_reverse, F.type_list_reverse, lmt_reverse⟩ alt_nil
theorem al_clear : AltsOk X "clear" mClear := alt_cons ⟨_, F.plainAttrs_list, F.slot_list_clear, F.type_list_clear, lmt_clear⟩ alt_nil
theorem al_index : AltsOk X "index" mIndex := alt_cons ⟨_, F.plainAttrs_list, F.slot_list_index, F.type_list_index, lmt_index⟩ alt_nil
theorem al_pop (hu : X.A.units + 200 < cLine) : AltsOk X "pop" mPop := alt_cons ⟨_, F.plainAttrs_list, F.slot_list_pop, F.type_list_pop, lmt_popL⟩ (alt_cons ⟨_, F.plainAttrs_dict, F.slot_dict_pop, F.type_dict_pop, lmt_popD⟩ alt_nil)
theorem al_get (hu : X.A.units + 200 < cLine) : AltsOk X "get" mGet := alt_cons ⟨_, F.plainAttrs_dict, F.slot_dict_get, F.type_dict_get, lmt_get (by omega)⟩ alt_nil

/-! iterables -/
variable {tg : Expr} {elts : List Expr} {kk : Nat} {tpos : Pos}
theorem w_rg1 (hm : X.mg "range" = none) (ha : JA X [a] tes) (hg : Gl X "range" := by rfl) (hs : starEach [a] X.env = [(false, eval a X.env)] := by rfl) : JI X tg (.Call (.Name "range" p) [a] [] pos) (lRng1 tes) := ji_range1 hg hm ha hs
theorem w_rg2 (hm : X.mg "range" = none) (ha : JA X [a, b] tes) (hg : Gl X "range" := by rfl) (hs : starEach [a, b] X.env = [(false, eval a X.env), (false, eval b X.env)] := by rfl) (hs2 : starEach [b] X.env = [(false, eval b X.env)] := by rfl) : JI X tg (.Call (.Name "range" p) [a, b] [] pos) (lRng2 tes) := ji_range2 hg hm ha hs hs2
theorem w_enum (hm : X.mg "enumerate" = none) (ha : JA X [e] tes) (hg : Gl X "enumerate" := by rfl) (hs : starEach [e] X.env = [(false, eval e X.env)] := by rfl) : JI X (.Tuple elts kk tpos) (.Call (.Name "enumerate" p) [e] [] pos) (lEnum tes) := ji_enum hg hm ha hs
theorem w_zip (hm : X.mg "zip" = none) (ha : JA X [a, b] tes) (hg : Gl X "zip" := by rfl) (hs : starEach [a, b] X.env = (false, eval a X.env) :: starEach [b] X.env := by rfl) (hpl : (backTo pos (starEach [b] X.env)).any (·.1) = false := by rfl) : JI X (.Tuple elts kk tpos) (.Call (.Name "zip" p) [a, b] [] pos) (lZip tes) := ji_zip hg hm ha hs hpl
theorem w_rev (hm : X.mg "reversed" = none) (ha : JA X [e] tes) (hg : Gl X "reversed" := by rfl) (hs : starEach [e] X.env = [(false, eval e X.env)] := by rfl) : JI X tg (.Call (.Name "reversed" p) [e] [] pos) (lRev tes) := ji_rev hg hm ha hs
/-! sets, ranges, displays -/
theorem w_sset (hc : X.calm = true) (hm : X.mg "sorted" = none) (hm2 : X.mg "set" = none) (he : JE X e te) (hg : Gl X "sorted" := by rfl) (hg2 : Gl X "set" := by rfl)
    (na : starEach [e] X.env = (false, eval e X.env) :: starEach [] X.env := by rfl) : JE X (.Call (.Name "sorted" p) [.Call (.Name "set" p2) [e] [] p3] [] pos) (lSortSet te) := je_sortSet hc hg hm hg2 hm2 he na
theorem w_r1 (hm : X.mg "range" = none) (ha : JE X a ta) (hg : Gl X "range" := by rfl) (na : starEach [a] X.env = (false, eval a X.env) :: starEach [] X.env := by rfl) : PRg X (.Call (.Name "range" p) [a] [] pos) (cRg X.K (lRg1 ta)) := jrg_1 hg hm ha na
theorem w_r2 (hm : X.mg "range" = none) (ha : JE X a ta) (hb : JE X b tb) (hg : Gl X "range" := by rfl) (na : starEach [a, b] X.env = (false, eval a X.env) :: starEach [b] X.env := by rfl)
    (nb : starEach [b] X.env = (false, eval b X.env) :: starEach [] X.env := by rfl) (hp : (backTo pos (starEach [b] X.env)).any (·.1) = false := by rfl) : PRg X (.Call (.Name "range" p) [a, b] [] pos) (cRg X.K (lRg2 ta tb)) := jrg_2 hg hm ha hb na nb hp
theorem w_tr {tr : LRg} (hc : X.calm = true) (hm : X.mg "tuple" = none) (he : PRg X e (cRg X.K tr)) (hg : Gl X "tuple" := by rfl) (na : starEach [e] X.env = (false, eval e X.env) :: starEach [] X.env := by rfl) : JE X (.Call (.Name "tuple" p) [e] [] pos) (lTupRg tr) := je_tupRg hc hg hm he na
theorem w_lr {tr : LRg} (hc : X.calm = true) (hm : X.mg "list" = none) (he : PRg X e (cRg X.K tr)) (hg : Gl X "list" := by rfl) (na : starEach [e] X.env = (false, eval e X.env) :: starEach [] X.env := by rfl) : JE X (.Call (.Name "list" p) [e] [] pos) (lLstRg tr) := je_listRg hc hg hm he na
/-! targets, statements -/
theorem w_hn (i : Nat) {K : PySem.W.Frag} (hN : X.N.Nodup) (hi : X.N[i]? = some x := by rfl) (hx : locB X.env.scope x = true := by rfl) (hf : X.fn x = true ∨ X.env.scope.names.lookup x = some .local := by first | exact .inl rfl | exact .inr rfl) : PG X (.Name x p) (hgT K (.name i)) := hg_name hN hi (loc_of hx) hf
theorem w_hc {t : Tgt} {ts : List Tgt} {K : PySem.W.Frag} (h1 : PG X e (hgT K t)) (h2 : PGs X es (hgTs K ts)) (hs : (assignEach (e :: es) X.env).map (·.2) = assign e X.env :: (assignEach es X.env).map (·.2) := by rfl) : PGs X (e :: es) (hgTs K (t :: ts)) := hgs_cons h1 h2 hs
theorem w_ht {ts : List Tgt} {k : Nat} (hc : X.calm = true) (h : PGs X es (hgTs X.K ts)) (hn : (assignEach es X.env).length = ts.length := by rfl) (hst : (assignEach es X.env).findIdx? (·.1) = none := by rfl) : PG X (.Tuple es k p) (hgT X.K (.tup ts)) := hg_tup hc h hn hst
theorem w_gn (i : Nat) (hN : X.N.Nodup) (hi : X.N[i]? = some x := by rfl) (hx : locB X.env.scope x = true := by rfl) (hf : X.fn x = true ∨ X.env.scope.names.lookup x = some .local := by first | exact .inl rfl | exact .inr rfl) : JG X (.Name x pos) (lgName i) := jg_name hN hi (loc_of hx) hf
theorem w_gc {g : LG} {u : LGs} (h1 : JG X e g) (h2 : PGs X es (cGs X.K u)) (hs : (assignEach (e :: es) X.env).map (·.2) = assign e X.env :: (assignEach es X.env).map (·.2) := by rfl) : PGs X (e :: es) (cGs X.K (lgCons g u)) := jgs_cons h1 h2 hs
theorem w_gt {k : Nat} {u : LGs} {n : Nat} (hc : X.calm = true) (h : PGs X es (cGs X.K u)) (hn : (assignEach es X.env).length = n := by rfl) (hst : (assignEach es X.env).findIdx? (·.1) = none := by rfl) : JG X (.Tuple es k pos) (lgTup n u) := jg_tup hc h hn hst
theorem w_gs {i : Expr} {ti : LE} (hu : X.A.units + 200 < cLine) (ho : JE X o to) (hi : JE X i ti)
    (ha : ∀ v, assign (.Subscript o i pos) X.env v = (do
      let ov ← holding [v] (eval o X.env)
      let iv ← holding [v, ov] (eval i X.env)
      standAt pos
      holding [v, ov, iv] (setItem ov iv v)
      release [v, ov, iv] []) := by intro _; rfl) : JG X (.Subscript o i pos) (lgSub to ti) := jg_sub (by omega) ho hi ha
theorem w_asg {g : LG} (he : JE X e te) (hg : JG X tg g) (hs : swapsWithSole [tg] e pos.line X.env = pure false := by rfl) (hw : swappedStores [tg] e X.env = pure none := by rfl)
    (h1 : (assignEach [tg] X.env).map (·.2) = [assign tg X.env] := by rfl) : JS X (.Assign [tg] e pos) (lAsg te g) := js_asg he hg hs hw h1
theorem w_ex (he : JE X e te) (hs : swapsWith e none pos.line X.env = pure false := by rfl) : JS X (.Expr e pos) (lDrop te) := js_expr he hs
theorem w_doc {j : Nat} {d : Str} : JS X (.Expr (.Constant (.str d) j p) pos) lNext := js_next ps_doc
theorem w_for {iter : Expr} {body : List Stmt} {wi : LI} {g : LG} {t : LS} (hp : PassesOwn (model X.prog X.w) X.A X.env X.xe) (hc : X.calm = true) (hi : JI X tg iter wi) (hg : JG X tg g) (hb : JSs X body t)
    (hs : ∀ x, foldedSetIterable iter X.env x = pure x := by intro _; rfl) : JS X (.For tg iter body [] pos) (lFor wi g t) := js_for hp hc hi hg hb hs
theorem w_par (i j : Nat) {y : Str} {px py pt : Pos} {kt k2 : Nat} {pt2 : Pos} (hc : X.calm = true) (hN : X.N.Nodup) (ha : JA X [a, b] tes) (hi : X.N[i]? = some x := by rfl) (hj : X.N[j]? = some y := by rfl) (hij : i ≠ j := by decide)
    (hx : X.env.scope.names.lookup x = some .local := by rfl) (hy : X.env.scope.names.lookup y = some .local := by rfl)
    (hw : swappedStores [.Tuple [.Name x px, .Name y py] kt pt] (.Tuple [a, b] k2 pt2) X.env = pure (some [x, y]) := by rfl) :
    JS X (.Assign [.Tuple [.Name x px, .Name y py] kt pt] (.Tuple [a, b] k2 pt2) pos) (lPar i j tes) := js_par hc hN hi hj hij hx hy ha hw
theorem w_aug (i : Nat) {op : Operator} {r : L2R} (hN : X.N.Nodup) (he : JE X e te) (ho : LOp X (inplaceOp op) r) (hi : X.N[i]? = some x := by rfl) (hx : locB X.env.scope x = true := by rfl) (hf : X.fn x = true ∨ X.env.scope.names.lookup x = some .local := by first | exact .inl rfl | exact .inr rfl) :
    JS X (.AugAssign (.Name x p) op e pos) (lAug i r te) := js_aug hN hi (loc_of hx) he ho hf
/-! comprehensions -/
variable {elt iter : Expr} {ifs : List Expr} {scope : Scope} {wi : LI} {T : Tgt} {tt : LT}
theorem w_lc {vs : List Nat} (own : List (Str × Nat)) (hc : X.calm = true) (hN : X.N.Nodup) (hi : JI X tg iter wi) (hg : ∀ s H C cl fp, PG (Blk X s H scope C cl fp) tg (hgT X.K T)) (ht : ∀ s H C cl fp, JTs (Blk X s H scope C cl fp) ifs tt)
    (he : ∀ s H C cl fp, JE (Blk X s H scope C cl fp) elt te) (ok : blkC X.N X.env.scope scope own = true := by rfl) (hv : ((slotsT T).all fun i => decide (i ∈ own.map (·.2))) = true := by rfl) (hs : ∀ x, foldedSetIterable iter X.env x = pure x := by intro _; rfl) (hvs : own.map (·.2) = vs := by rfl) :
    JE X (.ListComp elt [⟨tg, iter, ifs, 0⟩] scope pos) (lComp wi T tt te vs) := by
  subst hvs
  exact je_lc hc hN hi (blkOk_by ok) (fun i h => by simpa using List.all_eq_true.mp hv i h) hg ht he hs
theorem w_alc {vs : List Nat} (i : Nat) {y : Str} {py spos : Pos} (own : List (Str × Nat)) (hc : X.calm = true) (hN : X.N.Nodup) (hi : JI X tg iter wi) (hg : ∀ s H C cl fp, PG (Blk X s H scope C cl fp) tg (hgT X.K T)) (ht : ∀ s H C cl fp, JTs (Blk X s H scope C cl fp) ifs tt)
    (he : ∀ s H C cl fp, JE (Blk X s H scope C cl fp) elt te) (hy : X.N[i]? = some y := by rfl) (hyl : X.env.scope.names.lookup y = some .local := by rfl) (hl : (py.line == pos.line) = true := by rfl) (hk : X.env.scope.kind = .function := by rfl)
    (hsw : (scope.names.any fun (n, k) => n == y && (k == .local || k == .cell)) = false := by rfl) (ok : blkC X.N X.env.scope scope own = true := by rfl) (hv : ((slotsT T).all fun i => decide (i ∈ own.map (·.2))) = true := by rfl) (hs : ∀ x, foldedSetIterable iter X.env x = pure x := by intro _; rfl) (hvs : own.map (·.2) = vs := by rfl) :
    JS X (.Assign [.Name y py] (.ListComp elt [⟨tg, iter, ifs, 0⟩] scope pos) spos) (lAsg (lComp wi T tt te vs) (lgName i)) := by
  subst hvs
  exact js_lc hc hN hy hyl (sw_true hk hyl hl hsw) hi (blkOk_by ok) (fun i h => by simpa using List.all_eq_true.mp hv i h) hg ht he hs
theorem iopII {op : Operator} {g : Int → Int → Int} (h : OpR X (inplaceOp op) (rI0 fun i j => .int (g i j))) : LOp X (inplaceOp op) (lI0 fun i j => .int (g i j)) := lop_I0 h
end
end Lf
namespace Lf
open PySem PySem.Spec L2
open PyProof.Rows hiding St
/-! ### plain helpers -/
theorem szl {n : Nat} (h : n < 1000000) : n < sizeLine := by rw [sizeLine_eq]; omega
theorem szle {n : Nat} (h : n < 1000000) : n ≤ sizeLine := by rw [sizeLine_eq]; omega
theorem orF_of {α : Type} {o : Option α} {v : α} {k : α → Prop} (h : o = some v) (q : k v) : orF o k := by subst h; exact q
theorem atI_in {α : Type} {xs : List α} {i : Int} (h0 : 0 ≤ i) (h1 : i < xs.length) : ∃ x, atI xs i = some x ∧ xs[i.toNat]? = some x := by
  have hl : i.toNat < xs.length := by omega
  refine ⟨xs[i.toNat], ?_, by simp [hl]⟩
  unfold atI ixN
  rw [if_pos h0, if_pos h1]
  simp [hl]
theorem atI_of {α : Type} {xs : List α} {i : Int} {x : α} (h0 : 0 ≤ i) (h : xs[i.toNat]? = some x) : atI xs i = some x := by
  have hl : i.toNat < xs.length := (List.getElem?_eq_some_iff.mp h).1
  obtain ⟨y, e1, e2⟩ := atI_in (xs := xs) h0 (by omega)
  rw [h] at e2; cases e2; exact e1
theorem atI_map {α β : Type} {f : α → β} {xs : List α} {i : Int} {x : α} (h : atI xs i = some x) : atI (xs.map f) i = some (f x) := by
  unfold atI at *
  rw [List.length_map]
  cases e : ixN xs.length i with
  | none => rw [e] at h; cases h
  | some j => rw [e] at h; simp only [Option.bind_some] at h ⊢; rw [List.getElem?_map, h]; rfl
theorem ifd {p : Prop} [Decidable p] {X Y : Prop} (h : p → X) (g : ¬p → Y) : if decide p = true then X else Y := by
  by_cases q : p
  · rw [if_pos (decide_eq_true q)]; exact h q
  · rw [if_neg (by rw [decide_eq_false q]; exact Bool.false_ne_true)]; exact g q
theorem ifb {b : Bool} {X Y : Prop} (h : b = true → X) (g : b = false → Y) : if b = true then X else Y := by
  cases b with
  | true => rw [if_pos rfl]; exact h rfl
  | false => rw [if_neg Bool.false_ne_true]; exact g rfl
theorem lgT_name {i : Nat} {x : PV} {s : LSt} {A : AH} {Q : LSt → AH → Prop} (h : Q (sset s i x) A) : lgT (.name i) x s A Q := by rw [lgT]; exact h
theorem lgT_two {t u : Tgt} {k : TK} {x y : PV} {s : LSt} {A : AH} {Q : LSt → AH → Prop} (h : lgT t x s A fun s1 A1 => lgT u y s1 A1 Q) : lgT (.tup [t, u]) (.tup k [x, y]) s A Q := by
  rw [lgT]
  dsimp only
  rw [lgTs]
  have e : (fun s1 A1 => lgTs [u] [y] s1 A1 Q) = fun s1 A1 => lgT u y s1 A1 Q := by
    funext s1 A1
    rw [lgTs]
    have e2 : (fun s2 A2 => lgTs [] [] s2 A2 Q) = Q := by
      funext s2 A2; rw [lgTs]; simp
    rw [e2]
  rw [e]; exact h
theorem lgT_two_name {i j : Nat} {k : TK} {x y : PV} {s : LSt} {A : AH} {Q : LSt → AH → Prop} (h : Q (sset (sset s i x) j y) A) : lgT (.tup [.name i, .name j]) (.tup k [x, y]) s A Q := lgT_two (lgT_name (lgT_name h))
/-- what a comprehension's turn is to reach -/
def preC {α : Type} (xs : List α) (f : Nat → α → Option PV) (i : Nat) : List PV := ((xs.zipIdx).take i).filterMap fun p => f p.2 p.1
def CYes {α : Type} (D : Addr) (A : AH) (xs : List α) (f : Nat → α → Option PV) (i : Nat) (acc : List PV) (y : PV) (A5 : AH) : Prop :=
  ∃ A6, Sub A6 A5 ∧ A6 D = some (.lst acc) ∧ acc.length < sizeLine ∧ (aupd A6 D (.lst (acc ++ [y])) = aupd A D (.lst (acc ++ [y])) ∧ acc ++ [y] = preC xs f (i + 1))
def CNo {α : Type} (D : Addr) (A : AH) (xs : List α) (f : Nat → α → Option PV) (i : Nat) (acc : List PV) (A5 : AH) : Prop :=
  ∃ A6, Sub A6 A5 ∧ A6 D = some (.lst acc) ∧ (A6 = aupd A D (.lst acc) ∧ acc = preC xs f (i + 1))
structure CAt {α : Type} (xs : List α) (f : Nat → α → Option PV) (i : Nat) (a : α) (acc : List PV) : Prop where
  at_ : xs[i]? = some a
  pre : acc = preC xs f i
  few : acc.length < sizeLine
theorem CAt.tk {α : Type} {xs : List α} {f : Nat → α → Option PV} {i : Nat} {a : α} {acc : List PV} (h : CAt xs f i a acc) : (xs.zipIdx).take (i + 1) = (xs.zipIdx).take i ++ [(a, i)] := by
  rw [List.take_add_one]
  congr 1
  simp [List.getElem?_zipIdx, h.at_]
theorem CAt.yes {α : Type} {D : Addr} {A A5 : AH} {xs : List α} {f : Nat → α → Option PV} {i : Nat} {a : α} {acc : List PV} {y : PV} (h : CAt xs f i a acc) (hf : f i a = some y) (hs : Sub (aupd A D (.lst acc)) A5) : CYes D A xs f i acc y A5 := by
  refine ⟨_, hs, aupd_same, h.few, by rw [aupd_aupd], ?_⟩
  unfold preC
  rw [h.tk, List.filterMap_append, ← preC, ← h.pre]
  simp [hf]
theorem CAt.no {α : Type} {D : Addr} {A A5 : AH} {xs : List α} {f : Nat → α → Option PV} {i : Nat} {a : α} {acc : List PV} (h : CAt xs f i a acc) (hf : f i a = none) (hs : Sub (aupd A D (.lst acc)) A5) : CNo D A xs f i acc A5 := by
  refine ⟨_, hs, aupd_same, rfl, ?_⟩
  unfold preC
  rw [h.tk, List.filterMap_append, ← preC, ← h.pre]
  simp [hf]
/-- a comprehension that leaves what is there -/
theorem comp_fm {α : Type} {items : List PV} {St : AH → Prop} {A : AH} {Q : QK} {s : LSt} {tg : Tgt} {tt : LT} {te : LE} {vs : List Nat} (xs : List α) (g : α → PV) (f : Nat → α → Option PV) (hi : items = xs.map g) (hl : xs.length < sizeLine)
    (hst : ∀ D, A D = none → ∀ acc, St (aupd A D (.lst acc)))
    (step : ∀ D, A D = none → ∀ (i : Nat) (a : α) (acc : List PV), CAt xs f i a acc → lgT tg (g a) (wipeL s vs) (aupd A D (.lst acc)) fun s3 A3 => tt s3 A3 fun b A4 => if b = true then te s3 A4 fun y A5 => CYes D A xs f i acc y A5 else CNo D A xs f i acc A4)
    (fin : ∀ D, A D = none → Q (.ref D) (aupd A D (.lst ((xs.zipIdx).filterMap fun p => f p.2 p.1)))) : lCompK items St A s tg tt te vs Q := by
  intro D hD
  subst hi
  refine ⟨fun i acc A2 => A2 = aupd A D (.lst acc) ∧ acc = preC xs f i, ⟨rfl, rfl⟩, ?_⟩
  rintro i acc A2 ⟨rfl, ha⟩ hD2
  refine ⟨hst D hD acc, fun e => ?_, fun x hx => ?_⟩
  · subst e
    rw [ha, preC, List.take_of_length_le (by simp)]
    exact fin D hD
  · rw [List.getElem?_map] at hx
    cases hx' : xs[i]? with
    | none => rw [hx'] at hx; cases hx
    | some a =>
      rw [hx'] at hx
      cases hx
      have hi : i < xs.length := (List.getElem?_eq_some_iff.mp hx').1
      have hlen : acc.length < sizeLine := by
        have h1 : acc.length ≤ ((xs.zipIdx).take i).length := by rw [ha]; exact List.length_filterMap_le _ _
        rw [List.length_take, List.length_zipIdx] at h1
        omega
      exact step D hD i a acc ⟨hx', ha, hlen⟩
theorem m_l {A : AH} {p : Addr} {xs : List PV} {alts : List (String × LMR)} {r : LMR} {K : LMR → Prop} (h : A p = some (.lst xs)) (hl : alts.lookup "list" = some r) (k : K r) : orF (tyOfP (.ref p) A) fun T => orF (alts.lookup T) K := by
  have e : tyOfP (.ref p) A = some "list" := by
    show (match A p with
      | some (.lst _) => some "list"
      | some (.dK _) => some "dict"
      | some (.dT _) => some "dict"
      | _ => none) = _
    rw [h]
  rw [e]
  show orF (alts.lookup "list") K
  rw [hl]; exact k
theorem m_d {A : AH} {p : Addr} {xs : List (Key × PV)} {alts : List (String × LMR)} {r : LMR} {K : LMR → Prop} (h : A p = some (.dK xs)) (hl : alts.lookup "dict" = some r) (k : K r) : orF (tyOfP (.ref p) A) fun T => orF (alts.lookup T) K := by
  have e : tyOfP (.ref p) A = some "dict" := by
    show (match A p with
      | some (.lst _) => some "list"
      | some (.dK _) => some "dict"
      | some (.dT _) => some "dict"
      | _ => none) = _
    rw [h]
  rw [e]
  show orF (alts.lookup "dict") K
  rw [hl]; exact k
theorem ift {X Y : Prop} (h : X) : if true = true then X else Y := by rw [if_pos rfl]; exact h
theorem fm_map {α : Type} (f : α → PV) : ∀ (xs : List α) (k : Nat), ((xs.zipIdx k).filterMap fun p => some (f p.1)) = xs.map f
  | [], _ => rfl
  | x :: r, k => by
    have := fm_map f r (k + 1)
    simp only [List.zipIdx_cons, List.filterMap_cons, List.map_cons]
    rw [this]
theorem comp_map {α : Type} {items : List PV} {St : AH → Prop} {A : AH} {Q : QK} {s : LSt} {tg : Tgt} {te : LE} {vs : List Nat} (xs : List α) (g : α → PV) (f : α → PV) (hi : items = xs.map g) (hl : xs.length < sizeLine)
    (hst : ∀ D, A D = none → ∀ acc, St (aupd A D (.lst acc)))
    (step : ∀ D, A D = none → ∀ (i : Nat) (a : α) (acc : List PV), CAt xs (fun _ a => some (f a)) i a acc → lgT tg (g a) (wipeL s vs) (aupd A D (.lst acc)) fun s3 A3 => te s3 A3 fun y A5 => CYes D A xs (fun _ a => some (f a)) i acc y A5)
    (fin : ∀ D, A D = none → Q (.ref D) (aupd A D (.lst (xs.map f)))) : lCompK items St A s tg lYes te vs Q :=
  comp_fm xs g (fun _ a => some (f a)) hi hl hst (fun D hD i a acc c => by
    have h := step D hD i a acc c
    have e : (fun (s3 : LSt) (A3 : AH) => lYes s3 A3 fun b A4 => if b = true then te s3 A4 fun y A5 => CYes D A xs (fun _ a => some (f a)) i acc y A5 else CNo D A xs (fun _ a => some (f a)) i acc A4) = fun s3 A3 => te s3 A3 fun y A5 => CYes D A xs (fun _ a => some (f a)) i acc y A5 := by
      funext s3 A3
      show (if true = true then _ else _) = _
      rw [if_pos rfl]
    rw [e]; exact h) (fun D hD => by
    rw [fm_map f xs 0]; exact fin D hD)
end Lf
namespace Lf
open PySem PySem.Spec L2
open PyProof.Rows hiding St
/-! ### the law's state -/
structure Stt where
  st : Addr
  c : Addr
  t : Int
  cs : List Int
structure Stt.Ok (z : Stt) : Prop where
  ne : z.c ≠ z.st
  pos : z.cs ≠ []
  few : z.cs.length ≤ 63
  t0 : 0 ≤ z.t
abbrev stD (c : Addr) (t : Int) : AO := .dK [(.inr "cells", .ref c), (.inr "turn", .int t)]
def stA (z : Stt) (B : AH) : AH := aupd (aupd B z.c (.lst (z.cs.map .int))) z.st (stD z.c z.t)
structure Nx (k : Int) (z z' : Stt) : Prop where
  st : z'.st = z.st
  c : z'.c = z.c
  ok : z'.Ok
  t : z'.t ≤ z.t + k
theorem Nx.refl {z : Stt} (h : z.Ok) : Nx 0 z z := ⟨rfl, rfl, h, by omega⟩
theorem Nx.trans {j k : Int} {z z' z'' : Stt} (h : Nx j z z') (g : Nx k z' z'') : Nx (j + k) z z'' := ⟨g.st.trans h.st, g.c.trans h.c, g.ok, by have := h.t; have := g.t; omega⟩
theorem Nx.le {j k : Int} {z z' : Stt} (h : Nx j z z') (g : j ≤ k) : Nx k z z' := ⟨h.st, h.c, h.ok, by have := h.t; omega⟩
theorem Nx.thn {j k l : Int} {z z' z'' : Stt} (h : Nx j z z') (g : Nx k z' z'') (e : j + k ≤ l) : Nx l z z'' := (h.trans g).le e
section
variable {z z' : Stt} {B B' : AH} {p : Addr} {o : AO}
theorem stA_st : stA z B z.st = some (stD z.c z.t) := aupd_same
theorem stA_ne (h1 : p ≠ z.st) (h2 : p ≠ z.c) : stA z B p = B p := by unfold stA; rw [aupd_ne h1, aupd_ne h2]
structure Free (z : Stt) (B : AH) (p : Addr) : Prop where
  st : p ≠ z.st
  c : p ≠ z.c
  no : B p = none
theorem stA_free (h : stA z B p = none) : Free z B p := by
  have h1 : p ≠ z.st := fun e => by subst e; rw [stA_st] at h; cases h
  have h2 : p ≠ z.c := fun e => by
    unfold stA at h
    rw [aupd_ne h1] at h
    subst e; rw [aupd_same] at h; cases h
  exact ⟨h1, h2, by rwa [stA_ne h1 h2] at h⟩
theorem Free.nx {k : Int} (f : Free z B p) (h : Nx k z z') : Free z' B p := ⟨h.st ▸ f.st, h.c ▸ f.c, f.no⟩
theorem Free.at_ (f : Free z B p) : stA z B p = none := by rw [stA_ne f.st f.c, f.no]
theorem Free.upd (f : Free z B p) : aupd (stA z B) p o = stA z (aupd B p o) := by
  unfold stA
  rw [aupd_comm (Ne.symm f.st), aupd_comm (Ne.symm f.c)]
theorem Free.put {q : AO} (f : Free z B p) : aupd (stA z (aupd B p q)) p o = stA z (aupd B p o) := by
  rw [← f.upd, aupd_aupd, f.upd]
theorem Free.get (f : Free z B p) : stA z (aupd B p o) p = some o := by rw [stA_ne f.st f.c, aupd_same]
theorem Free.sub (f : Free z B p) : Sub (stA z B) (stA z (aupd B p o)) := by rw [← f.upd]; exact (Sub.refl _).upd f.at_
theorem stA_sub (h : Sub B B') : Sub (stA z B) (stA z B') := (h.up).up
end
def S_take : LSp := fun xs A Q Z => ∃ (z : Stt) (B : AH) (n : Int), xs = [.ref z.st, .int n] ∧ A = stA z B ∧ z.Ok ∧ z.t < 2 ^ 40 ∧ 0 < n ∧ n < 1073741824 ∧
  ∀ d z', 0 ≤ d → d < n → Nx 1 z z' → Q (.int d) (stA z' B)
/-- for a call of it -/
theorem take_at {z : Stt} {B : AH} {n : Int} {a : Addr} {Q : QK} {Z : LX} (ha : a = z.st) (ok : z.Ok) (ht : z.t < 2 ^ 40) (n0 : 0 < n) (n1 : n < 1073741824) (k : ∀ d z', 0 ≤ d → d < n → Nx 1 z z' → Q (.int d) (stA z' B)) : S_take [.ref a, .int n] (stA z B) Q Z := by
  subst ha; exact ⟨z, B, n, rfl, rfl, ok, ht, n0, n1, k⟩
/-- a comprehension that draws -/
def SYes (D : Addr) (z : Stt) (B : AH) (c : Int) (P : Nat → PV → Prop) (i : Nat) (acc : List PV) (y : PV) (A5 : AH) : Prop :=
  ∃ A6, Sub A6 A5 ∧ A6 D = some (.lst acc) ∧ acc.length < sizeLine ∧ ∃ z', Nx (c * ((i + 1 : Nat) : Int)) z z' ∧ aupd A6 D (.lst (acc ++ [y])) = stA z' (aupd B D (.lst (acc ++ [y]))) ∧ (acc ++ [y]).length = i + 1 ∧ ∀ j w, (acc ++ [y])[j]? = some w → P j w
structure SAt (z : Stt) (c : Int) (P : Nat → PV → Prop) (n : Nat) (i : Nat) (acc : List PV) (z' : Stt) : Prop where
  lt : i < n
  nx : Nx (c * (i : Nat)) z z'
  len : acc.length = i
  few : acc.length < sizeLine
  all : ∀ j w, acc[j]? = some w → P j w
theorem SAt.yes {D : Addr} {z z1 z2 : Stt} {B : AH} {c : Int} {P : Nat → PV → Prop} {n i : Nat} {acc : List PV} {y : PV} {A5 : AH} (h : SAt z c P n i acc z1) (f : Free z B D) (g : Nx c z1 z2) (hy : P i y) (hs : Sub (stA z2 (aupd B D (.lst acc))) A5) : SYes D z B c P i acc y A5 := by
  have f2 : Free z2 B D := (f.nx h.nx).nx g
  refine ⟨_, hs, f2.get, h.few, z2, h.nx.thn g ?_, f2.put, by simp [h.len], fun j w e => ?_⟩
  · rw [Int.natCast_add, Int.mul_add]; simp
  · by_cases hj : j < acc.length
    · rw [List.getElem?_append_left hj] at e; exact h.all j w e
    · rw [List.getElem?_append_right (by omega)] at e
      have : j - acc.length = 0 := by
        cases hk : j - acc.length with
        | zero => rfl
        | succ k => rw [hk] at e; simp at e
      rw [this] at e
      have : j = i := by have := h.len; omega
      subst this
      simp at e; subst e; exact hy
theorem comp_st {items : List PV} {St : AH → Prop} {A : AH} {B : AH} {z : Stt} {Q : QK} {s : LSt} {tg : Tgt} {te : LE} {vs : List Nat} (c : Int) (P : Nat → PV → Prop) (hA : A = stA z B) (hz : z.Ok) (hl : items.length < sizeLine)
    (hst : ∀ D, Free z B D → ∀ k z' acc, Nx k z z' → St (stA z' (aupd B D (.lst acc))))
    (step : ∀ D, Free z B D → ∀ (i : Nat) (x : PV) (acc : List PV) (z' : Stt), items[i]? = some x → SAt z c P items.length i acc z' → lgT tg x (wipeL s vs) (stA z' (aupd B D (.lst acc))) fun s3 A3 => te s3 A3 fun y A5 => SYes D z B c P i acc y A5)
    (fin : ∀ D z' ys, Free z B D → Nx (c * items.length) z z' → ys.length = items.length → (∀ j w, ys[j]? = some w → P j w) → Q (.ref D) (stA z' (aupd B D (.lst ys)))) :
    lCompK items St A s tg lYes te vs Q := by
  intro D hD
  subst hA
  have f : Free z B D := stA_free hD
  refine ⟨fun i acc A2 => ∃ z', Nx (c * (i : Nat)) z z' ∧ A2 = stA z' (aupd B D (.lst acc)) ∧ acc.length = i ∧ ∀ j w, acc[j]? = some w → P j w, ⟨z, by simpa using Nx.refl hz, f.upd, rfl, by simp⟩, ?_⟩
  rintro i acc A2 ⟨z', nx, rfl, hlen, hall⟩ hD2
  refine ⟨hst D f _ z' acc nx, fun e => ?_, fun x hx => ?_⟩
  · subst e
    exact fin D z' acc f nx hlen hall
  · have hi : i < items.length := (List.getElem?_eq_some_iff.mp hx).1
    exact step D f i x acc z' hx ⟨hi, nx, hlen, by omega, hall⟩
/-! ### alike -/
def LeafP (x y : PV) : Prop := (∃ i, x = .int i ∧ y = .int i) ∨ ∃ z : Str, x = .str z ∧ y = .str z
def Alike (A : AH) : Nat → PV → PV → Prop
  | 0, x, y => LeafP x y
  | d + 1, x, y => LeafP x y ∨ (∃ k l xs ys, x = .tup k xs ∧ y = .tup l ys ∧ xs.length = ys.length ∧ xs.length < sizeLine ∧ ∀ (i : Nat) (u v : PV), xs[i]? = some u → ys[i]? = some v → Alike A d u v) ∨
      ∃ p q xs ys, x = .ref p ∧ y = .ref q ∧ A p = some (.lst xs) ∧ A q = some (.lst ys) ∧ xs.length = ys.length ∧ xs.length < sizeLine ∧ ∀ (i : Nat) (u v : PV), xs[i]? = some u → ys[i]? = some v → Alike A d u v
def S_same (d : Nat) : LSp := fun xs A Q Z => ∃ x y, xs = [x, y] ∧ Alike A d x y ∧ Q (.bl true) A
theorem Alike.sub {A A' : AH} (h : Sub A A') : ∀ {d : Nat} {x y : PV}, Alike A d x y → Alike A' d x y
  | 0, _, _, q => q
  | d + 1, x, y, q => by
    rcases q with q | ⟨k, l, xs, ys, e1, e2, e3, e4, e5⟩ | ⟨p, q, xs, ys, e1, e2, e3, e4, e5, e6, e7⟩
    · exact .inl q
    · exact .inr (.inl ⟨k, l, xs, ys, e1, e2, e3, e4, fun i u v hu hv => Alike.sub h (e5 i u v hu hv)⟩)
    · exact .inr (.inr ⟨p, q, xs, ys, e1, e2, h _ _ e3, h _ _ e4, e5, e6, fun i u v hu hv => Alike.sub h (e7 i u v hu hv)⟩)
end Lf
namespace Lf
open PySem PySem.Spec L2
open PyProof.Rows hiding St
/-- a def of which nothing is promised -/
theorem gfn_any {P : Program} {w : World} {K : PySem.W.Frag} {mg : Str → Option Value} {base : Heap} {k : Nat} {x : Str} {ps : List Str} {S : LSp} {f : Addr} {fd : FuncData} (hm : mg x = some (.ref f)) (hk : PySem.W.keepIn K (.ref f) = true) (hb : Binds K fd ps []) (hS : ∀ xs A Q Z, ¬ S xs A Q Z) : GFn P w K mg base k x ps S :=
  ⟨f, fd, hm, hk, hb, fun _ _ _ _ ⟨_, _, _, _, _, _, h, _⟩ => (hS _ _ _ _ h).elim, fun _ _ _ _ _ _ _ _ _ _ _ _ _ ⟨_, _, _, _, _, _, h, _⟩ => (hS _ _ _ _ h).elim⟩
/-- no exception leaves it -/
theorem fn_plain {P : Program} {w : World} {K : PySem.W.Frag} {mg : Str → Option Value} {base : Heap} {k : Nat} {f : Addr} {fd : FuncData} {ps : List Str} {S : LSp} (F : LFn P w K mg base k f fd ps S) (h : ∀ xs A Q Z, S xs A Q Z → S xs A Q fun _ _ _ => False) : FnOk P w K mg base CX0 k f fd ps (cSp K S) :=
  ⟨F.len, fun A outer s H args us vs Q E hr he hb hv ⟨xs, B, R, Z, r, rh, hs, k1, _⟩ => codeAny_mono (F.run A outer s H args us vs Q (fun _ _ _ => False) hr he hb hv ⟨xs, B, R, fun _ _ _ => False, r, rh, h _ _ _ _ hs, k1, fun _ _ _ z => z.elim⟩) fun r s' q => by
    cases r with
    | ok fl => cases fl with
      | ret u => exact q
      | next => exact q
      | brk => exact q
      | cont => exact q
    | error e =>
      obtain ⟨a, B, H', cls, d, _, _, _, _, _, _, _, z⟩ := q
      exact z.elim⟩
/-- the law's own def, at a script -/
def S_whole : LSp := fun xs A Q Z => ∃ ns : List Int, xs = [.fro (ns.map .int)] ∧ ns.length ≤ 63 ∧ (∀ p, A p = none) ∧ ∀ A', Q (.bl true) A'
theorem whole_sp {K : PySem.W.Frag} {S : LSp} (hS : ∀ xs A Q Z, S_whole xs A Q Z → S xs A Q Z) {H : Hp} {a : Addr} {ns : List Int} (hl : ns.length ≤ 63) (ho : Only H) (h : SqL K H a (ns.map V.int)) : cSp K S [.ref a] H (fun v _ => v = .bl true) fun _ _ _ => False := by
  refine ⟨[.fro (ns.map .int)], fun _ => none, fun x _ => x = .bl true, fun _ _ _ => False, .cons (.fro ?_ (.of_ints ns)) .nil, (fun _ _ h => nomatch h), hS _ _ _ _ ⟨ns, rfl, hl, fun _ => rfl, fun _ => rfl⟩, fun x A' e v H' _ r _ => ?_, fun _ _ _ z => z.elim⟩
  · rcases h with (h | h) | h
    · rcases ho a with e | ⟨o, xs, e⟩
      · rw [e] at h; cases h
      · rw [e] at h; cases h
    · exact .inl h
    · exact .inr h
  · subst e
    cases r; rfl
end Lf
namespace Lf
open PySem PySem.Spec L2
open PyProof.Rows hiding St
local macro_rules | `(tactic| walk_at "w") => `(tactic| ((with_reducible (conv => whnf)); (try dsimp only)))
abbrev rowP (r : List Int) : PV := .tup .own (r.map .int)
abbrev netP (n : List (List Int)) : PV := .tup .own (n.map rowP)
structure RowOk (k : Int) (r : List Int) : Prop where
  srt : r.Pairwise (· < ·)
  low : ∀ n ∈ r, 0 ≤ n ∧ n < k
def NetOk (n : List (List Int)) : Prop := ∀ (k : Nat) (r : List Int), n[k]? = some r → RowOk k r
theorem is_all {A : AH} {n : String} (h : n ∈ isiTys := by decide) : n ∈ isiTys := h
theorem isi_eq {T n : String} {b : Bool} {Q : QK} {A : AH} (h : isiP T n = b) (k : Q (.bl b) A) : Q (.bl (isiP T n)) A := by rw [h]; exact k
theorem blsOf_rep {xs : List PV} (h : ∀ x ∈ xs, x = .bl true) : blsOf xs = some (List.replicate xs.length true) := by
  induction xs with
  | nil => rfl
  | cons x r ih =>
    have e := h x List.mem_cons_self
    subst e
    show (blsOf r).map _ = _
    rw [ih fun y hy => h y (List.mem_cons_of_mem _ hy)]
    rfl
theorem all_rep {n : Nat} : (List.replicate n true).all id = true := by
  rw [List.all_eq_true]
  intro x hx
  rw [(List.mem_replicate.mp hx).2]; rfl
theorem blsOf_const {α : Type} (xs : List α) : blsOf (xs.map fun _ => PV.bl true) = some (List.replicate xs.length true) := by
  have h := blsOf_rep (xs := xs.map fun _ => PV.bl true) fun x hx => by
    obtain ⟨_, _, e⟩ := List.mem_map.mp hx; exact e.symm
  rw [h, List.length_map]
theorem cut_tail {α : Type} (xs : List α) : cutP xs (some 1) none = xs.drop 1 := by
  have e : HT.sIx xs.length 0 (some 1) = min 1 xs.length ∧ HT.sIx xs.length xs.length none = xs.length := by
    unfold HT.sIx
    simp
  unfold cutP
  rw [e.1, e.2]
  cases xs with
  | nil => rfl
  | cons x r => simp
/-! ### pairs, new numbers -/
abbrev insP (ins : List (Int × Int)) : PV := .tup .fix (ins.map fun p => .tup .fix [.int p.1, .int p.2])
def insK (ins : List (Int × Int)) : List (Key × PV) := ins.map fun p => (.inl p.1, .int p.2)
def tk (ins : List (Int × Int)) (s : Int) : Option Int := (ins.find? fun p => decide (p.1 = s)).map (·.2)
theorem pairs_ins : ∀ ins : List (Int × Int), pairsP (ins.map fun p => .tup .fix [.int p.1, .int p.2]) = some (insK ins)
  | [] => rfl
  | p :: r => by
    simp only [List.map_cons]
    unfold pairsP
    rw [pairs_ins r]
    rfl
theorem val_ins : ∀ (ins : List (Int × Int)) (s : Int), valP (insK ins) (.inl s) = (tk ins s).map .int
  | [], _ => rfl
  | p :: r, s => by
    have ih := val_ins r s
    unfold valP tk insK at *
    simp only [List.map_cons, List.find?_cons]
    by_cases h : p.1 = s
    · subst h; simp
    · have h2 : (decide ((Sum.inl p.1 : Key) = .inl s)) = false := by simpa using h
      rw [h2, decide_eq_false h]
      exact ih
theorem put_new {kvs : List (Key × PV)} {k : Key} {v : PV} (h : ∀ kv ∈ kvs, kv.1 ≠ k) : putP kvs k v = kvs ++ [(k, v)] := by
  unfold putP
  have : (kvs.any fun kv => decide (kv.1 = k)) = false := by
    rw [List.any_eq_false]
    intro kv hk
    simpa using h kv hk
  simp [this]
theorem merge_ins0 : ∀ (ins : List (Int × Int)) (kvs : List (Key × PV)), (ins.map (·.1)).Nodup → (∀ kv ∈ kvs, ∀ p ∈ ins, kv.1 ≠ .inl p.1) → mergeP kvs (insK ins) = kvs ++ insK ins
  | [], kvs, _, _ => by simp [mergeP, insK]
  | p :: r, kvs, hn, hd => by
    rw [List.map_cons, List.nodup_cons] at hn
    have e : mergeP kvs (insK (p :: r)) = mergeP (putP kvs (.inl p.1) (.int p.2)) (insK r) := rfl
    rw [e, put_new (fun kv hk => hd kv hk p List.mem_cons_self), merge_ins0 r _ hn.2]
    · simp [insK]
    · intro kv hk q hq
      rcases List.mem_append.mp hk with h | h
      · exact hd kv h q (List.mem_cons_of_mem _ hq)
      · simp at h
        subst h
        intro z
        have : p.1 = q.1 := by simpa using z
        exact hn.1 (this ▸ List.mem_map_of_mem hq)
theorem merge_ins {ins : List (Int × Int)} (h : (ins.map (·.1)).Nodup) : mergeP [] (insK ins) = insK ins := by
  have := merge_ins0 ins [] h (fun _ h => nomatch h)
  simpa using this
def cnt (ins : List (Int × Int)) (s : Nat) : Nat := ((List.range s).filter fun (j : Nat) => (tk ins j).isNone).length
theorem cnt_succ (ins : List (Int × Int)) (s : Nat) : cnt ins (s + 1) = cnt ins s + if (tk ins s).isNone = true then 1 else 0 := by
  unfold cnt
  rw [List.range_succ, List.filter_append, List.length_append]
  congr 1
  by_cases h : (tk ins s).isNone = true
  · simp [h]
  · simp [h]
def num (m : Int) (ins : List (Int × Int)) (s : Nat) : Int := match tk ins s with
  | some v => v
  | none => m + (cnt ins s : Nat)
def nums (m : Int) (ins : List (Int × Int)) (n : Nat) : List Int := (List.range n).map (num m ins)
theorem nums_succ (m : Int) (ins : List (Int × Int)) (n : Nat) : nums m ins (n + 1) = nums m ins n ++ [num m ins n] := by
  unfold nums; rw [List.range_succ, List.map_append]; rfl
theorem nums_len (m : Int) (ins : List (Int × Int)) (n : Nat) : (nums m ins n).length = n := by simp [nums]
structure ISz (one other : List (List Int)) (ins : List (Int × Int)) : Prop where
  one : one.length < 1000
  other : other.length < 1000
  few : ins.length < 1000
  ins : (ins.map (·.1)).Nodup
theorem rng_get {lo : Int} {n i : Nat} {x : PV} (h : (rangeP lo n)[i]? = some x) : x = .int (lo + (i : Nat)) ∧ i < n := by
  unfold rangeP at h
  rw [List.getElem?_map] at h
  obtain ⟨j, h1, h2⟩ := Option.map_eq_some_iff.mp h
  have h3 := List.getElem?_eq_some_iff.mp h1
  obtain ⟨l, e⟩ := h3
  rw [List.getElem_range] at e
  subst e
  exact ⟨h2.symm, by simpa using l⟩
/-! ### sorted ints -/
def leI (a b : Int) : Bool := decide (a ≤ b)
def isort (ns : List Int) : List Int := ns.mergeSort leI
theorem pd_int (i : Int) : pd (.int i) = .int i := rfl
theorem dle_int (a b : Int) : PySem.W.dataLe false pd (.int a) (.int b) = leI a b := by
  have h := PySem.W.dataLe_int (β := Int) id
  have h2 := congrFun (congrFun h a) b
  exact h2
theorem psort_ints (ns : List Int) : psort (ns.map .int) = (isort ns).map .int := by
  unfold psort isort
  exact (List.map_mergeSort (f := PV.int) (r := leI) (s := PySem.W.dataLe false pd) fun a _ b _ => (dle_int a b).symm).symm
theorem sortOk_ints (ns : List Int) : SortOk (ns.map .int) where
  all := fun x hx => by obtain ⟨i, _, rfl⟩ := List.mem_map.mp hx; rfl
  alk := by
    rw [List.map_map]
    intro d hd d' hd'
    obtain ⟨i, _, rfl⟩ := List.mem_map.mp hd
    obtain ⟨j, _, rfl⟩ := List.mem_map.mp hd'
    show PySem.W.alike (.int i) (.int j) = true
    simp [PySem.W.alike]
  srt := by
    rw [List.map_map]
    refine .inr fun d hd => ?_
    obtain ⟨i, _, rfl⟩ := List.mem_map.mp hd
    exact ⟨(fun e => nomatch (show PyData.int i = .none from e)), (fun xs e => nomatch (show PyData.int i = .tuple xs from e))⟩
  dep := fun x hx => by
    obtain ⟨i, _, rfl⟩ := List.mem_map.mp hx
    show PyData.depth (.int i) ≤ 60
    simp [PyData.depth]
theorem isort_mem {k : Int} {ns : List Int} : k ∈ isort ns ↔ k ∈ ns := List.mem_mergeSort
theorem isort_len (ns : List Int) : (isort ns).length = ns.length := List.length_mergeSort ..
theorem isort_le (ns : List Int) : (isort ns).Pairwise (· ≤ ·) := by
  have h := List.pairwise_mergeSort (le := leI) (fun a b c h g => by unfold leI at *; simp at *; omega) (fun a b => by unfold leI; simp; omega) ns
  exact h.imp fun h => by unfold leI at h; simpa using h
theorem isort_nodup {ns : List Int} (h : ns.Nodup) : (isort ns).Pairwise (· < ·) := by
  have h1 := isort_le ns
  have h2 : (isort ns).Nodup := (List.mergeSort_perm ns leI).nodup_iff.mpr h
  have h3 := List.Pairwise.and h1 (show (isort ns).Pairwise (· ≠ ·) from h2)
  exact h3.imp fun ⟨a, b⟩ => by omega
theorem isort_sorted {ns : List Int} (h : ns.Pairwise (· < ·)) : isort ns = ns := by
  have hn : ns.Nodup := h.imp fun h => by omega
  exact rising_ext (isort_nodup hn) h fun k => isort_mem
/-! ### what stays -/
theorem aupd_keep {A : AH} {p D : Addr} {o u : AO} (h : A p = some o) (hD : A D = none) : aupd A D u p = some o := by rw [aupd_ne (ane h hD)]; exact h
theorem inSeq_ints {i : Int} {ns : List Int} {k : Bool → Prop} (h : k (decide (i ∈ ns))) : inSeq (.int i) (ns.map .int) k := by
  refine ⟨rfl, ?_, ?_⟩
  · rw [List.all_eq_true]
    intro x hx
    obtain ⟨j, _, rfl⟩ := List.mem_map.mp hx
    rfl
  · have e : ((ns.map PV.int).any fun z => eqP z (.int i)) = decide (i ∈ ns) := by
      rw [List.any_map, Bool.eq_iff_iff, List.any_eq_true]
      simp only [decide_eq_true_eq]
      constructor
      · rintro ⟨j, hj, e⟩
        have e : decide (j = i) = true := e
        have : j = i := of_decide_eq_true e
        subst this; exact hj
      · intro h
        exact ⟨i, h, decide_eq_true rfl⟩
    rw [e]; exact h
def pick (m : Int) (ins : List (Int × Int)) (r : List Int) : List Int := isort (r.map fun n => num m ins n.toNat)
def putR (m : Int) (ins : List (Int × Int)) : List (List Int) → Nat → List (List Int)
  | [], _ => []
  | r :: t, k => if (tk ins k).isNone = true then pick m ins r :: putR m ins t (k + 1) else putR m ins t (k + 1)
def putN (one other : List (List Int)) (ins : List (Int × Int)) : List (List Int) := one ++ putR one.length ins other 0
theorem putR_append (m : Int) (ins : List (Int × Int)) : ∀ (a b : List (List Int)) (k : Nat), putR m ins (a ++ b) k = putR m ins a k ++ putR m ins b (k + a.length)
  | [], b, k => by simp [putR]
  | r :: t, b, k => by
    simp only [List.cons_append, putR]
    rw [putR_append m ins t b (k + 1)]
    have : k + 1 + t.length = k + (r :: t).length := by simp; omega
    rw [this]
    split <;> simp
theorem putR_take (m : Int) (ins : List (Int × Int)) {other : List (List Int)} {i : Nat} {r : List Int} (h : other[i]? = some r) : putR m ins (other.take (i + 1)) 0 = putR m ins (other.take i) 0 ++ if (tk ins i).isNone = true then [pick m ins r] else [] := by
  rw [List.take_add_one, h, putR_append]
  have hl : (other.take i).length = i := by rw [List.length_take]; have := (List.getElem?_eq_some_iff.mp h).1; omega
  rw [hl, Nat.zero_add]
  rfl
theorem nums_get {m : Int} {ins : List (Int × Int)} {n w : Nat} (h : w < n) : (nums m ins n)[w]? = some (num m ins w) := by
  unfold nums; rw [List.getElem?_map, List.getElem?_range h]; rfl
structure PSz (one other : List (List Int)) (ins : List (Int × Int)) : Prop where
  isz : ISz one other ins
  rows : ∀ r ∈ other, r.length < 1000 ∧ ∀ n ∈ r, 0 ≤ n ∧ n < other.length
theorem enum_get {α : Type} {xs : List α} {g : α → PV} {i : Nat} {x : PV} (h : (enumP (xs.map g))[i]? = some x) : ∃ a, xs[i]? = some a ∧ x = .tup .own [.int (i : Nat), g a] := by
  unfold enumP at h
  simp only [List.getElem?_zipWith, List.getElem?_map] at h
  cases ha : xs[i]? with
  | none => rw [ha] at h; simp at h
  | some a =>
    rw [ha] at h
    have := (List.getElem?_eq_some_iff.mp ha).1
    simp [this] at h
    exact ⟨a, rfl, h.symm⟩
/-- the row of new numbers, as a list -/
theorem row_comp {A : AH} {pn : Addr} {one other : List (List Int)} {ins : List (Int × Int)} {r : List Int} {Q : QK} {s : LSt} {i v : Nat} (hn : A pn = some (.lst ((nums one.length ins other.length).map .int))) (hr : r.length < 1000) (hb : ∀ n ∈ r, 0 ≤ n ∧ n < other.length)
    (hs : ∀ x, sget (sset (wipeL s [i]) i x) v = some (.ref pn)) (hs2 : ∀ x, sget (sset (wipeL s [i]) i x) i = some x)
    (fin : ∀ D, A D = none → Q (.ref D) (aupd A D (.lst ((r.map fun n => num one.length ins n.toNat).map .int)))) : lCompK (r.map .int) (fun _ => True) A s (.name i) lYes (lOp lIx (lVar v) (lVar i)) [i] Q := by
  refine comp_map r PV.int (fun n => .int (num one.length ins n.toNat)) rfl (szl (by omega)) (fun _ _ _ => trivial) (fun D hD k a acc c => ?_) (fun D hD => ?_)
  · refine lgT_name ?_
    walk_at "w"
    rw [hs]; walk_at "w"
    rw [hs2]; walk_at "w"
    rw [aupd_keep hn hD]; walk_at "w"
    have hm := hb a (List.mem_of_getElem? c.at_)
    rw [atI_map (atI_of (x := num one.length ins a.toNat) hm.1 (nums_get (by omega)))]
    exact c.yes rfl (.refl _)
  · have := fin D hD
    rw [List.map_map] at this
    exact this
theorem putR_len (m : Int) (ins : List (Int × Int)) : ∀ (t : List (List Int)) (k : Nat), (putR m ins t k).length ≤ t.length
  | [], _ => by simp [putR]
  | r :: t, k => by
    have := putR_len m ins t (k + 1)
    unfold putR
    split <;> simp <;> omega
theorem none_of {A B : AH} {p : Addr} (s : Sub A B) (h : B p = none) : A p = none := by
  cases e : A p with
  | none => rfl
  | some o => rw [s _ _ e] at h; cases h
def besideN (one other : List (List Int)) : List (List Int) := one ++ other.map fun r => r.map fun n => n + (one.length : Int)
theorem tk_some (ins : List (Int × Int)) (s : Int) : (tk ins s).isSome = decide (s ∈ ins.map (·.1)) := by
  unfold tk
  rw [Option.isSome_map, Bool.eq_iff_iff, List.find?_isSome]
  simp only [decide_eq_true_eq, List.mem_map]
/-- the works that are not taken -/
def restL (ins : List (Int × Int)) (n : Nat) : List Nat := (List.range n).filter fun (j : Nat) => (tk ins j).isNone
theorem rest_idx {ins : List (Int × Int)} {n w : Nat} (hw : w < n) (ht : tk ins w = none) : idxP ((restL ins n).map fun (j : Nat) => PV.int j) (.int w) = some (cnt ins w) := by
  unfold idxP
  rw [List.findIdx?_map]
  have e : restL ins n = restL ins w ++ w :: ((List.range (n - w - 1)).map fun j => w + (j + 1)).filter fun (j : Nat) => (tk ins j).isNone := by
    unfold restL
    have h1 : n = w + ((n - w - 1) + 1) := by omega
    have h2 : List.range n = List.range w ++ w :: (List.range (n - w - 1)).map fun j => w + (j + 1) := by
      conv => lhs; rw [h1]
      rw [List.range_add, List.range_succ_eq_map, List.map_cons, List.map_map]
      simp only [Nat.add_zero]
      rfl
    rw [h2, List.filter_append, List.filter_cons]
    rw [ht]; rfl
  rw [e, List.findIdx?_append]
  have h0 : (restL ins w).findIdx? ((fun z => eqP z (.int (w : Int))) ∘ fun (j : Nat) => PV.int j) = none := by
    rw [List.findIdx?_eq_none_iff]
    intro j hj
    have hj : j < w := by
      unfold restL at hj
      exact List.mem_range.mp (List.mem_filter.mp hj).1
    show decide ((j : Int) = (w : Int)) = false
    exact decide_eq_false (by omega)
  rw [h0, List.findIdx?_cons]
  have h1 : ((fun z => eqP z (.int (w : Int))) ∘ fun (j : Nat) => PV.int j) w = true := by
    show decide ((w : Int) = (w : Int)) = true
    exact decide_eq_true rfl
  rw [h1]
  simp [cnt, restL]
theorem flat_nats (l : List Nat) : (l.map fun (j : Nat) => PV.int j).all flatP = true := by
  rw [List.all_eq_true]
  intro x hx
  obtain ⟨j, _, rfl⟩ := List.mem_map.mp hx
  rfl
/-- of one depth more, or ints -/
theorem isi_tt : isiP "tuple" "tuple" = true := by decide
theorem isi_tl : isiP "tuple" "list" = false := by decide
theorem isi_ll : isiP "list" "list" = true := by decide
theorem isi_lt : isiP "list" "tuple" = false := by decide
theorem isi_il : isiP "int" "list" = false := by decide
theorem isi_it : isiP "int" "tuple" = false := by decide
theorem isi_is : isiP "int" "str" = false := by decide
theorem isi_ii : isiP "int" "int" = true := by decide
theorem isi_ib : isiP "int" "bool" = false := by decide
theorem ty_l {A : AH} {p : Addr} {xs : List PV} (h : A p = some (.lst xs)) : tyOfP (.ref p) A = some "list" := by
  show (match A p with
    | some (.lst _) => some "list"
    | some (.dK _) => some "dict"
    | some (.dT _) => some "dict"
    | _ => none) = _
  rw [h]
theorem isi_sl : isiP "str" "list" = false := by decide
theorem isi_st : isiP "str" "tuple" = false := by decide
theorem isi_ss : isiP "str" "str" = true := by decide
theorem zip_ok {xs ys : List PV} {i : Nat} {p : PV × PV} (h : (xs.zip ys)[i]? = some p) : xs[i]? = some p.1 ∧ ys[i]? = some p.2 := by
  rw [List.getElem?_zip_eq_some] at h; exact h
theorem toDs_ints : ∀ ns : List Int, toDs (ns.map .int) = some (ns.map .int)
  | [] => by rw [List.map_nil, toDs]; rfl
  | n :: r => by
    rw [List.map_cons, toDs, toDs_ints r, toD]; rfl
theorem lay_ints : ∀ ns : List Int, PyData.canLayAll0 (ns.map .int) = true
  | [] => by simp [PyData.canLayAll0]
  | n :: r => by rw [List.map_cons, PyData.canLayAll0, lay_ints r]; simp [PyData.canLay0]
theorem sh_l (ns : List Int) : okD (.list (ns.map .int)) := by
  show (PyData.canLay0 _ && decide (PyData.depth _ ≤ 64)) = true
  rw [PyData.canLay0, lay_ints, PyData.depth, PySem.W.depth_ints]
  rfl
theorem sh_t (ns : List Int) : okD (.tuple (ns.map .int)) := by
  show (PyData.canLay0 _ && decide (PyData.depth _ ≤ 64)) = true
  rw [PyData.canLay0, lay_ints, PyData.depth, PySem.W.depth_ints]
  rfl
theorem eqv_ints : ∀ xs ys : List Int, PyData.eqvAll (xs.map .int) (ys.map .int) = decide (xs = ys)
  | [], [] => by simp [PyData.eqvAll]
  | [], y :: s => by simp [PyData.eqvAll]
  | x :: r, [] => by simp [PyData.eqvAll]
  | x :: r, y :: s => by
    rw [List.map_cons, List.map_cons, PyData.eqvAll, eqv_ints r s, PyData.eqv, Bool.eq_iff_iff]
    simp
theorem data_l {A : AH} {p : Addr} {xs : List Int} (h : A p = some (.lst (xs.map .int))) : dataOf A (.ref p) = some (.list (xs.map .int)) := by
  unfold dataOf
  dsimp only
  rw [h]
  dsimp only
  rw [toDs_ints]; rfl
theorem data_t {A : AH} {k : TK} {xs : List Int} : dataOf A (.tup k (xs.map .int)) = some (.tuple (xs.map .int)) := by
  unfold dataOf
  dsimp only
  rw [toD, toDs_ints]; rfl
theorem eqK_ll {A : AH} {p q : Addr} {xs ys : List Int} {k : Bool → Prop} (h : A p = some (.lst (xs.map .int))) (g : A q = some (.lst (ys.map .int))) (kk : k (decide (xs = ys))) : eqK (.ref p) (.ref q) A k := by
  show (match dataOf A (.ref p), dataOf A (.ref q) with
    | some d, some e => okD d ∧ okD e ∧ k (PyData.eqv d e)
    | _, _ => False)
  rw [data_l h, data_l g]
  refine ⟨sh_l _, sh_l _, ?_⟩
  rw [PyData.eqv, eqv_ints]; exact kk
theorem eqK_tt {A : AH} {f g : TK} {xs ys : List Int} {k : Bool → Prop} (q : k (decide (xs = ys))) : eqK (.tup f (xs.map .int)) (.tup g (ys.map .int)) A k := by
  show (match dataOf A (.tup f (xs.map .int)), dataOf A (.tup g (ys.map .int)) with
    | some d, some e => okD d ∧ okD e ∧ k (PyData.eqv d e)
    | _, _ => False)
  rw [data_t, data_t]
  refine ⟨sh_t _, sh_t _, ?_⟩
  rw [PyData.eqv, eqv_ints]; exact q
theorem cut_from {α : Type} (xs : List α) {i : Int} (h0 : 0 ≤ i) (h1 : i ≤ xs.length) : cutP xs (some i) none = xs.drop i.toNat := by
  have e : HT.sIx xs.length 0 (some i) = i.toNat ∧ HT.sIx xs.length xs.length none = xs.length := by
    unfold HT.sIx
    refine ⟨?_, rfl⟩
    dsimp only
    split <;> first | omega | (rw [Nat.min_def]; split <;> omega)
  unfold cutP
  rw [e.1, e.2]
  rw [List.take_of_length_le (by simp)]
theorem cut_to {α : Type} (xs : List α) {i : Int} (h0 : 0 ≤ i) (h1 : i ≤ xs.length) : cutP xs none (some i) = xs.take i.toNat := by
  have e : HT.sIx xs.length xs.length (some i) = i.toNat ∧ HT.sIx xs.length 0 none = 0 := by
    unfold HT.sIx
    refine ⟨?_, rfl⟩
    dsimp only
    split <;> first | omega | (rw [Nat.min_def]; split <;> omega)
  unfold cutP
  rw [e.1, e.2]
  simp
structure NetSz (n : List (List Int)) (many : Int) : Prop where
  len : (n.length : Int) = many
  ok : NetOk n
  few : ∀ r ∈ n, r.length < 1000
structure OpenOk (k : Nat) (r : List Int) : Prop where
  row : RowOk k r
  len : r.length ≤ k
theorem RowOk.drop {k : Int} {r : List Int} (h : RowOk k r) (j : Nat) : RowOk k (r.drop j) := ⟨h.srt.sublist (List.drop_sublist _ _), fun n hn => h.low n (List.mem_of_mem_drop hn)⟩
theorem OpenOk.next {k : Nat} {r : List Int} (h : OpenOk k r) (j : Nat) : OpenOk (k + 1) (r.take j ++ [(k : Int)]) := by
  refine ⟨⟨?_, fun n hn => ?_⟩, ?_⟩
  · rw [List.pairwise_append]
    refine ⟨h.row.srt.sublist (List.take_sublist _ _), by simp, fun a ha b hb => ?_⟩
    simp at hb; subst hb
    exact (h.row.low a (List.mem_of_mem_take ha)).2
  · rcases List.mem_append.mp hn with q | q
    · have := h.row.low n (List.mem_of_mem_take q); omega
    · simp at q; omega
  · have := h.len
    simp; omega
theorem netOk_snoc {n : List (List Int)} {r : List Int} (h : NetOk n) (g : RowOk n.length r) : NetOk (n ++ [r]) := fun k q e => by
  by_cases hk : k < n.length
  · rw [List.getElem?_append_left hk] at e; exact h k q e
  · rw [List.getElem?_append_right (by omega)] at e
    have : k - n.length = 0 := by
      cases hh : k - n.length with
      | zero => rfl
      | succ m => rw [hh] at e; simp at e
    rw [this] at e
    simp at e; subst e
    have : k = n.length := by omega
    subst this; exact g
theorem rows_of {P : Nat → List Int → Prop} : ∀ {ys : List PV}, (∀ (j : Nat) (w : PV), ys[j]? = some w → ∃ r, w = rowP r ∧ P j r) → ∃ rows : List (List Int), ys = rows.map rowP ∧ ∀ (j : Nat) (r : List Int), rows[j]? = some r → P j r := by
  intro ys
  induction ys generalizing P with
  | nil => intro _; exact ⟨[], rfl, by simp⟩
  | cons y t ih =>
    intro h
    obtain ⟨r, e, hp⟩ := h 0 y rfl
    obtain ⟨rows, e2, h2⟩ := ih (P := fun j => P (j + 1)) fun j w hw => h (j + 1) w (by simpa using hw)
    refine ⟨r :: rows, by rw [e2, e]; rfl, fun j q hq => ?_⟩
    cases j with
    | zero => simp at hq; subst hq; exact hp
    | succ j => exact h2 j q (by simpa using hq)
def rgI (a b : Int) : List Int := (List.range (b - a).toNat).map fun (i : Nat) => a + i
theorem rg_row (a b : Int) : PV.tup .own (rangeP a (b - a).toNat) = rowP (rgI a b) := by
  unfold rgI rangeP; rw [rowP, List.map_map]; rfl
theorem rgI_ok {a k : Int} (h0 : 0 ≤ a) : RowOk k (rgI a k) := by
  unfold rgI
  refine ⟨?_, fun n hn => ?_⟩
  · rw [List.pairwise_map]
    exact List.pairwise_lt_range.imp fun h => by omega
  · obtain ⟨i, hi, rfl⟩ := List.mem_map.mp hn
    have := List.mem_range.mp hi
    omega
theorem rng_nats (n : Nat) : rangeP 0 n = (List.range n).map fun (j : Nat) => PV.int j := by
  unfold rangeP
  refine List.map_congr_left fun j _ => ?_
  rw [Int.zero_add]
theorem netSz_of {f : Nat → List Int} {many : Int} (h0 : 0 ≤ many) (h : ∀ k : Nat, (k : Int) < many → RowOk k (f k) ∧ (f k).length < 1000) : NetSz ((List.range many.toNat).map f) many := by
  refine ⟨by simp; omega, fun k r e => ?_, fun r hr => ?_⟩
  · rw [List.getElem?_map] at e
    obtain ⟨j, h1, rfl⟩ := Option.map_eq_some_iff.mp e
    have h2 := List.getElem?_eq_some_iff.mp h1
    obtain ⟨l, e2⟩ := h2
    rw [List.getElem_range] at e2
    subst e2
    simp at l
    exact (h k (by omega)).1
  · obtain ⟨j, hj, rfl⟩ := List.mem_map.mp hr
    have := List.mem_range.mp hj
    exact (h j (by omega)).2
/-- way 0 -/
theorem net0 {A : AH} {Q : QK} {s : LSt} {many wide : Int} (m0 : 1 ≤ many) (m1 : many ≤ 40) (w0 : 1 ≤ wide) (w1 : wide ≤ 4) (hs : ∀ x, sget (sset (wipeL s [4]) 4 x) 4 = some x) (hs3 : ∀ x, sget (sset (wipeL s [4]) 4 x) 3 = some (.int wide))
    (fin : ∀ D n, A D = none → NetSz n many → Q (.ref D) (aupd A D (.lst (n.map rowP)))) :
    lCompK (rangeP 0 many.toNat) (fun _ => True) A s (.name 4) lYes (lTupRg (lRg2 (lCB lMax (lCons (lC (.int 0)) (lCons (lOp lSub (lVar 4) (lVar 3)) lNil))) (lVar 4))) [4] Q := by
  refine comp_map (List.range many.toNat) (fun (j : Nat) => .int j) (fun (j : Nat) => rowP (rgI (if (j : Int) - wide > 0 then (j : Int) - wide else 0) j)) (rng_nats _) (szl (by simp; omega)) (fun _ _ _ => trivial) (fun D hD i a acc c => ?_) (fun D hD => ?_)
  · have ha : (a : Int) < many := by
      have := List.mem_range.mp (List.mem_of_getElem? c.at_); omega
    refine lgT_name ?_
    walk_at "w"
    rw [hs]; walk_at "w"
    rw [hs3]; walk_at "w"
    rw [hs]; walk_at "w"
    refine ⟨⟨by split <;> omega, by split <;> omega, by omega, by omega, by split <;> omega⟩, ?_⟩
    rw [rg_row]
    exact c.yes rfl (.refl _)
  · have e : (List.range many.toNat).map (fun (j : Nat) => rowP (rgI (if (j : Int) - wide > 0 then (j : Int) - wide else 0) j)) = ((List.range many.toNat).map fun (j : Nat) => rgI (if (j : Int) - wide > 0 then (j : Int) - wide else 0) j).map rowP := by rw [List.map_map]; rfl
    rw [e]
    refine fin D _ hD (netSz_of (by omega) fun k hk => ⟨rgI_ok (by split <;> omega), ?_⟩)
    unfold rgI
    simp
    split <;> omega
/-- way 1 -/
def r1 (wide : Int) (k : Nat) : List Int := (if wide ≤ k then [(k : Int) - wide] else []) ++ if (0 : Int) < (k : Int) % wide then [(k : Int) - 1] else []
theorem r1_ok {wide : Int} (w0 : 1 ≤ wide) (k : Nat) : RowOk k (sortU (r1 wide k)) := by
  refine ⟨sortU_sorted _, fun n hn => ?_⟩
  have h := sortU_mem.mp hn
  unfold r1 at h
  rcases List.mem_append.mp h with h | h
  · split at h
    · simp at h; omega
    · simp at h
  · split at h
    · rename_i hh
      have : (k : Int) ≠ 0 := fun e => by rw [e] at hh; simp at hh
      simp at h; omega
    · simp at h
theorem times {c : Prop} [Decidable c] {x : PV} : (List.replicate (if decide c = true then (1 : Int) else 0).toNat [x]).flatten = if c then [x] else [] := by
  by_cases h : c
  · simp [h]
  · simp [h]
theorem net1 {A : AH} {Q : QK} {s : LSt} {many wide : Int} (m0 : 1 ≤ many) (m1 : many ≤ 40) (w0 : 1 ≤ wide) (w1 : wide ≤ 4) (hs : ∀ x, sget (sset (wipeL s [4]) 4 x) 4 = some x) (hs3 : ∀ x, sget (sset (wipeL s [4]) 4 x) 3 = some (.int wide))
    (fin : ∀ D ys A', Sub A A' → A D = none → A' D = some (.lst ys) → ys.length = many.toNat → (∀ (j : Nat) (w : PV), ys[j]? = some w → ∃ p, w = .ref p ∧ A' p = some (.lst ((r1 wide j).map .int))) → Q (.ref D) A') :
    lCompK (rangeP 0 many.toNat) (fun _ => True) A s (.name 4) lYes (lOp lAdd (lOp lMul (lLst (lCons (lOp lSub (lVar 4) (lVar 3)) lNil)) (lCB lInt (lCons (lOp lGe (lVar 4) (lVar 3)) lNil))) (lOp lMul (lLst (lCons (lOp lSub (lVar 4) (lC (.int 1))) lNil)) (lCB lInt (lCons (lOp lGt (lOp lMod (lVar 4) (lVar 3)) (lC (.int 0))) lNil)))) [4] Q := by
  intro D hD
  refine ⟨fun i acc A' => Sub (aupd A D (.lst acc)) A' ∧ acc.length = i ∧ i ≤ many.toNat ∧ ∀ (j : Nat) (w : PV), acc[j]? = some w → ∃ p, w = .ref p ∧ p ≠ D ∧ A' p = some (.lst ((r1 wide j).map .int)), ⟨.refl _, rfl, Nat.zero_le _, by simp⟩, ?_⟩
  rintro i acc A2 ⟨hsub, hlen, hi, hall⟩ hD2
  refine ⟨trivial, fun e => ?_, fun x hx => ?_⟩
  · rw [rangeP_len] at e
    refine fin D acc A2 (((Sub.refl A).upd hD).trans hsub) hD hD2 (by omega) fun j w hw => ?_
    obtain ⟨p, h1, _, h2⟩ := hall j w hw
    exact ⟨p, h1, h2⟩
  · obtain ⟨rfl, hlt⟩ := rng_get hx
    refine lgT_name ?_
    walk_at "w"
    refine ift ?_
    walk_at "w"
    rw [hs]; walk_at "w"
    rw [hs3]; walk_at "w"
    refine ⟨szle (by simp), fun p1 h1 => ?_⟩
    walk_at "w"
    rw [hs]; walk_at "w"
    rw [hs3]; walk_at "w"
    rw [aupd_same]; walk_at "w"
    refine ⟨⟨by split <;> omega, by split <;> omega, szle (by split <;> simp)⟩, fun p2 h2 => ?_⟩
    rw [times]
    walk_at "w"
    rw [hs]; walk_at "w"
    refine ⟨szle (by simp), fun p3 h3 => ?_⟩
    walk_at "w"
    rw [hs]; walk_at "w"
    rw [hs3]; walk_at "w"
    refine ⟨by omega, ?_⟩; walk_at "w"
    rw [aupd_same]; walk_at "w"
    refine ⟨⟨by split <;> omega, by split <;> omega, szle (by split <;> simp)⟩, fun p4 h4 => ?_⟩
    rw [times]; walk_at "w"
    rw [aupd_keep (aupd_keep aupd_same h3) h4, aupd_same]; walk_at "w"
    refine ⟨szle (by simp; split <;> split <;> simp), fun p5 h5 => ?_⟩
    have s1 := (Sub.refl A2).upd (o := .lst [PV.int ((0 : Int) + (i : Nat) - wide)]) h1
    have s2 := s1.trans ((Sub.refl _).upd (o := .lst (if wide ≤ (0 : Int) + (i : Nat) then [PV.int ((0 : Int) + (i : Nat) - wide)] else [])) h2)
    have s3 := s2.trans ((Sub.refl _).upd (o := .lst [PV.int ((0 : Int) + (i : Nat) - 1)]) h3)
    have s4 := s3.trans ((Sub.refl _).upd (o := .lst (if (0 : Int) < ((0 : Int) + (i : Nat)) % wide then [PV.int ((0 : Int) + (i : Nat) - 1)] else [])) h4)
    have h5' := none_of s4 h5
    have n5 : p5 ≠ D := fun e => by rw [e, hD2] at h5'; cases h5'
    have er : (if wide ≤ (0 : Int) + (i : Nat) then [PV.int ((0 : Int) + (i : Nat) - wide)] else []) ++ (if (0 : Int) < ((0 : Int) + (i : Nat)) % wide then [PV.int ((0 : Int) + (i : Nat) - 1)] else []) = (r1 wide i).map .int := by
      unfold r1
      rw [Int.zero_add, List.map_append]
      congr 1 <;> split <;> rfl
    rw [er]
    have s5 := s4.trans ((Sub.refl _).upd (o := .lst ((r1 wide i).map .int)) h5)
    refine ⟨_, .refl _, s5 _ _ hD2, szl (by omega), ?_, by simp [hlen], by omega, fun j w hw => ?_⟩
    · have h := (hsub.trans s5).up (a := D) (o := .lst (acc ++ [PV.ref p5]))
      rw [aupd_aupd] at h
      exact h
    · by_cases hj : j < acc.length
      · rw [List.getElem?_append_left hj] at hw
        obtain ⟨p, e1, e2, e3⟩ := hall j w hw
        exact ⟨p, e1, e2, by rw [aupd_ne e2]; exact s5 _ _ e3⟩
      · rw [List.getElem?_append_right (by omega)] at hw
        have : j - acc.length = 0 := by
          cases hh : j - acc.length with
          | zero => rfl
          | succ m => rw [hh] at hw; simp at hw
        rw [this] at hw
        simp at hw; subst hw
        have : j = i := by omega
        subst this
        exact ⟨p5, rfl, n5, by rw [aupd_ne n5, aupd_same]⟩
theorem rw_take {A : AH} {D : Addr} {ys : List PV} {many wide : Int} {Q : QK} {s : LSt} (hD : A D = some (.lst ys)) (m1 : many ≤ 40) (w0 : 1 ≤ wide) (hl : ys.length = many.toNat) (ha : ∀ (j : Nat) (w : PV), ys[j]? = some w → ∃ p, w = .ref p ∧ A p = some (.lst ((r1 wide j).map .int)))
    (hs : ∀ x, sget (sset (wipeL s [6]) 6 x) 6 = some x) (fin : ∀ D2 n, A D2 = none → NetSz n many → Q (.ref D2) (aupd A D2 (.lst (n.map rowP)))) (m0 : 1 ≤ many) :
    lCompK ys (fun A' => A' D = some (.lst ys)) A s (.name 6) lYes (lCB (lTuple .own) (lCons (lSortSet (lVar 6)) lNil)) [6] Q := by
  refine comp_fm ys id (fun i _ => some (rowP (sortU (r1 wide i)))) (by simp) (szl (by omega)) (fun D2 h2 acc => aupd_keep hD h2) (fun D2 h2 i a acc c => ?_) (fun D2 h2 => ?_)
  · refine lgT_name ?_
    walk_at "w"
    refine ift ?_
    obtain ⟨p, e1, e2⟩ := ha i a c.at_
    show lCB (lTuple .own) (lCons (lSortSet (lVar 6)) lNil) _ _ _
    have e0 : (id a : PV) = .ref p := e1
    walk_at "w"
    rw [hs, e0]; walk_at "w"
    rw [aupd_keep e2 h2]; walk_at "w"
    rw [intsOf_map]; walk_at "w"
    refine ⟨by unfold r1; simp; split <;> split <;> simp, fun p2 hp2 => ?_⟩
    walk_at "w"
    rw [aupd_same]; walk_at "w"
    exact c.yes rfl ((Sub.refl _).upd hp2)
  · have e : ((ys.zipIdx).filterMap fun p => some (rowP (sortU (r1 wide p.2)))) = ((List.range many.toNat).map fun k => sortU (r1 wide k)).map rowP := by
      rw [← hl, List.map_map]
      have gen : ∀ (l : List PV) (k : Nat), ((l.zipIdx k).filterMap fun p => some (rowP (sortU (r1 wide p.2)))) = (List.range' k l.length).map (rowP ∘ fun k => sortU (r1 wide k)) := by
        intro l
        induction l with
        | nil => intro k; rfl
        | cons x r ih =>
          intro k
          rw [List.zipIdx_cons, List.filterMap_cons, ih (k + 1), List.length_cons, List.range'_succ]
          rfl
      rw [gen, List.range_eq_range']
    rw [e]
    refine fin D2 _ h2 (netSz_of (by omega) fun k _ => ⟨r1_ok w0 k, ?_⟩)
    have g : ∀ l : List Int, (sortU l).length ≤ l.length := by
      intro l
      induction l with
      | nil => simp [sortU]
      | cons x r ih =>
        have e : sortU (x :: r) = insU x (sortU r) := rfl
        have h2 : ∀ (k : Int) (m : List Int), (insU k m).length ≤ m.length + 1 := by
          intro k m
          induction m with
          | nil => simp [insU]
          | cons y t ih2 =>
            unfold insU
            split
            · simp
            · split
              · simp
              · simp; exact ih2
        rw [e, List.length_cons]
        have := h2 x (sortU r)
        omega
    have := g (r1 wide k)
    have : (r1 wide k).length ≤ 2 := by unfold r1; simp; split <;> split <;> simp
    omega
/-! ### pairs -/
structure InsOk (one other : List (List Int)) (ins : List (Int × Int)) : Prop where
  key : (ins.map (·.1)).Nodup
  few : ins.length ≤ other.length
  low : ∀ p ∈ ins, 0 ≤ p.1 ∧ p.1 < other.length ∧ other[p.1.toNat]? = some [] ∧ 0 ≤ p.2 ∧ p.2 < one.length
  val : (ins.map (·.2)).Nodup
theorem nodup_map_erase {l : List Int} (h : l.Nodup) (j : Nat) : (l.eraseIdx j).Nodup := h.sublist (List.eraseIdx_sublist _ _)
theorem erase_map {α β : Type} (f : α → β) : ∀ (l : List α) (j : Nat), (l.map f).eraseIdx j = (l.eraseIdx j).map f
  | [], _ => rfl
  | _ :: _, 0 => rfl
  | x :: r, j + 1 => by
    show f x :: (r.map f).eraseIdx j = f x :: (r.eraseIdx j).map f
    rw [erase_map f r j]
theorem not_mem_erase {l : List Int} (h : l.Nodup) {j : Nat} {x : Int} (e : l[j]? = some x) : x ∉ l.eraseIdx j := by
  intro hm
  rw [List.mem_eraseIdx_iff_getElem?] at hm
  obtain ⟨i, hne, hi⟩ := hm
  have l1 := List.getElem?_eq_some_iff.mp e
  have l2 := List.getElem?_eq_some_iff.mp hi
  obtain ⟨a1, b1⟩ := l1
  obtain ⟨a2, b2⟩ := l2
  exact hne ((List.getElem_inj h).mp (b2.trans b1.symm))
theorem tk_mem {ins : List (Int × Int)} {s v : Int} (h : tk ins s = some v) : (s, v) ∈ ins := by
  unfold tk at h
  obtain ⟨p, h1, rfl⟩ := Option.map_eq_some_iff.mp h
  have h2 := List.find?_some h1
  have h3 := List.mem_of_find?_eq_some h1
  simp at h2
  subst h2; exact h3
theorem cnt_mono {ins : List (Int × Int)} {a b : Nat} (h : a ≤ b) : cnt ins a ≤ cnt ins b := by
  induction b with
  | zero => have : a = 0 := by omega
            subst this; omega
  | succ b ih =>
    by_cases e : a = b + 1
    · subst e; omega
    · have := ih (by omega)
      rw [cnt_succ]; omega
theorem cnt_lt {ins : List (Int × Int)} {a b : Nat} (h : a < b) (ht : tk ins a = none) : cnt ins a < cnt ins b := by
  have h1 := cnt_mono (ins := ins) (show a + 1 ≤ b from h)
  rw [cnt_succ, ht] at h1
  simp at h1; omega
theorem nodup_inj {l : List (Int × Int)} (h : (l.map (·.2)).Nodup) {p q : Int × Int} (hp : p ∈ l) (hq : q ∈ l) (e : p.2 = q.2) : p = q := by
  induction l with
  | nil => simp at hp
  | cons x r ih =>
    rw [List.map_cons, List.nodup_cons] at h
    rcases List.mem_cons.mp hp with a | a
    · rcases List.mem_cons.mp hq with b | b
      · rw [a, b]
      · subst a; exact absurd (e ▸ List.mem_map_of_mem b) h.1
    · rcases List.mem_cons.mp hq with b | b
      · subst b; exact absurd (e ▸ List.mem_map_of_mem a) h.1
      · exact ih h.2 a b
section
variable {one other : List (List Int)} {ins : List (Int × Int)}
theorem num_lt (io : InsOk one other ins) {a b : Nat} (h : a < b) : num one.length ins a < one.length + (cnt ins b : Nat) ∧ 0 ≤ num one.length ins a := by
  unfold num
  cases ht : tk ins a with
  | some v =>
    have := (io.low _ (tk_mem ht)).2.2.2
    dsimp only
    dsimp only at this
    omega
  | none =>
    have := cnt_lt h ht
    dsimp only
    omega
theorem num_inj (io : InsOk one other ins) {a b : Nat} (e : num one.length ins a = num one.length ins b) : a = b := by
  unfold num at e
  cases ha : tk ins a with
  | some v =>
    cases hb : tk ins b with
    | some w =>
      rw [ha, hb] at e
      dsimp only at e
      have := nodup_inj io.val (tk_mem ha) (tk_mem hb) e
      have := congrArg Prod.fst this
      dsimp only at this
      omega
    | none =>
      rw [ha, hb] at e
      dsimp only at e
      have := (io.low _ (tk_mem ha)).2.2.2
      dsimp only at this
      omega
  | none =>
    cases hb : tk ins b with
    | some w =>
      rw [ha, hb] at e
      dsimp only at e
      have := (io.low _ (tk_mem hb)).2.2.2
      dsimp only at this
      omega
    | none =>
      rw [ha, hb] at e
      dsimp only at e
      by_cases h1 : a < b
      · have := cnt_lt h1 ha; omega
      · by_cases h2 : b < a
        · have := cnt_lt h2 hb; omega
        · omega
theorem putR_cnt (m : Int) {i : Nat} (h : i ≤ other.length) : (putR m ins (other.take i) 0).length = cnt ins i := by
  induction i with
  | zero => simp [putR, cnt]
  | succ i ih =>
    obtain ⟨r, hr⟩ : ∃ r, other[i]? = some r := ⟨other[i], List.getElem?_eq_getElem (by omega)⟩
    rw [putR_take _ _ hr, List.length_append, ih (by omega), cnt_succ]
    split <;> simp
theorem pick_ok (io : InsOk one other ins) {w : Nat} {r : List Int} (h : RowOk w r) : RowOk (one.length + (cnt ins w : Nat)) (pick one.length ins r) := by
  unfold pick
  refine ⟨isort_nodup ?_, fun n hn => ?_⟩
  · show List.Pairwise _ _
    rw [List.pairwise_map]
    refine List.Pairwise.imp_of_mem (fun {a b} ha hb hab e => ?_) h.srt
    have := num_inj io e
    have := h.low a ha
    have := h.low b hb
    omega
  · obtain ⟨k, hk, rfl⟩ := List.mem_map.mp (isort_mem.mp hn)
    have hl := h.low k hk
    have := num_lt io (show k.toNat < w by omega)
    omega
theorem put_ok (h1 : NetOk one) (h2 : NetOk other) (io : InsOk one other ins) {i : Nat} (hi : i ≤ other.length) : NetOk (one ++ putR one.length ins (other.take i) 0) := by
  induction i with
  | zero => simpa [putR] using h1
  | succ i ih =>
    obtain ⟨r, hr⟩ : ∃ r, other[i]? = some r := ⟨other[i], List.getElem?_eq_getElem (by omega)⟩
    rw [putR_take _ _ hr, ← List.append_assoc]
    split
    · refine netOk_snoc (ih (by omega)) ?_
      rw [List.length_append, putR_cnt _ (by omega)]
      have := pick_ok io (h2 i r hr)
      rw [Int.natCast_add]; exact this
    · rw [List.append_nil]; exact ih (by omega)
theorem putN_ok (h1 : NetOk one) (h2 : NetOk other) (io : InsOk one other ins) : NetOk (putN one other ins) := by
  have := put_ok h1 h2 io (Nat.le_refl other.length)
  rw [List.take_length] at this; exact this
theorem putN_at {w : Nat} {r : List Int} (hr : other[w]? = some r) (ht : tk ins w = none) : (putN one other ins)[one.length + cnt ins w]? = some (pick one.length ins r) := by
  have hw := (List.getElem?_eq_some_iff.mp hr).1
  have e : putR one.length ins other 0 = putR one.length ins (other.take (w + 1)) 0 ++ putR one.length ins (other.drop (w + 1)) (0 + (other.take (w + 1)).length) := by
    rw [← putR_append, List.take_append_drop]
  unfold putN
  rw [List.getElem?_append_right (by omega)]
  rw [e, putR_take _ _ hr, ht]
  have l := putR_cnt (other := other) (ins := ins) one.length (show w ≤ other.length by omega)
  have e2 : one.length + cnt ins w - one.length = cnt ins w := by omega
  rw [e2, List.append_assoc, List.getElem?_append_right (by omega), l]
  simp
theorem cnt_nil (w : Nat) : cnt [] w = w := by
  induction w with
  | zero => rfl
  | succ w ih => rw [cnt_succ, ih]; rfl
theorem putR_nil (h2 : NetOk other) : putR one.length [] other 0 = other.map fun r => r.map fun n => n + (one.length : Int) := by
  have gen : ∀ i, i ≤ other.length → putR one.length [] (other.take i) 0 = (other.take i).map fun r => r.map fun n => n + (one.length : Int) := by
    intro i
    induction i with
    | zero => intro _; simp [putR]
    | succ i ih =>
      intro hi
      obtain ⟨r, hr⟩ : ∃ r, other[i]? = some r := ⟨other[i], List.getElem?_eq_getElem (by omega)⟩
      rw [putR_take _ _ hr, ih (by omega), List.take_add_one, hr, List.map_append]
      have e : tk [] (i : Int) = none := rfl
      rw [e]
      have ro := h2 i r hr
      have ep : pick one.length [] r = r.map fun n => n + (one.length : Int) := by
        unfold pick
        have e2 : r.map (fun n => num one.length [] n.toNat) = r.map fun n => n + (one.length : Int) := by
          refine List.map_congr_left fun n hn => ?_
          have := (ro.low n hn).1
          show (one.length : Int) + (cnt [] n.toNat : Nat) = _
          rw [cnt_nil]; omega
        rw [e2]
        refine isort_sorted ?_
        rw [List.pairwise_map]
        exact ro.srt.imp fun h => by omega
      rw [ep]; rfl
  have := gen other.length (Nat.le_refl _)
  rw [List.take_length] at this; exact this
theorem putN_nil (h2 : NetOk other) : putN one other [] = besideN one other := by
  unfold putN besideN
  rw [putR_nil h2]
theorem pick_len (m : Int) (r : List Int) : (pick m ins r).length = r.length := by unfold pick; rw [isort_len, List.length_map]
theorem putR_few {c : Nat} (m : Int) : ∀ (t : List (List Int)) (k : Nat), (∀ r ∈ t, r.length < c) → ∀ r ∈ putR m ins t k, r.length < c
  | [], _, _, r, h => by simp [putR] at h
  | q :: t, k, hq, r, h => by
    have ih := putR_few m t (k + 1) fun r hr => hq r (List.mem_cons_of_mem _ hr)
    unfold putR at h
    split at h
    · rcases List.mem_cons.mp h with e | e
      · subst e; rw [pick_len]; exact hq q List.mem_cons_self
      · exact ih r e
    · exact ih r h
theorem alike_row (A : AH) (d : Nat) {r : List Int} (hr : r.length < 1000) : Alike A (d + 1) (rowP r) (rowP r) := by
  refine .inr (.inl ⟨_, _, _, _, rfl, rfl, rfl, szl (by simp; omega), fun i u v hu hv => ?_⟩)
  rw [hu] at hv; cases hv
  rw [List.getElem?_map] at hu
  obtain ⟨n, _, rfl⟩ := Option.map_eq_some_iff.mp hu
  cases d with
  | zero => exact .inl ⟨n, rfl, rfl⟩
  | succ d => exact .inl (.inl ⟨n, rfl, rfl⟩)
theorem alike_net (A : AH) (d : Nat) {n : List (List Int)} (hn : n.length < 1000) (hr : ∀ r ∈ n, r.length < 1000) : Alike A (d + 2) (netP n) (netP n) := by
  refine .inr (.inl ⟨_, _, _, _, rfl, rfl, rfl, szl (by simp; omega), fun i u v hu hv => ?_⟩)
  rw [hu] at hv; cases hv
  rw [List.getElem?_map] at hu
  obtain ⟨r, h1, rfl⟩ := Option.map_eq_some_iff.mp hu
  exact alike_row A d (hr r (List.mem_of_getElem? h1))
theorem alike_list (A : AH) (d : Nat) {p q : Addr} {ns : List Int} (hp : A p = some (.lst (ns.map .int))) (hq : A q = some (.lst (ns.map .int))) (hr : ns.length < 1000) : Alike A (d + 1) (.ref p) (.ref q) := by
  refine .inr (.inr ⟨_, _, _, _, rfl, rfl, hp, hq, rfl, szl (by simp; omega), fun i u v hu hv => ?_⟩)
  rw [hu] at hv; cases hv
  rw [List.getElem?_map] at hu
  obtain ⟨n, _, rfl⟩ := Option.map_eq_some_iff.mp hu
  cases d with
  | zero => exact .inl ⟨n, rfl, rfl⟩
  | succ d => exact .inl (.inl ⟨n, rfl, rfl⟩)
end
theorem lVar_at {i : Nat} {s : LSt} {v : PV} {A : AH} {Q : QK} (h : sget s i = some v) (k : Q v A) : lVar i s A Q := by
  unfold lVar; rw [h]; exact k
theorem cut_63 (ns : List Int) : ∃ ms : List Int, cutP (ns.map PV.int) none (some 63) = ms.map .int ∧ ms.length ≤ 63 := by
  refine ⟨cutP ns none (some 63), ?_, ?_⟩
  · unfold cutP
    rw [List.length_map, List.map_take, List.map_drop]
  · unfold cutP
    rw [List.length_take]
    have : HT.sIx ns.length ns.length (some 63) ≤ 63 := by
      unfold HT.sIx
      dsimp only
      rw [if_neg (by decide)]
      exact Nat.min_le_left _ _
    omega
end Lf
namespace Wk
open PySem PySem.Spec L2 Lf
open PyProof.Rows hiding St
def top (i : Nat) : Stmt := PySem.Challenge.pw_fewrooms_k63_plans_of_rows_and_squares.main.body.getD i (.Pass ⟨0, 0, 0, 0⟩)

abbrev N_row_net : List Str := ["n", "back", "work"]
def T_row_net (W : LW) : LS :=
 (lRet (lCB (lTuple .own) (lCons (lComp (lRng1 (lCons (lVar 0) lNil)) (.name 2) lYes (lTupRg (lRg2 (lCB lMax (lCons (lC (.int 0)) (lCons (lOp lSub (lVar 2) (lVar 1)) lNil))) (lVar 2))) [2]) lNil)))
theorem sc_row_net : FnScope N_row_net ["n", "back"] (defScope (top 1)) := ⟨rfl, rfl, rfl, by decide +kernel, rfl, by decide +kernel, by decide +kernel⟩
theorem lfn_row_net {P : Program} {w : World} {K : PySem.W.Frag} {mg : Str → Option Value} {base : Heap} {k : Nat} {f : Addr} {fd : FuncData} {S : LSp} (B : Blts mg) (F : FunD K "row_net" "row_net" (defArgs (top 1)) (defBody (top 1)) (defScope (top 1)) [] [] f fd)
    (len : ∀ xs A Q Z, S xs A Q Z → xs.length = 2) (hT : Keeps N_row_net (T_row_net) S) : LFn P w K mg base (k + 1) f fd ["n", "back"] S := by
  refine lfn F sc_row_net len hT ?_
  intro cdv A outer s H E W hr tk
  have hu := hr.un
  have hu : (A.deeper (envOfC "row_net" (defScope (top 1)) s.heap.objs.size f cdv)).units + 200 < cLine := by omega
  have hp := passes_of (X := cxOf (CX P w) P w K mg base N_row_net "row_net" (defScope (top 1)) f cdv A outer s H E) rfl
  have scN : (N_row_net : List Str).Nodup := sc_row_net.nd
  unfold T_row_net
  exact (jss_one (js_ret (w_ct (lcall_tuple (by decide)) B.tuple boot_tuple (w_a (w_lc [("work", 2)] rfl scN (w_rg1 B.range (w_a (w_v 0) ja_nil)) (by intro s1 H1 C1 cl1 fp1; exact (w_hn 2 scN)) (by intro s1 H1 C1 cl1 fp1; exact jts_nil) (by intro s1 H1 C1 cl1 fp1; exact (w_tr rfl B.tuple (w_r2 B.range (w_cb (lcall_max rfl) B.max boot_max (w_a w_i (w_a (je_op (lop_I0 op_sub) (w_v 2) (w_v 1)) ja_nil))) (w_v 2))))) ja_nil))))
theorem walk_row_net {P : Program} {w : World} {K : PySem.W.Frag} {mg : Str → Option Value} {base : Heap} {k : Nat} {f : Addr} {fd : FuncData} {S : LSp} (B : Blts mg) (F : FunD K "row_net" "row_net" (defArgs (top 1)) (defBody (top 1)) (defScope (top 1)) [] [] f fd) (gf : mg "row_net" = some (.ref f))
    (len : ∀ xs A Q Z, S xs A Q Z → xs.length = 2) (hT : Keeps N_row_net (T_row_net) S) : GFn P w K mg base (k + 1) "row_net" ["n", "back"] S :=
  ⟨f, fd, gf, F.kp, FunD.bindsN F (fun _ _ _ _ _ _ us hl => match us, hl with | [_, _], _ => rfl), lfn_row_net B F len hT⟩

abbrev N_square_needs : List Str := ["i", "j", "m", "found"]
def T_square_needs (W : LW) : LS :=
 (lSeq (lAsg (lLst lNil) (lgName 3))
 (lSeq (lIfS (lTest (lOp lGt (lVar 0) (lC (.int 0))))
  (lDrop (lMeth mAppend (lVar 3) (lCons (lOp lAdd (lOp lMul (lOp lSub (lVar 0) (lC (.int 1))) (lVar 2)) (lVar 1)) lNil)))
  lNext)
 (lSeq (lIfS (lTest (lOp lGt (lVar 1) (lC (.int 0))))
  (lDrop (lMeth mAppend (lVar 3) (lCons (lOp lSub (lOp lAdd (lOp lMul (lVar 0) (lVar 2)) (lVar 1)) (lC (.int 1))) lNil)))
  lNext)
 (lRet (lCB (lTuple .own) (lCons (lVar 3) lNil))))))
theorem sc_square_needs : FnScope N_square_needs ["i", "j", "m"] (defScope (top 2)) := ⟨rfl, rfl, rfl, by decide +kernel, rfl, by decide +kernel, by decide +kernel⟩
theorem lfn_square_needs {P : Program} {w : World} {K : PySem.W.Frag} {mg : Str → Option Value} {base : Heap} {k : Nat} {f : Addr} {fd : FuncData} {S : LSp} (B : Blts mg) (F : FunD K "square_needs" "square_needs" (defArgs (top 2)) (defBody (top 2)) (defScope (top 2)) [] [] f fd)
    (len : ∀ xs A Q Z, S xs A Q Z → xs.length = 3) (hT : Keeps N_square_needs (T_square_needs) S) : LFn P w K mg base (k + 1) f fd ["i", "j", "m"] S := by
  refine lfn F sc_square_needs len hT ?_
  intro cdv A outer s H E W hr tk
  have hu := hr.un
  have hu : (A.deeper (envOfC "square_needs" (defScope (top 2)) s.heap.objs.size f cdv)).units + 200 < cLine := by omega
  have hp := passes_of (X := cxOf (CX P w) P w K mg base N_square_needs "square_needs" (defScope (top 2)) f cdv A outer s H E) rfl
  have scN : (N_square_needs : List Str).Nodup := sc_square_needs.nd
  unfold T_square_needs
  exact (jss_cons (w_asg (je_lst ja_nil) (w_gn 3 scN))
 (jss_cons (js_if (w_tcmp (lop_cmpI op_gt) (w_v 0) w_i)
  (jss_one (w_ex (w_m al_append (w_v 3) (w_a (je_op lop_add (je_op lop_mul (je_op (lop_I0 op_sub) (w_v 0) w_i) (w_v 2)) (w_v 1)) ja_nil))))
  jss_nil)
 (jss_cons (js_if (w_tcmp (lop_cmpI op_gt) (w_v 1) w_i)
  (jss_one (w_ex (w_m al_append (w_v 3) (w_a (je_op (lop_I0 op_sub) (je_op lop_add (je_op lop_mul (w_v 0) (w_v 2)) (w_v 1)) w_i) ja_nil))))
  jss_nil)
 (jss_one (js_ret (w_ct (lcall_tuple (by decide)) B.tuple boot_tuple (w_a (w_v 3) ja_nil)))))))
theorem walk_square_needs {P : Program} {w : World} {K : PySem.W.Frag} {mg : Str → Option Value} {base : Heap} {k : Nat} {f : Addr} {fd : FuncData} {S : LSp} (B : Blts mg) (F : FunD K "square_needs" "square_needs" (defArgs (top 2)) (defBody (top 2)) (defScope (top 2)) [] [] f fd) (gf : mg "square_needs" = some (.ref f))
    (len : ∀ xs A Q Z, S xs A Q Z → xs.length = 3) (hT : Keeps N_square_needs (T_square_needs) S) : GFn P w K mg base (k + 1) "square_needs" ["i", "j", "m"] S :=
  ⟨f, fd, gf, F.kp, FunD.bindsN F (fun _ _ _ _ _ _ us hl => match us, hl with | [_, _, _], _ => rfl), lfn_square_needs B F len hT⟩

abbrev N_square_net : List Str := ["n", "m", "work"]
def T_square_net (S_square_needs : LSp) (W : LW) : LS :=
 (lRet (lCB (lTuple .own) (lCons (lComp (lRng1 (lCons (lOp lMul (lVar 0) (lVar 1)) lNil)) (.name 2) lYes (lCall lwNo S_square_needs (lCons (lOp lFdiv (lVar 2) (lVar 1)) (lCons (lOp lMod (lVar 2) (lVar 1)) (lCons (lVar 1) lNil)))) [2]) lNil)))
theorem sc_square_net : FnScope N_square_net ["n", "m"] (defScope (top 3)) := ⟨rfl, rfl, rfl, by decide +kernel, rfl, by decide +kernel, by decide +kernel⟩
theorem lfn_square_net {P : Program} {w : World} {K : PySem.W.Frag} {mg : Str → Option Value} {base : Heap} {k : Nat} {f : Addr} {fd : FuncData} {S_square_needs : LSp} {S : LSp} (B : Blts mg) (F : FunD K "square_net" "square_net" (defArgs (top 3)) (defBody (top 3)) (defScope (top 3)) [] [] f fd) (G_square_needs : GFn P w K mg base k "square_needs" ["i", "j", "m"] S_square_needs)
    (len : ∀ xs A Q Z, S xs A Q Z → xs.length = 2) (hT : Keeps N_square_net (T_square_net S_square_needs) S) : LFn P w K mg base (k + 1) f fd ["n", "m"] S := by
  refine lfn F sc_square_net len hT ?_
  intro cdv A outer s H E W hr tk
  have hu := hr.un
  have hu : (A.deeper (envOfC "square_net" (defScope (top 3)) s.heap.objs.size f cdv)).units + 200 < cLine := by omega
  have hp := passes_of (X := cxOf (CX P w) P w K mg base N_square_net "square_net" (defScope (top 3)) f cdv A outer s H E) rfl
  have scN : (N_square_net : List Str).Nodup := sc_square_net.nd
  unfold T_square_net
  exact (jss_one (js_ret (w_ct (lcall_tuple (by decide)) B.tuple boot_tuple (w_a (w_lc [("work", 2)] rfl scN (w_rg1 B.range (w_a (je_op lop_mul (w_v 0) (w_v 1)) ja_nil)) (by intro s1 H1 C1 cl1 fp1; exact (w_hn 2 scN)) (by intro s1 H1 C1 cl1 fp1; exact jts_nil) (by intro s1 H1 C1 cl1 fp1; exact (w_call G_square_needs takes_no hr (w_a (je_op (lop_II op_fdiv) (w_v 2) (w_v 1)) (w_a (je_op (lop_II op_mod) (w_v 2) (w_v 1)) (w_a (w_v 1) ja_nil)))))) ja_nil))))
theorem walk_square_net {P : Program} {w : World} {K : PySem.W.Frag} {mg : Str → Option Value} {base : Heap} {k : Nat} {f : Addr} {fd : FuncData} {S_square_needs : LSp} {S : LSp} (B : Blts mg) (F : FunD K "square_net" "square_net" (defArgs (top 3)) (defBody (top 3)) (defScope (top 3)) [] [] f fd) (gf : mg "square_net" = some (.ref f)) (G_square_needs : GFn P w K mg base k "square_needs" ["i", "j", "m"] S_square_needs)
    (len : ∀ xs A Q Z, S xs A Q Z → xs.length = 2) (hT : Keeps N_square_net (T_square_net S_square_needs) S) : GFn P w K mg base (k + 1) "square_net" ["n", "m"] S :=
  ⟨f, fd, gf, F.kp, FunD.bindsN F (fun _ _ _ _ _ _ us hl => match us, hl with | [_, _], _ => rfl), lfn_square_net B F G_square_needs len hT⟩

abbrev N_step_begins : List Str := ["n", "found", "row"]
def T_step_begins (W : LW) : LS :=
 (lSeq (lAsg (lLst (lCons (lC (.int 0)) lNil)) (lgName 1))
 (lSeq (lFor (lRng2 (lCons (lC (.int 1)) (lCons (lVar 0) lNil))) (lgT (.name 2))
  (lDrop (lMeth mAppend (lVar 1) (lCons (lOp lAdd (lOp lSub (lOp lAdd (lOp lIx (lVar 1) (lNegE (lC (.int 1)))) (lVar 0)) (lVar 2)) (lC (.int 1))) lNil))))
 (lRet (lVar 1))))
theorem sc_step_begins : FnScope N_step_begins ["n"] (defScope (top 4)) := ⟨rfl, rfl, rfl, by decide +kernel, rfl, by decide +kernel, by decide +kernel⟩
theorem lfn_step_begins {P : Program} {w : World} {K : PySem.W.Frag} {mg : Str → Option Value} {base : Heap} {k : Nat} {f : Addr} {fd : FuncData} {S : LSp} (B : Blts mg) (F : FunD K "step_begins" "step_begins" (defArgs (top 4)) (defBody (top 4)) (defScope (top 4)) [] [] f fd)
    (len : ∀ xs A Q Z, S xs A Q Z → xs.length = 1) (hT : Keeps N_step_begins (T_step_begins) S) : LFn P w K mg base (k + 1) f fd ["n"] S := by
  refine lfn F sc_step_begins len hT ?_
  intro cdv A outer s H E W hr tk
  have hu := hr.un
  have hu : (A.deeper (envOfC "step_begins" (defScope (top 4)) s.heap.objs.size f cdv)).units + 200 < cLine := by omega
  have hp := passes_of (X := cxOf (CX P w) P w K mg base N_step_begins "step_begins" (defScope (top 4)) f cdv A outer s H E) rfl
  have scN : (N_step_begins : List Str).Nodup := sc_step_begins.nd
  unfold T_step_begins
  exact (jss_cons (w_asg (je_lst (w_a w_i ja_nil)) (w_gn 1 scN))
 (jss_cons (w_for hp rfl (w_rg2 B.range (w_a w_i (w_a (w_v 0) ja_nil))) (jg_T (w_hn 2 scN))
  (jss_one (w_ex (w_m al_append (w_v 1) (w_a (je_op lop_add (je_op (lop_I0 op_sub) (je_op lop_add (w_ix hu (w_v 1) (je_neg w_i)) (w_v 0)) (w_v 2)) w_i) ja_nil)))))
 (jss_one (js_ret (w_v 1)))))
theorem walk_step_begins {P : Program} {w : World} {K : PySem.W.Frag} {mg : Str → Option Value} {base : Heap} {k : Nat} {f : Addr} {fd : FuncData} {S : LSp} (B : Blts mg) (F : FunD K "step_begins" "step_begins" (defArgs (top 4)) (defBody (top 4)) (defScope (top 4)) [] [] f fd) (gf : mg "step_begins" = some (.ref f))
    (len : ∀ xs A Q Z, S xs A Q Z → xs.length = 1) (hT : Keeps N_step_begins (T_step_begins) S) : GFn P w K mg base (k + 1) "step_begins" ["n"] S :=
  ⟨f, fd, gf, F.kp, FunD.bindsN F (fun _ _ _ _ _ _ us hl => match us, hl with | [_], _ => rfl), lfn_step_begins B F len hT⟩

abbrev N_step_net : List Str := ["n", "begins", "found", "row", "k"]
def T_step_net (S_step_begins : LSp) (W : LW) : LS :=
 (lSeq (lAsg (lCall W S_step_begins (lCons (lVar 0) lNil)) (lgName 1))
 (lSeq (lAsg (lOp lMul (lLst (lCons (lTup lNil) lNil)) (lVar 0)) (lgName 2))
 (lSeq (lFor (lRng2 (lCons (lC (.int 1)) (lCons (lVar 0) lNil))) (lgT (.name 3))
  (lDrop (lMeth mExtend (lVar 2) (lCons (lComp (lRng1 (lCons (lOp lSub (lVar 0) (lVar 3)) lNil)) (.name 4) lYes (lTup (lCons (lOp lAdd (lOp lIx (lVar 1) (lOp lSub (lVar 3) (lC (.int 1)))) (lVar 4)) (lCons (lOp lAdd (lOp lAdd (lOp lIx (lVar 1) (lOp lSub (lVar 3) (lC (.int 1)))) (lVar 4)) (lC (.int 1))) lNil))) [4]) lNil))))
 (lRet (lCB (lTuple .own) (lCons (lVar 2) lNil))))))
theorem sc_step_net : FnScope N_step_net ["n"] (defScope (top 5)) := ⟨rfl, rfl, rfl, by decide +kernel, rfl, by decide +kernel, by decide +kernel⟩
theorem lfn_step_net {P : Program} {w : World} {K : PySem.W.Frag} {mg : Str → Option Value} {base : Heap} {k : Nat} {f : Addr} {fd : FuncData} {S_step_begins : LSp} {S : LSp} (B : Blts mg) (F : FunD K "step_net" "step_net" (defArgs (top 5)) (defBody (top 5)) (defScope (top 5)) [] [] f fd) (G_step_begins : GFn P w K mg base k "step_begins" ["n"] S_step_begins)
    (len : ∀ xs A Q Z, S xs A Q Z → xs.length = 1) (hT : Keeps N_step_net (T_step_net S_step_begins) S) : LFn P w K mg base (k + 1) f fd ["n"] S := by
  refine lfn F sc_step_net len hT ?_
  intro cdv A outer s H E W hr tk
  have hu := hr.un
  have hu : (A.deeper (envOfC "step_net" (defScope (top 5)) s.heap.objs.size f cdv)).units + 200 < cLine := by omega
  have hp := passes_of (X := cxOf (CX P w) P w K mg base N_step_net "step_net" (defScope (top 5)) f cdv A outer s H E) rfl
  have scN : (N_step_net : List Str).Nodup := sc_step_net.nd
  unfold T_step_net
  exact (jss_cons (w_asg (w_call G_step_begins tk hr (w_a (w_v 0) ja_nil)) (w_gn 1 scN))
 (jss_cons (w_asg (je_op lop_mul (je_lst (w_a (je_tup ja_nil) ja_nil)) (w_v 0)) (w_gn 2 scN))
 (jss_cons (w_for hp rfl (w_rg2 B.range (w_a w_i (w_a (w_v 0) ja_nil))) (jg_T (w_hn 3 scN))
  (jss_one (w_ex (w_m al_extend (w_v 2) (w_a (w_lc [("k", 4)] rfl scN (w_rg1 B.range (w_a (je_op (lop_I0 op_sub) (w_v 0) (w_v 3)) ja_nil)) (by intro s1 H1 C1 cl1 fp1; exact (w_hn 4 scN)) (by intro s1 H1 C1 cl1 fp1; exact jts_nil) (by intro s1 H1 C1 cl1 fp1; exact (je_tup (w_a (je_op lop_add (w_ix hu (w_v 1) (je_op (lop_I0 op_sub) (w_v 3) w_i)) (w_v 4)) (w_a (je_op lop_add (je_op lop_add (w_ix hu (w_v 1) (je_op (lop_I0 op_sub) (w_v 3) w_i)) (w_v 4)) w_i) ja_nil))))) ja_nil)))))
 (jss_one (js_ret (w_ct (lcall_tuple (by decide)) B.tuple boot_tuple (w_a (w_v 2) ja_nil)))))))
theorem walk_step_net {P : Program} {w : World} {K : PySem.W.Frag} {mg : Str → Option Value} {base : Heap} {k : Nat} {f : Addr} {fd : FuncData} {S_step_begins : LSp} {S : LSp} (B : Blts mg) (F : FunD K "step_net" "step_net" (defArgs (top 5)) (defBody (top 5)) (defScope (top 5)) [] [] f fd) (gf : mg "step_net" = some (.ref f)) (G_step_begins : GFn P w K mg base k "step_begins" ["n"] S_step_begins)
    (len : ∀ xs A Q Z, S xs A Q Z → xs.length = 1) (hT : Keeps N_step_net (T_step_net S_step_begins) S) : GFn P w K mg base (k + 1) "step_net" ["n"] S :=
  ⟨f, fd, gf, F.kp, FunD.bindsN F (fun _ _ _ _ _ _ us hl => match us, hl with | [_], _ => rfl), lfn_step_net B F G_step_begins len hT⟩

abbrev N_row_rooms : List Str := ["n", "back"]
def T_row_rooms (W : LW) : LS :=
 (lRet (lCB lMin (lCons (lVar 0) (lCons (lOp lAdd (lVar 1) (lC (.int 1))) lNil))))
theorem sc_row_rooms : FnScope N_row_rooms ["n", "back"] (defScope (top 6)) := ⟨rfl, rfl, rfl, by decide +kernel, rfl, by decide +kernel, by decide +kernel⟩
theorem lfn_row_rooms {P : Program} {w : World} {K : PySem.W.Frag} {mg : Str → Option Value} {base : Heap} {k : Nat} {f : Addr} {fd : FuncData} {S : LSp} (B : Blts mg) (F : FunD K "row_rooms" "row_rooms" (defArgs (top 6)) (defBody (top 6)) (defScope (top 6)) [] [] f fd)
    (len : ∀ xs A Q Z, S xs A Q Z → xs.length = 2) (hT : Keeps N_row_rooms (T_row_rooms) S) : LFn P w K mg base (k + 1) f fd ["n", "back"] S := by
  refine lfn F sc_row_rooms len hT ?_
  intro cdv A outer s H E W hr tk
  have hu := hr.un
  have hu : (A.deeper (envOfC "row_rooms" (defScope (top 6)) s.heap.objs.size f cdv)).units + 200 < cLine := by omega
  have hp := passes_of (X := cxOf (CX P w) P w K mg base N_row_rooms "row_rooms" (defScope (top 6)) f cdv A outer s H E) rfl
  have scN : (N_row_rooms : List Str).Nodup := sc_row_rooms.nd
  unfold T_row_rooms
  exact (jss_one (js_ret (w_cb (lcall_min rfl) B.min boot_min (w_a (w_v 0) (w_a (je_op lop_add (w_v 1) w_i) ja_nil)))))
theorem walk_row_rooms {P : Program} {w : World} {K : PySem.W.Frag} {mg : Str → Option Value} {base : Heap} {k : Nat} {f : Addr} {fd : FuncData} {S : LSp} (B : Blts mg) (F : FunD K "row_rooms" "row_rooms" (defArgs (top 6)) (defBody (top 6)) (defScope (top 6)) [] [] f fd) (gf : mg "row_rooms" = some (.ref f))
    (len : ∀ xs A Q Z, S xs A Q Z → xs.length = 2) (hT : Keeps N_row_rooms (T_row_rooms) S) : GFn P w K mg base (k + 1) "row_rooms" ["n", "back"] S :=
  ⟨f, fd, gf, F.kp, FunD.bindsN F (fun _ _ _ _ _ _ us hl => match us, hl with | [_, _], _ => rfl), lfn_row_rooms B F len hT⟩

abbrev N_square_rooms : List Str := ["n", "m"]
def T_square_rooms (W : LW) : LS :=
 (lSeq (lIfS (lAnd (lTest (lOp lEq (lVar 0) (lC (.int 1)))) (lTest (lOp lEq (lVar 1) (lC (.int 1)))))
  (lRet (lC (.int 1)))
  lNext)
 (lRet (lOp lAdd (lCB lMin (lCons (lVar 0) (lCons (lVar 1) lNil))) (lC (.int 1)))))
theorem sc_square_rooms : FnScope N_square_rooms ["n", "m"] (defScope (top 7)) := ⟨rfl, rfl, rfl, by decide +kernel, rfl, by decide +kernel, by decide +kernel⟩
theorem lfn_square_rooms {P : Program} {w : World} {K : PySem.W.Frag} {mg : Str → Option Value} {base : Heap} {k : Nat} {f : Addr} {fd : FuncData} {S : LSp} (B : Blts mg) (F : FunD K "square_rooms" "square_rooms" (defArgs (top 7)) (defBody (top 7)) (defScope (top 7)) [] [] f fd)
    (len : ∀ xs A Q Z, S xs A Q Z → xs.length = 2) (hT : Keeps N_square_rooms (T_square_rooms) S) : LFn P w K mg base (k + 1) f fd ["n", "m"] S := by
  refine lfn F sc_square_rooms len hT ?_
  intro cdv A outer s H E W hr tk
  have hu := hr.un
  have hu : (A.deeper (envOfC "square_rooms" (defScope (top 7)) s.heap.objs.size f cdv)).units + 200 < cLine := by omega
  have hp := passes_of (X := cxOf (CX P w) P w K mg base N_square_rooms "square_rooms" (defScope (top 7)) f cdv A outer s H E) rfl
  have scN : (N_square_rooms : List Str).Nodup := sc_square_rooms.nd
  unfold T_square_rooms
  exact (jss_cons (js_if (w_pt (jw_and (w_tcmp (lop_eq (u64 hu)) (w_v 0) w_i) (w_and1 (w_tcmp (lop_eq (u64 hu)) (w_v 1) w_i))))
  (jss_one (js_ret w_i))
  jss_nil)
 (jss_one (js_ret (je_op lop_add (w_cb (lcall_min rfl) B.min boot_min (w_a (w_v 0) (w_a (w_v 1) ja_nil))) w_i))))
theorem walk_square_rooms {P : Program} {w : World} {K : PySem.W.Frag} {mg : Str → Option Value} {base : Heap} {k : Nat} {f : Addr} {fd : FuncData} {S : LSp} (B : Blts mg) (F : FunD K "square_rooms" "square_rooms" (defArgs (top 7)) (defBody (top 7)) (defScope (top 7)) [] [] f fd) (gf : mg "square_rooms" = some (.ref f))
    (len : ∀ xs A Q Z, S xs A Q Z → xs.length = 2) (hT : Keeps N_square_rooms (T_square_rooms) S) : GFn P w K mg base (k + 1) "square_rooms" ["n", "m"] S :=
  ⟨f, fd, gf, F.kp, FunD.bindsN F (fun _ _ _ _ _ _ us hl => match us, hl with | [_, _], _ => rfl), lfn_square_rooms B F len hT⟩

abbrev N_step_rooms : List Str := ["n"]
def T_step_rooms (W : LW) : LS :=
 (lRet (lIf (lTest (lOp lEq (lVar 0) (lC (.int 1)))) (lC (.int 1)) (lOp lAdd (lVar 0) (lC (.int 1)))))
theorem sc_step_rooms : FnScope N_step_rooms ["n"] (defScope (top 8)) := ⟨rfl, rfl, rfl, by decide +kernel, rfl, by decide +kernel, by decide +kernel⟩
theorem lfn_step_rooms {P : Program} {w : World} {K : PySem.W.Frag} {mg : Str → Option Value} {base : Heap} {k : Nat} {f : Addr} {fd : FuncData} {S : LSp} (B : Blts mg) (F : FunD K "step_rooms" "step_rooms" (defArgs (top 8)) (defBody (top 8)) (defScope (top 8)) [] [] f fd)
    (len : ∀ xs A Q Z, S xs A Q Z → xs.length = 1) (hT : Keeps N_step_rooms (T_step_rooms) S) : LFn P w K mg base (k + 1) f fd ["n"] S := by
  refine lfn F sc_step_rooms len hT ?_
  intro cdv A outer s H E W hr tk
  have hu := hr.un
  have hu : (A.deeper (envOfC "step_rooms" (defScope (top 8)) s.heap.objs.size f cdv)).units + 200 < cLine := by omega
  have hp := passes_of (X := cxOf (CX P w) P w K mg base N_step_rooms "step_rooms" (defScope (top 8)) f cdv A outer s H E) rfl
  have scN : (N_step_rooms : List Str).Nodup := sc_step_rooms.nd
  unfold T_step_rooms
  exact (jss_one (js_ret (je_ifExp (w_tcmp (lop_eq (u64 hu)) (w_v 0) w_i) w_i (je_op lop_add (w_v 0) w_i))))
theorem walk_step_rooms {P : Program} {w : World} {K : PySem.W.Frag} {mg : Str → Option Value} {base : Heap} {k : Nat} {f : Addr} {fd : FuncData} {S : LSp} (B : Blts mg) (F : FunD K "step_rooms" "step_rooms" (defArgs (top 8)) (defBody (top 8)) (defScope (top 8)) [] [] f fd) (gf : mg "step_rooms" = some (.ref f))
    (len : ∀ xs A Q Z, S xs A Q Z → xs.length = 1) (hT : Keeps N_step_rooms (T_step_rooms) S) : GFn P w K mg base (k + 1) "step_rooms" ["n"] S :=
  ⟨f, fd, gf, F.kp, FunD.bindsN F (fun _ _ _ _ _ _ us hl => match us, hl with | [_], _ => rfl), lfn_step_rooms B F len hT⟩

abbrev N_row_plan : List Str := ["n", "back", "plan", "work"]
def T_row_plan (W : LW) : LS :=
 (lSeq (lAsg (lLst lNil) (lgName 2))
 (lSeq (lFor (lRng1 (lCons (lVar 0) lNil)) (lgT (.name 3))
  (lSeq (lDrop (lMeth mAppend (lVar 2) (lCons (lTup (lCons (lC (.str "do")) (lCons (lVar 3) lNil))) lNil)))
 (lIfS (lTest (lOp lGe (lVar 3) (lVar 1)))
  (lDrop (lMeth mAppend (lVar 2) (lCons (lTup (lCons (lC (.str "clear")) (lCons (lOp lSub (lVar 3) (lVar 1)) lNil))) lNil)))
  lNext)))
 (lRet (lVar 2))))
theorem sc_row_plan : FnScope N_row_plan ["n", "back"] (defScope (top 9)) := ⟨rfl, rfl, rfl, by decide +kernel, rfl, by decide +kernel, by decide +kernel⟩
theorem lfn_row_plan {P : Program} {w : World} {K : PySem.W.Frag} {mg : Str → Option Value} {base : Heap} {k : Nat} {f : Addr} {fd : FuncData} {S : LSp} (B : Blts mg) (F : FunD K "row_plan" "row_plan" (defArgs (top 9)) (defBody (top 9)) (defScope (top 9)) [] [] f fd)
    (len : ∀ xs A Q Z, S xs A Q Z → xs.length = 2) (hT : Keeps N_row_plan (T_row_plan) S) : LFn P w K mg base (k + 1) f fd ["n", "back"] S := by
  refine lfn F sc_row_plan len hT ?_
  intro cdv A outer s H E W hr tk
  have hu := hr.un
  have hu : (A.deeper (envOfC "row_plan" (defScope (top 9)) s.heap.objs.size f cdv)).units + 200 < cLine := by omega
  have hp := passes_of (X := cxOf (CX P w) P w K mg base N_row_plan "row_plan" (defScope (top 9)) f cdv A outer s H E) rfl
  have scN : (N_row_plan : List Str).Nodup := sc_row_plan.nd
  unfold T_row_plan
  exact (jss_cons (w_asg (je_lst ja_nil) (w_gn 2 scN))
 (jss_cons (w_for hp rfl (w_rg1 B.range (w_a (w_v 0) ja_nil)) (jg_T (w_hn 3 scN))
  (jss_cons (w_ex (w_m al_append (w_v 2) (w_a (je_tup (w_a w_s (w_a (w_v 3) ja_nil))) ja_nil)))
 (jss_one (js_if (w_tcmp (lop_cmpI op_ge) (w_v 3) (w_v 1))
  (jss_one (w_ex (w_m al_append (w_v 2) (w_a (je_tup (w_a w_s (w_a (je_op (lop_I0 op_sub) (w_v 3) (w_v 1)) ja_nil))) ja_nil))))
  jss_nil))))
 (jss_one (js_ret (w_v 2)))))
theorem walk_row_plan {P : Program} {w : World} {K : PySem.W.Frag} {mg : Str → Option Value} {base : Heap} {k : Nat} {f : Addr} {fd : FuncData} {S : LSp} (B : Blts mg) (F : FunD K "row_plan" "row_plan" (defArgs (top 9)) (defBody (top 9)) (defScope (top 9)) [] [] f fd) (gf : mg "row_plan" = some (.ref f))
    (len : ∀ xs A Q Z, S xs A Q Z → xs.length = 2) (hT : Keeps N_row_plan (T_row_plan) S) : GFn P w K mg base (k + 1) "row_plan" ["n", "back"] S :=
  ⟨f, fd, gf, F.kp, FunD.bindsN F (fun _ _ _ _ _ _ us hl => match us, hl with | [_, _], _ => rfl), lfn_row_plan B F len hT⟩

abbrev N_square_plan : List Str := ["n", "m", "lines", "j", "i", "plan", "k", "line", "place", "work"]
def T_square_plan (W : LW) : LS :=
 (lSeq (lIfS (lTest (lOp lLe (lVar 1) (lVar 0)))
  (lAsg (lComp (lRng1 (lCons (lVar 0) lNil)) (.name 4) lYes (lComp (lRng1 (lCons (lVar 1) lNil)) (.name 3) lYes (lOp lAdd (lOp lMul (lVar 4) (lVar 1)) (lVar 3)) [3]) [4]) (lgName 2))
  (lAsg (lComp (lRng1 (lCons (lVar 1) lNil)) (.name 3) lYes (lComp (lRng1 (lCons (lVar 0) lNil)) (.name 4) lYes (lOp lAdd (lOp lMul (lVar 4) (lVar 1)) (lVar 3)) [4]) [3]) (lgName 2)))
 (lSeq (lAsg (lLst lNil) (lgName 5))
 (lSeq (lFor (lEnum (lCons (lVar 2) lNil)) (lgT (.tup [(.name 6), (.name 7)]))
  (lFor (lEnum (lCons (lVar 7) lNil)) (lgT (.tup [(.name 8), (.name 9)]))
  (lSeq (lDrop (lMeth mAppend (lVar 5) (lCons (lTup (lCons (lC (.str "do")) (lCons (lVar 9) lNil))) lNil)))
 (lIfS (lTest (lOp lGt (lVar 6) (lC (.int 0))))
  (lDrop (lMeth mAppend (lVar 5) (lCons (lTup (lCons (lC (.str "clear")) (lCons (lOp lIx (lOp lIx (lVar 2) (lOp lSub (lVar 6) (lC (.int 1)))) (lVar 8)) lNil))) lNil)))
  lNext))))
 (lRet (lVar 5)))))
theorem sc_square_plan : FnScope N_square_plan ["n", "m"] (defScope (top 10)) := ⟨rfl, rfl, rfl, by decide +kernel, rfl, by decide +kernel, by decide +kernel⟩
theorem lfn_square_plan {P : Program} {w : World} {K : PySem.W.Frag} {mg : Str → Option Value} {base : Heap} {k : Nat} {f : Addr} {fd : FuncData} {S : LSp} (B : Blts mg) (F : FunD K "square_plan" "square_plan" (defArgs (top 10)) (defBody (top 10)) (defScope (top 10)) [] [] f fd)
    (len : ∀ xs A Q Z, S xs A Q Z → xs.length = 2) (hT : Keeps N_square_plan (T_square_plan) S) : LFn P w K mg base (k + 1) f fd ["n", "m"] S := by
  refine lfn F sc_square_plan len hT ?_
  intro cdv A outer s H E W hr tk
  have hu := hr.un
  have hu : (A.deeper (envOfC "square_plan" (defScope (top 10)) s.heap.objs.size f cdv)).units + 200 < cLine := by omega
  have hp := passes_of (X := cxOf (CX P w) P w K mg base N_square_plan "square_plan" (defScope (top 10)) f cdv A outer s H E) rfl
  have scN : (N_square_plan : List Str).Nodup := sc_square_plan.nd
  unfold T_square_plan
  exact (jss_cons (js_if (w_tcmp (lop_cmpI op_le) (w_v 1) (w_v 0))
  (jss_one (w_alc 2 [("i", 4)] rfl scN (w_rg1 B.range (w_a (w_v 0) ja_nil)) (by intro s1 H1 C1 cl1 fp1; exact (w_hn 4 scN)) (by intro s1 H1 C1 cl1 fp1; exact jts_nil) (by intro s1 H1 C1 cl1 fp1; exact (w_lc [("j", 3)] rfl scN (w_rg1 B.range (w_a (w_v 1) ja_nil)) (by intro s1 H1 C1 cl1 fp1; exact (w_hn 3 scN)) (by intro s1 H1 C1 cl1 fp1; exact jts_nil) (by intro s1 H1 C1 cl1 fp1; exact (je_op lop_add (je_op lop_mul (w_v 4) (w_v 1)) (w_v 3)))))))
  (jss_one (w_alc 2 [("j", 3)] rfl scN (w_rg1 B.range (w_a (w_v 1) ja_nil)) (by intro s1 H1 C1 cl1 fp1; exact (w_hn 3 scN)) (by intro s1 H1 C1 cl1 fp1; exact jts_nil) (by intro s1 H1 C1 cl1 fp1; exact (w_lc [("i", 4)] rfl scN (w_rg1 B.range (w_a (w_v 0) ja_nil)) (by intro s1 H1 C1 cl1 fp1; exact (w_hn 4 scN)) (by intro s1 H1 C1 cl1 fp1; exact jts_nil) (by intro s1 H1 C1 cl1 fp1; exact (je_op lop_add (je_op lop_mul (w_v 4) (w_v 1)) (w_v 3))))))))
 (jss_cons (w_asg (je_lst ja_nil) (w_gn 5 scN))
 (jss_cons (w_for hp rfl (w_enum B.enumerate (w_a (w_v 2) ja_nil)) (jg_T (w_ht rfl (w_hc (w_hn 6 scN) (w_hc (w_hn 7 scN) hgs_nil))))
  (jss_one (w_for hp rfl (w_enum B.enumerate (w_a (w_v 7) ja_nil)) (jg_T (w_ht rfl (w_hc (w_hn 8 scN) (w_hc (w_hn 9 scN) hgs_nil))))
  (jss_cons (w_ex (w_m al_append (w_v 5) (w_a (je_tup (w_a w_s (w_a (w_v 9) ja_nil))) ja_nil)))
 (jss_one (js_if (w_tcmp (lop_cmpI op_gt) (w_v 6) w_i)
  (jss_one (w_ex (w_m al_append (w_v 5) (w_a (je_tup (w_a w_s (w_a (w_ix hu (w_ix hu (w_v 2) (je_op (lop_I0 op_sub) (w_v 6) w_i)) (w_v 8)) ja_nil))) ja_nil))))
  jss_nil))))))
 (jss_one (js_ret (w_v 5))))))
theorem walk_square_plan {P : Program} {w : World} {K : PySem.W.Frag} {mg : Str → Option Value} {base : Heap} {k : Nat} {f : Addr} {fd : FuncData} {S : LSp} (B : Blts mg) (F : FunD K "square_plan" "square_plan" (defArgs (top 10)) (defBody (top 10)) (defScope (top 10)) [] [] f fd) (gf : mg "square_plan" = some (.ref f))
    (len : ∀ xs A Q Z, S xs A Q Z → xs.length = 2) (hT : Keeps N_square_plan (T_square_plan) S) : GFn P w K mg base (k + 1) "square_plan" ["n", "m"] S :=
  ⟨f, fd, gf, F.kp, FunD.bindsN F (fun _ _ _ _ _ _ us hl => match us, hl with | [_, _], _ => rfl), lfn_square_plan B F len hT⟩

abbrev N_step_plan : List Str := ["n", "begins", "plan", "work", "row", "k"]
def T_step_plan (S_step_begins : LSp) (W : LW) : LS :=
 (lSeq (lAsg (lCall W S_step_begins (lCons (lVar 0) lNil)) (lgName 1))
 (lSeq (lAsg (lComp (lRng1 (lCons (lVar 0) lNil)) (.name 3) lYes (lTup (lCons (lC (.str "do")) (lCons (lVar 3) lNil))) [3]) (lgName 2))
 (lSeq (lFor (lRng2 (lCons (lC (.int 1)) (lCons (lVar 0) lNil))) (lgT (.name 4))
  (lSeq (lFor (lRng1 (lCons (lOp lSub (lVar 0) (lVar 4)) lNil)) (lgT (.name 5))
  (lSeq (lDrop (lMeth mAppend (lVar 2) (lCons (lTup (lCons (lC (.str "do")) (lCons (lOp lAdd (lOp lIx (lVar 1) (lVar 4)) (lVar 5)) lNil))) lNil)))
 (lDrop (lMeth mAppend (lVar 2) (lCons (lTup (lCons (lC (.str "clear")) (lCons (lOp lAdd (lOp lIx (lVar 1) (lOp lSub (lVar 4) (lC (.int 1)))) (lVar 5)) lNil))) lNil)))))
 (lDrop (lMeth mAppend (lVar 2) (lCons (lTup (lCons (lC (.str "clear")) (lCons (lOp lSub (lOp lIx (lVar 1) (lVar 4)) (lC (.int 1))) lNil))) lNil)))))
 (lRet (lVar 2)))))
theorem sc_step_plan : FnScope N_step_plan ["n"] (defScope (top 11)) := ⟨rfl, rfl, rfl, by decide +kernel, rfl, by decide +kernel, by decide +kernel⟩
theorem lfn_step_plan {P : Program} {w : World} {K : PySem.W.Frag} {mg : Str → Option Value} {base : Heap} {k : Nat} {f : Addr} {fd : FuncData} {S_step_begins : LSp} {S : LSp} (B : Blts mg) (F : FunD K "step_plan" "step_plan" (defArgs (top 11)) (defBody (top 11)) (defScope (top 11)) [] [] f fd) (G_step_begins : GFn P w K mg base k "step_begins" ["n"] S_step_begins)
    (len : ∀ xs A Q Z, S xs A Q Z → xs.length = 1) (hT : Keeps N_step_plan (T_step_plan S_step_begins) S) : LFn P w K mg base (k + 1) f fd ["n"] S := by
  refine lfn F sc_step_plan len hT ?_
  intro cdv A outer s H E W hr tk
  have hu := hr.un
  have hu : (A.deeper (envOfC "step_plan" (defScope (top 11)) s.heap.objs.size f cdv)).units + 200 < cLine := by omega
  have hp := passes_of (X := cxOf (CX P w) P w K mg base N_step_plan "step_plan" (defScope (top 11)) f cdv A outer s H E) rfl
  have scN : (N_step_plan : List Str).Nodup := sc_step_plan.nd
  unfold T_step_plan
  exact (jss_cons (w_asg (w_call G_step_begins tk hr (w_a (w_v 0) ja_nil)) (w_gn 1 scN))
 (jss_cons (w_alc 2 [("work", 3)] rfl scN (w_rg1 B.range (w_a (w_v 0) ja_nil)) (by intro s1 H1 C1 cl1 fp1; exact (w_hn 3 scN)) (by intro s1 H1 C1 cl1 fp1; exact jts_nil) (by intro s1 H1 C1 cl1 fp1; exact (je_tup (w_a w_s (w_a (w_v 3) ja_nil)))))
 (jss_cons (w_for hp rfl (w_rg2 B.range (w_a w_i (w_a (w_v 0) ja_nil))) (jg_T (w_hn 4 scN))
  (jss_cons (w_for hp rfl (w_rg1 B.range (w_a (je_op (lop_I0 op_sub) (w_v 0) (w_v 4)) ja_nil)) (jg_T (w_hn 5 scN))
  (jss_cons (w_ex (w_m al_append (w_v 2) (w_a (je_tup (w_a w_s (w_a (je_op lop_add (w_ix hu (w_v 1) (w_v 4)) (w_v 5)) ja_nil))) ja_nil)))
 (jss_one (w_ex (w_m al_append (w_v 2) (w_a (je_tup (w_a w_s (w_a (je_op lop_add (w_ix hu (w_v 1) (je_op (lop_I0 op_sub) (w_v 4) w_i)) (w_v 5)) ja_nil))) ja_nil))))))
 (jss_one (w_ex (w_m al_append (w_v 2) (w_a (je_tup (w_a w_s (w_a (je_op (lop_I0 op_sub) (w_ix hu (w_v 1) (w_v 4)) w_i) ja_nil))) ja_nil))))))
 (jss_one (js_ret (w_v 2))))))
theorem walk_step_plan {P : Program} {w : World} {K : PySem.W.Frag} {mg : Str → Option Value} {base : Heap} {k : Nat} {f : Addr} {fd : FuncData} {S_step_begins : LSp} {S : LSp} (B : Blts mg) (F : FunD K "step_plan" "step_plan" (defArgs (top 11)) (defBody (top 11)) (defScope (top 11)) [] [] f fd) (gf : mg "step_plan" = some (.ref f)) (G_step_begins : GFn P w K mg base k "step_begins" ["n"] S_step_begins)
    (len : ∀ xs A Q Z, S xs A Q Z → xs.length = 1) (hT : Keeps N_step_plan (T_step_plan S_step_begins) S) : GFn P w K mg base (k + 1) "step_plan" ["n"] S :=
  ⟨f, fd, gf, F.kp, FunD.bindsN F (fun _ _ _ _ _ _ us hl => match us, hl with | [_], _ => rfl), lfn_step_plan B F G_step_begins len hT⟩

abbrev N__law_begin : List Str := ["_law_script", "_law_cells"]
def T__law_begin (W : LW) : LS :=
 (lSeq (lAsg (lCB lList (lCons (lSl (lVar 0) lNoPart (lPart (lC (.int 63)))) lNil)) (lgName 1))
 (lSeq (lIfS (lTest (lOp lEq (lVar 1) (lLst lNil)))
  (lAsg (lLst (lCons (lC (.int 7)) lNil)) (lgName 1))
  lNext)
 (lRet (lDisp [((lC (.str "cells")), (lVar 1)), ((lC (.str "turn")), (lC (.int 0)))]))))
theorem sc__law_begin : FnScope N__law_begin ["_law_script"] (defScope (top 13)) := ⟨rfl, rfl, rfl, by decide +kernel, rfl, by decide +kernel, by decide +kernel⟩
theorem lfn__law_begin {P : Program} {w : World} {K : PySem.W.Frag} {mg : Str → Option Value} {base : Heap} {k : Nat} {f : Addr} {fd : FuncData} {S : LSp} (B : Blts mg) (F : FunD K "_law_begin" "_law_begin" (defArgs (top 13)) (defBody (top 13)) (defScope (top 13)) [] [] f fd)
    (len : ∀ xs A Q Z, S xs A Q Z → xs.length = 1) (hT : Keeps N__law_begin (T__law_begin) S) : LFn P w K mg base (k + 1) f fd ["_law_script"] S := by
  refine lfn F sc__law_begin len hT ?_
  intro cdv A outer s H E W hr tk
  have hu := hr.un
  have hu : (A.deeper (envOfC "_law_begin" (defScope (top 13)) s.heap.objs.size f cdv)).units + 200 < cLine := by omega
  have hp := passes_of (X := cxOf (CX P w) P w K mg base N__law_begin "_law_begin" (defScope (top 13)) f cdv A outer s H E) rfl
  have scN : (N__law_begin : List Str).Nodup := sc__law_begin.nd
  unfold T__law_begin
  exact (jss_cons (w_asg (w_ct (lcall_list rfl) B.list boot_list (w_a (je_slice (w_v 0) jo_none (jo_some w_i)) ja_nil)) (w_gn 1 scN))
 (jss_cons (js_if (w_tcmp (lop_eq (u64 hu)) (w_v 1) (je_lst ja_nil))
  (jss_one (w_asg (je_lst (w_a w_i ja_nil)) (w_gn 1 scN)))
  jss_nil)
 (jss_one (js_ret (je_disp (trs := [((lC (.str "cells")), (lVar 1)), ((lC (.str "turn")), (lC (.int 0)))]) (pps_cons w_s (w_v 1) (pps_cons w_s w_i pps_nil)) rfl rfl (by simp) (by simp))))))
theorem walk__law_begin {P : Program} {w : World} {K : PySem.W.Frag} {mg : Str → Option Value} {base : Heap} {k : Nat} {f : Addr} {fd : FuncData} {S : LSp} (B : Blts mg) (F : FunD K "_law_begin" "_law_begin" (defArgs (top 13)) (defBody (top 13)) (defScope (top 13)) [] [] f fd) (gf : mg "_law_begin" = some (.ref f))
    (len : ∀ xs A Q Z, S xs A Q Z → xs.length = 1) (hT : Keeps N__law_begin (T__law_begin) S) : GFn P w K mg base (k + 1) "_law_begin" ["_law_script"] S :=
  ⟨f, fd, gf, F.kp, FunD.bindsN F (fun _ _ _ _ _ _ us hl => match us, hl with | [_], _ => rfl), lfn__law_begin B F len hT⟩

abbrev N__law_take : List Str := ["_law_state", "_law_many", "_law_turn", "_law_place", "_law_cell", "_law_digit", "_law_mixed"]
def T__law_take (W : LW) : LS :=
 (lSeq (lAsg (lOp lAdd (lOp lIx (lVar 0) (lC (.str "turn"))) (lC (.int 1))) (lgName 2))
 (lSeq (lAsg (lVar 2) (lgSub (lVar 0) (lC (.str "turn"))))
 (lSeq (lAsg (lOp lMod (lVar 2) (lCB lLen (lCons (lOp lIx (lVar 0) (lC (.str "cells"))) lNil))) (lgName 3))
 (lSeq (lAsg (lOp lIx (lOp lIx (lVar 0) (lC (.str "cells"))) (lVar 3)) (lgName 4))
 (lSeq (lIfS (lTest (lOp lGe (lVar 4) (lOp lPow (lC (.int 10)) (lC (.int 18)))))
  (lSeq (lAsg (lCB lDivmod (lCons (lVar 4) (lCons (lVar 1) lNil))) (lgTup 2 (lgCons (lgSub (lOp lIx (lVar 0) (lC (.str "cells"))) (lVar 3)) (lgCons (lgName 5) lgNil))))
 (lRet (lVar 5)))
  lNext)
 (lSeq (lAsg (lOp lMod (lOp lMul (lOp lAdd (lOp lAdd (lOp lMod (lVar 4) (lC (.int 2147483629))) (lOp lMul (lOp lMul (lVar 2) (lVar 2)) (lC (.int 7919)))) (lC (.int 11))) (lC (.int 48271))) (lC (.int 2147483647))) (lgName 6))
 (lSeq (lAsg (lOp lMod (lOp lMul (lVar 6) (lVar 6)) (lC (.int 2147483587))) (lgName 6))
 (lRet (lOp lMod (lOp lFdiv (lOp lMod (lOp lMul (lOp lAdd (lVar 6) (lOp lMul (lVar 2) (lC (.int 104729)))) (lC (.int 39373))) (lC (.int 2147483629))) (lC (.int 64))) (lVar 1))))))))))
theorem sc__law_take : FnScope N__law_take ["_law_state", "_law_many"] (defScope (top 14)) := ⟨rfl, rfl, rfl, by decide +kernel, rfl, by decide +kernel, by decide +kernel⟩
theorem lfn__law_take {P : Program} {w : World} {K : PySem.W.Frag} {mg : Str → Option Value} {base : Heap} {k : Nat} {f : Addr} {fd : FuncData} {S : LSp} (B : Blts mg) (F : FunD K "_law_take" "_law_take" (defArgs (top 14)) (defBody (top 14)) (defScope (top 14)) [] [] f fd)
    (len : ∀ xs A Q Z, S xs A Q Z → xs.length = 2) (hT : Keeps N__law_take (T__law_take) S) : LFn P w K mg base (k + 1) f fd ["_law_state", "_law_many"] S := by
  refine lfn F sc__law_take len hT ?_
  intro cdv A outer s H E W hr tk
  have hu := hr.un
  have hu : (A.deeper (envOfC "_law_take" (defScope (top 14)) s.heap.objs.size f cdv)).units + 200 < cLine := by omega
  have hp := passes_of (X := cxOf (CX P w) P w K mg base N__law_take "_law_take" (defScope (top 14)) f cdv A outer s H E) rfl
  have scN : (N__law_take : List Str).Nodup := sc__law_take.nd
  unfold T__law_take
  exact (jss_cons (w_asg (je_op lop_add (w_ix hu (w_v 0) w_s) w_i) (w_gn 2 scN))
 (jss_cons (w_asg (w_v 2) (w_gs hu (w_v 0) w_s))
 (jss_cons (w_asg (je_op (lop_II op_mod) (w_v 2) (w_cb lcall_len B.len boot_len (w_a (w_ix hu (w_v 0) w_s) ja_nil))) (w_gn 3 scN))
 (jss_cons (w_asg (w_ix hu (w_ix hu (w_v 0) w_s) (w_v 3)) (w_gn 4 scN))
 (jss_cons (js_if (w_tcmp (lop_cmpI op_ge) (w_v 4) (je_op (lop_II op_pow) w_i w_i))
  (jss_cons (w_asg (w_cb lcall_divmod B.divmod boot_divmod (w_a (w_v 4) (w_a (w_v 1) ja_nil))) (w_gt rfl (w_gc (w_gs hu (w_ix hu (w_v 0) w_s) (w_v 3)) (w_gc (w_gn 5 scN) jgs_nil))))
 (jss_one (js_ret (w_v 5))))
  jss_nil)
 (jss_cons (w_asg (je_op (lop_II op_mod) (je_op lop_mul (je_op lop_add (je_op lop_add (je_op (lop_II op_mod) (w_v 4) w_i) (je_op lop_mul (je_op lop_mul (w_v 2) (w_v 2)) w_i)) w_i) w_i) w_i) (w_gn 6 scN))
 (jss_cons (w_asg (je_op (lop_II op_mod) (je_op lop_mul (w_v 6) (w_v 6)) w_i) (w_gn 6 scN))
 (jss_one (js_ret (je_op (lop_II op_mod) (je_op (lop_II op_fdiv) (je_op (lop_II op_mod) (je_op lop_mul (je_op lop_add (w_v 6) (je_op lop_mul (w_v 2) w_i)) w_i) w_i) w_i) (w_v 1)))))))))))
theorem walk__law_take {P : Program} {w : World} {K : PySem.W.Frag} {mg : Str → Option Value} {base : Heap} {k : Nat} {f : Addr} {fd : FuncData} {S : LSp} (B : Blts mg) (F : FunD K "_law_take" "_law_take" (defArgs (top 14)) (defBody (top 14)) (defScope (top 14)) [] [] f fd) (gf : mg "_law_take" = some (.ref f))
    (len : ∀ xs A Q Z, S xs A Q Z → xs.length = 2) (hT : Keeps N__law_take (T__law_take) S) : GFn P w K mg base (k + 1) "_law_take" ["_law_state", "_law_many"] S :=
  ⟨f, fd, gf, F.kp, FunD.bindsN F (fun _ _ _ _ _ _ us hl => match us, hl with | [_, _], _ => rfl), lfn__law_take B F len hT⟩

abbrev N__law_same : List Str := ["_law_found", "_law_due", "_law_one", "_law_other"]
def T__law_same (S__law_same : LSp) (W : LW) : LS :=
 (lSeq (lIfS (lTest (lOp lIs (lVar 1) (lC .non)))
  (lRet (lOp lIs (lVar 0) (lC .non)))
  lNext)
 (lSeq (lIfS (lOr (lTruE (lCB lIsi (lCons (lVar 1) (lCons (lC (.ty "list")) lNil)))) (lTruE (lCB lIsi (lCons (lVar 1) (lCons (lC (.ty "tuple")) lNil)))))
  (lSeq (lIfS (lTest (lOp lNe (lCB lIsi (lCons (lVar 0) (lCons (lC (.ty "list")) lNil))) (lCB lIsi (lCons (lVar 1) (lCons (lC (.ty "list")) lNil)))))
  (lRet (lC (.bl false)))
  lNext)
 (lSeq (lIfS (lOr (lTest (lOp lNe (lCB lIsi (lCons (lVar 0) (lCons (lC (.ty "tuple")) lNil))) (lCB lIsi (lCons (lVar 1) (lCons (lC (.ty "tuple")) lNil))))) (lTest (lOp lNe (lCB lLen (lCons (lVar 0) lNil)) (lCB lLen (lCons (lVar 1) lNil)))))
  (lRet (lC (.bl false)))
  lNext)
 (lRet (lCB lAll (lCons (lComp (lZip (lCons (lVar 0) (lCons (lVar 1) lNil))) (.tup [(.name 2), (.name 3)]) lYes (lCall lwNo S__law_same (lCons (lVar 2) (lCons (lVar 3) lNil))) [2, 3]) lNil)))))
  lNext)
 (lSeq (lIfS (lTruE (lCB lIsi (lCons (lVar 1) (lCons (lC (.ty "str")) lNil))))
  (lRet (lAndV (lCB lIsi (lCons (lVar 0) (lCons (lC (.ty "str")) lNil))) (lOp lEq (lVar 0) (lVar 1))))
  lNext)
 (lRet (lAndV (lCB lIsi (lCons (lVar 0) (lCons (lC (.ty "int")) lNil))) (lAndV (lNotV (lCB lIsi (lCons (lVar 0) (lCons (lC (.ty "bool")) lNil)))) (lOp lEq (lVar 0) (lVar 1))))))))
theorem sc__law_same : FnScope N__law_same ["_law_found", "_law_due"] (defScope (top 15)) := ⟨rfl, rfl, rfl, by decide +kernel, rfl, by decide +kernel, by decide +kernel⟩
theorem lfn__law_same {P : Program} {w : World} {K : PySem.W.Frag} {mg : Str → Option Value} {base : Heap} {k : Nat} {f : Addr} {fd : FuncData} {S__law_same : LSp} {S : LSp} (B : Blts mg) (F : FunD K "_law_same" "_law_same" (defArgs (top 15)) (defBody (top 15)) (defScope (top 15)) [] [] f fd) (G__law_same : GFn P w K mg base k "_law_same" ["_law_found", "_law_due"] S__law_same)
    (len : ∀ xs A Q Z, S xs A Q Z → xs.length = 2) (hT : Keeps N__law_same (T__law_same S__law_same) S) : LFn P w K mg base (k + 1) f fd ["_law_found", "_law_due"] S := by
  refine lfn F sc__law_same len hT ?_
  intro cdv A outer s H E W hr tk
  have hu := hr.un
  have hu : (A.deeper (envOfC "_law_same" (defScope (top 15)) s.heap.objs.size f cdv)).units + 200 < cLine := by omega
  have hp := passes_of (X := cxOf (CX P w) P w K mg base N__law_same "_law_same" (defScope (top 15)) f cdv A outer s H E) rfl
  have scN : (N__law_same : List Str).Nodup := sc__law_same.nd
  unfold T__law_same
  exact (jss_cons (js_if (w_tcmp lop_is (w_v 1) w_n)
  (jss_one (js_ret (w_cmp lop_is (w_v 0) w_n)))
  jss_nil)
 (jss_cons (js_if (w_pt (jw_or (w_tru (w_cb lcall_isi B.isinstance boot_isinstance (w_a (w_v 1) (w_a (w_ty B.list boot_list) ja_nil)))) (w_or1 (w_tru (w_cb lcall_isi B.isinstance boot_isinstance (w_a (w_v 1) (w_a (w_ty B.tuple boot_tuple) ja_nil)))))))
  (jss_cons (js_if (w_tcmp (lop_ne (u64 hu)) (w_cb lcall_isi B.isinstance boot_isinstance (w_a (w_v 0) (w_a (w_ty B.list boot_list) ja_nil))) (w_cb lcall_isi B.isinstance boot_isinstance (w_a (w_v 1) (w_a (w_ty B.list boot_list) ja_nil))))
  (jss_one (js_ret w_bl))
  jss_nil)
 (jss_cons (js_if (w_pt (jw_or (w_tcmp (lop_ne (u64 hu)) (w_cb lcall_isi B.isinstance boot_isinstance (w_a (w_v 0) (w_a (w_ty B.tuple boot_tuple) ja_nil))) (w_cb lcall_isi B.isinstance boot_isinstance (w_a (w_v 1) (w_a (w_ty B.tuple boot_tuple) ja_nil)))) (w_or1 (w_tcmp (lop_ne (u64 hu)) (w_cb lcall_len B.len boot_len (w_a (w_v 0) ja_nil)) (w_cb lcall_len B.len boot_len (w_a (w_v 1) ja_nil))))))
  (jss_one (js_ret w_bl))
  jss_nil)
 (jss_one (js_ret (w_cb (lcall_all rfl) B.all boot_all (w_a (w_lc [("_law_one", 2), ("_law_other", 3)] rfl scN (w_zip B.zip (w_a (w_v 0) (w_a (w_v 1) ja_nil))) (by intro s1 H1 C1 cl1 fp1; exact (w_ht rfl (w_hc (w_hn 2 scN) (w_hc (w_hn 3 scN) hgs_nil)))) (by intro s1 H1 C1 cl1 fp1; exact jts_nil) (by intro s1 H1 C1 cl1 fp1; exact (w_call G__law_same takes_no hr (w_a (w_v 2) (w_a (w_v 3) ja_nil))))) ja_nil))))))
  jss_nil)
 (jss_cons (js_if (w_tru (w_cb lcall_isi B.isinstance boot_isinstance (w_a (w_v 1) (w_a (w_ty B.str boot_str) ja_nil))))
  (jss_one (js_ret (je_and (w_cb lcall_isi B.isinstance boot_isinstance (w_a (w_v 0) (w_a (w_ty B.str boot_str) ja_nil))) (pe_one (w_cmp (lop_eq (u64 hu)) (w_v 0) (w_v 1))))))
  jss_nil)
 (jss_one (js_ret (je_and (w_cb lcall_isi B.isinstance boot_isinstance (w_a (w_v 0) (w_a (w_ty B.int boot_int) ja_nil))) (je_and (je_not (w_cb lcall_isi B.isinstance boot_isinstance (w_a (w_v 0) (w_a (w_ty B.bool boot_bool) ja_nil)))) (pe_one (w_cmp (lop_eq (u64 hu)) (w_v 0) (w_v 1))))))))))
theorem walk__law_same {P : Program} {w : World} {K : PySem.W.Frag} {mg : Str → Option Value} {base : Heap} {k : Nat} {f : Addr} {fd : FuncData} {S__law_same : LSp} {S : LSp} (B : Blts mg) (F : FunD K "_law_same" "_law_same" (defArgs (top 15)) (defBody (top 15)) (defScope (top 15)) [] [] f fd) (gf : mg "_law_same" = some (.ref f)) (G__law_same : GFn P w K mg base k "_law_same" ["_law_found", "_law_due"] S__law_same)
    (len : ∀ xs A Q Z, S xs A Q Z → xs.length = 2) (hT : Keeps N__law_same (T__law_same S__law_same) S) : GFn P w K mg base (k + 1) "_law_same" ["_law_found", "_law_due"] S :=
  ⟨f, fd, gf, F.kp, FunD.bindsN F (fun _ _ _ _ _ _ us hl => match us, hl with | [_, _], _ => rfl), lfn__law_same B F G__law_same len hT⟩

abbrev N__law_is_move : List Str := ["_law_net", "_law_move"]
def T__law_is_move (W : LW) : LS :=
 (lSeq (lIfS (lOr (lNot (lTruE (lCB lIsi (lCons (lVar 1) (lCons (lC (.ty "tuple")) lNil))))) (lOr (lTest (lOp lNe (lCB lLen (lCons (lVar 1) lNil)) (lC (.int 2)))) (lTest (lOp lNotIn (lOp lIx (lVar 1) (lC (.int 0))) (lTup (lCons (lC (.str "do")) (lCons (lC (.str "clear")) lNil)))))))
  (lRet (lC (.bl false)))
  lNext)
 (lRet (lAndV (lCB lIsi (lCons (lOp lIx (lVar 1) (lC (.int 1))) (lCons (lC (.ty "int")) lNil))) (lAndV (lNotV (lCB lIsi (lCons (lOp lIx (lVar 1) (lC (.int 1))) (lCons (lC (.ty "bool")) lNil)))) (lChain lLe lLt (lC (.int 0)) (lOp lIx (lVar 1) (lC (.int 1))) (lCB lLen (lCons (lVar 0) lNil)))))))
theorem sc__law_is_move : FnScope N__law_is_move ["_law_net", "_law_move"] (defScope (top 16)) := ⟨rfl, rfl, rfl, by decide +kernel, rfl, by decide +kernel, by decide +kernel⟩
theorem lfn__law_is_move {P : Program} {w : World} {K : PySem.W.Frag} {mg : Str → Option Value} {base : Heap} {k : Nat} {f : Addr} {fd : FuncData} {S : LSp} (B : Blts mg) (F : FunD K "_law_is_move" "_law_is_move" (defArgs (top 16)) (defBody (top 16)) (defScope (top 16)) [] [] f fd)
    (len : ∀ xs A Q Z, S xs A Q Z → xs.length = 2) (hT : Keeps N__law_is_move (T__law_is_move) S) : LFn P w K mg base (k + 1) f fd ["_law_net", "_law_move"] S := by
  refine lfn F sc__law_is_move len hT ?_
  intro cdv A outer s H E W hr tk
  have hu := hr.un
  have hu : (A.deeper (envOfC "_law_is_move" (defScope (top 16)) s.heap.objs.size f cdv)).units + 200 < cLine := by omega
  have hp := passes_of (X := cxOf (CX P w) P w K mg base N__law_is_move "_law_is_move" (defScope (top 16)) f cdv A outer s H E) rfl
  have scN : (N__law_is_move : List Str).Nodup := sc__law_is_move.nd
  unfold T__law_is_move
  exact (jss_cons (js_if (w_pt (jw_or (jt_not (w_tru (w_cb lcall_isi B.isinstance boot_isinstance (w_a (w_v 1) (w_a (w_ty B.tuple boot_tuple) ja_nil))))) (jw_or (w_tcmp (lop_ne (u64 hu)) (w_cb lcall_len B.len boot_len (w_a (w_v 1) ja_nil)) w_i) (w_or1 (w_tcmp (lop_notIn (u1 hu)) (w_ix hu (w_v 1) w_i) (je_tup (w_a w_s (w_a w_s ja_nil))))))))
  (jss_one (js_ret w_bl))
  jss_nil)
 (jss_one (js_ret (je_and (w_cb lcall_isi B.isinstance boot_isinstance (w_a (w_ix hu (w_v 1) w_i) (w_a (w_ty B.int boot_int) ja_nil))) (je_and (je_not (w_cb lcall_isi B.isinstance boot_isinstance (w_a (w_ix hu (w_v 1) w_i) (w_a (w_ty B.bool boot_bool) ja_nil)))) (pe_one (w_chain (lop_cmpI op_le) (lop_cmpI op_lt) w_i (w_ix hu (w_v 1) w_i) (w_cb lcall_len B.len boot_len (w_a (w_v 0) ja_nil)))))))))
theorem walk__law_is_move {P : Program} {w : World} {K : PySem.W.Frag} {mg : Str → Option Value} {base : Heap} {k : Nat} {f : Addr} {fd : FuncData} {S : LSp} (B : Blts mg) (F : FunD K "_law_is_move" "_law_is_move" (defArgs (top 16)) (defBody (top 16)) (defScope (top 16)) [] [] f fd) (gf : mg "_law_is_move" = some (.ref f))
    (len : ∀ xs A Q Z, S xs A Q Z → xs.length = 2) (hT : Keeps N__law_is_move (T__law_is_move) S) : GFn P w K mg base (k + 1) "_law_is_move" ["_law_net", "_law_move"] S :=
  ⟨f, fd, gf, F.kp, FunD.bindsN F (fun _ _ _ _ _ _ us hl => match us, hl with | [_, _], _ => rfl), lfn__law_is_move B F len hT⟩

abbrev N__law_walked : List Str := ["_law_net", "_law_rooms", "_law_plan", "_law_move", "_law_there", "_law_times", "_law_most", "_law_word", "_law_work", "_law_need"]
def T__law_walked (S__law_is_move : LSp) (W : LW) : LS :=
 (lSeq (lIfS (lOr (lNot (lTruE (lCB lIsi (lCons (lVar 2) (lCons (lC (.ty "list")) lNil))))) (lNot (lTruE (lCB lAll (lCons (lComp (lIter (lVar 2)) (.name 3) lYes (lCall lwNo S__law_is_move (lCons (lVar 0) (lCons (lVar 3) lNil))) [3]) lNil)))))
  (lRet (lC (.bl false)))
  lNext)
 (lSeq (lAsg lDict0 (lgName 4))
 (lSeq (lAsg (lOp lMul (lLst (lCons (lC (.int 0)) lNil)) (lCB lLen (lCons (lVar 0) lNil))) (lgName 5))
 (lSeq (lAsg (lC (.int 0)) (lgName 6))
 (lSeq (lFor (lIter (lVar 2)) (lgT (.tup [(.name 7), (.name 8)]))
  (lSeq (lIfS (lTest (lOp lEq (lVar 7) (lC (.str "clear"))))
  (lSeq (lIfS (lTest (lOp lNotIn (lVar 8) (lVar 4)))
  (lRet (lC (.bl false)))
  lNext)
 (lSeq (lDrop (lMeth mPop (lVar 4) (lCons (lVar 8) lNil)))
 lCont))
  lNext)
 (lSeq (lIfS (lOr (lTest (lOp lIn (lVar 8) (lVar 4))) (lOr (lTest (lOp lGe (lCB lLen (lCons (lVar 4) lNil)) (lVar 1))) (lNot (lTruE (lCB lAll (lCons (lComp (lIter (lOp lIx (lVar 0) (lVar 8))) (.name 9) lYes (lOp lIn (lVar 9) (lVar 4)) [9]) lNil))))))
  (lRet (lC (.bl false)))
  lNext)
 (lSeq (lAsg (lC (.bl true)) (lgSub (lVar 4) (lVar 8)))
 (lSeq (lAsg (lOp lAdd (lOp lIx (lVar 5) (lVar 8)) (lC (.int 1))) (lgSub (lVar 5) (lVar 8)))
 (lAsg (lCB lMax (lCons (lVar 6) (lCons (lCB lLen (lCons (lVar 4) lNil)) lNil))) (lgName 6)))))))
 (lRet (lAndV (lOp lIn (lOp lSub (lCB lLen (lCons (lVar 0) lNil)) (lC (.int 1))) (lVar 4)) (lAndV (lOp lEq (lVar 5) (lOp lMul (lLst (lCons (lC (.int 1)) lNil)) (lCB lLen (lCons (lVar 0) lNil)))) (lOp lEq (lVar 6) (lVar 1))))))))))
theorem sc__law_walked : FnScope N__law_walked ["_law_net", "_law_rooms", "_law_plan"] (defScope (top 17)) := ⟨rfl, rfl, rfl, by decide +kernel, rfl, by decide +kernel, by decide +kernel⟩
theorem lfn__law_walked {P : Program} {w : World} {K : PySem.W.Frag} {mg : Str → Option Value} {base : Heap} {k : Nat} {f : Addr} {fd : FuncData} {S__law_is_move : LSp} {S : LSp} (B : Blts mg) (F : FunD K "_law_walked" "_law_walked" (defArgs (top 17)) (defBody (top 17)) (defScope (top 17)) [] [] f fd) (G__law_is_move : GFn P w K mg base k "_law_is_move" ["_law_net", "_law_move"] S__law_is_move)
    (len : ∀ xs A Q Z, S xs A Q Z → xs.length = 3) (hT : Keeps N__law_walked (T__law_walked S__law_is_move) S) : LFn P w K mg base (k + 1) f fd ["_law_net", "_law_rooms", "_law_plan"] S := by
  refine lfn F sc__law_walked len hT ?_
  intro cdv A outer s H E W hr tk
  have hu := hr.un
  have hu : (A.deeper (envOfC "_law_walked" (defScope (top 17)) s.heap.objs.size f cdv)).units + 200 < cLine := by omega
  have hp := passes_of (X := cxOf (CX P w) P w K mg base N__law_walked "_law_walked" (defScope (top 17)) f cdv A outer s H E) rfl
  have scN : (N__law_walked : List Str).Nodup := sc__law_walked.nd
  unfold T__law_walked
  exact (jss_cons (js_if (w_pt (jw_or (jt_not (w_tru (w_cb lcall_isi B.isinstance boot_isinstance (w_a (w_v 2) (w_a (w_ty B.list boot_list) ja_nil))))) (w_or1 (jt_not (w_tru (w_cb (lcall_all rfl) B.all boot_all (w_a (w_lc [("_law_move", 3)] rfl scN (ji_any (w_v 2)) (by intro s1 H1 C1 cl1 fp1; exact (w_hn 3 scN)) (by intro s1 H1 C1 cl1 fp1; exact jts_nil) (by intro s1 H1 C1 cl1 fp1; exact (w_call G__law_is_move takes_no hr (w_a (w_v 0) (w_a (w_v 3) ja_nil))))) ja_nil)))))))
  (jss_one (js_ret w_bl))
  jss_nil)
 (jss_cons (w_asg je_dict0 (w_gn 4 scN))
 (jss_cons (w_asg (je_op lop_mul (je_lst (w_a w_i ja_nil)) (w_cb lcall_len B.len boot_len (w_a (w_v 0) ja_nil))) (w_gn 5 scN))
 (jss_cons (w_asg w_i (w_gn 6 scN))
 (jss_cons (w_for hp rfl (ji_any (w_v 2)) (jg_T (w_ht rfl (w_hc (w_hn 7 scN) (w_hc (w_hn 8 scN) hgs_nil))))
  (jss_cons (js_if (w_tcmp (lop_eq (u64 hu)) (w_v 7) w_s)
  (jss_cons (js_if (w_tcmp (lop_notIn (u1 hu)) (w_v 8) (w_v 4))
  (jss_one (js_ret w_bl))
  jss_nil)
 (jss_cons (w_ex (w_m (al_pop hu) (w_v 4) (w_a (w_v 8) ja_nil)))
 (jss_one js_cont)))
  jss_nil)
 (jss_cons (js_if (w_pt (jw_or (w_tcmp (lop_in (u1 hu)) (w_v 8) (w_v 4)) (jw_or (w_tcmp (lop_cmpI op_ge) (w_cb lcall_len B.len boot_len (w_a (w_v 4) ja_nil)) (w_v 1)) (w_or1 (jt_not (w_tru (w_cb (lcall_all rfl) B.all boot_all (w_a (w_lc [("_law_need", 9)] rfl scN (ji_any (w_ix hu (w_v 0) (w_v 8))) (by intro s1 H1 C1 cl1 fp1; exact (w_hn 9 scN)) (by intro s1 H1 C1 cl1 fp1; exact jts_nil) (by intro s1 H1 C1 cl1 fp1; exact (w_cmp (lop_in (u1 hu)) (w_v 9) (w_v 4)))) ja_nil))))))))
  (jss_one (js_ret w_bl))
  jss_nil)
 (jss_cons (w_asg w_bl (w_gs hu (w_v 4) (w_v 8)))
 (jss_cons (w_asg (je_op lop_add (w_ix hu (w_v 5) (w_v 8)) w_i) (w_gs hu (w_v 5) (w_v 8)))
 (jss_one (w_asg (w_cb (lcall_max rfl) B.max boot_max (w_a (w_v 6) (w_a (w_cb lcall_len B.len boot_len (w_a (w_v 4) ja_nil)) ja_nil))) (w_gn 6 scN))))))))
 (jss_one (js_ret (je_and (w_cmp (lop_in (u1 hu)) (je_op (lop_I0 op_sub) (w_cb lcall_len B.len boot_len (w_a (w_v 0) ja_nil)) w_i) (w_v 4)) (je_and (w_cmp (lop_eq (u64 hu)) (w_v 5) (je_op lop_mul (je_lst (w_a w_i ja_nil)) (w_cb lcall_len B.len boot_len (w_a (w_v 0) ja_nil)))) (pe_one (w_cmp (lop_eq (u64 hu)) (w_v 6) (w_v 1))))))))))))
theorem walk__law_walked {P : Program} {w : World} {K : PySem.W.Frag} {mg : Str → Option Value} {base : Heap} {k : Nat} {f : Addr} {fd : FuncData} {S__law_is_move : LSp} {S : LSp} (B : Blts mg) (F : FunD K "_law_walked" "_law_walked" (defArgs (top 17)) (defBody (top 17)) (defScope (top 17)) [] [] f fd) (gf : mg "_law_walked" = some (.ref f)) (G__law_is_move : GFn P w K mg base k "_law_is_move" ["_law_net", "_law_move"] S__law_is_move)
    (len : ∀ xs A Q Z, S xs A Q Z → xs.length = 3) (hT : Keeps N__law_walked (T__law_walked S__law_is_move) S) : GFn P w K mg base (k + 1) "_law_walked" ["_law_net", "_law_rooms", "_law_plan"] S :=
  ⟨f, fd, gf, F.kp, FunD.bindsN F (fun _ _ _ _ _ _ us hl => match us, hl with | [_, _, _], _ => rfl), lfn__law_walked B F G__law_is_move len hT⟩

abbrev N__law_told_right : List Str := ["_law_n", "_law_back", "_law_high", "_law_wide", "_law_rows", "_law_kept", "_law_turn", "_law_plans", "_law_nets", "_law_net", "_law_rooms", "_law_plan"]
def T__law_told_right (S_step_plan : LSp) (S_square_plan : LSp) (S_row_plan : LSp) (S__law_same : LSp) (S_square_rooms : LSp) (S_square_net : LSp) (S_row_rooms : LSp) (S_row_net : LSp) (S_step_rooms : LSp) (S_step_net : LSp) (S__law_walked : LSp) (W : LW) : LS :=
 (lSeq (lAsg (lLst lNil) (lgName 5))
 (lSeq (lFor (lRng1 (lCons (lC (.int 2)) lNil)) (lgT (.name 6))
  (lSeq (lAsg (lLst (lCons (lCall W S_row_plan (lCons (lVar 0) (lCons (lVar 1) lNil))) (lCons (lCall W S_square_plan (lCons (lVar 2) (lCons (lVar 3) lNil))) (lCons (lCall W S_step_plan (lCons (lVar 4) lNil)) lNil)))) (lgName 7))
 (lSeq (lIfS (lTest (lOp lEq (lVar 6) (lC (.int 1))))
  (lRet (lCall W S__law_same (lCons (lVar 7) (lCons (lVar 5) lNil))))
  lNext)
 (lSeq (lAsg (lLst (lCons (lTup (lCons (lCall W S_row_net (lCons (lVar 0) (lCons (lVar 1) lNil))) (lCons (lCall W S_row_rooms (lCons (lVar 0) (lCons (lVar 1) lNil))) lNil))) (lCons (lTup (lCons (lCall W S_square_net (lCons (lVar 2) (lCons (lVar 3) lNil))) (lCons (lCall W S_square_rooms (lCons (lVar 2) (lCons (lVar 3) lNil))) lNil))) lNil))) (lgName 8))
 (lSeq (lDrop (lMeth mAppend (lVar 8) (lCons (lTup (lCons (lCall W S_step_net (lCons (lVar 4) lNil)) (lCons (lCall W S_step_rooms (lCons (lVar 4) lNil)) lNil))) lNil)))
 (lFor (lZip (lCons (lVar 8) (lCons (lVar 7) lNil))) (lgT (.tup [(.tup [(.name 9), (.name 10)]), (.name 11)]))
  (lSeq (lIfS (lNot (lTruE (lCall W S__law_walked (lCons (lVar 9) (lCons (lVar 10) (lCons (lVar 11) lNil))))))
  (lRet (lC (.bl false)))
  lNext)
 (lSeq (lDrop (lMeth mAppend (lVar 5) (lCons (lCB lList (lCons (lVar 11) lNil)) lNil)))
 (lSeq (lDrop (lMeth mReverse (lVar 11) lNil))
 (lDrop (lMeth mAppend (lVar 11) (lCons (lTup (lCons (lC (.str "do")) (lCons (lC (.int 0)) lNil))) lNil))))))))))))
 (lRet (lC (.bl false)))))
theorem sc__law_told_right : FnScope N__law_told_right ["_law_n", "_law_back", "_law_high", "_law_wide", "_law_rows"] (defScope (top 18)) := ⟨rfl, rfl, rfl, by decide +kernel, rfl, by decide +kernel, by decide +kernel⟩
theorem lfn__law_told_right {P : Program} {w : World} {K : PySem.W.Frag} {mg : Str → Option Value} {base : Heap} {k : Nat} {f : Addr} {fd : FuncData} {S_step_plan : LSp} {S_square_plan : LSp} {S_row_plan : LSp} {S__law_same : LSp} {S_square_rooms : LSp} {S_square_net : LSp} {S_row_rooms : LSp} {S_row_net : LSp} {S_step_rooms : LSp} {S_step_net : LSp} {S__law_walked : LSp} {S : LSp} (B : Blts mg) (F : FunD K "_law_told_right" "_law_told_right" (defArgs (top 18)) (defBody (top 18)) (defScope (top 18)) [] [] f fd) (G_step_plan : GFn P w K mg base k "step_plan" ["n"] S_step_plan) (G_square_plan : GFn P w K mg base k "square_plan" ["n", "m"] S_square_plan) (G_row_plan : GFn P w K mg base k "row_plan" ["n", "back"] S_row_plan) (G__law_same : GFn P w K mg base k "_law_same" ["_law_found", "_law_due"] S__law_same) (G_square_rooms : GFn P w K mg base k "square_rooms" ["n", "m"] S_square_rooms) (G_square_net : GFn P w K mg base k "square_net" ["n", "m"] S_square_net) (G_row_rooms : GFn P w K mg base k "row_rooms" ["n", "back"] S_row_rooms) (G_row_net : GFn P w K mg base k "row_net" ["n", "back"] S_row_net) (G_step_rooms : GFn P w K mg base k "step_rooms" ["n"] S_step_rooms) (G_step_net : GFn P w K mg base k "step_net" ["n"] S_step_net) (G__law_walked : GFn P w K mg base k "_law_walked" ["_law_net", "_law_rooms", "_law_plan"] S__law_walked)
    (len : ∀ xs A Q Z, S xs A Q Z → xs.length = 5) (hT : Keeps N__law_told_right (T__law_told_right S_step_plan S_square_plan S_row_plan S__law_same S_square_rooms S_square_net S_row_rooms S_row_net S_step_rooms S_step_net S__law_walked) S) : LFn P w K mg base (k + 1) f fd ["_law_n", "_law_back", "_law_high", "_law_wide", "_law_rows"] S := by
  refine lfn F sc__law_told_right len hT ?_
  intro cdv A outer s H E W hr tk
  have hu := hr.un
  have hu : (A.deeper (envOfC "_law_told_right" (defScope (top 18)) s.heap.objs.size f cdv)).units + 200 < cLine := by omega
  have hp := passes_of (X := cxOf (CX P w) P w K mg base N__law_told_right "_law_told_right" (defScope (top 18)) f cdv A outer s H E) rfl
  have scN : (N__law_told_right : List Str).Nodup := sc__law_told_right.nd
  unfold T__law_told_right
  exact (jss_cons (w_asg (je_lst ja_nil) (w_gn 5 scN))
 (jss_cons (w_for hp rfl (w_rg1 B.range (w_a w_i ja_nil)) (jg_T (w_hn 6 scN))
  (jss_cons (w_asg (je_lst (w_a (w_call G_row_plan tk hr (w_a (w_v 0) (w_a (w_v 1) ja_nil))) (w_a (w_call G_square_plan tk hr (w_a (w_v 2) (w_a (w_v 3) ja_nil))) (w_a (w_call G_step_plan tk hr (w_a (w_v 4) ja_nil)) ja_nil)))) (w_gn 7 scN))
 (jss_cons (js_if (w_tcmp (lop_eq (u64 hu)) (w_v 6) w_i)
  (jss_one (js_ret (w_call G__law_same tk hr (w_a (w_v 7) (w_a (w_v 5) ja_nil)))))
  jss_nil)
 (jss_cons (w_asg (je_lst (w_a (je_tup (w_a (w_call G_row_net tk hr (w_a (w_v 0) (w_a (w_v 1) ja_nil))) (w_a (w_call G_row_rooms tk hr (w_a (w_v 0) (w_a (w_v 1) ja_nil))) ja_nil))) (w_a (je_tup (w_a (w_call G_square_net tk hr (w_a (w_v 2) (w_a (w_v 3) ja_nil))) (w_a (w_call G_square_rooms tk hr (w_a (w_v 2) (w_a (w_v 3) ja_nil))) ja_nil))) ja_nil))) (w_gn 8 scN))
 (jss_cons (w_ex (w_m al_append (w_v 8) (w_a (je_tup (w_a (w_call G_step_net tk hr (w_a (w_v 4) ja_nil)) (w_a (w_call G_step_rooms tk hr (w_a (w_v 4) ja_nil)) ja_nil))) ja_nil)))
 (jss_one (w_for hp rfl (w_zip B.zip (w_a (w_v 8) (w_a (w_v 7) ja_nil))) (jg_T (w_ht rfl (w_hc (w_ht rfl (w_hc (w_hn 9 scN) (w_hc (w_hn 10 scN) hgs_nil))) (w_hc (w_hn 11 scN) hgs_nil))))
  (jss_cons (js_if (jt_not (w_tru (w_call G__law_walked tk hr (w_a (w_v 9) (w_a (w_v 10) (w_a (w_v 11) ja_nil))))))
  (jss_one (js_ret w_bl))
  jss_nil)
 (jss_cons (w_ex (w_m al_append (w_v 5) (w_a (w_ct (lcall_list rfl) B.list boot_list (w_a (w_v 11) ja_nil)) ja_nil)))
 (jss_cons (w_ex (w_m0 al_reverse (w_v 11)))
 (jss_one (w_ex (w_m al_append (w_v 11) (w_a (je_tup (w_a w_s (w_a w_i ja_nil))) ja_nil))))))))))))))
 (jss_one (js_ret w_bl))))
theorem walk__law_told_right {P : Program} {w : World} {K : PySem.W.Frag} {mg : Str → Option Value} {base : Heap} {k : Nat} {f : Addr} {fd : FuncData} {S_step_plan : LSp} {S_square_plan : LSp} {S_row_plan : LSp} {S__law_same : LSp} {S_square_rooms : LSp} {S_square_net : LSp} {S_row_rooms : LSp} {S_row_net : LSp} {S_step_rooms : LSp} {S_step_net : LSp} {S__law_walked : LSp} {S : LSp} (B : Blts mg) (F : FunD K "_law_told_right" "_law_told_right" (defArgs (top 18)) (defBody (top 18)) (defScope (top 18)) [] [] f fd) (gf : mg "_law_told_right" = some (.ref f)) (G_step_plan : GFn P w K mg base k "step_plan" ["n"] S_step_plan) (G_square_plan : GFn P w K mg base k "square_plan" ["n", "m"] S_square_plan) (G_row_plan : GFn P w K mg base k "row_plan" ["n", "back"] S_row_plan) (G__law_same : GFn P w K mg base k "_law_same" ["_law_found", "_law_due"] S__law_same) (G_square_rooms : GFn P w K mg base k "square_rooms" ["n", "m"] S_square_rooms) (G_square_net : GFn P w K mg base k "square_net" ["n", "m"] S_square_net) (G_row_rooms : GFn P w K mg base k "row_rooms" ["n", "back"] S_row_rooms) (G_row_net : GFn P w K mg base k "row_net" ["n", "back"] S_row_net) (G_step_rooms : GFn P w K mg base k "step_rooms" ["n"] S_step_rooms) (G_step_net : GFn P w K mg base k "step_net" ["n"] S_step_net) (G__law_walked : GFn P w K mg base k "_law_walked" ["_law_net", "_law_rooms", "_law_plan"] S__law_walked)
    (len : ∀ xs A Q Z, S xs A Q Z → xs.length = 5) (hT : Keeps N__law_told_right (T__law_told_right S_step_plan S_square_plan S_row_plan S__law_same S_square_rooms S_square_net S_row_rooms S_row_net S_step_rooms S_step_net S__law_walked) S) : GFn P w K mg base (k + 1) "_law_told_right" ["_law_n", "_law_back", "_law_high", "_law_wide", "_law_rows"] S :=
  ⟨f, fd, gf, F.kp, FunD.bindsN F (fun _ _ _ _ _ _ us hl => match us, hl with | [_, _, _, _, _], _ => rfl), lfn__law_told_right B F G_step_plan G_square_plan G_row_plan G__law_same G_square_rooms G_square_net G_row_rooms G_row_net G_step_rooms G_step_net G__law_walked len hT⟩

abbrev N_law : List Str := ["_law_script", "_law_state", "_law_turn", "_law_great", "_law_n", "_law_back", "_law_high", "_law_wide", "_law_rows"]
def T_law (S__law_begin : LSp) (S__law_take : LSp) (S__law_told_right : LSp) (W : LW) : LS :=
 (lSeq (lAsg (lCall W S__law_begin (lCons (lVar 0) lNil)) (lgName 1))
 (lSeq (lFor (lRng1 (lCons (lC (.int 3)) lNil)) (lgT (.name 2))
  (lSeq (lAsg (lOp lEq (lCall W S__law_take (lCons (lVar 1) (lCons (lC (.int 8)) lNil))) (lC (.int 0))) (lgName 3))
 (lSeq (lAsg (lOp lIx (lLst (lCons (lOp lAdd (lC (.int 1)) (lCall W S__law_take (lCons (lVar 1) (lCons (lC (.int 9)) lNil)))) (lCons (lOp lAdd (lC (.int 30)) (lCall W S__law_take (lCons (lVar 1) (lCons (lC (.int 171)) lNil)))) lNil))) (lCB lInt (lCons (lVar 3) lNil))) (lgName 4))
 (lSeq (lAsg (lOp lAdd (lC (.int 1)) (lCall W S__law_take (lCons (lVar 1) (lCons (lOp lIx (lLst (lCons (lC (.int 12)) (lCons (lVar 4) lNil))) (lCB lInt (lCons (lOp lEq (lCall W S__law_take (lCons (lVar 1) (lCons (lC (.int 8)) lNil))) (lC (.int 0))) lNil))) lNil)))) (lgName 5))
 (lSeq (lPar 6 7 (lCons (lOp lAdd (lC (.int 1)) (lCall W S__law_take (lCons (lVar 1) (lCons (lOp lIx (lLst (lCons (lC (.int 6)) (lCons (lC (.int 12)) lNil))) (lCB lInt (lCons (lVar 3) lNil))) lNil)))) (lCons (lOp lAdd (lC (.int 1)) (lCall W S__law_take (lCons (lVar 1) (lCons (lOp lIx (lLst (lCons (lC (.int 6)) (lCons (lC (.int 25)) lNil))) (lCB lInt (lCons (lVar 3) lNil))) lNil)))) lNil)))
 (lSeq (lAsg (lOp lIx (lLst (lCons (lOp lAdd (lC (.int 1)) (lCall W S__law_take (lCons (lVar 1) (lCons (lC (.int 7)) lNil)))) (lCons (lOp lAdd (lC (.int 8)) (lCall W S__law_take (lCons (lVar 1) (lCons (lC (.int 8)) lNil)))) lNil))) (lCB lInt (lCons (lVar 3) lNil))) (lgName 8))
 (lIfS (lNot (lTruE (lCall W S__law_told_right (lCons (lVar 4) (lCons (lVar 5) (lCons (lVar 6) (lCons (lVar 7) (lCons (lVar 8) lNil))))))))
  (lRet (lC (.bl false)))
  lNext)))))))
 (lRet (lC (.bl true)))))
theorem sc_law : FnScope N_law ["_law_script"] (defScope (top 19)) := ⟨rfl, rfl, rfl, by decide +kernel, rfl, by decide +kernel, by decide +kernel⟩
theorem lfn_law {P : Program} {w : World} {K : PySem.W.Frag} {mg : Str → Option Value} {base : Heap} {k : Nat} {f : Addr} {fd : FuncData} {S__law_begin : LSp} {S__law_take : LSp} {S__law_told_right : LSp} {S : LSp} (B : Blts mg) (F : FunD K "law" "law" (defArgs (top 19)) (defBody (top 19)) (defScope (top 19)) [] [] f fd) (G__law_begin : GFn P w K mg base k "_law_begin" ["_law_script"] S__law_begin) (G__law_take : GFn P w K mg base k "_law_take" ["_law_state", "_law_many"] S__law_take) (G__law_told_right : GFn P w K mg base k "_law_told_right" ["_law_n", "_law_back", "_law_high", "_law_wide", "_law_rows"] S__law_told_right)
    (len : ∀ xs A Q Z, S xs A Q Z → xs.length = 1) (hT : Keeps N_law (T_law S__law_begin S__law_take S__law_told_right) S) : LFn P w K mg base (k + 1) f fd ["_law_script"] S := by
  refine lfn F sc_law len hT ?_
  intro cdv A outer s H E W hr tk
  have hu := hr.un
  have hu : (A.deeper (envOfC "law" (defScope (top 19)) s.heap.objs.size f cdv)).units + 200 < cLine := by omega
  have hp := passes_of (X := cxOf (CX P w) P w K mg base N_law "law" (defScope (top 19)) f cdv A outer s H E) rfl
  have scN : (N_law : List Str).Nodup := sc_law.nd
  unfold T_law
  exact (jss_cons (w_asg (w_call G__law_begin tk hr (w_a (w_v 0) ja_nil)) (w_gn 1 scN))
 (jss_cons (w_for hp rfl (w_rg1 B.range (w_a w_i ja_nil)) (jg_T (w_hn 2 scN))
  (jss_cons (w_asg (w_cmp (lop_eq (u64 hu)) (w_call G__law_take tk hr (w_a (w_v 1) (w_a w_i ja_nil))) w_i) (w_gn 3 scN))
 (jss_cons (w_asg (w_ix hu (je_lst (w_a (je_op lop_add w_i (w_call G__law_take tk hr (w_a (w_v 1) (w_a w_i ja_nil)))) (w_a (je_op lop_add w_i (w_call G__law_take tk hr (w_a (w_v 1) (w_a w_i ja_nil)))) ja_nil))) (w_ct lcall_int B.int boot_int (w_a (w_v 3) ja_nil))) (w_gn 4 scN))
 (jss_cons (w_asg (je_op lop_add w_i (w_call G__law_take tk hr (w_a (w_v 1) (w_a (w_ix hu (je_lst (w_a w_i (w_a (w_v 4) ja_nil))) (w_ct lcall_int B.int boot_int (w_a (w_cmp (lop_eq (u64 hu)) (w_call G__law_take tk hr (w_a (w_v 1) (w_a w_i ja_nil))) w_i) ja_nil))) ja_nil)))) (w_gn 5 scN))
 (jss_cons (w_par 6 7 rfl scN (w_a (je_op lop_add w_i (w_call G__law_take tk hr (w_a (w_v 1) (w_a (w_ix hu (je_lst (w_a w_i (w_a w_i ja_nil))) (w_ct lcall_int B.int boot_int (w_a (w_v 3) ja_nil))) ja_nil)))) (w_a (je_op lop_add w_i (w_call G__law_take tk hr (w_a (w_v 1) (w_a (w_ix hu (je_lst (w_a w_i (w_a w_i ja_nil))) (w_ct lcall_int B.int boot_int (w_a (w_v 3) ja_nil))) ja_nil)))) ja_nil)))
 (jss_cons (w_asg (w_ix hu (je_lst (w_a (je_op lop_add w_i (w_call G__law_take tk hr (w_a (w_v 1) (w_a w_i ja_nil)))) (w_a (je_op lop_add w_i (w_call G__law_take tk hr (w_a (w_v 1) (w_a w_i ja_nil)))) ja_nil))) (w_ct lcall_int B.int boot_int (w_a (w_v 3) ja_nil))) (w_gn 8 scN))
 (jss_one (js_if (jt_not (w_tru (w_call G__law_told_right tk hr (w_a (w_v 4) (w_a (w_v 5) (w_a (w_v 6) (w_a (w_v 7) (w_a (w_v 8) ja_nil))))))))
  (jss_one (js_ret w_bl))
  jss_nil))))))))
 (jss_one (js_ret w_bl))))
theorem walk_law {P : Program} {w : World} {K : PySem.W.Frag} {mg : Str → Option Value} {base : Heap} {k : Nat} {f : Addr} {fd : FuncData} {S__law_begin : LSp} {S__law_take : LSp} {S__law_told_right : LSp} {S : LSp} (B : Blts mg) (F : FunD K "law" "law" (defArgs (top 19)) (defBody (top 19)) (defScope (top 19)) [] [] f fd) (gf : mg "law" = some (.ref f)) (G__law_begin : GFn P w K mg base k "_law_begin" ["_law_script"] S__law_begin) (G__law_take : GFn P w K mg base k "_law_take" ["_law_state", "_law_many"] S__law_take) (G__law_told_right : GFn P w K mg base k "_law_told_right" ["_law_n", "_law_back", "_law_high", "_law_wide", "_law_rows"] S__law_told_right)
    (len : ∀ xs A Q Z, S xs A Q Z → xs.length = 1) (hT : Keeps N_law (T_law S__law_begin S__law_take S__law_told_right) S) : GFn P w K mg base (k + 1) "law" ["_law_script"] S :=
  ⟨f, fd, gf, F.kp, FunD.bindsN F (fun _ _ _ _ _ _ us hl => match us, hl with | [_], _ => rfl), lfn_law B F G__law_begin G__law_take G__law_told_right len hT⟩

end Wk
namespace Lf
open PySem PySem.Spec L2
open PyProof.Rows hiding St
local macro_rules | `(tactic| walk_at "w") => `(tactic| ((with_reducible (conv => whnf)); (try dsimp only)))
theorem keeps_take : Keeps Wk.N__law_take Wk.T__law_take S_take := by
  rintro xs A Q Z ⟨z, B, n, rfl, rfl, ok, ht, n0, n1, k⟩
  unfold Wk.T__law_take
  have hst : stA z B z.st = some (stD z.c z.t) := aupd_same
  have v1 : ∀ c t : PV, valP [((Sum.inr "cells" : Key), c), (Sum.inr "turn", t)] (.inr "turn") = some t := fun _ _ => rfl
  have v2 : ∀ c t : PV, valP [((Sum.inr "cells" : Key), c), (Sum.inr "turn", t)] (.inr "cells") = some c := fun _ _ => rfl
  have v3 : ∀ c t u : PV, putP [((Sum.inr "cells" : Key), c), (Sum.inr "turn", t)] (.inr "turn") u = [((Sum.inr "cells" : Key), c), (Sum.inr "turn", u)] := fun _ _ _ => rfl
  show lSeq _ _ _ [some (.ref z.st), some (.int n), none, none, none, none, none] _
  walk_at "w"; rw [hst]; walk_at "w"; rw [v1]; walk_at "w"; rw [hst]; walk_at "w"
  refine ⟨szl (by simp), ?_⟩
  rw [v3]
  have e1 : aupd (stA z B) z.st (stD z.c (z.t + 1)) = stA { z with t := z.t + 1 } B := by unfold stA; rw [aupd_aupd]
  rw [e1]
  generalize hz : ({ z with t := z.t + 1 } : Stt) = z1
  have hst1 : stA z1 B z1.st = some (stD z1.c z1.t) := aupd_same
  have hc1 : stA z1 B z1.c = some (.lst (z1.cs.map .int)) := by
    unfold stA; rw [aupd_ne (by subst hz; exact ok.ne), aupd_same]
  have z1s : z.st = z1.st := by subst hz; rfl
  have z1t : z.t + 1 = z1.t := by subst hz; rfl
  have z1c : z.cs = z1.cs := by subst hz; rfl
  have z1cc : z.c = z1.c := by subst hz; rfl
  rw [z1t, z1s]
  have l0 : 0 < (z1.cs.map PV.int).length := by
    rw [List.length_map, ← z1c]
    have := ok.pos
    cases h : z.cs with
    | nil => exact absurd h this
    | cons _ _ => simp
  walk_at "w"; rw [hst1]; walk_at "w"; rw [v2]; walk_at "w"; rw [hc1]; walk_at "w"
  refine ⟨by omega, ?_⟩
  have p0 : 0 ≤ z1.t % ((z1.cs.map PV.int).length : Int) := Int.emod_nonneg _ (by omega)
  have p1 : z1.t % ((z1.cs.map PV.int).length : Int) < (z1.cs.map PV.int).length := Int.emod_lt_of_pos _ (by omega)
  generalize z1.t % ((z1.cs.map PV.int).length : Int) = pl at p0 p1
  walk_at "w"; rw [hst1]; walk_at "w"; rw [v2]; walk_at "w"; rw [hc1]; walk_at "w"
  obtain ⟨cell, ecell, gcell⟩ := atI_in (xs := z1.cs) p0 (by simpa using p1)
  rw [atI_map ecell]
  walk_at "w"
  refine ⟨⟨by decide, by decide, by decide⟩, ?_⟩
  walk_at "w"
  have t1 : z1.t ≤ 2 ^ 40 := by omega
  have t2 : 0 ≤ z1.t := by have := ok.t0; omega
  refine ifd (fun hb => ?_) (fun hb => ?_)
  · walk_at "w"
    refine ⟨⟨n0, n1⟩, ?_⟩
    walk_at "w"
    refine ⟨rfl, ?_⟩
    walk_at "w"; rw [hst1]; walk_at "w"; rw [v2]; walk_at "w"; rw [hc1]; walk_at "w"
    have hj : ixN (z1.cs.map PV.int).length pl = some pl.toNat := by
      unfold ixN; rw [if_pos p0, if_pos p1]
    rw [hj]
    walk_at "w"
    have e2 : aupd (stA z1 B) z1.c (.lst ((z1.cs.map PV.int).set pl.toNat (.int (cell / n)))) = stA { z1 with cs := z1.cs.set pl.toNat (cell / n) } B := by
      unfold stA
      rw [aupd_comm (Ne.symm (by subst hz; exact ok.ne)), aupd_aupd, List.map_set]
    rw [e2]
    refine ⟨rfl, _, .refl _, k _ _ (Int.emod_nonneg _ (by omega)) (Int.emod_lt_of_pos _ n0) ⟨by subst hz; rfl, by subst hz; rfl, ⟨by subst hz; exact ok.ne, ?_, ?_, t2⟩, by show z1.t ≤ _; omega⟩⟩
    · intro h0
      have := congrArg List.length h0
      rw [List.length_set] at this
      rw [List.length_map] at l0
      simp at this
      rw [this] at l0; simp at l0
    · show (z1.cs.set _ _).length ≤ 63
      rw [List.length_set, ← z1c]; exact ok.few
  · walk_at "w"
    refine ⟨by decide, ?_⟩
    walk_at "w"
    refine ⟨.inl ⟨by omega, by omega⟩, ?_⟩
    walk_at "w"
    refine ⟨.inr ⟨by decide, by decide⟩, ?_⟩
    walk_at "w"
    refine ⟨.inr ⟨by decide, by decide⟩, ?_⟩
    walk_at "w"
    refine ⟨by decide, ?_⟩
    have q0 : 0 ≤ (cell % 2147483629 + z1.t * z1.t * 7919 + 11) * 48271 % 2147483647 := Int.emod_nonneg _ (by omega)
    have q1 : (cell % 2147483629 + z1.t * z1.t * 7919 + 11) * 48271 % 2147483647 < 2147483647 := Int.emod_lt_of_pos _ (by omega)
    generalize (cell % 2147483629 + z1.t * z1.t * 7919 + 11) * 48271 % 2147483647 = m at q0 q1
    walk_at "w"
    refine ⟨.inl ⟨by omega, by omega⟩, ?_⟩
    walk_at "w"
    refine ⟨by decide, ?_⟩
    generalize m * m % 2147483587 = m2
    walk_at "w"
    refine ⟨.inl ⟨by omega, by omega⟩, ?_⟩
    walk_at "w"
    refine ⟨.inr ⟨by decide, by decide⟩, ?_⟩
    walk_at "w"
    refine ⟨by decide, ?_⟩
    walk_at "w"
    refine ⟨⟨by decide, by decide⟩, ?_⟩
    walk_at "w"
    refine ⟨n0, ?_⟩
    refine ⟨_, .refl _, k _ z1 (Int.emod_nonneg _ (by omega)) (Int.emod_lt_of_pos _ n0) ⟨z1s.symm, z1cc.symm, ⟨by subst hz; exact ok.ne, z1c ▸ ok.pos, z1c ▸ ok.few, t2⟩, by omega⟩⟩
def S_any : LSp := fun _ _ _ _ => False
theorem same_int (S : LSp) {W : LW} {A : AH} {Q : QK} {i : Int} (k : Q (.bl true) A) : Wk.T__law_same S W (endsOf Q) [some (.int i), some (.int i), none, none] A := by
  unfold Wk.T__law_same
  walk_at "w"
  refine ifb (fun h => by cases h) (fun _ => ?_)
  walk_at "w"
  refine ⟨by decide, ?_⟩; walk_at "w"
  rw [isi_il]; walk_at "w"
  refine ifb (fun h => by cases h) (fun _ => ?_)
  walk_at "w"
  refine ⟨by decide, ?_⟩; walk_at "w"
  rw [isi_it]; walk_at "w"
  refine ifb (fun h => by cases h) (fun _ => ?_)
  walk_at "w"
  refine ⟨by decide, ?_⟩; walk_at "w"
  rw [isi_is]; walk_at "w"
  refine ifb (fun h => by cases h) (fun _ => ?_)
  walk_at "w"
  refine ⟨by decide, ?_⟩; walk_at "w"
  rw [isi_ii]; walk_at "w"
  refine ⟨by decide, ?_⟩; walk_at "w"
  rw [isi_ib]; walk_at "w"
  refine ifb (fun _ => ?_) (fun h => by cases h)
  walk_at "w"
  rw [decide_eq_true rfl]
  exact ⟨_, .refl _, k⟩
theorem same_str (S : LSp) {W : LW} {A : AH} {Q : QK} {i : Str} (k : Q (.bl true) A) : Wk.T__law_same S W (endsOf Q) [some (.str i), some (.str i), none, none] A := by
  unfold Wk.T__law_same
  walk_at "w"
  refine ifb (fun h => by cases h) (fun _ => ?_)
  walk_at "w"
  refine ⟨by decide, ?_⟩; walk_at "w"
  rw [isi_sl]; walk_at "w"
  refine ifb (fun h => by cases h) (fun _ => ?_)
  walk_at "w"
  refine ⟨by decide, ?_⟩; walk_at "w"
  rw [isi_st]; walk_at "w"
  refine ifb (fun h => by cases h) (fun _ => ?_)
  walk_at "w"
  refine ⟨by decide, ?_⟩; walk_at "w"
  rw [isi_ss]; walk_at "w"
  refine ⟨by decide, ?_⟩; walk_at "w"
  rw [isi_ss]
  refine ifb (fun _ => ?_) (fun h => by cases h)
  walk_at "w"
  rw [decide_eq_true rfl]
  exact ⟨_, .refl _, k⟩
theorem same_leaf (S : LSp) {W : LW} {A : AH} {Q : QK} {x y : PV} (h : LeafP x y) (k : Q (.bl true) A) : Wk.T__law_same S W (endsOf Q) [some x, some y, none, none] A := by
  rcases h with ⟨i, rfl, rfl⟩ | ⟨i, rfl, rfl⟩
  · exact same_int S k
  · exact same_str S k
theorem keeps_same0 (S : LSp) : Keeps Wk.N__law_same (Wk.T__law_same S) (S_same 0) := by
  rintro xs A Q Z ⟨x, y, rfl, h, k⟩
  exact same_leaf S h k
theorem keeps_same1 (d : Nat) : Keeps Wk.N__law_same (Wk.T__law_same (S_same d)) (S_same (d + 1)) := by
  rintro xs A Q Z ⟨x, y, rfl, h, k⟩
  rcases h with hh | ⟨k1, k2, xs, ys, rfl, rfl, hl, hs, ha⟩ | ⟨p, q, xs, ys, rfl, rfl, ea, eb, hl, hs, ha⟩
  · exact same_leaf _ hh k
  · unfold Wk.T__law_same
    show lSeq _ _ _ [some (.tup k1 xs), some (.tup k2 ys), none, none] _
    walk_at "w"
    refine ifb (fun h => by cases h) (fun _ => ?_)
    walk_at "w"
    refine ⟨by decide, ?_⟩; walk_at "w"
    rw [isi_tl]; walk_at "w"
    refine ⟨by decide, ?_⟩; walk_at "w"
    rw [isi_tt]; walk_at "w"
    refine ⟨by decide, ?_⟩; walk_at "w"
    refine ⟨by decide, ?_⟩; walk_at "w"
    rw [isi_tl]
    refine ifb (fun h => by cases h) (fun _ => ?_)
    walk_at "w"
    refine ⟨by decide, ?_⟩; walk_at "w"
    refine ⟨by decide, ?_⟩; walk_at "w"
    rw [isi_tt]
    refine ifb (fun h => by cases h) (fun _ => ?_)
    walk_at "w"
    rw [hl]
    refine ifb (fun h => by simp at h) (fun _ => ?_)
    walk_at "w"
    refine comp_map (xs.zip ys) (fun p => .tup .own [p.1, p.2]) (fun _ => .bl true) ?_ (by rw [List.length_zip]; omega) (fun _ _ _ => trivial) (fun D hD i a acc c => ?_) (fun D hD => ?_)
    · unfold zipP; rw [List.zip_eq_zipWith, List.map_zipWith]
    · refine lgT_two_name ?_
      walk_at "w"
      obtain ⟨h1, h2⟩ := zip_ok c.at_
      exact ⟨_, _, rfl, (ha i _ _ h1 h2).sub ((Sub.refl _).upd hD), c.yes rfl (.refl _)⟩
    · walk_at "w"
      rw [aupd_same]; walk_at "w"
      rw [blsOf_const]; walk_at "w"
      rw [all_rep]
      exact ⟨_, (Sub.refl _).upd hD, k⟩
  · unfold Wk.T__law_same
    show lSeq _ _ _ [some (.ref p), some (.ref q), none, none] _
    walk_at "w"
    refine ifb (fun h => by cases h) (fun _ => ?_)
    walk_at "w"
    refine ⟨by decide, ?_⟩
    rw [ty_l eb]; walk_at "w"
    rw [isi_ll]; walk_at "w"
    refine ⟨by decide, ?_⟩
    rw [ty_l ea]; walk_at "w"
    refine ⟨by decide, ?_⟩
    rw [ty_l eb]; walk_at "w"
    rw [isi_ll]
    refine ifb (fun h => by cases h) (fun _ => ?_)
    walk_at "w"
    refine ⟨by decide, ?_⟩
    rw [ty_l ea]; walk_at "w"
    refine ⟨by decide, ?_⟩
    rw [ty_l eb]; walk_at "w"
    rw [isi_lt]
    refine ifb (fun h => by cases h) (fun _ => ?_)
    walk_at "w"
    rw [ea]; walk_at "w"
    rw [eb]; walk_at "w"
    rw [hl]
    refine ifb (fun h => by simp at h) (fun _ => ?_)
    walk_at "w"
    rw [ea, eb]; walk_at "w"
    refine comp_map (xs.zip ys) (fun p => .tup .own [p.1, p.2]) (fun _ => .bl true) ?_ (by rw [List.length_zip]; omega) (fun D hD acc => ⟨aupd_keep ea hD, aupd_keep eb hD⟩) (fun D hD i a acc c => ?_) (fun D hD => ?_)
    · unfold zipP; rw [List.zip_eq_zipWith, List.map_zipWith]
    · refine lgT_two_name ?_
      walk_at "w"
      obtain ⟨h1, h2⟩ := zip_ok c.at_
      exact ⟨_, _, rfl, (ha i _ _ h1 h2).sub ((Sub.refl _).upd hD), c.yes rfl (.refl _)⟩
    · walk_at "w"
      rw [aupd_same]; walk_at "w"
      rw [blsOf_const]; walk_at "w"
      rw [all_rep]
      exact ⟨_, (Sub.refl _).upd hD, k⟩
def S_begin : LSp := fun xs A Q Z => ∃ ns : List Int, xs = [.fro (ns.map .int)] ∧ ∀ z, z.Ok → z.t = 0 → A z.c = none → A z.st = none → Q (.ref z.st) (stA z A)
theorem keeps_begin : Keeps Wk.N__law_begin Wk.T__law_begin S_begin := by
  rintro xs A Q Z ⟨ns, rfl, fin⟩
  unfold Wk.T__law_begin
  show lSeq _ _ _ [some (.fro (ns.map .int)), none] _
  have rest : ∀ (c : Addr) (cs : List Int) (A2 : AH), A c = none → Sub (aupd A c (.lst (cs.map .int))) A2 → cs ≠ [] → cs.length ≤ 63 →
      lRet (lDisp [((lC (.str "cells")), (lVar 1)), ((lC (.str "turn")), (lC (.int 0)))]) (endsOf Q) [some (.fro (ns.map .int)), some (.ref c)] A2 := by
    intro c cs A2 hc hs hne hl
    walk_at "w"
    intro p hp
    have hcp : p ≠ c := Ne.symm (ane (hs c _ aupd_same) hp)
    refine ⟨aupd_same, by simp, ?_⟩
    have em : mergeP [] [((Sum.inr "cells" : Key), PV.ref c), (Sum.inr "turn", .int 0)] = [((Sum.inr "cells" : Key), PV.ref c), (Sum.inr "turn", .int 0)] := rfl
    have ek : kpOf [(PV.str "cells", PV.ref c), (PV.str "turn", PV.int 0)] = some [((Sum.inr "cells" : Key), PV.ref c), (Sum.inr "turn", .int 0)] := rfl
    rw [ek]; walk_at "w"
    rw [em, aupd_aupd]
    have hpA : A p = none := none_of ((Sub.refl A).upd hc) (none_of hs hp)
    refine ⟨stA ⟨p, c, 0, cs⟩ A, ?_, fin ⟨p, c, 0, cs⟩ ⟨Ne.symm hcp, hne, hl, Int.le_refl _⟩ rfl hc hpA⟩
    exact hs.up
  obtain ⟨ms, em, hm⟩ := cut_63 ns
  walk_at "w"
  intro p hp
  rw [em]
  walk_at "w"
  rw [aupd_same]
  intro p2 hp2
  have h2 : A p2 = none := none_of ((Sub.refl A).upd hp) hp2
  walk_at "w"
  refine ⟨szle (by simp), fun p3 hp3 => ?_⟩
  refine eqK_ll (xs := ms) (ys := []) (aupd_keep aupd_same hp3) aupd_same ?_
  walk_at "w"
  refine ifd (fun he => ?_) (fun hne => ?_)
  · walk_at "w"
    refine ⟨szle (by simp), fun p4 hp4 => ?_⟩
    have s3 := (((Sub.refl A).upd (o := .lst (ms.map .int)) hp).trans ((Sub.refl _).upd (o := .lst (ms.map .int)) hp2)).trans ((Sub.refl _).upd (o := .lst []) hp3)
    exact rest p4 [7] _ (none_of s3 hp4) s3.up (by simp) (by simp)
  · have s1 : Sub (aupd A p2 (.lst (ms.map .int))) (aupd (aupd A p (.lst (ms.map .int))) p2 (.lst (ms.map .int))) := ((Sub.refl A).upd hp).up
    exact rest p2 ms _ h2 (s1.trans ((Sub.refl _).upd hp3)) hne hm
end Lf
namespace Lf
open PySem PySem.Spec L2
open PyProof.Rows hiding St
local macro_rules | `(tactic| walk_at "w") => `(tactic| ((with_reducible (conv => whnf)); (try dsimp only)))
/-! ### the nets -/
def rowN (n back : Nat) : List (List Int) := (List.range n).map fun (w : Nat) => rgI (if (w : Int) - back > 0 then (w : Int) - back else 0) w
def S_rownet : LSp := fun xs A Q Z => ∃ n back : Nat, xs = [.int n, .int back] ∧ n < 1000 ∧ back < 1000 ∧ Q (netP (rowN n back)) A
theorem keeps_rownet : Keeps Wk.N_row_net Wk.T_row_net S_rownet := by
  rintro xs A Q Z ⟨n, back, rfl, hn, hb, k⟩
  unfold Wk.T_row_net
  show lRet _ _ [some (.int n), some (.int back), none] _
  walk_at "w"
  refine ⟨by omega, ?_⟩
  refine comp_map (List.range n) (fun (j : Nat) => .int j) (fun (w : Nat) => rowP (rgI (if (w : Int) - back > 0 then (w : Int) - back else 0) w)) (by rw [Int.toNat_natCast, rng_nats]) (szl (by simp; omega)) (fun _ _ _ => trivial) (fun D hD i a acc c => ?_) (fun D hD => ?_)
  · have ha : a < n := List.mem_range.mp (List.mem_of_getElem? c.at_)
    refine lgT_name ?_
    walk_at "w"
    refine ⟨⟨by split <;> omega, by split <;> omega, by omega, by omega, by split <;> omega⟩, ?_⟩
    rw [rg_row]
    exact c.yes rfl (.refl _)
  · walk_at "w"
    rw [aupd_same]; walk_at "w"
    have e : (List.range n).map (fun (w : Nat) => rowP (rgI (if (w : Int) - back > 0 then (w : Int) - back else 0) w)) = (rowN n back).map rowP := by unfold rowN; rw [List.map_map]; rfl
    rw [e]
    exact ⟨_, (Sub.refl _).upd hD, k⟩
def sqNeeds (i j m : Nat) : List Int := (if 0 < i then [((i : Int) - 1) * m + j] else []) ++ if 0 < j then [(i : Int) * m + j - 1] else []
def S_sqneeds : LSp := fun xs A Q Z => ∃ i j m : Nat, xs = [.int i, .int j, .int m] ∧ i < 1000 ∧ j < 1000 ∧ m < 1000 ∧ Q (rowP (sqNeeds i j m)) A
theorem keeps_sqneeds : Keeps Wk.N_square_needs Wk.T_square_needs S_sqneeds := by
  rintro xs A Q Z ⟨i, j, m, rfl, hi, hj, hm, k⟩
  unfold Wk.T_square_needs
  show lSeq _ _ _ [some (.int i), some (.int j), some (.int m), none] _
  walk_at "w"
  refine ⟨szle (by simp), fun p hp => ?_⟩
  have rest : ∀ (ns : List Int), ns.length < 10 → (lSeq (lIfS (lTest (lOp lGt (lVar 1) (lC (.int 0)))) (lDrop (lMeth mAppend (lVar 3) (lCons (lOp lSub (lOp lAdd (lOp lMul (lVar 0) (lVar 2)) (lVar 1)) (lC (.int 1))) lNil))) lNext) (lRet (lCB (lTuple .own) (lCons (lVar 3) lNil)))) (endsOf fun x A' => A' = A ∧ x = rowP (ns ++ if 0 < j then [(i : Int) * m + j - 1] else [])) [some (.int i), some (.int j), some (.int m), some (.ref p)] (aupd A p (.lst (ns.map .int))) := by
    intro ns hns
    walk_at "w"
    refine ifd (fun h => ?_) (fun h => ?_)
    · walk_at "w"
      refine m_l (A := aupd A p _) aupd_same rfl ?_; walk_at "w"
      refine ⟨.inl ⟨by omega, by omega⟩, ?_⟩
      walk_at "w"
      rw [aupd_same]; walk_at "w"
      refine ⟨szl (by simp; omega), ?_⟩
      walk_at "w"
      rw [aupd_same]; walk_at "w"
      refine ⟨A, ?_, rfl, ?_⟩
      · rw [aupd_aupd]; exact (Sub.refl _).upd hp
      · rw [if_pos (by omega), rowP, List.map_append]; rfl
    · walk_at "w"
      rw [aupd_same]; walk_at "w"
      refine ⟨A, (Sub.refl _).upd hp, rfl, ?_⟩
      rw [if_neg (by omega), List.append_nil]
  have fin : ∀ x A', (A' = A ∧ x = rowP (sqNeeds i j m)) → Q x A' := fun x A' ⟨e1, e2⟩ => by subst e1; subst e2; exact k
  have go : ∀ ns : List Int, ns.length < 10 → ns ++ (if 0 < j then [(i : Int) * m + j - 1] else []) = sqNeeds i j m → (lSeq (lIfS (lTest (lOp lGt (lVar 1) (lC (.int 0)))) (lDrop (lMeth mAppend (lVar 3) (lCons (lOp lSub (lOp lAdd (lOp lMul (lVar 0) (lVar 2)) (lVar 1)) (lC (.int 1))) lNil))) lNext) (lRet (lCB (lTuple .own) (lCons (lVar 3) lNil)))) (endsOf Q) [some (.int i), some (.int j), some (.int m), some (.ref p)] (aupd A p (.lst (ns.map .int))) := by
    intro ns hns e
    walk_at "w"
    refine ifd (fun h => ?_) (fun h => ?_)
    · walk_at "w"
      refine m_l (A := aupd A p _) aupd_same rfl ?_; walk_at "w"
      refine ⟨.inl ⟨by omega, by omega⟩, ?_⟩
      walk_at "w"
      rw [aupd_same]; walk_at "w"
      refine ⟨szl (by simp; omega), ?_⟩
      walk_at "w"
      rw [aupd_same]; walk_at "w"
      refine ⟨A, ?_, fin _ _ ⟨rfl, ?_⟩⟩
      · rw [aupd_aupd]; exact (Sub.refl _).upd hp
      · rw [← e, if_pos (by omega), rowP, List.map_append]; rfl
    · walk_at "w"
      rw [aupd_same]; walk_at "w"
      refine ⟨A, (Sub.refl _).upd hp, fin _ _ ⟨rfl, ?_⟩⟩
      rw [← e, if_neg (by omega), List.append_nil]
  clear rest
  walk_at "w"
  refine ifd (fun h => ?_) (fun h => ?_)
  · walk_at "w"
    refine m_l (A := aupd A p _) aupd_same rfl ?_; walk_at "w"
    refine ⟨.inl ⟨by omega, by omega⟩, ?_⟩
    walk_at "w"
    rw [aupd_same]; walk_at "w"
    refine ⟨szl (by simp), ?_⟩
    rw [aupd_aupd]
    exact go [((i : Int) - 1) * m + j] (by simp) (by unfold sqNeeds; rw [if_pos (show 0 < i by omega)])
  · walk_at "w"
    exact go [] (by simp) (by unfold sqNeeds; rw [if_neg (show ¬ 0 < i by omega)])
def sqN (n m : Nat) : List (List Int) := (List.range (n * m)).map fun w => sqNeeds (w / m) (w % m) m
def S_sqnet : LSp := fun xs A Q Z => ∃ n m : Nat, xs = [.int n, .int m] ∧ 1 ≤ n ∧ n ≤ 100 ∧ 1 ≤ m ∧ m ≤ 100 ∧ Q (netP (sqN n m)) A
theorem keeps_sqnet : Keeps Wk.N_square_net (Wk.T_square_net S_sqneeds) S_sqnet := by
  rintro xs A Q Z ⟨n, m, rfl, n0, n1, m0, m1, k⟩
  have hnm : n * m ≤ 100 * 100 := Nat.mul_le_mul n1 m1
  unfold Wk.T_square_net
  show lRet _ _ [some (.int n), some (.int m), none] _
  walk_at "w"
  refine ⟨.inl ⟨by omega, by omega⟩, ?_⟩
  walk_at "w"
  have e0 : (n : Int) * (m : Int) = ((n * m : Nat) : Int) := by simp
  rw [e0]
  refine ⟨by omega, ?_⟩
  refine comp_map (List.range (n * m)) (fun (j : Nat) => .int j) (fun (w : Nat) => rowP (sqNeeds (w / m) (w % m) m)) (by rw [Int.toNat_natCast, rng_nats]) (szl (by simp; omega)) (fun _ _ _ => trivial) (fun D hD i w acc c => ?_) (fun D hD => ?_)
  · have hw : w < n * m := List.mem_range.mp (List.mem_of_getElem? c.at_)
    refine lgT_name ?_
    walk_at "w"
    refine ⟨⟨by omega, by omega⟩, ?_⟩
    walk_at "w"
    refine ⟨by omega, ?_⟩
    walk_at "w"
    have h1 : w / m < n := Nat.div_lt_of_lt_mul (by rw [Nat.mul_comm]; exact hw)
    have h2 : w % m < m := Nat.mod_lt _ (by omega)
    exact ⟨w / m, w % m, m, by simp, by omega, by omega, by omega, c.yes rfl (.refl _)⟩
  · walk_at "w"
    rw [aupd_same]; walk_at "w"
    have e : (List.range (n * m)).map (fun (w : Nat) => rowP (sqNeeds (w / m) (w % m) m)) = (sqN n m).map rowP := by unfold sqN; rw [List.map_map]; rfl
    rw [e]
    exact ⟨_, (Sub.refl _).upd hD, k⟩
end Lf
namespace Lf
open PySem PySem.Spec L2
open PyProof.Rows hiding St
local macro_rules | `(tactic| walk_at "w") => `(tactic| ((with_reducible (conv => whnf)); (try dsimp only)))
def Bg (n : Nat) : Nat → Nat
  | 0 => 0
  | r + 1 => Bg n r + (n - r)
theorem Bg_le (n : Nat) : ∀ r, Bg n r ≤ n * r
  | 0 => by simp [Bg]
  | r + 1 => by
    have := Bg_le n r
    unfold Bg
    rw [Nat.mul_succ]; omega
def bgs (n k : Nat) : List Int := (List.range k).map fun (r : Nat) => (Bg n r : Int)
theorem bgs_succ (n k : Nat) : bgs n (k + 1) = bgs n k ++ [(Bg n k : Int)] := by unfold bgs; rw [List.range_succ, List.map_append]; rfl
theorem bgs_len (n k : Nat) : (bgs n k).length = k := by simp [bgs]
theorem bgs_get {n k r : Nat} (h : r < k) : (bgs n k)[r]? = some (Bg n r : Int) := by
  unfold bgs; rw [List.getElem?_map, List.getElem?_range h]; rfl
theorem atI_last {α : Type} {xs : List α} {x : α} (h : xs[xs.length - 1]? = some x) : atI xs (-1) = some x := by
  have hl := (List.getElem?_eq_some_iff.mp h).1
  unfold atI ixN
  rw [if_neg (by decide), if_pos (by omega)]
  have e : (-1 + (xs.length : Int)).toNat = xs.length - 1 := by omega
  rw [e]; exact h
theorem rng2_get {lo : Int} {n i : Nat} {x : PV} (h : (rangeP lo n)[i]? = some x) : x = .int (lo + (i : Nat)) ∧ i < n := rng_get h
def S_stepb : LSp := fun xs A Q Z => ∃ n : Nat, xs = [.int n] ∧ 1 ≤ n ∧ n ≤ 100 ∧ ∀ p, A p = none → Q (.ref p) (aupd A p (.lst ((bgs n n).map .int)))
theorem keeps_stepb : Keeps Wk.N_step_begins Wk.T_step_begins S_stepb := by
  rintro xs A Q Z ⟨n, rfl, n0, n1, fin⟩
  unfold Wk.T_step_begins
  show lSeq _ _ _ [some (.int n), none, none] _
  walk_at "w"
  refine ⟨szle (by simp), fun p hp => ?_⟩
  walk_at "w"
  refine ⟨⟨by omega, by omega, by omega, by omega⟩, ?_⟩
  refine ⟨fun i s A' => i + 1 ≤ n ∧ s = [some (.int n), some (.ref p), none] ∧ A' = aupd A p (.lst ((bgs n (i + 1)).map .int)), ⟨by omega, rfl, rfl⟩, ?_⟩
  rintro i s A' ⟨hi, rfl, rfl⟩
  refine ⟨trivial, fun e => ?_, fun x hx => ?_⟩
  · rw [rangeP_len] at e
    walk_at "w"
    have e2 : i + 1 = n := by omega
    rw [e2]
    exact ⟨_, .refl _, fin p hp⟩
  · obtain ⟨rfl, hlt⟩ := rng_get hx
    refine lgT_name ?_
    walk_at "w"
    refine m_l (A := aupd A p _) aupd_same rfl ?_; walk_at "w"
    rw [aupd_same]; walk_at "w"
    rw [atI_last (x := .int (Bg n i)) (by rw [List.length_map, bgs_len, List.getElem?_map, Nat.add_sub_cancel, bgs_get (by omega)]; rfl)]; walk_at "w"
    rw [aupd_same]; walk_at "w"
    refine ⟨szl (by rw [List.length_map, bgs_len]; omega), ?_⟩
    refine ⟨_, _, .cons (.cons (.none .nil)), .refl _, by omega, rfl, ?_⟩
    rw [aupd_aupd, bgs_succ n (i + 1), List.map_append]
    have e : (Bg n i : Int) + n - (1 + (i : Nat)) + 1 = (Bg n (i + 1) : Int) := by
      show _ = ((Bg n i + (n - i) : Nat) : Int)
      omega
    rw [e]; rfl
def stepR (n : Nat) : Nat → List (List Int)
  | 0 => []
  | r + 1 => stepR n r ++ (List.range (n - (r + 1))).map fun (k : Nat) => [(Bg n r : Int) + k, (Bg n r : Int) + k + 1]
def stepN (n : Nat) : List (List Int) := List.replicate n [] ++ stepR n (n - 1)
theorem stepR_len (n : Nat) : ∀ r, (stepR n r).length ≤ n * r
  | 0 => by simp [stepR]
  | r + 1 => by
    have := stepR_len n r
    unfold stepR
    rw [List.length_append, List.length_map, List.length_range, Nat.mul_succ]; omega
theorem flat_one {α : Type} (k : Nat) (x : α) : (List.replicate k [x]).flatten = List.replicate k x := by
  induction k with
  | zero => rfl
  | succ k ih => rw [List.replicate_succ, List.flatten_cons, ih, List.replicate_succ]; rfl
def S_stepnet : LSp := fun xs A Q Z => ∃ n : Nat, xs = [.int n] ∧ 1 ≤ n ∧ n ≤ 100 ∧ Q (netP (stepN n)) A
theorem keeps_stepnet : Keeps Wk.N_step_net (Wk.T_step_net S_stepb) S_stepnet := by
  rintro xs A Q Z ⟨n, rfl, n0, n1, fin⟩
  unfold Wk.T_step_net
  show lSeq _ _ _ [some (.int n), none, none, none, none] _
  walk_at "w"
  refine ⟨n, rfl, n0, n1, fun pb hpb => ?_⟩
  walk_at "w"
  refine ⟨szle (by simp), ?_⟩
  walk_at "w"
  refine ⟨szle (by simp), fun p1 hp1 => ?_⟩
  walk_at "w"
  rw [aupd_same]; walk_at "w"
  refine ⟨⟨by omega, by omega, szle (by simp; omega)⟩, fun pf hpf => ?_⟩
  rw [flat_one]
  walk_at "w"
  refine ⟨⟨by omega, by omega, by omega, by omega⟩, ?_⟩
  generalize hA1 : aupd (aupd A pb (.lst ((bgs n n).map .int))) p1 (.lst [.tup .own []]) = A1 at hpf ⊢
  have gb : A1 pb = some (.lst ((bgs n n).map .int)) := by rw [← hA1]; exact aupd_keep aupd_same hp1
  have s1 : Sub A A1 := by rw [← hA1]; exact ((Sub.refl _).upd hpb).trans ((Sub.refl _).upd hp1)
  have hpfA : A pf = none := none_of s1 hpf
  refine ⟨fun i s A' => i + 1 ≤ n ∧ s = [some (.int n), some (.ref pb), some (.ref pf), none, none] ∧ A' = aupd A1 pf (.lst ((List.replicate n [] ++ stepR n i).map rowP)), ⟨by omega, rfl, ?_⟩, ?_⟩
  · simp [stepR, rowP]
  rintro i s A' ⟨hi, rfl, rfl⟩
  refine ⟨trivial, fun e => ?_, fun x hx => ?_⟩
  · rw [rangeP_len] at e
    walk_at "w"
    rw [aupd_same]
    refine ⟨A, s1.upd hpfA, ?_⟩
    have e2 : i = n - 1 := by omega
    subst e2
    exact fin
  · obtain ⟨rfl, hlt⟩ := rng_get hx
    refine lgT_name ?_
    have gb' : aupd A1 pf (.lst ((List.replicate n [] ++ stepR n i).map rowP)) pb = some (.lst ((bgs n n).map .int)) := aupd_keep gb hpf
    walk_at "w"
    refine m_l (A := aupd A1 pf _) aupd_same rfl ?_; walk_at "w"
    refine ⟨by omega, ?_⟩
    have em : ((n : Int) - (1 + (i : Nat))).toNat = n - (i + 1) := by omega
    refine comp_map (List.range (n - (i + 1))) (fun (j : Nat) => .int j) (fun (k : Nat) => rowP [(Bg n i : Int) + k, (Bg n i : Int) + k + 1]) (by rw [em, rng_nats]) (szl (by simp; omega)) (fun _ _ _ => trivial) (fun D hD q k acc c => ?_) (fun D hD => ?_)
    · refine lgT_name ?_
      have eg : atI ((bgs n n).map PV.int) (1 + (i : Nat) - 1) = some (.int (Bg n i)) := atI_map (atI_of (x := (Bg n i : Int)) (by omega) (by rw [show (1 + (i : Int) - 1).toNat = i by omega]; exact bgs_get (by omega)))
      walk_at "w"
      rw [aupd_keep gb' hD]; walk_at "w"
      rw [eg]; walk_at "w"
      rw [aupd_keep gb' hD]; walk_at "w"
      rw [eg]; walk_at "w"
      refine ⟨szle (by simp), ?_⟩
      exact c.yes rfl (.refl _)
    · walk_at "w"
      rw [aupd_keep aupd_same hD]; walk_at "w"
      rw [aupd_same]; walk_at "w"
      have hle := stepR_len n i
      have hle2 : n * i ≤ 100 * 100 := Nat.mul_le_mul n1 (by omega)
      refine ⟨szle (by simp; omega), ?_⟩
      refine ⟨_, aupd A1 pf (.lst ((List.replicate n [] ++ stepR n (i + 1)).map rowP)), .cons (.cons (.cons (.none (.none .nil)))), ?_, by omega, rfl, rfl⟩
      have e : (List.replicate n [] ++ stepR n i).map rowP ++ (List.range (n - (i + 1))).map (fun (k : Nat) => rowP [(Bg n i : Int) + k, (Bg n i : Int) + k + 1]) = (List.replicate n [] ++ stepR n (i + 1)).map rowP := by
        show _ = (List.replicate n [] ++ (stepR n i ++ (List.range (n - (i + 1))).map fun (k : Nat) => [(Bg n i : Int) + k, (Bg n i : Int) + k + 1])).map rowP
        rw [← List.append_assoc, List.map_append (l₂ := (List.range _).map _), List.map_map]; rfl
      rw [e]
      have h := ((Sub.refl (aupd A1 pf (.lst ((List.replicate n [] ++ stepR n i).map rowP)))).upd (o := .lst ((List.range (n - (i + 1))).map fun (k : Nat) => rowP [(Bg n i : Int) + k, (Bg n i : Int) + k + 1])) hD).up (a := pf) (o := .lst ((List.replicate n [] ++ stepR n (i + 1)).map rowP))
      rw [aupd_aupd] at h
      exact h
/-! ### the rooms -/
def S_rowrooms : LSp := fun xs A Q Z => ∃ n back : Nat, xs = [.int n, .int back] ∧ Q (.int (min n (back + 1) : Nat)) A
theorem keeps_rowrooms : Keeps Wk.N_row_rooms Wk.T_row_rooms S_rowrooms := by
  rintro xs A Q Z ⟨n, back, rfl, k⟩
  unfold Wk.T_row_rooms
  show lRet _ _ [some (.int n), some (.int back)] _
  walk_at "w"
  have e : (if (back : Int) + 1 < n then (back : Int) + 1 else n) = ((min n (back + 1) : Nat) : Int) := by split <;> omega
  rw [e]
  exact ⟨_, .refl _, k⟩
def sqRooms (n m : Nat) : Nat := if n = 1 ∧ m = 1 then 1 else min n m + 1
def S_sqrooms : LSp := fun xs A Q Z => ∃ n m : Nat, xs = [.int n, .int m] ∧ Q (.int (sqRooms n m : Nat)) A
theorem keeps_sqrooms : Keeps Wk.N_square_rooms Wk.T_square_rooms S_sqrooms := by
  rintro xs A Q Z ⟨n, m, rfl, k⟩
  unfold Wk.T_square_rooms
  show lSeq _ _ _ [some (.int n), some (.int m)] _
  have go : ¬ (n = 1 ∧ m = 1) → lRet (lOp lAdd (lCB lMin (lCons (lVar 0) (lCons (lVar 1) lNil))) (lC (.int 1))) (endsOf Q) [some (.int n), some (.int m)] A := by
    intro h
    walk_at "w"
    have e : (if (m : Int) < n then (m : Int) else n) + 1 = ((sqRooms n m : Nat) : Int) := by
      unfold sqRooms
      rw [if_neg h]; split <;> omega
    rw [e]
    exact ⟨_, .refl _, k⟩
  walk_at "w"
  refine ifd (fun h1 => ?_) (fun h1 => ?_)
  · walk_at "w"
    refine ifd (fun h2 => ?_) (fun h2 => ?_)
    · walk_at "w"
      refine ⟨_, .refl _, ?_⟩
      have e : sqRooms n m = 1 := by unfold sqRooms; rw [if_pos ⟨by omega, by omega⟩]
      rw [e] at k; exact k
    · exact go (by omega)
  · exact go (by omega)
def stepRooms (n : Nat) : Nat := if n = 1 then 1 else n + 1
def S_steprooms : LSp := fun xs A Q Z => ∃ n : Nat, xs = [.int n] ∧ Q (.int (stepRooms n : Nat)) A
theorem keeps_steprooms : Keeps Wk.N_step_rooms Wk.T_step_rooms S_steprooms := by
  rintro xs A Q Z ⟨n, rfl, k⟩
  unfold Wk.T_step_rooms
  show lRet _ _ [some (.int n)] _
  walk_at "w"
  refine ifd (fun h1 => ?_) (fun h1 => ?_)
  · walk_at "w"
    refine ⟨_, .refl _, ?_⟩
    have e : stepRooms n = 1 := by unfold stepRooms; rw [if_pos (by omega)]
    rw [e] at k; exact k
  · walk_at "w"
    refine ⟨_, .refl _, ?_⟩
    have e : (n : Int) + 1 = ((stepRooms n : Nat) : Int) := by unfold stepRooms; rw [if_neg (by omega)]; omega
    rw [e]; exact k
end Lf
namespace Lf
open PySem PySem.Spec L2
open PyProof.Rows hiding St
local macro_rules | `(tactic| walk_at "w") => `(tactic| ((with_reducible (conv => whnf)); (try dsimp only)))
/-! ### a comprehension of new lists -/
def RW (D : Addr) (A : AH) (g : Nat → List PV) (i : Nat) (acc : List PV) (A' : AH) : Prop :=
  Sub (aupd A D (.lst acc)) A' ∧ acc.length = i ∧ ∀ (j : Nat) (w : PV), acc[j]? = some w → ∃ p, w = .ref p ∧ p ≠ D ∧ A' p = some (.lst (g j))
def RYes (D : Addr) (A : AH) (g : Nat → List PV) (i : Nat) (acc : List PV) (y : PV) (A5 : AH) : Prop :=
  ∃ A6, Sub A6 A5 ∧ A6 D = some (.lst acc) ∧ acc.length < sizeLine ∧ RW D A g (i + 1) (acc ++ [y]) (aupd A6 D (.lst (acc ++ [y])))
theorem RW.yes {D : Addr} {A A2 A5 : AH} {g : Nat → List PV} {i : Nat} {acc : List PV} {p : Addr} (h : RW D A g i acc A2) (hD : A2 D = some (.lst acc)) (hl : acc.length < sizeLine) (hp : A2 p = none) (hs : Sub A2 A5) (hg : A5 p = some (.lst (g i))) : RYes D A g i acc (.ref p) A5 := by
  obtain ⟨h1, h2, h3⟩ := h
  have np : p ≠ D := fun e => by rw [e, hD] at hp; cases hp
  refine ⟨A5, .refl _, hs _ _ hD, hl, ?_, by simp [h2], fun j w hw => ?_⟩
  · have h := (h1.trans hs).up (a := D) (o := .lst (acc ++ [PV.ref p]))
    rw [aupd_aupd] at h
    exact h
  · by_cases hj : j < acc.length
    · rw [List.getElem?_append_left hj] at hw
      obtain ⟨q, e1, e2, e3⟩ := h3 j w hw
      exact ⟨q, e1, e2, by rw [aupd_ne e2]; exact hs _ _ e3⟩
    · rw [List.getElem?_append_right (by omega)] at hw
      have : j - acc.length = 0 := by
        cases hh : j - acc.length with
        | zero => rfl
        | succ m => rw [hh] at hw; simp at hw
      rw [this] at hw
      simp at hw; subst hw
      have : j = i := by omega
      subst this
      exact ⟨p, rfl, np, by rw [aupd_ne np]; exact hg⟩
theorem comp_refs {items : List PV} {St : AH → Prop} {A : AH} {Q : QK} {s : LSt} {tg : Tgt} {te : LE} {vs : List Nat} (g : Nat → List PV) (hl : items.length < sizeLine) (hst : ∀ A', Sub A A' → St A')
    (step : ∀ D (i : Nat) (x : PV) (acc : List PV) (A2 : AH), items[i]? = some x → Sub A A2 → A2 D = some (.lst acc) → acc.length < sizeLine → RW D A g i acc A2 → lgT tg x (wipeL s vs) A2 fun s3 A3 => te s3 A3 fun y A5 => RYes D A g i acc y A5)
    (fin : ∀ D ys A', A D = none → Sub A A' → A' D = some (.lst ys) → ys.length = items.length → (∀ (j : Nat) (w : PV), ys[j]? = some w → ∃ p, w = .ref p ∧ A' p = some (.lst (g j))) → Q (.ref D) A') : lCompK items St A s tg lYes te vs Q := by
  intro D hD
  refine ⟨fun i acc A' => RW D A g i acc A' ∧ i ≤ items.length, ⟨⟨.refl _, rfl, by simp⟩, Nat.zero_le _⟩, ?_⟩
  rintro i acc A2 ⟨h, hi⟩ hD2
  have hs : Sub A A2 := ((Sub.refl A).upd hD).trans h.1
  refine ⟨hst A2 hs, fun e => ?_, fun x hx => ?_⟩
  · refine fin D acc A2 hD hs hD2 (by rw [h.2.1, e]) fun j w hw => ?_
    obtain ⟨p, e1, _, e3⟩ := h.2.2 j w hw
    exact ⟨p, e1, e3⟩
  · have hlt := (List.getElem?_eq_some_iff.mp hx).1
    have hal : acc.length < sizeLine := by rw [h.2.1]; omega
    have q := step D i x acc A2 hx hs hD2 hal h
    have e : (fun (s3 : LSt) (A3 : AH) => lYes s3 A3 fun b A4 => if b = true then te s3 A4 fun y A5 => ∃ A6, Sub A6 A5 ∧ A6 D = some (.lst acc) ∧ acc.length < sizeLine ∧ RW D A g (i + 1) (acc ++ [y]) (aupd A6 D (.lst (acc ++ [y]))) ∧ i + 1 ≤ items.length
        else ∃ A6, Sub A6 A4 ∧ A6 D = some (.lst acc) ∧ RW D A g (i + 1) acc A6 ∧ i + 1 ≤ items.length) = fun s3 A3 => te s3 A3 fun y A5 => RYes D A g i acc y A5 := by
      funext s3 A3
      show (if true = true then _ else _) = _
      rw [if_pos rfl]
      congr 1
      funext y A5
      unfold RYes
      have h1 : i + 1 ≤ items.length := hlt
      simp only [h1, and_true]
    rw [e]; exact q
/-! ### moves -/
abbrev movP (m : Bool × Nat) : PV := .tup .own [.str (if m.1 = true then "do" else "clear"), .int (m.2 : Nat)]
def rowM (o : Nat → Nat) (back : Nat) : Nat → List (Bool × Nat)
  | 0 => []
  | t + 1 => rowM o back t ++ (true, o t) :: if back ≤ t then [(false, o (t - back))] else []
theorem rowM_len (o : Nat → Nat) (back : Nat) : ∀ t, (rowM o back t).length ≤ 2 * t
  | 0 => by simp [rowM]
  | t + 1 => by
    have := rowM_len o back t
    unfold rowM
    rw [List.length_append]
    split <;> simp <;> omega
def S_rowplan : LSp := fun xs A Q Z => ∃ n back : Nat, xs = [.int n, .int back] ∧ n < 1000 ∧ back < 1000 ∧ ∀ p, A p = none → Q (.ref p) (aupd A p (.lst ((rowM id back n).map movP)))
theorem keeps_rowplan : Keeps Wk.N_row_plan Wk.T_row_plan S_rowplan := by
  rintro xs A Q Z ⟨n, back, rfl, hn, hb, fin⟩
  unfold Wk.T_row_plan
  show lSeq _ _ _ [some (.int n), some (.int back), none, none] _
  walk_at "w"
  refine ⟨szle (by simp), fun p hp => ?_⟩
  walk_at "w"
  refine ⟨by omega, ?_⟩
  refine ⟨fun i s A' => i ≤ n ∧ s = [some (.int n), some (.int back), some (.ref p), none] ∧ A' = aupd A p (.lst ((rowM id back i).map movP)), ⟨by omega, rfl, rfl⟩, ?_⟩
  rintro i s A' ⟨hi, rfl, rfl⟩
  refine ⟨trivial, fun e => ?_, fun x hx => ?_⟩
  · rw [rangeP_len] at e
    walk_at "w"
    have e2 : i = n := by omega
    rw [e2]
    exact ⟨_, .refl _, fin p hp⟩
  · obtain ⟨rfl, hlt⟩ := rng_get hx
    have ei : (0 : Int) + (i : Nat) = (i : Nat) := by omega
    have hlen := rowM_len id back i
    refine lgT_name ?_
    walk_at "w"
    refine m_l (A := aupd A p _) aupd_same rfl ?_; walk_at "w"
    refine ⟨szle (by simp), ?_⟩
    walk_at "w"
    rw [aupd_same]; walk_at "w"
    refine ⟨szl (by simp; omega), ?_⟩
    rw [aupd_aupd, ei]
    walk_at "w"
    refine ifd (fun h => ?_) (fun h => ?_)
    · walk_at "w"
      refine m_l (A := aupd A p _) aupd_same rfl ?_; walk_at "w"
      refine ⟨szle (by simp), ?_⟩
      walk_at "w"
      rw [aupd_same]; walk_at "w"
      refine ⟨szl (by simp; omega), ?_⟩
      refine ⟨_, _, .cons (.cons (.cons (.none .nil))), .refl _, by omega, rfl, ?_⟩
      rw [aupd_aupd]
      have e : (i : Int) - back = ((i - back : Nat) : Int) := by omega
      rw [e]
      show _ = aupd A p (.lst ((rowM id back i ++ (true, id i) :: if back ≤ i then [(false, id (i - back))] else []).map movP))
      rw [if_pos (show back ≤ i by omega), List.map_append, List.append_assoc]
      rfl
    · walk_at "w"
      refine ⟨_, _, .cons (.cons (.cons (.none .nil))), .refl _, by omega, rfl, ?_⟩
      show _ = aupd A p (.lst ((rowM id back i ++ (true, id i) :: if back ≤ i then [(false, id (i - back))] else []).map movP))
      rw [if_neg (show ¬ back ≤ i by omega), List.map_append]
      rfl
def stepK (n r : Nat) : Nat → List (Bool × Nat)
  | 0 => []
  | k + 1 => stepK n r k ++ [(true, Bg n r + k), (false, Bg n (r - 1) + k)]
def stepT (n : Nat) : Nat → List (Bool × Nat)
  | 0 => []
  | r + 1 => stepT n r ++ stepK n (r + 1) (n - (r + 1)) ++ [(false, Bg n (r + 1) - 1)]
def stepM (n : Nat) : List (Bool × Nat) := (List.range n).map (fun w => (true, w)) ++ stepT n (n - 1)
theorem stepK_len (n r : Nat) : ∀ k, (stepK n r k).length = 2 * k
  | 0 => rfl
  | k + 1 => by unfold stepK; rw [List.length_append, stepK_len n r k]; simp; omega
theorem stepT_len (n : Nat) : ∀ r, (stepT n r).length ≤ (2 * n + 1) * r
  | 0 => by simp [stepT]
  | r + 1 => by
    have := stepT_len n r
    unfold stepT
    rw [List.length_append, List.length_append, stepK_len, Nat.mul_succ]; simp; omega
theorem Bg_pos (n r : Nat) (h : r < n) : 0 < Bg n (r + 1) := by unfold Bg; omega
def S_stepplan : LSp := fun xs A Q Z => ∃ n : Nat, xs = [.int n] ∧ 1 ≤ n ∧ n ≤ 100 ∧ ∀ p, A p = none → Q (.ref p) (aupd A p (.lst ((stepM n).map movP)))
theorem keeps_stepplan : Keeps Wk.N_step_plan (Wk.T_step_plan S_stepb) S_stepplan := by
  rintro xs A Q Z ⟨n, rfl, n0, n1, fin⟩
  unfold Wk.T_step_plan
  show lSeq _ _ _ [some (.int n), none, none, none, none, none] _
  walk_at "w"
  refine ⟨n, rfl, n0, n1, fun pb hpb => ?_⟩
  walk_at "w"
  refine ⟨by omega, ?_⟩
  have gb0 : aupd A pb (.lst ((bgs n n).map .int)) pb = some (.lst ((bgs n n).map .int)) := aupd_same
  generalize hA1 : aupd A pb (.lst ((bgs n n).map .int)) = A1 at gb0 ⊢
  have s1 : Sub A A1 := by rw [← hA1]; exact (Sub.refl _).upd hpb
  refine comp_map (List.range n) (fun (j : Nat) => .int j) (fun (w : Nat) => movP (true, w)) (by rw [Int.toNat_natCast, rng_nats]) (szl (by simp; omega)) (fun _ _ _ => trivial) (fun D hD q k acc c => ?_) (fun p hp => ?_)
  · refine lgT_name ?_
    walk_at "w"
    refine ⟨szle (by simp), ?_⟩
    exact c.yes rfl (.refl _)
  have hpA : A p = none := none_of s1 hp
  walk_at "w"
  refine ⟨⟨by omega, by omega, by omega, by omega⟩, ?_⟩
  have hlenT : ∀ r, r ≤ n → (stepT n r).length ≤ 201 * 100 := fun r hr => Nat.le_trans (stepT_len n r) (Nat.mul_le_mul (by omega) (by omega))
  refine ⟨fun i s A' => i + 1 ≤ n ∧ s = [some (.int n), some (.ref pb), some (.ref p), none, none, none] ∧ A' = aupd A1 p (.lst (((List.range n).map (fun w => (true, w)) ++ stepT n i).map movP)), ⟨by omega, rfl, ?_⟩, ?_⟩
  · simp only [stepT, List.append_nil, List.map_map]; rfl
  rintro i s A' ⟨hi, rfl, rfl⟩
  refine ⟨trivial, fun e => ?_, fun x hx => ?_⟩
  · rw [rangeP_len] at e
    walk_at "w"
    have e2 : i = n - 1 := by omega
    subst e2
    exact ⟨_, s1.up, fin p hpA⟩
  · obtain ⟨rfl, hlt⟩ := rng_get hx
    refine lgT_name ?_
    walk_at "w"
    refine ⟨by omega, ?_⟩
    have em : ((n : Int) - (1 + (i : Nat))).toNat = n - (i + 1) := by omega
    rw [em]
    have eg1 : atI ((bgs n n).map PV.int) (1 + (i : Nat)) = some (.int (Bg n (i + 1) : Nat)) := atI_map (atI_of (x := (Bg n (i + 1) : Int)) (by omega) (by rw [show (1 + (i : Int)).toNat = i + 1 by omega]; exact bgs_get (by omega)))
    have eg0 : atI ((bgs n n).map PV.int) (1 + (i : Nat) - 1) = some (.int (Bg n i : Nat)) := atI_map (atI_of (x := (Bg n i : Int)) (by omega) (by rw [show (1 + (i : Int) - 1).toNat = i by omega]; exact bgs_get (by omega)))
    have hT := hlenT i (by omega)
    refine ⟨fun k s A' => k ≤ n - (i + 1) ∧ s = [some (.int n), some (.ref pb), some (.ref p), none, some (.int (1 + (i : Nat))), none] ∧ A' = aupd A1 p (.lst (((List.range n).map (fun w => (true, w)) ++ stepT n i ++ stepK n (i + 1) k).map movP)), ⟨by omega, rfl, by simp [stepK]⟩, ?_⟩
    rintro k s A' ⟨hk, rfl, rfl⟩
    have gb : ∀ u, aupd A1 p u pb = some (.lst ((bgs n n).map .int)) := fun u => aupd_keep gb0 hp
    have hKl := stepK_len n (i + 1) k
    refine ⟨trivial, fun e => ?_, fun x hx => ?_⟩
    · rw [rangeP_len] at e
      subst e
      walk_at "w"
      refine m_l (A := aupd A1 p _) aupd_same rfl ?_; walk_at "w"
      rw [gb]; walk_at "w"
      rw [eg1]; walk_at "w"
      refine ⟨szle (by simp), ?_⟩
      walk_at "w"
      rw [aupd_same]; walk_at "w"
      refine ⟨szl (by simp; omega), ?_⟩
      refine ⟨_, _, .cons (.cons (.cons (.none (.none (.none .nil))))), .refl _, by omega, rfl, ?_⟩
      rw [aupd_aupd]
      have e : (Bg n (i + 1) : Int) - 1 = ((Bg n (i + 1) - 1 : Nat) : Int) := by have := Bg_pos n i (by omega); omega
      rw [e]
      show _ = aupd A1 p (.lst (((List.range n).map (fun w => (true, w)) ++ (stepT n i ++ stepK n (i + 1) (n - (i + 1)) ++ [(false, Bg n (i + 1) - 1)])).map movP))
      rw [← List.append_assoc, ← List.append_assoc, List.map_append (l₂ := [(false, Bg n (i + 1) - 1)])]
      rfl
    · obtain ⟨rfl, hlt2⟩ := rng_get hx
      refine lgT_name ?_
      walk_at "w"
      refine m_l (A := aupd A1 p _) aupd_same rfl ?_; walk_at "w"
      rw [gb]; walk_at "w"
      rw [eg1]; walk_at "w"
      refine ⟨szle (by simp), ?_⟩
      walk_at "w"
      rw [aupd_same]; walk_at "w"
      refine ⟨szl (by simp; omega), ?_⟩
      rw [aupd_aupd]
      walk_at "w"
      refine m_l (A := aupd A1 p _) aupd_same rfl ?_; walk_at "w"
      rw [gb]; walk_at "w"
      rw [eg0]; walk_at "w"
      refine ⟨szle (by simp), ?_⟩
      walk_at "w"
      rw [aupd_same]; walk_at "w"
      refine ⟨szl (by simp; omega), ?_⟩
      refine ⟨_, _, .cons (.cons (.cons (.none (.cons (.none .nil))))), .refl _, by omega, rfl, ?_⟩
      rw [aupd_aupd]
      have e1 : (Bg n (i + 1) : Int) + (0 + (k : Nat)) = ((Bg n (i + 1) + k : Nat) : Int) := by omega
      have e2 : (Bg n i : Int) + (0 + (k : Nat)) = ((Bg n i + k : Nat) : Int) := by omega
      rw [e1, e2]
      show _ = aupd A1 p (.lst (((List.range n).map (fun w => (true, w)) ++ stepT n i ++ (stepK n (i + 1) k ++ [(true, Bg n (i + 1) + k), (false, Bg n (i + 1 - 1) + k)])).map movP))
      rw [← List.append_assoc, List.map_append (l₂ := [(true, Bg n (i + 1) + k), (false, Bg n (i + 1 - 1) + k)]), List.append_assoc]
      rfl
end Lf
namespace Lf
open PySem PySem.Spec L2
open PyProof.Rows hiding St
local macro_rules | `(tactic| walk_at "w") => `(tactic| ((with_reducible (conv => whnf)); (try dsimp only)))
theorem enum_get0 {xs : List PV} {i : Nat} {x : PV} (h : (enumP xs)[i]? = some x) : ∃ a, xs[i]? = some a ∧ x = .tup .own [.int (i : Nat), a] := by
  have h2 : (enumP (xs.map id))[i]? = some x := by rw [List.map_id]; exact h
  exact enum_get h2
abbrev sqTail : LS := lSeq (lAsg (lLst lNil) (lgName 5))
 (lSeq (lFor (lEnum (lCons (lVar 2) lNil)) (lgT (.tup [(.name 6), (.name 7)]))
  (lFor (lEnum (lCons (lVar 7) lNil)) (lgT (.tup [(.name 8), (.name 9)]))
  (lSeq (lDrop (lMeth mAppend (lVar 5) (lCons (lTup (lCons (lC (.str "do")) (lCons (lVar 9) lNil))) lNil)))
 (lIfS (lTest (lOp lGt (lVar 6) (lC (.int 0))))
  (lDrop (lMeth mAppend (lVar 5) (lCons (lTup (lCons (lC (.str "clear")) (lCons (lOp lIx (lOp lIx (lVar 2) (lOp lSub (lVar 6) (lC (.int 1)))) (lVar 8)) lNil))) lNil)))
  lNext))))
 (lRet (lVar 5)))
def lineP (o : Nat → Nat) (b k : Nat) : List PV := (List.range b).map fun (j : Nat) => .int (o (k * b + j) : Nat)
theorem lineP_at {o : Nat → Nat} {b k j : Nat} (h : j < b) : atI (lineP o b k) (j : Nat) = some (.int (o (k * b + j) : Nat)) := atI_of (by omega) (by
  unfold lineP; rw [Int.toNat_natCast, List.getElem?_map, List.getElem?_range h]; rfl)
theorem sq_tail {A A1 : AH} {Q : QK} {n m : PV} {D : Addr} {ys : List PV} {o : Nat → Nat} {a b : Nat} {v3 v4 : Option PV} (ha : ys.length = a) (hb : 1 ≤ b) (hz : a * b ≤ 10000) (hs : Sub A A1) (gD : A1 D = some (.lst ys)) (hl : ∀ (k : Nat) (w : PV), ys[k]? = some w → ∃ p, w = .ref p ∧ A1 p = some (.lst (lineP o b k)))
    (fin : ∀ p, A p = none → Q (.ref p) (aupd A p (.lst ((rowM o b (a * b)).map movP)))) : sqTail (endsOf Q) [some n, some m, some (.ref D), v3, v4, none, none, none, none, none] A1 := by
  walk_at "w"
  refine ⟨szle (by simp), fun p hp => ?_⟩
  walk_at "w"
  have kp : ∀ {q : Addr} {l : List PV} {u : AO}, A1 q = some (.lst l) → aupd A1 p u q = some (.lst l) := fun h => aupd_keep h hp
  rw [kp gD]; walk_at "w"
  have mlen : ∀ t, t ≤ a * b → ((rowM o b t).map movP).length ≤ 20000 := fun t ht => by
    rw [List.length_map]
    have := rowM_len o b t
    omega
  refine ⟨fun k s A' => k ≤ a ∧ s = [some n, some m, some (.ref D), v3, v4, some (.ref p), none, none, none, none] ∧ A' = aupd A1 p (.lst ((rowM o b (k * b)).map movP)), ⟨by omega, rfl, by rw [Nat.zero_mul]; rfl⟩, ?_⟩
  rintro k s A' ⟨hk, rfl, rfl⟩
  refine ⟨kp gD, fun e => ?_, fun x hx => ?_⟩
  · rw [enumP_len, ha] at e
    subst e
    walk_at "w"
    exact ⟨_, hs.up, fin p (none_of hs hp)⟩
  obtain ⟨w, hw, rfl⟩ := enum_get0 hx
  obtain ⟨q, rfl, gq⟩ := hl k w hw
  have hka : k < a := by rw [← ha]; exact (List.getElem?_eq_some_iff.mp hw).1
  have hkb : (k + 1) * b ≤ a * b := Nat.mul_le_mul_right b hka
  rw [Nat.succ_mul] at hkb
  refine lgT_two_name ?_
  walk_at "w"
  rw [kp gq]; walk_at "w"
  refine ⟨fun j s A' => j ≤ b ∧ s = [some n, some m, some (.ref D), v3, v4, some (.ref p), some (.int (k : Nat)), some (.ref q), none, none] ∧ A' = aupd A1 p (.lst ((rowM o b (k * b + j)).map movP)), ⟨by omega, rfl, rfl⟩, ?_⟩
  rintro j s A' ⟨hj, rfl, rfl⟩
  refine ⟨kp gq, fun e => ?_, fun x hx => ?_⟩
  · rw [enumP_len] at e
    have e2 : j = b := by rw [e]; simp [lineP]
    subst e2
    exact ⟨_, _, .cons (.cons (.cons (.cons (.cons (.cons (.none (.none (.none (.none .nil))))))))), .refl _, by omega, rfl, by rw [Nat.succ_mul]⟩
  obtain ⟨w2, hw2, rfl⟩ := enum_get0 hx
  have hjb : j < b := by have := (List.getElem?_eq_some_iff.mp hw2).1; simpa [lineP] using this
  have ew : w2 = .int (o (k * b + j) : Nat) := by
    unfold lineP at hw2
    rw [List.getElem?_map, List.getElem?_range hjb] at hw2
    exact (Option.some.inj hw2).symm
  subst ew
  have ml := mlen (k * b + j) (by omega)
  refine lgT_two_name ?_
  walk_at "w"
  refine m_l (A := aupd A1 p _) aupd_same rfl ?_; walk_at "w"
  refine ⟨szle (by simp), ?_⟩
  walk_at "w"
  rw [aupd_same]; walk_at "w"
  refine ⟨szl (by omega), ?_⟩
  rw [aupd_aupd]
  walk_at "w"
  refine ifd (fun h => ?_) (fun h => ?_)
  · have hk1 : 1 ≤ k := by omega
    obtain ⟨w3, hw3⟩ : ∃ w3, ys[k - 1]? = some w3 := ⟨ys[k - 1]'(by omega), List.getElem?_eq_getElem (by omega)⟩
    obtain ⟨q3, rfl, gq3⟩ := hl (k - 1) w3 hw3
    have ekb : k * b = (k - 1) * b + b := by
      have : k = (k - 1) + 1 := by omega
      conv => lhs; rw [this, Nat.succ_mul]
    walk_at "w"
    refine m_l (A := aupd A1 p _) aupd_same rfl ?_; walk_at "w"
    rw [kp gD]; walk_at "w"
    rw [atI_of (x := .ref q3) (by omega) (by rw [show ((k : Int) - 1).toNat = k - 1 by omega]; exact hw3)]; walk_at "w"
    rw [kp gq3]; walk_at "w"
    rw [lineP_at hjb]; walk_at "w"
    refine ⟨szle (by simp), ?_⟩
    walk_at "w"
    rw [aupd_same]; walk_at "w"
    refine ⟨szl (by simp only [List.length_append, List.length_singleton]; omega), ?_⟩
    refine ⟨_, _, .cons (.cons (.cons (.cons (.cons (.cons (.cons (.cons (.none (.none .nil))))))))), .refl _, by omega, rfl, ?_⟩
    rw [aupd_aupd]
    show _ = aupd A1 p (.lst ((rowM o b (k * b + j) ++ (true, o (k * b + j)) :: if b ≤ k * b + j then [(false, o (k * b + j - b))] else []).map movP))
    rw [if_pos (by omega), show k * b + j - b = (k - 1) * b + j by omega, List.map_append, List.append_assoc]
    rfl
  · have hk0 : k = 0 := by omega
    subst hk0
    walk_at "w"
    refine ⟨_, _, .cons (.cons (.cons (.cons (.cons (.cons (.cons (.cons (.none (.none .nil))))))))), .refl _, by omega, rfl, ?_⟩
    show _ = aupd A1 p (.lst ((rowM o b (0 * b + j) ++ (true, o (0 * b + j)) :: if b ≤ 0 * b + j then [(false, o (0 * b + j - b))] else []).map movP))
    rw [if_neg (by omega), List.map_append]
    rfl
def sqO (n m : Nat) : Nat → Nat := if m ≤ n then id else fun t => (t % n) * m + t / n
def sqMv (n m : Nat) : List (Bool × Nat) := rowM (sqO n m) (min n m) (n * m)
def S_sqplan : LSp := fun xs A Q Z => ∃ n m : Nat, xs = [.int n, .int m] ∧ 1 ≤ n ∧ n ≤ 100 ∧ 1 ≤ m ∧ m ≤ 100 ∧ ∀ p, A p = none → Q (.ref p) (aupd A p (.lst ((sqMv n m).map movP)))
theorem keeps_sqplan : Keeps Wk.N_square_plan Wk.T_square_plan S_sqplan := by
  rintro xs A Q Z ⟨n, m, rfl, n0, n1, m0, m1, fin⟩
  have hnm : n * m ≤ 100 * 100 := Nat.mul_le_mul n1 m1
  have hmn : m * n ≤ 100 * 100 := Nat.mul_le_mul m1 n1
  unfold Wk.T_square_plan
  show lSeq _ _ _ [some (.int n), some (.int m), none, none, none, none, none, none, none, none] _
  walk_at "w"
  refine ifd (fun h => ?_) (fun h => ?_)
  · walk_at "w"
    refine ⟨by omega, ?_⟩
    rw [Int.toNat_natCast]
    refine comp_refs (fun k => lineP id m k) (szl (by rw [rangeP_len]; omega)) (fun _ _ => trivial) (fun D i x acc A2 hx hs hD hl hw => ?_) (fun D ys A' hD hs gD hl ha => ?_)
    · obtain ⟨rfl, hlt⟩ := rng_get hx
      refine lgT_name ?_
      walk_at "w"
      refine ⟨by omega, ?_⟩
      rw [Int.toNat_natCast]
      refine comp_map (List.range m) (fun (j : Nat) => .int j) (fun (j : Nat) => .int (i * m + j : Nat)) (rng_nats m) (szl (by simp; omega)) (fun _ _ _ => trivial) (fun D2 hD2 q j acc c => ?_) (fun D2 hD2 => ?_)
      · refine lgT_name ?_
        walk_at "w"
        refine ⟨.inr ⟨by omega, by omega⟩, ?_⟩
        refine c.yes ?_ (.refl _)
        have e : ((0 : Int) + (i : Nat)) * m + (j : Nat) = ((i * m + j : Nat) : Int) := by simp
        rw [e]
      · exact hw.yes hD hl hD2 ((Sub.refl _).upd hD2) aupd_same
    · walk_at "w"
      rw [rangeP_len] at hl
      refine sq_tail (o := id) (a := n) (b := m) hl m0 (by omega) hs gD ha fun p hp => ?_
      have := fin p hp
      unfold sqMv sqO at this
      rw [if_pos (by omega), Nat.min_eq_right (by omega)] at this
      exact this
  · walk_at "w"
    refine ⟨by omega, ?_⟩
    rw [Int.toNat_natCast]
    refine comp_refs (fun k => lineP (fun t => (t % n) * m + t / n) n k) (szl (by rw [rangeP_len]; omega)) (fun _ _ => trivial) (fun D i x acc A2 hx hs hD hl hw => ?_) (fun D ys A' hD hs gD hl ha => ?_)
    · obtain ⟨rfl, hlt⟩ := rng_get hx
      refine lgT_name ?_
      walk_at "w"
      refine ⟨by omega, ?_⟩
      rw [Int.toNat_natCast]
      refine comp_map (List.range n) (fun (j : Nat) => .int j) (fun (j : Nat) => .int (((i * n + j) % n) * m + (i * n + j) / n : Nat)) (rng_nats n) (szl (by simp; omega)) (fun _ _ _ => trivial) (fun D2 hD2 q j acc c => ?_) (fun D2 hD2 => ?_)
      · have hj : j < n := List.mem_range.mp (List.mem_of_getElem? c.at_)
        refine lgT_name ?_
        walk_at "w"
        refine ⟨.inr ⟨by omega, by omega⟩, ?_⟩
        refine c.yes ?_ (.refl _)
        have e1 : (i * n + j) % n = j := by rw [Nat.mul_comm, Nat.mul_add_mod]; exact Nat.mod_eq_of_lt hj
        have e2 : (i * n + j) / n = i := by rw [Nat.mul_comm, Nat.mul_add_div (by omega), Nat.div_eq_of_lt hj]; rfl
        rw [e1, e2]
        have e : (j : Int) * m + (0 + (i : Nat)) = ((j * m + i : Nat) : Int) := by simp
        rw [e]
      · exact hw.yes hD hl hD2 ((Sub.refl _).upd hD2) aupd_same
    · walk_at "w"
      rw [rangeP_len] at hl
      refine sq_tail (o := fun t => (t % n) * m + t / n) (a := m) (b := n) hl n0 (by omega) hs gD ha fun p hp => ?_
      have := fin p hp
      unfold sqMv sqO at this
      rw [if_neg (by omega), Nat.min_eq_left (by omega), Nat.mul_comm n m] at this
      exact this
end Lf
namespace Lf
open PySem PySem.Spec L2
open PyProof.Rows hiding St
local macro_rules | `(tactic| walk_at "w") => `(tactic| ((with_reducible (conv => whnf)); (try dsimp only)))
def S_ismove : LSp := fun xs A Q Z => ∃ (net : List (List Int)) (m : Bool × Nat), xs = [netP net, movP m] ∧ m.2 < net.length ∧ Q (.bl true) A
theorem word_in (b : Bool) : ([PV.str "do", PV.str "clear"].any fun z => eqP z (.str (if b = true then "do" else "clear"))) = true := by cases b <;> rfl
theorem keeps_ismove : Keeps Wk.N__law_is_move Wk.T__law_is_move S_ismove := by
  rintro xs A Q Z ⟨net, ⟨b, w⟩, rfl, hw, k⟩
  unfold Wk.T__law_is_move
  show lSeq _ _ _ [some (netP net), some (movP (b, w))] _
  walk_at "w"
  refine ⟨by decide, ?_⟩; walk_at "w"
  rw [isi_tt]; walk_at "w"
  refine ifb (fun h => by cases h) (fun _ => ?_)
  walk_at "w"
  refine ifb (fun h => by cases h) (fun _ => ?_)
  walk_at "w"
  rw [atI_of (x := .str (if b = true then "do" else "clear")) (by decide) rfl]; walk_at "w"
  refine ⟨szle (by simp), ?_⟩
  refine ⟨rfl, rfl, ?_⟩
  rw [word_in]
  walk_at "w"
  refine ifb (fun h => by cases h) (fun _ => ?_)
  walk_at "w"
  rw [atI_of (x := .int (w : Nat)) (by decide) rfl]; walk_at "w"
  refine ⟨by decide, ?_⟩; walk_at "w"
  rw [isi_ii]
  refine ifb (fun _ => ?_) (fun h => by cases h)
  walk_at "w"
  rw [atI_of (x := .int (w : Nat)) (by decide) rfl]; walk_at "w"
  refine ⟨by decide, ?_⟩; walk_at "w"
  rw [isi_ib]
  refine ifb (fun _ => ?_) (fun h => by cases h)
  walk_at "w"
  rw [atI_of (x := .int (w : Nat)) (by decide) rfl]; walk_at "w"
  refine ifd (fun _ => ?_) (fun h => absurd (Int.natCast_nonneg w) h)
  walk_at "w"
  rw [decide_eq_true (show (w : Int) < ((net.map rowP).length : Int) by simp; omega)]
  exact ⟨_, .refl _, k⟩
/-! ### a plan walked -/
def Walk (net : List (List Int)) (rooms : Nat) : List (Bool × Nat) → List Nat → (Nat → Nat) → Nat → Prop
  | [], th, dn, most => (net.length - 1) ∈ th ∧ (∀ w, w < net.length → dn w = 1) ∧ most = rooms
  | (true, w) :: r, th, dn, most => w < net.length ∧ w ∉ th ∧ th.length < rooms ∧ (∀ row, net[w]? = some row → ∀ n ∈ row, ∃ c : Nat, n = (c : Int) ∧ c ∈ th) ∧ Walk net rooms r (th ++ [w]) (fun x => if x = w then dn x + 1 else dn x) (max most (th.length + 1))
  | (false, w) :: r, th, dn, most => w ∈ th ∧ w < net.length ∧ Walk net rooms r (th.filter fun x => decide (x ≠ w)) dn most
theorem Walk.all {net : List (List Int)} {rooms : Nat} : ∀ {mv : List (Bool × Nat)} {th : List Nat} {dn : Nat → Nat} {most : Nat}, Walk net rooms mv th dn most → ∀ m ∈ mv, m.2 < net.length
  | [], _, _, _, _, m, h => by simp at h
  | (true, w) :: r, th, dn, most, h, m, hm => by
    obtain ⟨h1, _, _, _, h5⟩ := h
    rcases List.mem_cons.mp hm with e | e
    · subst e; exact h1
    · exact Walk.all h5 m e
  | (false, w) :: r, th, dn, most, h, m, hm => by
    obtain ⟨_, h1, h5⟩ := h
    rcases List.mem_cons.mp hm with e | e
    · subst e; exact h1
    · exact Walk.all h5 m e
def thK (th : List Nat) : List (Key × PV) := th.map fun (w : Nat) => ((.inl (w : Int) : Key), PV.bl true)
theorem thK_val : ∀ (th : List Nat) (w : Nat), valP (thK th) (.inl (w : Int)) = if w ∈ th then some (.bl true) else none
  | [], w => by simp [thK, valP]
  | x :: r, w => by
    have ih := thK_val r w
    unfold valP thK at *
    simp only [List.map_cons, List.find?_cons]
    by_cases h : x = w
    · subst h; simp
    · have h2 : (decide ((Sum.inl (x : Int) : Key) = .inl (w : Int))) = false := by simp; omega
      rw [h2]
      dsimp only
      rw [ih]
      have : w ≠ x := fun e => h e.symm
      simp [this]
theorem thK_put {th : List Nat} {w : Nat} (h : w ∉ th) : putP (thK th) (.inl (w : Int)) (.bl true) = thK (th ++ [w]) := by
  rw [put_new]
  · unfold thK; rw [List.map_append]; rfl
  · intro kv hk e
    unfold thK at hk
    obtain ⟨x, hx, rfl⟩ := List.mem_map.mp hk
    have : (x : Int) = (w : Int) := by simpa using e
    exact h (by rw [← show x = w by omega]; exact hx)
theorem thK_drop (th : List Nat) (w : Nat) : dropP (thK th) (.inl (w : Int)) = thK (th.filter fun x => decide (x ≠ w)) := by
  unfold dropP thK
  rw [List.filter_map]
  congr 1
  refine List.filter_congr fun x _ => ?_
  simp only [Function.comp]
  by_cases h : x = w
  · subst h; simp
  · have : (Sum.inl (x : Int) : Key) ≠ .inl (w : Int) := by simp; omega
    simp [h]; omega
def tms (N : Nat) (dn : Nat → Nat) : List Int := (List.range N).map fun (w : Nat) => (dn w : Int)
theorem tms_len (N : Nat) (dn : Nat → Nat) : (tms N dn).length = N := by simp [tms]
theorem tms_get {N : Nat} {dn : Nat → Nat} {w : Nat} (h : w < N) : (tms N dn)[w]? = some (dn w : Int) := by
  unfold tms; rw [List.getElem?_map, List.getElem?_range h]; rfl
theorem tms_set {N : Nat} {dn : Nat → Nat} {w : Nat} (h : w < N) : (tms N dn).set w ((dn w : Int) + 1) = tms N fun x => if x = w then dn x + 1 else dn x := by
  apply List.ext_getElem?
  intro i
  by_cases hi : i < N
  · rw [tms_get hi, List.getElem?_set, tms_len, tms_get hi]
    by_cases e : w = i
    · subst e; simp [h]
    · have : i ≠ w := fun z => e z.symm
      simp [e, this]
  · rw [List.getElem?_eq_none (by rw [List.length_set, tms_len]; omega), List.getElem?_eq_none (by rw [tms_len]; omega)]
theorem ixN_of {n w : Nat} (h : w < n) : ixN n (w : Int) = some w := by
  unfold ixN
  rw [if_pos (by omega), if_pos (by omega)]; simp
def S_walked : LSp := fun xs A Q Z => ∃ (net : List (List Int)) (rooms : Nat) (pl : Addr) (mv : List (Bool × Nat)), xs = [netP net, .int rooms, .ref pl] ∧ A pl = some (.lst (mv.map movP)) ∧ Walk net rooms mv [] (fun _ => 0) 0 ∧ 1 ≤ net.length ∧ net.length ≤ 100000 ∧ mv.length ≤ 100000 ∧ rooms ≤ 100000 ∧ (∀ r ∈ net, r.length < 1000) ∧ Q (.bl true) A
theorem keeps_walked : Keeps Wk.N__law_walked (Wk.T__law_walked S_ismove) S_walked := by
  rintro xs A Q Z ⟨net, rooms, pl, mv, rfl, ga, hw, n0, n1, hm, hr, hrow, k⟩
  unfold Wk.T__law_walked
  show lSeq _ _ _ [some (netP net), some (.int rooms), some (.ref pl), none, none, none, none, none, none, none] _
  walk_at "w"
  refine ⟨by decide, ?_⟩
  rw [ty_l ga]; walk_at "w"
  rw [isi_ll]; walk_at "w"
  refine ifb (fun h => by cases h) (fun _ => ?_)
  walk_at "w"
  rw [ga]; walk_at "w"
  refine comp_map mv movP (fun _ => .bl true) rfl (szl (by omega)) (fun D hD acc => aupd_keep ga hD) (fun D hD i m acc c => ?_) (fun D0 hD0 => ?_)
  · refine lgT_name ?_
    walk_at "w"
    exact ⟨net, m, rfl, hw.all m (List.mem_of_getElem? c.at_), c.yes rfl (.refl _)⟩
  walk_at "w"
  rw [aupd_same]; walk_at "w"
  rw [blsOf_const]; walk_at "w"
  rw [all_rep]; walk_at "w"
  refine ifb (fun h => by cases h) (fun _ => ?_)
  generalize hA0 : aupd A D0 (.lst (mv.map fun _ => PV.bl true)) = A0
  have ga0 : A0 pl = some (.lst (mv.map movP)) := by rw [← hA0]; exact aupd_keep ga hD0
  have s0 : Sub A A0 := by rw [← hA0]; exact (Sub.refl _).upd hD0
  walk_at "w"
  intro pt hpt
  walk_at "w"
  refine ⟨szle (by simp), fun p1 hp1 => ?_⟩
  walk_at "w"
  rw [aupd_same]; walk_at "w"
  refine ⟨⟨by omega, by simp; omega, szle (by simp; omega)⟩, fun pm hpm => ?_⟩
  rw [flat_one]
  have etm : List.replicate (((net.map rowP).length : Int)).toNat (PV.int 0) = (tms net.length fun _ => 0).map .int := by
    rw [List.length_map, Int.toNat_natCast]
    unfold tms
    rw [List.map_map]
    apply List.ext_getElem?
    intro i
    by_cases hi : i < net.length
    · rw [List.getElem?_map, List.getElem?_range hi, List.getElem?_replicate, if_pos hi]; rfl
    · rw [List.getElem?_eq_none (by simp; omega), List.getElem?_eq_none (by simp; omega)]
  rw [etm]
  generalize hA1 : aupd (aupd A0 pt (.dK [])) p1 (.lst [PV.int 0]) = A1 at hpm ⊢
  have gt1 : A1 pt = some (.dK []) := by rw [← hA1]; exact aupd_keep aupd_same hp1
  have hne : pt ≠ pm := ane gt1 hpm
  have ga1 : A1 pl = some (.lst (mv.map movP)) := by rw [← hA1]; exact aupd_keep (aupd_keep ga0 hpt) hp1
  have npt : pl ≠ pt := ane ga0 hpt
  have npm : pl ≠ pm := ane ga1 hpm
  have s1 : Sub A A1 := by rw [← hA1]; exact (s0.trans ((Sub.refl _).upd hpt)).trans ((Sub.refl _).upd hp1)
  walk_at "w"
  rw [aupd_keep ga1 hpm]; walk_at "w"
  refine ⟨fun i s A' => ∃ th dn most, i ≤ mv.length ∧ s = [some (netP net), some (.int rooms), some (.ref pl), none, some (.ref pt), some (.ref pm), some (.int (most : Nat)), none, none, none] ∧ A' = aupd (aupd A1 pm (.lst ((tms net.length dn).map .int))) pt (.dK (thK th)) ∧ th.length ≤ i ∧ Walk net rooms (mv.drop i) th dn most, ⟨[], fun _ => 0, 0, by omega, rfl, ?_, by simp, by simpa using hw⟩, ?_⟩
  · rw [aupd_comm (Ne.symm hne)]
    have : aupd A1 pt (.dK (thK [])) = A1 := aupd_self gt1
    rw [this]
  rintro i s A' ⟨th, dn, most, hi, rfl, rfl, hth, hwk⟩
  have gpl : ∀ u v, aupd (aupd A1 pm u) pt v pl = some (.lst (mv.map movP)) := fun u v => by rw [aupd_ne npt, aupd_ne npm]; exact ga1
  have gpm : ∀ u v, aupd (aupd A1 pm u) pt v pm = some u := fun u v => by rw [aupd_ne (Ne.symm hne), aupd_same]
  refine ⟨gpl _ _, fun e => ?_, fun x hx => ?_⟩
  · rw [List.length_map] at e
    subst e
    rw [List.drop_length] at hwk
    obtain ⟨w1, w2, w3⟩ := hwk
    have hlast : (((net.map rowP).length : Int) - 1) = ((net.length - 1 : Nat) : Int) := by simp; omega
    walk_at "w"
    rw [aupd_same]; walk_at "w"
    rw [hlast, thK_val, if_pos w1]
    refine ifb (fun _ => ?_) (fun h => by cases h)
    walk_at "w"
    refine ⟨szle (by simp), fun p5 hp5 => ?_⟩
    walk_at "w"
    rw [aupd_same]; walk_at "w"
    refine ⟨⟨by omega, by simp; omega, szle (by simp; omega)⟩, fun p6 hp6 => ?_⟩
    rw [flat_one]
    have eones : List.replicate (((net.map rowP).length : Int)).toNat (PV.int 1) = (List.replicate net.length (1 : Int)).map .int := by
      rw [List.length_map, Int.toNat_natCast, List.map_replicate]
    rw [eones]
    refine eqK_ll (xs := tms net.length dn) (ys := List.replicate net.length 1) (aupd_keep (aupd_keep (gpm _ _) hp5) hp6) aupd_same ?_
    have eone : tms net.length dn = List.replicate net.length 1 := by
      apply List.ext_getElem?
      intro j
      by_cases hj : j < net.length
      · rw [tms_get hj, List.getElem?_replicate, if_pos hj, w2 j hj]; rfl
      · rw [List.getElem?_eq_none (by rw [tms_len]; omega), List.getElem?_eq_none (by simp; omega)]
    rw [decide_eq_true eone]
    walk_at "w"
    refine ifb (fun _ => ?_) (fun h => by cases h)
    walk_at "w"
    rw [w3, decide_eq_true rfl]
    refine ⟨A, ?_, k⟩
    have hpmA : A pm = none := none_of s1 hpm
    have s2 : Sub A (aupd (aupd A1 pm (.lst ((tms net.length dn).map .int))) pt (.dK (thK th))) := by
      have hptA : A pt = none := none_of s0 hpt
      exact (s1.upd hpmA).upd hptA
    exact (s2.trans ((Sub.refl _).upd hp5)).trans ((Sub.refl _).upd hp6)
  rw [List.getElem?_map] at hx
  obtain ⟨⟨b, w⟩, hmi, rfl⟩ := Option.map_eq_some_iff.mp hx
  have hil : i < mv.length := (List.getElem?_eq_some_iff.mp hmi).1
  have edrop : mv.drop i = (b, w) :: mv.drop (i + 1) := by
    rw [List.drop_eq_getElem_cons hil]
    have := (List.getElem?_eq_some_iff.mp hmi).2
    rw [this]
  rw [edrop] at hwk
  refine lgT_two_name ?_
  cases b with
  | false =>
    obtain ⟨h1, h2, h3⟩ := hwk
    walk_at "w"
    refine ifb (fun _ => ?_) (fun h => by cases h)
    walk_at "w"
    rw [aupd_same]; walk_at "w"
    rw [thK_val, if_pos h1]
    refine ifb (fun h => by cases h) (fun _ => ?_)
    walk_at "w"
    refine m_d (A := aupd _ pt _) aupd_same rfl ?_; walk_at "w"
    rw [aupd_same]; walk_at "w"
    rw [thK_val, if_pos h1]; walk_at "w"
    rw [thK_drop, aupd_aupd]
    refine ⟨_, _, .cons (.cons (.cons (.none (.cons (.cons (.cons (.none (.none (.none .nil))))))))), .refl _, _, dn, most, by omega, rfl, rfl, ?_, h3⟩
    have := List.length_filter_le (fun x => decide (x ≠ w)) th
    omega
  | true =>
    obtain ⟨h1, h2, h3, h4, h5⟩ := hwk
    obtain ⟨row, hrw⟩ : ∃ row, net[w]? = some row := ⟨net[w], List.getElem?_eq_getElem h1⟩
    have hrl := hrow row (List.mem_of_getElem? hrw)
    have hin := h4 row hrw
    walk_at "w"
    refine ifb (fun h => by cases h) (fun _ => ?_)
    walk_at "w"
    rw [aupd_same]; walk_at "w"
    rw [thK_val, if_neg h2]
    refine ifb (fun h => by cases h) (fun _ => ?_)
    walk_at "w"
    rw [aupd_same]; walk_at "w"
    have elen : (thK th).length = th.length := by simp [thK]
    rw [elen]
    refine ifd (fun h => absurd h (by omega)) (fun _ => ?_)
    walk_at "w"
    rw [atI_map (atI_of (x := row) (by omega) (by rw [Int.toNat_natCast]; exact hrw))]; walk_at "w"
    refine comp_map row PV.int (fun _ => .bl true) rfl (szl (by omega)) (fun _ _ _ => trivial) (fun D hD q n acc c => ?_) (fun D hD => ?_)
    · refine lgT_name ?_
      obtain ⟨cc, rfl, hcc⟩ := hin n (List.mem_of_getElem? c.at_)
      walk_at "w"
      rw [aupd_keep aupd_same hD]; walk_at "w"
      rw [thK_val, if_pos hcc]
      exact c.yes rfl (.refl _)
    walk_at "w"
    rw [aupd_same]; walk_at "w"
    rw [blsOf_const]; walk_at "w"
    rw [all_rep]; walk_at "w"
    refine ifb (fun h => by cases h) (fun _ => ?_)
    walk_at "w"
    rw [aupd_keep aupd_same hD]; walk_at "w"
    refine ⟨by rw [elen]; exact szl (by omega), ?_⟩
    rw [thK_put h2]
    generalize hX : aupd (aupd A1 pm (.lst ((tms net.length dn).map .int))) pt (.dK (thK th)) = X1 at hD ⊢
    have gX : X1 pm = some (.lst ((tms net.length dn).map .int)) := by rw [← hX]; exact gpm _ _
    have gXt : X1 pt = some (.dK (thK th)) := by rw [← hX]; exact aupd_same
    have hDt : D ≠ pt := Ne.symm (ane gXt hD)
    have hDm : D ≠ pm := Ne.symm (ane gX hD)
    walk_at "w"
    rw [aupd_ne (Ne.symm hne), aupd_keep gX hD]; walk_at "w"
    rw [atI_map (atI_of (x := (dn w : Int)) (by omega) (by rw [Int.toNat_natCast]; exact tms_get h1))]; walk_at "w"
    rw [aupd_ne (Ne.symm hne), aupd_keep gX hD]; walk_at "w"
    rw [List.length_map, tms_len, ixN_of h1]; walk_at "w"
    have eset : ((tms net.length dn).map PV.int).set w (.int ((dn w : Int) + 1)) = (tms net.length fun x => if x = w then dn x + 1 else dn x).map .int := by rw [← List.map_set, tms_set h1]
    rw [eset]
    walk_at "w"
    rw [aupd_ne hne, aupd_same]; walk_at "w"
    have elen2 : (thK (th ++ [w])).length = th.length + 1 := by simp [thK]
    rw [elen2]
    have emx : (if ((th.length + 1 : Nat) : Int) > (most : Nat) then ((th.length + 1 : Nat) : Int) else (most : Nat)) = ((max most (th.length + 1) : Nat) : Int) := by split <;> omega
    rw [emx]
    refine ⟨_, aupd (aupd A1 pm (.lst ((tms net.length fun x => if x = w then dn x + 1 else dn x).map .int))) pt (.dK (thK (th ++ [w]))), .cons (.cons (.cons (.none (.cons (.cons (.cons (.none (.none (.none .nil))))))))), ?_, _, _, _, by omega, rfl, rfl, by simp; omega, h5⟩
    have s5 : Sub X1 (aupd X1 D (.lst (row.map fun _ => PV.bl true))) := (Sub.refl _).upd hD
    have s6 := (s5.up (a := pt) (o := .dK (thK (th ++ [w])))).up (a := pm) (o := .lst ((tms net.length fun x => if x = w then dn x + 1 else dn x).map .int))
    rw [← hX, aupd_aupd, aupd_comm hne, aupd_aupd] at s6
    rw [← hX]
    exact s6
end Lf
namespace Lf
open PySem PySem.Spec L2
open PyProof.Rows hiding St
/-! ### plans that take the works one behind another and let the oldest go -/
def Need (o : Nat → Nat) (net : List (List Int)) (a b : Nat) : Prop := ∀ row, net[o b]? = some row → ∀ n ∈ row, ∃ c : Nat, a ≤ c ∧ c < b ∧ n = (o c : Int)
inductive FW (o : Nat → Nat) (N : Nat) (net : List (List Int)) (rooms : Nat) : List (Bool × Nat) → Nat → Nat → Nat → Nat → Nat → Nat → Prop
  | nil {a b m : Nat} : FW o N net rooms [] a b m a b m
  | dow {r : List (Bool × Nat)} {a b m a' b' m' : Nat} : a ≤ b → b < N → b - a < rooms → Need o net a b → FW o N net rooms r a (b + 1) (max m (b - a + 1)) a' b' m' → FW o N net rooms ((true, o b) :: r) a b m a' b' m'
  | clr {r : List (Bool × Nat)} {a b m a' b' m' : Nat} : a < b → FW o N net rooms r (a + 1) b m a' b' m' → FW o N net rooms ((false, o a) :: r) a b m a' b' m'
section
variable {o : Nat → Nat} {N : Nat} {net : List (List Int)} {rooms : Nat}
theorem FW.app {x y : List (Bool × Nat)} {a b m a1 b1 m1 a2 b2 m2 : Nat} (h : FW o N net rooms x a b m a1 b1 m1) (g : FW o N net rooms y a1 b1 m1 a2 b2 m2) : FW o N net rooms (x ++ y) a b m a2 b2 m2 := by
  induction h with
  | nil => exact g
  | dow h1 h2 h3 h4 _ ih => exact .dow h1 h2 h3 h4 (ih g)
  | clr h1 _ ih => exact .clr h1 (ih g)
def win (o : Nat → Nat) (a b : Nat) : List Nat := (List.range' a (b - a)).map o
theorem win_mem {a b w : Nat} : w ∈ win o a b ↔ ∃ c, a ≤ c ∧ c < b ∧ w = o c := by
  unfold win
  rw [List.mem_map]
  constructor
  · rintro ⟨c, hc, rfl⟩
    rw [List.mem_range'_1] at hc
    exact ⟨c, by omega, by omega, rfl⟩
  · rintro ⟨c, h1, h2, rfl⟩
    exact ⟨c, by rw [List.mem_range'_1]; omega, rfl⟩
theorem win_len (a b : Nat) : (win o a b).length = b - a := by simp [win]
theorem win_do {a b : Nat} (h : a ≤ b) : win o a b ++ [o b] = win o a (b + 1) := by
  unfold win
  rw [show b + 1 - a = (b - a) + 1 by omega, List.range'_concat, List.map_append]
  simp
  congr 1; omega
structure Perm1 (o : Nat → Nat) (N : Nat) : Prop where
  inj : ∀ a b, a < N → b < N → o a = o b → a = b
  low : ∀ a, a < N → o a < N
  sur : ∀ w, w < N → ∃ c, c < N ∧ o c = w
theorem win_clr (P : Perm1 o N) {a b : Nat} (h : a < b) (hb : b ≤ N) : ((win o a b).filter fun x => decide (x ≠ o a)) = win o (a + 1) b := by
  have e : win o a b = o a :: win o (a + 1) b := by
    unfold win
    rw [show b - a = (b - (a + 1)) + 1 by omega, List.range'_succ, List.map_cons]
  rw [e, List.filter_cons]
  simp only [ne_eq, not_true_eq_false, decide_false, Bool.false_eq_true, if_false]
  rw [List.filter_eq_self]
  intro x hx
  obtain ⟨c, h1, h2, rfl⟩ := win_mem.mp hx
  refine decide_eq_true fun e => ?_
  have := P.inj c a (by omega) (by omega) e
  omega
def dnOf (o : Nat → Nat) (b : Nat) : Nat → Nat := fun x => if (List.range b).any (fun c => decide (o c = x)) = true then 1 else 0
theorem dnOf_succ (P : Perm1 o N) {b : Nat} (hb : b < N) : (fun x => if x = o b then dnOf o b x + 1 else dnOf o b x) = dnOf o (b + 1) := by
  funext x
  unfold dnOf
  rw [List.range_succ, List.any_append]
  by_cases h : x = o b
  · subst h
    have h0 : (List.range b).any (fun c => decide (o c = o b)) = false := by
      rw [List.any_eq_false]
      intro c hc
      have hc := List.mem_range.mp hc
      simp only [decide_eq_true_eq]
      intro e
      have := P.inj c b (by omega) hb e
      omega
    simp [h0]
  · have : ¬ o b = x := fun e => h e.symm
    simp [h, this]
theorem walk_of (P : Perm1 o N) (hN : net.length = N) : ∀ {mv : List (Bool × Nat)} {a b m a' b' m' : Nat}, FW o N net rooms mv a b m a' b' m' → b ≤ N → b' = N → m' = rooms → (∃ c, a' ≤ c ∧ c < N ∧ o c = N - 1) → Walk net rooms mv (win o a b) (dnOf o b) m := by
  intro mv a b m a' b' m' h
  induction h with
  | nil =>
    intro _ e1 e2 ⟨c, c1, c2, c3⟩
    refine ⟨?_, fun w hw => ?_, e2⟩
    · rw [hN, ← c3]; exact win_mem.mpr ⟨c, c1, by omega, rfl⟩
    · obtain ⟨d, hd, e⟩ := P.sur w (by omega)
      unfold dnOf
      rw [if_pos]
      rw [List.any_eq_true]
      exact ⟨d, List.mem_range.mpr (by omega), decide_eq_true e⟩
  | @dow r a b m a' b' m' h1 h2 h3 h4 _ ih =>
    intro hb e1 e2 e3
    refine ⟨by rw [hN]; exact P.low b h2, fun hm => ?_, by rw [win_len]; exact h3, fun row hr n hn => ?_, ?_⟩
    · obtain ⟨c, c1, c2, c3⟩ := win_mem.mp hm
      have := P.inj b c h2 (by omega) c3
      omega
    · obtain ⟨c, c1, c2, c3⟩ := h4 row hr n hn
      exact ⟨o c, c3, win_mem.mpr ⟨c, c1, c2, rfl⟩⟩
    · rw [win_do h1, win_len, dnOf_succ P h2]
      exact ih (by omega) e1 e2 e3
  | @clr r a b m a' b' m' h1 _ ih =>
    intro hb e1 e2 e3
    refine ⟨win_mem.mpr ⟨a, by omega, h1, rfl⟩, by rw [hN]; exact P.low a (by omega), ?_⟩
    rw [win_clr P h1 hb]
    exact ih hb e1 e2 e3
theorem walk_start (P : Perm1 o N) (hN : net.length = N) {mv : List (Bool × Nat)} {a' : Nat} (h : FW o N net rooms mv 0 0 0 a' N rooms) (hl : ∃ c, a' ≤ c ∧ c < N ∧ o c = N - 1) : Walk net rooms mv [] (fun _ => 0) 0 := by
  have := walk_of P hN h (by omega) rfl rfl hl
  exact this
/-- rows and squares -/
theorem row_fw {back : Nat} (hr : rooms = min N (back + 1)) (hn : ∀ t, t < N → Need o net (t - back) t) : ∀ t, t ≤ N → FW o N net rooms (rowM o back t) 0 0 0 (t - back) t (min t (back + 1))
  | 0, _ => by
    have e : (0 : Nat) - back = 0 := by omega
    have e2 : min 0 (back + 1) = 0 := by omega
    rw [e, e2]; exact .nil
  | t + 1, h => by
    have ih := row_fw hr hn t (by omega)
    unfold rowM
    refine ih.app ?_
    refine .dow (by omega) (by omega) (by omega) (hn t (by omega)) ?_
    have em : max (min t (back + 1)) (t - (t - back) + 1) = min (t + 1) (back + 1) := by omega
    rw [em]
    by_cases hb : back ≤ t
    · rw [if_pos hb]
      have e : t + 1 - back = t - back + 1 := by omega
      rw [e]
      exact .clr (by omega) .nil
    · rw [if_neg hb]
      have e : t + 1 - back = t - back := by omega
      rw [e]; exact .nil
theorem perm_id (N : Nat) : Perm1 id N := ⟨fun _ _ _ _ e => e, fun _ h => h, fun w h => ⟨w, h, rfl⟩⟩
end
theorem rgI_mem {a b n : Int} : n ∈ rgI a b ↔ a ≤ n ∧ n < b := by
  unfold rgI
  rw [List.mem_map]
  constructor
  · rintro ⟨i, hi, rfl⟩
    have := List.mem_range.mp hi; omega
  · rintro ⟨h1, h2⟩
    exact ⟨(n - a).toNat, List.mem_range.mpr (by omega), by omega⟩
theorem row_walk {n back : Nat} (hn : 1 ≤ n) (hb : 1 ≤ back) : Walk (rowN n back) (min n (back + 1)) (rowM id back n) [] (fun _ => 0) 0 := by
  have hN : (rowN n back).length = n := by simp [rowN]
  have h := row_fw (o := id) (N := n) (net := rowN n back) (back := back) rfl (fun t ht row hr x hx => by
    unfold rowN at hr
    simp only [id] at hr
    rw [List.getElem?_map, List.getElem?_range ht] at hr
    have hr := Option.some.inj hr
    subst hr
    have := rgI_mem.mp hx
    refine ⟨x.toNat, ?_, ?_, ?_⟩
    · split at this <;> omega
    · omega
    · simp only [id]; split at this <;> omega) n (Nat.le_refl n)
  have e : min n (back + 1) = min n (back + 1) := rfl
  exact walk_start (perm_id n) hN h ⟨n - 1, by omega, by omega, rfl⟩
theorem div_add {n i j : Nat} (h : i < n) : (n * j + i) / n = j := by rw [Nat.mul_add_div (by omega), Nat.div_eq_of_lt h]; rfl
theorem mod_add {n i j : Nat} (h : i < n) : (n * j + i) % n = i := by rw [Nat.mul_add_mod]; exact Nat.mod_eq_of_lt h
theorem sqN_len (n m : Nat) : (sqN n m).length = n * m := by simp [sqN]
theorem sqN_get {n m w : Nat} (h : w < n * m) : (sqN n m)[w]? = some (sqNeeds (w / m) (w % m) m) := by
  unfold sqN; rw [List.getElem?_map, List.getElem?_range h]; rfl
theorem sq_mem {i j m : Nat} {x : Int} (h : x ∈ sqNeeds i j m) : (0 < i ∧ x = ((i : Int) - 1) * m + j) ∨ (0 < j ∧ x = (i : Int) * m + j - 1) := by
  unfold sqNeeds at h
  rcases List.mem_append.mp h with h | h
  · split at h
    · simp at h; exact .inl ⟨by assumption, h⟩
    · simp at h
  · split at h
    · simp at h; exact .inr ⟨by assumption, h⟩
    · simp at h
theorem sq_walk {n m : Nat} (hn : 1 ≤ n) (hm : 1 ≤ m) : Walk (sqN n m) (sqRooms n m) (sqMv n m) [] (fun _ => 0) 0 := by
  unfold sqMv sqO
  have hpos : 1 ≤ n * m := Nat.mul_pos hn hm
  by_cases h : m ≤ n
  · rw [if_pos h, Nat.min_eq_right h]
    have hroom : sqRooms n m = min (n * m) (m + 1) := by
      unfold sqRooms
      split
      · rename_i q; obtain ⟨rfl, rfl⟩ := q; rfl
      · rename_i q
        have h2 : 2 ≤ n := by
          by_cases e : n = 1
          · exact absurd ⟨e, by omega⟩ q
          · omega
        have : 2 * m ≤ n * m := Nat.mul_le_mul_right m h2
        omega
    rw [hroom]
    have hf := row_fw (o := id) (N := n * m) (net := sqN n m) (back := m) rfl (fun t ht row hr x hx => by
      simp only [id] at hr
      rw [sqN_get ht] at hr
      have hr := Option.some.inj hr
      subst hr
      have ht2 : m * (t / m) + t % m = t := Nat.div_add_mod t m
      have hmod : t % m < m := Nat.mod_lt _ (by omega)
      rcases sq_mem hx with ⟨h1, rfl⟩ | ⟨h1, rfl⟩
      · refine ⟨t - m, by omega, ?_, ?_⟩
        · have : m * 1 ≤ m * (t / m) := Nat.mul_le_mul_left m h1
          omega
        · simp only [id]
          have h3 : m * 1 ≤ m * (t / m) := Nat.mul_le_mul_left m h1
          have e : ((t / m : Nat) : Int) * m = ((m * (t / m) : Nat) : Int) := by rw [Int.natCast_mul, Int.mul_comm]
          rw [Int.sub_mul, e]; omega
      · refine ⟨t - 1, by omega, by omega, ?_⟩
        simp only [id]
        have e : ((t / m : Nat) : Int) * m = ((m * (t / m) : Nat) : Int) := by rw [Int.natCast_mul, Int.mul_comm]
        rw [e]; omega) (n * m) (Nat.le_refl _)
    exact walk_start (perm_id _) (sqN_len n m) hf ⟨n * m - 1, by omega, by omega, rfl⟩
  · rw [if_neg h, Nat.min_eq_left (by omega)]
    have hroom : sqRooms n m = min (n * m) (n + 1) := by
      unfold sqRooms
      rw [if_neg (by omega)]
      have : n * 2 ≤ n * m := Nat.mul_le_mul_left n (by omega)
      omega
    rw [hroom]
    have ho : ∀ i j, i < n → (fun t => (t % n) * m + t / n) (n * j + i) = i * m + j := fun i j hi => by
      dsimp only
      rw [mod_add hi, div_add hi]
    have dec : ∀ t, t < n * m → ∃ i j, i < n ∧ j < m ∧ t = n * j + i := fun t ht => ⟨t % n, t / n, Nat.mod_lt _ (by omega), Nat.div_lt_of_lt_mul ht, (Nat.div_add_mod t n).symm⟩
    have dm : ∀ i j, j < m → (i * m + j) / m = i ∧ (i * m + j) % m = j := fun i j hj => by
      rw [Nat.mul_comm]; exact ⟨div_add hj, mod_add hj⟩
    have lowb : ∀ i j, i < n → j < m → i * m + j < n * m := fun i j hi hj => by
      have : (i + 1) * m ≤ n * m := Nat.mul_le_mul_right m hi
      rw [Nat.succ_mul] at this; omega
    have P : Perm1 (fun t => (t % n) * m + t / n) (n * m) := by
      refine ⟨fun a b ha hb e => ?_, fun a ha => ?_, fun w hw => ?_⟩
      · obtain ⟨i, j, hi, hj, rfl⟩ := dec a ha
        obtain ⟨i2, j2, hi2, hj2, rfl⟩ := dec b hb
        have e1 := ho i j hi
        have e2 := ho i2 j2 hi2
        have e3 : i * m + j = i2 * m + j2 := e1.symm.trans (e.trans e2)
        have q1 := dm i j hj
        have q2 := dm i2 j2 hj2
        rw [e3] at q1
        have : i = i2 := q1.1.symm.trans q2.1
        have : j = j2 := q1.2.symm.trans q2.2
        subst i2; subst j2; rfl
      · obtain ⟨i, j, hi, hj, rfl⟩ := dec a ha
        have q : (n * j + i) % n * m + (n * j + i) / n = i * m + j := ho i j hi
        show (n * j + i) % n * m + (n * j + i) / n < n * m
        rw [q]; exact lowb i j hi hj
      · have hj : w % m < m := Nat.mod_lt _ (by omega)
        have hi : w / m < n := Nat.div_lt_of_lt_mul (by rw [Nat.mul_comm]; exact hw)
        refine ⟨n * (w % m) + w / m, ?_, ?_⟩
        · have : n * (w % m + 1) ≤ n * m := Nat.mul_le_mul_left n hj
          rw [Nat.mul_succ] at this; omega
        · have q : (n * (w % m) + w / m) % n * m + (n * (w % m) + w / m) / n = (w / m) * m + w % m := ho _ _ hi
          show (n * (w % m) + w / m) % n * m + (n * (w % m) + w / m) / n = w
          rw [q, Nat.mul_comm]; exact Nat.div_add_mod w m
    have hf := row_fw (o := fun t => (t % n) * m + t / n) (N := n * m) (net := sqN n m) (back := n) rfl (fun t ht row hr x hx => by
      obtain ⟨i, j, hi, hj, rfl⟩ := dec t ht
      rw [ho i j hi, sqN_get (lowb i j hi hj), (dm i j hj).1, (dm i j hj).2] at hr
      have hr := Option.some.inj hr
      subst hr
      rcases sq_mem hx with ⟨h1, rfl⟩ | ⟨h1, rfl⟩
      · refine ⟨n * j + (i - 1), by omega, by omega, ?_⟩
        rw [ho (i - 1) j (by omega)]
        have e : (i : Int) - 1 = ((i - 1 : Nat) : Int) := by omega
        rw [e]; simp
      · have e0 : n * j = n * (j - 1) + n := by
          have : j = (j - 1) + 1 := by omega
          conv => lhs; rw [this, Nat.mul_succ]
        refine ⟨n * (j - 1) + i, by omega, by omega, ?_⟩
        rw [ho i (j - 1) hi]
        have e : ((i * m + (j - 1) : Nat) : Int) = (i : Int) * m + ((j - 1 : Nat) : Int) := by simp
        rw [e]; omega) (n * m) (Nat.le_refl _)
    refine walk_start P (sqN_len n m) hf ⟨n * m - 1, by omega, by omega, ?_⟩
    have e : n * m - 1 = n * (m - 1) + (n - 1) := by
      have : m = (m - 1) + 1 := by omega
      conv => lhs; rw [this, Nat.mul_succ]
      omega
    have q : (n * (m - 1) + (n - 1)) % n * m + (n * (m - 1) + (n - 1)) / n = (n - 1) * m + (m - 1) := ho (n - 1) (m - 1) (by omega)
    show (n * m - 1) % n * m + (n * m - 1) / n = n * m - 1
    have e2 : n * m = (n - 1) * m + m := by
      have : n = (n - 1) + 1 := by omega
      conv => lhs; rw [this, Nat.succ_mul]
    rw [← e] at q
    rw [q]; omega
end Lf
namespace Lf
open PySem PySem.Spec L2
open PyProof.Rows hiding St
theorem Bg_s (n r : Nat) : Bg n (r + 1) = Bg n r + (n - r) := rfl
theorem Bg_mono (n : Nat) {r s : Nat} (h : r ≤ s) : Bg n r ≤ Bg n s := by
  induction s with
  | zero => have : r = 0 := by omega
            subst this; omega
  | succ s ih =>
    by_cases e : r = s + 1
    · subst e; omega
    · have := ih (by omega)
      rw [Bg_s]; omega
theorem stepR_eq (n : Nat) : ∀ r, n + (stepR n r).length = Bg n (r + 1)
  | 0 => by rw [Bg_s]; simp [stepR, Bg]
  | r + 1 => by
    have := stepR_eq n r
    have h2 := Bg_s n (r + 1)
    unfold stepR
    rw [List.length_append, List.length_map, List.length_range]; omega
theorem stepN_len {n : Nat} (h : 1 ≤ n) : (stepN n).length = Bg n n := by
  unfold stepN
  rw [List.length_append, List.length_replicate, stepR_eq, show n - 1 + 1 = n by omega]
theorem stepR_pre (n : Nat) {r s : Nat} (h : r ≤ s) : ∃ l, stepR n s = stepR n r ++ l := by
  induction s with
  | zero => have : r = 0 := by omega
            subst this; exact ⟨[], by simp⟩
  | succ s ih =>
    by_cases e : r = s + 1
    · subst e; exact ⟨[], by simp⟩
    · obtain ⟨l, hl⟩ := ih (by omega)
      have e2 : stepR n (s + 1) = stepR n s ++ (List.range (n - (s + 1))).map fun (k : Nat) => [(Bg n s : Int) + k, (Bg n s : Int) + k + 1] := rfl
      exact ⟨_, by rw [e2, hl, List.append_assoc]⟩
theorem stepN_get0 {n k : Nat} (h : k < n) : (stepN n)[k]? = some [] := by
  unfold stepN
  rw [List.getElem?_append_left (by simp; exact h), List.getElem?_replicate, if_pos h]
theorem stepN_get {n r k : Nat} (hr : r + 1 ≤ n - 1) (hk : k < n - (r + 1)) : (stepN n)[Bg n (r + 1) + k]? = some [(Bg n r : Int) + k, (Bg n r : Int) + k + 1] := by
  obtain ⟨l, hl⟩ := stepR_pre n hr
  unfold stepN
  rw [hl]
  have e2 : stepR n (r + 1) = stepR n r ++ (List.range (n - (r + 1))).map fun (k : Nat) => [(Bg n r : Int) + k, (Bg n r : Int) + k + 1] := rfl
  have e3 := stepR_eq n r
  rw [e2, ← List.append_assoc, ← List.append_assoc, List.getElem?_append_left (by simp; omega), List.getElem?_append_right (by simp; omega)]
  have e4 : Bg n (r + 1) + k - (List.replicate n ([] : List Int) ++ stepR n r).length = k := by rw [List.length_append, List.length_replicate]; omega
  rw [e4, List.getElem?_map, List.getElem?_range hk]; rfl
section
variable {n : Nat}
theorem first_fw (h : 1 ≤ n) : ∀ k, k ≤ n → FW id (Bg n n) (stepN n) (stepRooms n) ((List.range k).map fun w => (true, w)) 0 0 0 0 k k
  | 0, _ => .nil
  | k + 1, hk => by
    rw [List.range_succ, List.map_append]
    refine (first_fw h k (by omega)).app ?_
    have hb : n ≤ Bg n n := by
      have : Bg n 1 ≤ Bg n n := Bg_mono n h
      rw [Bg_s] at this; simp [Bg] at this; omega
    have hrooms : k < stepRooms n := by unfold stepRooms; split <;> omega
    have e : max k (k - 0 + 1) = k + 1 := by omega
    refine .dow (o := id) (by omega) (by omega) (by omega) (fun row hr x hx => ?_) (by rw [e]; exact .nil)
    simp only [id] at hr
    rw [stepN_get0 (by omega)] at hr
    have hr := Option.some.inj hr
    subst hr
    simp at hx
theorem stepK_fw {r m : Nat} (hr : r + 1 ≤ n - 1) (hm : n ≤ m) (hm2 : m ≤ n + 1) : ∀ k, k ≤ n - (r + 1) → FW id (Bg n n) (stepN n) (stepRooms n) (stepK n (r + 1) k) (Bg n r) (Bg n (r + 1)) m (Bg n r + k) (Bg n (r + 1) + k) (if k = 0 then m else max m (n - r + 1))
  | 0, _ => .nil
  | k + 1, hk => by
    have ih := stepK_fw hr hm hm2 k (by omega)
    unfold stepK
    refine ih.app ?_
    have hB := Bg_s n r
    have hB2 : Bg n (r + 1 + 1) ≤ Bg n n := Bg_mono n (by omega)
    have hB3 := Bg_s n (r + 1)
    have hrooms : stepRooms n = n + 1 := by unfold stepRooms; rw [if_neg (by omega)]
    refine .dow (o := id) (by omega) (by omega) (by omega) (fun row hrw x hx => ?_) ?_
    · simp only [id] at hrw
      rw [stepN_get hr (by omega)] at hrw
      have hrw := Option.some.inj hrw
      subst hrw
      simp at hx
      rcases hx with rfl | rfl
      · exact ⟨Bg n r + k, by omega, by omega, by simp only [id]; omega⟩
      · exact ⟨Bg n r + k + 1, by omega, by omega, by simp only [id]; omega⟩
    · have e : max (if k = 0 then m else max m (n - r + 1)) (Bg n (r + 1) + k - (Bg n r + k) + 1) = if k + 1 = 0 then m else max m (n - r + 1) := by
        rw [if_neg (show ¬ k + 1 = 0 by omega)]; split <;> omega
      rw [e]
      have e2 : Bg n (r + 1) + k + 1 = Bg n (r + 1) + (k + 1) := by omega
      have e3 : Bg n r + (k + 1) = Bg n r + k + 1 := by omega
      rw [e2, e3]
      exact .clr (o := id) (a := Bg n r + k) (by omega) .nil
theorem stepT_fw : ∀ r, r ≤ n - 1 → 1 ≤ n → FW id (Bg n n) (stepN n) (stepRooms n) (stepT n r) 0 n n (Bg n r) (Bg n (r + 1)) (if r = 0 then n else n + 1)
  | 0, _, _ => by
    have e : Bg n (0 + 1) = n := by rw [Bg_s]; simp [Bg]
    rw [e]; exact .nil
  | r + 1, hr, h1 => by
    have ih := stepT_fw r (by omega) h1
    unfold stepT
    refine (ih.app (stepK_fw (m := if r = 0 then n else n + 1) hr (by split <;> omega) (by split <;> omega) (n - (r + 1)) (Nat.le_refl _))).app ?_
    have hB := Bg_s n r
    have hB2 := Bg_s n (r + 1)
    have em : (if n - (r + 1) = 0 then (if r = 0 then n else n + 1) else max (if r = 0 then n else n + 1) (n - r + 1)) = if r + 1 = 0 then n else n + 1 := by
      rw [if_neg (show ¬ n - (r + 1) = 0 by omega), if_neg (show ¬ r + 1 = 0 by omega)]; split <;> omega
    rw [em]
    have e1 : Bg n (r + 1) - 1 = id (Bg n r + (n - (r + 1))) := by simp only [id]; omega
    rw [e1]
    have e2 : Bg n (r + 1) = Bg n r + (n - (r + 1)) + 1 := by omega
    have e3 : Bg n (r + 1 + 1) = Bg n (r + 1) + (n - (r + 1)) := hB2
    rw [e3]
    refine .clr (o := id) (a := Bg n r + (n - (r + 1))) (by omega) ?_
    rw [← e2]; exact .nil
theorem step_walk (h : 1 ≤ n) : Walk (stepN n) (stepRooms n) (stepM n) [] (fun _ => 0) 0 := by
  have h1 := (first_fw h n (Nat.le_refl n)).app (stepT_fw (n - 1) (Nat.le_refl _) h)
  have e : n - 1 + 1 = n := by omega
  rw [e] at h1
  have em : (if n - 1 = 0 then n else n + 1) = stepRooms n := by
    unfold stepRooms
    by_cases q : n = 1
    · subst q; rfl
    · rw [if_neg (by omega), if_neg q]
  rw [em] at h1
  have hB := Bg_s n (n - 1)
  rw [e] at hB
  exact walk_start (perm_id _) (stepN_len h) h1 ⟨Bg n n - 1, by omega, by omega, rfl⟩
end
end Lf
namespace Lf
open PySem PySem.Spec L2
open PyProof.Rows hiding St
local macro_rules | `(tactic| walk_at "w") => `(tactic| ((with_reducible (conv => whnf)); (try dsimp only)))
structure Job where
  net : List (List Int)
  rooms : Nat
  mv : List (Bool × Nat)
structure Job.Ok (j : Job) : Prop where
  walk : Walk j.net j.rooms j.mv [] (fun _ => 0) 0
  n0 : 1 ≤ j.net.length
  n1 : j.net.length ≤ 100000
  m : j.mv.length ≤ 100000
  r : j.rooms ≤ 100000
  rows : ∀ r ∈ j.net, r.length < 1000
abbrev jobP (j : Job) : PV := .tup .own [netP j.net, .int j.rooms]
/-- the plans are walked, kept, and spoilt -/
def KP (A : AH) (js : List Job) (ps : List Addr) (pk pn pq : Addr) (i : Nat) (A' : AH) : Prop :=
  Sub A A' ∧ A' pn = some (.lst (js.map jobP)) ∧ A' pq = some (.lst (ps.map .ref)) ∧ (∀ (k : Nat) (p : Addr) (j : Job), i ≤ k → ps[k]? = some p → js[k]? = some j → A' p = some (.lst (j.mv.map movP))) ∧ (∀ p ∈ ps, ∃ l, A' p = some (.lst l)) ∧
    ∃ cs : List Addr, cs.length = i ∧ A' pk = some (.lst (cs.map .ref)) ∧ ∀ (k : Nat) (c : Addr) (j : Job), cs[k]? = some c → js[k]? = some j → A' c = some (.lst (j.mv.map movP)) ∧ c ∉ ps ∧ c ≠ pk
theorem zip_get {xs ys : List PV} {i : Nat} {x : PV} (h : (zipP xs ys)[i]? = some x) : ∃ a b, xs[i]? = some a ∧ ys[i]? = some b ∧ x = .tup .own [a, b] := by
  unfold zipP at h
  rw [List.getElem?_zipWith] at h
  cases ha : xs[i]? with
  | none => rw [ha] at h; simp at h
  | some a =>
    cases hb : ys[i]? with
    | none => rw [ha, hb] at h; simp at h
    | some b =>
      rw [ha, hb] at h
      exact ⟨a, b, rfl, rfl, (Option.some.inj h).symm⟩
structure Dist (A : AH) (ps : List Addr) (pk pn pq : Addr) : Prop where
  kn : pk ≠ pn
  kq : pk ≠ pq
  kp : pk ∉ ps
  np : pn ∉ ps
  qp : pq ∉ ps
  nd : ps.Nodup
  fk : A pk = none
  fp : ∀ p ∈ ps, A p = none
theorem keep_loop {W : LW} {A A1 : AH} {L : LEnds} {n1 n2 n3 n4 n5 v6 : Option PV} {js : List Job} {ps : List Addr} {pk pn pq : Addr} (hl : js.length = ps.length) (hl2 : js.length ≤ 10) (ok : ∀ j ∈ js, j.Ok) (d : Dist A ps pk pn pq) (h0 : KP A js ps pk pn pq 0 A1)
    (fin : ∀ A' v9 v10 v11, KP A js ps pk pn pq js.length A' → L.nx [n1, n2, n3, n4, n5, some (.ref pk), v6, some (.ref pq), some (.ref pn), v9, v10, v11] A') :
    lFor (lZip (lCons (lVar 8) (lCons (lVar 7) lNil))) (lgT (.tup [(.tup [(.name 9), (.name 10)]), (.name 11)]))
  (lSeq (lIfS (lNot (lTruE (lCall W S_walked (lCons (lVar 9) (lCons (lVar 10) (lCons (lVar 11) lNil))))))
  (lRet (lC (.bl false)))
  lNext)
 (lSeq (lDrop (lMeth mAppend (lVar 5) (lCons (lCB lList (lCons (lVar 11) lNil)) lNil)))
 (lSeq (lDrop (lMeth mReverse (lVar 11) lNil))
 (lDrop (lMeth mAppend (lVar 11) (lCons (lTup (lCons (lC (.str "do")) (lCons (lC (.int 0)) lNil))) lNil)))))) L [n1, n2, n3, n4, n5, some (.ref pk), v6, some (.ref pq), some (.ref pn), none, none, none] A1 := by
  have h0' := h0
  obtain ⟨hs, hn, hq, _⟩ := h0
  walk_at "w"
  rw [hn, hq]; walk_at "w"
  refine ⟨fun i s A' => i ≤ js.length ∧ (∃ v9 v10 v11, s = [n1, n2, n3, n4, n5, some (.ref pk), v6, some (.ref pq), some (.ref pn), v9, v10, v11]) ∧ KP A js ps pk pn pq i A', ⟨Nat.zero_le _, ⟨_, _, _, rfl⟩, h0'⟩, ?_⟩
  rintro i s A' ⟨hi, ⟨v9, v10, v11, rfl⟩, hk⟩
  have hk' := hk
  obtain ⟨hs, hn, hq, hp, hpl, cs, hcl, hkk, hc⟩ := hk
  refine ⟨⟨hn, hq⟩, fun e => ?_, fun x hx => ?_⟩
  · rw [zipP_len, List.length_map, List.length_map, ← hl, Nat.min_self] at e
    subst e
    exact fin A' _ _ _ hk'
  obtain ⟨a, b, ha, hb, rfl⟩ := zip_get hx
  rw [List.getElem?_map] at ha hb
  obtain ⟨j, hj, rfl⟩ := Option.map_eq_some_iff.mp ha
  obtain ⟨p, hpi, rfl⟩ := Option.map_eq_some_iff.mp hb
  have hil : i < js.length := (List.getElem?_eq_some_iff.mp hj).1
  have hjm := List.mem_of_getElem? hj
  have hpm := List.mem_of_getElem? hpi
  have gp := hp i p j (Nat.le_refl i) hpi hj
  have jo := ok j hjm
  have hkp : pk ≠ p := fun e => d.kp (e ▸ hpm)
  refine lgT_two (lgT_two_name (lgT_name ?_))
  walk_at "w"
  refine ⟨j.net, j.rooms, p, j.mv, rfl, gp, jo.walk, jo.n0, jo.n1, jo.m, jo.r, jo.rows, ?_⟩
  walk_at "w"
  refine ifb (fun h => by cases h) (fun _ => ?_)
  walk_at "w"
  refine m_l hkk rfl ?_; walk_at "w"
  rw [gp]
  intro c hcn
  have nck : c ≠ pk := Ne.symm (ane hkk hcn)
  have ncp : c ∉ ps := fun hm => by
    obtain ⟨l, hl⟩ := hpl c hm
    rw [hl] at hcn; cases hcn
  walk_at "w"
  rw [aupd_keep hkk hcn]; walk_at "w"
  refine ⟨szl (by simp; omega), ?_⟩
  have ncpp : c ≠ p := fun e => ncp (e ▸ hpm)
  have g2 : aupd (aupd A' c (.lst (j.mv.map movP))) pk (.lst (cs.map PV.ref ++ [.ref c])) p = some (.lst (j.mv.map movP)) := by rw [aupd_ne (Ne.symm hkp)]; exact aupd_keep gp hcn
  walk_at "w"
  refine m_l g2 rfl ?_; walk_at "w"
  rw [g2]; walk_at "w"
  refine m_l (A := aupd _ p _) aupd_same rfl ?_; walk_at "w"
  refine ⟨szle (by simp), ?_⟩
  walk_at "w"
  rw [aupd_same]; walk_at "w"
  have jm := jo.m
  refine ⟨szl (by simp; omega), ?_⟩
  rw [aupd_aupd]
  have other : ∀ {q : Addr} {o : AO}, q ≠ pk → q ≠ p → A' q = some o → aupd (aupd (aupd A' c (.lst (j.mv.map movP))) pk (.lst (cs.map PV.ref ++ [.ref c]))) p (.lst ((j.mv.map movP).reverse ++ [.tup .own [.str "do", .int 0]])) q = some o := fun h1 h2 h3 => by
    rw [aupd_ne h2, aupd_ne h1]; exact aupd_keep h3 hcn
  refine wk_of ⟨by omega, ⟨_, _, _, rfl⟩, ?_, ?_, ?_, fun k q jj hk hq' hj' => ?_, fun q hqm => ?_, cs ++ [c], by simp [hcl], ?_, fun k cc jj hcc hj' => ?_⟩
  · have h1 := hs.upd (o := .lst (j.mv.map movP)) (none_of hs hcn)
    exact (h1.upd d.fk).upd (d.fp p hpm)
  · exact other (Ne.symm d.kn) (fun e => d.np (e ▸ hpm)) hn
  · exact other (Ne.symm d.kq) (fun e => d.qp (e ▸ hpm)) hq
  · have hne : q ≠ p := fun e => by
      subst e
      have h1 := List.getElem?_eq_some_iff.mp hq'
      have h2 := List.getElem?_eq_some_iff.mp hpi
      obtain ⟨l1, e1⟩ := h1
      obtain ⟨l2, e2⟩ := h2
      have := (List.getElem_inj d.nd).mp (e1.trans e2.symm)
      omega
    exact other (fun e => d.kp (e ▸ List.mem_of_getElem? hq')) hne (hp k q jj (by omega) hq' hj')
  · by_cases e : q = p
    · subst e; exact ⟨_, aupd_same⟩
    · obtain ⟨l, hl'⟩ := hpl q hqm
      exact ⟨l, other (fun e => d.kp (e ▸ hqm)) e hl'⟩
  · rw [aupd_ne hkp, aupd_same]; simp
  · by_cases hkc : k < cs.length
    · rw [List.getElem?_append_left hkc] at hcc
      obtain ⟨q1, q2, q3⟩ := hc k cc jj hcc hj'
      exact ⟨other q3 (fun e => q2 (e ▸ hpm)) q1, q2, q3⟩
    · rw [List.getElem?_append_right (by omega)] at hcc
      have : k - cs.length = 0 := by
        cases hh : k - cs.length with
        | zero => rfl
        | succ m => rw [hh] at hcc; simp at hcc
      rw [this] at hcc
      simp at hcc; subst hcc
      have : k = i := by omega
      subst this
      rw [hj] at hj'; cases hj'
      exact ⟨by rw [aupd_ne ncpp, aupd_ne nck, aupd_same], ncp, nck⟩
def jobs (n back high wide rows : Nat) : List Job := [⟨rowN n back, min n (back + 1), rowM id back n⟩, ⟨sqN high wide, sqRooms high wide, sqMv high wide⟩, ⟨stepN rows, stepRooms rows, stepM rows⟩]
structure JSz (n back high wide rows : Nat) : Prop where
  n0 : 1 ≤ n
  n1 : n ≤ 300
  b0 : 1 ≤ back
  b1 : back ≤ 300
  h0 : 1 ≤ high
  h1 : high ≤ 50
  w0 : 1 ≤ wide
  w1 : wide ≤ 50
  r0 : 1 ≤ rows
  r1 : rows ≤ 50
theorem stepM_len {n : Nat} (h : n ≤ 100) : (stepM n).length ≤ 30000 := by
  unfold stepM
  rw [List.length_append]
  have := stepT_len n (n - 1)
  have h2 : (2 * n + 1) * (n - 1) ≤ 201 * 100 := Nat.mul_le_mul (by omega) (by omega)
  simp; omega
theorem jobs_ok {n back high wide rows : Nat} (z : JSz n back high wide rows) : ∀ j ∈ jobs n back high wide rows, j.Ok := by
  obtain ⟨n0, n1, b0, b1, h0, h1, w0, w1, r0, r1⟩ := z
  have hw : high * wide ≤ 50 * 50 := Nat.mul_le_mul h1 w1
  have hw0 : 1 ≤ high * wide := Nat.mul_pos h0 w0
  intro j hj
  unfold jobs at hj
  simp only [List.mem_cons, List.not_mem_nil, or_false] at hj
  rcases hj with rfl | rfl | rfl
  · refine ⟨row_walk n0 b0, by simp [rowN]; omega, by simp [rowN]; omega, ?_, by dsimp only; omega, fun r hr => ?_⟩
    · have := rowM_len id back n
      dsimp only; omega
    · unfold rowN at hr
      obtain ⟨w, hw, rfl⟩ := List.mem_map.mp hr
      have := List.mem_range.mp hw
      unfold rgI
      simp
      split <;> omega
  · refine ⟨sq_walk h0 w0, by dsimp only; rw [sqN_len]; omega, by dsimp only; rw [sqN_len]; omega, ?_, ?_, fun r hr => ?_⟩
    · have := rowM_len (sqO high wide) (min high wide) (high * wide)
      unfold sqMv
      dsimp only; omega
    · unfold sqRooms; dsimp only; split <;> omega
    · unfold sqN at hr
      obtain ⟨w, hw, rfl⟩ := List.mem_map.mp hr
      unfold sqNeeds
      simp
      split <;> split <;> simp
  · have hB : Bg rows rows ≤ 50 * 50 := Nat.le_trans (Bg_le rows rows) (Nat.mul_le_mul r1 r1)
    have hB1 : rows ≤ Bg rows rows := by
      have := Bg_mono rows r0
      rw [Bg_s] at this; simp [Bg] at this; omega
    refine ⟨step_walk r0, by dsimp only; rw [stepN_len r0]; omega, by dsimp only; rw [stepN_len r0]; omega, ?_, ?_, fun r hr => ?_⟩
    · have := stepM_len (n := rows) (by omega)
      dsimp only; omega
    · unfold stepRooms; dsimp only; split <;> omega
    · have hrow : ∀ s, ∀ r ∈ stepR rows s, r.length < 1000 := by
        intro s
        induction s with
        | zero => simp [stepR]
        | succ s ih =>
          intro r hr
          unfold stepR at hr
          rcases List.mem_append.mp hr with h | h
          · exact ih r h
          · obtain ⟨k, _, rfl⟩ := List.mem_map.mp h
            simp
      unfold stepN at hr
      rcases List.mem_append.mp hr with h | h
      · have := (List.mem_replicate.mp h).2
        subst this; simp
      · exact hrow _ r h
end Lf
namespace Lf
open PySem PySem.Spec L2
open PyProof.Rows hiding St
local macro_rules | `(tactic| walk_at "w") => `(tactic| ((with_reducible (conv => whnf)); (try dsimp only)))
theorem alike_moves {A : AH} {p q : Addr} {mv : List (Bool × Nat)} (hp : A p = some (.lst (mv.map movP))) (hq : A q = some (.lst (mv.map movP))) (hl : mv.length ≤ 100000) : Alike A 2 (.ref p) (.ref q) := by
  refine .inr (.inr ⟨_, _, _, _, rfl, rfl, hp, hq, rfl, szl (by simp; omega), fun i u v hu hv => ?_⟩)
  rw [hu] at hv; cases hv
  rw [List.getElem?_map] at hu
  obtain ⟨m, _, rfl⟩ := Option.map_eq_some_iff.mp hu
  refine .inr (.inl ⟨_, _, _, _, rfl, rfl, rfl, szl (by simp), fun k a b ha hb => ?_⟩)
  rw [ha] at hb; cases hb
  cases k with
  | zero => simp at ha; subst ha; exact .inr ⟨_, rfl, rfl⟩
  | succ k =>
    cases k with
    | zero => simp at ha; subst ha; exact .inl ⟨_, rfl, rfl⟩
    | succ k => simp at ha
def S_told : LSp := fun xs A Q Z => ∃ n back high wide rows : Nat, xs = [.int n, .int back, .int high, .int wide, .int rows] ∧ JSz n back high wide rows ∧ Q (.bl true) A
theorem keeps_told : Keeps Wk.N__law_told_right (Wk.T__law_told_right S_stepplan S_sqplan S_rowplan (S_same 3) S_sqrooms S_sqnet S_rowrooms S_rownet S_steprooms S_stepnet S_walked) S_told := by
  rintro xs A Q Z ⟨n, back, high, wide, rows, rfl, z, fin⟩
  have ok := jobs_ok z
  have ⟨n0, n1, b0, b1, h0, h1, w0, w1, r0, r1⟩ := z
  unfold Wk.T__law_told_right
  show lSeq _ _ _ [some (.int n), some (.int back), some (.int high), some (.int wide), some (.int rows), none, none, none, none, none, none, none] _
  walk_at "w"
  refine ⟨szle (by simp), fun pk hpk => ?_⟩
  walk_at "w"
  refine ⟨by decide, ?_⟩
  refine ⟨fun t s A' => t ≤ 1 ∧ s = [some (.int n), some (.int back), some (.int high), some (.int wide), some (.int rows), some (.ref pk), none, none, none, none, none, none] ∧ Sub A A' ∧ (t = 0 → A' pk = some (.lst [])) ∧ (t = 1 → ∃ cs : List Addr, cs.length = 3 ∧ A' pk = some (.lst (cs.map .ref)) ∧ ∀ (k : Nat) (c : Addr) (j : Job), cs[k]? = some c → (jobs n back high wide rows)[k]? = some j → A' c = some (.lst (j.mv.map movP))), ⟨by omega, rfl, (Sub.refl A).upd hpk, fun _ => aupd_same, fun e => by omega⟩, ?_⟩
  rintro t s A' ⟨ht, rfl, hs, hz0, hz1⟩
  refine ⟨trivial, fun e => by rw [rangeP_len] at e; have e : t = 2 := e; omega, fun x hx => ?_⟩
  obtain ⟨rfl, _⟩ := rng_get hx
  refine lgT_name ?_
  walk_at "w"
  refine ⟨n, back, rfl, by omega, by omega, fun p1 hp1 => ?_⟩
  walk_at "w"
  refine ⟨high, wide, rfl, h0, by omega, w0, by omega, fun p2 hp2 => ?_⟩
  walk_at "w"
  refine ⟨rows, rfl, r0, by omega, fun p3 hp3 => ?_⟩
  walk_at "w"
  refine ⟨szle (by simp), fun pq hpq => ?_⟩
  generalize hB : aupd (aupd (aupd A' p1 (.lst ((rowM id back n).map movP))) p2 (.lst ((sqMv high wide).map movP))) p3 (.lst ((stepM rows).map movP)) = B at hpq ⊢
  have g1 : B p1 = some (.lst ((rowM id back n).map movP)) := by rw [← hB]; exact aupd_keep (aupd_keep aupd_same hp2) hp3
  have g2 : B p2 = some (.lst ((sqMv high wide).map movP)) := by rw [← hB]; exact aupd_keep aupd_same hp3
  have g3 : B p3 = some (.lst ((stepM rows).map movP)) := by rw [← hB]; exact aupd_same
  have sB : Sub A' B := by rw [← hB]; exact (((Sub.refl _).upd hp1).trans ((Sub.refl _).upd hp2)).trans ((Sub.refl _).upd hp3)
  have a1 : A' p1 = none := hp1
  have a2 : A' p2 = none := none_of ((Sub.refl _).upd hp1) hp2
  have a3 : A' p3 = none := none_of (((Sub.refl _).upd hp1).trans ((Sub.refl _).upd hp2)) hp3
  have d12 : p1 ≠ p2 := fun e => by rw [← e, aupd_same] at hp2; cases hp2
  have d13 : p1 ≠ p3 := ane (aupd_keep aupd_same hp2) hp3
  have d23 : p2 ≠ p3 := fun e => by rw [← e, aupd_same] at hp3; cases hp3
  walk_at "w"
  refine ifd (fun hte => ?_) (fun hte => ?_)
  · have ht1 : t = 1 := by omega
    obtain ⟨cs, hcl, hck, hcc⟩ := hz1 ht1
    walk_at "w"
    refine ⟨_, _, rfl, .inr (.inr ⟨_, _, _, _, rfl, rfl, aupd_same, aupd_keep (sB _ _ hck) hpq, by simp [hcl], szl (by simp), fun k u v hu hv => ?_⟩), _, hs.trans (sB.trans ((Sub.refl _).upd hpq)), fin⟩
    rw [List.getElem?_map] at hv
    obtain ⟨c, hc, rfl⟩ := Option.map_eq_some_iff.mp hv
    have kk : ∀ {q : Addr} {o : AO}, B q = some o → aupd B pq (.lst [.ref p1, .ref p2, .ref p3]) q = some o := fun h => aupd_keep h hpq
    have jm := fun j hj => (ok j hj).m
    match k, hu with
    | 0, hu =>
      simp at hu; subst hu
      exact alike_moves (kk g1) (kk (sB _ _ (hcc 0 c _ hc rfl))) (jm ⟨rowN n back, min n (back + 1), rowM id back n⟩ (by simp [jobs]))
    | 1, hu =>
      simp at hu; subst hu
      exact alike_moves (kk g2) (kk (sB _ _ (hcc 1 c _ hc rfl))) (jm ⟨sqN high wide, sqRooms high wide, sqMv high wide⟩ (by simp [jobs]))
    | 2, hu =>
      simp at hu; subst hu
      exact alike_moves (kk g3) (kk (sB _ _ (hcc 2 c _ hc rfl))) (jm ⟨stepN rows, stepRooms rows, stepM rows⟩ (by simp [jobs]))
    | k + 3, hu => simp at hu
  · have ht0 : t = 0 := by omega
    have gk := hz0 ht0
    walk_at "w"
    refine ⟨n, back, rfl, by omega, by omega, ?_⟩
    walk_at "w"
    refine ⟨n, back, rfl, ?_⟩
    walk_at "w"
    refine ⟨szle (by simp), ?_⟩
    walk_at "w"
    refine ⟨high, wide, rfl, h0, by omega, w0, by omega, ?_⟩
    walk_at "w"
    refine ⟨high, wide, rfl, ?_⟩
    walk_at "w"
    refine ⟨szle (by simp), ?_⟩
    walk_at "w"
    refine ⟨szle (by simp), fun pn hpn => ?_⟩
    walk_at "w"
    refine m_l (A := aupd _ pn _) aupd_same rfl ?_; walk_at "w"
    refine ⟨rows, rfl, r0, by omega, ?_⟩
    walk_at "w"
    refine ⟨rows, rfl, ?_⟩
    walk_at "w"
    refine ⟨szle (by simp), ?_⟩
    walk_at "w"
    rw [aupd_same]; walk_at "w"
    refine ⟨szl (by simp), ?_⟩
    rw [aupd_aupd]
    have sB2 : Sub B (aupd B pq (.lst [.ref p1, .ref p2, .ref p3])) := (Sub.refl _).upd hpq
    have kk : ∀ {q : Addr} {o u : AO}, B q = some o → aupd (aupd B pq (.lst [.ref p1, .ref p2, .ref p3])) pn u q = some o := fun h => aupd_keep (aupd_keep h hpq) hpn
    have npn : B pn = none := none_of sB2 hpn
    refine keep_loop (A := A) (js := jobs n back high wide rows) (ps := [p1, p2, p3]) rfl (by simp [jobs]) ok ⟨ane (sB _ _ gk) npn, ane (sB _ _ gk) hpq, ?_, ?_, ?_, by simp [d12, d13, d23], hpk, ?_⟩ ⟨?_, aupd_same, aupd_keep aupd_same hpn, ?_, ?_, [], rfl, kk (sB _ _ gk), fun k c j h => by simp at h⟩ (fun A2 v9 v10 v11 hk => ?_)
    · simp only [List.mem_cons, List.not_mem_nil, or_false, not_or]
      exact ⟨ane gk a1, ane gk a2, ane gk a3⟩
    · simp only [List.mem_cons, List.not_mem_nil, or_false, not_or]
      exact ⟨Ne.symm (ane g1 npn), Ne.symm (ane g2 npn), Ne.symm (ane g3 npn)⟩
    · simp only [List.mem_cons, List.not_mem_nil, or_false, not_or]
      exact ⟨Ne.symm (ane g1 hpq), Ne.symm (ane g2 hpq), Ne.symm (ane g3 hpq)⟩
    · intro p hp
      simp only [List.mem_cons, List.not_mem_nil, or_false] at hp
      rcases hp with rfl | rfl | rfl
      · exact none_of hs a1
      · exact none_of hs a2
      · exact none_of hs a3
    · exact (hs.trans (sB.trans sB2)).trans ((Sub.refl _).upd hpn)
    · intro k p j _ hp hj
      match k, hp, hj with
      | 0, hp, hj => simp at hp; simp [jobs] at hj; subst hp; subst hj; exact kk g1
      | 1, hp, hj => simp at hp; simp [jobs] at hj; subst hp; subst hj; exact kk g2
      | 2, hp, hj => simp at hp; simp [jobs] at hj; subst hp; subst hj; exact kk g3
      | k + 3, hp, hj => simp at hp
    · intro p hp
      simp only [List.mem_cons, List.not_mem_nil, or_false] at hp
      rcases hp with rfl | rfl | rfl
      · exact ⟨_, kk g1⟩
      · exact ⟨_, kk g2⟩
      · exact ⟨_, kk g3⟩
    · obtain ⟨q1, _, _, _, _, cs, q2, q3, q4⟩ := hk
      refine ⟨_, A2, .cons (.cons (.cons (.cons (.cons (.cons (.none (.none (.none (.none (.none (.none .nil))))))))))), .refl _, by omega, rfl, q1, fun e => by omega, fun _ => ⟨cs, q2, q3, fun k c j hc hj => (q4 k c j hc hj).1⟩⟩
def S_law : LSp := fun xs A Q Z => ∃ ns : List Int, xs = [.fro (ns.map .int)] ∧ ∀ A', Q (.bl true) A'
theorem two_of {b : Bool} {x y : Int} {lo hi : Nat} (h1 : lo ≤ x ∧ x ≤ hi) (h2 : lo ≤ y ∧ y ≤ hi) : ∃ v : Nat, atI [PV.int x, PV.int y] (if b = true then (1 : Int) else 0) = some (.int (v : Nat)) ∧ lo ≤ v ∧ v ≤ hi := by
  cases b with
  | true => exact ⟨y.toNat, by rw [if_pos rfl, Int.toNat_of_nonneg (by omega)]; exact atI_of (by decide) rfl, by omega, by omega⟩
  | false => exact ⟨x.toNat, by rw [if_neg Bool.false_ne_true, Int.toNat_of_nonneg (by omega)]; exact atI_of (by decide) rfl, by omega, by omega⟩
theorem keeps_law : Keeps Wk.N_law (Wk.T_law S_begin S_take S_told) S_law := by
  rintro xs A Q Z ⟨ns, rfl, fin⟩
  unfold Wk.T_law
  show lSeq _ _ _ [some (.fro (ns.map .int)), none, none, none, none, none, none, none, none] _
  walk_at "w"
  refine ⟨ns, rfl, fun z ok zt hc hst => ?_⟩
  walk_at "w"
  refine ⟨by decide, ?_⟩
  refine ⟨fun i s A' => i ≤ 3 ∧ s = [some (.fro (ns.map .int)), some (.ref z.st), none, none, none, none, none, none, none] ∧ ∃ z', Nx (100 * (i : Nat)) z z' ∧ A' = stA z' A, ⟨Nat.zero_le _, rfl, z, (Nx.refl ok).le (by omega), rfl⟩, ?_⟩
  rintro i s A' ⟨hi, rfl, z', nx, rfl⟩
  have z't := nx.t
  refine ⟨trivial, fun e => ?_, fun x hx => ?_⟩
  · walk_at "w"
    exact ⟨_, .refl _, fin _⟩
  obtain ⟨rfl, hlt⟩ := rng_get hx
  have hlt : i < 3 := hlt
  refine lgT_name ?_
  walk_at "w"
  refine take_at nx.st.symm nx.ok (by omega) (by decide) (by decide) fun d1 z1 _ _ n1 => ?_
  generalize hgr : decide (d1 = 0) = gr
  have m1 := nx.trans n1
  have t1 := m1.t
  walk_at "w"
  refine take_at m1.st.symm m1.ok (by omega) (by decide) (by decide) fun d2 z2 b2 c2 n2 => ?_
  have m2 := m1.trans n2
  have t2 := m2.t
  walk_at "w"
  refine take_at m2.st.symm m2.ok (by omega) (by decide) (by decide) fun d3 z3 b3 c3 n3 => ?_
  have m3 := m2.trans n3
  have t3 := m3.t
  walk_at "w"
  refine ⟨szle (by simp), fun q1 hq1 => ?_⟩
  have f1 := stA_free hq1
  rw [f1.upd]
  walk_at "w"
  rw [hgr, f1.get]; walk_at "w"
  obtain ⟨n, en, n0, nb⟩ := two_of (b := gr) (x := 1 + d2) (y := 30 + d3) (lo := 1) (hi := 300) (by omega) (by omega)
  rw [en]
  walk_at "w"
  refine ⟨szle (by simp), fun q2 hq2 => ?_⟩
  have f2 := stA_free hq2
  rw [f2.upd]
  walk_at "w"
  refine take_at m3.st.symm m3.ok (by omega) (by decide) (by decide) fun d4 z4 b4 c4 n4 => ?_
  have m4 := m3.trans n4
  have t4 := m4.t
  walk_at "w"
  rw [(f2.nx n4).get]; walk_at "w"
  obtain ⟨bk, eb, bk0, bkb⟩ := two_of (b := decide (d4 = 0)) (x := 12) (y := (n : Nat)) (lo := 1) (hi := 300) (by omega) (by omega)
  rw [eb]; walk_at "w"
  refine take_at m4.st.symm m4.ok (by omega) (by omega) (by omega) fun d5 z5 b5 c5 n5 => ?_
  have m5 := m4.trans n5
  have t5 := m5.t
  walk_at "w"
  refine ⟨szle (by simp), fun q3 hq3 => ?_⟩
  have f3 := stA_free hq3
  rw [f3.upd]
  walk_at "w"
  rw [f3.get]; walk_at "w"
  obtain ⟨hb, eh, hb0, hbb⟩ := two_of (b := gr) (x := 6) (y := 12) (lo := 1) (hi := 49) (by omega) (by omega)
  rw [eh]; walk_at "w"
  refine take_at m5.st.symm m5.ok (by omega) (by omega) (by omega) fun d6 z6 b6 c6 n6 => ?_
  have m6 := m5.trans n6
  have t6 := m6.t
  walk_at "w"
  refine ⟨szle (by simp), fun q4 hq4 => ?_⟩
  have f4 := stA_free hq4
  rw [f4.upd]
  walk_at "w"
  rw [f4.get]; walk_at "w"
  obtain ⟨wb, ew, wb0, wbb⟩ := two_of (b := gr) (x := 6) (y := 25) (lo := 1) (hi := 49) (by omega) (by omega)
  rw [ew]; walk_at "w"
  refine take_at m6.st.symm m6.ok (by omega) (by omega) (by omega) fun d7 z7 b7 c7 n7 => ?_
  have m7 := m6.trans n7
  have t7 := m7.t
  walk_at "w"
  refine take_at m7.st.symm m7.ok (by omega) (by decide) (by decide) fun d8 z8 b8 c8 n8 => ?_
  have m8 := m7.trans n8
  have t8 := m8.t
  walk_at "w"
  refine take_at m8.st.symm m8.ok (by omega) (by decide) (by decide) fun d9 z9 b9 c9 n9 => ?_
  have m9 := m8.trans n9
  walk_at "w"
  refine ⟨szle (by simp), fun q5 hq5 => ?_⟩
  have f5 := stA_free hq5
  rw [f5.upd]
  walk_at "w"
  rw [f5.get]; walk_at "w"
  obtain ⟨rw', er, r0, rb⟩ := two_of (b := gr) (x := 1 + d8) (y := 8 + d9) (lo := 1) (hi := 50) (by omega) (by omega)
  rw [er]
  obtain ⟨k5, e5⟩ : ∃ k : Nat, 1 + d5 = (k : Int) := ⟨(1 + d5).toNat, by omega⟩
  obtain ⟨k6, e6⟩ : ∃ k : Nat, 1 + d6 = (k : Int) := ⟨(1 + d6).toNat, by omega⟩
  obtain ⟨k7, e7⟩ : ∃ k : Nat, 1 + d7 = (k : Int) := ⟨(1 + d7).toNat, by omega⟩
  walk_at "w"
  refine ⟨n, k5, k6, k7, rw', by rw [e5, e6, e7], ⟨n0, nb, by omega, by omega, by omega, by omega, by omega, by omega, r0, rb⟩, ?_⟩
  walk_at "w"
  refine ifb (fun h => by cases h) (fun _ => ?_)
  refine ⟨_, stA z9 A, .cons (.cons (.none (.none (.none (.none (.none (.none (.none .nil)))))))), ?_, by omega, rfl, z9, m9.le (by omega), rfl⟩
  exact stA_sub (((((Sub.refl A).upd f1.no).trans ((Sub.refl _).upd f2.no)).trans ((Sub.refl _).upd f3.no)).trans ((Sub.refl _).upd f4.no) |>.trans ((Sub.refl _).upd f5.no))
end Lf
namespace Hd
open PySem PySem.Spec PyProof.Rows L2
def d0 : He.DefD := ⟨("row_net", none), "row_net", "row_net", defArgs (Wk.top 1), defBody (Wk.top 1), defScope (Wk.top 1), [], []⟩
def d1 : He.DefD := ⟨("square_needs", none), "square_needs", "square_needs", defArgs (Wk.top 2), defBody (Wk.top 2), defScope (Wk.top 2), [], []⟩
def d2 : He.DefD := ⟨("square_net", none), "square_net", "square_net", defArgs (Wk.top 3), defBody (Wk.top 3), defScope (Wk.top 3), [], []⟩
def d3 : He.DefD := ⟨("step_begins", none), "step_begins", "step_begins", defArgs (Wk.top 4), defBody (Wk.top 4), defScope (Wk.top 4), [], []⟩
def d4 : He.DefD := ⟨("step_net", none), "step_net", "step_net", defArgs (Wk.top 5), defBody (Wk.top 5), defScope (Wk.top 5), [], []⟩
def d5 : He.DefD := ⟨("row_rooms", none), "row_rooms", "row_rooms", defArgs (Wk.top 6), defBody (Wk.top 6), defScope (Wk.top 6), [], []⟩
def d6 : He.DefD := ⟨("square_rooms", none), "square_rooms", "square_rooms", defArgs (Wk.top 7), defBody (Wk.top 7), defScope (Wk.top 7), [], []⟩
def d7 : He.DefD := ⟨("step_rooms", none), "step_rooms", "step_rooms", defArgs (Wk.top 8), defBody (Wk.top 8), defScope (Wk.top 8), [], []⟩
def d8 : He.DefD := ⟨("row_plan", none), "row_plan", "row_plan", defArgs (Wk.top 9), defBody (Wk.top 9), defScope (Wk.top 9), [], []⟩
def d9 : He.DefD := ⟨("square_plan", none), "square_plan", "square_plan", defArgs (Wk.top 10), defBody (Wk.top 10), defScope (Wk.top 10), [], []⟩
def d10 : He.DefD := ⟨("step_plan", none), "step_plan", "step_plan", defArgs (Wk.top 11), defBody (Wk.top 11), defScope (Wk.top 11), [], []⟩
def d11 : He.DefD := ⟨("_law_begin", none), "_law_begin", "_law_begin", defArgs (Wk.top 13), defBody (Wk.top 13), defScope (Wk.top 13), [], []⟩
def d12 : He.DefD := ⟨("_law_take", none), "_law_take", "_law_take", defArgs (Wk.top 14), defBody (Wk.top 14), defScope (Wk.top 14), [], []⟩
def d13 : He.DefD := ⟨("_law_same", none), "_law_same", "_law_same", defArgs (Wk.top 15), defBody (Wk.top 15), defScope (Wk.top 15), [], []⟩
def d14 : He.DefD := ⟨("_law_is_move", none), "_law_is_move", "_law_is_move", defArgs (Wk.top 16), defBody (Wk.top 16), defScope (Wk.top 16), [], []⟩
def d15 : He.DefD := ⟨("_law_walked", none), "_law_walked", "_law_walked", defArgs (Wk.top 17), defBody (Wk.top 17), defScope (Wk.top 17), [], []⟩
def d16 : He.DefD := ⟨("_law_told_right", none), "_law_told_right", "_law_told_right", defArgs (Wk.top 18), defBody (Wk.top 18), defScope (Wk.top 18), [], []⟩
def d17 : He.DefD := ⟨("law", none), "law", "law", defArgs (Wk.top 19), defBody (Wk.top 19), defScope (Wk.top 19), [], []⟩
def fn : List He.DefD := ([d0, d1, d2, d3, d4, d5, d6, d7, d8, d9, d10, d11, d12, d13, d14, d15, d16, d17] : List He.DefD)
def fa : List He.Fa := ([.glo "row_net", .glo "square_needs", .glo "square_net", .glo "step_begins", .glo "step_net", .glo "row_rooms", .glo "square_rooms", .glo "step_rooms", .glo "row_plan", .glo "square_plan", .glo "step_plan", .glo "_law_begin", .glo "_law_take", .glo "_law_same", .glo "_law_is_move", .glo "_law_walked", .glo "_law_told_right", .glo "law", .free "len", .free "range", .free "sorted", .free "set", .free "dict", .free "list", .free "tuple", .free "min", .free "max", .free "isinstance", .free "all", .free "any"] : List He.Fa) ++ ([.free "int", .free "enumerate", .free "zip", .free "abs", .free "bool", .free "str", .free "divmod", .free "sum", .free "reversed"] : List He.Fa)
abbrev R : PySem.W.OpenRow := PySem.W.OpenLaw.row PySem.Challenge.rw_fewrooms_k63_plans_of_rows_and_squares
abbrev hk : PySem.W.Hook := He.hookD 5 fa fn
def ob (s : PySem.W.SharedT) : He.AlD := He.obsDG 5 fa fn (HandSHeadRun.getT s)
theorem ob_eq (s : PySem.W.SharedT) : ob s = hk.obs s.abs := He.obsDG_eq (HandSHeadRun.getT_eq s)
def loose : List Str := (["row_net", "square_needs", "square_net", "step_begins", "step_net", "row_rooms", "square_rooms", "step_rooms", "row_plan", "square_plan", "step_plan", "_law_begin", "_law_take", "_law_same", "_law_is_move", "_law_walked", "_law_told_right"] : List Str)
theorem run (w : World) : HandSHeadRun.RunEq R (PySem.W.view R.prog [19]) hk ob 1000 loose w := by
  intro os
  kernel_rfl
theorem facts {P : Program} {w : World} {K : PySem.W.Frag} {h : Heap} {mg : Str → Option Value} {f : Addr} (X : K.In h) (G : h.Ns mainGlobals mg) (hfa : mg ("law" : Str) = some (.ref f)) (c : He.SaysD fa fn K) :
    ∃ fd : FuncData, (∀ (s : Shared) (v : Value), BindsTo s fd ⟨[v], []⟩ [("_law_script", v)]) ∧ ∀ base : Heap, K.In base → base.Ns mainGlobals mg → FnOk P w K mg base CX0 6 f fd ["_law_script"] (Lf.cSp K Lf.S_law) := by
  obtain ⟨fd0, F0⟩ := c.def_ 0 (d := d0) rfl
  have g0 := He.glo_ok X G (c.fact 0 (f := .glo "row_net") rfl)
  obtain ⟨fd1, F1⟩ := c.def_ 1 (d := d1) rfl
  have g1 := He.glo_ok X G (c.fact 1 (f := .glo "square_needs") rfl)
  obtain ⟨fd2, F2⟩ := c.def_ 2 (d := d2) rfl
  have g2 := He.glo_ok X G (c.fact 2 (f := .glo "square_net") rfl)
  obtain ⟨fd3, F3⟩ := c.def_ 3 (d := d3) rfl
  have g3 := He.glo_ok X G (c.fact 3 (f := .glo "step_begins") rfl)
  obtain ⟨fd4, F4⟩ := c.def_ 4 (d := d4) rfl
  have g4 := He.glo_ok X G (c.fact 4 (f := .glo "step_net") rfl)
  obtain ⟨fd5, F5⟩ := c.def_ 5 (d := d5) rfl
  have g5 := He.glo_ok X G (c.fact 5 (f := .glo "row_rooms") rfl)
  obtain ⟨fd6, F6⟩ := c.def_ 6 (d := d6) rfl
  have g6 := He.glo_ok X G (c.fact 6 (f := .glo "square_rooms") rfl)
  obtain ⟨fd7, F7⟩ := c.def_ 7 (d := d7) rfl
  have g7 := He.glo_ok X G (c.fact 7 (f := .glo "step_rooms") rfl)
  obtain ⟨fd8, F8⟩ := c.def_ 8 (d := d8) rfl
  have g8 := He.glo_ok X G (c.fact 8 (f := .glo "row_plan") rfl)
  obtain ⟨fd9, F9⟩ := c.def_ 9 (d := d9) rfl
  have g9 := He.glo_ok X G (c.fact 9 (f := .glo "square_plan") rfl)
  obtain ⟨fd10, F10⟩ := c.def_ 10 (d := d10) rfl
  have g10 := He.glo_ok X G (c.fact 10 (f := .glo "step_plan") rfl)
  obtain ⟨fd11, F11⟩ := c.def_ 11 (d := d11) rfl
  have g11 := He.glo_ok X G (c.fact 11 (f := .glo "_law_begin") rfl)
  obtain ⟨fd12, F12⟩ := c.def_ 12 (d := d12) rfl
  have g12 := He.glo_ok X G (c.fact 12 (f := .glo "_law_take") rfl)
  obtain ⟨fd13, F13⟩ := c.def_ 13 (d := d13) rfl
  have g13 := He.glo_ok X G (c.fact 13 (f := .glo "_law_same") rfl)
  obtain ⟨fd14, F14⟩ := c.def_ 14 (d := d14) rfl
  have g14 := He.glo_ok X G (c.fact 14 (f := .glo "_law_is_move") rfl)
  obtain ⟨fd15, F15⟩ := c.def_ 15 (d := d15) rfl
  have g15 := He.glo_ok X G (c.fact 15 (f := .glo "_law_walked") rfl)
  obtain ⟨fd16, F16⟩ := c.def_ 16 (d := d16) rfl
  have g16 := He.glo_ok X G (c.fact 16 (f := .glo "_law_told_right") rfl)
  obtain ⟨fd17, F17⟩ := c.def_ 17 (d := d17) rfl
  have g17 := He.glo_ok X G (c.fact 17 (f := .glo "law") rfl)
  have B : Lf.Blts mg := ⟨He.free_ok X G (c.fact 18 (f := .free "len") rfl), He.free_ok X G (c.fact 19 (f := .free "range") rfl), He.free_ok X G (c.fact 20 (f := .free "sorted") rfl), He.free_ok X G (c.fact 21 (f := .free "set") rfl), He.free_ok X G (c.fact 22 (f := .free "dict") rfl), He.free_ok X G (c.fact 23 (f := .free "list") rfl), He.free_ok X G (c.fact 24 (f := .free "tuple") rfl), He.free_ok X G (c.fact 25 (f := .free "min") rfl), He.free_ok X G (c.fact 26 (f := .free "max") rfl), He.free_ok X G (c.fact 27 (f := .free "isinstance") rfl), He.free_ok X G (c.fact 28 (f := .free "all") rfl), He.free_ok X G (c.fact 29 (f := .free "any") rfl), He.free_ok X G (c.fact 30 (f := .free "int") rfl), He.free_ok X G (c.fact 31 (f := .free "enumerate") rfl), He.free_ok X G (c.fact 32 (f := .free "zip") rfl), He.free_ok X G (c.fact 33 (f := .free "abs") rfl), He.free_ok X G (c.fact 34 (f := .free "bool") rfl), He.free_ok X G (c.fact 35 (f := .free "str") rfl), He.free_ok X G (c.fact 36 (f := .free "divmod") rfl), He.free_ok X G (c.fact 37 (f := .free "sum") rfl), He.free_ok X G (c.fact 38 (f := .free "reversed") rfl)⟩
  have e := hfa.symm.trans g17
  cases e
  have b := FunD.bindsA (ps := ["_law_script"]) F17 fun _ _ _ _ _ _ us hl => match us, hl with | [_], _ => rfl
  refine ⟨fd17, fun s v => b s [v] rfl, fun base _ _ => ?_⟩
  have G0_1 : Lf.GFn P w K mg base 1 "row_net" ["n", "back"] (Lf.S_rownet) := Wk.walk_row_net (k := 0) B F0 g0  (fun xs A Q Z h => by first | (obtain ⟨rfl, _⟩ := h; rfl) | (obtain ⟨_, rfl, _⟩ := h; rfl) | (obtain ⟨_, _, rfl, _⟩ := h; rfl) | (obtain ⟨_, _, _, rfl, _⟩ := h; rfl) | (obtain ⟨_, _, _, _, rfl, _⟩ := h; rfl) | (obtain ⟨_, _, _, _, _, rfl, _⟩ := h; rfl) | (obtain ⟨_, _, _, _, _, _, rfl, _⟩ := h; rfl)) Lf.keeps_rownet
  have G1_1 : Lf.GFn P w K mg base 1 "square_needs" ["i", "j", "m"] (Lf.S_sqneeds) := Wk.walk_square_needs (k := 0) B F1 g1  (fun xs A Q Z h => by first | (obtain ⟨rfl, _⟩ := h; rfl) | (obtain ⟨_, rfl, _⟩ := h; rfl) | (obtain ⟨_, _, rfl, _⟩ := h; rfl) | (obtain ⟨_, _, _, rfl, _⟩ := h; rfl) | (obtain ⟨_, _, _, _, rfl, _⟩ := h; rfl) | (obtain ⟨_, _, _, _, _, rfl, _⟩ := h; rfl) | (obtain ⟨_, _, _, _, _, _, rfl, _⟩ := h; rfl)) Lf.keeps_sqneeds
  have G2_2 : Lf.GFn P w K mg base 2 "square_net" ["n", "m"] (Lf.S_sqnet) := Wk.walk_square_net (k := 1) B F2 g2 (G1_1.mono (by decide)) (fun xs A Q Z h => by first | (obtain ⟨rfl, _⟩ := h; rfl) | (obtain ⟨_, rfl, _⟩ := h; rfl) | (obtain ⟨_, _, rfl, _⟩ := h; rfl) | (obtain ⟨_, _, _, rfl, _⟩ := h; rfl) | (obtain ⟨_, _, _, _, rfl, _⟩ := h; rfl) | (obtain ⟨_, _, _, _, _, rfl, _⟩ := h; rfl) | (obtain ⟨_, _, _, _, _, _, rfl, _⟩ := h; rfl)) Lf.keeps_sqnet
  have G3_1 : Lf.GFn P w K mg base 1 "step_begins" ["n"] (Lf.S_stepb) := Wk.walk_step_begins (k := 0) B F3 g3  (fun xs A Q Z h => by first | (obtain ⟨rfl, _⟩ := h; rfl) | (obtain ⟨_, rfl, _⟩ := h; rfl) | (obtain ⟨_, _, rfl, _⟩ := h; rfl) | (obtain ⟨_, _, _, rfl, _⟩ := h; rfl) | (obtain ⟨_, _, _, _, rfl, _⟩ := h; rfl) | (obtain ⟨_, _, _, _, _, rfl, _⟩ := h; rfl) | (obtain ⟨_, _, _, _, _, _, rfl, _⟩ := h; rfl)) Lf.keeps_stepb
  have G4_2 : Lf.GFn P w K mg base 2 "step_net" ["n"] (Lf.S_stepnet) := Wk.walk_step_net (k := 1) B F4 g4 (G3_1.mono (by decide)) (fun xs A Q Z h => by first | (obtain ⟨rfl, _⟩ := h; rfl) | (obtain ⟨_, rfl, _⟩ := h; rfl) | (obtain ⟨_, _, rfl, _⟩ := h; rfl) | (obtain ⟨_, _, _, rfl, _⟩ := h; rfl) | (obtain ⟨_, _, _, _, rfl, _⟩ := h; rfl) | (obtain ⟨_, _, _, _, _, rfl, _⟩ := h; rfl) | (obtain ⟨_, _, _, _, _, _, rfl, _⟩ := h; rfl)) Lf.keeps_stepnet
  have G5_1 : Lf.GFn P w K mg base 1 "row_rooms" ["n", "back"] (Lf.S_rowrooms) := Wk.walk_row_rooms (k := 0) B F5 g5  (fun xs A Q Z h => by first | (obtain ⟨rfl, _⟩ := h; rfl) | (obtain ⟨_, rfl, _⟩ := h; rfl) | (obtain ⟨_, _, rfl, _⟩ := h; rfl) | (obtain ⟨_, _, _, rfl, _⟩ := h; rfl) | (obtain ⟨_, _, _, _, rfl, _⟩ := h; rfl) | (obtain ⟨_, _, _, _, _, rfl, _⟩ := h; rfl) | (obtain ⟨_, _, _, _, _, _, rfl, _⟩ := h; rfl)) Lf.keeps_rowrooms
  have G6_1 : Lf.GFn P w K mg base 1 "square_rooms" ["n", "m"] (Lf.S_sqrooms) := Wk.walk_square_rooms (k := 0) B F6 g6  (fun xs A Q Z h => by first | (obtain ⟨rfl, _⟩ := h; rfl) | (obtain ⟨_, rfl, _⟩ := h; rfl) | (obtain ⟨_, _, rfl, _⟩ := h; rfl) | (obtain ⟨_, _, _, rfl, _⟩ := h; rfl) | (obtain ⟨_, _, _, _, rfl, _⟩ := h; rfl) | (obtain ⟨_, _, _, _, _, rfl, _⟩ := h; rfl) | (obtain ⟨_, _, _, _, _, _, rfl, _⟩ := h; rfl)) Lf.keeps_sqrooms
  have G7_1 : Lf.GFn P w K mg base 1 "step_rooms" ["n"] (Lf.S_steprooms) := Wk.walk_step_rooms (k := 0) B F7 g7  (fun xs A Q Z h => by first | (obtain ⟨rfl, _⟩ := h; rfl) | (obtain ⟨_, rfl, _⟩ := h; rfl) | (obtain ⟨_, _, rfl, _⟩ := h; rfl) | (obtain ⟨_, _, _, rfl, _⟩ := h; rfl) | (obtain ⟨_, _, _, _, rfl, _⟩ := h; rfl) | (obtain ⟨_, _, _, _, _, rfl, _⟩ := h; rfl) | (obtain ⟨_, _, _, _, _, _, rfl, _⟩ := h; rfl)) Lf.keeps_steprooms
  have G8_1 : Lf.GFn P w K mg base 1 "row_plan" ["n", "back"] (Lf.S_rowplan) := Wk.walk_row_plan (k := 0) B F8 g8  (fun xs A Q Z h => by first | (obtain ⟨rfl, _⟩ := h; rfl) | (obtain ⟨_, rfl, _⟩ := h; rfl) | (obtain ⟨_, _, rfl, _⟩ := h; rfl) | (obtain ⟨_, _, _, rfl, _⟩ := h; rfl) | (obtain ⟨_, _, _, _, rfl, _⟩ := h; rfl) | (obtain ⟨_, _, _, _, _, rfl, _⟩ := h; rfl) | (obtain ⟨_, _, _, _, _, _, rfl, _⟩ := h; rfl)) Lf.keeps_rowplan
  have G9_1 : Lf.GFn P w K mg base 1 "square_plan" ["n", "m"] (Lf.S_sqplan) := Wk.walk_square_plan (k := 0) B F9 g9  (fun xs A Q Z h => by first | (obtain ⟨rfl, _⟩ := h; rfl) | (obtain ⟨_, rfl, _⟩ := h; rfl) | (obtain ⟨_, _, rfl, _⟩ := h; rfl) | (obtain ⟨_, _, _, rfl, _⟩ := h; rfl) | (obtain ⟨_, _, _, _, rfl, _⟩ := h; rfl) | (obtain ⟨_, _, _, _, _, rfl, _⟩ := h; rfl) | (obtain ⟨_, _, _, _, _, _, rfl, _⟩ := h; rfl)) Lf.keeps_sqplan
  have G10_2 : Lf.GFn P w K mg base 2 "step_plan" ["n"] (Lf.S_stepplan) := Wk.walk_step_plan (k := 1) B F10 g10 (G3_1.mono (by decide)) (fun xs A Q Z h => by first | (obtain ⟨rfl, _⟩ := h; rfl) | (obtain ⟨_, rfl, _⟩ := h; rfl) | (obtain ⟨_, _, rfl, _⟩ := h; rfl) | (obtain ⟨_, _, _, rfl, _⟩ := h; rfl) | (obtain ⟨_, _, _, _, rfl, _⟩ := h; rfl) | (obtain ⟨_, _, _, _, _, rfl, _⟩ := h; rfl) | (obtain ⟨_, _, _, _, _, _, rfl, _⟩ := h; rfl)) Lf.keeps_stepplan
  have G11_1 : Lf.GFn P w K mg base 1 "_law_begin" ["_law_script"] (Lf.S_begin) := Wk.walk__law_begin (k := 0) B F11 g11  (fun xs A Q Z h => by first | (obtain ⟨rfl, _⟩ := h; rfl) | (obtain ⟨_, rfl, _⟩ := h; rfl) | (obtain ⟨_, _, rfl, _⟩ := h; rfl) | (obtain ⟨_, _, _, rfl, _⟩ := h; rfl) | (obtain ⟨_, _, _, _, rfl, _⟩ := h; rfl) | (obtain ⟨_, _, _, _, _, rfl, _⟩ := h; rfl) | (obtain ⟨_, _, _, _, _, _, rfl, _⟩ := h; rfl)) Lf.keeps_begin
  have G12_1 : Lf.GFn P w K mg base 1 "_law_take" ["_law_state", "_law_many"] (Lf.S_take) := Wk.walk__law_take (k := 0) B F12 g12  (fun xs A Q Z h => by first | (obtain ⟨rfl, _⟩ := h; rfl) | (obtain ⟨_, rfl, _⟩ := h; rfl) | (obtain ⟨_, _, rfl, _⟩ := h; rfl) | (obtain ⟨_, _, _, rfl, _⟩ := h; rfl) | (obtain ⟨_, _, _, _, rfl, _⟩ := h; rfl) | (obtain ⟨_, _, _, _, _, rfl, _⟩ := h; rfl) | (obtain ⟨_, _, _, _, _, _, rfl, _⟩ := h; rfl)) Lf.keeps_take
  have G13_0 : Lf.GFn P w K mg base 0 "_law_same" ["_law_found", "_law_due"] Lf.S_any := Lf.gfn_any g13 F13.kp (FunD.bindsN F13 (fun _ _ _ _ _ _ us hl => match us, hl with | [_, _], _ => rfl)) (fun _ _ _ _ h => h)
  have G13_1 : Lf.GFn P w K mg base 1 "_law_same" ["_law_found", "_law_due"] (Lf.S_same 0) := Wk.walk__law_same (k := 0) B F13 g13 (G13_0.mono (by decide)) (fun xs A Q Z h => by first | (obtain ⟨rfl, _⟩ := h; rfl) | (obtain ⟨_, rfl, _⟩ := h; rfl) | (obtain ⟨_, _, rfl, _⟩ := h; rfl) | (obtain ⟨_, _, _, rfl, _⟩ := h; rfl) | (obtain ⟨_, _, _, _, rfl, _⟩ := h; rfl) | (obtain ⟨_, _, _, _, _, rfl, _⟩ := h; rfl) | (obtain ⟨_, _, _, _, _, _, rfl, _⟩ := h; rfl)) (Lf.keeps_same0 _)
  have G13_2 : Lf.GFn P w K mg base 2 "_law_same" ["_law_found", "_law_due"] (Lf.S_same 1) := Wk.walk__law_same (k := 1) B F13 g13 (G13_1.mono (by decide)) (fun xs A Q Z h => by first | (obtain ⟨rfl, _⟩ := h; rfl) | (obtain ⟨_, rfl, _⟩ := h; rfl) | (obtain ⟨_, _, rfl, _⟩ := h; rfl) | (obtain ⟨_, _, _, rfl, _⟩ := h; rfl) | (obtain ⟨_, _, _, _, rfl, _⟩ := h; rfl) | (obtain ⟨_, _, _, _, _, rfl, _⟩ := h; rfl) | (obtain ⟨_, _, _, _, _, _, rfl, _⟩ := h; rfl)) (Lf.keeps_same1 0)
  have G13_3 : Lf.GFn P w K mg base 3 "_law_same" ["_law_found", "_law_due"] (Lf.S_same 2) := Wk.walk__law_same (k := 2) B F13 g13 (G13_2.mono (by decide)) (fun xs A Q Z h => by first | (obtain ⟨rfl, _⟩ := h; rfl) | (obtain ⟨_, rfl, _⟩ := h; rfl) | (obtain ⟨_, _, rfl, _⟩ := h; rfl) | (obtain ⟨_, _, _, rfl, _⟩ := h; rfl) | (obtain ⟨_, _, _, _, rfl, _⟩ := h; rfl) | (obtain ⟨_, _, _, _, _, rfl, _⟩ := h; rfl) | (obtain ⟨_, _, _, _, _, _, rfl, _⟩ := h; rfl)) (Lf.keeps_same1 1)
  have G13_4 : Lf.GFn P w K mg base 4 "_law_same" ["_law_found", "_law_due"] (Lf.S_same 3) := Wk.walk__law_same (k := 3) B F13 g13 (G13_3.mono (by decide)) (fun xs A Q Z h => by first | (obtain ⟨rfl, _⟩ := h; rfl) | (obtain ⟨_, rfl, _⟩ := h; rfl) | (obtain ⟨_, _, rfl, _⟩ := h; rfl) | (obtain ⟨_, _, _, rfl, _⟩ := h; rfl) | (obtain ⟨_, _, _, _, rfl, _⟩ := h; rfl) | (obtain ⟨_, _, _, _, _, rfl, _⟩ := h; rfl) | (obtain ⟨_, _, _, _, _, _, rfl, _⟩ := h; rfl)) (Lf.keeps_same1 2)
  have G14_1 : Lf.GFn P w K mg base 1 "_law_is_move" ["_law_net", "_law_move"] (Lf.S_ismove) := Wk.walk__law_is_move (k := 0) B F14 g14  (fun xs A Q Z h => by first | (obtain ⟨rfl, _⟩ := h; rfl) | (obtain ⟨_, rfl, _⟩ := h; rfl) | (obtain ⟨_, _, rfl, _⟩ := h; rfl) | (obtain ⟨_, _, _, rfl, _⟩ := h; rfl) | (obtain ⟨_, _, _, _, rfl, _⟩ := h; rfl) | (obtain ⟨_, _, _, _, _, rfl, _⟩ := h; rfl) | (obtain ⟨_, _, _, _, _, _, rfl, _⟩ := h; rfl)) Lf.keeps_ismove
  have G15_2 : Lf.GFn P w K mg base 2 "_law_walked" ["_law_net", "_law_rooms", "_law_plan"] (Lf.S_walked) := Wk.walk__law_walked (k := 1) B F15 g15 (G14_1.mono (by decide)) (fun xs A Q Z h => by first | (obtain ⟨rfl, _⟩ := h; rfl) | (obtain ⟨_, rfl, _⟩ := h; rfl) | (obtain ⟨_, _, rfl, _⟩ := h; rfl) | (obtain ⟨_, _, _, rfl, _⟩ := h; rfl) | (obtain ⟨_, _, _, _, rfl, _⟩ := h; rfl) | (obtain ⟨_, _, _, _, _, rfl, _⟩ := h; rfl) | (obtain ⟨_, _, _, _, _, _, rfl, _⟩ := h; rfl)) Lf.keeps_walked
  have G16_5 : Lf.GFn P w K mg base 5 "_law_told_right" ["_law_n", "_law_back", "_law_high", "_law_wide", "_law_rows"] (Lf.S_told) := Wk.walk__law_told_right (k := 4) B F16 g16 (G10_2.mono (by decide)) (G9_1.mono (by decide)) (G8_1.mono (by decide)) (G13_4.mono (by decide)) (G6_1.mono (by decide)) (G2_2.mono (by decide)) (G5_1.mono (by decide)) (G0_1.mono (by decide)) (G7_1.mono (by decide)) (G4_2.mono (by decide)) (G15_2.mono (by decide)) (fun xs A Q Z h => by first | (obtain ⟨rfl, _⟩ := h; rfl) | (obtain ⟨_, rfl, _⟩ := h; rfl) | (obtain ⟨_, _, rfl, _⟩ := h; rfl) | (obtain ⟨_, _, _, rfl, _⟩ := h; rfl) | (obtain ⟨_, _, _, _, rfl, _⟩ := h; rfl) | (obtain ⟨_, _, _, _, _, rfl, _⟩ := h; rfl) | (obtain ⟨_, _, _, _, _, _, rfl, _⟩ := h; rfl)) Lf.keeps_told
  have E1 := Wk.lfn_law (k := 5) (S := Lf.S_law) B F17 (G11_1.mono (by decide)) (G12_1.mono (by decide)) (G16_5.mono (by decide)) (fun xs A Q Z h => by obtain ⟨_, rfl, _⟩ := h; rfl) Lf.keeps_law
  exact Lf.fn_plain E1 fun xs A Q Z h => h
end Hd
open PySem PySem.W PySem.Calls PyProof.Rows
theorem PySem.Challenge.cw_fewrooms_k63_plans_of_rows_and_squares_holds : PySem.Challenge.rw_fewrooms_k63_plans_of_rows_and_squares.Holds := by
  w_on; o_law
  refine HandSHeadRun.head_any (r := OpenLaw.row PySem.Challenge.rw_fewrooms_k63_plans_of_rows_and_squares) (q := view (OpenLaw.row PySem.Challenge.rw_fewrooms_k63_plans_of_rows_and_squares).prog [19]) (H := Hd.hk) (ob := Hd.ob) (M := 1000) (loose := Hd.loose) (d := HandSHeadRun.topDef (OpenLaw.row PySem.Challenge.rw_fewrooms_k63_plans_of_rows_and_squares).prog 19) (kwd := []) Hd.ob_eq
    (by kernel_rfl) (fun s => by kernel_rfl) Hd.run (by kernel_rfl) (by kernel_rfl) (by kernel_rfl) (by rfl) (by first | assumption | decide +kernel) (by decide +kernel) ⟨rfl, rfl, rfl, rfl, rfl, by decide +kernel⟩ ?hw ?hc
  case hw => w_witness2
  case hc =>
    refine L2.walk_ofE (l := PySem.Challenge.rw_fewrooms_k63_plans_of_rows_and_squares) (n := 63) (k := 6) (x := "_law_script") (CX := L2.CX0) rfl (by decide) (by kernel_rfl) ⟨rfl, by decide, by decide⟩ ?F (fun _ _ _ _ z => z)
    intro w mg fa h Y G hmg0
    obtain ⟨K, KX, c⟩ := Y
    have hmg : mg ("law" : PySem.Str) = some (.ref fa) := by
      have e : (HandSHeadRun.topDef (OpenLaw.row PySem.Challenge.rw_fewrooms_k63_plans_of_rows_and_squares).prog 19).name = ("law" : PySem.Str) := by kernel_rfl
      rw [← e]
      exact hmg0
    obtain ⟨fd, hb, hF⟩ := Hd.facts (P := (PySem.Challenge.rw_fewrooms_k63_plans_of_rows_and_squares).prog) (w := w) KX G hmg c
    exact ⟨K, fd, Lf.cSp K Lf.S_law, KX, hb, fun H a ns hl ho hS => Lf.whole_sp (fun xs A Q Z ⟨ns, e, _, _, k⟩ => ⟨ns, e, k⟩) hl ho hS, hF⟩
