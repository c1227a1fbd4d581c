import PyProof.Rows.All
import Wide.All
import OpenK.AllK
import Wide.FinOn
import HandS.ForMost
import HandS.Wide
import HandS.IsInst
import HandS.Zip
import HandS.Deep
import HandS.NoneIn
import HandS.TupLen
import HandS.TupAny
import HandS.Rev
import KE.DataAny
import HandS.Codes
import PySem.Challenge.RW_readgrove_k80_grammars_written
set_option Elab.async false
set_option linter.all false
set_option maxRecDepth 100000
/-! VCore: values with owners. Types of data, what stands for them in the heap (shared: read alone; owned: may be changed in place), the locals of a def as one typed row. -/
namespace VV
open PySem L2

/-! ### types of data -/
inductive Ty where
  | non | bool | int | str | any
  | opt (t : Ty) | vtup (t : Ty) | list (t : Ty) | dict (k v : Ty) | own (t : Ty)
  | tup (b : Ty) | last (a : Ty) | cons (a b : Ty)
  deriving DecidableEq
@[reducible] def den : Ty → Type
  | .non => Unit
  | .bool => Bool
  | .int => Int
  | .str => Str
  | .any => PyData
  | .opt t => Option (den t)
  | .vtup t => List (den t)
  | .list t => List (den t)
  | .dict k v => List (den k × den v)
  | .own t => den t
  | .tup b => den b
  | .last a => den a
  | .cons a b => den a × den b

/-- no cell that may be changed stands in such data -/
def Ty.frz : Ty → Bool
  | .non => true
  | .bool => true
  | .int => true
  | .str => true
  | .any => true
  | .opt t => t.frz
  | .vtup t => t.frz
  | .list _ => false
  | .dict _ _ => false
  | .own _ => false
  | .tup b => b.frz
  | .last a => a.frz
  | .cons a b => a.frz && b.frz
def Ty.isOwn : Ty → Bool
  | .own _ => true
  | _ => false
mutual
/-- data without lists and dicts -/
def dv (H : Hp) : PyData → V → Prop
  | .none, v => v = .non
  | .bool b, v => v = .bl b
  | .int i, v => v = .int i
  | .str x, v => v = .str x ∧ PyData.strOk x = true
  | .list _, _ => False
  | .tuple ds, v => ∃ a vs, v = .ref a ∧ H a = some (.tup vs) ∧ dvs H ds vs
  | .dict _, _ => False
def dvs (H : Hp) : List PyData → List V → Prop
  | [], vs => vs = []
  | d :: ds, vs => ∃ v r, vs = v :: r ∧ dv H d v ∧ dvs H ds r
end
/-- a key that is an int or a text -/
def keyS : (k : Ty) → den k → Option Key
  | .int, i => some (.inl i)
  | .str, x => some (.inr x)
  | _, _ => none
def keyRow : (b : Ty) → den b → Option (List Key)
  | .last a, d => (keyS a d).map fun k => [k]
  | .cons a b, d => do
    let k ← keyS a d.1
    let r ← keyRow b d.2
    pure (k :: r)
  | _, _ => none
def keyVs (t : Ty) : List (den t) → Option (List Key)
  | [] => some []
  | d :: r => do
    let k ← keyS t d
    let s ← keyVs t r
    pure (k :: s)
/-- a key that is a tuple of such -/
def keyT : (k : Ty) → den k → Option (List Key)
  | .tup b, d => keyRow b d
  | .vtup t, d => keyVs t d
  | _, _ => none
/-- the keys are tuples -/
def Ty.tk : Ty → Bool
  | .tup _ => true
  | .vtup _ => true
  | _ => false

/-! ### pairs of lists -/
def F2 {α β : Type} (P : α → β → Prop) : List α → List β → Prop
  | [], [] => True
  | v :: vs, d :: ds => P v d ∧ F2 P vs ds
  | _, _ => False
def F3 {α β : Type} (P : α → β → List Addr → Prop) : List α → List β → List Addr → Prop
  | [], [], f => f = []
  | v :: vs, d :: ds, f => ∃ f1 f2, f = f1 ++ f2 ∧ P v d f1 ∧ F3 P vs ds f2
  | _, _, _ => False
theorem F2.imp {α β : Type} {P P' : α → β → Prop} (h : ∀ v d, P v d → P' v d) : ∀ {vs : List α} {ds : List β}, F2 P vs ds → F2 P' vs ds
  | [], [], q => q
  | v :: vs, d :: ds, q => ⟨h v d q.1, F2.imp h q.2⟩
  | [], _ :: _, q => q.elim
  | _ :: _, [], q => q.elim
theorem F2.length {α β : Type} {P : α → β → Prop} : ∀ {vs : List α} {ds : List β}, F2 P vs ds → vs.length = ds.length
  | [], [], _ => rfl
  | _ :: vs, _ :: ds, q => by
    have := F2.length (P := P) q.2
    simp [this]
  | [], _ :: _, q => q.elim
  | _ :: _, [], q => q.elim
theorem F2.append {α β : Type} {P : α → β → Prop} : ∀ {vs : List α} {ds : List β} {ws : List α} {es : List β}, F2 P vs ds → F2 P ws es → F2 P (vs ++ ws) (ds ++ es)
  | [], [], _, _, _, q => q
  | _ :: _, _ :: _, _, _, p, q => ⟨p.1, F2.append p.2 q⟩
  | [], _ :: _, _, _, p, _ => p.elim
  | _ :: _, [], _, _, p, _ => p.elim
theorem F2.get {α β : Type} {P : α → β → Prop} : ∀ {vs : List α} {ds : List β} {i : Nat} {d : β}, F2 P vs ds → ds[i]? = some d → ∃ v, vs[i]? = some v ∧ P v d
  | v :: vs, e :: ds, 0, d, q, h => by
    simp at h
    subst h
    exact ⟨v, rfl, q.1⟩
  | v :: vs, e :: ds, i + 1, d, q, h => by
    obtain ⟨w, h1, h2⟩ := F2.get (i := i) (d := d) q.2 (by simpa using h)
    exact ⟨w, by simpa using h1, h2⟩
  | [], [], _, _, _, h => by simp at h
  | [], _ :: _, _, _, q, _ => q.elim
  | _ :: _, [], _, _, q, _ => q.elim
theorem F2.get' {α β : Type} {P : α → β → Prop} : ∀ {vs : List α} {ds : List β} {i : Nat} {v : α}, F2 P vs ds → vs[i]? = some v → ∃ d, ds[i]? = some d ∧ P v d
  | v :: vs, e :: ds, 0, d, q, h => by
    simp at h
    subst h
    exact ⟨e, rfl, q.1⟩
  | v :: vs, e :: ds, i + 1, d, q, h => by
    obtain ⟨w, h1, h2⟩ := F2.get' (i := i) (v := d) q.2 (by simpa using h)
    exact ⟨w, by simpa using h1, h2⟩
  | [], [], _, _, _, h => by simp at h
  | [], _ :: _, _, _, q, _ => q.elim
  | _ :: _, [], _, _, q, _ => q.elim
theorem F2.take {α β : Type} {P : α → β → Prop} : ∀ {vs : List α} {ds : List β} (n : Nat), F2 P vs ds → F2 P (vs.take n) (ds.take n)
  | _, _, 0, _ => by simp [F2]
  | [], [], _ + 1, _ => by simp [F2]
  | v :: vs, d :: ds, n + 1, q => ⟨q.1, F2.take n q.2⟩
  | [], _ :: _, _, q => q.elim
  | _ :: _, [], _, q => q.elim
theorem F2.drop {α β : Type} {P : α → β → Prop} : ∀ {vs : List α} {ds : List β} (n : Nat), F2 P vs ds → F2 P (vs.drop n) (ds.drop n)
  | _, _, 0, q => by simpa using q
  | [], [], _ + 1, _ => by simp [F2]
  | v :: vs, d :: ds, n + 1, q => by simpa using F2.drop n q.2
  | [], _ :: _, _, q => q.elim
  | _ :: _, [], _, q => q.elim
theorem F2.reverse {α β : Type} {P : α → β → Prop} : ∀ {vs : List α} {ds : List β}, F2 P vs ds → F2 P vs.reverse ds.reverse
  | [], [], q => q
  | v :: vs, d :: ds, q => by
    simp only [List.reverse_cons]
    exact F2.append (F2.reverse q.2) ⟨q.1, trivial⟩
  | [], _ :: _, q => q.elim
  | _ :: _, [], q => q.elim
theorem F3.imp {α β : Type} {P P' : α → β → List Addr → Prop} : ∀ {vs : List α} {ds : List β} {f : List Addr}, (∀ v d g, (∀ a ∈ g, a ∈ f) → P v d g → P' v d g) → F3 P vs ds f → F3 P' vs ds f
  | [], [], _, _, q => q
  | v :: vs, d :: ds, f, h, q => by
    obtain ⟨f1, f2, rfl, p, r⟩ := q
    exact ⟨f1, f2, rfl, h v d f1 (fun a ha => List.mem_append_left _ ha) p, F3.imp (fun v d g hg x => h v d g (fun a ha => List.mem_append_right _ (hg a ha)) x) r⟩
  | [], _ :: _, _, _, q => q.elim
  | _ :: _, [], _, _, q => q.elim
theorem F3.to2 {α β : Type} {P : α → β → List Addr → Prop} {P' : α → β → Prop} : ∀ {vs : List α} {ds : List β} {f : List Addr}, (∀ v d g, (∀ a ∈ g, a ∈ f) → P v d g → P' v d) → F3 P vs ds f → F2 P' vs ds
  | [], [], _, _, _ => True.intro
  | v :: vs, d :: ds, f, h, q => by
    obtain ⟨f1, f2, rfl, p, r⟩ := q
    exact ⟨h v d f1 (fun a ha => List.mem_append_left _ ha) p, F3.to2 (fun v d g hg x => h v d g (fun a ha => List.mem_append_right _ (hg a ha)) x) r⟩
  | [], _ :: _, _, _, q => q.elim
  | _ :: _, [], _, _, q => q.elim
theorem F3.of2 {α β : Type} {P : α → β → List Addr → Prop} {P' : α → β → Prop} (h : ∀ v d, P' v d → P v d []) : ∀ {vs : List α} {ds : List β}, F2 P' vs ds → F3 P vs ds []
  | [], [], _ => rfl
  | v :: vs, d :: ds, q => ⟨[], [], rfl, h v d q.1, F3.of2 h q.2⟩
  | [], _ :: _, q => q.elim
  | _ :: _, [], q => q.elim
theorem F3.nil_of {α β : Type} {P : α → β → List Addr → Prop} (h : ∀ v d f, P v d f → f = []) : ∀ {vs : List α} {ds : List β} {f : List Addr}, F3 P vs ds f → f = []
  | [], [], _, q => q
  | v :: vs, d :: ds, _, q => by
    obtain ⟨f1, f2, rfl, p, r⟩ := q
    rw [h v d f1 p, F3.nil_of h r]
    rfl
  | [], _ :: _, _, q => q.elim
  | _ :: _, [], _, q => q.elim
theorem F3.append {α β : Type} {P : α → β → List Addr → Prop} : ∀ {vs : List α} {ds : List β} {f : List Addr} {ws : List α} {es : List β} {g : List Addr}, F3 P vs ds f → F3 P ws es g → F3 P (vs ++ ws) (ds ++ es) (f ++ g)
  | [], [], _, _, _, _, p, q => by
    have p : _ = _ := p
    subst p
    exact q
  | v :: vs, d :: ds, _, _, _, _, p, q => by
    obtain ⟨f1, f2, rfl, p, r⟩ := p
    exact ⟨f1, f2 ++ _, by rw [List.append_assoc], p, F3.append r q⟩
  | [], _ :: _, _, _, _, _, p, _ => p.elim
  | _ :: _, [], _, _, _, _, p, _ => p.elim
theorem F3.length {α β : Type} {P : α → β → List Addr → Prop} : ∀ {vs : List α} {ds : List β} {f : List Addr}, F3 P vs ds f → vs.length = ds.length
  | [], [], _, _ => rfl
  | _ :: vs, _ :: ds, _, q => by
    obtain ⟨f1, f2, rfl, p, r⟩ := q
    have := F3.length r
    simp [this]
  | [], _ :: _, _, q => q.elim
  | _ :: _, [], _, q => q.elim

/-! ### what stands for data -/
abbrev Reg := Addr → Prop
/-- tuples, and lists and tuples that are known to the object, never change -/
structure Stb (H H' : Hp) : Prop where
  tup : ∀ a xs, H a = some (.tup xs) → H' a = some (.tup xs)
  frl : ∀ a o xs, H a = some (.frz o (.lst xs)) → H' a = some (.frz o (.lst xs))
  frt : ∀ a o xs, H a = some (.frz o (.tup xs)) → H' a = some (.frz o (.tup xs))
theorem Stb.refl (H : Hp) : Stb H H := ⟨fun _ _ h => h, fun _ _ _ h => h, fun _ _ _ h => h⟩
theorem Stb.trans {H H1 H2 : Hp} (a : Stb H H1) (b : Stb H1 H2) : Stb H H2 := ⟨fun c x h => b.tup c x (a.tup c x h), fun c o x h => b.frl c o x (a.frl c o x h), fun c o x h => b.frt c o x (a.frt c o x h)⟩
theorem Stb.of_same {H H' : Hp} (s : Same H H') : Stb H H' := ⟨fun _ _ h => s _ _ h, fun _ _ _ h => s _ _ h, fun _ _ _ h => s _ _ h⟩
theorem Stb.seqT {K : PySem.W.Frag} {H H' : Hp} {a : Addr} {xs : List V} (s : Stb H H') (h : SqT K H a xs) : SqT K H' a xs := by
  rcases h with (h | ⟨o, h⟩) | h
  · exact .inl (.inl (s.tup _ _ h))
  · exact .inl (.inr ⟨o, s.frt _ _ _ h⟩)
  · exact .inr h
/-- a store of a list or a dict at a place of its own -/
def mutO : HO → Bool
  | .tup _ => false
  | .frz _ _ => false
  | _ => true
theorem Stb.upd {H : Hp} {a : Addr} {o u : HO} (h : H a = some o) (m : mutO o = true) : Stb H (upd H a u) := by
  refine ⟨fun b xs e => ?_, fun b q xs e => ?_, fun b q xs e => ?_⟩ <;>
  · by_cases hb : b = a
    · subst hb
      rw [h] at e
      cases e
      cases m
    · rw [upd_ne hb]
      exact e
/-- a dict that is locked is read as the dict -/
def stripD : Option HO → Option HO
  | some (.frz _ (.dK k)) => some (.dK k)
  | some (.frz _ (.dT k)) => some (.dT k)
  | o => o
theorem strip_lst {H : Hp} {a : Addr} {vs : List V} (h : stripD (H a) = some (.lst vs)) : H a = some (.lst vs) := by
  unfold stripD at h
  split at h <;> first | exact h | cases h
theorem strip_dK {H : Hp} {a : Addr} {k : List (Key × V)} (h : stripD (H a) = some (.dK k)) : H a = some (.dK k) ∨ ∃ o, H a = some (.frz o (.dK k)) := by
  unfold stripD at h
  split at h
  · rename_i e; cases h; exact .inr ⟨_, e⟩
  · cases h
  · exact .inl h
theorem strip_dT {H : Hp} {a : Addr} {k : List (List Key × V)} (h : stripD (H a) = some (.dT k)) : H a = some (.dT k) ∨ ∃ o, H a = some (.frz o (.dT k)) := by
  unfold stripD at h
  split at h
  · cases h
  · rename_i e; cases h; exact .inr ⟨_, e⟩
  · exact .inl h
theorem strip_of {H : Hp} {a : Addr} {o : HO} (h : H a = some o) (m : mutO o = true) : stripD (H a) = some o := by
  rw [h]
  cases o <;> first | rfl | cases m
theorem strip_some {x : Option HO} {o : HO} (h : stripD x = some o) : x.isSome = true := by
  cases x with
  | none => cases h
  | some y => rfl
theorem same_new {H : Hp} {a : Addr} {o : HO} (h : H a = none) : Same H (L2.upd H a o) := fun b q e => by
  rw [upd_ne (ne_of_none e h)]
  exact e

/-- a list that is read: a tracked one within R, or one that never changes -/
def LstR (K : PySem.W.Frag) (H : Hp) (R : Reg) (a : Addr) (vs : List V) : Prop :=
  (R a ∧ stripD (H a) = some (.lst vs)) ∨ (∃ o, H a = some (.frz o (.lst vs))) ∨
    ∃ (o : Obj) (its : Array Value) (n : Nat), K.lookup a = some o ∧ o.cls = .type "list" ∧ o.dict = none ∧ o.data = .seq its n ∧ its.size ≤ sizeLine ∧ Vals vs its.toList
section
variable (K : PySem.W.Frag) (H : Hp)
/-- a dict that is read -/
def DicK (R : Reg) (a : Addr) (kvs : List (Key × V)) : Prop := R a ∧ stripD (H a) = some (.dK kvs)
def DicT (R : Reg) (a : Addr) (kvs : List (List Key × V)) : Prop := R a ∧ stripD (H a) = some (.dT kvs)

/-- data that is read alone: all its cells lie in R. first: as a value; second: a row of values (a tuple's items) -/
def rS (R : Reg) : (t : Ty) → (V → den t → Prop) × (List V → den t → Prop)
  | .non => (fun v _ => v = .non, fun _ _ => False)
  | .bool => (fun v d => v = .bl d, fun _ _ => False)
  | .int => (fun v d => v = .int d, fun _ _ => False)
  | .str => (fun v d => v = .str d ∧ PyData.strOk d = true, fun _ _ => False)
  | .any => (fun v d => dv H d v, fun _ _ => False)
  | .opt t => (fun v d => match d with
      | none => v = .non
      | some x => v ≠ .non ∧ (rS R t).1 v x, fun _ _ => False)
  | .vtup t => (fun v d => ∃ a vs, v = .ref a ∧ H a = some (.tup vs) ∧ F2 (rS R t).1 vs d, fun _ _ => False)
  | .list t => (fun v d => ∃ a vs, v = .ref a ∧ LstR K H R a vs ∧ F2 (rS R t).1 vs d, fun _ _ => False)
  | .dict k t => (fun v d => ∃ a, v = .ref a ∧
      ((k.tk = false ∧ ∃ kvs, DicK H R a kvs ∧ F2 (fun p q => keyS k q.1 = some p.1 ∧ (rS R t).1 p.2 q.2) kvs d) ∨
       (k.tk = true ∧ ∃ kvs, DicT H R a kvs ∧ F2 (fun p q => keyT k q.1 = some p.1 ∧ (rS R t).1 p.2 q.2) kvs d)), fun _ _ => False)
  | .own t => rS R t
  | .tup b => (fun v d => ∃ a vs, v = .ref a ∧ H a = some (.tup vs) ∧ (rS R b).2 vs d, fun _ _ => False)
  | .last a => (fun _ _ => False, fun vs d => ∃ v, vs = [v] ∧ (rS R a).1 v d)
  | .cons a b => (fun _ _ => False, fun vs d => ∃ v r, vs = v :: r ∧ (rS R a).1 v d.1 ∧ (rS R b).2 r d.2)

/-- within owned data: a part that is shared, or owned itself -/
def kid {α : Type} (own : Bool) (s : V → α → Prop) (o : V → α → List Addr → Prop) : V → α → List Addr → Prop := fun v d f => o v d f ∨ (own = false ∧ f = [] ∧ s v d)
/-- data that is owned: its cells are just f (its shared parts' lie in L) -/
def rO (L : Reg) : (t : Ty) → (V → den t → List Addr → Prop) × (List V → den t → List Addr → Prop)
  | .non => (fun v _ f => f = [] ∧ v = .non, fun _ _ _ => False)
  | .bool => (fun v d f => f = [] ∧ v = .bl d, fun _ _ _ => False)
  | .int => (fun v d f => f = [] ∧ v = .int d, fun _ _ _ => False)
  | .str => (fun v d f => f = [] ∧ v = .str d ∧ PyData.strOk d = true, fun _ _ _ => False)
  | .any => (fun v d f => f = [] ∧ dv H d v, fun _ _ _ => False)
  | .opt t => (fun v d f => match d with
      | none => f = [] ∧ v = .non
      | some x => v ≠ .non ∧ kid t.isOwn (rS K H L t).1 (rO L t).1 v x f, fun _ _ _ => False)
  | .vtup t => (fun v d f => ∃ a vs, v = .ref a ∧ H a = some (.tup vs) ∧ F3 (kid t.isOwn (rS K H L t).1 (rO L t).1) vs d f, fun _ _ _ => False)
  | .list t => (fun v d f => ∃ a vs g, v = .ref a ∧ f = a :: g ∧ H a = some (.lst vs) ∧ F3 (kid t.isOwn (rS K H L t).1 (rO L t).1) vs d g, fun _ _ _ => False)
  | .dict k t => (fun v d f => ∃ a g, v = .ref a ∧ f = a :: g ∧
      ((k.tk = false ∧ ∃ kvs, H a = some (.dK kvs) ∧ F3 (fun p q g => keyS k q.1 = some p.1 ∧ kid t.isOwn (rS K H L t).1 (rO L t).1 p.2 q.2 g) kvs d g) ∨
       (k.tk = true ∧ ∃ kvs, H a = some (.dT kvs) ∧ F3 (fun p q g => keyT k q.1 = some p.1 ∧ kid t.isOwn (rS K H L t).1 (rO L t).1 p.2 q.2 g) kvs d g)), fun _ _ _ => False)
  | .own t => rO L t
  | .tup b => (fun v d f => ∃ a vs, v = .ref a ∧ H a = some (.tup vs) ∧ (rO L b).2 vs d f, fun _ _ _ => False)
  | .last a => (fun _ _ _ => False, fun vs d f => ∃ v, vs = [v] ∧ kid a.isOwn (rS K H L a).1 (rO L a).1 v d f)
  | .cons a b => (fun _ _ _ => False, fun vs d f => ∃ v r f1 f2, vs = v :: r ∧ f = f1 ++ f2 ∧ kid a.isOwn (rS K H L a).1 (rO L a).1 v d.1 f1 ∧ (rO L b).2 r d.2 f2)
end

section
variable {K : PySem.W.Frag} {H H' : Hp} {R R' L L' : Reg}
mutual
theorem dv_mono (s : Stb H H') : ∀ (d : PyData) (v : V), dv H d v → dv H' d v
  | .none, _, h => h
  | .bool _, _, h => h
  | .int _, _, h => h
  | .str _, _, h => h
  | .list _, _, h => h.elim
  | .tuple ds, _, h => by
    obtain ⟨a, vs, e, h1, h2⟩ := h
    exact ⟨a, vs, e, s.tup _ _ h1, dvs_mono s ds vs h2⟩
  | .dict _, _, h => h.elim
theorem dvs_mono (s : Stb H H') : ∀ (ds : List PyData) (vs : List V), dvs H ds vs → dvs H' ds vs
  | [], _, h => h
  | d :: ds, _, h => by
    obtain ⟨v, r, e, h1, h2⟩ := h
    exact ⟨v, r, e, dv_mono s d v h1, dvs_mono s ds r h2⟩
end
mutual
theorem dv_dp : ∀ (d : PyData) (v : V), dv H d v → Dp K H v d
  | .none, _, h => by cases h; exact .non
  | .bool _, _, h => by cases h; exact .bl _
  | .int _, _, h => by cases h; exact .int _
  | .str _, _, h => by obtain ⟨rfl, _⟩ := h; exact .str _
  | .list _, _, h => h.elim
  | .tuple ds, _, h => by
    obtain ⟨a, vs, rfl, h1, h2⟩ := h
    exact .tup (.of h1) (dvs_dp ds vs h2)
  | .dict _, _, h => h.elim
theorem dvs_dp : ∀ (ds : List PyData) (vs : List V), dvs H ds vs → DpAll K H vs ds
  | [], _, h => by cases h; exact .nil
  | d :: ds, _, h => by
    obtain ⟨v, r, rfl, h1, h2⟩ := h
    exact .cons (dv_dp d v h1) (dvs_dp ds r h2)
end
/-- what R's cells hold is held in R' -/
def Cov (H H' : Hp) (R R' : Reg) : Prop := ∀ a o, R a → stripD (H a) = some o → R' a ∧ stripD (H' a) = some o
theorem Cov.refl (H : Hp) (R : Reg) : Cov H H R R := fun _ _ h e => ⟨h, e⟩
theorem Cov.of_same (s : Same H H') (h : ∀ a, R a → (H a).isSome = true → R' a) : Cov H H' R R' := fun a o hr e => by
  refine ⟨h a hr (strip_some e), ?_⟩
  cases q : H a with
  | none => rw [q] at e; cases e
  | some x => rw [s _ _ q, ← q]; exact e
theorem Cov.of_reg (h : ∀ a, R a → (H a).isSome = true → R' a) : Cov H H R R' := Cov.of_same (Same.refl H) h
theorem LstR.mono {a : Addr} {vs : List V} (hc : Cov H H' R R') (hs : Stb H H') (h : LstR K H R a vs) : LstR K H' R' a vs := by
  rcases h with ⟨h1, h2⟩ | ⟨o, h⟩ | h
  · exact .inl (hc _ _ h1 h2)
  · exact .inr (.inl ⟨o, hs.frl _ _ _ h⟩)
  · exact .inr (.inr h)
theorem LstR.seq {a : Addr} {vs : List V} (h : LstR K H R a vs) : SqL K H a vs := by
  rcases h with ⟨h1, h2⟩ | ⟨o, h⟩ | h
  · exact .inl (.inl (strip_lst h2))
  · exact .inl (.inr ⟨o, h⟩)
  · exact .inr h
theorem LstR.of_seq {a : Addr} {vs : List V} (h : SqL K H a vs) : LstR K H (fun a => (H a).isSome = true) a vs := by
  rcases h with (h | ⟨o, h⟩) | h
  · exact .inl ⟨by show (H a).isSome = true; rw [h]; rfl, by rw [h]; rfl⟩
  · exact .inr (.inl ⟨o, h⟩)
  · exact .inr (.inr h)
theorem DicK.mono {a : Addr} {kvs : List (Key × V)} (hc : Cov H H' R R') (h : DicK H R a kvs) : DicK H' R' a kvs := hc _ _ h.1 h.2
theorem DicT.mono {a : Addr} {kvs : List (List Key × V)} (hc : Cov H H' R R') (h : DicT H R a kvs) : DicT H' R' a kvs := hc _ _ h.1 h.2
theorem rS_mono (hc : Cov H H' R R') (hs : Stb H H') : ∀ t : Ty,
    (∀ v d, (rS K H R t).1 v d → (rS K H' R' t).1 v d) ∧ (∀ vs d, (rS K H R t).2 vs d → (rS K H' R' t).2 vs d) := by
  intro t
  induction t with
  | non => exact ⟨fun _ _ h => h, fun _ _ h => h⟩
  | bool => exact ⟨fun _ _ h => h, fun _ _ h => h⟩
  | int => exact ⟨fun _ _ h => h, fun _ _ h => h⟩
  | str => exact ⟨fun _ _ h => h, fun _ _ h => h⟩
  | any => exact ⟨fun v d h => dv_mono hs d v h, fun _ _ h => h⟩
  | opt t ih =>
    refine ⟨fun v d h => ?_, fun _ _ h => h⟩
    cases d with
    | none => exact h
    | some x => exact ⟨h.1, ih.1 v x h.2⟩
  | vtup t ih =>
    refine ⟨fun v d h => ?_, fun _ _ h => h⟩
    obtain ⟨a, vs, e, h1, h2⟩ := h
    exact ⟨a, vs, e, hs.tup _ _ h1, h2.imp ih.1⟩
  | list t ih =>
    refine ⟨fun v d h => ?_, fun _ _ h => h⟩
    obtain ⟨a, vs, e, h1, h2⟩ := h
    exact ⟨a, vs, e, h1.mono hc hs, h2.imp ih.1⟩
  | dict k t _ ih =>
    refine ⟨fun v d h => ?_, fun _ _ h => h⟩
    obtain ⟨a, e, ⟨k1, kvs, h1, h2⟩ | ⟨k1, kvs, h1, h2⟩⟩ := h
    · exact ⟨a, e, .inl ⟨k1, kvs, h1.mono hc, h2.imp fun p q x => ⟨x.1, ih.1 _ _ x.2⟩⟩⟩
    · exact ⟨a, e, .inr ⟨k1, kvs, h1.mono hc, h2.imp fun p q x => ⟨x.1, ih.1 _ _ x.2⟩⟩⟩
  | own t ih => exact ih
  | tup b ih =>
    refine ⟨fun v d h => ?_, fun _ _ h => h⟩
    obtain ⟨a, vs, e, h1, h2⟩ := h
    exact ⟨a, vs, e, hs.tup _ _ h1, ih.2 _ _ h2⟩
  | last a ih =>
    refine ⟨fun _ _ h => h, fun vs d h => ?_⟩
    obtain ⟨v, e, h⟩ := h
    exact ⟨v, e, ih.1 _ _ h⟩
  | cons a b iha ihb =>
    refine ⟨fun _ _ h => h, fun vs d h => ?_⟩
    obtain ⟨v, r, e, h1, h2⟩ := h
    exact ⟨v, r, e, iha.1 _ _ h1, ihb.2 _ _ h2⟩
theorem kid_mono {α : Type} {own : Bool} {s s' : V → α → Prop} {o o' : V → α → List Addr → Prop} {f : List Addr} {v : V} {d : α} (h1 : s v d → s' v d) (h2 : o v d f → o' v d f) (h : kid own s o v d f) : kid own s' o' v d f := by
  rcases h with h | ⟨h3, h4, h⟩
  · exact .inl (h2 h)
  · exact .inr ⟨h3, h4, h1 h⟩
theorem rO_mono (hc : Cov H H' L L') (hs : Stb H H') : ∀ t : Ty,
    (∀ v d f, (∀ a ∈ f, H' a = H a) → (rO K H L t).1 v d f → (rO K H' L' t).1 v d f) ∧ (∀ vs d f, (∀ a ∈ f, H' a = H a) → (rO K H L t).2 vs d f → (rO K H' L' t).2 vs d f) := by
  intro t
  have sm : ∀ t v d, (rS K H L t).1 v d → (rS K H' L' t).1 v d := fun t => (rS_mono hc hs t).1
  induction t with
  | non => exact ⟨fun _ _ _ _ h => h, fun _ _ _ _ h => h⟩
  | bool => exact ⟨fun _ _ _ _ h => h, fun _ _ _ _ h => h⟩
  | int => exact ⟨fun _ _ _ _ h => h, fun _ _ _ _ h => h⟩
  | str => exact ⟨fun _ _ _ _ h => h, fun _ _ _ _ h => h⟩
  | any => exact ⟨fun v d f _ h => ⟨h.1, dv_mono hs d v h.2⟩, fun _ _ _ _ h => h⟩
  | opt t ih =>
    refine ⟨fun v d f hf h => ?_, fun _ _ _ _ h => h⟩
    cases d with
    | none => exact h
    | some x => exact ⟨h.1, kid_mono (sm t v x) (ih.1 v x f hf) h.2⟩
  | vtup t ih =>
    refine ⟨fun v d f hf h => ?_, fun _ _ _ _ h => h⟩
    obtain ⟨a, vs, e, h1, h2⟩ := h
    exact ⟨a, vs, e, hs.tup _ _ h1, h2.imp fun v d g hg x => kid_mono (sm t v d) (ih.1 v d g fun a ha => hf a (hg a ha)) x⟩
  | list t ih =>
    refine ⟨fun v d f hf h => ?_, fun _ _ _ _ h => h⟩
    obtain ⟨a, vs, g, e, rfl, h1, h2⟩ := h
    exact ⟨a, vs, g, e, rfl, (hf a List.mem_cons_self).trans h1, h2.imp fun v d g' hg x => kid_mono (sm t v d) (ih.1 v d g' fun a ha => hf a (List.mem_cons_of_mem _ (hg a ha))) x⟩
  | dict k t _ ih =>
    refine ⟨fun v d f hf h => ?_, fun _ _ _ _ h => h⟩
    obtain ⟨a, g, e, rfl, ⟨k1, kvs, h1, h2⟩ | ⟨k1, kvs, h1, h2⟩⟩ := h
    · exact ⟨a, g, e, rfl, .inl ⟨k1, kvs, (hf a List.mem_cons_self).trans h1, h2.imp fun p q g' hg x => ⟨x.1, kid_mono (sm t _ _) (ih.1 _ _ g' fun a ha => hf a (List.mem_cons_of_mem _ (hg a ha))) x.2⟩⟩⟩
    · exact ⟨a, g, e, rfl, .inr ⟨k1, kvs, (hf a List.mem_cons_self).trans h1, h2.imp fun p q g' hg x => ⟨x.1, kid_mono (sm t _ _) (ih.1 _ _ g' fun a ha => hf a (List.mem_cons_of_mem _ (hg a ha))) x.2⟩⟩⟩
  | own t ih => exact ih
  | tup b ih =>
    refine ⟨fun v d f hf h => ?_, fun _ _ _ _ h => h⟩
    obtain ⟨a, vs, e, h1, h2⟩ := h
    exact ⟨a, vs, e, hs.tup _ _ h1, ih.2 _ _ _ hf h2⟩
  | last a ih =>
    refine ⟨fun _ _ _ _ h => h, fun vs d f hf h => ?_⟩
    obtain ⟨v, e, h⟩ := h
    exact ⟨v, e, kid_mono (sm a v d) (ih.1 v d f hf) h⟩
  | cons a b iha ihb =>
    refine ⟨fun _ _ _ _ h => h, fun vs d f hf h => ?_⟩
    obtain ⟨v, r, f1, f2, e, rfl, h1, h2⟩ := h
    exact ⟨v, r, f1, f2, e, rfl, kid_mono (sm a v d.1) (iha.1 v d.1 f1 fun a ha => hf a (List.mem_append_left _ ha)) h1, ihb.2 _ _ _ (fun a ha => hf a (List.mem_append_right _ ha)) h2⟩
theorem kid_s {t : Ty} {f : List Addr} {v : V} {d : den t} (hL : ∀ a, L a → R a) (h2 : (rO K H L t).1 v d f → (rS K H R t).1 v d) (h : kid t.isOwn (rS K H L t).1 (rO K H L t).1 v d f) : (rS K H R t).1 v d := by
  rcases h with h | ⟨_, _, h⟩
  · exact h2 h
  · exact (rS_mono (Cov.of_reg fun a h _ => hL a h) (Stb.refl H) t).1 v d h
/-- owned data, from now on shared -/
theorem rO_s (hL : ∀ a, L a → R a) : ∀ t : Ty,
    (∀ v d f, (∀ a ∈ f, R a) → (rO K H L t).1 v d f → (rS K H R t).1 v d) ∧ (∀ vs d f, (∀ a ∈ f, R a) → (rO K H L t).2 vs d f → (rS K H R t).2 vs d) := by
  intro t
  induction t with
  | non => exact ⟨fun _ _ _ _ h => h.2, fun _ _ _ _ h => h⟩
  | bool => exact ⟨fun _ _ _ _ h => h.2, fun _ _ _ _ h => h⟩
  | int => exact ⟨fun _ _ _ _ h => h.2, fun _ _ _ _ h => h⟩
  | str => exact ⟨fun _ _ _ _ h => h.2, fun _ _ _ _ h => h⟩
  | any => exact ⟨fun v d f _ h => h.2, fun _ _ _ _ h => h⟩
  | opt t ih =>
    refine ⟨fun v d f hf h => ?_, fun _ _ _ _ h => h⟩
    cases d with
    | none => exact h.2
    | some x => exact ⟨h.1, kid_s hL (ih.1 v x f hf) h.2⟩
  | vtup t ih =>
    refine ⟨fun v d f hf h => ?_, fun _ _ _ _ h => h⟩
    obtain ⟨a, vs, e, h1, h2⟩ := h
    exact ⟨a, vs, e, h1, h2.to2 fun v d g hg x => kid_s hL (ih.1 v d g fun a ha => hf a (hg a ha)) x⟩
  | list t ih =>
    refine ⟨fun v d f hf h => ?_, fun _ _ _ _ h => h⟩
    obtain ⟨a, vs, g, e, rfl, h1, h2⟩ := h
    exact ⟨a, vs, e, .inl ⟨hf a List.mem_cons_self, strip_of h1 rfl⟩, h2.to2 fun v d g' hg x => kid_s hL (ih.1 v d g' fun a ha => hf a (List.mem_cons_of_mem _ (hg a ha))) x⟩
  | dict k t _ ih =>
    refine ⟨fun v d f hf h => ?_, fun _ _ _ _ h => h⟩
    obtain ⟨a, g, e, rfl, ⟨k1, kvs, h1, h2⟩ | ⟨k1, kvs, h1, h2⟩⟩ := h
    · exact ⟨a, e, .inl ⟨k1, kvs, ⟨hf a List.mem_cons_self, strip_of h1 rfl⟩, h2.to2 fun p q g' hg x => ⟨x.1, kid_s hL (ih.1 _ _ g' fun a ha => hf a (List.mem_cons_of_mem _ (hg a ha))) x.2⟩⟩⟩
    · exact ⟨a, e, .inr ⟨k1, kvs, ⟨hf a List.mem_cons_self, strip_of h1 rfl⟩, h2.to2 fun p q g' hg x => ⟨x.1, kid_s hL (ih.1 _ _ g' fun a ha => hf a (List.mem_cons_of_mem _ (hg a ha))) x.2⟩⟩⟩
  | own t ih => exact ih
  | tup b ih =>
    refine ⟨fun v d f hf h => ?_, fun _ _ _ _ h => h⟩
    obtain ⟨a, vs, e, h1, h2⟩ := h
    exact ⟨a, vs, e, h1, ih.2 _ _ _ hf h2⟩
  | last a ih =>
    refine ⟨fun _ _ _ _ h => h, fun vs d f hf h => ?_⟩
    obtain ⟨v, e, h⟩ := h
    exact ⟨v, e, kid_s hL (ih.1 v d f hf) h⟩
  | cons a b iha ihb =>
    refine ⟨fun _ _ _ _ h => h, fun vs d f hf h => ?_⟩
    obtain ⟨v, r, f1, f2, e, rfl, h1, h2⟩ := h
    exact ⟨v, r, e, kid_s hL (iha.1 v d.1 f1 fun a ha => hf a (List.mem_append_left _ ha)) h1, ihb.2 _ _ _ (fun a ha => hf a (List.mem_append_right _ ha)) h2⟩
/-- data without cells: shared anywhere -/
theorem rS_frz : ∀ t : Ty, t.frz = true → (∀ v d, (rS K H R t).1 v d → (rS K H R' t).1 v d) ∧ (∀ vs d, (rS K H R t).2 vs d → (rS K H R' t).2 vs d) := by
  intro t
  induction t with
  | non => exact fun _ => ⟨fun _ _ h => h, fun _ _ h => h⟩
  | bool => exact fun _ => ⟨fun _ _ h => h, fun _ _ h => h⟩
  | int => exact fun _ => ⟨fun _ _ h => h, fun _ _ h => h⟩
  | str => exact fun _ => ⟨fun _ _ h => h, fun _ _ h => h⟩
  | any => exact fun _ => ⟨fun _ _ h => h, fun _ _ h => h⟩
  | opt t ih =>
    intro q
    refine ⟨fun v d h => ?_, fun _ _ h => h⟩
    cases d with
    | none => exact h
    | some x => exact ⟨h.1, (ih q).1 v x h.2⟩
  | vtup t ih =>
    intro q
    refine ⟨fun v d h => ?_, fun _ _ h => h⟩
    obtain ⟨a, vs, e, h1, h2⟩ := h
    exact ⟨a, vs, e, h1, h2.imp (ih q).1⟩
  | list t ih => exact fun q => absurd q (by simp [Ty.frz])
  | dict k t _ ih => exact fun q => absurd q (by simp [Ty.frz])
  | own t ih => exact fun q => absurd q (by simp [Ty.frz])
  | tup b ih =>
    intro q
    refine ⟨fun v d h => ?_, fun _ _ h => h⟩
    obtain ⟨a, vs, e, h1, h2⟩ := h
    exact ⟨a, vs, e, h1, (ih q).2 _ _ h2⟩
  | last a ih =>
    intro q
    refine ⟨fun _ _ h => h, fun vs d h => ?_⟩
    obtain ⟨v, e, h⟩ := h
    exact ⟨v, e, (ih q).1 _ _ h⟩
  | cons a b iha ihb =>
    intro q
    simp only [Ty.frz, Bool.and_eq_true] at q
    refine ⟨fun _ _ h => h, fun vs d h => ?_⟩
    obtain ⟨v, r, e, h1, h2⟩ := h
    exact ⟨v, r, e, (iha q.1).1 _ _ h1, (ihb q.2).2 _ _ h2⟩
theorem frz_own {t : Ty} (h : t.frz = true) : t.isOwn = false := by cases t <;> first | rfl | (simp [Ty.frz] at h)
/-- .. and owned is the same as shared -/
theorem rO_frz : ∀ t : Ty, t.frz = true → (∀ v d f, (rO K H L t).1 v d f → f = [] ∧ (rS K H R t).1 v d) ∧ (∀ vs d f, (rO K H L t).2 vs d f → f = [] ∧ (rS K H R t).2 vs d) := by
  intro t
  have kd : ∀ t : Ty, t.frz = true → (∀ v d f, (rO K H L t).1 v d f → f = [] ∧ (rS K H R t).1 v d) → ∀ v d f, kid t.isOwn (rS K H L t).1 (rO K H L t).1 v d f → f = [] ∧ (rS K H R t).1 v d := fun t q ih v d f h => by
    rcases h with h | ⟨_, e, h⟩
    · exact ih v d f h
    · exact ⟨e, (rS_frz t q).1 v d h⟩
  induction t with
  | non => exact fun _ => ⟨fun _ _ _ h => h, fun _ _ _ h => h.elim⟩
  | bool => exact fun _ => ⟨fun _ _ _ h => h, fun _ _ _ h => h.elim⟩
  | int => exact fun _ => ⟨fun _ _ _ h => h, fun _ _ _ h => h.elim⟩
  | str => exact fun _ => ⟨fun _ _ _ h => h, fun _ _ _ h => h.elim⟩
  | any => exact fun _ => ⟨fun _ _ _ h => h, fun _ _ _ h => h.elim⟩
  | opt t ih =>
    intro q
    refine ⟨fun v d f h => ?_, fun _ _ _ h => h.elim⟩
    cases d with
    | none => exact h
    | some x =>
      have := kd t q (ih q).1 v x f h.2
      exact ⟨this.1, h.1, this.2⟩
  | vtup t ih =>
    intro q
    refine ⟨fun v d f h => ?_, fun _ _ _ h => h.elim⟩
    obtain ⟨a, vs, e, h1, h2⟩ := h
    exact ⟨h2.nil_of fun v d f x => (kd t q (ih q).1 v d f x).1, a, vs, e, h1, h2.to2 fun v d g _ x => (kd t q (ih q).1 v d g x).2⟩
  | list t ih => exact fun q => absurd q (by simp [Ty.frz])
  | dict k t _ ih => exact fun q => absurd q (by simp [Ty.frz])
  | own t ih => exact fun q => absurd q (by simp [Ty.frz])
  | tup b ih =>
    intro q
    refine ⟨fun v d f h => ?_, fun _ _ _ h => h.elim⟩
    obtain ⟨a, vs, e, h1, h2⟩ := h
    have := (ih q).2 _ _ _ h2
    exact ⟨this.1, a, vs, e, h1, this.2⟩
  | last a ih =>
    intro q
    refine ⟨fun _ _ _ h => h.elim, fun vs d f h => ?_⟩
    obtain ⟨v, e, h⟩ := h
    have := kd a q (ih q).1 v d f h
    exact ⟨this.1, v, e, this.2⟩
  | cons a b iha ihb =>
    intro q
    simp only [Ty.frz, Bool.and_eq_true] at q
    refine ⟨fun _ _ _ h => h.elim, fun vs d f h => ?_⟩
    obtain ⟨v, r, f1, f2, e, rfl, h1, h2⟩ := h
    have h1' := kd a q.1 (iha q.1).1 v d.1 f1 h1
    have h2' := (ihb q.2).2 _ _ _ h2
    exact ⟨by rw [h1'.1, h2'.1]; rfl, v, r, e, h1'.2, h2'.2⟩
theorem rS_o : ∀ t : Ty, t.frz = true → (∀ v d, (rS K H R t).1 v d → (rO K H L t).1 v d []) ∧ (∀ vs d, (rS K H R t).2 vs d → (rO K H L t).2 vs d []) := by
  intro t
  induction t with
  | non => exact fun _ => ⟨fun _ _ h => ⟨rfl, h⟩, fun _ _ h => h⟩
  | bool => exact fun _ => ⟨fun _ _ h => ⟨rfl, h⟩, fun _ _ h => h⟩
  | int => exact fun _ => ⟨fun _ _ h => ⟨rfl, h⟩, fun _ _ h => h⟩
  | str => exact fun _ => ⟨fun _ _ h => ⟨rfl, h⟩, fun _ _ h => h⟩
  | any => exact fun _ => ⟨fun _ _ h => ⟨rfl, h⟩, fun _ _ h => h⟩
  | opt t ih =>
    intro q
    refine ⟨fun v d h => ?_, fun _ _ h => h⟩
    cases d with
    | none => exact ⟨rfl, h⟩
    | some x => exact ⟨h.1, .inl ((ih q).1 v x h.2)⟩
  | vtup t ih =>
    intro q
    refine ⟨fun v d h => ?_, fun _ _ h => h⟩
    obtain ⟨a, vs, e, h1, h2⟩ := h
    exact ⟨a, vs, e, h1, F3.of2 (fun v d x => .inl ((ih q).1 v d x)) h2⟩
  | list t ih => exact fun q => absurd q (by simp [Ty.frz])
  | dict k t _ ih => exact fun q => absurd q (by simp [Ty.frz])
  | own t ih => exact fun q => absurd q (by simp [Ty.frz])
  | tup b ih =>
    intro q
    refine ⟨fun v d h => ?_, fun _ _ h => h⟩
    obtain ⟨a, vs, e, h1, h2⟩ := h
    exact ⟨a, vs, e, h1, (ih q).2 _ _ h2⟩
  | last a ih =>
    intro q
    refine ⟨fun _ _ h => h, fun vs d h => ?_⟩
    obtain ⟨v, e, h⟩ := h
    exact ⟨v, e, .inl ((ih q).1 _ _ h)⟩
  | cons a b iha ihb =>
    intro q
    simp only [Ty.frz, Bool.and_eq_true] at q
    refine ⟨fun _ _ h => h, fun vs d h => ?_⟩
    obtain ⟨v, r, e, h1, h2⟩ := h
    exact ⟨v, r, [], [], e, rfl, .inl ((iha q.1).1 _ _ h1), (ihb q.2).2 _ _ h2⟩
end
end VV

/-! VOwn: the locals of a def as one typed row, what is owned of them, and the judgements. -/
namespace VV
open PySem L2

@[reducible] def Gam : List Ty → Type
  | [] => Unit
  | t :: ts => Option (den t) × Gam ts
inductive Mem : List Ty → Ty → Type where
  | z {t : Ty} {ts : List Ty} : Mem (t :: ts) t
  | s {u t : Ty} {ts : List Ty} : Mem ts t → Mem (u :: ts) t
def Mem.ix : {ts : List Ty} → {t : Ty} → Mem ts t → Nat
  | _, _, .z => 0
  | _, _, .s i => i.ix + 1
def Mem.get : {ts : List Ty} → {t : Ty} → Mem ts t → Gam ts → Option (den t)
  | _, _, .z, Γ => Γ.1
  | _, _, .s i, Γ => i.get Γ.2
def Mem.set : {ts : List Ty} → {t : Ty} → Mem ts t → Option (den t) → Gam ts → Gam ts
  | _, _, .z, d, Γ => (d, Γ.2)
  | _, _, .s i, d, Γ => (Γ.1, i.set d Γ.2)
/-- forget the names that the mask leaves out -/
def Gam.mask : {ts : List Ty} → List Bool → Gam ts → Gam ts
  | [], _, _ => ()
  | _ :: _, [], Γ => Γ
  | _ :: _, b :: bs, Γ => (if b then Γ.1 else none, Gam.mask bs Γ.2)
theorem Mem.set_set : ∀ {ts : List Ty} {t : Ty} (i : Mem ts t) (d e : Option (den t)) (Γ : Gam ts), i.set d (i.set e Γ) = i.set d Γ
  | _, _, .z, _, _, _ => rfl
  | _, _, .s i, d, e, Γ => by
    show (Γ.1, i.set d (i.set e Γ.2)) = (Γ.1, i.set d Γ.2)
    rw [Mem.set_set i]
theorem Mem.get_set : ∀ {ts : List Ty} {t : Ty} (i : Mem ts t) (d : Option (den t)) (Γ : Gam ts), i.get (i.set d Γ) = d
  | _, _, .z, _, _ => rfl
  | _, _, .s i, d, Γ => Mem.get_set i d Γ.2
theorem Mem.get_set_ne : ∀ {ts : List Ty} {t u : Ty} (i : Mem ts t) (j : Mem ts u) (d : Option (den t)) (Γ : Gam ts), i.ix ≠ j.ix → j.get (i.set d Γ) = j.get Γ
  | _, _, _, .z, .z, _, _, h => absurd rfl h
  | _, _, _, .z, .s j, _, _, _ => rfl
  | _, _, _, .s i, .z, _, _, _ => rfl
  | _, _, _, .s i, .s j, d, Γ, h => Mem.get_set_ne i j d Γ.2 fun e => h (congrArg (· + 1) e)

/-- how a name holds: o: owned; l: shared, made within the def; w: shared, perhaps the caller's; f: as w, and not to be stored now -/
inductive Md where
  | o | l | w | f | k
  deriving DecidableEq
/-- not to be stored now (k: owned, and not to be changed now) -/
def Md.hard : Md → Bool
  | .f => true
  | .k => true
  | _ => false
section
variable (K : PySem.W.Frag) (H : Hp) (S0 L : Reg)
def repM : Md → (t : Ty) → V → den t → List Addr → Prop
  | .o, t, v, d, f => (rO K H L t).1 v d f
  | .l, t, v, d, f => f = [] ∧ (rS K H L t).1 v d
  | .w, t, v, d, f => f = [] ∧ (rS K H (fun a => S0 a ∨ L a) t).1 v d
  | .f, t, v, d, f => f = [] ∧ (rS K H (fun a => S0 a ∨ L a) t).1 v d
  | .k, t, v, d, f => (rO K H L t).1 v d f
def slot (m : Md) (t : Ty) : Option (den t) → Option V → List Addr → Prop
  | none, _, f => f = []
  | some d, s, f => ∃ v, s = some v ∧ repM K H S0 L m t v d f
def rG : List Md → (ts : List Ty) → Gam ts → St → List Addr → Prop
  | [], [], _, σ, fp => σ = [] ∧ fp = []
  | m :: ms, t :: ts, Γ, s :: σ, fp => ∃ f1 f2, fp = f1 ++ f2 ∧ slot K H S0 L m t Γ.1 s f1 ∧ rG ms ts Γ.2 σ f2
  | _, _, _, _, _ => False
end
section
variable {K : PySem.W.Frag} {H H' : Hp} {S0 L L' : Reg}
theorem repM_mono {m : Md} {t : Ty} {v : V} {d : den t} {f : List Addr} (hS : Cov H H' S0 S0) (hL : Cov H H' L L') (hs : Stb H H') (hf : ∀ a ∈ f, H' a = H a) (h : repM K H S0 L m t v d f) : repM K H' S0 L' m t v d f := by
  have hw : Cov H H' (fun a => S0 a ∨ L a) (fun a => S0 a ∨ L' a) := fun a o hr e => by
    rcases hr with hr | hr
    · exact ⟨.inl (hS a o hr e).1, (hS a o hr e).2⟩
    · exact ⟨.inr (hL a o hr e).1, (hL a o hr e).2⟩
  cases m with
  | o => exact (rO_mono hL hs t).1 v d f hf h
  | k => exact (rO_mono hL hs t).1 v d f hf h
  | l => exact ⟨h.1, (rS_mono hL hs t).1 v d h.2⟩
  | w => exact ⟨h.1, (rS_mono hw hs t).1 v d h.2⟩
  | f => exact ⟨h.1, (rS_mono hw hs t).1 v d h.2⟩
theorem slot_mono {m : Md} {t : Ty} {d : Option (den t)} {s : Option V} {f : List Addr} (hS : Cov H H' S0 S0) (hL : Cov H H' L L') (hs : Stb H H') (hf : ∀ a ∈ f, H' a = H a) (h : slot K H S0 L m t d s f) : slot K H' S0 L' m t d s f := by
  cases d with
  | none => exact h
  | some d =>
    obtain ⟨v, e, h⟩ := h
    exact ⟨v, e, repM_mono hS hL hs hf h⟩
theorem rG_mono (hS : Cov H H' S0 S0) (hL : Cov H H' L L') (hs : Stb H H') : ∀ {ms : List Md} {ts : List Ty} {Γ : Gam ts} {σ : St} {fp : List Addr}, (∀ a ∈ fp, H' a = H a) → rG K H S0 L ms ts Γ σ fp → rG K H' S0 L' ms ts Γ σ fp
  | [], [], _, _, _, _, h => h
  | m :: ms, t :: ts, Γ, s :: σ, fp, hf, h => by
    obtain ⟨f1, f2, rfl, h1, h2⟩ := h
    exact ⟨f1, f2, rfl, slot_mono hS hL hs (fun a ha => hf a (List.mem_append_left _ ha)) h1, rG_mono hS hL hs (fun a ha => hf a (List.mem_append_right _ ha)) h2⟩
  | [], _ :: _, _, _, _, _, h => h.elim
  | _ :: _, [], _, _, _, _, h => h.elim
  | _ :: _, _ :: _, _, [], _, _, h => h.elim
theorem rG_focus : ∀ {ts : List Ty} {t : Ty} (i : Mem ts t) {ms : List Md} {m : Md} {Γ : Gam ts} {σ : St} {fp : List Addr}, rG K H S0 L ms ts Γ σ fp → ms[i.ix]? = some m →
    ∃ s f fa fb, σ[i.ix]? = some s ∧ slot K H S0 L m t (i.get Γ) s f ∧ fp = fa ++ (f ++ fb) ∧ ∀ d' s' f', slot K H S0 L m t d' s' f' → rG K H S0 L ms ts (i.set d' Γ) (σ.set i.ix s') (fa ++ (f' ++ fb))
  | _ :: _, _, .z, m :: ms, m', Γ, s :: σ, fp, h, hm => by
    obtain ⟨f1, f2, rfl, h1, h2⟩ := h
    have e : m = m' := by simpa [Mem.ix] using hm
    subst e
    exact ⟨s, f1, [], f2, rfl, h1, rfl, fun d' s' f' q => ⟨f', f2, rfl, q, h2⟩⟩
  | _ :: _, _, .s i, m :: ms, m', Γ, s :: σ, fp, h, hm => by
    obtain ⟨f1, f2, rfl, h1, h2⟩ := h
    obtain ⟨s', f, fa, fb, e1, e2, rfl, e3⟩ := rG_focus i h2 (by simpa [Mem.ix] using hm)
    refine ⟨s', f, f1 ++ fa, fb, by simpa [Mem.ix] using e1, e2, by simp, fun d' s'' f' q => ⟨f1, fa ++ (f' ++ fb), by simp, h1, ?_⟩⟩
    exact e3 d' s'' f' q
  | _ :: _, _, _, [], _, _, _, _, h, _ => h.elim
  | _ :: _, _, _, _ :: _, _, _, [], _, h, _ => h.elim
theorem rG_len : ∀ {ms : List Md} {ts : List Ty} {Γ : Gam ts} {σ : St} {fp : List Addr}, rG K H S0 L ms ts Γ σ fp → σ.length = ts.length ∧ ms.length = ts.length
  | [], [], _, _, _, h => by rw [h.1]; exact ⟨rfl, rfl⟩
  | m :: ms, t :: ts, Γ, s :: σ, fp, h => by
    obtain ⟨f1, f2, rfl, h1, h2⟩ := h
    have := rG_len h2
    simp [this.1, this.2]
  | [], _ :: _, _, _, _, h => h.elim
  | _ :: _, [], _, _, _, h => h.elim
  | _ :: _, _ :: _, _, [], _, h => h.elim
theorem rG_mask : ∀ {ms : List Md} {ts : List Ty} {Γ : Gam ts} {σ : St} {fp : List Addr} (bs : List Bool), rG K H S0 L ms ts Γ σ fp → ∃ fp', rG K H S0 L ms ts (Gam.mask bs Γ) σ fp' ∧ fp'.Sublist fp
  | [], [], _, _, _, _, h => ⟨_, h, List.Sublist.refl _⟩
  | m :: ms, t :: ts, Γ, s :: σ, fp, [], h => ⟨fp, h, List.Sublist.refl _⟩
  | m :: ms, t :: ts, Γ, s :: σ, fp, b :: bs, h => by
    obtain ⟨f1, f2, rfl, h1, h2⟩ := h
    obtain ⟨f2', h3, h4⟩ := rG_mask bs h2
    cases b with
    | true => exact ⟨f1 ++ f2', ⟨f1, f2', rfl, h1, h3⟩, List.Sublist.append (List.Sublist.refl _) h4⟩
    | false => exact ⟨f2', ⟨[], f2', rfl, rfl, h3⟩, h4.trans (List.sublist_append_right _ _)⟩
  | [], _ :: _, _, _, _, _, h => h.elim
  | _ :: _, [], _, _, _, _, h => h.elim
  | _ :: _, _ :: _, _, [], _, _, h => h.elim
end

/-- what a def found at its entry: the heap, what is handed in to be read, the cells that are handed in to be changed -/
structure Ent where
  H0 : Hp
  S0 : Reg
  io : List Addr
/-- cells of one's own: of the entry's io, or made since -/
structure Good (E : Ent) (L : Reg) (H : Hp) (a : Addr) : Prop where
  new : E.H0 a = none ∨ a ∈ E.io
  nl : ¬ L a
  ns : ¬ E.S0 a
  at_ : (H a).isSome = true
structure Own (K : PySem.W.Frag) (E : Ent) (L : Reg) (ms : List Md) (ts : List Ty) (Γ : Gam ts) (σ : St) (H : Hp) (xt : List Addr) : Prop where
  ex : ∃ fp, rG K H E.S0 L ms ts Γ σ fp ∧ (fp ++ xt).Nodup ∧ ∀ a ∈ fp ++ xt, Good E L H a
  fr : ∀ a o, E.H0 a = some o → a ∉ E.io → H a = some o
  lr : ∀ a, L a → (E.H0 a = none ∨ a ∈ E.io) ∧ (H a).isSome = true
  s0 : ∀ a, E.S0 a → (E.H0 a).isSome = true ∧ a ∉ E.io
  iod : ∀ a ∈ E.io, (H a).isSome = true
section
variable {K : PySem.W.Frag} {E : Ent} {L L' : Reg} {ms : List Md} {ts : List Ty} {Γ : Gam ts} {σ : St} {H H' : Hp} {xt : List Addr}
theorem isSome_some {α : Type} {x : Option α} (h : x.isSome = true) : ∃ y, x = some y := Option.isSome_iff_exists.mp h
theorem same_at {a : Addr} (s : Same H H') (h : (H a).isSome = true) : H' a = H a := by
  obtain ⟨o, e⟩ := isSome_some h
  rw [e]
  exact s _ _ e
theorem Own.covS (o : Own K E L ms ts Γ σ H xt) (fr : ∀ a o, E.H0 a = some o → a ∉ E.io → H' a = some o) : Cov H H' E.S0 E.S0 := fun a q hr e => by
  obtain ⟨h1, h2⟩ := o.s0 a hr
  obtain ⟨y, hy⟩ := isSome_some h1
  refine ⟨hr, ?_⟩
  rw [fr a y hy h2, ← o.fr a y hy h2]
  exact e
/-- nothing that stood has changed -/
theorem Own.same (o : Own K E L ms ts Γ σ H xt) (s : Same H H') : Own K E L ms ts Γ σ H' xt := by
  obtain ⟨fp, g, nd, gd⟩ := o.ex
  have fr : ∀ a q, E.H0 a = some q → a ∉ E.io → H' a = some q := fun a q h1 h2 => s _ _ (o.fr a q h1 h2)
  refine ⟨⟨fp, rG_mono (o.covS fr) (Cov.of_same s fun a h _ => h) (Stb.of_same s) (fun a ha => same_at s (gd a (List.mem_append_left _ ha)).at_) g, nd, fun a ha => ?_⟩, fr, fun a h => ?_, o.s0, fun a h => ?_⟩
  · obtain ⟨h1, h2, h3, h4⟩ := gd a ha
    exact ⟨h1, h2, h3, by rw [same_at s h4]; exact h4⟩
  · obtain ⟨h1, h2⟩ := o.lr a h
    exact ⟨h1, by rw [same_at s h2]; exact h2⟩
  · rw [same_at s (o.iod a h)]
    exact o.iod a h
theorem Own.drop (o : Own K E L ms ts Γ σ H xt) : Own K E L ms ts Γ σ H [] := by
  obtain ⟨fp, g, nd, gd⟩ := o.ex
  refine ⟨⟨fp, g, ?_, fun a ha => gd a (List.mem_append_left _ (by simpa using ha))⟩, o.fr, o.lr, o.s0, o.iod⟩
  rw [List.append_nil]
  exact (List.nodup_append.mp nd).1
theorem Own.mask (o : Own K E L ms ts Γ σ H xt) (bs : List Bool) : Own K E L ms ts (Gam.mask bs Γ) σ H xt := by
  obtain ⟨fp, g, nd, gd⟩ := o.ex
  obtain ⟨fp', g', sb⟩ := rG_mask bs g
  refine ⟨⟨fp', g', nd.sublist (sb.append (List.Sublist.refl _)), fun a ha => gd a ?_⟩, o.fr, o.lr, o.s0, o.iod⟩
  rcases List.mem_append.mp ha with h | h
  · exact List.mem_append_left _ (sb.subset h)
  · exact List.mem_append_right _ h
/-- cells that are new are not the entry's -/
theorem Own.fresh (o : Own K E L ms ts Γ σ H xt) {a : Addr} (h : H a = none) : E.H0 a = none ∧ ¬ L a ∧ ¬ E.S0 a := by
  refine ⟨?_, fun q => ?_, fun q => ?_⟩
  · cases e : E.H0 a with
    | none => rfl
    | some y =>
      by_cases hi : a ∈ E.io
      · have := o.iod a hi
        rw [h] at this
        cases this
      · rw [o.fr a y e hi] at h
        cases h
  · have := (o.lr a q).2
    rw [h] at this
    cases this
  · obtain ⟨h1, h2⟩ := o.s0 a q
    obtain ⟨y, e⟩ := isSome_some h1
    rw [o.fr a y e h2] at h
    cases h
/-- THE MASTER RULE: one name's slot is changed, with its cells; all else stands -/
theorem Own.focus {t : Ty} (i : Mem ts t) {m : Md} (o : Own K E L ms ts Γ σ H xt) (hm : ms[i.ix]? = some m) :
    ∃ s f, σ[i.ix]? = some s ∧ slot K H E.S0 L m t (i.get Γ) s f ∧ f.Nodup ∧ (∀ a ∈ f, Good E L H a ∧ a ∉ xt) ∧
    ∀ (H' : Hp) (L' : Reg) (d' : Option (den t)) (s' : Option V) (f' xt' : List Addr), (∀ a, (H a).isSome = true → a ∉ f → a ∉ xt → H' a = H a) → Stb H H' → (∀ a, L a → L' a) → (∀ a, L' a → L a ∨ a ∈ f ∨ a ∈ xt ∨ H a = none) →
      (∀ a, (H a).isSome = true → (H' a).isSome = true) → (∀ a, L' a → (E.H0 a = none ∨ a ∈ E.io) ∧ (H' a).isSome = true) → slot K H' E.S0 L' m t d' s' f' → (f' ++ xt').Nodup → (∀ a ∈ f' ++ xt', (a ∈ f ∨ a ∈ xt ∨ H a = none) ∧ ¬ L' a ∧ (H' a).isSome = true) →
      Own K E L' ms ts (i.set d' Γ) (σ.set i.ix s') H' xt' := by
  obtain ⟨fp, g, nd, gd⟩ := id o.ex
  obtain ⟨s, f, fa, fb, e1, e2, rfl, e3⟩ := rG_focus i g hm
  have nd1 := List.nodup_append.mp nd
  have nd2 := List.nodup_append.mp nd1.1
  have nd3 := List.nodup_append.mp nd2.2.1
  have fxt : ∀ a ∈ f, a ∉ xt := fun a ha hx => nd1.2.2 a (List.mem_append_right _ (List.mem_append_left _ ha)) a hx rfl
  refine ⟨s, f, e1, e2, nd3.1, fun a ha => ⟨gd a (List.mem_append_left _ (List.mem_append_right _ (List.mem_append_left _ ha))), fxt a ha⟩, fun H' L' d' s' f' xt' c1 c2 c3 c4 c9 c5 c6 c7 c8 => ?_⟩
  have fr : ∀ a q, E.H0 a = some q → a ∉ E.io → H' a = some q := fun a q h1 h2 => by
    have h3 := o.fr a q h1 h2
    have nf : ∀ a', a' = a → Good E L H a' → False := fun a' e z => by
      subst e
      rcases z.new with z | z
      · rw [h1] at z; cases z
      · exact h2 z
    rw [c1 a (by rw [h3]; rfl) (fun z => nf a rfl (gd a (List.mem_append_left _ (List.mem_append_right _ (List.mem_append_left _ z))))) (fun z => nf a rfl (gd a (List.mem_append_right _ z)))]
    exact h3
  -- the other names' cells
  have oth : ∀ a, a ∈ fa ∨ a ∈ fb → a ∈ fa ++ (f ++ fb) ∧ a ∉ f ∧ a ∉ xt := fun a h => by
    rcases h with h | h
    · exact ⟨List.mem_append_left _ h, fun z => nd2.2.2 a h a (List.mem_append_left _ z) rfl, fun z => nd1.2.2 a (List.mem_append_left _ h) a z rfl⟩
    · exact ⟨List.mem_append_right _ (List.mem_append_right _ h), fun z => nd3.2.2 a z a h rfl, fun z => nd1.2.2 a (List.mem_append_right _ (List.mem_append_right _ h)) a z rfl⟩
  have othg : ∀ a, a ∈ fa ∨ a ∈ fb → Good E L H a := fun a h => gd a (List.mem_append_left _ (oth a h).1)
  have othc : ∀ a, a ∈ fa ∨ a ∈ fb → H' a = H a := fun a h => c1 a (othg a h).at_ (oth a h).2.1 (oth a h).2.2
  have covL : Cov H H' L L' := fun a q h e => by
    refine ⟨c3 a h, ?_⟩
    have h2 := (o.lr a h).2
    rw [c1 a h2 (fun z => (gd a (List.mem_append_left _ (List.mem_append_right _ (List.mem_append_left _ z)))).nl h) (fun z => (gd a (List.mem_append_right _ z)).nl h)]
    exact e
  have g0 := e3 none s [] rfl
  have g1 : rG K H' E.S0 L' ms ts (i.set none Γ) (σ.set i.ix s) (fa ++ ([] ++ fb)) := rG_mono (o.covS fr) covL c2 (fun a ha => othc a (by
    rcases List.mem_append.mp ha with h | h
    · exact .inl h
    · exact .inr (by simpa using h))) g0
  obtain ⟨s2, f2, fa2, fb2, q1, q2, q3, q4⟩ := rG_focus i g1 hm
  rw [Mem.get_set] at q2
  have q2 : f2 = [] := q2
  subst q2
  have g2 := q4 d' s' f' c6
  rw [Mem.set_set, List.set_set] at g2
  have e4 : fa2 ++ fb2 = fa ++ fb := by simpa using q3.symm
  have mem4 : ∀ a, a ∈ fa2 ∨ a ∈ fb2 → a ∈ fa ∨ a ∈ fb := fun a h => by
    have : a ∈ fa2 ++ fb2 := List.mem_append.mpr h
    rw [e4] at this
    exact List.mem_append.mp this
  have ndo : (fa2 ++ fb2).Nodup := by
    rw [e4]
    exact List.nodup_append.mpr ⟨nd2.1, nd3.2.1, fun a ha b hb => nd2.2.2 a ha b (List.mem_append_right _ hb)⟩
  have ndo2 := List.nodup_append.mp ndo
  have apart : ∀ a, a ∈ fa2 ∨ a ∈ fb2 → a ∉ f' ++ xt' := fun a h z => by
    have h' := mem4 a h
    rcases (c8 a z).1 with q | q | q
    · exact (oth a h').2.1 q
    · exact (oth a h').2.2 q
    · have := (othg a h').at_
      rw [q] at this
      cases this
  have c7' := List.nodup_append.mp c7
  refine ⟨⟨_, g2, ?_, fun a ha => ?_⟩, fr, c5, o.s0, fun a h => c9 a (o.iod a h)⟩
  · rw [List.append_assoc, List.append_assoc]
    refine List.nodup_append.mpr ⟨ndo2.1, List.nodup_append.mpr ⟨c7'.1, List.nodup_append.mpr ⟨ndo2.2.1, c7'.2.1, fun a ha b hb e => ?_⟩, fun a ha b hb e => ?_⟩, fun a ha b hb e => ?_⟩
    · subst e; exact apart a (.inr ha) (List.mem_append_right _ hb)
    · subst e
      rcases List.mem_append.mp hb with z | z
      · exact apart a (.inr z) (List.mem_append_left _ ha)
      · exact c7'.2.2 a ha a z rfl
    · subst e
      rcases List.mem_append.mp hb with z | z
      · exact apart a (.inl ha) (List.mem_append_left _ z)
      · rcases List.mem_append.mp z with z | z
        · exact ndo2.2.2 a ha a z rfl
        · exact apart a (.inl ha) (List.mem_append_right _ z)
  · have cases' : (a ∈ fa2 ∨ a ∈ fb2) ∨ a ∈ f' ++ xt' := by
      simp only [List.mem_append] at ha ⊢
      rcases ha with (h | h | h) | h
      · exact .inl (.inl h)
      · exact .inr (.inl h)
      · exact .inl (.inr h)
      · exact .inr (.inr h)
    rcases cases' with h | h
    · have h' := mem4 a h
      have gg := othg a h'
      refine ⟨gg.new, fun z => ?_, gg.ns, by rw [othc a h']; exact gg.at_⟩
      rcases c4 a z with q | q | q | q
      · exact gg.nl q
      · exact (oth a h').2.1 q
      · exact (oth a h').2.2 q
      · have := gg.at_
        rw [q] at this
        cases this
    · obtain ⟨q1, q2, q3⟩ := c8 a h
      rcases q1 with q | q | q
      · have gg := gd a (List.mem_append_left _ (List.mem_append_right _ (List.mem_append_left _ q)))
        exact ⟨gg.new, q2, gg.ns, q3⟩
      · have gg := gd a (List.mem_append_right _ q)
        exact ⟨gg.new, q2, gg.ns, q3⟩
      · have ff := o.fresh q
        exact ⟨.inl ff.1, q2, ff.2.2, q3⟩
end

/-! ### what an expression gives -/
inductive Em where
  | o | l | w | b
  deriving DecidableEq
/-- cells made since H -/
def Nw (H H' : Hp) (R : Reg) : Prop := ∀ a, R a → H a = none ∧ (H' a).isSome = true
section
variable (K : PySem.W.Frag) (E : Ent) (L : Reg) (H H' : Hp)
def Rep : Em → (t : Ty) → V → den t → Prop
  | .o, t, v, d => ∃ f Lr, (rO K H' (fun a => L a ∨ Lr a) t).1 v d f ∧ f.Nodup ∧ Nw H H' (· ∈ f) ∧ Nw H H' Lr ∧ ∀ a ∈ f, ¬ Lr a
  | .l, t, v, d => ∃ Lr, (rS K H' (fun a => L a ∨ Lr a) t).1 v d ∧ Nw H H' Lr
  | .w, t, v, d => ∃ Lr, (rS K H' (fun a => E.S0 a ∨ L a ∨ Lr a) t).1 v d ∧ Nw H H' Lr
  | .b, t, v, d => (rS K H' (fun _ => True) t).1 v d
def Rep2 : Em → (t : Ty) → List V → den t → Prop
  | .o, t, v, d => ∃ f Lr, (rO K H' (fun a => L a ∨ Lr a) t).2 v d f ∧ f.Nodup ∧ Nw H H' (· ∈ f) ∧ Nw H H' Lr ∧ ∀ a ∈ f, ¬ Lr a
  | .l, t, v, d => ∃ Lr, (rS K H' (fun a => L a ∨ Lr a) t).2 v d ∧ Nw H H' Lr
  | .w, t, v, d => ∃ Lr, (rS K H' (fun a => E.S0 a ∨ L a ∨ Lr a) t).2 v d ∧ Nw H H' Lr
  | .b, t, v, d => (rS K H' (fun _ => True) t).2 v d
end
/-- o gives l gives w gives b -/
def Em.le : Em → Em → Bool
  | .o, _ => true
  | .l, .o => false
  | .l, _ => true
  | .w, .w => true
  | .w, .b => true
  | .b, .b => true
  | _, _ => false
section
variable {K : PySem.W.Frag} {E : Ent} {L L' : Reg} {H H1 H2 : Hp}
theorem Rep.le {m m' : Em} (h : m.le m' = true) {t : Ty} {v : V} {d : den t} (r : Rep K E L H H1 m t v d) : Rep K E L H H1 m' t v d := by
  have ol : Rep K E L H H1 .o t v d → Rep K E L H H1 .l t v d := fun ⟨f, Lr, h1, h2, h3, h4, h5⟩ =>
    ⟨fun a => Lr a ∨ a ∈ f, (rO_s (fun a h => by rcases h with h | h; exact .inl h; exact .inr (.inl h)) t).1 v d f (fun a ha => .inr (.inr ha)) h1, fun a ha => by rcases ha with q | q; exact h4 a q; exact h3 a q⟩
  have lw : Rep K E L H H1 .l t v d → Rep K E L H H1 .w t v d := fun ⟨Lr, h1, h2⟩ => ⟨Lr, (rS_mono (Cov.of_reg fun a h _ => .inr h) (Stb.refl _) t).1 v d h1, h2⟩
  have wb : Rep K E L H H1 .w t v d → Rep K E L H H1 .b t v d := fun ⟨Lr, h1, h2⟩ => (rS_mono (Cov.of_reg fun a h _ => True.intro) (Stb.refl _) t).1 v d h1
  cases m <;> cases m' <;> first | exact r | exact absurd h (by decide) | exact ol r | exact lw r | exact wb r | exact lw (ol r) | exact wb (lw r) | exact wb (lw (ol r))
/-- without cells: all ways -/
theorem Rep.frz {t : Ty} (q : t.frz = true) (m : Em) {R : Reg} {v : V} {d : den t} (r : (rS K H1 R t).1 v d) : Rep K E L H H1 m t v d := by
  cases m with
  | o => exact ⟨[], fun _ => False, (rS_o t q).1 v d r, List.nodup_nil, fun a h => by simp at h, fun a h => h.elim, fun a h => by simp at h⟩
  | l => exact ⟨fun _ => False, (rS_frz t q).1 v d r, fun a h => h.elim⟩
  | w => exact ⟨fun _ => False, (rS_frz t q).1 v d r, fun a h => h.elim⟩
  | b => exact (rS_frz t q).1 v d r
/-- read later -/
theorem Rep.same {m : Em} {t : Ty} {v : V} {d : den t} (s : Same H1 H2) (r : Rep K E L H H1 m t v d) : Rep K E L H H2 m t v d := by
  have nw : ∀ {R : Reg}, Nw H H1 R → Nw H H2 R := fun {R} h a ha => ⟨(h a ha).1, by rw [same_at s (h a ha).2]; exact (h a ha).2⟩
  cases m with
  | o =>
    obtain ⟨f, Lr, h1, h2, h3, h4, h5⟩ := r
    exact ⟨f, Lr, (rO_mono (Cov.of_same s fun a h _ => h) (Stb.of_same s) t).1 v d f (fun a ha => same_at s (h3 a ha).2) h1, h2, nw h3, nw h4, h5⟩
  | l =>
    obtain ⟨Lr, h1, h2⟩ := r
    exact ⟨Lr, (rS_mono (Cov.of_same s fun a h _ => h) (Stb.of_same s) t).1 v d h1, nw h2⟩
  | w =>
    obtain ⟨Lr, h1, h2⟩ := r
    exact ⟨Lr, (rS_mono (Cov.of_same s fun a h _ => h) (Stb.of_same s) t).1 v d h1, nw h2⟩
  | b => exact (rS_mono (Cov.of_same s fun a h _ => h) (Stb.of_same s) t).1 v d r
/-- made since an earlier heap -/
theorem Rep.older {m : Em} {t : Ty} {v : V} {d : den t} (s : Same H H1) (r : Rep K E L H1 H2 m t v d) : Rep K E L H H2 m t v d := by
  have nw : ∀ {R : Reg}, Nw H1 H2 R → Nw H H2 R := fun {R} h a ha => ⟨s.free (h a ha).1, (h a ha).2⟩
  cases m with
  | o =>
    obtain ⟨f, Lr, h1, h2, h3, h4, h5⟩ := r
    exact ⟨f, Lr, h1, h2, nw h3, nw h4, h5⟩
  | l =>
    obtain ⟨Lr, h1, h2⟩ := r
    exact ⟨Lr, h1, nw h2⟩
  | w =>
    obtain ⟨Lr, h1, h2⟩ := r
    exact ⟨Lr, h1, nw h2⟩
  | b => exact r
end

/-! ### the judgements -/
section
variable (K : PySem.W.Frag) (ms : List Md) (ts : List Ty)
/-- an expression that changes nothing -/
def RP (te : TE) (m : Em) (t : Ty) (F : Gam ts → Option (den t)) : Prop :=
  ∀ (E : Ent) (L : Reg) (Γ : Gam ts) (σ : St) (H : Hp) (xt : List Addr) (Q : VK) (d : den t), Own K E L ms ts Γ σ H xt → F Γ = some d → (∀ v H', Same H H' → Rep K E L H H' m t v d → Q v H') → te σ H Q
/-- a row of expressions -/
def RA (ta : TA) (m : Em) (b : Ty) (F : Gam ts → Option (den b)) : Prop :=
  ∀ (E : Ent) (L : Reg) (Γ : Gam ts) (σ : St) (H : Hp) (xt : List Addr) (Q : List V → Hp → Prop) (d : den b), Own K E L ms ts Γ σ H xt → F Γ = some d → (∀ vs H', Same H H' → Rep2 K E L H H' m b vs d → Q vs H') → ta σ H Q
/-- .. of one type -/
def RAs (ta : TA) (m : Em) (t : Ty) (F : Gam ts → Option (List (den t))) : Prop :=
  ∀ (E : Ent) (L : Reg) (Γ : Gam ts) (σ : St) (H : Hp) (xt : List Addr) (Q : List V → Hp → Prop) (d : List (den t)), Own K E L ms ts Γ σ H xt → F Γ = some d → (∀ vs H', Same H H' → F2 (Rep K E L H H' m t) vs d → Q vs H') → ta σ H Q
/-- a test -/
def RT (tt : TT) (F : Gam ts → Option Bool) : Prop :=
  ∀ (E : Ent) (L : Reg) (Γ : Gam ts) (σ : St) (H : Hp) (xt : List Addr) (Q : Bool → Hp → Prop) (c : Bool), Own K E L ms ts Γ σ H xt → F Γ = some c → (∀ H', Same H H' → Q c H') → tt σ H Q
end
/-- how a block ends -/
inductive Fl (τ ρ : Type) where
  | nx (γ : τ) | bk (γ : τ) | ct (γ : τ) | rt (r : ρ) (γ : τ)
/-- names that are not to be stored stay -/
def KeepF (ms : List Md) (ts : List Ty) (Γ Γ' : Gam ts) (σ σ' : St) : Prop := ∀ (t : Ty) (i : Mem ts t) (m : Md), ms[i.ix]? = some m → m.hard = true → i.get Γ' = i.get Γ ∧ σ'[i.ix]? = σ[i.ix]?
structure Ev (ms : List Md) (ts : List Ty) (L : Reg) (Γ : Gam ts) (σ : St) (H : Hp) (L' : Reg) (Γ' : Gam ts) (σ' : St) (H' : Hp) : Prop where
  sub : ∀ a, L a → L' a
  cell : ∀ a o, L a → H a = some o → H' a = some o
  stb : Stb H H'
  keep : KeepF ms ts Γ Γ' σ σ'
theorem Ev.trans {ms : List Md} {ts : List Ty} {L L1 L2 : Reg} {Γ Γ1 Γ2 : Gam ts} {σ σ1 σ2 : St} {H H1 H2 : Hp} (a : Ev ms ts L Γ σ H L1 Γ1 σ1 H1) (b : Ev ms ts L1 Γ1 σ1 H1 L2 Γ2 σ2 H2) : Ev ms ts L Γ σ H L2 Γ2 σ2 H2 :=
  ⟨fun c h => b.sub c (a.sub c h), fun c o h e => b.cell c o (a.sub c h) (a.cell c o h e), a.stb.trans b.stb, fun t i m h hh => ⟨(b.keep t i m h hh).1.trans (a.keep t i m h hh).1, (b.keep t i m h hh).2.trans (a.keep t i m h hh).2⟩⟩
theorem Ev.same {ms : List Md} {ts : List Ty} {L : Reg} {Γ : Gam ts} {σ : St} {H H' : Hp} (s : Same H H') : Ev ms ts L Γ σ H L Γ σ H' :=
  ⟨fun _ h => h, fun _ _ _ e => s _ _ e, Stb.of_same s, fun _ _ _ _ _ => ⟨rfl, rfl⟩⟩
/-- how a def hands back -/
inductive Rm where
  | o | l | w
  deriving DecidableEq
section
variable (K : PySem.W.Frag) (E : Ent)
def RRep (L : Reg) (H' : Hp) : Rm → (ρ : Ty) → V → den ρ → List Addr → Prop
  | .o, ρ, v, d, xt => (rO K H' L ρ).1 v d xt
  | .l, ρ, v, d, xt => xt = [] ∧ (rS K H' L ρ).1 v d
  | .w, ρ, v, d, xt => xt = [] ∧ (rS K H' (fun a => E.S0 a ∨ L a) ρ).1 v d
def Post (ms : List Md) (ts : List Ty) (rm : Rm) (ρ : Ty) (L : Reg) (Γ : Gam ts) (σ : St) (H : Hp) (D : Ends) : Fl (Gam ts) (den ρ) → Prop
  | .nx Γ' => ∀ L' σ' H', Own K E L' ms ts Γ' σ' H' [] → Ev ms ts L Γ σ H L' Γ' σ' H' → D.nx σ' H'
  | .bk Γ' => ∀ L' σ' H', Own K E L' ms ts Γ' σ' H' [] → Ev ms ts L Γ σ H L' Γ' σ' H' → D.bk σ' H'
  | .ct Γ' => ∀ L' σ' H', Own K E L' ms ts Γ' σ' H' [] → Ev ms ts L Γ σ H L' Γ' σ' H' → D.ct σ' H'
  | .rt d Γ' => ∀ L' σ' H' v xt, Own K E L' ms ts Γ' σ' H' xt → Ev ms ts L Γ σ H L' Γ' σ' H' → RRep K E L' H' rm ρ v d xt → D.rt v H'
end
/-- a statement -/
def RS (K : PySem.W.Frag) (ms : List Md) (ts : List Ty) (st : TS) (rm : Rm) (ρ : Ty) (F : Gam ts → Option (Fl (Gam ts) (den ρ))) : Prop :=
  ∀ (E : Ent) (L : Reg) (Γ : Gam ts) (σ : St) (H : Hp) (D : Ends) (f : Fl (Gam ts) (den ρ)), Own K E L ms ts Γ σ H [] → F Γ = some f → Post K E ms ts rm ρ L Γ σ H D f → st D σ H
/-- an expression that may change owned names -/
def RE (K : PySem.W.Frag) (ms : List Md) (ts : List Ty) (te : TE) (m : Em) (t : Ty) (F : Gam ts → Option (den t × Gam ts)) : Prop :=
  ∀ (E : Ent) (L : Reg) (Γ : Gam ts) (σ : St) (H : Hp) (Q : VK) (d : den t) (Γ' : Gam ts), Own K E L ms ts Γ σ H [] → F Γ = some (d, Γ') →
    (∀ v L' H' xt, Own K E L' ms ts Γ' σ H' xt → Ev ms ts L Γ σ H L' Γ' σ H' → (match m with
      | .o => (rO K H' L' t).1 v d xt
      | .l => xt = [] ∧ (rS K H' L' t).1 v d
      | .w => xt = [] ∧ (rS K H' (fun a => E.S0 a ∨ L' a) t).1 v d
      | .b => xt = [] ∧ (rS K H' (fun _ => True) t).1 v d) → Q v H') → te σ H Q
end VV

/-! VRule: the rules for expressions that change nothing. -/
namespace VV
open PySem L2

/-! ### mirrors are put together by these -/
def eC {G α : Type} (d : α) : G → Option α := fun _ => some d
def eV {ts : List Ty} {t : Ty} (i : Mem ts t) : Gam ts → Option (den t) := fun Γ => i.get Γ
def e1 {G α β : Type} (f : α → Option β) (Fa : G → Option α) : G → Option β := fun Γ => (Fa Γ).bind f
def e2 {G α β γ : Type} (f : α → β → Option γ) (Fa : G → Option α) (Fb : G → Option β) : G → Option γ := fun Γ => (Fa Γ).bind fun a => (Fb Γ).bind fun b => f a b
def e3 {G α β γ δ : Type} (f : α → β → γ → Option δ) (Fa : G → Option α) (Fb : G → Option β) (Fc : G → Option γ) : G → Option δ := fun Γ => (Fa Γ).bind fun a => (Fb Γ).bind fun b => (Fc Γ).bind fun c => f a b c
def eIf {G α : Type} (Fc : G → Option Bool) (Fa Fb : G → Option α) : G → Option α := fun Γ => (Fc Γ).bind fun c => if c = true then Fa Γ else Fb Γ
/-- c and d (d is looked at only where c is True); c or d; not c -/
def eAnd {G : Type} (Fa Fb : G → Option Bool) : G → Option Bool := fun Γ => (Fa Γ).bind fun c => if c = true then Fb Γ else some false
def eOr {G : Type} (Fa Fb : G → Option Bool) : G → Option Bool := fun Γ => (Fa Γ).bind fun c => if c = true then some true else Fb Γ
def eNot {G : Type} (Fa : G → Option Bool) : G → Option Bool := fun Γ => (Fa Γ).bind fun c => some (!c)
def eCons {G α β : Type} (Fa : G → Option α) (Fb : G → Option β) : G → Option (α × β) := fun Γ => (Fa Γ).bind fun a => (Fb Γ).bind fun b => some (a, b)
def eNil {G α : Type} : G → Option (List α) := fun _ => some []
def eSnoc {G α : Type} (Fa : G → Option α) (Fb : G → Option (List α)) : G → Option (List α) := fun Γ => (Fa Γ).bind fun a => (Fb Γ).bind fun b => some (a :: b)
def okIf {α : Type} (c : Bool) (a : α) : Option α := if c then some a else none

section
variable {K : PySem.W.Frag} {ms : List Md} {ts : List Ty} {E : Ent} {L : Reg} {Γ : Gam ts} {σ : St} {H H' : Hp} {xt : List Addr}
theorem bind_some {α β : Type} {x : Option α} {f : α → Option β} {b : β} (h : x.bind f = some b) : ∃ a, x = some a ∧ f a = some b := by
  cases x with
  | none => cases h
  | some a => exact ⟨a, rfl, h⟩

/-! ### ways of giving -/
theorem rp_le {te : TE} {m m' : Em} {t : Ty} {F : Gam ts → Option (den t)} (h : RP K ms ts te m t F) (hl : m.le m' = true := by rfl) : RP K ms ts te m' t F :=
  fun E L Γ σ H xt Q d o e q => h E L Γ σ H xt Q d o e fun v H' s r => q v H' s (r.le hl)
theorem rp_frz {te : TE} {m : Em} (m' : Em) {t : Ty} {F : Gam ts → Option (den t)} (h : RP K ms ts te m t F) (hf : t.frz = true := by rfl) : RP K ms ts te m' t F :=
  fun E L Γ σ H xt Q d o e q => h E L Γ σ H xt Q d o e fun v H' s r => q v H' s (Rep.frz hf m' (r.le (m' := .b) (by cases m <;> rfl)))
theorem Rep.b {m : Em} {t : Ty} {v : V} {d : den t} {H1 : Hp} (r : Rep K E L H H1 m t v d) : (rS K H1 (fun _ => True) t).1 v d := r.le (m' := .b) (by cases m <;> rfl)

/-! ### names and constants -/
theorem Own.look {t : Ty} (i : Mem ts t) {m : Md} {d : den t} (o : Own K E L ms ts Γ σ H xt) (hm : ms[i.ix]? = some m) (hd : i.get Γ = some d) : ∃ v f, σ[i.ix]? = some (some v) ∧ repM K H E.S0 L m t v d f ∧ ∀ a ∈ f, Good E L H a := by
  obtain ⟨s, f, e1, e2, _, e4, _⟩ := o.focus i hm
  rw [hd] at e2
  obtain ⟨v, rfl, r⟩ := e2
  exact ⟨v, f, e1, r, fun a ha => (e4 a ha).1⟩
theorem repM_b {m : Md} {t : Ty} {v : V} {d : den t} {f : List Addr} {S0 : Reg} (h : repM K H S0 L m t v d f) : (rS K H (fun _ => True) t).1 v d := by
  cases m with
  | o => exact (rO_s (fun _ _ => True.intro) t).1 v d f (fun _ _ => True.intro) h
  | k => exact (rO_s (fun _ _ => True.intro) t).1 v d f (fun _ _ => True.intro) h
  | l => exact (rS_mono (Cov.of_reg fun _ _ _ => True.intro) (Stb.refl H) t).1 v d h.2
  | w => exact (rS_mono (Cov.of_reg fun _ _ _ => True.intro) (Stb.refl H) t).1 v d h.2
  | f => exact (rS_mono (Cov.of_reg fun _ _ _ => True.intro) (Stb.refl H) t).1 v d h.2
/-- a name, only looked at -/
theorem rp_var {t : Ty} (i : Mem ts t) {n : Nat} {m : Md} (hm : ms[i.ix]? = some m := by rfl) (hn : i.ix = n := by rfl) : RP K ms ts (tVar n) .b t (eV i) := fun E L Γ σ H xt Q d o e q => by
  subst hn
  obtain ⟨v, f, h1, h2, _⟩ := o.look i hm e
  exact ⟨v, h1, q v H (Same.refl H) (repM_b h2)⟩
/-- a shared name -/
theorem rp_varw {t : Ty} (i : Mem ts t) {n : Nat} {m : Md} (hm : ms[i.ix]? = some m := by rfl) (hk : (m == .w || m == .f || m == .l) = true := by rfl) (hn : i.ix = n := by rfl) : RP K ms ts (tVar n) .w t (eV i) := fun E L Γ σ H xt Q d o e q => by
  subst hn
  obtain ⟨v, f, h1, h2, _⟩ := o.look i hm e
  have wk : ∀ {R : Reg}, (∀ a, R a → E.S0 a ∨ L a) → (rS K H R t).1 v d → Rep K E L H H .w t v d := fun hR r =>
    ⟨fun _ => False, (rS_mono (Cov.of_reg fun a h _ => (hR a h).elim .inl fun z => .inr (.inl z)) (Stb.refl H) t).1 v d r, fun _ h => h.elim⟩
  refine ⟨v, h1, q v H (Same.refl H) ?_⟩
  cases m with
  | o => exact absurd hk (by decide)
  | k => exact absurd hk (by decide)
  | l => exact wk (fun a h => .inr h) h2.2
  | w => exact wk (fun a h => h) h2.2
  | f => exact wk (fun a h => h) h2.2
theorem rp_varl {t : Ty} (i : Mem ts t) {n : Nat} (hm : ms[i.ix]? = some .l := by rfl) (hn : i.ix = n := by rfl) : RP K ms ts (tVar n) .l t (eV i) := fun E L Γ σ H xt Q d o e q => by
  subst hn
  obtain ⟨v, f, h1, h2, _⟩ := o.look i hm e
  exact ⟨v, h1, q v H (Same.refl H) ⟨fun _ => False, (rS_mono (Cov.of_reg fun a h _ => .inl h) (Stb.refl H) t).1 v d h2.2, fun _ h => h.elim⟩⟩
theorem rep_atom {m : Em} {t : Ty} {v : V} {d : den t} (hf : t.frz = true) (h : (rS K H' (fun _ => True) t).1 v d) : Rep K E L H H' m t v d := Rep.frz hf m h
theorem rp_const {m : Em} {t : Ty} {v : V} {d : den t} (hf : t.frz = true) (h : ∀ H, (rS K H (fun _ => True) t).1 v d) : RP K ms ts (tC v) m t (eC d) := fun E L Γ σ H xt Q d' o e q => by
  cases e
  exact q v H (Same.refl H) (rep_atom hf (h H))
theorem rp_int {m : Em} {i : Int} : RP K ms ts (tC (.int i)) m .int (eC i) := rp_const rfl fun _ => rfl
theorem rp_bool {m : Em} {b : Bool} : RP K ms ts (tC (.bl b)) m .bool (eC b) := rp_const rfl fun _ => rfl
theorem rp_str {m : Em} {x : Str} (h : PyData.strOk x = true := by decide +kernel) : RP K ms ts (tC (.str x)) m .str (eC x) := rp_const rfl fun _ => ⟨rfl, h⟩
theorem rp_non {m : Em} : RP K ms ts (tC .non) m .non (eC ()) := rp_const rfl fun _ => rfl
/-- None where something or None is wanted -/
theorem rp_noneO {m : Em} {t : Ty} : RP K ms ts (tC .non) m (.opt t) (eC none) := fun E L Γ σ H xt Q d' o e q => by
  cases e
  refine q .non H (Same.refl H) ?_
  cases m with
  | o => exact ⟨[], fun _ => False, ⟨rfl, rfl⟩, List.nodup_nil, fun a h => by simp at h, fun a h => h.elim, fun a h => by simp at h⟩
  | l => exact ⟨fun _ => False, rfl, fun a h => h.elim⟩
  | w => exact ⟨fun _ => False, rfl, fun a h => h.elim⟩
  | b => exact rfl
/-- a thing where something or None is wanted -/
def Ty.solid : Ty → Bool
  | .non => false
  | .any => false
  | .opt _ => false
  | .own _ => false
  | _ => true
theorem rS_solid {R : Reg} {t : Ty} (h : t.solid = true) {v : V} {d : den t} (r : (rS K H R t).1 v d) : v ≠ .non := by
  cases t with
  | bool => rintro rfl; cases r
  | int => rintro rfl; cases r
  | str => rintro rfl; cases r.1
  | vtup t => obtain ⟨a, _, rfl, _⟩ := r; exact fun z => by cases z
  | list t => obtain ⟨a, _, rfl, _⟩ := r; exact fun z => by cases z
  | dict k t => obtain ⟨a, rfl, _⟩ := r; exact fun z => by cases z
  | tup b => obtain ⟨a, _, rfl, _⟩ := r; exact fun z => by cases z
  | last a => exact r.elim
  | cons a b => exact r.elim
  | _ => cases h
theorem rp_some {te : TE} {m : Em} {t : Ty} {F : Gam ts → Option (den t)} (h : RP K ms ts te m t F) (hs : t.solid = true := by rfl) : RP K ms ts te m (.opt t) (e1 (fun d => some (some d)) F) := fun E L Γ σ H xt Q d o e q => by
  obtain ⟨d', e1, e2⟩ := bind_some e
  cases e2
  refine h E L Γ σ H xt Q d' o e1 fun v H' s r => q v H' s ?_
  have ne : v ≠ .non := rS_solid hs r.b
  cases m with
  | o =>
    obtain ⟨f, Lr, h1, h2, h3⟩ := r
    exact ⟨f, Lr, ⟨ne, .inl h1⟩, h2, h3⟩
  | l =>
    obtain ⟨Lr, h1, h2⟩ := r
    exact ⟨Lr, ⟨ne, h1⟩, h2⟩
  | w =>
    obtain ⟨Lr, h1, h2⟩ := r
    exact ⟨Lr, ⟨ne, h1⟩, h2⟩
  | b => exact ⟨ne, r⟩

/-! ### operators by values -/
/-- a two-place operation on values -/
def V2 (K : PySem.W.Frag) (r : R2) (m : Em) (t1 t2 t : Ty) (f : den t1 → den t2 → Option (den t)) : Prop :=
  ∀ (E : Ent) (L : Reg) (H : Hp) (v w : V) (a : den t1) (b : den t2) (c : den t) (Q : VK), (rS K H (fun _ => True) t1).1 v a → (rS K H (fun _ => True) t2).1 w b → f a b = some c → (∀ v' H', Same H H' → Rep K E L H H' m t v' c → Q v' H') → r v w H Q
theorem rp_op {r : R2} {m m1 m2 : Em} {t1 t2 t : Ty} {f : den t1 → den t2 → Option (den t)} {ta tb : TE} {Fa : Gam ts → Option (den t1)} {Fb : Gam ts → Option (den t2)} (hv : V2 K r m t1 t2 t f) (ha : RP K ms ts ta m1 t1 Fa) (hb : RP K ms ts tb m2 t2 Fb) :
    RP K ms ts (tOp r ta tb) m t (e2 f Fa Fb) := fun E L Γ σ H xt Q d o e q => by
  obtain ⟨a, ea, e⟩ := bind_some e
  obtain ⟨b, eb, e⟩ := bind_some e
  refine ha E L Γ σ H xt _ a o ea fun v H1 s1 r1 => ?_
  refine hb E L Γ σ H1 xt _ b (o.same s1) eb fun w H2 s2 r2 => ?_
  refine hv E L H2 v w a b d Q ((rS_mono (Cov.of_same s2 fun _ h _ => h) (Stb.of_same s2) t1).1 v a r1.b) r2.b e fun v' H3 s3 r3 => ?_
  exact q v' H3 ((s1.trans s2).trans s3) (r3.older (s1.trans s2))
theorem v2_I0 {m : Em} {g : Int → Int → Int} : V2 K (rI0 fun i j => .int (g i j)) m .int .int .int (fun a b => some (g a b)) := fun E L H v w a b c Q ra rb e q => by
  cases e
  exact ⟨a, b, ra, rb, q _ H (Same.refl H) (rep_atom rfl rfl)⟩
theorem v2_I {m : Em} {C : Int → Int → Prop} {k : Int → Int → Bool} (hk : ∀ i j, k i j = true → C i j) {g : Int → Int → Int} : V2 K (rI C fun i j => .int (g i j)) m .int .int .int (fun a b => okIf (k a b) (g a b)) := fun E L H v w a b c Q ra rb e q => by
  dsimp only [okIf] at e
  split at e
  · rename_i h
    cases e
    exact ⟨a, b, ra, rb, hk a b h, q _ H (Same.refl H) (rep_atom rfl rfl)⟩
  · cases e
theorem v2_B0 {m : Em} {g : Int → Int → Bool} : V2 K (rI0 fun i j => .bl (g i j)) m .int .int .bool (fun a b => some (g a b)) := fun E L H v w a b c Q ra rb e q => by
  cases e
  exact ⟨a, b, ra, rb, q _ H (Same.refl H) (rep_atom rfl rfl)⟩
abbrev fAdd (a b : Int) : Option Int := some (a + b)
abbrev fSub (a b : Int) : Option Int := some (a - b)
def mulOk (a b : Int) : Bool := decide (a.natAbs.log2 + b.natAbs.log2 < 1000000)
def divOk (b : Int) : Bool := decide (0 < b ∧ b.natAbs.log2 < 9000)
abbrev fMul (a b : Int) : Option Int := okIf (mulOk a b) (a * b)
abbrev fDiv (a b : Int) : Option Int := okIf (divOk b) (a / b)
abbrev fMod (a b : Int) : Option Int := okIf (decide (0 < b)) (a % b)
def powOk (a b : Int) : Bool := decide (0 ≤ b ∧ b ≤ 1000000 ∧ a.natAbs < 2 ^ 64)
abbrev fPow (a b : Int) : Option Int := okIf (powOk a b) (a ^ b.toNat)
theorem v_add {m : Em} : V2 K (rI0 fun i j => .int (i + j)) m .int .int .int fAdd := v2_I0
theorem v_sub {m : Em} : V2 K (rI0 fun i j => .int (i - j)) m .int .int .int fSub := v2_I0
theorem v_mul {m : Em} : V2 K (rI CMulW fun i j => .int (i * j)) m .int .int .int fMul := v2_I fun i j h => by have h := of_decide_eq_true h; exact h
theorem v_div {m : Em} : V2 K (rI CDivW fun i j => .int (i / j)) m .int .int .int fDiv := v2_I (k := fun _ b => divOk b) fun i j h => by have h := of_decide_eq_true h; exact h
theorem v_mod {m : Em} : V2 K (rI (fun _ j => 0 < j) fun i j => .int (i % j)) m .int .int .int fMod := v2_I (k := fun _ b => decide (0 < b)) fun i j h => of_decide_eq_true h
theorem v_pow {m : Em} : V2 K (rI CPow fun i j => .int (i ^ j.toNat)) m .int .int .int fPow := v2_I fun i j h => by have h := of_decide_eq_true h; exact h
abbrev fLt (a b : Int) : Option Bool := some (decide (a < b))
abbrev fLe (a b : Int) : Option Bool := some (decide (a ≤ b))
abbrev fGt (a b : Int) : Option Bool := some (decide (b < a))
abbrev fGe (a b : Int) : Option Bool := some (decide (b ≤ a))
theorem v_lt {m : Em} : V2 K (rI0 fun i j => .bl (decide (i < j))) m .int .int .bool fLt := v2_B0
theorem v_le {m : Em} : V2 K (rI0 fun i j => .bl (decide (i ≤ j))) m .int .int .bool fLe := v2_B0
theorem v_gt {m : Em} : V2 K (rI0 fun i j => .bl (decide (j < i))) m .int .int .bool fGt := v2_B0
theorem v_ge {m : Em} : V2 K (rI0 fun i j => .bl (decide (j ≤ i))) m .int .int .bool fGe := v2_B0
abbrev fEqI (a b : Int) : Option Bool := some (decide (a = b))
abbrev fNeI (a b : Int) : Option Bool := some (!decide (a = b))
abbrev fEqS (a b : Str) : Option Bool := some (decide (a = b))
abbrev fNeS (a b : Str) : Option Bool := some (!decide (a = b))
abbrev fEqB (a b : Bool) : Option Bool := some (decide (a = b))
abbrev fNeB (a b : Bool) : Option Bool := some (!decide (a = b))
theorem v_eqI {m : Em} : V2 K rEq m .int .int .bool fEqI := fun E L H v w a b c Q ra rb e q => by
  cases e; cases ra; cases rb
  refine ⟨rfl, q _ H (Same.refl H) (rep_atom rfl ?_)⟩
  show V.bl _ = V.bl _
  simp
theorem v_neI {m : Em} : V2 K rNe m .int .int .bool fNeI := fun E L H v w a b c Q ra rb e q => by
  cases e; cases ra; cases rb
  refine ⟨rfl, q _ H (Same.refl H) (rep_atom rfl ?_)⟩
  show V.bl _ = V.bl _
  simp
theorem v_eqS {m : Em} : V2 K rEq m .str .str .bool fEqS := fun E L H v w a b c Q ra rb e q => by
  obtain ⟨rfl, _⟩ := ra; obtain ⟨rfl, _⟩ := rb; cases e
  refine ⟨rfl, q _ H (Same.refl H) (rep_atom rfl ?_)⟩
  show V.bl _ = V.bl _
  simp
theorem v_neS {m : Em} : V2 K rNe m .str .str .bool fNeS := fun E L H v w a b c Q ra rb e q => by
  obtain ⟨rfl, _⟩ := ra; obtain ⟨rfl, _⟩ := rb; cases e
  refine ⟨rfl, q _ H (Same.refl H) (rep_atom rfl ?_)⟩
  show V.bl _ = V.bl _
  simp
theorem v_eqB {m : Em} : V2 K rEq m .bool .bool .bool fEqB := fun E L H v w a b c Q ra rb e q => by
  cases e; cases ra; cases rb
  refine ⟨rfl, q _ H (Same.refl H) (rep_atom rfl ?_)⟩
  show V.bl _ = V.bl _
  simp
theorem v_neB {m : Em} : V2 K rNe m .bool .bool .bool fNeB := fun E L H v w a b c Q ra rb e q => by
  cases e; cases ra; cases rb
  refine ⟨rfl, q _ H (Same.refl H) (rep_atom rfl ?_)⟩
  show V.bl _ = V.bl _
  simp
/-- is None, is not None -/
theorem v_isN {m : Em} {t : Ty} : V2 K (fun x y H Q => y = .non ∧ Q (.bl (decide (x = .non))) H) m (.opt t) .non .bool (fun a _ => some a.isNone) := fun E L H v w a b c Q ra rb e q => by
  cases e; cases rb
  refine ⟨rfl, q _ H (Same.refl H) (rep_atom rfl ?_)⟩
  show V.bl _ = V.bl _
  cases a with
  | none => cases (show v = .non from ra); rfl
  | some x => simp [(show v ≠ .non ∧ _ from ra).1]
theorem v_notN {m : Em} {t : Ty} : V2 K (fun x y H Q => y = .non ∧ Q (.bl (!decide (x = .non))) H) m (.opt t) .non .bool (fun a _ => some a.isSome) := fun E L H v w a b c Q ra rb e q => by
  cases e; cases rb
  refine ⟨rfl, q _ H (Same.refl H) (rep_atom rfl ?_)⟩
  show V.bl _ = V.bl _
  cases a with
  | none => cases (show v = .non from ra); rfl
  | some x => simp [(show v ≠ .non ∧ _ from ra).1]
/-- texts -/
def lenOk (n : Nat) : Bool := decide (n ≤ sizeLine)
def fCat (a b : Str) : Option Str := okIf (lenOk (a.length + b.length)) (a ++ b)
theorem strOk_append {a b : Str} (h : PyData.strOk a = true) (h' : PyData.strOk b = true) : PyData.strOk (a ++ b) = true := by
  unfold PyData.strOk at *
  show (a.cps ++ b.cps).all _ = true
  rw [Array.all_append, h, h']
  rfl
theorem v_cat {m : Em} : V2 K (fun x y H Q => ∃ i j, x = .str i ∧ y = .str j ∧ i.length + j.length ≤ sizeLine ∧ Q (.str (i ++ j)) H) m .str .str .str fCat := fun E L H v w a b c Q ra rb e q => by
  unfold fCat okIf at e
  split at e
  · rename_i h
    cases e
    exact ⟨a, b, ra.1, rb.1, of_decide_eq_true h, q _ H (Same.refl H) (rep_atom rfl ⟨rfl, strOk_append ra.2 rb.2⟩)⟩
  · cases e
def fInS (a b : Str) : Option Bool := some (!(Builtin.Str.occurrences b a 0 b.length 1).isEmpty)
def fNotInS (a b : Str) : Option Bool := some (!(!(Builtin.Str.occurrences b a 0 b.length 1).isEmpty))
theorem v_inS {m : Em} : V2 K (fun x y H Q => ∃ i j, x = .str i ∧ y = .str j ∧ Q (.bl (!(Builtin.Str.occurrences j i 0 j.length 1).isEmpty)) H) m .str .str .bool fInS := fun E L H v w a b c Q ra rb e q => by
  cases e
  exact ⟨a, b, ra.1, rb.1, q _ H (Same.refl H) (rep_atom rfl rfl)⟩
theorem v_notInS {m : Em} : V2 K (fun x y H Q => ∃ i j, x = .str i ∧ y = .str j ∧ Q (.bl (!(!(Builtin.Str.occurrences j i 0 j.length 1).isEmpty))) H) m .str .str .bool fNotInS := fun E L H v w a b c Q ra rb e q => by
  cases e
  exact ⟨a, b, ra.1, rb.1, q _ H (Same.refl H) (rep_atom rfl rfl)⟩

/-! ### unary -/
theorem rp_neg {m m1 : Em} {ta : TE} {Fa : Gam ts → Option Int} (ha : RP K ms ts ta m1 .int Fa) : RP K ms ts (tUn (rU fun i => .int (-i)) ta) m .int (e1 (fun a => some (-a)) Fa) := fun E L Γ σ H xt Q d o e q => by
  obtain ⟨a, ea, e⟩ := bind_some e
  cases e
  exact ha E L Γ σ H xt _ a o ea fun v H1 s1 r1 => ⟨a, r1.b, q _ H1 s1 (rep_atom rfl rfl)⟩

/-! ### tests -/
theorem rt_val {te : TE} {m : Em} {F : Gam ts → Option Bool} (h : RP K ms ts te m .bool F) : RT K ms ts (tB te) F := fun E L Γ σ H xt Q c o e q => h E L Γ σ H xt _ c o e fun v H' s r => ⟨c, r.b, q H' s⟩
theorem rt_test {te : TE} {m : Em} {F : Gam ts → Option Bool} (h : RP K ms ts te m .bool F) : RT K ms ts (tTest te) F := rt_val h
theorem rt_and {ta tb : TT} {Fa Fb : Gam ts → Option Bool} (ha : RT K ms ts ta Fa) (hb : RT K ms ts tb Fb) : RT K ms ts (tAnd ta tb) (eAnd Fa Fb) := fun E L Γ σ H xt Q c o e q => by
  obtain ⟨a, ea, e⟩ := bind_some e
  refine ha E L Γ σ H xt _ a o ea fun H1 s1 => ?_
  cases a with
  | true =>
    rw [if_pos rfl] at e ⊢
    exact hb E L Γ σ H1 xt _ c (o.same s1) e fun H2 s2 => q H2 (s1.trans s2)
  | false =>
    rw [if_neg Bool.false_ne_true] at e ⊢
    cases e
    exact q H1 s1
theorem rt_or {ta tb : TT} {Fa Fb : Gam ts → Option Bool} (ha : RT K ms ts ta Fa) (hb : RT K ms ts tb Fb) : RT K ms ts (tOr ta tb) (eOr Fa Fb) := fun E L Γ σ H xt Q c o e q => by
  obtain ⟨a, ea, e⟩ := bind_some e
  refine ha E L Γ σ H xt _ a o ea fun H1 s1 => ?_
  cases a with
  | true =>
    rw [if_pos rfl] at e ⊢
    cases e
    exact q H1 s1
  | false =>
    rw [if_neg Bool.false_ne_true] at e ⊢
    exact hb E L Γ σ H1 xt _ c (o.same s1) e fun H2 s2 => q H2 (s1.trans s2)
theorem rt_not {ta : TT} {Fa : Gam ts → Option Bool} (ha : RT K ms ts ta Fa) : RT K ms ts (tNot ta) (eNot Fa) := fun E L Γ σ H xt Q c o e q => by
  obtain ⟨a, ea, e⟩ := bind_some e
  cases e
  exact ha E L Γ σ H xt _ a o ea fun H1 s1 => q H1 s1
theorem rp_and {m m1 m2 : Em} {ta tb : TE} {Fa Fb : Gam ts → Option Bool} (ha : RP K ms ts ta m1 .bool Fa) (hb : RP K ms ts tb m2 .bool Fb) : RP K ms ts (tAndV ta tb) m .bool (eAnd Fa Fb) := fun E L Γ σ H xt Q c o e q => by
  obtain ⟨a, ea, e⟩ := bind_some e
  refine ha E L Γ σ H xt _ a o ea fun v H1 s1 r1 => ⟨a, r1.b, ?_⟩
  cases a with
  | true =>
    rw [if_pos rfl] at e ⊢
    exact hb E L Γ σ H1 xt _ c (o.same s1) e fun w H2 s2 r2 => q w H2 (s1.trans s2) (rep_atom rfl r2.b)
  | false =>
    rw [if_neg Bool.false_ne_true] at e ⊢
    cases e
    exact q _ H1 s1 (rep_atom rfl rfl)
theorem rp_or {m m1 m2 : Em} {ta tb : TE} {Fa Fb : Gam ts → Option Bool} (ha : RP K ms ts ta m1 .bool Fa) (hb : RP K ms ts tb m2 .bool Fb) : RP K ms ts (tOrV ta tb) m .bool (eOr Fa Fb) := fun E L Γ σ H xt Q c o e q => by
  obtain ⟨a, ea, e⟩ := bind_some e
  refine ha E L Γ σ H xt _ a o ea fun v H1 s1 r1 => ⟨a, r1.b, ?_⟩
  cases a with
  | true =>
    rw [if_pos rfl] at e ⊢
    cases e
    exact q _ H1 s1 (rep_atom rfl rfl)
  | false =>
    rw [if_neg Bool.false_ne_true] at e ⊢
    exact hb E L Γ σ H1 xt _ c (o.same s1) e fun w H2 s2 r2 => q w H2 (s1.trans s2) (rep_atom rfl r2.b)
theorem rp_not {m m1 : Em} {ta : TE} {Fa : Gam ts → Option Bool} (ha : RP K ms ts ta m1 .bool Fa) : RP K ms ts (tNotV ta) m .bool (eNot Fa) := fun E L Γ σ H xt Q c o e q => by
  obtain ⟨a, ea, e⟩ := bind_some e
  cases e
  exact ha E L Γ σ H xt _ a o ea fun v H1 s1 r1 => ⟨a, r1.b, q _ H1 s1 (rep_atom rfl rfl)⟩
theorem rp_if {m : Em} {t : Ty} {tc : TT} {ta tb : TE} {Fc : Gam ts → Option Bool} {Fa Fb : Gam ts → Option (den t)} (hc : RT K ms ts tc Fc) (ha : RP K ms ts ta m t Fa) (hb : RP K ms ts tb m t Fb) : RP K ms ts (tIf tc ta tb) m t (eIf Fc Fa Fb) := fun E L Γ σ H xt Q d o e q => by
  obtain ⟨c, ec, e⟩ := bind_some e
  refine hc E L Γ σ H xt _ c o ec fun H1 s1 => ?_
  cases c with
  | true =>
    rw [if_pos rfl] at e ⊢
    exact ha E L Γ σ H1 xt _ d (o.same s1) e fun w H2 s2 r2 => q w H2 (s1.trans s2) (r2.older s1)
  | false =>
    rw [if_neg Bool.false_ne_true] at e ⊢
    exact hb E L Γ σ H1 xt _ d (o.same s1) e fun w H2 s2 r2 => q w H2 (s1.trans s2) (r2.older s1)
/-- a < b < c -/
theorem rp_chain {r r' : R2} {m m1 m2 m3 m4 m5 : Em} {t1 t2 t3 : Ty} {f : den t1 → den t2 → Option Bool} {g : den t2 → den t3 → Option Bool} {ta tb tc : TE} {Fa : Gam ts → Option (den t1)} {Fb : Gam ts → Option (den t2)} {Fc : Gam ts → Option (den t3)}
    (hv : V2 K r m4 t1 t2 .bool f) (hv' : V2 K r' m5 t2 t3 .bool g) (ha : RP K ms ts ta m1 t1 Fa) (hb : RP K ms ts tb m2 t2 Fb) (hc : RP K ms ts tc m3 t3 Fc) : RP K ms ts (tChain r r' ta tb tc) m .bool
      (fun Γ => (Fa Γ).bind fun a => (Fb Γ).bind fun b => (f a b).bind fun k => if k = true then (Fc Γ).bind fun c => g b c else some false) := fun E L Γ σ H xt Q d o e q => by
  obtain ⟨a, ea, e⟩ := bind_some e
  obtain ⟨b, eb, e⟩ := bind_some e
  obtain ⟨k, ek, e⟩ := bind_some e
  refine ha E L Γ σ H xt _ a o ea fun v H1 s1 r1 => ?_
  refine hb E L Γ σ H1 xt _ b (o.same s1) eb fun w H2 s2 r2 => ?_
  refine hv E L H2 v w a b k _ ((rS_mono (Cov.of_same s2 fun _ h _ => h) (Stb.of_same s2) t1).1 v a r1.b) r2.b ek fun z H3 s3 r3 => ⟨k, r3.b, ?_⟩
  cases k with
  | true =>
    rw [if_pos rfl] at e ⊢
    obtain ⟨c, ec, e⟩ := bind_some e
    refine hc E L Γ σ H3 xt _ c (((o.same s1).same s2).same s3) ec fun x H4 s4 r4 => ?_
    refine hv' E L H4 w x b c d _ ((rS_mono (Cov.of_same (s3.trans s4) fun _ h _ => h) (Stb.of_same (s3.trans s4)) t2).1 w b r2.b) r4.b e fun y H5 s5 r5 => ?_
    exact q y H5 ((((s1.trans s2).trans s3).trans s4).trans s5) (rep_atom rfl r5.b)
  | false =>
    rw [if_neg Bool.false_ne_true] at e ⊢
    cases e
    exact q _ H3 ((s1.trans s2).trans s3) (rep_atom rfl rfl)

/-! ### rows of expressions -/
theorem ra_one {m : Em} {t : Ty} {te : TE} {F : Gam ts → Option (den t)} (h : RP K ms ts te m t F) : RA K ms ts (tCons te tNil) m (.last t) F := fun E L Γ σ H xt Q d o e q => by
  refine h E L Γ σ H xt _ d o e fun v H' s r => q [v] H' s ?_
  cases m with
  | o =>
    obtain ⟨f, Lr, h1, h2⟩ := r
    exact ⟨f, Lr, ⟨v, rfl, .inl h1⟩, h2⟩
  | l =>
    obtain ⟨Lr, h1, h2⟩ := r
    exact ⟨Lr, ⟨v, rfl, h1⟩, h2⟩
  | w =>
    obtain ⟨Lr, h1, h2⟩ := r
    exact ⟨Lr, ⟨v, rfl, h1⟩, h2⟩
  | b => exact ⟨v, rfl, r⟩
theorem ra_cons {m : Em} {t b : Ty} {te : TE} {ta : TA} {F : Gam ts → Option (den t)} {G : Gam ts → Option (den b)} (h : RP K ms ts te m t F) (hr : RA K ms ts ta m b G) : RA K ms ts (tCons te ta) m (.cons t b) (eCons F G) := fun E L Γ σ H xt Q d o e q => by
  obtain ⟨a, ea, e⟩ := bind_some e
  obtain ⟨r, er, e⟩ := bind_some e
  cases e
  refine h E L Γ σ H xt _ a o ea fun v H1 s1 r1 => hr E L Γ σ H1 xt _ r (o.same s1) er fun vs H2 s2 r2 => q (v :: vs) H2 (s1.trans s2) ?_
  have nwo : ∀ {R : Reg}, Nw H1 H2 R → Nw H H2 R := fun {R} h a ha => ⟨s1.free (h a ha).1, (h a ha).2⟩
  have nwe : ∀ {R : Reg}, Nw H H1 R → Nw H H2 R := fun {R} h a ha => ⟨(h a ha).1, by rw [same_at s2 (h a ha).2]; exact (h a ha).2⟩
  have apart : ∀ {R R' : Reg}, Nw H H1 R → Nw H1 H2 R' → ∀ a, R a → ¬ R' a := fun {R R'} h h' a ha hb => by
    have := (h a ha).2
    rw [(h' a hb).1] at this
    cases this
  cases m with
  | o =>
    obtain ⟨f, Lr, h1, h2, h3, h4, h5⟩ := r1
    obtain ⟨g, Ls, k1, k2, k3, k4, k5⟩ := r2
    have e1 : (rO K H2 (fun a => L a ∨ (Lr a ∨ Ls a)) t).1 v a f := (rO_mono (Cov.of_same s2 fun a h _ => h.elim .inl fun z => .inr (.inl z)) (Stb.of_same s2) t).1 v a f (fun a ha => same_at s2 (h3 a ha).2) h1
    have e2 : (rO K H2 (fun a => L a ∨ (Lr a ∨ Ls a)) b).2 vs r g := (rO_mono (Cov.of_reg fun a h _ => h.elim .inl fun z => .inr (.inr z)) (Stb.refl _) b).2 vs r g (fun _ _ => rfl) k1
    refine ⟨f ++ g, fun a => Lr a ∨ Ls a, ⟨v, vs, f, g, rfl, rfl, .inl e1, e2⟩, List.nodup_append.mpr ⟨h2, k2, fun a ha b hb z => ?_⟩, fun a ha => ?_, fun a ha => ?_, fun a ha => ?_⟩
    · subst z
      exact apart h3 k3 a ha hb
    · rcases List.mem_append.mp ha with z | z
      · exact nwe h3 a z
      · exact nwo k3 a z
    · rcases ha with z | z
      · exact nwe h4 a z
      · exact nwo k4 a z
    · rcases List.mem_append.mp ha with z | z
      · exact fun y => y.elim (h5 a z) (apart h3 k4 a z)
      · exact fun y => y.elim (fun y => apart h4 k3 a y z) (k5 a z)
  | l =>
    obtain ⟨Lr, h1, h2⟩ := r1
    obtain ⟨Ls, k1, k2⟩ := r2
    refine ⟨fun a => Lr a ∨ Ls a, ⟨v, vs, rfl, (rS_mono (Cov.of_same s2 fun a h _ => h.elim .inl fun z => .inr (.inl z)) (Stb.of_same s2) t).1 v a h1, (rS_mono (Cov.of_reg fun a h _ => h.elim .inl fun z => .inr (.inr z)) (Stb.refl _) b).2 vs r k1⟩, fun a ha => ?_⟩
    rcases ha with z | z
    · exact nwe h2 a z
    · exact nwo k2 a z
  | w =>
    obtain ⟨Lr, h1, h2⟩ := r1
    obtain ⟨Ls, k1, k2⟩ := r2
    refine ⟨fun a => Lr a ∨ Ls a, ⟨v, vs, rfl, (rS_mono (Cov.of_same s2 fun a h _ => h.elim .inl fun z => z.elim (fun z => .inr (.inl z)) fun z => .inr (.inr (.inl z))) (Stb.of_same s2) t).1 v a h1,
      (rS_mono (Cov.of_reg fun a h _ => h.elim .inl fun z => z.elim (fun z => .inr (.inl z)) fun z => .inr (.inr (.inr z))) (Stb.refl _) b).2 vs r k1⟩, fun a ha => ?_⟩
    rcases ha with z | z
    · exact nwe h2 a z
    · exact nwo k2 a z
  | b => exact ⟨v, vs, rfl, (rS_mono (Cov.of_same s2 fun a h _ => h) (Stb.of_same s2) t).1 v a r1, r2⟩
theorem new_upd {a : Addr} {o : HO} (h : H a = none) : Same H (upd H a o) ∧ (upd H a o) a = some o := ⟨same_new h, upd_same⟩
/-- a written tuple -/
def rowLen : Ty → Nat
  | .last _ => 1
  | .cons _ b => rowLen b + 1
  | .own t => rowLen t
  | _ => 0
theorem row_length {R : Reg} : ∀ (b : Ty) (vs : List V) (d : den b), (rS K H R b).2 vs d → vs.length = rowLen b
  | .last a, _, _, h => by obtain ⟨v, rfl, _⟩ := h; rfl
  | .cons a b, _, _, h => by
    obtain ⟨v, r, rfl, _, h2⟩ := h
    have := row_length b r _ h2
    simp [rowLen, this]
  | .non, _, _, h => h.elim
  | .bool, _, _, h => h.elim
  | .int, _, _, h => h.elim
  | .str, _, _, h => h.elim
  | .any, _, _, h => h.elim
  | .opt _, _, _, h => h.elim
  | .vtup _, _, _, h => h.elim
  | .list _, _, _, h => h.elim
  | .dict _ _, _, _, h => h.elim
  | .own t, vs, d, h => row_length t vs d h
  | .tup _, _, _, h => h.elim
end
end VV

/-! VStmt: the rules for statements, loops, and defs. -/
namespace VV
open PySem L2

/-- a term that the kernel doesn't look into -/
noncomputable def hide {α : Type} (a : α) : α := Classical.choose (⟨a, rfl⟩ : ∃ b, b = a)
theorem hide_eq {α : Type} (a : α) : hide a = a := Classical.choose_spec (⟨a, rfl⟩ : ∃ b, b = a)
section
variable {K : PySem.W.Frag} {E : Ent} {ms : List Md} {ts : List Ty} {L L1 : Reg} {Γ Γ1 : Gam ts} {σ σ1 : St} {H H' H1 : Hp} {xt : List Addr} {rm : Rm} {ρ : Ty}
/-! ### blocks -/
def sNext {G ρ : Type} : G → Option (Fl G ρ) := fun Γ => some (.nx Γ)
def sSeq {G ρ : Type} (F F' : G → Option (Fl G ρ)) : G → Option (Fl G ρ) := fun Γ => (F Γ).bind fun r => match r with
  | .nx Γ' => F' Γ'
  | r => some r
def sIf {G ρ : Type} (c : G → Option Bool) (F F' : G → Option (Fl G ρ)) : G → Option (Fl G ρ) := fun Γ => (c Γ).bind fun b => if b = true then F Γ else F' Γ
def sBreak {G ρ : Type} : G → Option (Fl G ρ) := fun Γ => some (.bk Γ)
def sCont {G ρ : Type} : G → Option (Fl G ρ) := fun Γ => some (.ct Γ)
def sSet {ρ : Type} {ts : List Ty} {t : Ty} (i : Mem ts t) (F : Gam ts → Option (den t)) : Gam ts → Option (Fl (Gam ts) ρ) := fun Γ => (F Γ).bind fun d => some (.nx (i.set (some d) Γ))
def sRet {G ρ : Type} (F : G → Option ρ) : G → Option (Fl G ρ) := fun Γ => (F Γ).bind fun d => some (.rt d Γ)
/-- an owned name is handed back -/
def sRetM {ts : List Ty} {t : Ty} (i : Mem ts t) : Gam ts → Option (Fl (Gam ts) (den t)) := fun Γ => (i.get Γ).bind fun d => some (.rt d (i.set none Γ))
def sDrop {G ρ α : Type} (F : G → Option α) : G → Option (Fl G ρ) := fun Γ => (F Γ).bind fun _ => some (.nx Γ)
theorem Post.later {D : Ends} {f : Fl (Gam ts) (den ρ)} (p : Post K E ms ts rm ρ L Γ σ H D f) (e : Ev ms ts L Γ σ H L1 Γ1 σ1 H1) : Post K E ms ts rm ρ L1 Γ1 σ1 H1 D f := by
  cases f with
  | nx Γ' => exact fun L' σ' H' o e' => p L' σ' H' o (e.trans e')
  | bk Γ' => exact fun L' σ' H' o e' => p L' σ' H' o (e.trans e')
  | ct Γ' => exact fun L' σ' H' o e' => p L' σ' H' o (e.trans e')
  | rt d Γ' => exact fun L' σ' H' v xt o e' => p L' σ' H' v xt o (e.trans e')
theorem rs_hide {t : TS} {F : Gam ts → Option (Fl (Gam ts) (den ρ))} (h : RS K ms ts t rm ρ F) : RS K ms ts t rm ρ (hide F) := by
  rw [hide_eq]
  exact h
theorem rs_next : RS K ms ts tNext rm ρ sNext := fun E L Γ σ H D f o e p => by
  cases e
  exact p L σ H o (Ev.same (Same.refl H))
theorem rs_break : RS K ms ts tBreak rm ρ sBreak := fun E L Γ σ H D f o e p => by
  cases e
  exact p L σ H o (Ev.same (Same.refl H))
theorem rs_cont : RS K ms ts tCont rm ρ sCont := fun E L Γ σ H D f o e p => by
  cases e
  exact p L σ H o (Ev.same (Same.refl H))
theorem rs_seq {t u : TS} {F F' : Gam ts → Option (Fl (Gam ts) (den ρ))} (h : RS K ms ts t rm ρ F) (h' : RS K ms ts u rm ρ F') : RS K ms ts (tSeq t u) rm ρ (sSeq F F') := fun E L Γ σ H D f o e p => by
  obtain ⟨r, e1, e2⟩ := bind_some e
  refine h E L Γ σ H _ r o e1 ?_
  cases r with
  | nx Γ1 => exact fun L1 σ1 H1 o1 ev1 => h' E L1 Γ1 σ1 H1 D f o1 e2 (p.later ev1)
  | bk Γ1 => cases e2; exact fun L1 σ1 H1 o1 ev1 => p L1 σ1 H1 o1 ev1
  | ct Γ1 => cases e2; exact fun L1 σ1 H1 o1 ev1 => p L1 σ1 H1 o1 ev1
  | rt d Γ1 => cases e2; exact fun L1 σ1 H1 v xt o1 ev1 r1 => p L1 σ1 H1 v xt o1 ev1 r1
theorem rs_if {tc : TT} {t u : TS} {c : Gam ts → Option Bool} {F F' : Gam ts → Option (Fl (Gam ts) (den ρ))} (hc : RT K ms ts tc c) (h : RS K ms ts t rm ρ F) (h' : RS K ms ts u rm ρ F') : RS K ms ts (tIfS tc t u) rm ρ (sIf c F F') := fun E L Γ σ H D f o e p => by
  obtain ⟨b, e1, e2⟩ := bind_some e
  refine hc E L Γ σ H [] _ b o e1 fun H1 s1 => ?_
  cases b with
  | true =>
    rw [if_pos rfl] at e2 ⊢
    exact h E L Γ σ H1 D f (o.same s1) e2 (p.later (Ev.same s1))
  | false =>
    rw [if_neg Bool.false_ne_true] at e2 ⊢
    exact h' E L Γ σ H1 D f (o.same s1) e2 (p.later (Ev.same s1))
theorem rs_drop {te : TE} {m : Em} {t : Ty} {F : Gam ts → Option (den t)} (h : RP K ms ts te m t F) : RS K ms ts (tDrop te) rm ρ (sDrop F) := fun E L Γ σ H D f o e p => by
  obtain ⟨d, e1, e2⟩ := bind_some e
  cases e2
  exact h E L Γ σ H [] _ d o e1 fun v H1 s1 _ => p L σ H1 (o.same s1) (Ev.same s1)

/-! ### stores -/
theorem keepF_set {t : Ty} (i : Mem ts t) {m : Md} (hm : ms[i.ix]? = some m) (hk : m.hard = false) (d : Option (den t)) (s : Option V) : KeepF ms ts Γ (i.set d Γ) σ (σ.set i.ix s) := fun u j m' hj hh => by
  have ne : i.ix ≠ j.ix := fun z => by
    rw [z, hj] at hm
    cases hm
    rw [hk] at hh
    cases hh
  exact ⟨Mem.get_set_ne i j d Γ ne, List.getElem?_set_ne ne⟩
/-- what is made for the while -/
theorem Own.temp {f : List Addr} {Lr : Reg} (o : Own K E L ms ts Γ σ H []) (s : Same H H') (nf : f.Nodup) (hf : Nw H H' (· ∈ f)) (hl : Nw H H' Lr) (hd : ∀ a ∈ f, ¬ Lr a) : Own K E (fun a => L a ∨ Lr a) ms ts Γ σ H' f := by
  have o1 := o.same s
  obtain ⟨fp, g, nd, gd⟩ := id o.ex
  obtain ⟨fp1, g1, nd1, gd1⟩ := id o1.ex
  rw [List.append_nil] at nd gd
  have fre : ∀ a, H a = none → a ∉ fp := fun a h z => by
    have := (gd a z).at_
    rw [h] at this
    cases this
  refine ⟨⟨fp, rG_mono (o.covS fun a q h1 h2 => s _ _ (o.fr a q h1 h2)) (Cov.of_same s fun a h _ => .inl h) (Stb.of_same s) (fun a ha => same_at s (gd a ha).at_) g, ?_, fun a ha => ?_⟩, o1.fr, fun a h => ?_, o.s0, o1.iod⟩
  · exact List.nodup_append.mpr ⟨nd, nf, fun a ha b hb z => by subst z; exact fre a (hf a hb).1 ha⟩
  · rcases List.mem_append.mp ha with h | h
    · have g := gd a h
      exact ⟨g.new, fun z => z.elim g.nl fun z => fre a (hl a z).1 h, g.ns, by rw [same_at s g.at_]; exact g.at_⟩
    · have ff := o.fresh (hf a h).1
      exact ⟨.inl ff.1, fun z => z.elim ff.2.1 (hd a h), ff.2.2, (hf a h).2⟩
  · rcases h with h | h
    · exact o1.lr a h
    · exact ⟨.inl (o.fresh (hl a h).1).1, (hl a h).2⟩
/-- a name's mode and what may be stored there -/
def Md.em : Md → Em
  | .o => .o
  | .l => .l
  | .w => .w
  | .f => .b
  | .k => .b
theorem Own.store {t : Ty} (i : Mem ts t) {m : Md} {v : V} {d : den t} (o : Own K E L ms ts Γ σ H []) (hm : ms[i.ix]? = some m) (hk : m.hard = false) (s : Same H H') (r : Rep K E L H H' m.em t v d) :
    ∃ L', Own K E L' ms ts (i.set (some d) Γ) (σ.set i.ix (some v)) H' [] ∧ Ev ms ts L Γ σ H L' (i.set (some d) Γ) (σ.set i.ix (some v)) H' := by
  obtain ⟨s0, f0, e1, e2, e3, e4, e5⟩ := o.focus i hm
  have same1 : ∀ a, (H a).isSome = true → H' a = H a := fun a h => same_at s h
  have up : ∀ a, (H a).isSome = true → (H' a).isSome = true := fun a h => by rw [same1 a h]; exact h
  have ev : ∀ (L' : Reg), (∀ a, L a → L' a) → Ev ms ts L Γ σ H L' (i.set (some d) Γ) (σ.set i.ix (some v)) H' := fun L' hL => ⟨hL, fun a q _ h => s _ _ h, Stb.of_same s, keepF_set i hm hk _ _⟩
  have go : ∀ (L' : Reg) (f : List Addr), (∀ a, L a → L' a) → (∀ a, L' a → L a ∨ H a = none) → (∀ a, L' a → (H' a).isSome = true) → repM K H' E.S0 L' m t v d f → f.Nodup → (∀ a ∈ f, H a = none ∧ ¬ L' a ∧ (H' a).isSome = true) →
      ∃ L', Own K E L' ms ts (i.set (some d) Γ) (σ.set i.ix (some v)) H' [] ∧ Ev ms ts L Γ σ H L' (i.set (some d) Γ) (σ.set i.ix (some v)) H' := fun L' f c3 c4 c5 c6 c7 c8 => by
    refine ⟨L', e5 H' L' (some d) (some v) f [] (fun a h _ _ => same1 a h) (Stb.of_same s) c3 (fun a h => (c4 a h).elim .inl fun z => .inr (.inr (.inr z))) up (fun a h => ⟨?_, c5 a h⟩) ⟨v, rfl, c6⟩ (by simpa using c7) fun a ha => ?_, ev L' c3⟩
    · rcases c4 a h with z | z
      · exact (o.lr a z).1
      · exact .inl (o.fresh z).1
    · have ha : a ∈ f := by simpa using ha
      exact ⟨.inr (.inr (c8 a ha).1), (c8 a ha).2⟩
  have lift : ∀ {R : Reg}, Nw H H' R → ∀ a, L a ∨ R a → (H' a).isSome = true := fun {R} h a z => z.elim (fun z => up a (o.lr a z).2) fun z => (h a z).2
  cases m with
  | o =>
    obtain ⟨f, Lr, h1, h2, h3, h4, h5⟩ := r
    exact go (fun a => L a ∨ Lr a) f (fun a h => .inl h) (fun a h => h.elim .inl fun z => .inr (h4 a z).1) (lift h4) h1 h2 fun a ha => ⟨(h3 a ha).1, fun z => z.elim (o.fresh (h3 a ha).1).2.1 (h5 a ha), (h3 a ha).2⟩
  | l =>
    obtain ⟨Lr, h1, h4⟩ := r
    exact go (fun a => L a ∨ Lr a) [] (fun a h => .inl h) (fun a h => h.elim .inl fun z => .inr (h4 a z).1) (lift h4) ⟨rfl, h1⟩ List.nodup_nil fun a ha => by simp at ha
  | w =>
    obtain ⟨Lr, h1, h4⟩ := r
    exact go (fun a => L a ∨ Lr a) [] (fun a h => .inl h) (fun a h => h.elim .inl fun z => .inr (h4 a z).1) (lift h4) ⟨rfl, h1⟩ List.nodup_nil fun a ha => by simp at ha
  | f => exact absurd hk (by decide)
  | k => exact absurd hk (by decide)
theorem rs_set {t : Ty} (i : Mem ts t) {n : Nat} {m : Md} {te : TE} {F : Gam ts → Option (den t)} (h : RP K ms ts te m.em t F) (hm : ms[i.ix]? = some m := by rfl) (hk : m.hard = false := by rfl) (hn : i.ix = n := by rfl) :
    RS K ms ts (tAsg te (gName n)) rm ρ (sSet i F) := fun E L Γ σ H D f o e p => by
  subst hn
  obtain ⟨d, e1, e2⟩ := bind_some e
  cases e2
  refine h E L Γ σ H [] _ d o e1 fun v H1 s1 r1 => ?_
  obtain ⟨L', o', ev⟩ := o.store i hm hk s1 r1
  exact p L' _ H1 o' ev
/-- return -/
def Rm.em : Rm → Em
  | .o => .o
  | .l => .l
  | .w => .w
theorem rs_ret {te : TE} {F : Gam ts → Option (den ρ)} (h : RP K ms ts te rm.em ρ F) : RS K ms ts (tRet te) rm ρ (sRet F) := fun E L Γ σ H D f o e p => by
  obtain ⟨d, e1, e2⟩ := bind_some e
  cases e2
  refine h E L Γ σ H [] _ d o e1 fun v H1 s1 r1 => ?_
  have ev : ∀ Lr : Reg, Ev ms ts L Γ σ H (fun a => L a ∨ Lr a) Γ σ H1 := fun Lr => ⟨fun a h => .inl h, fun a q _ h => s1 _ _ h, Stb.of_same s1, fun _ _ _ _ _ => ⟨rfl, rfl⟩⟩
  cases rm with
  | o =>
    obtain ⟨f, Lr, h1, h2, h3, h4, h5⟩ := r1
    exact p _ σ H1 v f (o.temp s1 h2 h3 h4 h5) (ev Lr) h1
  | l =>
    obtain ⟨Lr, h1, h4⟩ := r1
    exact p _ σ H1 v [] (o.temp s1 List.nodup_nil (fun a ha => by simp at ha) h4 fun a ha => by simp at ha) (ev Lr) ⟨rfl, h1⟩
  | w =>
    obtain ⟨Lr, h1, h4⟩ := r1
    exact p _ σ H1 v [] (o.temp s1 List.nodup_nil (fun a ha => by simp at ha) h4 fun a ha => by simp at ha) (ev Lr) ⟨rfl, h1⟩
/-- an owned name, taken out -/
theorem Own.take {t : Ty} (i : Mem ts t) {d : den t} (o : Own K E L ms ts Γ σ H []) (hm : ms[i.ix]? = some .o) (hd : i.get Γ = some d) : ∃ v f, σ[i.ix]? = some (some v) ∧ (rO K H L t).1 v d f ∧ Own K E L ms ts (i.set none Γ) σ H f := by
  obtain ⟨s0, f0, e1, e2, e3, e4, e5⟩ := o.focus i hm
  rw [hd] at e2
  obtain ⟨v, rfl, r⟩ := e2
  refine ⟨v, f0, e1, r, ?_⟩
  have := e5 H L none (some v) [] f0 (fun a h _ _ => rfl) (Stb.refl H) (fun _ h => h) (fun _ h => .inl h) (fun _ h => h) (fun a h => o.lr a h) rfl (by simpa using e3) fun a ha => by
    have ha : a ∈ f0 := by simpa using ha
    exact ⟨.inl ha, (e4 a ha).1.nl, (e4 a ha).1.at_⟩
  have es : σ.set i.ix (some v) = σ := by
    refine List.ext_getElem? fun n => ?_
    by_cases hn : n = i.ix
    · subst hn
      rw [List.getElem?_set_self (List.getElem?_eq_some_iff.mp e1).1]
      exact e1.symm
    · rw [List.getElem?_set_ne (Ne.symm hn)]
  rw [es] at this
  exact this
theorem keepF_set0 {t : Ty} (i : Mem ts t) {m : Md} (hm : ms[i.ix]? = some m) (hk : m.hard = false) (d : Option (den t)) : KeepF ms ts Γ (i.set d Γ) σ σ := fun u j m' hj hh => by
  have ne : i.ix ≠ j.ix := fun z => by
    rw [z, hj] at hm
    cases hm
    rw [hk] at hh
    cases hh
  exact ⟨Mem.get_set_ne i j d Γ ne, rfl⟩
theorem rs_retm (i : Mem ts ρ) {n : Nat} (hm : ms[i.ix]? = some .o := by rfl) (hn : i.ix = n := by rfl) : RS K ms ts (tRet (tVar n)) .o ρ (sRetM i) := fun E L Γ σ H D f o e p => by
  subst hn
  obtain ⟨d, e1, e2⟩ := bind_some e
  cases e2
  obtain ⟨v, f, h1, h2, h3⟩ := o.take i hm e1
  exact ⟨v, h1, p L σ H v f h3 ⟨fun _ h => h, fun _ _ _ h => h, Stb.refl H, keepF_set0 i hm rfl none⟩ h2⟩
/-- x = y, y owned and from now on without value; x: owned, or shared -/
def sMove {ρ : Type} {ts : List Ty} {t : Ty} (i j : Mem ts t) : Gam ts → Option (Fl (Gam ts) ρ) := fun Γ => (j.get Γ).bind fun d => some (.nx (i.set (some d) (j.set none Γ)))
theorem rs_move {t : Ty} (i j : Mem ts t) {n k : Nat} {m : Md} (hj : ms[j.ix]? = some .o := by rfl) (hm : ms[i.ix]? = some m := by rfl) (hk : m.hard = false := by rfl) (hn : i.ix = n := by rfl) (hjk : j.ix = k := by rfl) :
    RS K ms ts (tAsg (tVar k) (gName n)) rm ρ (sMove i j) := fun E L Γ σ H D f o e p => by
  subst hn
  subst hjk
  obtain ⟨d, e1, e2⟩ := bind_some e
  cases e2
  obtain ⟨v, f, h1, h2, h3⟩ := o.take j hj e1
  obtain ⟨s0, f0, q1, q2, q3, q4, q5⟩ := h3.focus i hm
  obtain ⟨fp, _, ndx, gdx⟩ := h3.ex
  have nf : f.Nodup := (List.nodup_append.mp ndx).2.1
  have gf : ∀ a ∈ f, Good E L H a := fun a ha => gdx a (List.mem_append_right _ ha)
  have kp : KeepF ms ts Γ (i.set (some d) (j.set none Γ)) σ (σ.set i.ix (some v)) := fun u z m' hz hh => by
    have a := keepF_set0 (Γ := Γ) (σ := σ) j hj rfl none u z m' hz hh
    have b := keepF_set (Γ := j.set none Γ) (σ := σ) i hm hk (some d) (some v) u z m' hz hh
    exact ⟨b.1.trans a.1, b.2⟩
  refine ⟨v, h1, ?_⟩
  have go : ∀ (L' : Reg) (f' : List Addr), (∀ a, L a → L' a) → (∀ a, L' a → L a ∨ a ∈ f) → (∀ a, L' a → (E.H0 a = none ∨ a ∈ E.io) ∧ (H a).isSome = true) → repM K H E.S0 L' m t v d f' → f'.Nodup → (∀ a ∈ f', a ∈ f ∧ ¬ L' a) → D.nx (σ.set i.ix (some v)) H := fun L' f' c3 c4 c5 c6 c7 c8 => by
    refine p L' _ H (q5 H L' (some d) (some v) f' [] (fun _ _ _ _ => rfl) (Stb.refl H) c3 (fun a h => (c4 a h).elim .inl fun z => .inr (.inr (.inl z))) (fun _ h => h) c5 ⟨v, rfl, c6⟩ (by simpa using c7) fun a ha => ?_) ⟨c3, fun _ _ _ h => h, Stb.refl H, kp⟩
    have ha : a ∈ f' := by simpa using ha
    exact ⟨.inr (.inl (c8 a ha).1), (c8 a ha).2, (gf a (c8 a ha).1).at_⟩
  cases m with
  | o => exact go L f (fun _ h => h) (fun _ h => .inl h) (fun a h => o.lr a h) h2 nf fun a ha => ⟨ha, (gf a ha).nl⟩
  | l => exact go (fun a => L a ∨ a ∈ f) [] (fun _ h => .inl h) (fun _ h => h) (fun a h => h.elim (o.lr a) fun z => ⟨(gf a z).new, (gf a z).at_⟩) ⟨rfl, (rO_s (fun _ h => .inl h) t).1 v d f (fun a h => .inr h) h2⟩ List.nodup_nil fun a ha => by simp at ha
  | w => exact go (fun a => L a ∨ a ∈ f) [] (fun _ h => .inl h) (fun _ h => h) (fun a h => h.elim (o.lr a) fun z => ⟨(gf a z).new, (gf a z).at_⟩) ⟨rfl, (rO_s (fun _ h => .inr (.inl h)) t).1 v d f (fun a h => .inr (.inr h)) h2⟩ List.nodup_nil fun a ha => by simp at ha
  | f => exact absurd hk (by decide)
  | k => exact absurd hk (by decide)

/-! ### loops -/
def forL {G ρ α : Type} (bind : α → G → G) (mask : G → G) (body : G → Option (Fl G ρ)) : List α → G → Option (Fl G ρ)
  | [], Γ => some (.nx Γ)
  | x :: xs, Γ => (body (bind x Γ)).bind fun r => match r with
    | .nx Γ' => forL bind mask body xs (mask Γ')
    | .ct Γ' => forL bind mask body xs (mask Γ')
    | .bk Γ' => some (.nx (mask Γ'))
    | .rt r Γ' => some (.rt r Γ')
def sFor {G ρ α : Type} (F : G → Option (List α)) (bind : α → G → G) (mask : G → G) (body : G → Option (Fl G ρ)) : G → Option (Fl G ρ) := fun Γ => (F Γ).bind fun xs => forL bind mask body xs (mask Γ)
def reg (w : Bool) (E : Ent) (L : Reg) : Reg := if w then (fun a => E.S0 a ∨ L a) else L
/-- what a for walks: Z is its state -/
structure IterOk (K : PySem.W.Frag) (R : Reg) (t : Ty) (J : It) (ds : List (den t)) (Z : Hp → Prop) : Prop where
  keep : ∀ H H', Cov H H' R R → Stb H H' → Z H → Z H'
  go : ∀ i H, Z H → i < ds.length → J.go i H
  stop : ∀ H, Z H → J.stop ds.length H
  yld : ∀ i H x H', i < ds.length → Z H → J.yld i H x H' → Same H H' ∧ ∃ d, ds[i]? = some d ∧ (rS K H' R t).1 x d
def RI (K : PySem.W.Frag) (ms : List Md) (ts : List Ty) (wi : TI) (w : Bool) (t : Ty) (F : Gam ts → Option (List (den t))) : Prop :=
  ∀ (E : Ent) (L : Reg) (Γ : Gam ts) (σ : St) (H : Hp) (xt : List Addr) (R : It → Hp → Prop) (ds : List (den t)), Own K E L ms ts Γ σ H xt → F Γ = some ds →
    (∀ J H' Lr Z, Same H H' → Nw H H' Lr → IterOk K (reg w E fun a => L a ∨ Lr a) t J ds Z → Z H' → R J H') → wi σ H R
/-- a target that takes an item -/
def RG (K : PySem.W.Frag) (ms : List Md) (ts : List Ty) (g : TG) (w : Bool) (t : Ty) (B : den t → Gam ts → Gam ts) : Prop :=
  ∀ (E : Ent) (L : Reg) (Γ : Gam ts) (σ : St) (H : Hp) (Q : St → Hp → Prop) (x : V) (d : den t), Own K E L ms ts Γ σ H [] → (rS K H (reg w E L) t).1 x d →
    (∀ σ', Own K E L ms ts (B d Γ) σ' H [] → Ev ms ts L Γ σ H L (B d Γ) σ' H → Q σ' H) → g x σ H Q
def RGs (K : PySem.W.Frag) (ms : List Md) (ts : List Ty) (g : TGs) (w : Bool) (b : Ty) (B : den b → Gam ts → Gam ts) : Prop :=
  ∀ (E : Ent) (L : Reg) (Γ : Gam ts) (σ : St) (H : Hp) (Q : St → Hp → Prop) (xs : List V) (d : den b), Own K E L ms ts Γ σ H [] → (rS K H (reg w E L) b).2 xs d →
    (∀ σ', Own K E L ms ts (B d Γ) σ' H [] → Ev ms ts L Γ σ H L (B d Γ) σ' H → Q σ' H) → g xs σ H Q
def bName {ts : List Ty} {t : Ty} (i : Mem ts t) : den t → Gam ts → Gam ts := fun d Γ => i.set (some d) Γ
def bCons {G α β : Type} (B : α → G → G) (B' : β → G → G) : α × β → G → G := fun d Γ => B' d.2 (B d.1 Γ)
def okTg (w : Bool) (m : Md) (t : Ty) : Bool := match m with
  | .o => t.frz
  | .l => !w || t.frz
  | .w => true
  | .f => false
  | .k => false
theorem rg_name {w : Bool} {t : Ty} (i : Mem ts t) {n : Nat} {m : Md} (hm : ms[i.ix]? = some m := by rfl) (hk : okTg w m t = true := by rfl) (hn : i.ix = n := by rfl) : RG K ms ts (gName n) w t (bName i) := fun E L Γ σ H Q x d o r q => by
  subst hn
  obtain ⟨s0, f0, e1, e2, e3, e4, e5⟩ := o.focus i hm
  have hkf : m.hard = false := by
    cases m <;> first | rfl | exact absurd hk (by simp [okTg])
  refine q _ (e5 H L (some d) (some x) [] [] (fun _ _ _ _ => rfl) (Stb.refl H) (fun _ h => h) (fun _ h => .inl h) (fun _ h => h) (fun a h => o.lr a h) ⟨x, rfl, ?_⟩ (by simp) (fun a ha => by simp at ha)) ⟨fun _ h => h, fun _ _ _ h => h, Stb.refl H, keepF_set i hm hkf _ _⟩
  have toW : (rS K H (reg w E L) t).1 x d → (rS K H (fun a => E.S0 a ∨ L a) t).1 x d := fun r => by
    cases w with
    | true => exact r
    | false => exact (rS_mono (Cov.of_reg fun a h _ => .inr h) (Stb.refl H) t).1 x d r
  cases m with
  | o => exact (rS_o t hk).1 x d r
  | l =>
    refine ⟨rfl, ?_⟩
    cases w with
    | false => exact r
    | true => exact (rS_frz t (by simpa [okTg] using hk)).1 x d r
  | w => exact ⟨rfl, toW r⟩
  | f => exact absurd hk (by simp [okTg])
  | k => exact absurd hk (by simp [okTg])
theorem rgs_one {w : Bool} {t : Ty} {g : TG} {B : den t → Gam ts → Gam ts} (h : RG K ms ts g w t B) : RGs K ms ts (gCons g gNil) w (.last t) B := fun E L Γ σ H Q xs d o r q => by
  obtain ⟨v, rfl, r⟩ := r
  exact ⟨v, [], rfl, h E L Γ σ H _ v d o r fun σ' o' e' => ⟨rfl, q σ' o' e'⟩⟩
theorem rgs_cons {w : Bool} {t b : Ty} {g : TG} {gs : TGs} {B : den t → Gam ts → Gam ts} {B' : den b → Gam ts → Gam ts} (h : RG K ms ts g w t B) (h' : RGs K ms ts gs w b B') : RGs K ms ts (gCons g gs) w (.cons t b) (bCons B B') := fun E L Γ σ H Q xs d o r q => by
  obtain ⟨v, vs, rfl, r1, r2⟩ := r
  refine ⟨v, vs, rfl, h E L Γ σ H _ v d.1 o r1 fun σ' o' e' => ?_⟩
  exact h' E L (B d.1 Γ) σ' H Q vs d.2 o' r2 fun σ2 o2 e2 => q σ2 o2 (e'.trans e2)
theorem rg_tup {w : Bool} {b : Ty} {gs : TGs} {n : Nat} {B : den b → Gam ts → Gam ts} (h : RGs K ms ts gs w b B) (hn : rowLen b = n := by rfl) : RG K ms ts (gTup K n gs) w (.tup b) B := fun E L Γ σ H Q x d o r q => by
  obtain ⟨a, vs, rfl, h1, h2⟩ := r
  exact ⟨a, vs, rfl, .of h1, (row_length b vs d h2).trans hn, h E L Γ σ H Q vs d o h2 q⟩
/-- names that the mask forgets are none of those that are to stay -/
def okMask : List Md → List Bool → Bool
  | [], _ => true
  | _, [] => true
  | m :: ms, b :: bs => (b || !m.hard) && okMask ms bs
theorem mask_get : ∀ {ts : List Ty} {t : Ty} (i : Mem ts t) (ms : List Md) (bs : List Bool) (Γ : Gam ts), okMask ms bs = true → (∃ m, ms[i.ix]? = some m ∧ m.hard = true) → i.get (Gam.mask bs Γ) = i.get Γ
  | _ :: _, _, .z, m :: ms, b :: bs, Γ, h, hm => by
    obtain ⟨m', e, hh⟩ := hm
    have e : m = m' := by simpa [Mem.ix] using e
    subst e
    simp only [okMask, Bool.and_eq_true] at h
    have hb : b = true := by simpa [hh] using h.1
    subst hb
    rfl
  | _ :: _, _, .s i, m :: ms, b :: bs, Γ, h, hm => by
    simp only [okMask, Bool.and_eq_true] at h
    exact mask_get i ms bs Γ.2 h.2 (by simpa [Mem.ix] using hm)
  | _ :: _, _, .z, _, [], _, _, _ => rfl
  | _ :: _, _, .s i, _, [], _, _, _ => rfl
  | _, _, .z, [], _, _, _, hm => by simp at hm
  | _, _, .s i, [], _, _, _, hm => by simp at hm
theorem Ev.mask {L' : Reg} {Γ' : Gam ts} {σ' : St} {bs : List Bool} (hb : okMask ms bs = true) (e : Ev ms ts L Γ σ H L' Γ' σ' H') : Ev ms ts L Γ σ H L' (Gam.mask bs Γ') σ' H' :=
  ⟨e.sub, e.cell, e.stb, fun t i m h hh => ⟨(mask_get i ms bs Γ' hb ⟨m, h, hh⟩).trans (e.keep t i m h hh).1, (e.keep t i m h hh).2⟩⟩
theorem Ev.cov {w : Bool} {L' : Reg} {Γ' : Gam ts} {σ' : St} (o : Own K E L ms ts Γ σ H xt) {xt' : List Addr} (o' : Own K E L' ms ts Γ' σ' H' xt') (e : Ev ms ts L Γ σ H L' Γ' σ' H') : Cov H H' (reg w E L) (reg w E L) := by
  have covL : Cov H H' L L := fun a q h x => by
    refine ⟨h, ?_⟩
    cases z : H a with
    | none => rw [z] at x; cases x
    | some y => rw [e.cell a y h z, ← z]; exact x
  cases w with
  | false => exact covL
  | true =>
    intro a q h x
    rcases h with h | h
    · exact ⟨.inl h, (o.covS o'.fr a q h x).2⟩
    · exact ⟨.inr h, (covL a q h x).2⟩
theorem Ev.covw {w : Bool} {L' : Reg} {Γ' : Gam ts} {σ' : St} (o : Own K E L ms ts Γ σ H xt) {xt' : List Addr} (o' : Own K E L' ms ts Γ' σ' H' xt') (e : Ev ms ts L Γ σ H L' Γ' σ' H') : Cov H H' (reg w E L) (reg w E L') := fun a q h x => by
  have := e.cov (w := w) o o' a q h x
  refine ⟨?_, this.2⟩
  cases w with
  | false => exact e.sub a this.1
  | true => exact this.1.elim .inl fun z => .inr (e.sub a z)
theorem rs_for {w : Bool} {t : Ty} {wi : TI} {g : TG} {tb : TS} {F : Gam ts → Option (List (den t))} {B : den t → Gam ts → Gam ts} {body : Gam ts → Option (Fl (Gam ts) (den ρ))} (bs : List Bool) (hi : RI K ms ts wi w t F) (hg : RG K ms ts g w t B) (hb : RS K ms ts tb rm ρ body)
    (hm : okMask ms bs = true := by rfl) : RS K ms ts (tFor wi g tb) rm ρ (sFor F B (Gam.mask bs) body) := fun E L Γ σ H D f o e p => by
  obtain ⟨ds, e1, e2⟩ := bind_some e
  refine hi E L Γ σ H [] _ ds o e1 fun J H1 Lr Z s1 nw it z1 => ?_
  have o1 : Own K E (fun a => L a ∨ Lr a) ms ts Γ σ H1 [] := o.temp s1 List.nodup_nil (fun a ha => by simp at ha) nw fun a ha => by simp at ha
  have ev1 : Ev ms ts L Γ σ H (fun a => L a ∨ Lr a) Γ σ H1 := ⟨fun a h => .inl h, fun a q _ h => s1 _ _ h, Stb.of_same s1, fun _ _ _ _ _ => ⟨rfl, rfl⟩⟩
  have p1 := p.later ev1
  have o1m := o1.mask bs
  refine ⟨fun i m σ' H' => m = ds.length - i ∧ i ≤ ds.length ∧ ∃ L' Γ', Own K E L' ms ts Γ' σ' H' [] ∧ Ev ms ts (fun a => L a ∨ Lr a) Γ σ H1 L' Γ' σ' H' ∧ forL B (Gam.mask bs) body (ds.drop i) Γ' = some f,
    ⟨ds.length, by simp, Nat.zero_le _, _, Gam.mask bs Γ, o1m, (Ev.same (Same.refl H1)).mask hm, by simpa using e2⟩, ?_⟩
  rintro i m σ2 H2 ⟨rfl, hle, L2, Γ2, o2, ev2, e3⟩
  have z2 : Z H2 := it.keep H1 H2 (ev2.cov o1 o2) ev2.stb z1
  by_cases hlt : i < ds.length
  · refine .inr ⟨it.go i H2 z2 hlt, fun σ' H' => ∃ L' Γ', Own K E L' ms ts Γ' σ' H' [] ∧ Ev ms ts (fun a => L a ∨ Lr a) Γ σ H1 L' Γ' σ' H' ∧ forL B (Gam.mask bs) body (ds.drop (i + 1)) Γ' = some f, fun σ' H' h => ⟨ds.length - (i + 1), by omega, rfl, hlt, h⟩, fun x H3 hy => ?_⟩
    obtain ⟨s3, d, hd, rd⟩ := it.yld i H2 x H3 hlt z2 hy
    have ed : ds.drop i = d :: ds.drop (i + 1) := by
      have hd' : ds[i] = d := by
        have := List.getElem?_eq_getElem hlt
        rw [this] at hd
        exact Option.some.inj hd
      rw [List.drop_eq_getElem_cons hlt, hd']
    rw [ed] at e3
    obtain ⟨r, e4, e5⟩ := bind_some (show (body (B d Γ2)).bind _ = some f from e3)
    have o3 := o2.same s3
    have ev3 : Ev ms ts (fun a => L a ∨ Lr a) Γ σ H1 L2 Γ2 σ2 H3 := ev2.trans (Ev.same s3)
    refine hg E L2 Γ2 σ2 H3 _ x d o3 ((rS_mono (Cov.of_reg fun a h _ => (by
      cases w with
      | false => exact ev3.sub a h
      | true => exact h.elim .inl fun z => .inr (ev3.sub a z) : reg w E L2 a)) (Stb.refl H3) t).1 x d rd) fun σ4 o4 ev4 => ?_
    refine hb E L2 (B d Γ2) σ4 H3 _ r o4 e4 ?_
    have evb := ev3.trans ev4
    cases r with
    | nx Γ5 => exact fun L5 σ5 H5 o5 ev5 => ⟨L5, Gam.mask bs Γ5, o5.mask bs, (evb.trans ev5).mask hm, e5⟩
    | ct Γ5 => exact fun L5 σ5 H5 o5 ev5 => ⟨L5, Gam.mask bs Γ5, o5.mask bs, (evb.trans ev5).mask hm, e5⟩
    | bk Γ5 =>
      have e6 : Fl.nx (Gam.mask bs Γ5) = f := Option.some.inj e5
      subst e6
      exact fun L5 σ5 H5 o5 ev5 => p1 L5 σ5 H5 (o5.mask bs) ((evb.trans ev5).mask hm)
    | rt d5 Γ5 =>
      have e6 : Fl.rt d5 Γ5 = f := Option.some.inj e5
      subst e6
      exact fun L5 σ5 H5 v5 xt5 o5 ev5 r5 => p1 L5 σ5 H5 v5 xt5 o5 (evb.trans ev5) r5
  · have hi : i = ds.length := by omega
    subst hi
    rw [List.drop_length] at e3
    have e4 : Fl.nx Γ2 = f := Option.some.inj e3
    subst e4
    exact .inl ⟨it.stop H2 z2, p1 L2 σ2 H2 o2 ev2⟩
end
end VV

/-! VDef: while, what is walked, defs and their calls. -/
namespace VV
open PySem L2
open PyProof.Rows hiding St

section
variable {K : PySem.W.Frag} {E : Ent} {ms : List Md} {ts : List Ty} {L L1 : Reg} {Γ Γ1 : Gam ts} {σ σ1 : St} {H H' H1 : Hp} {xt : List Addr} {rm : Rm} {ρ : Ty}
/-! ### while -/
def whileN {G ρ : Type} (c : G → Option Bool) (mask : G → G) (body : G → Option (Fl G ρ)) : Nat → G → Option (Fl G ρ)
  | 0, _ => none
  | n + 1, Γ => (c Γ).bind fun b => if b = true then (body Γ).bind fun r => match r with
      | .nx Γ' => whileN c mask body n (mask Γ')
      | .ct Γ' => whileN c mask body n (mask Γ')
      | .bk Γ' => some (.nx (mask Γ'))
      | .rt r Γ' => some (.rt r Γ')
    else some (.nx Γ)
theorem whileN_succ {G ρ : Type} {c : G → Option Bool} {mask : G → G} {body : G → Option (Fl G ρ)} : ∀ {n : Nat} {Γ : G} {r : Fl G ρ}, whileN c mask body n Γ = some r → whileN c mask body (n + 1) Γ = some r
  | 0, _, _, h => by cases h
  | n + 1, Γ, r, h => by
    rw [whileN] at h ⊢
    obtain ⟨b, e1, e2⟩ := bind_some h
    rw [e1]
    show (if b = true then _ else _) = _
    cases b with
    | false => exact e2
    | true =>
      rw [if_pos rfl] at e2 ⊢
      obtain ⟨r', e3, e4⟩ := bind_some e2
      rw [e3]
      cases r' with
      | nx Γ' => exact whileN_succ e4
      | ct Γ' => exact whileN_succ e4
      | bk Γ' => exact e4
      | rt d Γ' => exact e4
theorem whileN_add {G ρ : Type} {c : G → Option Bool} {mask : G → G} {body : G → Option (Fl G ρ)} {n : Nat} {Γ : G} {r : Fl G ρ} (h : whileN c mask body n Γ = some r) : ∀ k : Nat, whileN c mask body (n + k) Γ = some r
  | 0 => h
  | k + 1 => whileN_succ (whileN_add h k)
theorem whileN_det {G ρ : Type} {c : G → Option Bool} {mask : G → G} {body : G → Option (Fl G ρ)} {n m : Nat} {Γ : G} {r r' : Fl G ρ} (h : whileN c mask body n Γ = some r) (h' : whileN c mask body m Γ = some r') : r = r' := by
  have a := whileN_add h m
  have b := whileN_add h' n
  rw [Nat.add_comm m n] at b
  rw [a] at b
  exact Option.some.inj b
open Classical in
noncomputable def sWhile {G ρ : Type} (c : G → Option Bool) (mask : G → G) (body : G → Option (Fl G ρ)) : G → Option (Fl G ρ) := fun Γ =>
  if h : ∃ r n, whileN c mask body n (mask Γ) = some r then some (Classical.choose h) else none
theorem sWhile_of {G ρ : Type} {c : G → Option Bool} {mask : G → G} {body : G → Option (Fl G ρ)} {n : Nat} {Γ : G} {r : Fl G ρ} (h : whileN c mask body n (mask Γ) = some r) : sWhile c mask body Γ = some r := by
  have hx : ∃ r n, whileN c mask body n (mask Γ) = some r := ⟨r, n, h⟩
  unfold sWhile
  rw [dif_pos hx]
  obtain ⟨m, hm⟩ := Classical.choose_spec hx
  rw [whileN_det hm h]
theorem sWhile_some {G ρ : Type} {c : G → Option Bool} {mask : G → G} {body : G → Option (Fl G ρ)} {Γ : G} {r : Fl G ρ} (h : sWhile c mask body Γ = some r) : ∃ n, whileN c mask body n (mask Γ) = some r := by
  unfold sWhile at h
  split at h
  · rename_i hx
    obtain ⟨m, hm⟩ := Classical.choose_spec hx
    rw [Option.some.inj h] at hm
    exact ⟨m, hm⟩
  · cases h
theorem rs_while {tc : TT} {tb : TS} {c : Gam ts → Option Bool} {body : Gam ts → Option (Fl (Gam ts) (den ρ))} (bs : List Bool) (hc : RT K ms ts tc c) (hb : RS K ms ts tb rm ρ body) (hm : okMask ms bs = true := by rfl) : RS K ms ts (tWhile tc tb) rm ρ (sWhile c (Gam.mask bs) body) := fun E L Γ σ H D f o e p => by
  obtain ⟨n, e⟩ := sWhile_some e
  refine ⟨fun m σ' H' => ∃ L' Γ', Own K E L' ms ts Γ' σ' H' [] ∧ Ev ms ts L Γ σ H L' Γ' σ' H' ∧ whileN c (Gam.mask bs) body m Γ' = some f, ⟨n, L, Gam.mask bs Γ, o.mask bs, (Ev.same (Same.refl H)).mask hm, e⟩, ?_⟩
  rintro m σ2 H2 ⟨L2, Γ2, o2, ev2, e2⟩
  cases m with
  | zero => cases e2
  | succ m =>
    rw [whileN] at e2
    obtain ⟨b, e3, e4⟩ := bind_some e2
    refine hc E L2 Γ2 σ2 H2 [] _ b o2 e3 fun H3 s3 => ?_
    have ev3 := ev2.trans (Ev.same (ms := ms) (ts := ts) (L := L2) (Γ := Γ2) (σ := σ2) s3)
    cases b with
    | false =>
      rw [if_neg Bool.false_ne_true] at e4 ⊢
      have e5 : Fl.nx Γ2 = f := Option.some.inj e4
      subst e5
      exact p L2 σ2 H3 (o2.same s3) ev3
    | true =>
      rw [if_pos rfl] at e4 ⊢
      obtain ⟨r, e5, e6⟩ := bind_some e4
      refine ⟨fun σ' H' => ∃ L' Γ', Own K E L' ms ts Γ' σ' H' [] ∧ Ev ms ts L Γ σ H L' Γ' σ' H' ∧ whileN c (Gam.mask bs) body m Γ' = some f, fun σ' H' h => ⟨m, Nat.lt_succ_self m, h⟩, ?_⟩
      refine hb E L2 Γ2 σ2 H3 _ r (o2.same s3) e5 ?_
      cases r with
      | nx Γ5 => exact fun L5 σ5 H5 o5 ev5 => ⟨L5, Gam.mask bs Γ5, o5.mask bs, (ev3.trans ev5).mask hm, e6⟩
      | ct Γ5 => exact fun L5 σ5 H5 o5 ev5 => ⟨L5, Gam.mask bs Γ5, o5.mask bs, (ev3.trans ev5).mask hm, e6⟩
      | bk Γ5 =>
        have e7 : Fl.nx (Gam.mask bs Γ5) = f := Option.some.inj e6
        subst e7
        exact fun L5 σ5 H5 o5 ev5 => p L5 σ5 H5 (o5.mask bs) ((ev3.trans ev5).mask hm)
      | rt d5 Γ5 =>
        have e7 : Fl.rt d5 Γ5 = f := Option.some.inj e6
        subst e7
        exact fun L5 σ5 H5 v5 xt5 o5 ev5 r5 => p L5 σ5 H5 v5 xt5 o5 (ev3.trans ev5) r5

/-! ### what is walked -/
theorem iter_list {R : Reg} {t : Ty} {a : Addr} {ds : List (den t)} : IterOk K R t (Itl K a) ds (fun H => (rS K H R (.list t)).1 (.ref a) ds) where
  keep := fun H H' c s h => (rS_mono c s (.list t)).1 _ _ h
  go := fun i H h hi => by
    obtain ⟨b, vs, e, h1, h2⟩ := h
    cases e
    have hl := h2.length
    exact ⟨vs, vs[i]'(by omega), h1.seq, List.getElem?_eq_getElem _⟩
  stop := fun H h => by
    obtain ⟨b, vs, e, h1, h2⟩ := h
    cases e
    exact ⟨vs, h1.seq, Nat.le_of_eq h2.length⟩
  yld := fun i H x H' hlt h hy => by
    obtain ⟨b, vs, e, h1, h2⟩ := h
    cases e
    obtain ⟨rfl, hx⟩ := hy
    obtain ⟨d, hd, r⟩ := h2.get' (hx vs h1.seq)
    exact ⟨Same.refl _, d, hd, r⟩
theorem reg_rep {w : Bool} {t : Ty} {v : V} {d : den t} (r : Rep K E L H H1 (if w then .w else .l) t v d) : ∃ Lr, (rS K H1 (reg w E fun a => L a ∨ Lr a) t).1 v d ∧ Nw H H1 Lr := by
  cases w with
  | true =>
    obtain ⟨Lr, h1, h2⟩ := r
    exact ⟨Lr, h1, h2⟩
  | false =>
    obtain ⟨Lr, h1, h2⟩ := r
    exact ⟨Lr, h1, h2⟩
theorem ri_list {w : Bool} {t : Ty} {te : TE} {F : Gam ts → Option (List (den t))} (h : RP K ms ts te (if w then .w else .l) (.list t) F) : RI K ms ts (iList K te) w t F := fun E L Γ σ H xt R ds o e q => by
  refine h E L Γ σ H xt _ ds o e fun v H1 s1 r1 => ?_
  obtain ⟨Lr, h1, h2⟩ := reg_rep r1
  obtain ⟨a, vs, rfl, h3, h4⟩ := id h1
  exact ⟨a, rfl, ⟨vs, h3.seq⟩, q _ H1 Lr _ s1 h2 iter_list h1⟩
theorem iter_vtup {R : Reg} {t : Ty} {a : Addr} {ds : List (den t)} : IterOk K R t (Itt K a) ds (fun H => (rS K H R (.vtup t)).1 (.ref a) ds) where
  keep := fun H H' c s h => (rS_mono c s (.vtup t)).1 _ _ h
  go := fun i H h hi => by
    obtain ⟨b, vs, e, h1, h2⟩ := h
    cases e
    have hl := h2.length
    exact ⟨vs, vs[i]'(by omega), .of h1, List.getElem?_eq_getElem _⟩
  stop := fun H h => by
    obtain ⟨b, vs, e, h1, h2⟩ := h
    cases e
    exact ⟨vs, .of h1, Nat.le_of_eq h2.length⟩
  yld := fun i H x H' hlt h hy => by
    obtain ⟨b, vs, e, h1, h2⟩ := h
    cases e
    obtain ⟨rfl, hx⟩ := hy
    obtain ⟨d, hd, r⟩ := h2.get' (hx vs (.of h1))
    exact ⟨Same.refl _, d, hd, r⟩
theorem ri_vtup {w : Bool} {t : Ty} {te : TE} {F : Gam ts → Option (List (den t))} (h : RP K ms ts te (if w then .w else .l) (.vtup t) F) : RI K ms ts (iTup K te) w t F := fun E L Γ σ H xt R ds o e q => by
  refine h E L Γ σ H xt _ ds o e fun v H1 s1 r1 => ?_
  obtain ⟨Lr, h1, h2⟩ := reg_rep r1
  obtain ⟨a, vs, rfl, h3, h4⟩ := id h1
  exact ⟨a, rfl, ⟨vs, .of h3⟩, q _ H1 Lr _ s1 h2 iter_vtup h1⟩
/-- lo, lo + 1, .. below hi -/
def rng (lo hi : Int) : List Int := (List.range (hi - lo).toNat).map fun (k : Nat) => lo + (k : Int)
theorem rng_get {lo hi : Int} {i : Nat} (h : i < (hi - lo).toNat) : (rng lo hi)[i]? = some (lo + (i : Int)) := by
  unfold rng
  rw [List.getElem?_map, List.getElem?_range h]
  rfl
theorem rng_len {lo hi : Int} : (rng lo hi).length = (hi - lo).toNat := by simp [rng]
theorem iter_rng {R : Reg} {lo hi : Int} : IterOk K R .int (Itr lo (hi - lo).toNat) (rng lo hi) (fun _ => True) where
  keep := fun _ _ _ _ h => h
  go := fun i H _ hi => by rw [rng_len] at hi; exact hi
  stop := fun H _ => by rw [rng_len]; exact Nat.le_refl _
  yld := fun i H x H' hlt _ hy => by
    obtain ⟨rfl, rfl⟩ := hy
    rw [rng_len] at hlt
    exact ⟨Same.refl _, _, rng_get hlt, rfl⟩
def fRng1 (n : Int) : Option (List Int) := okIf (decide (-(2 ^ 62) ≤ n ∧ n < 2 ^ 62)) (rng 0 n)
def fRng2 (d : Int × Int) : Option (List Int) := okIf (decide (-(2 ^ 62) ≤ d.1 ∧ d.1 < 2 ^ 62 ∧ -(2 ^ 62) ≤ d.2 ∧ d.2 < 2 ^ 62)) (rng d.1 d.2)

theorem ri_rng1 {w : Bool} {ta : TA} {m : Em} {F : Gam ts → Option Int} (h : RA K ms ts ta m (.last .int) F) : RI K ms ts (iRng1 ta) w .int (e1 fRng1 F) := fun E L Γ σ H xt R ds o e q => by
  obtain ⟨n, en, e⟩ := bind_some e
  dsimp only [fRng1, okIf] at e
  split at e
  · rename_i hb
    cases e
    have hb := of_decide_eq_true hb
    refine h E L Γ σ H xt _ n o en fun vs H1 s1 r1 => ?_
    obtain ⟨v, rfl, rv⟩ : ∃ v, vs = [v] ∧ v = .int n := by
      cases m with
      | o =>
        obtain ⟨f, Lr, ⟨v, e1, k⟩, _⟩ := r1
        rcases k with k | ⟨_, _, k⟩
        · exact ⟨v, e1, k.2⟩
        · exact ⟨v, e1, k⟩
      | l => obtain ⟨Lr, ⟨v, e1, k⟩, _⟩ := r1; exact ⟨v, e1, k⟩
      | w => obtain ⟨Lr, ⟨v, e1, k⟩, _⟩ := r1; exact ⟨v, e1, k⟩
      | b => obtain ⟨v, e1, k⟩ := r1; exact ⟨v, e1, k⟩
    subst rv
    refine ⟨n, rfl, hb.1, hb.2, q _ H1 (fun _ => False) (fun _ => True) s1 (fun a h => h.elim) ?_ True.intro⟩
    have := iter_rng (K := K) (R := reg w E fun a => L a ∨ False) (lo := 0) (hi := n)
    rw [Int.sub_zero] at this
    exact this
  · cases e
theorem ri_rng2 {w : Bool} {ta : TA} {F : Gam ts → Option (Int × Int)} (h : RA K ms ts ta .b (.cons .int (.last .int)) F) : RI K ms ts (iRng2 ta) w .int (e1 fRng2 F) := fun E L Γ σ H xt R ds o e q => by
  obtain ⟨n, en, e⟩ := bind_some e
  dsimp only [fRng2, okIf] at e
  split at e
  · rename_i hb
    cases e
    have hb := of_decide_eq_true hb
    refine h E L Γ σ H xt _ n o en fun vs H1 s1 r1 => ?_
    obtain ⟨v, r, rfl, rv, ⟨w', rfl, rw'⟩⟩ := r1
    cases rv
    cases rw'
    exact ⟨n.1, n.2, rfl, hb, q _ H1 (fun _ => False) (fun _ => True) s1 (fun a h => h.elim) iter_rng True.intro⟩
  · cases e

/-! ### defs -/
def rowTys : Ty → List Ty
  | .last a => [a]
  | .cons a b => a :: rowTys b
  | _ => []
def noneG : (ls : List Ty) → Gam ls
  | [] => ()
  | _ :: ls => (none, noneG ls)
def iniG : (b : Ty) → (ls : List Ty) → den b → Gam (rowTys b ++ ls)
  | .last _, ls, d => (some d, noneG ls)
  | .cons _ b, ls, d => (some d.1, iniG b ls d.2)
  | .non, ls, _ => noneG ls
  | .bool, ls, _ => noneG ls
  | .int, ls, _ => noneG ls
  | .str, ls, _ => noneG ls
  | .any, ls, _ => noneG ls
  | .opt _, ls, _ => noneG ls
  | .vtup _, ls, _ => noneG ls
  | .list _, ls, _ => noneG ls
  | .dict _ _, ls, _ => noneG ls
  | .own _, ls, _ => noneG ls
  | .tup _, ls, _ => noneG ls
/-- the parameters are shared -/
def okMs : Ty → List Ty → List Md → Bool
  | .last _, ls, m :: ms => (m == .w || m == .f) && ms.length == ls.length
  | .cons _ b, ls, m :: ms => (m == .w || m == .f) && okMs b ls ms
  | _, _, _ => false
theorem rG_none : ∀ {ls : List Ty} {ms : List Md} {S0 L : Reg}, ms.length = ls.length → rG K H S0 L ms ls (noneG ls) (List.replicate ls.length none) []
  | [], [], _, _, _ => ⟨rfl, rfl⟩
  | _ :: ls, m :: ms, _, _, h => ⟨[], [], rfl, rfl, rG_none (by simpa using h)⟩
  | [], _ :: _, _, _, h => by simp at h
  | _ :: _, [], _, _, h => by simp at h
theorem rG_ini {S0 L : Reg} : ∀ (b : Ty) (ls : List Ty) (ms : List Md) (vs : List V) (d : den b), okMs b ls ms = true → (rS K H S0 b).2 vs d → rG K H S0 L ms (rowTys b ++ ls) (iniG b ls d) (vs.map some ++ List.replicate ls.length none) []
  | .last a, ls, m :: ms, vs, d, hk, h => by
    obtain ⟨v, rfl, r⟩ := h
    simp only [okMs, Bool.and_eq_true, Bool.or_eq_true, beq_iff_eq] at hk
    have r' : (rS K H (fun a => S0 a ∨ L a) a).1 v d := (rS_mono (Cov.of_reg fun a h _ => .inl h) (Stb.refl H) a).1 v d r
    refine ⟨[], [], rfl, ⟨v, rfl, ?_⟩, rG_none hk.2⟩
    rcases hk.1 with rfl | rfl
    · exact ⟨rfl, r'⟩
    · exact ⟨rfl, r'⟩
  | .cons a b, ls, m :: ms, vs, d, hk, h => by
    obtain ⟨v, r, rfl, r1, r2⟩ := h
    simp only [okMs, Bool.and_eq_true, Bool.or_eq_true, beq_iff_eq] at hk
    have r' : (rS K H (fun a => S0 a ∨ L a) a).1 v d.1 := (rS_mono (Cov.of_reg fun a h _ => .inl h) (Stb.refl H) a).1 v d.1 r1
    refine ⟨[], [], rfl, ⟨v, rfl, ?_⟩, rG_ini b ls ms r d.2 hk.2 r2⟩
    rcases hk.1 with rfl | rfl
    · exact ⟨rfl, r'⟩
    · exact ⟨rfl, r'⟩
  | .last _, _, [], _, _, hk, _ => by simp [okMs] at hk
  | .cons _ _, _, [], _, _, hk, _ => by simp [okMs] at hk
  | .non, _, _, _, _, hk, _ => by simp [okMs] at hk
  | .bool, _, _, _, _, hk, _ => by simp [okMs] at hk
  | .int, _, _, _, _, hk, _ => by simp [okMs] at hk
  | .str, _, _, _, _, hk, _ => by simp [okMs] at hk
  | .any, _, _, _, _, hk, _ => by simp [okMs] at hk
  | .opt _, _, _, _, _, hk, _ => by simp [okMs] at hk
  | .vtup _, _, _, _, _, hk, _ => by simp [okMs] at hk
  | .list _, _, _, _, _, hk, _ => by simp [okMs] at hk
  | .dict _ _, _, _, _, _, hk, _ => by simp [okMs] at hk
  | .own _, _, _, _, _, hk, _ => by simp [okMs] at hk
  | .tup _, _, _, _, _, hk, _ => by simp [okMs] at hk
/-- how what is handed back lies -/
def CRep (K : PySem.W.Frag) (S : Reg) (H H' : Hp) : Rm → (ρ : Ty) → V → den ρ → Prop
  | .o, ρ, v, d => ∃ f Lr, (rO K H' Lr ρ).1 v d f ∧ f.Nodup ∧ Nw H H' (· ∈ f) ∧ Nw H H' Lr ∧ ∀ a ∈ f, ¬ Lr a
  | .l, ρ, v, d => ∃ Lr, (rS K H' Lr ρ).1 v d ∧ Nw H H' Lr
  | .w, ρ, v, d => ∃ Lr, (rS K H' (fun a => S a ∨ Lr a) ρ).1 v d ∧ Nw H H' Lr
/-- THE PROMISE of a def that changes nothing that is handed in: its mirror m -/
def spP (K : PySem.W.Frag) (b : Ty) (rm : Rm) (ρ : Ty) (m : den b → Option (den ρ)) : Sp := fun vs H Q _ => ∃ (S : Reg) (d : den b) (r : den ρ), (∀ a, S a → (H a).isSome = true) ∧ (rS K H S b).2 vs d ∧ m d = some r ∧ ∀ v' H', Same H H' → CRep K S H H' rm ρ v' r → Q v' H'
def endOf {G ρ : Type} : Option (Fl G ρ) → Option ρ
  | some (.rt r _) => some r
  | _ => none
/-- what a def's body reckons -/
def runG {ρ : Type} (b : Ty) (ls : List Ty) (F : Gam (rowTys b ++ ls) → Option (Fl (Gam (rowTys b ++ ls)) ρ)) (d : den b) : Option ρ := endOf (F (iniG b ls d))
theorem fn_ok {P : Program} {w : World} {mg : Str → Option Value} {base : Heap} {x qual : Str} {st : Stmt} {f : Addr} {fd : FuncData} {N ps : List Str} {k : Nat} {b : Ty} (ls : List Ty) (ms : List Md) {m : den b → Option (den ρ)} {F : Gam (rowTys b ++ ls) → Option (Fl (Gam (rowTys b ++ ls)) (den ρ))}
    (Fn : Fun K x qual st f fd) (S : FnScope N ps (defScope st)) (hps : ps.length = rowLen b) (hN : N.length = rowLen b + ls.length) (hms : okMs b ls ms = true) (hm : ∀ d, m d = runG b ls F d)
    (hbody : ∀ (cdv : Value) (A : Around) (outer : List Env) (s : Shared) (H : Hp) (E : XK), Room k (A.deeper (envOfC qual (defScope st) s.heap.objs.size f cdv)) →
      ∃ t, PSs (cxOf CX0 P w K mg base N qual (defScope st) f cdv A outer s H E).nox (defBody st) t ∧ RS K ms (rowTys b ++ ls) t rm ρ F) : FnOk P w K mg base CX0 (k + 1) f fd ps (spP K b rm ρ m) := by
  refine Fn.ok S (fun vs H Q E h => ?_) (fun cdv A outer s H vs Q E hr h => ?_)
  · obtain ⟨S, d, r, _, h2, _⟩ := h
    rw [row_length b vs d h2, hps]
  · obtain ⟨S, d, r, h1, h2, h3, h4⟩ := h
    obtain ⟨t, ht, hrs⟩ := hbody cdv A outer s H E hr
    refine ⟨t, ht, ?_⟩
    rw [hm d] at h3
    unfold runG at h3
    have hl := row_length b vs d h2
    have es : L2.start N vs = vs.map some ++ List.replicate ls.length none := by
      unfold L2.start
      rw [hl, hN, Nat.add_sub_cancel_left]
    rw [es]
    obtain ⟨fl, e1, e2⟩ : ∃ fl, F (iniG b ls d) = some fl ∧ endOf (some fl) = some r := by
      cases e : F (iniG b ls d) with
      | none => rw [e] at h3; cases h3
      | some fl => rw [e] at h3; exact ⟨fl, rfl, h3⟩
    cases fl with
    | nx _ => cases e2
    | bk _ => cases e2
    | ct _ => cases e2
    | rt r' Γ' =>
      cases e2
      have o : Own K ⟨H, S, []⟩ (fun _ => False) ms (rowTys b ++ ls) (iniG b ls d) (vs.map some ++ List.replicate ls.length none) H [] :=
        ⟨⟨[], rG_ini b ls ms vs d hms h2, by simp, fun a ha => by simp at ha⟩, fun a o h _ => h, fun a h => h.elim, fun a h => ⟨h1 a h, by simp⟩, fun a h => by simp at h⟩
      refine hrs ⟨H, S, []⟩ _ _ _ H _ _ o e1 fun L' σ' H' v xt o' ev rr => ?_
      have s' : Same H H' := fun a q h => o'.fr a q h (by simp)
      have nwL : Nw H H' L' := fun a h => ⟨(o'.lr a h).1.elim id fun z => by simp at z, (o'.lr a h).2⟩
      refine h4 v H' s' ?_
      cases rm with
      | o =>
        obtain ⟨fp, _, nd, gd⟩ := o'.ex
        exact ⟨xt, L', rr, (List.nodup_append.mp nd).2.1, fun a ha => ⟨(gd a (List.mem_append_right _ ha)).new.elim id fun z => by simp at z, (gd a (List.mem_append_right _ ha)).at_⟩, nwL, fun a ha => (gd a (List.mem_append_right _ ha)).nl⟩
      | l => exact ⟨L', rr.2, nwL⟩
      | w => exact ⟨L', rr.2, nwL⟩
theorem Rep2.b {m : Em} {t : Ty} {vs : List V} {d : den t} (r : Rep2 K E L H H1 m t vs d) : (rS K H1 (fun _ => True) t).2 vs d := by
  cases m with
  | o =>
    obtain ⟨f, Lr, h1, _⟩ := r
    exact (rO_s (fun _ _ => True.intro) t).2 vs d f (fun _ _ => True.intro) h1
  | l =>
    obtain ⟨Lr, h1, _⟩ := r
    exact (rS_mono (Cov.of_reg fun _ _ _ => True.intro) (Stb.refl _) t).2 vs d h1
  | w =>
    obtain ⟨Lr, h1, _⟩ := r
    exact (rS_mono (Cov.of_reg fun _ _ _ => True.intro) (Stb.refl _) t).2 vs d h1
  | b => exact r
/-- a call of a def that hands back what is its own -/
theorem rp_call {b : Ty} {mA : Em} {ta : TA} {m : den b → Option (den ρ)} {F : Gam ts → Option (den b)} {X : XK} (hk : (rm == .o || rm == .l) = true) (h : RA K ms ts ta mA b F) : RP K ms ts (tCall (spP K b rm ρ m) [] X ta) rm.em ρ (e1 m F) := fun E L Γ σ H xt Q d o e q => by
  obtain ⟨a, ea, e⟩ := bind_some e
  refine h E L Γ σ H xt _ a o ea fun vs H1 s1 r1 => ?_
  rw [List.append_nil]
  refine ⟨fun a => (H1 a).isSome = true, a, d, fun _ h => h, (rS_mono (Cov.of_reg fun _ _ h => h) (Stb.refl _) b).2 vs a r1.b, e, fun v' H2 s2 r2 => ?_⟩
  refine q v' H2 (s1.trans s2) (Rep.older s1 ?_)
  cases rm with
  | o =>
    obtain ⟨f, Lr, h1, h2, h3, h4, h5⟩ := r2
    exact ⟨f, Lr, (rO_mono (Cov.of_reg fun a h _ => .inr h) (Stb.refl _) ρ).1 v' d f (fun _ _ => rfl) h1, h2, h3, h4, h5⟩
  | l =>
    obtain ⟨Lr, h1, h2⟩ := r2
    exact ⟨Lr, (rS_mono (Cov.of_reg fun a h _ => .inr h) (Stb.refl _) ρ).1 v' d h1, h2⟩
  | w => exact absurd hk (by decide)
/-- a call of a def that may hand back a part of what is handed in -/
theorem rp_callw {b : Ty} {ta : TA} {m : den b → Option (den ρ)} {F : Gam ts → Option (den b)} {X : XK} (h : RA K ms ts ta .w b F) : RP K ms ts (tCall (spP K b .w ρ m) [] X ta) .w ρ (e1 m F) := fun E L Γ σ H xt Q d o e q => by
  obtain ⟨a, ea, e⟩ := bind_some e
  refine h E L Γ σ H xt _ a o ea fun vs H1 s1 r1 => ?_
  rw [List.append_nil]
  obtain ⟨Lr, h1, h2⟩ := r1
  refine ⟨fun a => (E.S0 a ∨ L a ∨ Lr a) ∧ (H1 a).isSome = true, a, d, fun _ h => h.2, (rS_mono (Cov.of_reg fun _ h h' => ⟨h, h'⟩) (Stb.refl _) b).2 vs a h1, e, fun v' H2 s2 r2 => ?_⟩
  obtain ⟨Ls, h3, h4⟩ := r2
  refine q v' H2 (s1.trans s2) ⟨fun a => Lr a ∨ Ls a, (rS_mono (Cov.of_reg fun a h _ => ?_) (Stb.refl _) ρ).1 v' d h3, fun a h => ?_⟩
  · rcases h with ⟨h | h | h, _⟩ | h
    · exact .inl h
    · exact .inr (.inl h)
    · exact .inr (.inr (.inl h))
    · exact .inr (.inr (.inr h))
  · rcases h with h | h
    · exact ⟨(h2 a h).1, by rw [same_at s2 (h2 a h).2]; exact (h2 a h).2⟩
    · exact ⟨s1.free (h4 a h).1, (h4 a h).2⟩

/-! ### the law -/
theorem f2_ints : ∀ ns : List Int, F2 (rS K H (fun a => (H a).isSome = true) .int).1 (ns.map V.int) ns
  | [] => True.intro
  | _ :: ns => ⟨rfl, f2_ints ns⟩
theorem law_sp {m : den (.last (.list .int)) → Option (den .bool)} (hm : ∀ ns : List Int, ns.length ≤ 63 → m ns = some true) {a : Addr} {ns : List Int} {X : XK} (hl : ns.length ≤ 63) (hS : SqL K H a (ns.map V.int)) : spP K (.last (.list .int)) .o .bool m [.ref a] H (fun v _ => v = .bl true) X :=
  ⟨fun a => (H a).isSome = true, ns, true, fun _ h => h, ⟨.ref a, rfl, a, ns.map V.int, rfl, LstR.of_seq hS, f2_ints ns⟩, hm ns hl, fun v' H' _ cr => by
    obtain ⟨f, Lr, h, _⟩ := cr
    exact h.2⟩
/-- a def as it stands behind the top, with its name -/
structure Df (K : PySem.W.Frag) (mg : Str → Option Value) (x qual : Str) (st : Stmt) (ps : List Str) (f : Addr) (fd : FuncData) : Prop where
  fn : Fun K x qual st f fd
  gl : mg x = some (.ref f)
  bi : Binds K fd ps []
theorem hu65 {k : Nat} {A : Around} (hr : Room k A) : A.units + 65 < cLine := by
  have := hr.un
  omega
end
end VV

/-! VMore: displays, items, slices, lengths, methods, truth of kinds, dicts. -/
namespace VV
open PySem L2
open PyProof.Rows hiding St

section
variable {K : PySem.W.Frag} {E : Ent} {ms : List Md} {ts : List Ty} {L L1 : Reg} {Γ Γ1 : Gam ts} {σ σ1 : St} {H H' H1 H2 : Hp} {xt : List Addr} {rm : Rm} {ρ : Ty}

/-! ### rows of one type -/
/-- how a row of things of one type lies -/
def RepL (K : PySem.W.Frag) (E : Ent) (L : Reg) (H H' : Hp) : Em → (t : Ty) → List V → List (den t) → Prop
  | .o, t, vs, ds => ∃ f Lr, F3 (kid t.isOwn (rS K H' (fun a => L a ∨ Lr a) t).1 (rO K H' (fun a => L a ∨ Lr a) t).1) vs ds f ∧ f.Nodup ∧ Nw H H' (· ∈ f) ∧ Nw H H' Lr ∧ ∀ a ∈ f, ¬ Lr a
  | .l, t, vs, ds => ∃ Lr, F2 (rS K H' (fun a => L a ∨ Lr a) t).1 vs ds ∧ Nw H H' Lr
  | .w, t, vs, ds => ∃ Lr, F2 (rS K H' (fun a => E.S0 a ∨ L a ∨ Lr a) t).1 vs ds ∧ Nw H H' Lr
  | .b, t, vs, ds => F2 (rS K H' (fun _ => True) t).1 vs ds
def RL (K : PySem.W.Frag) (ms : List Md) (ts : List Ty) (ta : TA) (m : Em) (t : Ty) (F : Gam ts → Option (List (den t))) : Prop :=
  ∀ (E : Ent) (L : Reg) (Γ : Gam ts) (σ : St) (H : Hp) (xt : List Addr) (Q : List V → Hp → Prop) (d : List (den t)), Own K E L ms ts Γ σ H xt → F Γ = some d → (∀ vs H', Same H H' → RepL K E L H H' m t vs d → Q vs H') → ta σ H Q
theorem rl_nil {m : Em} {t : Ty} : RL K ms ts tNil m t eNil := fun E L Γ σ H xt Q d o e q => by
  cases e
  refine q [] H (Same.refl H) ?_
  cases m with
  | o => exact ⟨[], fun _ => False, rfl, List.nodup_nil, fun a h => by simp at h, fun a h => h.elim, fun a h => by simp at h⟩
  | l => exact ⟨fun _ => False, True.intro, fun a h => h.elim⟩
  | w => exact ⟨fun _ => False, True.intro, fun a h => h.elim⟩
  | b => exact True.intro
theorem nw_old {R : Reg} (s1 : Same H H1) (h : Nw H1 H2 R) : Nw H H2 R := fun a ha => ⟨s1.free (h a ha).1, (h a ha).2⟩
theorem nw_on {R : Reg} (s2 : Same H1 H2) (h : Nw H H1 R) : Nw H H2 R := fun a ha => ⟨(h a ha).1, by rw [same_at s2 (h a ha).2]; exact (h a ha).2⟩
theorem nw_apart {R R' : Reg} (h : Nw H H1 R) (h' : Nw H1 H2 R') : ∀ a, R a → ¬ R' a := fun a ha hb => by
  have := (h a ha).2
  rw [(h' a hb).1] at this
  cases this
theorem rl_cons {m : Em} {t : Ty} {te : TE} {ta : TA} {F : Gam ts → Option (den t)} {G : Gam ts → Option (List (den t))} (h : RP K ms ts te m t F) (hr : RL K ms ts ta m t G) : RL K ms ts (tCons te ta) m t (eSnoc F G) := fun E L Γ σ H xt Q d o e q => by
  obtain ⟨a, ea, e⟩ := bind_some e
  obtain ⟨r, er, e⟩ := bind_some e
  cases e
  refine h E L Γ σ H xt _ a o ea fun v H1 s1 r1 => hr E L Γ σ H1 xt _ r (o.same s1) er fun vs H2 s2 r2 => q (v :: vs) H2 (s1.trans s2) ?_
  cases m with
  | o =>
    obtain ⟨f, Lr, h1, h2, h3, h4, h5⟩ := r1
    obtain ⟨g, Ls, k1, k2, k3, k4, k5⟩ := r2
    have e1 : (rO K H2 (fun a => L a ∨ (Lr a ∨ Ls a)) t).1 v a f := (rO_mono (Cov.of_same s2 fun a h _ => h.elim .inl fun z => .inr (.inl z)) (Stb.of_same s2) t).1 v a f (fun a ha => same_at s2 (h3 a ha).2) h1
    have e2 : F3 (kid t.isOwn (rS K H2 (fun a => L a ∨ (Lr a ∨ Ls a)) t).1 (rO K H2 (fun a => L a ∨ (Lr a ∨ Ls a)) t).1) vs r g := k1.imp fun v d g' _ x => kid_mono ((rS_mono (Cov.of_reg fun a h _ => h.elim .inl fun z => .inr (.inr z)) (Stb.refl _) t).1 v d) ((rO_mono (Cov.of_reg fun a h _ => h.elim .inl fun z => .inr (.inr z)) (Stb.refl _) t).1 v d g' fun _ _ => rfl) x
    refine ⟨f ++ g, fun a => Lr a ∨ Ls a, ⟨f, g, rfl, .inl e1, e2⟩, List.nodup_append.mpr ⟨h2, k2, fun a ha b hb z => ?_⟩, fun a ha => ?_, fun a ha => ?_, fun a ha => ?_⟩
    · subst z
      exact nw_apart h3 k3 a ha hb
    · rcases List.mem_append.mp ha with z | z
      · exact nw_on s2 h3 a z
      · exact nw_old s1 k3 a z
    · rcases ha with z | z
      · exact nw_on s2 h4 a z
      · exact nw_old s1 k4 a z
    · rcases List.mem_append.mp ha with z | z
      · exact fun y => y.elim (h5 a z) (nw_apart h3 k4 a z)
      · exact fun y => y.elim (fun y => nw_apart h4 k3 a y z) (k5 a z)
  | l =>
    obtain ⟨Lr, h1, h2⟩ := r1
    obtain ⟨Ls, k1, k2⟩ := r2
    refine ⟨fun a => Lr a ∨ Ls a, ⟨(rS_mono (Cov.of_same s2 fun a h _ => h.elim .inl fun z => .inr (.inl z)) (Stb.of_same s2) t).1 v a h1, k1.imp fun v d x => (rS_mono (Cov.of_reg fun a h _ => h.elim .inl fun z => .inr (.inr z)) (Stb.refl _) t).1 v d x⟩, fun a ha => ?_⟩
    rcases ha with z | z
    · exact nw_on s2 h2 a z
    · exact nw_old s1 k2 a z
  | w =>
    obtain ⟨Lr, h1, h2⟩ := r1
    obtain ⟨Ls, k1, k2⟩ := r2
    refine ⟨fun a => Lr a ∨ Ls a, ⟨(rS_mono (Cov.of_same s2 fun a h _ => h.elim .inl fun z => z.elim (fun z => .inr (.inl z)) fun z => .inr (.inr (.inl z))) (Stb.of_same s2) t).1 v a h1,
      k1.imp fun v d x => (rS_mono (Cov.of_reg fun a h _ => h.elim .inl fun z => z.elim (fun z => .inr (.inl z)) fun z => .inr (.inr (.inr z))) (Stb.refl _) t).1 v d x⟩, fun a ha => ?_⟩
    rcases ha with z | z
    · exact nw_on s2 h2 a z
    · exact nw_old s1 k2 a z
  | b => exact ⟨(rS_mono (Cov.of_same s2 fun a h _ => h) (Stb.of_same s2) t).1 v a r1, r2⟩

/-! ### displays -/
def rowSmall (b : Ty) : Bool := decide (rowLen b ≤ 1000)
theorem line_1000 {n : Nat} (h : n ≤ 1000) : n ≤ sizeLine := by rw [sizeLine_eq]; omega
theorem Rep2.len {m : Em} {b : Ty} {vs : List V} {d : den b} (r : Rep2 K E L H H1 m b vs d) : vs.length = rowLen b := row_length b vs d r.b
/-- what holds at the old heap, with one new thing more -/
theorem rep_new {m : Em} {t : Ty} {v : V} {d : den t} (s : Same H1 H2) (r : Rep K E L H H1 m t v d) : Rep K E L H H2 m t v d := r.same s
theorem rp_tup {m : Em} {b : Ty} {ta : TA} {F : Gam ts → Option (den b)} (h : RA K ms ts ta m b F) (hs : rowSmall b = true := by rfl) : RP K ms ts (tTup ta) m (.tup b) F := fun E L Γ σ H xt Q d o e q => by
  refine h E L Γ σ H xt _ d o e fun vs H1 s1 r1 => ?_
  refine ⟨by rw [r1.len]; exact line_1000 (of_decide_eq_true hs), fun p hp => ?_⟩
  have s2 : Same H1 (upd H1 p (.tup vs)) := same_new hp
  refine q (.ref p) _ (s1.trans s2) ?_
  cases m with
  | o =>
    obtain ⟨f, Lr, h1, h2, h3, h4, h5⟩ := r1
    exact ⟨f, Lr, ⟨p, vs, rfl, upd_same, (rO_mono (Cov.of_same s2 fun a h _ => h) (Stb.of_same s2) b).2 vs d f (fun a ha => same_at s2 (h3 a ha).2) h1⟩, h2, nw_on s2 h3, nw_on s2 h4, h5⟩
  | l =>
    obtain ⟨Lr, h1, h2⟩ := r1
    exact ⟨Lr, ⟨p, vs, rfl, upd_same, (rS_mono (Cov.of_same s2 fun a h _ => h) (Stb.of_same s2) b).2 vs d h1⟩, nw_on s2 h2⟩
  | w =>
    obtain ⟨Lr, h1, h2⟩ := r1
    exact ⟨Lr, ⟨p, vs, rfl, upd_same, (rS_mono (Cov.of_same s2 fun a h _ => h) (Stb.of_same s2) b).2 vs d h1⟩, nw_on s2 h2⟩
  | b => exact ⟨p, vs, rfl, upd_same, (rS_mono (Cov.of_same s2 fun a h _ => h) (Stb.of_same s2) b).2 vs d r1⟩
theorem RepL.len {m : Em} {t : Ty} {vs : List V} {d : List (den t)} (r : RepL K E L H H1 m t vs d) : vs.length = d.length := by
  cases m with
  | o => obtain ⟨f, Lr, h1, _⟩ := r; exact h1.length
  | l => obtain ⟨Lr, h1, _⟩ := r; exact h1.length
  | w => obtain ⟨Lr, h1, _⟩ := r; exact h1.length
  | b => exact F2.length r
def fSmall {α : Type} (d : List α) : Option (List α) := okIf (decide (d.length ≤ 1000)) d
/-- (a, b, ..) where any number may stand -/
theorem rp_vtup {m : Em} {t : Ty} {ta : TA} {F : Gam ts → Option (List (den t))} (h : RL K ms ts ta m t F) : RP K ms ts (tTup ta) m (.vtup t) (e1 fSmall F) := fun E L Γ σ H xt Q d o e q => by
  obtain ⟨d', e1, e2⟩ := bind_some e
  dsimp only [fSmall, okIf] at e2
  split at e2
  · rename_i hz
    cases e2
    refine h E L Γ σ H xt _ d o e1 fun vs H1 s1 r1 => ?_
    refine ⟨by rw [r1.len]; exact line_1000 (of_decide_eq_true hz), fun p hp => ?_⟩
    have s2 : Same H1 (upd H1 p (.tup vs)) := same_new hp
    refine q (.ref p) _ (s1.trans s2) ?_
    cases m with
    | o =>
      obtain ⟨f, Lr, h1, h2, h3, h4, h5⟩ := r1
      exact ⟨f, Lr, ⟨p, vs, rfl, upd_same, h1.imp fun v d g hg x => kid_mono ((rS_mono (Cov.of_same s2 fun a h _ => h) (Stb.of_same s2) t).1 v d) ((rO_mono (Cov.of_same s2 fun a h _ => h) (Stb.of_same s2) t).1 v d g fun a ha => same_at s2 (h3 a (hg a ha)).2) x⟩, h2, nw_on s2 h3, nw_on s2 h4, h5⟩
    | l =>
      obtain ⟨Lr, h1, h2⟩ := r1
      exact ⟨Lr, ⟨p, vs, rfl, upd_same, h1.imp (rS_mono (Cov.of_same s2 fun a h _ => h) (Stb.of_same s2) t).1⟩, nw_on s2 h2⟩
    | w =>
      obtain ⟨Lr, h1, h2⟩ := r1
      exact ⟨Lr, ⟨p, vs, rfl, upd_same, h1.imp (rS_mono (Cov.of_same s2 fun a h _ => h) (Stb.of_same s2) t).1⟩, nw_on s2 h2⟩
    | b => exact ⟨p, vs, rfl, upd_same, F2.imp (rS_mono (Cov.of_same s2 fun a h _ => h) (Stb.of_same s2) t).1 r1⟩
  · cases e2
/-- [a, b, ..] -/
theorem rp_list {t : Ty} {ta : TA} {F : Gam ts → Option (List (den t))} (h : RL K ms ts ta .o t F) : RP K ms ts (tLst ta) .o (.list t) (e1 fSmall F) := fun E L Γ σ H xt Q d o e q => by
  obtain ⟨d', e1, e2⟩ := bind_some e
  dsimp only [fSmall, okIf] at e2
  split at e2
  · rename_i hz
    cases e2
    refine h E L Γ σ H xt _ d o e1 fun vs H1 s1 r1 => ?_
    refine ⟨by rw [r1.len]; exact line_1000 (of_decide_eq_true hz), fun p hp => ?_⟩
    have s2 : Same H1 (upd H1 p (.lst vs)) := same_new hp
    refine q (.ref p) _ (s1.trans s2) ?_
    obtain ⟨f, Lr, h1, h2, h3, h4, h5⟩ := r1
    have pf : p ∉ f := fun z => by
      have := (h3 p z).2
      rw [hp] at this
      cases this
    have pl : ¬ Lr p := fun z => by
      have := (h4 p z).2
      rw [hp] at this
      cases this
    refine ⟨p :: f, Lr, ⟨p, vs, f, rfl, rfl, upd_same, h1.imp fun v d g hg x => kid_mono ((rS_mono (Cov.of_same s2 fun a h _ => h) (Stb.of_same s2) t).1 v d) ((rO_mono (Cov.of_same s2 fun a h _ => h) (Stb.of_same s2) t).1 v d g fun a ha => same_at s2 (h3 a (hg a ha)).2) x⟩,
      List.nodup_cons.mpr ⟨pf, h2⟩, fun a ha => ?_, nw_on s2 h4, fun a ha => ?_⟩
    · rcases List.mem_cons.mp ha with rfl | ha
      · exact ⟨s1.free hp, by rw [upd_same]; rfl⟩
      · exact nw_on s2 h3 a ha
    · rcases List.mem_cons.mp ha with rfl | ha
      · exact pl
      · exact h5 a ha
  · cases e2
/-- .. of what is shared: a list that is shared -/
theorem rp_listw {t : Ty} {ta : TA} {F : Gam ts → Option (List (den t))} (h : RL K ms ts ta .w t F) : RP K ms ts (tLst ta) .w (.list t) (e1 fSmall F) := fun E L Γ σ H xt Q d o e q => by
  obtain ⟨d', e1, e2⟩ := bind_some e
  dsimp only [fSmall, okIf] at e2
  split at e2
  · rename_i hz
    cases e2
    refine h E L Γ σ H xt _ d o e1 fun vs H1 s1 r1 => ?_
    refine ⟨by rw [r1.len]; exact line_1000 (of_decide_eq_true hz), fun p hp => ?_⟩
    have s2 : Same H1 (upd H1 p (.lst vs)) := same_new hp
    refine q (.ref p) _ (s1.trans s2) ?_
    obtain ⟨Lr, h1, h2⟩ := r1
    refine ⟨fun a => Lr a ∨ a = p, ⟨p, vs, rfl, .inl ⟨.inr (.inr (.inr rfl)), by rw [upd_same]; rfl⟩, h1.imp (rS_mono (Cov.of_same s2 fun a h _ => h.elim .inl fun z => z.elim (fun z => .inr (.inl z)) fun z => .inr (.inr (.inl z))) (Stb.of_same s2) t).1⟩, fun a ha => ?_⟩
    rcases ha with ha | rfl
    · exact nw_on s2 h2 a ha
    · exact ⟨s1.free hp, by rw [upd_same]; rfl⟩
  · cases e2
/-- {} -/
theorem rp_dnewK {k t : Ty} (hk : k.tk = false := by rfl) : RP K ms ts tDNewK .o (.dict k t) eNil := fun E L Γ σ H xt Q d o e q => by
  cases e
  refine fun p hp => q (.ref p) _ (same_new hp) ⟨[p], fun _ => False, ⟨p, [], rfl, rfl, .inl ⟨hk, [], upd_same, rfl⟩⟩, by simp, fun a ha => ?_, fun a h => h.elim, fun a _ h => h⟩
  have ha : a = p := by simpa using ha
  subst ha
  exact ⟨hp, by rw [upd_same]; rfl⟩
theorem rp_dnewT {k t : Ty} (hk : k.tk = true := by rfl) : RP K ms ts tDNewT .o (.dict k t) eNil := fun E L Γ σ H xt Q d o e q => by
  cases e
  refine fun p hp => q (.ref p) _ (same_new hp) ⟨[p], fun _ => False, ⟨p, [], rfl, rfl, .inr ⟨hk, [], upd_same, rfl⟩⟩, by simp, fun a ha => ?_, fun a h => h.elim, fun a _ h => h⟩
  have ha : a = p := by simpa using ha
  subst ha
  exact ⟨hp, by rw [upd_same]; rfl⟩

/-! ### items -/
theorem f2_atI {α : Type} {P : V → α → Prop} {vs : List V} {ds : List α} {i : Int} {d : α} (h : F2 P vs ds) (e : atI ds i = some d) : ∃ v, atI vs i = some v ∧ P v d := by
  unfold atI at e ⊢
  rw [h.length]
  obtain ⟨j, e1, e2⟩ := bind_some e
  obtain ⟨v, h1, h2⟩ := h.get e2
  exact ⟨v, by rw [e1]; exact h1, h2⟩
theorem v_ixL {t : Ty} : V2 K (rIxL K) .b (.list t) .int t atI := fun E L H v w a b c Q ra rb e q => by
  obtain ⟨p, vs, rfl, h1, h2⟩ := ra
  cases rb
  obtain ⟨x, h3, h4⟩ := f2_atI h2 e
  exact ⟨p, vs, b, x, rfl, rfl, h1.seq, h3, q x H (Same.refl H) h4⟩
theorem v_ixV {t : Ty} : V2 K (rIxT K) .b (.vtup t) .int t atI := fun E L H v w a b c Q ra rb e q => by
  obtain ⟨p, vs, rfl, h1, h2⟩ := ra
  cases rb
  obtain ⟨x, h3, h4⟩ := f2_atI h2 e
  exact ⟨p, vs, b, x, rfl, rfl, .of h1, h3, q x H (Same.refl H) h4⟩
def fIxS (x : Str) (i : Int) : Option Str := if lenOk x.length = true then (atI x.cps.toList i).map fun c => ⟨#[c]⟩ else none
theorem mem_atI {α : Type} {xs : List α} {i : Int} {x : α} (h : atI xs i = some x) : x ∈ xs := by
  obtain ⟨j, _, h2⟩ := bind_some (show (ixN xs.length i).bind (fun j => xs[j]?) = some x from h)
  exact List.mem_of_getElem? h2
theorem v_ixS {m : Em} : V2 K rIxS m .str .int .str fIxS := fun E L H v w a b c Q ra rb e q => by
  obtain ⟨rfl, hok⟩ := ra
  cases rb
  dsimp only [fIxS] at e
  split at e
  · rename_i hz
    obtain ⟨x, h1, h2⟩ := Option.map_eq_some_iff.mp e
    exact ⟨a, b, x, rfl, rfl, of_decide_eq_true hz, h1, q _ H (Same.refl H) (rep_atom rfl (by
      rw [← h2]
      refine ⟨rfl, ?_⟩
      have := mem_atI h1
      unfold PyData.strOk at hok ⊢
      rw [Array.all_eq_true'] at hok
      simpa using hok x (by simpa using this)))⟩
  · cases e
/-- the n-th item of a tuple whose items are of kinds of their own -/
inductive RIx : Ty → Ty → Type where
  | one {a : Ty} : RIx (.last a) a
  | z {a b : Ty} : RIx (.cons a b) a
  | s {a b t : Ty} : RIx b t → RIx (.cons a b) t
def RIx.ix : {b t : Ty} → RIx b t → Nat
  | _, _, .one => 0
  | _, _, .z => 0
  | _, _, .s r => r.ix + 1
def RIx.get : {b t : Ty} → RIx b t → den b → den t
  | _, _, .one, d => d
  | _, _, .z, d => d.1
  | _, _, .s r, d => r.get d.2
theorem row_get {R : Reg} : ∀ {b t : Ty} (r : RIx b t) {vs : List V} {d : den b}, (rS K H R b).2 vs d → ∃ v, vs[r.ix]? = some v ∧ (rS K H R t).1 v (r.get d)
  | _, _, .one, _, _, h => by
    obtain ⟨v, rfl, h⟩ := h
    exact ⟨v, rfl, h⟩
  | _, _, .z, _, _, h => by
    obtain ⟨v, r, rfl, h1, _⟩ := h
    exact ⟨v, rfl, h1⟩
  | _, _, .s r, _, _, h => by
    obtain ⟨v, vs, rfl, _, h2⟩ := h
    obtain ⟨x, e1, e2⟩ := row_get r h2
    exact ⟨x, by simpa [RIx.ix] using e1, e2⟩
def eProj {G : Type} {b t : Ty} (r : RIx b t) (F : G → Option (den b)) : G → Option (den t) := fun Γ => (F Γ).bind fun d => some (r.get d)
theorem rp_proj {b t : Ty} {m : Em} {ta : TE} {F : Gam ts → Option (den b)} (r : RIx b t) (n : Nat) {i : Int} (h : RP K ms ts ta m (.tup b) F) (hn : r.ix = n := by rfl) (hi : i = (n : Int) := by rfl) : RP K ms ts (tOp (rIxT K) ta (tC (.int i))) .b t (eProj r F) := fun E L Γ σ H xt Q d o e q => by
  obtain ⟨a, ea, e⟩ := bind_some e
  cases e
  subst hn
  subst hi
  refine h E L Γ σ H xt _ a o ea fun v H1 s1 r1 => ?_
  obtain ⟨p, vs, rfl, h1, h2⟩ := r1.b
  obtain ⟨x, h3, h4⟩ := row_get r h2
  exact ⟨p, vs, _, x, rfl, rfl, .of h1, atI_nat h3, q x H1 s1 h4⟩
/-- .. with the last place: -1 -/
theorem rp_projm {b t : Ty} {m : Em} {ta : TE} {F : Gam ts → Option (den b)} (r : RIx b t) (h : RP K ms ts ta m (.tup b) F) (hn : r.ix + 1 = rowLen b := by rfl) : RP K ms ts (tOp (rIxT K) ta (tUn (rU fun i => .int (-i)) (tC (.int 1)))) .b t (eProj r F) := fun E L Γ σ H xt Q d o e q => by
  obtain ⟨a, ea, e⟩ := bind_some e
  cases e
  refine h E L Γ σ H xt _ a o ea fun v H1 s1 r1 => ?_
  obtain ⟨p, vs, rfl, h1, h2⟩ := r1.b
  obtain ⟨x, h3, h4⟩ := row_get r h2
  refine ⟨1, rfl, p, vs, _, x, rfl, rfl, .of h1, ?_, q x H1 s1 h4⟩
  have hl := row_length b vs a h2
  show (ixN vs.length (-1)).bind _ = _
  have : ixN vs.length (-1) = some r.ix := by
    unfold ixN
    rw [if_neg (by decide), if_pos (by omega)]
    congr 1
    omega
  rw [this]
  exact h3

/-! ### slices -/
def RO (K : PySem.W.Frag) (ms : List Md) (ts : List Ty) (to : TO) (F : Gam ts → Option (Option Int)) : Prop :=
  ∀ (E : Ent) (L : Reg) (Γ : Gam ts) (σ : St) (H : Hp) (xt : List Addr) (Q : Option Int → Hp → Prop) (d : Option Int), Own K E L ms ts Γ σ H xt → F Γ = some d → (∀ H', Same H H' → Q d H') → to σ H Q
theorem ro_none : RO K ms ts tNoPart (eC none) := fun E L Γ σ H xt Q d o e q => by
  cases e
  exact q H (Same.refl H)
theorem ro_some {te : TE} {m : Em} {F : Gam ts → Option Int} (h : RP K ms ts te m .int F) : RO K ms ts (tPart te) (e1 (fun i => some (some i)) F) := fun E L Γ σ H xt Q d o e q => by
  obtain ⟨a, ea, e⟩ := bind_some e
  cases e
  exact h E L Γ σ H xt _ a o ea fun v H1 s1 r1 => ⟨a, r1.b, q H1 s1⟩
/-- a slice as a list -/
def cutD {α : Type} (xs : List α) (lo hi : Option Int) : List α := (xs.drop (HT.sIx xs.length 0 lo)).take (HT.sIx xs.length xs.length hi - HT.sIx xs.length 0 lo)
theorem f2_cut {α : Type} {P : V → α → Prop} {vs : List V} {ds : List α} {lo hi : Option Int} (h : F2 P vs ds) : F2 P (cutV vs lo hi) (cutD ds lo hi) := by
  unfold cutV cutD
  rw [h.length]
  exact (h.drop _).take _
abbrev fCutL {α : Type} (xs : List α) (lo hi : Option Int) : Option (List α) := some (cutD xs lo hi)
/-- xs[a:b], a new list; things without cells -/
theorem rp_sliceL {t : Ty} {m : Em} {te : TE} {tl th : TO} {F : Gam ts → Option (List (den t))} {Fl Fh : Gam ts → Option (Option Int)} (h : RP K ms ts te m (.list t) F) (hl : RO K ms ts tl Fl) (hh : RO K ms ts th Fh) (hf : t.frz = true := by rfl) :
    RP K ms ts (tSl (rSlL K) te tl th) .o (.list t) (e3 fCutL F Fl Fh) := fun E L Γ σ H xt Q d o e q => by
  obtain ⟨a, ea, e⟩ := bind_some e
  obtain ⟨lo, el, e⟩ := bind_some e
  obtain ⟨hi, eh, e⟩ := bind_some e
  cases e
  refine h E L Γ σ H xt _ a o ea fun v H1 s1 r1 => ?_
  refine hl E L Γ σ H1 xt _ lo (o.same s1) el fun H2 s2 => ?_
  refine hh E L Γ σ H2 xt _ hi ((o.same s1).same s2) eh fun H3 s3 => ?_
  have s13 := s2.trans s3
  obtain ⟨p, vs, rfl, h1, h2⟩ := (rS_mono (Cov.of_same s13 fun _ h _ => h) (Stb.of_same s13) (.list t)).1 v a r1.b
  refine ⟨p, vs, rfl, h1.seq, fun l hn => ?_⟩
  have s4 : Same H3 (upd H3 l (.lst (cutV vs lo hi))) := same_new hn
  refine q (.ref l) _ (s1.trans (s13.trans s4)) ⟨[l], fun _ => False, ⟨l, _, [], rfl, rfl, upd_same, F3.of2 (fun v d x => .inl ((rS_o t hf).1 v d x)) ((f2_cut h2).imp (rS_mono (Cov.of_same s4 fun _ h _ => h) (Stb.of_same s4) t).1)⟩, by simp, fun a ha => ?_, fun a h => h.elim, fun a _ h => h⟩
  have ha : a = l := by simpa using ha
  subst ha
  exact ⟨(s1.trans s13).free hn, by rw [upd_same]; rfl⟩
/-- len -/
def fLen {α : Type} (xs : List α) : Option Int := some xs.length
theorem rp_lenL {t : Ty} {m m' : Em} {te : TE} {F : Gam ts → Option (List (den t))} (h : RP K ms ts te m' (.list t) F) : RP K ms ts (tCB (fun xs H Q => ∃ x n, xs = [x] ∧ LenV K x H n ∧ Q (.int n) H) (tCons te tNil)) m .int (e1 fLen F) := fun E L Γ σ H xt Q d o e q => by
  obtain ⟨a, ea, e⟩ := bind_some e
  cases e
  refine h E L Γ σ H xt _ a o ea fun v H1 s1 r1 => ?_
  obtain ⟨p, vs, rfl, h1, h2⟩ := r1.b
  exact ⟨_, _, rfl, .inl ⟨vs, h1.seq, rfl⟩, q _ H1 s1 (rep_atom rfl (by rw [h2.length]; rfl))⟩
theorem rp_lenV {t : Ty} {m m' : Em} {te : TE} {F : Gam ts → Option (List (den t))} (h : RP K ms ts te m' (.vtup t) F) : RP K ms ts (tCB (fun xs H Q => ∃ x n, xs = [x] ∧ LenV K x H n ∧ Q (.int n) H) (tCons te tNil)) m .int (e1 fLen F) := fun E L Γ σ H xt Q d o e q => by
  obtain ⟨a, ea, e⟩ := bind_some e
  cases e
  refine h E L Γ σ H xt _ a o ea fun v H1 s1 r1 => ?_
  obtain ⟨p, vs, rfl, h1, h2⟩ := r1.b
  exact ⟨_, _, rfl, .inr ⟨vs, .of h1, rfl⟩, q _ H1 s1 (rep_atom rfl (by rw [h2.length]; rfl))⟩
theorem rp_lenT {b : Ty} {m m' : Em} {te : TE} {F : Gam ts → Option (den b)} (h : RP K ms ts te m' (.tup b) F) : RP K ms ts (tCB (fun xs H Q => ∃ x n, xs = [x] ∧ LenV K x H n ∧ Q (.int n) H) (tCons te tNil)) m .int (e1 (fun _ => some (rowLen b : Int)) F) := fun E L Γ σ H xt Q d o e q => by
  obtain ⟨a, ea, e⟩ := bind_some e
  cases e
  refine h E L Γ σ H xt _ a o ea fun v H1 s1 r1 => ?_
  obtain ⟨p, vs, rfl, h1, h2⟩ := r1.b
  exact ⟨_, _, rfl, .inr ⟨vs, .of h1, rfl⟩, q _ H1 s1 (rep_atom rfl (by rw [row_length b vs a h2]; rfl))⟩
def fLenS (x : Str) : Option Int := okIf (lenOk x.length) (x.length : Int)
theorem rp_lenS {m m' : Em} {te : TE} {F : Gam ts → Option Str} (h : RP K ms ts te m' .str F) : RP K ms ts (tCB (fun xs H Q => ∃ x n, xs = [x] ∧ LenV K x H n ∧ Q (.int n) H) (tCons te tNil)) m .int (e1 fLenS F) := fun E L Γ σ H xt Q d o e q => by
  obtain ⟨a, ea, e⟩ := bind_some e
  dsimp only [fLenS, okIf] at e
  split at e
  · rename_i hz
    cases e
    refine h E L Γ σ H xt _ a o ea fun v H1 s1 r1 => ?_
    cases (show v = .str a from r1.b.1)
    exact ⟨_, _, rfl, ⟨of_decide_eq_true hz, rfl⟩, q _ H1 s1 (rep_atom rfl rfl)⟩
  · cases e

/-! ### append -/
def sApp {ρ : Type} {ts : List Ty} {t : Ty} (i : Mem ts (.list t)) (F : Gam ts → Option (den t)) : Gam ts → Option (Fl (Gam ts) ρ) := fun Γ => (i.get Γ).bind fun xs => (F Γ).bind fun d => if xs.length < sizeLine then some (.nx (i.set (some (xs ++ [d])) Γ)) else none
theorem rs_app {t : Ty} (i : Mem ts (.list t)) {n : Nat} {te : TE} {F : Gam ts → Option (den t)} (h : RP K ms ts te .o t F) (hm : ms[i.ix]? = some .o := by rfl) (hn : i.ix = n := by rfl) : RS K ms ts (tDrop (tBM K "list" rAppend (tVar n) (tCons te tNil))) rm ρ (sApp i F) := fun E L Γ σ H D f o e p => by
  subst hn
  obtain ⟨xs, e1, e⟩ := bind_some e
  obtain ⟨d, e2, e⟩ := bind_some e
  split at e
  · rename_i hz
    cases e
    obtain ⟨s0, f0, q1, q2, q3, q4, q5⟩ := o.focus i hm
    rw [e1] at q2
    obtain ⟨v, rfl, a, vs, g, rfl, rfl, hl, hk⟩ := q2
    refine ⟨_, q1, .inl ⟨rfl, vs, .of hl⟩, h E L Γ σ H [] _ d o e2 fun w H1 s1 r1 => ?_⟩
    obtain ⟨fd, Lr, h1, h2, h3, h4, h5⟩ := r1
    have hl1 := s1 _ _ hl
    refine ⟨a, vs, w, rfl, rfl, hl1, by rw [hk.length]; exact hz, ?_⟩
    have hnd := List.nodup_cons.mp q3
    have ga := (q4 a List.mem_cons_self).1
    have gg : ∀ b ∈ g, Good E L H b := fun b hb => (q4 b (List.mem_cons_of_mem _ hb)).1
    have na : ∀ b ∈ fd, b ≠ a := fun b hb z => by
      subst z
      have := (h3 b hb).1
      rw [hl] at this
      cases this
    have st : Stb H (upd H1 a (.lst (vs ++ [w]))) := (Stb.of_same s1).trans (Stb.upd hl1 rfl)
    have oth : ∀ b, (H b).isSome = true → b ≠ a → upd H1 a (.lst (vs ++ [w])) b = H b := fun b hb hne => by rw [upd_ne hne]; exact same_at s1 hb
    have covL : Cov H (upd H1 a (.lst (vs ++ [w]))) L (fun b => L b ∨ Lr b) := fun b q hb x => by
      refine ⟨.inl hb, ?_⟩
      rw [oth b (o.lr b hb).2 fun z => ga.nl (z ▸ hb)]
      exact x
    have cov1 : Cov H1 (upd H1 a (.lst (vs ++ [w]))) (fun b => L b ∨ Lr b) (fun b => L b ∨ Lr b) := fun b q hb x => by
      refine ⟨hb, ?_⟩
      have hne : b ≠ a := fun z => by
        subst z
        rcases hb with hb | hb
        · exact ga.nl hb
        · have := (h4 b hb).1
          rw [hl] at this
          cases this
      rw [upd_ne hne]
      exact x
    have k1 : F3 (kid t.isOwn (rS K (upd H1 a (.lst (vs ++ [w]))) (fun b => L b ∨ Lr b) t).1 (rO K (upd H1 a (.lst (vs ++ [w]))) (fun b => L b ∨ Lr b) t).1) vs xs g :=
      hk.imp fun v d g' hg x => kid_mono ((rS_mono covL st t).1 v d) ((rO_mono covL st t).1 v d g' fun b hb => oth b (gg b (hg b hb)).at_ fun z => hnd.1 (z ▸ hg b hb)) x
    have k2 : (rO K (upd H1 a (.lst (vs ++ [w]))) (fun b => L b ∨ Lr b) t).1 w d fd := (rO_mono cov1 (Stb.upd hl1 rfl) t).1 w d fd (fun b hb => upd_ne (na b hb)) h1
    have k3 := F3.append k1 (show F3 _ [w] [d] fd from ⟨fd, [], by simp, .inl k2, rfl⟩)
    have up : ∀ b, (H1 b).isSome = true → (upd H1 a (.lst (vs ++ [w])) b).isSome = true := fun b hb => by
      by_cases z : b = a
      · rw [z, upd_same]; rfl
      · rw [upd_ne z]; exact hb
    have upH : ∀ b, (H b).isSome = true → (upd H1 a (.lst (vs ++ [w])) b).isSome = true := fun b hb => up b (by rw [same_at s1 hb]; exact hb)
    have gfd : ∀ b ∈ g, b ∉ fd := fun b hb z => by
      have := (gg b hb).at_
      rw [(h3 b z).1] at this
      cases this
    have o' := q5 (upd H1 a (.lst (vs ++ [w]))) (fun b => L b ∨ Lr b) (some (xs ++ [d])) (some (.ref a)) (a :: (g ++ fd)) [] (fun b hb hnf _ => oth b hb fun z => hnf (z ▸ List.mem_cons_self)) st (fun _ h => .inl h)
      (fun b hb => hb.elim .inl fun z => .inr (.inr (.inr (h4 b z).1))) upH
      (fun b hb => hb.elim (fun z => ⟨(o.lr b z).1, upH b (o.lr b z).2⟩) fun z => ⟨.inl (o.fresh (h4 b z).1).1, up b (h4 b z).2⟩)
      ⟨.ref a, rfl, a, vs ++ [w], g ++ fd, rfl, rfl, upd_same, k3⟩
      (by
        rw [List.append_nil]
        refine List.nodup_cons.mpr ⟨fun z => ?_, List.nodup_append.mpr ⟨hnd.2, h2, fun b hb c hc z => gfd b hb (z ▸ hc)⟩⟩
        rcases List.mem_append.mp z with z | z
        · exact hnd.1 z
        · exact na a z rfl)
      (fun b hb => by
        have hb : b ∈ a :: (g ++ fd) := by simpa using hb
        rcases List.mem_cons.mp hb with rfl | hb
        · refine ⟨.inl List.mem_cons_self, fun z => z.elim ga.nl fun z => ?_, by rw [upd_same]; rfl⟩
          have := (h4 b z).1
          rw [hl] at this
          cases this
        · rcases List.mem_append.mp hb with hb | hb
          · refine ⟨.inl (List.mem_cons_of_mem _ hb), fun z => z.elim (gg b hb).nl fun z => ?_, upH b (gg b hb).at_⟩
            have := (gg b hb).at_
            rw [(h4 b z).1] at this
            cases this
          · exact ⟨.inr (.inr (h3 b hb).1), fun z => z.elim (o.fresh (h3 b hb).1).2.1 (h5 b hb), up b (h3 b hb).2⟩)
    have es : σ.set i.ix (some (V.ref a)) = σ := by
      refine List.ext_getElem? fun n => ?_
      by_cases hn : n = i.ix
      · subst hn
        rw [List.getElem?_set_self (List.getElem?_eq_some_iff.mp q1).1]
        exact q1.symm
      · rw [List.getElem?_set_ne (Ne.symm hn)]
    rw [es] at o'
    refine p _ σ _ o' ⟨fun _ h => .inl h, fun b q hb x => ?_, st, keepF_set0 i hm rfl _⟩
    rw [oth b (o.lr b hb).2 fun z => ga.nl (z ▸ hb)]
    exact x
  · cases e
end
end VV

/-! VMore2: kinds, texts, lists put together, unpacking, == of any data, comprehensions. -/
namespace L2
open PySem PySem.Spec PyProof.Rows
section
variable {X : Cx}
/-- list + list, of lists that are read -/
def rCatR (K : PySem.W.Frag) : R2 := fun x y H Q => ∃ l b xs zs, x = .ref l ∧ y = .ref b ∧ SqL K H l xs ∧ SqL K H b zs ∧ xs.length + zs.length ≤ sizeLine ∧ ∀ p, H p = none → Q (.ref p) (upd H p (.lst (xs ++ zs)))
theorem op_catR : OpR X (binaryOp .Add) (rCatR X.K) := by
  intro pins s σ H x y v u Q I rx ry h
  obtain ⟨l, b, xs, zs, rfl, rfl, hH, hB, hz, q⟩ := h
  cases rx
  cases ry
  obtain ⟨its, r, pl, _⟩ := I.list hH
  obtain ⟨its2, r2, pl2, _⟩ := I.list hB
  have hl := r.length
  have hl2 := r2.length
  obtain ⟨⟨cls, dd, data, sl⟩, ho, hc, n, hd⟩ := id pl.isList
  obtain ⟨⟨cls2, dd2, data2, sl2⟩, ho2, hc2, n2, hd2⟩ := id pl2.isList
  simp only at hc hd hc2 hd2
  subst hc hd hc2 hd2
  have ea : its.toArray ++ its2.toArray = (its ++ its2).toArray := by simp
  refine concat_meets ⟨_, ho, rfl⟩ ⟨_, ho2, rfl⟩ noFill_list_add seq_list_add PySem.F.slot_list_add PySem.F.entry_list_add (PySem.F.args_list_add_2 _ _) (PyProof.Rows.list_addW l b its.toArray its2.toArray n n2 dd dd2 sl sl2 (by rw [List.size_toArray, List.size_toArray]; omega)) ⟨ho, ho2, ?_⟩
  rw [ea]
  exact ⟨.ref _, _, I.lnew (t' := s.toks) (r.append r2) (by rw [List.length_append]; omega), rfl, q _ I.fresh⟩
theorem foldRep_size {α : Type} (a : Array α) : ∀ (k : Nat) (acc : Array α), (List.foldl (fun x1 x2 => x1 ++ x2) acc (List.replicate k a)).size = acc.size + k * a.size
  | 0, acc => by simp
  | k + 1, acc => by
    rw [List.replicate_succ, List.foldl_cons, foldRep_size a k, Array.size_append, Nat.succ_mul]
    omega
/-- text * int -/
def repS (x : Str) (n : Int) : Str := if n < 1 then Str.empty else if (n == 1 || x.length == 0) = true then x else ⟨(List.replicate n.toNat x.cps).foldl (· ++ ·) #[]⟩
def rRepS : R2 := fun x y H Q => ∃ z n, x = .str z ∧ y = .int n ∧ -(2 ^ 31) < n ∧ n < 2 ^ 31 ∧ z.length * n.toNat ≤ sizeLine ∧ Q (.str (repS z n)) H
theorem op_repS : OpR X (binaryOp .Mult) rRepS := by
  intro pins s σ H x y v u Q I rx ry h
  obtain ⟨z, n, rfl, rfl, h1, h2, h3, q⟩ := h
  obtain ⟨t, rfl⟩ := rx
  obtain ⟨t', rfl⟩ := ry
  have hz : sizeLine = 16777216 := sizeLine_eq
  refine PySem.P.mul_str ?_ (fun h4 _ => ?_) (fun h4 _ => ?_) ?_
  · rw [decide_eq_false (by omega), decide_eq_false (by omega)]; rfl
  · have hn : (0 : Int) < n := by omega
    intro hc
    have h5 : (z.length : Int) * n ≤ 16777216 := by
      have : ((z.length * n.toNat : Nat) : Int) ≤ 16777216 := by omega
      rwa [Int.natCast_mul, Int.toNat_of_nonneg (by omega)] at this
    have h6 : (z.length : Int) ≤ (2 ^ 63 - 1) / n := by
      refine (Int.le_ediv_iff_mul_le hn).mpr ?_
      omega
    omega
  · unfold Builtin.Str.tooLong
    simp only [decide_eq_false_iff_not]
    omega
  · unfold repS at q
    by_cases hn : n < 1
    · rw [if_pos hn] at q ⊢
      exact ⟨by decide, ⟨.str _, H, I.tok _, ⟨_, rfl⟩, q⟩⟩
    · rw [if_neg hn] at q ⊢
      split at q
      · rename_i h4
        rw [if_pos h4]
        exact ⟨.str z, H, I, ⟨_, rfl⟩, q⟩
      · rename_i h4
        rw [if_neg h4]
        refine ⟨?_, ⟨.str _, H, I.tok _, ⟨_, rfl⟩, q⟩⟩
        show (List.foldl (fun x1 x2 => x1 ++ x2) #[] (List.replicate n.toNat z.cps)).size ≤ sizeLine
        rw [foldRep_size]
        have : z.length = z.cps.size := rfl
        rw [Nat.mul_comm, ← this]
        simpa using h3
end
end L2
namespace VV
open PySem L2
open PyProof.Rows hiding St

section
variable {K : PySem.W.Frag} {E : Ent} {ms : List Md} {ts : List Ty} {L L1 : Reg} {Γ Γ1 : Gam ts} {σ σ1 : St} {H H' H1 H2 : Hp} {xt : List Addr} {rm : Rm} {ρ : Ty}
/-! ### kinds -/
def kindOf : (t : Ty) → den t → String
  | .non, _ => "NoneType"
  | .bool, _ => "bool"
  | .int, _ => "int"
  | .str, _ => "str"
  | .any, d => match d with
    | .none => "NoneType"
    | .bool _ => "bool"
    | .int _ => "int"
    | .str _ => "str"
    | .list _ => "list"
    | .tuple _ => "tuple"
    | .dict _ => "dict"
  | .opt t, d => match d with
    | none => "NoneType"
    | some x => kindOf t x
  | .vtup _, _ => "tuple"
  | .list _, _ => "list"
  | .dict _ _, _ => "dict"
  | .own t, d => kindOf t d
  | .tup _, _ => "tuple"
  | .last _, _ => ""
  | .cons _ _, _ => ""
def Ty.nodict : Ty → Bool
  | .dict _ _ => false
  | .own t => t.nodict
  | .opt t => t.nodict
  | _ => true
theorem kind_ok {R : Reg} : ∀ (t : Ty) (v : V) (d : den t), t.nodict = true → (rS K H R t).1 v d → TyX K H v (.type (kindOf t d))
  | .non, _, _, _, h => by cases h; exact .base .non
  | .bool, _, _, _, h => by cases h; exact .base (.bl _)
  | .int, _, _, _, h => by cases h; exact .base (.int _)
  | .str, _, _, _, h => by cases h.1; exact .base (.str _)
  | .any, v, d, _, h => by
    cases d with
    | none => cases (show v = .non from h); exact .base .non
    | bool b => cases (show v = .bl b from h); exact .base (.bl _)
    | int i => cases (show v = .int i from h); exact .base (.int _)
    | str x => cases (show v = .str x ∧ _ from h).1; exact .base (.str _)
    | list _ => exact (show False from h).elim
    | tuple ds =>
      obtain ⟨a, vs, rfl, h1, _⟩ := (show ∃ a vs, v = .ref a ∧ H a = some (.tup vs) ∧ dvs H ds vs from h)
      exact .base (.tup h1)
    | dict _ => exact (show False from h).elim
  | .opt t, v, d, hn, h => by
    cases d with
    | none => cases (show v = .non from h); exact .base .non
    | some x => exact kind_ok t v x hn h.2
  | .vtup _, _, _, _, h => by
    obtain ⟨a, vs, rfl, h1, _⟩ := h
    exact .base (.tup h1)
  | .list _, _, _, _, h => by
    obtain ⟨a, vs, rfl, h1, _⟩ := h
    rcases h1.seq with (h1 | ⟨o, h1⟩) | ⟨o, its, n, h1, h2, _⟩
    · exact .base (.lst h1)
    · exact .base (.frz h1)
    · exact .kList h1 h2
  | .dict _ _, _, _, hn, _ => by cases hn
  | .own t, v, d, hn, h => kind_ok t v d hn h
  | .tup _, _, _, _, h => by
    obtain ⟨a, vs, rfl, h1, _⟩ := h
    exact .base (.tup h1)
  | .last _, _, _, _, h => h.elim
  | .cons _ _, _, _, _, h => h.elim
/-- isinstance(x, T), T a built-in class -/
theorem rp_isi {t : Ty} {m m' : Em} {te : TE} {F : Gam ts → Option (den t)} (c : String) (g : den t → Bool) (h : RP K ms ts te m' t F) (hg : ∀ d, kitB (kindOf t d) c = some (g d)) (hn : t.nodict = true := by rfl) :
    RP K ms ts (tCB (rIsi K) (tCons te (tCons (tC (.ty c)) tNil))) m .bool (e1 (fun d => some (g d)) F) := fun E L Γ σ H xt Q d o e q => by
  obtain ⟨a, ea, e⟩ := bind_some e
  cases e
  refine h E L Γ σ H xt _ a o ea fun v H1 s1 r1 => ?_
  exact ⟨v, .ty c, .type (kindOf t a), .type c, g a, rfl, .ty c, kind_ok t v a hn r1.b, kit_ty (hg a), q _ H1 s1 (rep_atom rfl rfl)⟩

/-! ### texts -/
theorem strOk_ofString (s : String) : PyData.strOk (Str.ofString s) = true := by
  unfold PyData.strOk
  rw [Str.ofString_eq_toList]
  simp only [List.all_toArray, List.all_map, List.all_eq_true, Function.comp, decide_eq_true_eq]
  intro c _
  have := c.valid
  show c.val.toNat < 1114112
  rcases this with h | ⟨_, h⟩
  · exact Nat.lt_trans h (by decide)
  · exact h
def fStrI (i : Int) : Option Str := okIf (decide (i.natAbs.log2 < 1920)) (Str.ofString (toString i))
theorem rp_strI {m m' : Em} {te : TE} {F : Gam ts → Option Int} (h : RP K ms ts te m' .int F) : RP K ms ts (tCB (fun xs H Q => ∃ i, xs = [.int i] ∧ i.natAbs.log2 < 1920 ∧ Q (.str (toString i)) H) (tCons te tNil)) m .str (e1 fStrI F) := fun E L Γ σ H xt Q d o e q => by
  obtain ⟨a, ea, e⟩ := bind_some e
  dsimp only [fStrI, okIf] at e
  split at e
  · rename_i hz
    cases e
    refine h E L Γ σ H xt _ a o ea fun v H1 s1 r1 => ?_
    cases (show v = .int a from r1.b)
    exact ⟨a, rfl, of_decide_eq_true hz, q _ H1 s1 (rep_atom rfl ⟨rfl, strOk_ofString _⟩)⟩
  · cases e
def fUpper (a : Str) : Option Str := okIf (decide (a.length ≤ 5592405) && PyData.strOk (Txt.upper a)) (Txt.upper a)
theorem rp_upper {m m' : Em} {te : TE} {F : Gam ts → Option Str} (h : RP K ms ts te m' .str F) : RP K ms ts (tM0 (fun x xs H Q => ∃ a, x = .str a ∧ xs = [] ∧ a.length ≤ 5592405 ∧ Q (.str (Txt.upper a)) H) te) m .str (e1 fUpper F) := fun E L Γ σ H xt Q d o e q => by
  obtain ⟨a, ea, e⟩ := bind_some e
  dsimp only [fUpper, okIf] at e
  split at e
  · rename_i hz
    cases e
    rw [Bool.and_eq_true] at hz
    refine h E L Γ σ H xt _ a o ea fun v H1 s1 r1 => ?_
    cases (show v = .str a from r1.b.1)
    exact ⟨⟨a, rfl⟩, a, rfl, rfl, of_decide_eq_true hz.1, q _ H1 s1 (rep_atom rfl ⟨rfl, hz.2⟩)⟩
  · cases e
def fRepS (x : Str) (n : Int) : Option Str := okIf (decide (-(2 ^ 31) < n ∧ n < 2 ^ 31 ∧ x.length * n.toNat ≤ sizeLine) && PyData.strOk (repS x n)) (repS x n)
theorem v_repS {m : Em} : V2 K rRepS m .str .int .str fRepS := fun E L H v w a b c Q ra rb e q => by
  dsimp only [fRepS, okIf] at e
  split at e
  · rename_i hz
    cases e
    rw [Bool.and_eq_true] at hz
    have h1 := of_decide_eq_true hz.1
    exact ⟨a, b, ra.1, rb, h1.1, h1.2.1, h1.2.2, q _ H (Same.refl H) (rep_atom rfl ⟨rfl, hz.2⟩)⟩
  · cases e

/-! ### lists put together: things without cells -/
def fCatL {α : Type} (a b : List α) : Option (List α) := okIf (lenOk (a.length + b.length)) (a ++ b)
theorem rp_cat {t : Ty} {m1 m2 : Em} {ta tb : TE} {Fa Fb : Gam ts → Option (List (den t))} (ha : RP K ms ts ta m1 (.list t) Fa) (hb : RP K ms ts tb m2 (.list t) Fb) (hf : t.frz = true := by rfl) : RP K ms ts (tOp (rCatR K) ta tb) .o (.list t) (e2 fCatL Fa Fb) := fun E L Γ σ H xt Q d o e q => by
  obtain ⟨a, ea, e⟩ := bind_some e
  obtain ⟨b, eb, e⟩ := bind_some e
  dsimp only [fCatL, okIf] at e
  split at e
  · rename_i hz
    cases e
    refine ha E L Γ σ H xt _ a o ea fun v H1 s1 r1 => ?_
    refine hb E L Γ σ H1 xt _ b (o.same s1) eb fun w H2 s2 r2 => ?_
    obtain ⟨p, vs, rfl, h1, h2⟩ := (rS_mono (Cov.of_same s2 fun _ h _ => h) (Stb.of_same s2) (.list t)).1 v a r1.b
    obtain ⟨p', ws, rfl, h3, h4⟩ := r2.b
    refine ⟨p, p', vs, ws, rfl, rfl, h1.seq, h3.seq, by rw [h2.length, h4.length]; exact of_decide_eq_true hz, fun l hn => ?_⟩
    have s4 : Same H2 (upd H2 l (.lst (vs ++ ws))) := same_new hn
    refine q (.ref l) _ ((s1.trans s2).trans s4) ⟨[l], fun _ => False, ⟨l, _, [], rfl, rfl, upd_same, F3.of2 (fun v d x => .inl ((rS_o t hf).1 v d x)) ((F2.append h2 h4).imp (rS_mono (Cov.of_same s4 fun _ h _ => h) (Stb.of_same s4) t).1)⟩, by simp, fun a ha => ?_, fun a h => h.elim, fun a _ h => h⟩
    have ha : a = l := by simpa using ha
    subst ha
    exact ⟨(s1.trans s2).free hn, by rw [upd_same]; rfl⟩
  · cases e

/-! ### a, b, .. = e -/
def sAsg {G ρ α : Type} (F : G → Option α) (B : α → G → G) : G → Option (Fl G ρ) := fun Γ => (F Γ).bind fun d => some (.nx (B d Γ))
theorem rs_asg {w : Bool} {t : Ty} {te : TE} {g : TG} {F : Gam ts → Option (den t)} {B : den t → Gam ts → Gam ts} (h : RP K ms ts te (if w then .w else .l) t F) (hg : RG K ms ts g w t B) : RS K ms ts (tAsg te g) rm ρ (sAsg F B) := fun E L Γ σ H D f o e p => by
  obtain ⟨d, e1, e2⟩ := bind_some e
  cases e2
  refine h E L Γ σ H [] _ d o e1 fun v H1 s1 r1 => ?_
  obtain ⟨Lr, h1, h2⟩ := reg_rep r1
  have o1 : Own K E (fun a => L a ∨ Lr a) ms ts Γ σ H1 [] := o.temp s1 List.nodup_nil (fun a ha => by simp at ha) h2 fun a ha => by simp at ha
  have ev1 : Ev ms ts L Γ σ H (fun a => L a ∨ Lr a) Γ σ H1 := ⟨fun a h => .inl h, fun a q _ h => s1 _ _ h, Stb.of_same s1, fun _ _ _ _ _ => ⟨rfl, rfl⟩⟩
  exact hg E _ Γ σ H1 _ v d o1 h1 fun σ' o' e' => p _ σ' H1 o' (ev1.trans e')
/-- names for the items of a list -/
def bindAll {G α : Type} : List (α → G → G) → List α → G → G
  | B :: Bs, d :: ds, Γ => bindAll Bs ds (B d Γ)
  | _, _, Γ => Γ
def RGl (K : PySem.W.Frag) (ms : List Md) (ts : List Ty) (g : TGs) (w : Bool) (t : Ty) (Bs : List (den t → Gam ts → Gam ts)) : Prop :=
  ∀ (E : Ent) (L : Reg) (Γ : Gam ts) (σ : St) (H : Hp) (Q : St → Hp → Prop) (xs : List V) (d : List (den t)), Own K E L ms ts Γ σ H [] → F2 (rS K H (reg w E L) t).1 xs d → d.length = Bs.length →
    (∀ σ', Own K E L ms ts (bindAll Bs d Γ) σ' H [] → Ev ms ts L Γ σ H L (bindAll Bs d Γ) σ' H → Q σ' H) → g xs σ H Q
theorem rgl_nil {w : Bool} {t : Ty} : RGl K ms ts gNil w t [] := fun E L Γ σ H Q xs d o r hl q => by
  cases d with
  | cons _ _ => simp at hl
  | nil =>
    cases xs with
    | cons _ _ => exact r.elim
    | nil => exact ⟨rfl, q σ o (Ev.same (Same.refl H))⟩
theorem rgl_cons {w : Bool} {t : Ty} {g : TG} {gs : TGs} {B : den t → Gam ts → Gam ts} {Bs : List (den t → Gam ts → Gam ts)} (h : RG K ms ts g w t B) (h' : RGl K ms ts gs w t Bs) : RGl K ms ts (gCons g gs) w t (B :: Bs) := fun E L Γ σ H Q xs d o r hl q => by
  cases d with
  | nil => simp at hl
  | cons d ds =>
    cases xs with
    | nil => exact r.elim
    | cons v vs =>
      refine ⟨v, vs, rfl, h E L Γ σ H _ v d o r.1 fun σ' o' e' => ?_⟩
      exact h' E L (B d Γ) σ' H Q vs ds o' r.2 (by simpa using hl) fun σ2 o2 e2 => q σ2 o2 (e'.trans e2)
def sUnl {G ρ α : Type} (F : G → Option (List α)) (Bs : List (α → G → G)) : G → Option (Fl G ρ) := fun Γ => (F Γ).bind fun d => if d.length = Bs.length then some (.nx (bindAll Bs d Γ)) else none
theorem rs_unl {w : Bool} {t : Ty} {te : TE} {gs : TGs} {n : Nat} {F : Gam ts → Option (List (den t))} {Bs : List (den t → Gam ts → Gam ts)} (h : RP K ms ts te (if w then .w else .l) (.list t) F) (hg : RGl K ms ts gs w t Bs) (hn : Bs.length = n := by rfl) :
    RS K ms ts (tAsg te (gUnl K n gs)) rm ρ (sUnl F Bs) := fun E L Γ σ H D f o e p => by
  obtain ⟨d, e1, e2⟩ := bind_some e
  split at e2
  · rename_i hl
    cases e2
    refine h E L Γ σ H [] _ d o e1 fun v H1 s1 r1 => ?_
    obtain ⟨Lr, h1, h2⟩ := reg_rep r1
    obtain ⟨a, vs, rfl, h3, h4⟩ := h1
    have o1 : Own K E (fun a => L a ∨ Lr a) ms ts Γ σ H1 [] := o.temp s1 List.nodup_nil (fun a ha => by simp at ha) h2 fun a ha => by simp at ha
    have ev1 : Ev ms ts L Γ σ H (fun a => L a ∨ Lr a) Γ σ H1 := ⟨fun a h => .inl h, fun a q _ h => s1 _ _ h, Stb.of_same s1, fun _ _ _ _ _ => ⟨rfl, rfl⟩⟩
    exact ⟨a, vs, rfl, h3.seq, by rw [h4.length, hl, hn], hg E _ Γ σ H1 _ vs d o1 h4 hl fun σ' o' e' => p _ σ' H1 o' (ev1.trans e')⟩
  · cases e2

/-! ### == of any data -/
/-- data as PyData; a row of them -/
def emb : (t : Ty) → (den t → PyData) × (den t → List PyData)
  | .non => (fun _ => .none, fun _ => [])
  | .bool => (fun b => .bool b, fun _ => [])
  | .int => (fun i => .int i, fun _ => [])
  | .str => (fun x => .str x, fun _ => [])
  | .any => (fun d => d, fun _ => [])
  | .opt t => (fun d => match d with
      | none => .none
      | some x => (emb t).1 x, fun _ => [])
  | .vtup t => (fun d => .tuple (d.map (emb t).1), fun _ => [])
  | .list t => (fun d => .list (d.map (emb t).1), fun _ => [])
  | .dict _ _ => (fun _ => .dict [], fun _ => [])
  | .own t => emb t
  | .tup b => (fun d => .tuple ((emb b).2 d), fun _ => [])
  | .last a => (fun _ => .none, fun d => [(emb a).1 d])
  | .cons a b => (fun _ => .none, fun d => (emb a).1 d.1 :: (emb b).2 d.2)
/-- such data can be compared: no dicts, no open depth -/
def Ty.cmp : Ty → Bool
  | .any => false
  | .dict _ _ => false
  | .opt t => t.cmp
  | .vtup t => t.cmp
  | .list t => t.cmp
  | .own t => t.cmp
  | .tup b => b.cmp
  | .last a => a.cmp
  | .cons a b => a.cmp && b.cmp
  | _ => true
def Ty.dep : Ty → Nat
  | .opt t => t.dep
  | .vtup t => t.dep + 1
  | .list t => t.dep + 1
  | .own t => t.dep
  | .tup b => b.dep + 1
  | .last a => a.dep
  | .cons a b => max a.dep b.dep
  | _ => 0
theorem f2_dp {t : Ty} {P : V → den t → Prop} (h : ∀ v d, P v d → Dp K H v ((emb t).1 d)) : ∀ {vs : List V} {ds : List (den t)}, F2 P vs ds → DpAll K H vs (ds.map (emb t).1)
  | [], [], _ => .nil
  | v :: vs, d :: ds, q => .cons (h v d q.1) (f2_dp h q.2)
  | [], _ :: _, q => q.elim
  | _ :: _, [], q => q.elim
theorem rS_dp {R : Reg} : ∀ t : Ty, t.cmp = true → (∀ v d, (rS K H R t).1 v d → Dp K H v ((emb t).1 d)) ∧ (∀ vs d, (rS K H R t).2 vs d → DpAll K H vs ((emb t).2 d)) := by
  intro t
  induction t with
  | non => exact fun _ => ⟨fun v d h => by cases h; exact .non, fun _ _ h => h.elim⟩
  | bool => exact fun _ => ⟨fun v d h => by cases h; exact .bl _, fun _ _ h => h.elim⟩
  | int => exact fun _ => ⟨fun v d h => by cases h; exact .int _, fun _ _ h => h.elim⟩
  | str => exact fun _ => ⟨fun v d h => by cases h.1; exact .str _, fun _ _ h => h.elim⟩
  | any => exact fun q => by cases q
  | opt t ih =>
    intro q
    refine ⟨fun v d h => ?_, fun _ _ h => h.elim⟩
    cases d with
    | none => cases (show v = .non from h); exact .non
    | some x => exact (ih q).1 v x h.2
  | vtup t ih =>
    intro q
    refine ⟨fun v d h => ?_, fun _ _ h => h.elim⟩
    obtain ⟨a, vs, rfl, h1, h2⟩ := h
    exact .tup (.of h1) (f2_dp (ih q).1 h2)
  | list t ih =>
    intro q
    refine ⟨fun v d h => ?_, fun _ _ h => h.elim⟩
    obtain ⟨a, vs, rfl, h1, h2⟩ := h
    exact .lst h1.seq (f2_dp (ih q).1 h2)
  | dict k t _ ih => exact fun q => by cases q
  | own t ih => exact ih
  | tup b ih =>
    intro q
    refine ⟨fun v d h => ?_, fun _ _ h => h.elim⟩
    obtain ⟨a, vs, rfl, h1, h2⟩ := h
    exact .tup (.of h1) ((ih q).2 vs d h2)
  | last a ih =>
    intro q
    refine ⟨fun _ _ h => h.elim, fun vs d h => ?_⟩
    obtain ⟨v, rfl, h⟩ := h
    exact .cons ((ih q).1 v d h) .nil
  | cons a b iha ihb =>
    intro q
    simp only [Ty.cmp, Bool.and_eq_true] at q
    refine ⟨fun _ _ h => h.elim, fun vs d h => ?_⟩
    obtain ⟨v, r, rfl, h1, h2⟩ := h
    exact .cons ((iha q.1).1 v d.1 h1) ((ihb q.2).2 r d.2 h2)
theorem canLayAll_map {t : Ty} {P : V → den t → Prop} {n : Nat} (h : ∀ v d, P v d → ((emb t).1 d).canLay0 = true ∧ ((emb t).1 d).depth ≤ n) : ∀ {vs : List V} {ds : List (den t)}, F2 P vs ds → PyData.canLayAll0 (ds.map (emb t).1) = true ∧ PyData.depthAll (ds.map (emb t).1) ≤ n
  | [], [], _ => ⟨by simp [PyData.canLayAll0], by simp [PyData.depthAll]⟩
  | v :: vs, d :: ds, q => by
    have h1 := h v d q.1
    have h2 := canLayAll_map h q.2
    simp only [List.map_cons, PyData.canLayAll0, PyData.depthAll, Bool.and_eq_true]
    exact ⟨⟨h1.1, h2.1⟩, Nat.max_le.mpr ⟨h1.2, h2.2⟩⟩
  | [], _ :: _, q => q.elim
  | _ :: _, [], q => q.elim
theorem rS_lay {R : Reg} : ∀ t : Ty, t.cmp = true → (∀ v d, (rS K H R t).1 v d → ((emb t).1 d).canLay0 = true ∧ ((emb t).1 d).depth ≤ t.dep) ∧ (∀ vs d, (rS K H R t).2 vs d → PyData.canLayAll0 ((emb t).2 d) = true ∧ PyData.depthAll ((emb t).2 d) ≤ t.dep) := by
  intro t
  induction t with
  | non => exact fun _ => ⟨fun v d h => by simp [emb, PyData.canLay0, PyData.depth], fun _ _ h => h.elim⟩
  | bool => exact fun _ => ⟨fun v d h => by simp [emb, PyData.canLay0, PyData.depth], fun _ _ h => h.elim⟩
  | int => exact fun _ => ⟨fun v d h => by simp [emb, PyData.canLay0, PyData.depth], fun _ _ h => h.elim⟩
  | str => exact fun _ => ⟨fun v d h => by simpa [emb, PyData.canLay0, PyData.depth] using h.2, fun _ _ h => h.elim⟩
  | any => exact fun q => by cases q
  | opt t ih =>
    intro q
    refine ⟨fun v d h => ?_, fun _ _ h => h.elim⟩
    cases d with
    | none => simp [emb, PyData.canLay0, PyData.depth]
    | some x => exact (ih q).1 v x h.2
  | vtup t ih =>
    intro q
    refine ⟨fun v d h => ?_, fun _ _ h => h.elim⟩
    obtain ⟨a, vs, rfl, h1, h2⟩ := h
    have := canLayAll_map (ih q).1 h2
    simp only [emb, PyData.canLay0, PyData.depth, Ty.dep]
    exact ⟨this.1, by omega⟩
  | list t ih =>
    intro q
    refine ⟨fun v d h => ?_, fun _ _ h => h.elim⟩
    obtain ⟨a, vs, rfl, h1, h2⟩ := h
    have := canLayAll_map (ih q).1 h2
    simp only [emb, PyData.canLay0, PyData.depth, Ty.dep]
    exact ⟨this.1, by omega⟩
  | dict k t _ ih => exact fun q => by cases q
  | own t ih => exact ih
  | tup b ih =>
    intro q
    refine ⟨fun v d h => ?_, fun _ _ h => h.elim⟩
    obtain ⟨a, vs, rfl, h1, h2⟩ := h
    have := (ih q).2 vs d h2
    simp only [emb, PyData.canLay0, PyData.depth, Ty.dep]
    exact ⟨this.1, by omega⟩
  | last a ih =>
    intro q
    refine ⟨fun _ _ h => h.elim, fun vs d h => ?_⟩
    obtain ⟨v, rfl, h⟩ := h
    have := (ih q).1 v d h
    simp only [emb, PyData.canLayAll0, PyData.depthAll, Ty.dep, Bool.and_true]
    exact ⟨this.1, by omega⟩
  | cons a b iha ihb =>
    intro q
    simp only [Ty.cmp, Bool.and_eq_true] at q
    refine ⟨fun _ _ h => h.elim, fun vs d h => ?_⟩
    obtain ⟨v, r, rfl, h1, h2⟩ := h
    have k1 := (iha q.1).1 v d.1 h1
    have k2 := (ihb q.2).2 r d.2 h2
    simp only [emb, PyData.canLayAll0, PyData.depthAll, Ty.dep, Bool.and_eq_true]
    exact ⟨⟨k1.1, k2.1⟩, by omega⟩
theorem shaped_of {R : Reg} {t : Ty} (q : t.cmp = true) (hd : t.dep ≤ 64) {v : V} {d : den t} (h : (rS K H R t).1 v d) : SeqAt.shaped ((emb t).1 d) = true := by
  have := (rS_lay t q).1 v d h
  unfold SeqAt.shaped
  rw [this.1, Bool.true_and]
  exact decide_eq_true (by omega)
def fEqD (t : Ty) (a b : den t) : Option Bool := some (PyData.eqv ((emb t).1 a) ((emb t).1 b))
def fNeD (t : Ty) (a b : den t) : Option Bool := some (!PyData.eqv ((emb t).1 a) ((emb t).1 b))
def okCmp (t : Ty) : Bool := t.cmp && decide (t.dep ≤ 60)
theorem okCmp_of {t : Ty} (h : okCmp t = true) : t.cmp = true ∧ t.dep ≤ 60 := by
  rw [okCmp, Bool.and_eq_true] at h
  exact ⟨h.1, of_decide_eq_true h.2⟩
theorem v_eqD {m : Em} {t : Ty} (hk : okCmp t = true) : V2 K (rEqD K) m t t .bool (fEqD t) := fun E L H v w a b c Q ra rb e q => by
  cases e
  obtain ⟨k1, k2⟩ := okCmp_of hk
  exact ⟨_, _, (rS_dp t k1).1 v a ra, (rS_dp t k1).1 w b rb, shaped_of k1 (by omega) ra, shaped_of k1 (by omega) rb, q _ H (Same.refl H) (rep_atom rfl rfl)⟩
theorem v_neD {m : Em} {t : Ty} (hk : okCmp t = true) : V2 K (rNeD K) m t t .bool (fNeD t) := fun E L H v w a b c Q ra rb e q => by
  cases e
  obtain ⟨k1, k2⟩ := okCmp_of hk
  exact ⟨_, _, (rS_dp t k1).1 v a ra, (rS_dp t k1).1 w b rb, shaped_of k1 (by omega) ra, shaped_of k1 (by omega) rb, q _ H (Same.refl H) (rep_atom rfl rfl)⟩
/-- x in xs -/
def fInD (t : Ty) (a : den t) (b : List (den t)) : Option Bool := some (b.any fun z => PyData.eqv ((emb t).1 z) ((emb t).1 a))
def fNotInD (t : Ty) (a : den t) (b : List (den t)) : Option Bool := some (!b.any fun z => PyData.eqv ((emb t).1 z) ((emb t).1 a))
theorem v_inD {m : Em} {t : Ty} (hk : okCmp t = true) : V2 K (rInD K) m t (.list t) .bool (fInD t) := fun E L H v w a b c Q ra rb e q => by
  cases e
  obtain ⟨k1, k2⟩ := okCmp_of hk
  refine ⟨_, b.map (emb t).1, (rS_dp t k1).1 v a ra, (rS_dp (.list t) k1).1 w b rb, shaped_of k1 (by omega) ra, shaped_of (t := .list t) k1 (by simp only [Ty.dep]; omega) rb, q _ H (Same.refl H) (rep_atom rfl ?_)⟩
  show V.bl _ = V.bl _
  rw [List.any_map]
  rfl
theorem v_notInD {m : Em} {t : Ty} (hk : okCmp t = true) : V2 K (rNotInD K) m t (.list t) .bool (fNotInD t) := fun E L H v w a b c Q ra rb e q => by
  cases e
  obtain ⟨k1, k2⟩ := okCmp_of hk
  refine ⟨_, b.map (emb t).1, (rS_dp t k1).1 v a ra, (rS_dp (.list t) k1).1 w b rb, shaped_of k1 (by omega) ra, shaped_of (t := .list t) k1 (by simp only [Ty.dep]; omega) rb, q _ H (Same.refl H) (rep_atom rfl ?_)⟩
  show V.bl _ = V.bl _
  rw [List.any_map]
  rfl
end
end VV

/-! VMore3: list comprehensions. -/
namespace VV
open PySem L2
open PyProof.Rows hiding St

section
variable {K : PySem.W.Frag} {E : Ent} {ms : List Md} {ts : List Ty} {L L1 : Reg} {Γ Γ1 : Gam ts} {σ σ1 : St} {H H' H0 H1 H2 : Hp} {xt : List Addr} {rm : Rm} {ρ : Ty}
/-! ### rows that grow -/
theorem RepL.nil {m : Em} {t : Ty} : RepL K E L H H' m t [] [] := by
  cases m with
  | o => exact ⟨[], fun _ => False, rfl, List.nodup_nil, fun a h => by simp at h, fun a h => h.elim, fun a h => by simp at h⟩
  | l => exact ⟨fun _ => False, True.intro, fun a h => h.elim⟩
  | w => exact ⟨fun _ => False, True.intro, fun a h => h.elim⟩
  | b => exact True.intro
/-- what becomes of a row when the heap goes on: nothing that it rests on changes -/
theorem RepL.on {m : Em} {t : Ty} {vs : List V} {ds : List (den t)} (hm : (m == .b) = false) (hc : ∀ R : Reg, (∀ a, R a → E.S0 a ∨ L a ∨ (H0 a = none ∧ (H a).isSome = true)) → Cov H H' R R) (hs : Stb H H') (hn : ∀ a, H0 a = none → (H a).isSome = true → H' a = H a) (r : RepL K E L H0 H m t vs ds) : RepL K E L H0 H' m t vs ds := by
  have nw : ∀ {R : Reg}, Nw H0 H R → Nw H0 H' R := fun {R} h a ha => ⟨(h a ha).1, by rw [hn a (h a ha).1 (h a ha).2]; exact (h a ha).2⟩
  cases m with
  | o =>
    obtain ⟨f, Lr, h1, h2, h3, h4, h5⟩ := r
    have cv : Cov H H' (fun a => L a ∨ Lr a) (fun a => L a ∨ Lr a) := hc _ fun a h => h.elim (fun z => .inr (.inl z)) fun z => .inr (.inr (h4 a z))
    exact ⟨f, Lr, h1.imp fun v d g hg x => kid_mono ((rS_mono cv hs t).1 v d) ((rO_mono cv hs t).1 v d g fun a ha => hn a (h3 a (hg a ha)).1 (h3 a (hg a ha)).2) x, h2, nw h3, nw h4, h5⟩
  | l =>
    obtain ⟨Lr, h1, h2⟩ := r
    exact ⟨Lr, h1.imp fun v d x => (rS_mono (hc _ fun a h => h.elim (fun z => .inr (.inl z)) fun z => .inr (.inr (h2 a z))) hs t).1 v d x, nw h2⟩
  | w =>
    obtain ⟨Lr, h1, h2⟩ := r
    exact ⟨Lr, h1.imp fun v d x => (rS_mono (hc _ fun a h => h.elim .inl fun h => h.elim (fun z => .inr (.inl z)) fun z => .inr (.inr (h2 a z))) hs t).1 v d x, nw h2⟩
  | b => exact absurd hm (by decide)
theorem RepL.same {m : Em} {t : Ty} {vs : List V} {ds : List (den t)} (hm : (m == .b) = false) (s : Same H H') (r : RepL K E L H0 H m t vs ds) : RepL K E L H0 H' m t vs ds :=
  r.on hm (fun R _ => Cov.of_same s fun a h _ => h) (Stb.of_same s) fun a _ h => same_at s h
/-- a cell that the row does not rest on is changed -/
theorem RepL.upd {m : Em} {t : Ty} {vs : List V} {ds : List (den t)} {D : Addr} {o u : HO} (hm : (m == .b) = false) (hD : H D = some o) (mo : mutO o = true) (h0 : (H0 D).isSome = true) (hl : ¬ L D) (hS : ¬ E.S0 D) (r : RepL K E L H0 H m t vs ds) : RepL K E L H0 (upd H D u) m t vs ds := by
  refine r.on hm (fun R hR a q h e => ⟨h, ?_⟩) (Stb.upd hD mo) fun a h1 h2 => upd_ne fun z => ?_
  · rw [upd_ne fun z => ?_]
    · exact e
    · subst z
      rcases hR a h with z | z | z
      · exact hS z
      · exact hl z
      · rw [z.1] at h0
        cases h0
  · subst z
    rw [h1] at h0
    cases h0
theorem F3.snoc {α β : Type} {P : α → β → List Addr → Prop} {vs : List α} {ds : List β} {f : List Addr} {v : α} {d : β} {g : List Addr} (h : F3 P vs ds f) (q : P v d g) : F3 P (vs ++ [v]) (ds ++ [d]) (f ++ g) := F3.append h ⟨g, [], by simp, q, rfl⟩
theorem F2.snoc {α β : Type} {P : α → β → Prop} {vs : List α} {ds : List β} {v : α} {d : β} (h : F2 P vs ds) (q : P v d) : F2 P (vs ++ [v]) (ds ++ [d]) := F2.append h ⟨q, True.intro⟩
/-- one item more -/
theorem RepL.snoc {m : Em} {t : Ty} {vs : List V} {ds : List (den t)} {v : V} {d : den t} (hm : (m == .b) = false) (s : Same H H') (h0 : ∀ a, H a = none → H0 a = none) (r : RepL K E L H0 H m t vs ds) (q : Rep K E L H H' m t v d) : RepL K E L H0 H' m t (vs ++ [v]) (ds ++ [d]) := by
  have r1 := r.same hm s
  have nw : ∀ {R : Reg}, Nw H H' R → Nw H0 H' R := fun {R} h a ha => ⟨h0 a (h a ha).1, (h a ha).2⟩
  cases m with
  | o =>
    obtain ⟨f, Lr, h1, h2, h3, h4, h5⟩ := r
    obtain ⟨g, Ls, k1, k2, k3, k4, k5⟩ := q
    have cv : Cov H H' (fun a => L a ∨ Lr a) (fun a => L a ∨ (Lr a ∨ Ls a)) := Cov.of_same s fun a h _ => h.elim .inl fun z => .inr (.inl z)
    have cg : Cov H' H' (fun a => L a ∨ Ls a) (fun a => L a ∨ (Lr a ∨ Ls a)) := Cov.of_reg fun a h _ => h.elim .inl fun z => .inr (.inr z)
    refine ⟨f ++ g, fun a => Lr a ∨ Ls a, F3.snoc (h1.imp fun v d g hg x => kid_mono ((rS_mono cv (Stb.of_same s) t).1 v d) ((rO_mono cv (Stb.of_same s) t).1 v d g fun a ha => same_at s (h3 a (hg a ha)).2) x) (.inl ((rO_mono cg (Stb.refl _) t).1 v d g (fun _ _ => rfl) k1)), List.nodup_append.mpr ⟨h2, k2, fun a ha b hb z => ?_⟩, fun a ha => ?_, fun a ha => ?_, fun a ha => ?_⟩
    · subst z
      exact nw_apart h3 k3 a ha hb
    · rcases List.mem_append.mp ha with z | z
      · exact nw_on s h3 a z
      · exact nw k3 a z
    · rcases ha with z | z
      · exact nw_on s h4 a z
      · exact nw k4 a z
    · rcases List.mem_append.mp ha with z | z
      · exact fun y => y.elim (h5 a z) (nw_apart h3 k4 a z)
      · exact fun y => y.elim (fun y => nw_apart h4 k3 a y z) (k5 a z)
  | l =>
    obtain ⟨Lr, h1, h2⟩ := r1
    obtain ⟨Ls, k1, k2⟩ := q
    refine ⟨fun a => Lr a ∨ Ls a, F2.snoc (h1.imp fun v d x => (rS_mono (Cov.of_reg fun a h _ => h.elim .inl fun z => .inr (.inl z)) (Stb.refl _) t).1 v d x) ((rS_mono (Cov.of_reg fun a h _ => h.elim .inl fun z => .inr (.inr z)) (Stb.refl _) t).1 v d k1), fun a ha => ha.elim (h2 a) (nw k2 a)⟩
  | w =>
    obtain ⟨Lr, h1, h2⟩ := r1
    obtain ⟨Ls, k1, k2⟩ := q
    refine ⟨fun a => Lr a ∨ Ls a, F2.snoc (h1.imp fun v d x => (rS_mono (Cov.of_reg fun a h _ => h.elim .inl fun z => z.elim (fun z => .inr (.inl z)) fun z => .inr (.inr (.inl z))) (Stb.refl _) t).1 v d x)
      ((rS_mono (Cov.of_reg fun a h _ => h.elim .inl fun z => z.elim (fun z => .inr (.inl z)) fun z => .inr (.inr (.inr z))) (Stb.refl _) t).1 v d k1), fun a ha => ha.elim (h2 a) (nw k2 a)⟩
  | b => exact absurd hm (by decide)
/-- the new list itself -/
theorem RepL.list {m : Em} {t : Ty} {vs : List V} {ds : List (den t)} {D : Addr} {Lr : Reg} (hm : (m == .b) = false) (s : Same H H1) (nl : Nw H H1 Lr) (hD : H1 D = none) (s1 : Same H1 H') (hv : H' D = some (.lst vs)) (r : RepL K E (fun a => L a ∨ Lr a) (L2.upd H1 D (.lst [])) H' m t vs ds) : Rep K E L H H' m (.list t) (.ref D) ds := by
  have nf : ∀ {R : Reg}, Nw (L2.upd H1 D (.lst [])) H' R → Nw H H' R ∧ ¬ R D := fun {R} h => ⟨fun a ha => by
    have := (h a ha).1
    have ne : a ≠ D := fun z => by
      subst z
      rw [upd_same] at this
      cases this
    rw [upd_ne ne] at this
    exact ⟨s.free this, (h a ha).2⟩, fun z => by
    have := (h D z).1
    rw [upd_same] at this
    cases this⟩
  have nl' : Nw H H' Lr := nw_on s1 nl
  have dl : ¬ Lr D := fun z => by
    have := (nl D z).2
    rw [hD] at this
    cases this
  have dn : H D = none ∧ (H' D).isSome = true := ⟨s.free hD, by rw [hv]; rfl⟩
  have as : ∀ {Ls : Reg}, ∀ a, (L a ∨ Lr a) ∨ Ls a → L a ∨ (Lr a ∨ Ls a) := fun a h => h.elim (fun h => h.elim .inl fun z => .inr (.inl z)) fun z => .inr (.inr z)
  cases m with
  | o =>
    obtain ⟨f, Ls, h1, h2, h3, h4, h5⟩ := r
    have cv : Cov H' H' (fun a => (L a ∨ Lr a) ∨ Ls a) (fun a => L a ∨ (Lr a ∨ Ls a)) := Cov.of_reg fun a h _ => as a h
    refine ⟨D :: f, fun a => Lr a ∨ Ls a, ⟨D, vs, f, rfl, rfl, hv, h1.imp fun v d g hg x => kid_mono ((rS_mono cv (Stb.refl _) t).1 v d) ((rO_mono cv (Stb.refl _) t).1 v d g fun _ _ => rfl) x⟩, List.nodup_cons.mpr ⟨(nf h3).2, h2⟩, fun a ha => ?_, fun a ha => ha.elim (nl' a) ((nf h4).1 a), fun a ha => ?_⟩
    · rcases List.mem_cons.mp ha with rfl | ha
      · exact dn
      · exact (nf h3).1 a ha
    · rcases List.mem_cons.mp ha with rfl | ha
      · exact fun z => z.elim dl (nf h4).2
      · refine fun z => z.elim (fun z => ?_) (h5 a ha)
        have h6 := (nl a z).2
        have h7 := (h3 a ha).1
        have ne : a ≠ D := fun z => by
          subst z
          rw [upd_same] at h7
          cases h7
        rw [upd_ne ne] at h7
        rw [h7] at h6
        cases h6
  | l =>
    obtain ⟨Ls, h1, h2⟩ := r
    refine ⟨fun a => (Lr a ∨ Ls a) ∨ a = D, ⟨D, vs, rfl, .inl ⟨.inr (.inr rfl), by rw [hv]; rfl⟩, h1.imp fun v d x => (rS_mono (Cov.of_reg fun a h _ => (as a h).elim .inl fun z => .inr (.inl z)) (Stb.refl _) t).1 v d x⟩, fun a ha => ?_⟩
    rcases ha with (ha | ha) | rfl
    · exact nl' a ha
    · exact (nf h2).1 a ha
    · exact dn
  | w =>
    obtain ⟨Ls, h1, h2⟩ := r
    refine ⟨fun a => (Lr a ∨ Ls a) ∨ a = D, ⟨D, vs, rfl, .inl ⟨.inr (.inr (.inr rfl)), by rw [hv]; rfl⟩, h1.imp fun v d x => (rS_mono (Cov.of_reg fun a h _ => h.elim .inl fun h => .inr ((as a h).elim .inl fun z => .inr (.inl z))) (Stb.refl _) t).1 v d x⟩, fun a ha => ?_⟩
    rcases ha with (ha | ha) | rfl
    · exact nl' a ha
    · exact (nf h2).1 a ha
    · exact dn
  | b => exact absurd hm (by decide)

/-! ### names of the comprehension's own -/
theorem wipe_in {i : Nat} : ∀ {vs : List Nat} {σ : St}, i ∈ vs → i < σ.length → (wipe σ vs)[i]? = some none
  | v :: vs, σ, h, hl => by
    unfold wipe
    by_cases hv : v = i
    · subst hv
      rw [List.getElem?_set_self (by rw [wipe_length]; exact hl)]
    · rw [List.getElem?_set_ne hv]
      exact wipe_in ((List.mem_cons.mp h).resolve_left fun z => hv z.symm) hl
  | [], _, h, _ => by simp at h
theorem wipe_ext {vs : List Nat} {σ σ' : St} (hl : σ.length = σ'.length) (h : ∀ j, j ∉ vs → σ[j]? = σ'[j]?) : wipe σ vs = wipe σ' vs := by
  refine List.ext_getElem? fun j => ?_
  by_cases hj : j ∈ vs
  · by_cases hb : j < σ.length
    · rw [wipe_in hj hb, wipe_in hj (by omega)]
    · rw [List.getElem?_eq_none (by rw [wipe_length]; omega), List.getElem?_eq_none (by rw [wipe_length]; omega)]
  · rw [wipe_out hj, wipe_out hj]
    exact h j hj
theorem wipe_wipe (σ : St) (vs : List Nat) : wipe (wipe σ vs) vs = wipe σ vs := wipe_ext (wipe_length σ vs) fun j hj => wipe_out hj
/-- a target that stores in names of vs alone -/
def GW (g : TG) (vs : List Nat) : Prop := ∀ (x : V) (σ : St) (H : Hp) (Q : St → Hp → Prop), g x σ H Q → g x σ H fun σ' H' => wipe σ' vs = wipe σ vs ∧ Q σ' H'
def GWs (g : TGs) (vs : List Nat) : Prop := ∀ (xs : List V) (σ : St) (H : Hp) (Q : St → Hp → Prop), g xs σ H Q → g xs σ H fun σ' H' => wipe σ' vs = wipe σ vs ∧ Q σ' H'
def MonG (g : TG) : Prop := ∀ (x : V) (σ : St) (H : Hp) (Q Q' : St → Hp → Prop), (∀ σ' H', Q σ' H' → Q' σ' H') → g x σ H Q → g x σ H Q'
theorem gw_name {i : Nat} {vs : List Nat} (h : vs.contains i = true := by rfl) : GW (gName i) vs := fun x σ H Q q => by
  refine ⟨wipe_ext List.length_set fun j hj => List.getElem?_set_ne fun z => hj ?_, q⟩
  rw [← z]
  exact List.contains_iff_mem.mp h
theorem gws_nil {vs : List Nat} : GWs gNil vs := fun xs σ H Q q => ⟨q.1, rfl, q.2⟩
theorem gws_cons {g : TG} {gs : TGs} {vs : List Nat} (h : GW g vs) (hm : MonG g) (hs : GWs gs vs) : GWs (gCons g gs) vs := fun xs σ H Q q => by
  obtain ⟨v, r, rfl, q⟩ := q
  refine ⟨v, r, rfl, hm v σ H _ _ (fun σ' H' z => ?_) (h v σ H _ q)⟩
  have := hs r σ' H' Q z.2
  rw [z.1] at this
  exact this
theorem mg_name {i : Nat} : MonG (gName i) := fun _ _ _ _ _ h q => h _ _ q
theorem gw_tup {n : Nat} {gs : TGs} {vs : List Nat} (h : GWs gs vs) : GW (gTup K n gs) vs := fun x σ H Q q => by
  obtain ⟨a, xs, e, h1, h2, q⟩ := q
  exact ⟨a, xs, e, h1, h2, h xs σ H Q q⟩
def MonGs (g : TGs) : Prop := ∀ (xs : List V) (σ : St) (H : Hp) (Q Q' : St → Hp → Prop), (∀ σ' H', Q σ' H' → Q' σ' H') → g xs σ H Q → g xs σ H Q'
theorem mgs_nil : MonGs gNil := fun _ _ _ _ _ h q => ⟨q.1, h _ _ q.2⟩
theorem mgs_cons {g : TG} {gs : TGs} (h : MonG g) (hs : MonGs gs) : MonGs (gCons g gs) := fun xs σ H Q Q' hq q => by
  obtain ⟨v, r, e, q⟩ := q
  exact ⟨v, r, e, h v σ H _ _ (fun σ' H' z => hs r σ' H' Q Q' hq z) q⟩
theorem mg_tup {n : Nat} {gs : TGs} (h : MonGs gs) : MonG (gTup K n gs) := fun x σ H Q Q' hq q => by
  obtain ⟨a, xs, e, h1, h2, q⟩ := q
  exact ⟨a, xs, e, h1, h2, h xs σ H Q Q' hq q⟩
theorem rG_unset {S0 : Reg} : ∀ {ms : List Md} {ts : List Ty} {Γ : Gam ts} {σ : St} {fp : List Addr} (bs : List Bool) (v : Nat), bs[v]? = some false → rG K H S0 L ms ts (Gam.mask bs Γ) σ fp → rG K H S0 L ms ts (Gam.mask bs Γ) (σ.set v none) fp
  | [], [], _, σ, _, bs, v, hv, h => by
    obtain ⟨h1, h2⟩ := h
    subst h1
    exact ⟨rfl, h2⟩
  | m :: ms, t :: ts, Γ, s :: σ, fp, b :: bs, 0, hv, h => by
    have e : b = false := by simpa using hv
    subst e
    obtain ⟨f1, f2, rfl, h1, h2⟩ := h
    exact ⟨f1, f2, rfl, h1, h2⟩
  | m :: ms, t :: ts, Γ, s :: σ, fp, b :: bs, v + 1, hv, h => by
    obtain ⟨f1, f2, rfl, h1, h2⟩ := h
    exact ⟨f1, f2, rfl, h1, rG_unset (Γ := Γ.2) bs v (by simpa using hv) h2⟩
  | _ :: _, _ :: _, _, _ :: _, _, [], _, hv, _ => by simp at hv
  | [], _ :: _, _, _, _, _, _, _, h => h.elim
  | _ :: _, [], _, _, _, _, _, _, h => h.elim
  | _ :: _, _ :: _, _, [], _, [], _, hv, _ => by simp at hv
  | _ :: _, _ :: _, _, [], _, _ :: _, _, _, h => h.elim
theorem rG_wipe {S0 : Reg} {fp : List Addr} {bs : List Bool} : ∀ (vs : List Nat), (∀ v ∈ vs, bs[v]? = some false) → rG K H S0 L ms ts (Gam.mask bs Γ) σ fp → rG K H S0 L ms ts (Gam.mask bs Γ) (wipe σ vs) fp
  | [], _, h => h
  | v :: vs, hv, h => rG_unset bs v (hv v List.mem_cons_self) (rG_wipe vs (fun w hw => hv w (List.mem_cons_of_mem _ hw)) h)
theorem Own.wipe {bs : List Bool} {vs : List Nat} (hv : ∀ v ∈ vs, bs[v]? = some false) (o : Own K E L ms ts (Gam.mask bs Γ) σ H xt) : Own K E L ms ts (Gam.mask bs Γ) (wipe σ vs) H xt := by
  obtain ⟨fp, g, nd, gd⟩ := o.ex
  exact ⟨⟨fp, rG_wipe vs hv g, nd, gd⟩, o.fr, o.lr, o.s0, o.iod⟩

/-! ### [e for x in xs if t] -/
def lcL {G α β : Type} (bind : α → G → G) (cond : G → Option Bool) (elt : G → Option β) (Γ : G) : List α → Option (List β)
  | [] => some []
  | x :: xs => (cond (bind x Γ)).bind fun b => if b = true then (elt (bind x Γ)).bind fun y => (lcL bind cond elt Γ xs).bind fun r => some (y :: r) else lcL bind cond elt Γ xs
def eLc {G α β : Type} (src : G → Option (List α)) (bind : α → G → G) (mask : G → G) (cond : G → Option Bool) (elt : G → Option β) : G → Option (List β) := fun Γ => (src Γ).bind fun xs => (lcL bind cond elt (mask Γ) xs).bind fun r => okIf (lenOk r.length) r
def eYes {G : Type} : G → Option Bool := fun _ => some true
theorem rt_yes : RT K ms ts tYes eYes := fun E L Γ σ H xt Q c o e q => by
  cases e
  exact q H (Same.refl H)
/-- what a comprehension walks: nothing changes meanwhile -/
structure IterS (K : PySem.W.Frag) (R : Reg) (t : Ty) (J : It) (ds : List (den t)) (Z : Hp → Prop) : Prop where
  keep : ∀ H H', Same H H' → Z H → Z H'
  go : ∀ i H, Z H → i < ds.length → J.go i H
  stop : ∀ H, Z H → J.stop ds.length H
  yld : ∀ i H x H', i < ds.length → Z H → J.yld i H x H' → Same H H' ∧ ∃ d, ds[i]? = some d ∧ (rS K H' R t).1 x d
def RIS (K : PySem.W.Frag) (ms : List Md) (ts : List Ty) (wi : TI) (w : Bool) (t : Ty) (F : Gam ts → Option (List (den t))) : Prop :=
  ∀ (E : Ent) (L : Reg) (Γ : Gam ts) (σ : St) (H : Hp) (xt : List Addr) (R : It → Hp → Prop) (ds : List (den t)), Own K E L ms ts Γ σ H xt → F Γ = some ds →
    (∀ J H' Lr Z, Same H H' → Nw H H' Lr → IterS K (reg w E fun a => L a ∨ Lr a) t J ds Z → Z H' → R J H') → wi σ H R
theorem ris_of {w : Bool} {t : Ty} {wi : TI} {F : Gam ts → Option (List (den t))} (h : RI K ms ts wi w t F) : RIS K ms ts wi w t F := fun E L Γ σ H xt R ds o e q =>
  h E L Γ σ H xt R ds o e fun J H' Lr Z s n it z => q J H' Lr Z s n ⟨fun H H' s => it.keep H H' (Cov.of_same s fun _ h _ => h) (Stb.of_same s), it.go, it.stop, it.yld⟩ z
/-- a list of things without cells, owned or not -/
theorem ris_list {w : Bool} {t : Ty} {m : Em} {te : TE} {F : Gam ts → Option (List (den t))} (h : RP K ms ts te m (.list t) F) (hf : t.frz = true := by rfl) : RIS K ms ts (iList K te) w t F := fun E L Γ σ H xt R ds o e q => by
  refine h E L Γ σ H xt _ ds o e fun v H1 s1 r1 => ?_
  obtain ⟨a, vs, rfl, h1, h2⟩ := id r1.b
  refine ⟨a, rfl, ⟨vs, h1.seq⟩, q _ H1 (fun _ => False) (fun H => (rS K H (fun _ => True) (.list t)).1 (.ref a) ds) s1 (fun a h => h.elim) ⟨fun H H' s z => (rS_mono (Cov.of_same s fun _ h _ => h) (Stb.of_same s) (.list t)).1 _ _ z, iter_list.go, iter_list.stop, fun i H x H' hlt z hy => ?_⟩ r1.b⟩
  obtain ⟨s, d, hd, r⟩ := (iter_list (K := K) (R := fun _ => True) (t := t) (a := a) (ds := ds)).yld i H x H' hlt z hy
  exact ⟨s, d, hd, (rS_frz t hf).1 x d r⟩
theorem rp_hide {te : TE} {m : Em} {t : Ty} {F : Gam ts → Option (den t)} (h : RP K ms ts te m t F) : RP K ms ts te m t (hide F) := by
  rw [hide_eq]
  exact h
def okLc (m : Em) (bs : List Bool) (vs : List Nat) : Bool := !(m == .b) && vs.all fun v => bs[v]? == some false
theorem rp_lc {w : Bool} {m : Em} {t u : Ty} {wi : TI} {g : TG} {tt : TT} {te : TE} {src : Gam ts → Option (List (den t))} {B : den t → Gam ts → Gam ts} {cond : Gam ts → Option Bool} {elt : Gam ts → Option (den u)} (bs : List Bool) (vs : List Nat)
    (hi : RIS K ms ts wi w t src) (hg : RG K ms ts g w t B) (hw : GW g vs) (hc : RT K ms ts tt cond) (he : RP K ms ts te m u elt) (hk : okLc m bs vs = true := by rfl) : RP K ms ts (tLc wi g tt te vs) m (.list u) (eLc src B (Gam.mask bs) cond elt) := fun E L Γ σ H xt Q d o e q => by
  obtain ⟨xs, e1, e⟩ := bind_some e
  obtain ⟨r, e2, e⟩ := bind_some e
  simp only [okLc, Bool.and_eq_true, Bool.not_eq_true', List.all_eq_true, beq_iff_eq] at hk
  obtain ⟨hm, hv⟩ := hk
  dsimp only [okIf] at e
  split at e
  · rename_i hz
    cases e
    have hz := of_decide_eq_true hz
    have o0 := o.drop
    refine hi E L Γ σ H [] _ xs o0 e1 fun J H1 Lr Z s1 nw it z1 => fun D hD => ?_
    have o1 : Own K E (fun a => L a ∨ Lr a) ms ts (Gam.mask bs Γ) (L2.wipe σ vs) H1 [] := Own.wipe hv ((o0.temp s1 List.nodup_nil (fun a ha => by simp at ha) nw fun a ha => by simp at ha).mask bs)
    have fD := o1.fresh hD
    refine ⟨fun i k H' => k = xs.length - i ∧ i ≤ xs.length ∧ Same H1 H' ∧ ∃ acc ds rest, H' D = some (.lst acc) ∧ RepL K E (fun a => L a ∨ Lr a) (L2.upd H1 D (.lst [])) H' m u acc ds ∧ lcL B cond elt (Gam.mask bs Γ) (xs.drop i) = some rest ∧ d = ds ++ rest,
      ⟨xs.length, rfl, Nat.zero_le _, same_new hD, [], [], d, upd_same, RepL.nil, e2, rfl⟩, ?_⟩
    rintro i k H' ⟨rfl, hle, sH, acc, ds, rest, hDa, rl, e4, rfl⟩
    have z' : Z H' := it.keep H1 H' sH z1
    by_cases hlt : i < xs.length
    · refine .inr ⟨it.go i H' z' hlt, fun H'' => Same H1 H'' ∧ ∃ acc ds' rest', H'' D = some (.lst acc) ∧ RepL K E (fun a => L a ∨ Lr a) (L2.upd H1 D (.lst [])) H'' m u acc ds' ∧ lcL B cond elt (Gam.mask bs Γ) (xs.drop (i + 1)) = some rest' ∧ ds ++ rest = ds' ++ rest',
        fun H'' h => ⟨xs.length - (i + 1), by omega, rfl, hlt, h⟩, fun x H3 hy => ?_⟩
      obtain ⟨s3, dd, hd, rd⟩ := it.yld i H' x H3 hlt z' hy
      have ed : xs.drop i = dd :: xs.drop (i + 1) := by
        have hd' : xs[i] = dd := by
          have := List.getElem?_eq_getElem hlt
          rw [this] at hd
          exact Option.some.inj hd
        rw [List.drop_eq_getElem_cons hlt, hd']
      rw [ed] at e4
      obtain ⟨b, e5, e6⟩ := bind_some (show (cond (B dd (Gam.mask bs Γ))).bind _ = some rest from e4)
      have o3 := o1.same (sH.trans s3)
      have main := hw x (L2.wipe σ vs) H3 _ (hg E _ (Gam.mask bs Γ) (L2.wipe σ vs) H3 (fun σ2 H2 => tt σ2 H2 fun b H3 => if b = true then te σ2 H3 fun y H4 => ∃ acc, H4 D = some (.lst acc) ∧ acc.length < sizeLine ∧ (fun H'' => Same H1 H'' ∧ ∃ acc ds' rest', H'' D = some (.lst acc) ∧ RepL K E (fun a => L a ∨ Lr a) (L2.upd H1 D (.lst [])) H'' m u acc ds' ∧ lcL B cond elt (Gam.mask bs Γ) (xs.drop (i + 1)) = some rest' ∧ ds ++ rest = ds' ++ rest') (L2.upd H4 D (.lst (acc ++ [y]))) else (fun H'' => Same H1 H'' ∧ ∃ acc ds' rest', H'' D = some (.lst acc) ∧ RepL K E (fun a => L a ∨ Lr a) (L2.upd H1 D (.lst [])) H'' m u acc ds' ∧ lcL B cond elt (Gam.mask bs Γ) (xs.drop (i + 1)) = some rest' ∧ ds ++ rest = ds' ++ rest') H3) x dd o3 rd fun σ4 o4 ev4 => ?_)
      · rw [wipe_wipe] at main
        exact main
      · refine hc E _ _ σ4 H3 [] _ b o4 e5 fun H5 s5 => ?_
        have s35 : Same H' H5 := s3.trans s5
        cases b with
        | false =>
          rw [if_neg Bool.false_ne_true] at e6 ⊢
          exact ⟨sH.trans s35, acc, ds, rest, s35 _ _ hDa, rl.same hm s35, e6, rfl⟩
        | true =>
          rw [if_pos rfl] at e6 ⊢
          obtain ⟨y, e7, e8⟩ := bind_some e6
          obtain ⟨r', e9, e10⟩ := bind_some e8
          cases e10
          refine he E _ _ σ4 H5 [] _ y (o4.same s5) e7 fun v H6 s6 r6 => ?_
          have s36 : Same H' H6 := s35.trans s6
          have hD6 := s36 _ _ hDa
          refine ⟨acc, hD6, ?_, fun a q h => ?_, acc ++ [v], ds ++ [y], r', upd_same, ?_, e9, by simp⟩
          · have := rl.len
            simp only [List.length_append, List.length_cons] at hz
            omega
          · have ne : a ≠ D := fun z => by
              subst z
              rw [hD] at h
              cases h
            rw [upd_ne ne]
            exact (sH.trans s36) a q h
          · refine RepL.upd hm hD6 rfl (by rw [upd_same]; rfl) fD.2.1 fD.2.2 (RepL.snoc hm s6 (fun a h => ?_) (rl.same hm s35) r6)
            have ne : a ≠ D := fun z => by
              subst z
              rw [s35 _ _ hDa] at h
              cases h
            rw [upd_ne ne]
            exact (sH.trans s35).free h
    · have hi' : i = xs.length := by omega
      subst hi'
      rw [List.drop_length] at e4
      cases e4
      refine .inl ⟨it.stop H' z', q (.ref D) H' (s1.trans sH) ?_⟩
      rw [List.append_nil]
      exact rl.list hm s1 nw hD sH hDa
  · cases e
end
end VV

/-! VMore4: copies, tuples put together, stores in owned lists, enumerate, zip, reversed, signs of a text. -/
namespace VV
open PySem L2
open PyProof.Rows hiding St

section
variable {K : PySem.W.Frag} {E : Ent} {ms : List Md} {ts : List Ty} {L L1 : Reg} {Γ Γ1 : Gam ts} {σ σ1 : St} {H H' H0 H1 H2 : Hp} {xt : List Addr} {rm : Rm} {ρ : Ty}
/-! ### new lists and tuples of things without cells -/
theorem rep_newL {t : Ty} {R : Reg} {l : Addr} {vs : List V} {d : List (den t)} (hf : t.frz = true) (s : Same H H1) (hn : H1 l = none) (h : F2 (rS K H1 R t).1 vs d) : Same H (upd H1 l (.lst vs)) ∧ Rep K E L H (upd H1 l (.lst vs)) .o (.list t) (.ref l) d := by
  have s4 : Same H1 (upd H1 l (.lst vs)) := same_new hn
  refine ⟨s.trans s4, [l], fun _ => False, ⟨l, _, [], rfl, rfl, upd_same, F3.of2 (fun v d x => .inl ((rS_o t hf).1 v d x)) (h.imp (rS_mono (Cov.of_same s4 fun _ h _ => h) (Stb.of_same s4) t).1)⟩, by simp, fun a ha => ?_, fun a h => h.elim, fun a _ h => h⟩
  have ha : a = l := by simpa using ha
  subst ha
  exact ⟨s.free hn, by rw [upd_same]; rfl⟩
theorem rep_newT {t : Ty} {R : Reg} {l : Addr} {vs : List V} {d : List (den t)} (m : Em) (hf : t.frz = true) (s : Same H H1) (hn : H1 l = none) (h : F2 (rS K H1 R t).1 vs d) : Same H (upd H1 l (.tup vs)) ∧ Rep K E L H (upd H1 l (.tup vs)) m (.vtup t) (.ref l) d := by
  have s4 : Same H1 (upd H1 l (.tup vs)) := same_new hn
  exact ⟨s.trans s4, Rep.frz (t := .vtup t) hf m (R := R) ⟨l, vs, rfl, upd_same, h.imp (rS_mono (Cov.of_same s4 fun _ h _ => h) (Stb.of_same s4) t).1⟩⟩
abbrev rLen (K : PySem.W.Frag) : List V → Hp → VK → Prop := fun xs H Q => ∃ x n, xs = [x] ∧ LenV K x H n ∧ Q (.int n) H
abbrev rListOf (K : PySem.W.Frag) : List V → Hp → VK → Prop := fun xs H Q => ∃ p ys, xs = [.ref p] ∧ (SqL K H p ys ∨ SqT K H p ys) ∧ ∀ l, H l = none → Q (.ref l) (upd H l (.lst ys))
abbrev rTupOf (K : PySem.W.Frag) : List V → Hp → VK → Prop := fun xs H Q => ∃ p ys, xs = [.ref p] ∧ ((SqL K H p ys ∧ ∀ l, H l = none → Q (.ref l) (upd H l (.tup ys))) ∨ (SqT K H p ys ∧ Q (.ref p) H))
theorem rp_listL {t : Ty} {m : Em} {te : TE} {F : Gam ts → Option (List (den t))} (h : RP K ms ts te m (.list t) F) (hf : t.frz = true := by rfl) : RP K ms ts (tCB (rListOf K) (tCons te tNil)) .o (.list t) F := fun E L Γ σ H xt Q d o e q => by
  refine h E L Γ σ H xt _ d o e fun v H1 s1 r1 => ?_
  obtain ⟨p, vs, rfl, h1, h2⟩ := r1.b
  refine ⟨p, vs, rfl, .inl h1.seq, fun l hn => ?_⟩
  obtain ⟨s, r⟩ := rep_newL (E := E) (L := L) hf s1 hn h2
  exact q _ _ s r
theorem rp_listV {t : Ty} {m : Em} {te : TE} {F : Gam ts → Option (List (den t))} (h : RP K ms ts te m (.vtup t) F) (hf : t.frz = true := by rfl) : RP K ms ts (tCB (rListOf K) (tCons te tNil)) .o (.list t) F := fun E L Γ σ H xt Q d o e q => by
  refine h E L Γ σ H xt _ d o e fun v H1 s1 r1 => ?_
  obtain ⟨p, vs, rfl, h1, h2⟩ := r1.b
  refine ⟨p, vs, rfl, .inr (.of h1), fun l hn => ?_⟩
  obtain ⟨s, r⟩ := rep_newL (E := E) (L := L) hf s1 hn h2
  exact q _ _ s r
theorem rp_tupL {t : Ty} {m m' : Em} {te : TE} {F : Gam ts → Option (List (den t))} (h : RP K ms ts te m' (.list t) F) (hf : t.frz = true := by rfl) : RP K ms ts (tCB (rTupOf K) (tCons te tNil)) m (.vtup t) F := fun E L Γ σ H xt Q d o e q => by
  refine h E L Γ σ H xt _ d o e fun v H1 s1 r1 => ?_
  obtain ⟨p, vs, rfl, h1, h2⟩ := r1.b
  refine ⟨p, vs, rfl, .inl ⟨h1.seq, fun l hn => ?_⟩⟩
  obtain ⟨s, r⟩ := rep_newT (E := E) (L := L) m hf s1 hn h2
  exact q _ _ s r
theorem rp_tupV {t : Ty} {m m' : Em} {te : TE} {F : Gam ts → Option (List (den t))} (h : RP K ms ts te m' (.vtup t) F) (hf : t.frz = true := by rfl) : RP K ms ts (tCB (rTupOf K) (tCons te tNil)) m (.vtup t) F := fun E L Γ σ H xt Q d o e q => by
  refine h E L Γ σ H xt _ d o e fun v H1 s1 r1 => ?_
  obtain ⟨p, vs, rfl, h1, h2⟩ := id r1.b
  exact ⟨p, vs, rfl, .inr ⟨.of h1, q _ _ s1 (Rep.frz (t := .vtup t) hf m r1.b)⟩⟩
theorem f2_nil {α β : Type} {P : α → β → Prop} {vs : List α} {ds : List β} (h : F2 P vs ds) : vs = [] ↔ ds = [] := by
  cases vs <;> cases ds <;> first | exact h.elim | simp
theorem v_catT {m : Em} {t : Ty} (hf : t.frz = true := by rfl) : V2 K (rCatA K) m (.vtup t) (.vtup t) (.vtup t) fCatL := fun E L H v w a b c Q ra rb e q => by
  dsimp only [fCatL, okIf] at e
  split at e
  · rename_i hz
    cases e
    obtain ⟨p, vs, rfl, h1, h2⟩ := id ra
    obtain ⟨p', ws, rfl, h3, h4⟩ := id rb
    refine ⟨p, p', vs, ws, rfl, rfl, .of h1, .of h3, by rw [h2.length, h4.length]; exact of_decide_eq_true hz, fun z => ?_, fun z z' => ?_, fun z z' l hn => ?_⟩
    · have := (f2_nil h2).mp z
      subst this
      exact q _ H (Same.refl H) (Rep.frz (t := .vtup t) hf m rb)
    · have := (f2_nil h4).mp z'
      subst this
      rw [List.append_nil] at q
      exact q _ H (Same.refl H) (Rep.frz (t := .vtup t) hf m ra)
    · obtain ⟨s, r⟩ := rep_newT (E := E) (L := L) m hf (Same.refl H) hn (F2.append h2 h4)
      exact q _ _ s r
  · cases e
theorem cut_whole {α : Type} {xs : List α} {lo hi : Option Int} (h : HT.sIx xs.length 0 lo = 0 ∧ HT.sIx xs.length xs.length hi = xs.length) : cutD xs lo hi = xs := by
  unfold cutD
  rw [h.1, h.2]
  simp
theorem rp_sliceT {t : Ty} {m m' : Em} {te : TE} {tl th : TO} {F : Gam ts → Option (List (den t))} {Fl Fh : Gam ts → Option (Option Int)} (h : RP K ms ts te m (.vtup t) F) (hl : RO K ms ts tl Fl) (hh : RO K ms ts th Fh) (hf : t.frz = true := by rfl) :
    RP K ms ts (tSl (rSlA K) te tl th) m' (.vtup t) (e3 fCutL F Fl Fh) := fun E L Γ σ H xt Q d o e q => by
  obtain ⟨a, ea, e⟩ := bind_some e
  obtain ⟨lo, el, e⟩ := bind_some e
  obtain ⟨hi, eh, e⟩ := bind_some e
  cases e
  refine h E L Γ σ H xt _ a o ea fun v H1 s1 r1 => ?_
  refine hl E L Γ σ H1 xt _ lo (o.same s1) el fun H2 s2 => ?_
  refine hh E L Γ σ H2 xt _ hi ((o.same s1).same s2) eh fun H3 s3 => ?_
  have s13 := s2.trans s3
  have r3 := (rS_mono (Cov.of_same s13 fun _ h _ => h) (Stb.of_same s13) (.vtup t)).1 v a r1.b
  obtain ⟨p, vs, rfl, h1, h2⟩ := id r3
  refine ⟨p, vs, rfl, .of h1, fun z => ?_, fun z l hn => ?_⟩
  · rw [h2.length] at z
    rw [cut_whole z] at q
    exact q _ _ (s1.trans s13) (Rep.frz (t := .vtup t) hf m' r3)
  · obtain ⟨s, r⟩ := rep_newT (E := E) (L := L) m' hf (s1.trans s13) hn (f2_cut (lo := lo) (hi := hi) h2)
    exact q _ _ s r
/-- a list times an int -/
def fRepL {α : Type} (d : List α) (n : Int) : Option (List α) := okIf (decide (-(2 ^ 62) ≤ n ∧ n < 2 ^ 62 ∧ d.length * n.toNat ≤ sizeLine)) (List.replicate n.toNat d).flatten
theorem f2_rep {α β : Type} {P : α → β → Prop} {vs : List α} {ds : List β} (h : F2 P vs ds) : ∀ n, F2 P (List.replicate n vs).flatten (List.replicate n ds).flatten
  | 0 => True.intro
  | n + 1 => by
    rw [List.replicate_succ, List.replicate_succ, List.flatten_cons, List.flatten_cons]
    exact F2.append h (f2_rep h n)
theorem rp_rep {t : Ty} {m2 : Em} {ta tb : TE} {Fa : Gam ts → Option (List (den t))} {Fb : Gam ts → Option Int} (ha : RP K ms ts ta .o (.list t) Fa) (hb : RP K ms ts tb m2 .int Fb) (hf : t.frz = true := by rfl) : RP K ms ts (tOp rRep ta tb) .o (.list t) (e2 fRepL Fa Fb) := fun E L Γ σ H xt Q d o e q => by
  obtain ⟨a, ea, e⟩ := bind_some e
  obtain ⟨b, eb, e⟩ := bind_some e
  dsimp only [fRepL, okIf] at e
  split at e
  · rename_i hz
    cases e
    have hz := of_decide_eq_true hz
    refine ha E L Γ σ H xt _ a o ea fun v H1 s1 r1 => ?_
    refine hb E L Γ σ H1 xt _ b (o.same s1) eb fun w H2 s2 r2 => ?_
    obtain ⟨f, Lr, ⟨p, vs, g, rfl, rfl, h1, h2⟩, _⟩ := r1
    have h1' := s2 _ _ h1
    have h4 : F2 (rS K H2 (fun _ => True) t).1 vs a := h2.to2 fun v d g _ x => (rS_mono (R := fun _ => True) (Cov.of_same s2 fun _ h _ => h) (Stb.of_same s2) t).1 v d (x.elim (fun y => (rO_s (fun _ _ => True.intro) t).1 v d g (fun _ _ => True.intro) y) fun y => (rS_mono (Cov.of_reg fun _ _ _ => True.intro) (Stb.refl _) t).1 v d y.2.2)
    cases (show w = .int b from r2.b)
    refine ⟨p, b, vs, rfl, rfl, h1', by omega, by omega, by rw [h4.length]; exact hz.2.2, fun l hn => ?_⟩
    obtain ⟨s, r⟩ := rep_newL (E := E) (L := L) hf (s1.trans s2) hn (f2_rep h4 b.toNat)
    exact q _ _ s r
  · cases e
end
end VV

/-! VMore5: stores in owned lists; enumerate, zip, reversed, the signs of a text. -/
namespace VV
open PySem L2
open PyProof.Rows hiding St

section
variable {K : PySem.W.Frag} {E : Ent} {ms : List Md} {ts : List Ty} {L L1 : Reg} {Γ Γ1 : Gam ts} {σ σ1 : St} {H H' H0 H1 H2 : Hp} {xt : List Addr} {rm : Rm} {ρ : Ty}
/-- the items of an owned thing -/
abbrev Kid (K : PySem.W.Frag) (H : Hp) (L : Reg) (t : Ty) : V → den t → List Addr → Prop := kid t.isOwn (rS K H L t).1 (rO K H L t).1
theorem set_same {α : Type} {σ : List α} {n : Nat} {x : α} (h : σ[n]? = some x) : σ.set n x = σ := by
  refine List.ext_getElem? fun k => ?_
  by_cases hn : k = n
  · subst hn
    rw [List.getElem?_set_self (List.getElem?_eq_some_iff.mp h).1]
    exact h.symm
  · rw [List.getElem?_set_ne (Ne.symm hn)]
/-- AN OWNED LIST IS CHANGED: its items' cells are of those that were there, or new ones -/
theorem Own.lst {t : Ty} (i : Mem ts (.list t)) {xs : List (den t)} (o : Own K E L ms ts Γ σ H []) (hm : ms[i.ix]? = some .o) (hx : i.get Γ = some xs) :
    ∃ a vs g, σ[i.ix]? = some (some (.ref a)) ∧ H a = some (.lst vs) ∧ F3 (Kid K H L t) vs xs g ∧ (a :: g).Nodup ∧ (∀ b ∈ a :: g, Good E L H b) ∧
    ∀ (H1 : Hp) (fd : List Addr) (Lr : Reg) (vs' : List V) (ds' : List (den t)) (g' : List Addr), Same H H1 → Nw H H1 (· ∈ fd) → Nw H H1 Lr → (∀ b ∈ fd, ¬ Lr b) → F3 (Kid K H1 (fun b => L b ∨ Lr b) t) vs' ds' g' → g'.Nodup → (∀ b ∈ g', b ∈ g ∨ b ∈ fd) →
      Own K E (fun b => L b ∨ Lr b) ms ts (i.set (some ds') Γ) σ (upd H1 a (.lst vs')) [] ∧ Ev ms ts L Γ σ H (fun b => L b ∨ Lr b) (i.set (some ds') Γ) σ (upd H1 a (.lst vs')) := by
  obtain ⟨s0, f0, q1, q2, q3, q4, q5⟩ := o.focus i hm
  rw [hx] at q2
  obtain ⟨v, rfl, a, vs, g, rfl, rfl, hl, hk⟩ := q2
  have hnd := List.nodup_cons.mp q3
  have ga := (q4 a List.mem_cons_self).1
  have gg : ∀ b ∈ g, Good E L H b := fun b hb => (q4 b (List.mem_cons_of_mem _ hb)).1
  refine ⟨a, vs, g, q1, hl, hk, q3, fun b hb => (q4 b hb).1, fun H1 fd Lr vs' ds' g' s1 h3 h4 h5 k0 n0 m0 => ?_⟩
  have hl1 := s1 _ _ hl
  have na : ∀ b ∈ fd, b ≠ a := fun b hb z => by
    subst z
    have := (h3 b hb).1
    rw [hl] at this
    cases this
  have st : Stb H (upd H1 a (.lst vs')) := (Stb.of_same s1).trans (Stb.upd hl1 rfl)
  have oth : ∀ b, (H b).isSome = true → b ≠ a → upd H1 a (.lst vs') b = H b := fun b hb hne => by rw [upd_ne hne]; exact same_at s1 hb
  have cov1 : Cov H1 (upd H1 a (.lst vs')) (fun b => L b ∨ Lr b) (fun b => L b ∨ Lr b) := fun b q hb x => by
    refine ⟨hb, ?_⟩
    have hne : b ≠ a := fun z => by
      subst z
      rcases hb with hb | hb
      · exact ga.nl hb
      · have := (h4 b hb).1
        rw [hl] at this
        cases this
    rw [upd_ne hne]
    exact x
  have ga' : ∀ b ∈ g', b ≠ a := fun b hb z => by
    rcases m0 b hb with q | q
    · exact hnd.1 (z ▸ q)
    · exact na b q z
  have k1 : F3 (Kid K (upd H1 a (.lst vs')) (fun b => L b ∨ Lr b) t) vs' ds' g' :=
    k0.imp fun v d g2 hg x => kid_mono ((rS_mono cov1 (Stb.upd hl1 rfl) t).1 v d) ((rO_mono cov1 (Stb.upd hl1 rfl) t).1 v d g2 fun b hb => upd_ne (ga' b (hg b hb))) x
  have up : ∀ b, (H1 b).isSome = true → (upd H1 a (.lst vs') b).isSome = true := fun b hb => by
    by_cases z : b = a
    · rw [z, upd_same]; rfl
    · rw [upd_ne z]; exact hb
  have upH : ∀ b, (H b).isSome = true → (upd H1 a (.lst vs') b).isSome = true := fun b hb => up b (by rw [same_at s1 hb]; exact hb)
  have o' := q5 (upd H1 a (.lst vs')) (fun b => L b ∨ Lr b) (some ds') (some (.ref a)) (a :: g') [] (fun b hb hnf _ => oth b hb fun z => hnf (z ▸ List.mem_cons_self)) st (fun _ h => .inl h)
    (fun b hb => hb.elim .inl fun z => .inr (.inr (.inr (h4 b z).1))) upH
    (fun b hb => hb.elim (fun z => ⟨(o.lr b z).1, upH b (o.lr b z).2⟩) fun z => ⟨.inl (o.fresh (h4 b z).1).1, up b (h4 b z).2⟩)
    ⟨.ref a, rfl, a, vs', g', rfl, rfl, upd_same, k1⟩
    (by
      rw [List.append_nil]
      exact List.nodup_cons.mpr ⟨fun z => ga' a z rfl, n0⟩)
    (fun b hb => by
      have hb : b ∈ a :: g' := by simpa using hb
      rcases List.mem_cons.mp hb with rfl | hb
      · refine ⟨.inl List.mem_cons_self, fun z => z.elim ga.nl fun z => ?_, by rw [upd_same]; rfl⟩
        have := (h4 b z).1
        rw [hl] at this
        cases this
      · rcases m0 b hb with hb | hb
        · refine ⟨.inl (List.mem_cons_of_mem _ hb), fun z => z.elim (gg b hb).nl fun z => ?_, upH b (gg b hb).at_⟩
          have := (gg b hb).at_
          rw [(h4 b z).1] at this
          cases this
        · exact ⟨.inr (.inr (h3 b hb).1), fun z => z.elim (o.fresh (h3 b hb).1).2.1 (h5 b hb), up b (h3 b hb).2⟩)
  rw [set_same q1] at o'
  refine ⟨o', fun _ h => .inl h, fun b q hb x => ?_, st, keepF_set0 i hm rfl _⟩
  rw [oth b (o.lr b hb).2 fun z => ga.nl (z ▸ hb)]
  exact x
/-- the items later -/
theorem kids_same {t : Ty} {vs : List V} {ds : List (den t)} {g : List Addr} {Lr : Reg} (s : Same H H1) (hg : ∀ b ∈ g, (H b).isSome = true) (h : F3 (Kid K H L t) vs ds g) : F3 (Kid K H1 (fun b => L b ∨ Lr b) t) vs ds g :=
  h.imp fun v d g2 hg2 x => kid_mono ((rS_mono (Cov.of_same s fun _ h _ => .inl h) (Stb.of_same s) t).1 v d) ((rO_mono (Cov.of_same s fun _ h _ => .inl h) (Stb.of_same s) t).1 v d g2 fun b hb => same_at s (hg b (hg2 b hb))) x
/-- without cells: no footprint, and any region -/
theorem kid_frz {t : Ty} (hf : t.frz = true) {R : Reg} {v : V} {d : den t} (r : (rS K H R t).1 v d) : Kid K H L t v d [] := .inl ((rS_o t hf).1 v d r)
theorem kids_frz {t : Ty} (hf : t.frz = true) {R : Reg} {vs : List V} {ds : List (den t)} (h : F2 (rS K H R t).1 vs ds) : F3 (Kid K H L t) vs ds [] := F3.of2 (fun v d x => kid_frz hf x) h
theorem kids_s {t : Ty} {vs : List V} {ds : List (den t)} {g : List Addr} (h : F3 (Kid K H L t) vs ds g) : F2 (rS K H (fun _ => True) t).1 vs ds := h.to2 fun v d g _ x => x.elim (fun y => (rO_s (fun _ _ => True.intro) t).1 v d g (fun _ _ => True.intro) y) fun y => (rS_mono (Cov.of_reg fun _ _ _ => True.intro) (Stb.refl _) t).1 v d y.2.2
theorem F2.set {α β : Type} {P : α → β → Prop} {v : α} {d : β} (q : P v d) : ∀ {vs : List α} {ds : List β} (j : Nat), F2 P vs ds → F2 P (vs.set j v) (ds.set j d)
  | [], [], _, h => h
  | _ :: _, _ :: _, 0, h => ⟨q, h.2⟩
  | _ :: _, _ :: _, j + 1, h => ⟨h.1, F2.set q j h.2⟩
  | [], _ :: _, _, h => h.elim
  | _ :: _, [], _, h => h.elim
/-- xs[k] = e, things without cells -/
def sLput {ρ : Type} {ts : List Ty} {t : Ty} (i : Mem ts (.list t)) (F : Gam ts → Option (den t)) (G : Gam ts → Option Int) : Gam ts → Option (Fl (Gam ts) ρ) := fun Γ => (i.get Γ).bind fun xs => (F Γ).bind fun d => (G Γ).bind fun k => (ixN xs.length k).bind fun j => some (.nx (i.set (some (xs.set j d)) Γ))
theorem rs_lput {t : Ty} (i : Mem ts (.list t)) {n : Nat} {m m' : Em} {te ti : TE} {F : Gam ts → Option (den t)} {G : Gam ts → Option Int} (h : RP K ms ts te m t F) (h' : RP K ms ts ti m' .int G) (hf : t.frz = true := by rfl) (hm : ms[i.ix]? = some .o := by rfl) (hn : i.ix = n := by rfl) :
    RS K ms ts (tAsg te (gSub (tVar n) ti rSetL)) rm ρ (sLput i F G) := fun E L Γ σ H D f o e p => by
  subst hn
  obtain ⟨xs, e1, e⟩ := bind_some e
  obtain ⟨d, e2, e⟩ := bind_some e
  obtain ⟨k, e3, e⟩ := bind_some e
  obtain ⟨j, e4, e⟩ := bind_some e
  cases e
  obtain ⟨a, vs, g, q1, hl, hk, hnd, gd, go⟩ := o.lst i hm e1
  refine h E L Γ σ H [] _ d o e2 fun v H1 s1 r1 => ⟨_, q1, h' E L Γ σ H1 [] _ k (o.same s1) e3 fun w H2 s2 r2 => ?_⟩
  cases (show w = .int k from r2.b)
  have s12 := s1.trans s2
  have hv := kids_s hk
  refine ⟨a, vs, k, j, rfl, rfl, s12 _ _ hl, by rw [hv.length]; exact e4, ?_⟩
  have r3 := (rS_mono (Cov.of_same s2 fun _ h _ => h) (Stb.of_same s2) t).1 v d r1.b
  have hv2 : F2 (rS K H2 (fun _ => True) t).1 vs xs := hv.imp (rS_mono (Cov.of_same s12 fun _ h _ => h) (Stb.of_same s12) t).1
  obtain ⟨o', ev⟩ := go H2 [] (fun _ => False) (vs.set j v) (xs.set j d) [] s12 (fun a h => by simp at h) (fun a h => h.elim) (fun a h => by simp at h) (kids_frz hf (F2.set r3 j hv2)) List.nodup_nil (fun a h => by simp at h)
  exact p _ σ _ o' ev
/-- xs.clear(), xs.reverse() -/
def sLst {ρ : Type} {ts : List Ty} {t : Ty} (i : Mem ts (.list t)) (g : List (den t) → List (den t)) : Gam ts → Option (Fl (Gam ts) ρ) := fun Γ => (i.get Γ).bind fun xs => some (.nx (i.set (some (g xs)) Γ))
theorem rs_clear {t : Ty} (i : Mem ts (.list t)) {n : Nat} (hm : ms[i.ix]? = some .o := by rfl) (hn : i.ix = n := by rfl) : RS K ms ts (tDrop (tBM0 K "list" rClear (tVar n))) rm ρ (sLst i fun _ => []) := fun E L Γ σ H D f o e p => by
  subst hn
  obtain ⟨xs, e1, e⟩ := bind_some e
  cases e
  obtain ⟨a, vs, g, q1, hl, hk, hnd, gd, go⟩ := o.lst i hm e1
  refine ⟨_, q1, .inl ⟨rfl, vs, .of hl⟩, a, vs, rfl, rfl, hl, ?_⟩
  obtain ⟨o', ev⟩ := go H [] (fun _ => False) [] [] [] (Same.refl H) (fun a h => by simp at h) (fun a h => h.elim) (fun a h => by simp at h) rfl List.nodup_nil (fun a h => by simp at h)
  exact p _ σ _ o' ev
theorem rs_reverse {t : Ty} (i : Mem ts (.list t)) {n : Nat} (hf : t.frz = true := by rfl) (hm : ms[i.ix]? = some .o := by rfl) (hn : i.ix = n := by rfl) : RS K ms ts (tDrop (tBM0 K "list" rReverse (tVar n))) rm ρ (sLst i List.reverse) := fun E L Γ σ H D f o e p => by
  subst hn
  obtain ⟨xs, e1, e⟩ := bind_some e
  cases e
  obtain ⟨a, vs, g, q1, hl, hk, hnd, gd, go⟩ := o.lst i hm e1
  refine ⟨_, q1, .inl ⟨rfl, vs, .of hl⟩, a, vs, rfl, rfl, hl, ?_⟩
  obtain ⟨o', ev⟩ := go H [] (fun _ => False) vs.reverse xs.reverse [] (Same.refl H) (fun a h => by simp at h) (fun a h => h.elim) (fun a h => by simp at h) (kids_frz hf (F2.reverse (kids_s hk))) List.nodup_nil (fun a h => by simp at h)
  exact p _ σ _ o' ev
/-- xs.extend(e): things without cells -/
def sExt {ρ : Type} {ts : List Ty} {t : Ty} (i : Mem ts (.list t)) (F : Gam ts → Option (List (den t))) : Gam ts → Option (Fl (Gam ts) ρ) := fun Γ => (i.get Γ).bind fun xs => (F Γ).bind fun d => if lenOk (xs.length + d.length) = true then some (.nx (i.set (some (xs ++ d)) Γ)) else none
theorem rs_extend {t : Ty} (i : Mem ts (.list t)) {n : Nat} {te : TE} {F : Gam ts → Option (List (den t))} (h : RP K ms ts te .o (.list t) F) (hf : t.frz = true := by rfl) (hm : ms[i.ix]? = some .o := by rfl) (hn : i.ix = n := by rfl) : RS K ms ts (tDrop (tBM K "list" rExtend (tVar n) (tCons te tNil))) rm ρ (sExt i F) := fun E L Γ σ H D f o e p => by
  subst hn
  obtain ⟨xs, e1, e⟩ := bind_some e
  obtain ⟨d, e2, e⟩ := bind_some e
  split at e
  · rename_i hz
    cases e
    obtain ⟨a, vs, g, q1, hl, hk, hnd, gd, go⟩ := o.lst i hm e1
    refine ⟨_, q1, .inl ⟨rfl, vs, .of hl⟩, h E L Γ σ H [] _ d o e2 fun v H1 s1 r1 => ?_⟩
    obtain ⟨fd, Lr, ⟨b, ws, gb, rfl, rfl, h1, h2⟩, _⟩ := r1
    have hv : F2 (rS K H1 (fun _ => True) t).1 vs xs := (kids_s hk).imp (rS_mono (Cov.of_same s1 fun _ h _ => h) (Stb.of_same s1) t).1
    have hw : F2 (rS K H1 (fun _ => True) t).1 ws d := kids_s h2
    refine ⟨a, b, vs, ws, rfl, rfl, s1 _ _ hl, h1, by rw [hv.length, hw.length]; exact of_decide_eq_true hz, ?_⟩
    obtain ⟨o', ev⟩ := go H1 [] (fun _ => False) (vs ++ ws) (xs ++ d) [] s1 (fun a h => by simp at h) (fun a h => h.elim) (fun a h => by simp at h) (kids_frz hf (F2.append hv hw)) List.nodup_nil (fun a h => by simp at h)
    exact p _ σ _ o' ev
  · cases e
/-- a thing without cells stays, whatever is stored -/
theorem rS_stb {t : Ty} (hf : t.frz = true) {R R' : Reg} {v : V} {d : den t} (s : Stb H H') (r : (rS K H R t).1 v d) : (rS K H' R' t).1 v d :=
  (rS_mono (R := fun _ => False) (fun a o h _ => h.elim) s t).1 v d ((rS_frz t hf).1 v d r)
/-- xs.pop(), xs.pop(0): a thing without cells; and its target -/
theorem f2_last {α β : Type} {P : α → β → Prop} {vs : List α} {ds : List β} {d : β} (h : F2 P vs ds) (e : ds.getLast? = some d) : ∃ v, vs[vs.length - 1]? = some v ∧ P v d := by
  rw [List.getLast?_eq_getElem?, ← h.length] at e
  exact h.get e
theorem f2_dropLast {α β : Type} {P : α → β → Prop} {vs : List α} {ds : List β} (h : F2 P vs ds) : F2 P vs.dropLast ds.dropLast := by
  rw [List.dropLast_eq_take, List.dropLast_eq_take, h.length]
  exact h.take _
def ePop {ts : List Ty} {t : Ty} (i : Mem ts (.list t)) : Gam ts → Option (den t × Gam ts) := fun Γ => (i.get Γ).bind fun xs => xs.getLast?.bind fun d => some (d, i.set (some xs.dropLast) Γ)
theorem re_pop {t : Ty} (i : Mem ts (.list t)) {n : Nat} {m : Em} (hf : t.frz = true := by rfl) (hm : ms[i.ix]? = some .o := by rfl) (hn : i.ix = n := by rfl) : RE K ms ts (tBM0 K "list" rPop (tVar n)) .l t (ePop i) := fun E L Γ σ H Q d Γ' o e q => by
  subst hn
  obtain ⟨xs, e1, e⟩ := bind_some e
  obtain ⟨d', e2, e⟩ := bind_some e
  cases e
  obtain ⟨a, vs, g, q1, hl, hk, hnd, gd, go⟩ := o.lst i hm e1
  have hv := kids_s hk
  obtain ⟨y, hy, ry⟩ := f2_last hv e2
  refine ⟨_, q1, .inl ⟨rfl, vs, .of hl⟩, a, vs, y, rfl, rfl, hl, hy, ?_⟩
  obtain ⟨o', ev⟩ := go H [] (fun _ => False) vs.dropLast xs.dropLast [] (Same.refl H) (fun a h => by simp at h) (fun a h => h.elim) (fun a h => by simp at h) (kids_frz hf (f2_dropLast hv)) List.nodup_nil (fun a h => by simp at h)
  exact q y _ _ [] o' ev ⟨rfl, rS_stb hf ev.stb ry⟩
/-- a target that takes what such an expression gives -/
def sAsgE {G ρ α : Type} (F : G → Option (α × G)) (B : α → G → G) : G → Option (Fl G ρ) := fun Γ => (F Γ).bind fun d => some (.nx (B d.1 d.2))
theorem Own.noxt (o : Own K E L ms ts Γ σ H []) : Own K E L ms ts Γ σ H [] := o
theorem rs_asgE {t : Ty} {te : TE} {g : TG} {F : Gam ts → Option (den t × Gam ts)} {B : den t → Gam ts → Gam ts} (h : RE K ms ts te .l t F) (hg : RG K ms ts g false t B) : RS K ms ts (tAsg te g) rm ρ (sAsgE F B) := fun E L Γ σ H D f o e p => by
  obtain ⟨⟨d, Γ'⟩, e1, e2⟩ := bind_some e
  cases e2
  refine h E L Γ σ H _ d Γ' o e1 fun v L' H1 xt o1 ev1 r1 => ?_
  obtain ⟨rfl, r1⟩ := r1
  exact hg E L' Γ' σ H1 _ v d o1 r1 fun σ' o' e' => p L' σ' H1 o' (ev1.trans e')
theorem rs_dropE {t : Ty} {te : TE} {F : Gam ts → Option (den t × Gam ts)} (h : RE K ms ts te .l t F) : RS K ms ts (tDrop te) rm ρ (sAsgE F fun _ Γ => Γ) := fun E L Γ σ H D f o e p => by
  obtain ⟨⟨d, Γ'⟩, e1, e2⟩ := bind_some e
  cases e2
  refine h E L Γ σ H _ d Γ' o e1 fun v L' H1 xt o1 ev1 r1 => ?_
  obtain ⟨rfl, r1⟩ := r1
  exact p L' σ H1 o1 ev1

/-! ### enumerate, zip, reversed, the signs of a text -/
def enumD {α : Type} (xs : List α) : List (Int × α) := (List.range xs.length).zipWith (fun (k : Nat) x => ((k : Int), x)) xs
theorem enum_get {α : Type} {xs : List α} {i : Nat} {x : α} (h : xs[i]? = some x) : (enumD xs)[i]? = some ((i : Int), x) := by
  have hi := (List.getElem?_eq_some_iff.mp h).1
  unfold enumD
  rw [List.getElem?_zipWith, List.getElem?_range hi, h]
theorem enum_len {α : Type} (xs : List α) : (enumD xs).length = xs.length := by simp [enumD]
theorem iter_enum {R : Reg} {t : Ty} {a : Addr} {ds : List (den t)} : IterOk K R (.tup (.cons .int (.last t))) (Ite K a) (enumD ds) (fun H => (rS K H R (.list t)).1 (.ref a) ds) where
  keep := fun H H' c s h => (rS_mono c s (.list t)).1 _ _ h
  go := fun i H h hi => by
    obtain ⟨b, vs, e, h1, h2⟩ := h
    cases e
    have hl := h2.length
    rw [enum_len] at hi
    exact ⟨vs, vs[i]'(by omega), h1.seq, List.getElem?_eq_getElem _⟩
  stop := fun H h => by
    obtain ⟨b, vs, e, h1, h2⟩ := h
    cases e
    exact ⟨vs, h1.seq, by rw [enum_len]; exact Nat.le_of_eq h2.length⟩
  yld := fun i H x H' hlt h hy => by
    obtain ⟨b, vs, e, h1, h2⟩ := h
    cases e
    obtain ⟨T, y, rfl, hn, rfl, hx⟩ := hy
    obtain ⟨d, hd, r⟩ := h2.get' (hx vs h1.seq)
    have s : Same H (upd H T (.tup [.int (i : Nat), y])) := same_new hn
    exact ⟨s, _, enum_get hd, T, _, rfl, upd_same, _, _, rfl, rfl, _, rfl, (rS_mono (Cov.of_same s fun _ h _ => h) (Stb.of_same s) t).1 y d r⟩
abbrev fEnum {α : Type} (xs : List α) : Option (List (Int × α)) := some (enumD xs)
theorem ri_enum {w : Bool} {t : Ty} {te : TE} {F : Gam ts → Option (List (den t))} (h : RP K ms ts te (if w then .w else .l) (.list t) F) : RI K ms ts (iEnum K (tCons te tNil)) w (.tup (.cons .int (.last t))) (e1 fEnum F) := fun E L Γ σ H xt R ds o e q => by
  obtain ⟨d, e1, e2⟩ := bind_some e
  cases e2
  refine h E L Γ σ H xt _ d o e1 fun v H1 s1 r1 => ?_
  obtain ⟨Lr, h1, h2⟩ := reg_rep r1
  obtain ⟨a, vs, rfl, h3, h4⟩ := id h1
  exact ⟨a, vs, rfl, h3.seq, q _ H1 Lr _ s1 h2 iter_enum h1⟩
abbrev fZip {α β : Type} (xs : List α) (ys : List β) : Option (List (α × β)) := some (xs.zip ys)
theorem zip_get {α β : Type} {xs : List α} {ys : List β} {i : Nat} {x : α} {y : β} (h : xs[i]? = some x) (h' : ys[i]? = some y) : (xs.zip ys)[i]? = some (x, y) := by
  rw [List.zip, List.getElem?_zipWith, h, h']
theorem iter_zip {R : Reg} {t u : Ty} {a b : Addr} {ds : List (den t)} {es : List (den u)} : IterOk K R (.tup (.cons t (.last u))) (Itz K a b) (ds.zip es) (fun H => (rS K H R (.list t)).1 (.ref a) ds ∧ (rS K H R (.list u)).1 (.ref b) es) where
  keep := fun H H' c s h => ⟨(rS_mono c s (.list t)).1 _ _ h.1, (rS_mono c s (.list u)).1 _ _ h.2⟩
  go := fun i H h hi => by
    obtain ⟨⟨_, vs, e, h1, h2⟩, _, ws, e', h3, h4⟩ := h
    cases e
    cases e'
    have hl := h2.length
    have hl' := h4.length
    rw [List.length_zip] at hi
    exact ⟨vs, ws, vs[i]'(by omega), ws[i]'(by omega), h1.seq, h3.seq, List.getElem?_eq_getElem _, List.getElem?_eq_getElem _⟩
  stop := fun H h => by
    obtain ⟨⟨_, vs, e, h1, h2⟩, _, ws, e', h3, h4⟩ := h
    cases e
    cases e'
    have hl := h2.length
    have hl' := h4.length
    exact ⟨vs, ws, h1.seq, h3.seq, by rw [List.length_zip]; omega⟩
  yld := fun i H x H' hlt h hy => by
    obtain ⟨⟨_, vs, e, h1, h2⟩, _, ws, e', h3, h4⟩ := h
    cases e
    cases e'
    obtain ⟨T, y, z, rfl, hn, rfl, hx, hz⟩ := hy
    obtain ⟨d, hd, r⟩ := h2.get' (hx vs h1.seq)
    obtain ⟨d', hd', r'⟩ := h4.get' (hz ws h3.seq)
    have s : Same H (upd H T (.tup [y, z])) := same_new hn
    exact ⟨s, _, zip_get hd hd', T, _, rfl, upd_same, _, _, rfl, (rS_mono (Cov.of_same s fun _ h _ => h) (Stb.of_same s) t).1 y d r, _, rfl, (rS_mono (Cov.of_same s fun _ h _ => h) (Stb.of_same s) u).1 z d' r'⟩
theorem reg_on {w : Bool} {t : Ty} {v : V} {d : den t} {Lr Ls : Reg} (s : Same H H1) (r : (rS K H (reg w E fun a => L a ∨ Lr a) t).1 v d) : (rS K H1 (reg w E fun a => L a ∨ (Lr a ∨ Ls a)) t).1 v d := by
  cases w with
  | false => exact (rS_mono (Cov.of_same s fun a h _ => h.elim .inl fun z => .inr (.inl z)) (Stb.of_same s) t).1 v d r
  | true => exact (rS_mono (Cov.of_same s fun a h _ => h.elim .inl fun h => .inr (h.elim .inl fun z => .inr (.inl z))) (Stb.of_same s) t).1 v d r
theorem reg_on' {w : Bool} {t : Ty} {v : V} {d : den t} {Lr Ls : Reg} (r : (rS K H (reg w E fun a => L a ∨ Ls a) t).1 v d) : (rS K H (reg w E fun a => L a ∨ (Lr a ∨ Ls a)) t).1 v d := by
  cases w with
  | false => exact (rS_mono (Cov.of_reg fun a h _ => h.elim .inl fun z => .inr (.inr z)) (Stb.refl _) t).1 v d r
  | true => exact (rS_mono (Cov.of_reg fun a h _ => h.elim .inl fun h => .inr (h.elim .inl fun z => .inr (.inr z))) (Stb.refl _) t).1 v d r
theorem ri_zip {w : Bool} {t u : Ty} {ta tb : TE} {F : Gam ts → Option (List (den t))} {G : Gam ts → Option (List (den u))} (h : RP K ms ts ta (if w then .w else .l) (.list t) F) (h' : RP K ms ts tb (if w then .w else .l) (.list u) G) : RI K ms ts (iZip K (tCons ta (tCons tb tNil))) w (.tup (.cons t (.last u))) (e2 fZip F G) := fun E L Γ σ H xt R ds o e q => by
  obtain ⟨d, ed, e⟩ := bind_some e
  obtain ⟨d', ed', e⟩ := bind_some e
  cases e
  refine h E L Γ σ H xt _ d o ed fun v H1 s1 r1 => ?_
  refine h' E L Γ σ H1 xt _ d' (o.same s1) ed' fun v' H2 s2 r2 => ?_
  obtain ⟨Lr, h1, h2⟩ := reg_rep r1
  obtain ⟨Ls, k1, k2⟩ := reg_rep r2
  have a1 := reg_on (Ls := Ls) s2 h1
  have a2 := reg_on' (Lr := Lr) k1
  obtain ⟨a, vs, rfl, h3, h4⟩ := id a1
  obtain ⟨b, ws, rfl, h5, h6⟩ := id a2
  exact ⟨a, b, vs, ws, rfl, h3.seq, h5.seq, q _ H2 (fun a => Lr a ∨ Ls a) _ (s1.trans s2) (fun a h => h.elim (nw_on s2 h2 a) (nw_old s1 k2 a)) iter_zip ⟨a1, a2⟩⟩
/-- zip of two tuples -/
theorem iter_zipV {R : Reg} {t u : Ty} {a b : Addr} {ds : List (den t)} {es : List (den u)} : IterOk K R (.tup (.cons t (.last u))) (RZ.ItzT K a b) (ds.zip es) (fun H => (rS K H R (.vtup t)).1 (.ref a) ds ∧ (rS K H R (.vtup u)).1 (.ref b) es) where
  keep := fun H H' c s h => ⟨(rS_mono c s (.vtup t)).1 _ _ h.1, (rS_mono c s (.vtup u)).1 _ _ h.2⟩
  go := fun i H h hi => by
    obtain ⟨⟨_, vs, e, h1, h2⟩, _, ws, e', h3, h4⟩ := h
    cases e
    cases e'
    have hl := h2.length
    have hl' := h4.length
    rw [List.length_zip] at hi
    exact ⟨vs, ws, vs[i]'(by omega), ws[i]'(by omega), .of h1, .of h3, List.getElem?_eq_getElem _, List.getElem?_eq_getElem _⟩
  stop := fun H h => by
    obtain ⟨⟨_, vs, e, h1, h2⟩, _, ws, e', h3, h4⟩ := h
    cases e
    cases e'
    have hl := h2.length
    have hl' := h4.length
    exact ⟨vs, ws, .of h1, .of h3, by rw [List.length_zip]; omega⟩
  yld := fun i H x H' hlt h hy => by
    obtain ⟨⟨_, vs, e, h1, h2⟩, _, ws, e', h3, h4⟩ := h
    cases e
    cases e'
    obtain ⟨T, y, z, rfl, hn, rfl, hx, hz⟩ := hy
    obtain ⟨d, hd, r⟩ := h2.get' (hx vs (.of h1))
    obtain ⟨d', hd', r'⟩ := h4.get' (hz ws (.of h3))
    have s : Same H (upd H T (.tup [y, z])) := same_new hn
    exact ⟨s, _, zip_get hd hd', T, _, rfl, upd_same, _, _, rfl, (rS_mono (Cov.of_same s fun _ h _ => h) (Stb.of_same s) t).1 y d r, _, rfl, (rS_mono (Cov.of_same s fun _ h _ => h) (Stb.of_same s) u).1 z d' r'⟩
theorem ri_zipL {w : Bool} {t u : Ty} {ta tb : TE} {F : Gam ts → Option (List (den t))} {G : Gam ts → Option (List (den u))} (h : RP K ms ts ta (if w then .w else .l) (.list t) F) (h' : RP K ms ts tb (if w then .w else .l) (.list u) G) : RI K ms ts (RZ.iZipA K (tCons ta (tCons tb tNil))) w (.tup (.cons t (.last u))) (e2 fZip F G) := fun E L Γ σ H xt R ds o e q => by
  obtain ⟨d, ed, e⟩ := bind_some e
  obtain ⟨d', ed', e⟩ := bind_some e
  cases e
  refine h E L Γ σ H xt _ d o ed fun v H1 s1 r1 => ?_
  refine h' E L Γ σ H1 xt _ d' (o.same s1) ed' fun v' H2 s2 r2 => ?_
  obtain ⟨Lr, h1, h2⟩ := reg_rep r1
  obtain ⟨Ls, k1, k2⟩ := reg_rep r2
  have a1 := reg_on (Ls := Ls) s2 h1
  have a2 := reg_on' (Lr := Lr) k1
  obtain ⟨a, vs, rfl, h3, h4⟩ := id a1
  obtain ⟨b, ws, rfl, h5, h6⟩ := id a2
  exact ⟨a, b, vs, ws, rfl, .inl ⟨h3.seq, h5.seq, q _ H2 (fun a => Lr a ∨ Ls a) _ (s1.trans s2) (fun a h => h.elim (nw_on s2 h2 a) (nw_old s1 k2 a)) iter_zip ⟨a1, a2⟩⟩⟩
theorem ri_zipV {w : Bool} {t u : Ty} {ta tb : TE} {F : Gam ts → Option (List (den t))} {G : Gam ts → Option (List (den u))} (h : RP K ms ts ta (if w then .w else .l) (.vtup t) F) (h' : RP K ms ts tb (if w then .w else .l) (.vtup u) G) : RI K ms ts (RZ.iZipA K (tCons ta (tCons tb tNil))) w (.tup (.cons t (.last u))) (e2 fZip F G) := fun E L Γ σ H xt R ds o e q => by
  obtain ⟨d, ed, e⟩ := bind_some e
  obtain ⟨d', ed', e⟩ := bind_some e
  cases e
  refine h E L Γ σ H xt _ d o ed fun v H1 s1 r1 => ?_
  refine h' E L Γ σ H1 xt _ d' (o.same s1) ed' fun v' H2 s2 r2 => ?_
  obtain ⟨Lr, h1, h2⟩ := reg_rep r1
  obtain ⟨Ls, k1, k2⟩ := reg_rep r2
  have a1 := reg_on (Ls := Ls) s2 h1
  have a2 := reg_on' (Lr := Lr) k1
  obtain ⟨a, vs, rfl, h3, h4⟩ := id a1
  obtain ⟨b, ws, rfl, h5, h6⟩ := id a2
  exact ⟨a, b, vs, ws, rfl, .inr ⟨.of h3, .of h5, q _ H2 (fun a => Lr a ∨ Ls a) _ (s1.trans s2) (fun a h => h.elim (nw_on s2 h2 a) (nw_old s1 k2 a)) iter_zipV ⟨a1, a2⟩⟩⟩
/-- reversed of a list, of a tuple -/
theorem iter_rev {R : Reg} {t : Ty} {a : Addr} {ds : List (den t)} : IterOk K R t (Itv K a ds.length) ds.reverse (fun H => (rS K H R (.list t)).1 (.ref a) ds) where
  keep := fun H H' c s h => (rS_mono c s (.list t)).1 _ _ h
  go := fun i H h hi => by
    obtain ⟨b, vs, e, h1, h2⟩ := h
    cases e
    have hl := h2.length
    rw [List.length_reverse] at hi
    exact ⟨hi, vs, vs[ds.length - 1 - i]'(by omega), h1.seq, List.getElem?_eq_getElem _⟩
  stop := fun H h => by
    show ds.length ≤ _
    rw [List.length_reverse]
    exact Nat.le_refl _
  yld := fun i H x H' hlt h hy => by
    obtain ⟨b, vs, e, h1, h2⟩ := h
    cases e
    obtain ⟨rfl, hx⟩ := hy
    obtain ⟨d, hd, r⟩ := h2.get' (hx vs h1.seq)
    rw [List.length_reverse] at hlt
    exact ⟨Same.refl _, d, by rw [List.getElem?_reverse hlt]; exact hd, r⟩
theorem iter_revV {R : Reg} {t : Ty} {a : Addr} {ds : List (den t)} : IterOk K R t (RT.ItvT K a ds.length) ds.reverse (fun H => (rS K H R (.vtup t)).1 (.ref a) ds) where
  keep := fun H H' c s h => (rS_mono c s (.vtup t)).1 _ _ h
  go := fun i H h hi => by
    obtain ⟨b, vs, e, h1, h2⟩ := h
    cases e
    have hl := h2.length
    rw [List.length_reverse] at hi
    exact ⟨hi, vs, vs[ds.length - 1 - i]'(by omega), .of h1, List.getElem?_eq_getElem _⟩
  stop := fun H h => by
    show ds.length ≤ _
    rw [List.length_reverse]
    exact Nat.le_refl _
  yld := fun i H x H' hlt h hy => by
    obtain ⟨b, vs, e, h1, h2⟩ := h
    cases e
    obtain ⟨rfl, hx⟩ := hy
    obtain ⟨d, hd, r⟩ := h2.get' (hx vs (.of h1))
    rw [List.length_reverse] at hlt
    exact ⟨Same.refl _, d, by rw [List.getElem?_reverse hlt]; exact hd, r⟩
abbrev fRev {α : Type} (xs : List α) : Option (List α) := some xs.reverse
theorem ri_rev {w : Bool} {t : Ty} {te : TE} {F : Gam ts → Option (List (den t))} (h : RP K ms ts te (if w then .w else .l) (.list t) F) : RI K ms ts (RT.iRevA K te) w t (e1 fRev F) := fun E L Γ σ H xt R ds o e q => by
  obtain ⟨d, e1, e2⟩ := bind_some e
  cases e2
  refine h E L Γ σ H xt _ d o e1 fun v H1 s1 r1 => ?_
  obtain ⟨Lr, h1, h2⟩ := reg_rep r1
  obtain ⟨a, vs, rfl, h3, h4⟩ := id h1
  exact ⟨a, vs, rfl, .inl ⟨h3.seq, by rw [h4.length]; exact q _ H1 Lr _ s1 h2 iter_rev h1⟩⟩
theorem ri_revV {w : Bool} {t : Ty} {te : TE} {F : Gam ts → Option (List (den t))} (h : RP K ms ts te (if w then .w else .l) (.vtup t) F) : RI K ms ts (RT.iRevA K te) w t (e1 fRev F) := fun E L Γ σ H xt R ds o e q => by
  obtain ⟨d, e1, e2⟩ := bind_some e
  cases e2
  refine h E L Γ σ H xt _ d o e1 fun v H1 s1 r1 => ?_
  obtain ⟨Lr, h1, h2⟩ := reg_rep r1
  obtain ⟨a, vs, rfl, h3, h4⟩ := id h1
  exact ⟨a, vs, rfl, .inr ⟨.of h3, by rw [h4.length]; exact q _ H1 Lr _ s1 h2 iter_revV h1⟩⟩
/-- the signs of a text -/
def fSigns (x : Str) : Option (List Str) := some (x.cps.toList.map fun c => (⟨#[c]⟩ : Str))
theorem ri_str {w : Bool} {m : Em} {te : TE} {F : Gam ts → Option Str} (h : RP K ms ts te m .str F) : RI K ms ts (iStr te) w .str (e1 fSigns F) := fun E L Γ σ H xt R ds o e q => by
  obtain ⟨x, e1, e2⟩ := bind_some e
  cases e2
  refine h E L Γ σ H xt _ x o e1 fun v H1 s1 r1 => ?_
  obtain ⟨rfl, hok⟩ := r1.b
  refine ⟨x, rfl, q _ H1 (fun _ => False) (fun _ => True) s1 (fun a h => h.elim) ⟨fun _ _ _ _ h => h, fun i H _ hi => ?_, fun H _ => ?_, fun i H v H' hlt _ hy => ?_⟩ True.intro⟩
  · show i < x.cps.size
    simpa using hi
  · show x.cps.size ≤ _
    simp
  · obtain ⟨rfl, c, hc, rfl⟩ := hy
    refine ⟨Same.refl _, ⟨#[c]⟩, ?_, rfl, ?_⟩
    · rw [List.getElem?_map, Array.getElem?_toList, hc]
      rfl
    · unfold PyData.strOk at hok ⊢
      rw [Array.all_eq_true'] at hok
      simpa using hok c (Array.mem_of_getElem? hc)
end
end VV

/-! VMore6: walks over owned lists that stay meanwhile. -/
namespace VV
open PySem L2
open PyProof.Rows hiding St

section
variable {K : PySem.W.Frag} {E : Ent} {ms ms' : List Md} {ts : List Ty} {L L1 : Reg} {Γ Γ1 : Gam ts} {σ σ1 : St} {H H' H0 H1 H2 : Hp} {xt : List Addr} {rm : Rm} {ρ : Ty}
/-! ### owned names that are kept for the while -/
def okKeep : List Md → List Md → Bool
  | [], [] => true
  | m :: ms, m' :: ms' => (m == m' || (m == .o && m' == .k)) && okKeep ms ms'
  | _, _ => false
theorem rG_keep {S0 : Reg} : ∀ {ms ms' : List Md} {ts : List Ty} {Γ : Gam ts} {σ : St} {fp : List Addr}, okKeep ms ms' = true → (rG K H S0 L ms ts Γ σ fp ↔ rG K H S0 L ms' ts Γ σ fp)
  | [], [], [], _, _, _, _ => Iff.rfl
  | [], [], _ :: _, _, _, _, _ => Iff.rfl
  | m :: ms, m' :: ms', [], _, _, _, _ => Iff.rfl
  | m :: ms, m' :: ms', t :: ts, Γ, [], _, _ => Iff.rfl
  | m :: ms, m' :: ms', t :: ts, Γ, s :: σ, fp, hk => by
    simp only [okKeep, Bool.and_eq_true, Bool.or_eq_true, beq_iff_eq] at hk
    have ih : ∀ fp, rG K H S0 L ms ts Γ.2 σ fp ↔ rG K H S0 L ms' ts Γ.2 σ fp := fun fp => rG_keep hk.2
    have hs : ∀ f, slot K H S0 L m t Γ.1 s f ↔ slot K H S0 L m' t Γ.1 s f := fun f => by
      rcases hk.1 with h | ⟨h, h'⟩
      · rw [h]
      · subst h
        subst h'
        exact Iff.rfl
    constructor
    · rintro ⟨f1, f2, e, h1, h2⟩
      exact ⟨f1, f2, e, (hs f1).mp h1, (ih f2).mp h2⟩
    · rintro ⟨f1, f2, e, h1, h2⟩
      exact ⟨f1, f2, e, (hs f1).mpr h1, (ih f2).mpr h2⟩
  | [], _ :: _, _, _, _, _, hk => by simp [okKeep] at hk
  | _ :: _, [], _, _, _, _, hk => by simp [okKeep] at hk
theorem own_keep (hk : okKeep ms ms' = true) : Own K E L ms ts Γ σ H xt ↔ Own K E L ms' ts Γ σ H xt := by
  constructor
  · intro o
    obtain ⟨fp, g, r⟩ := o.ex
    exact ⟨⟨fp, (rG_keep hk).mp g, r⟩, o.fr, o.lr, o.s0, o.iod⟩
  · intro o
    obtain ⟨fp, g, r⟩ := o.ex
    exact ⟨⟨fp, (rG_keep hk).mpr g, r⟩, o.fr, o.lr, o.s0, o.iod⟩
theorem keep_get : ∀ {ms ms' : List Md} {n : Nat} {m : Md}, okKeep ms ms' = true → ms[n]? = some m → m.hard = true → ms'[n]? = some m
  | m :: ms, m' :: ms', 0, x, hk, h, hh => by
    simp only [okKeep, Bool.and_eq_true, Bool.or_eq_true, beq_iff_eq] at hk
    have e : m = x := by simpa using h
    subst e
    rcases hk.1 with h | ⟨h, h'⟩
    · rw [h]; rfl
    · subst h
      cases hh
  | m :: ms, m' :: ms', n + 1, x, hk, h, hh => by
    simp only [okKeep, Bool.and_eq_true] at hk
    simpa using keep_get (n := n) hk.2 (by simpa using h) hh
  | [], _, _, _, _, h, _ => by simp at h
  | _ :: _, [], _, _, hk, _, _ => by simp [okKeep] at hk
theorem Ev.keeps {L' : Reg} {Γ' : Gam ts} {σ' : St} (hk : okKeep ms ms' = true) (e : Ev ms' ts L Γ σ H L' Γ' σ' H') : Ev ms ts L Γ σ H L' Γ' σ' H' := ⟨e.sub, e.cell, e.stb, fun t i m h hh => e.keep t i m (keep_get hk h hh) hh⟩
theorem rs_keep {st : TS} {F : Gam ts → Option (Fl (Gam ts) (den ρ))} (ms' : List Md) (h : RS K ms' ts st rm ρ F) (hk : okKeep ms ms' = true := by rfl) : RS K ms ts st rm ρ F := fun E L Γ σ H D f o e p => by
  refine h E L Γ σ H D f ((own_keep hk).mp o) e ?_
  cases f with
  | nx Γ' => exact fun L' σ' H' o' e' => p L' σ' H' ((own_keep hk).mpr o') (e'.keeps hk)
  | bk Γ' => exact fun L' σ' H' o' e' => p L' σ' H' ((own_keep hk).mpr o') (e'.keeps hk)
  | ct Γ' => exact fun L' σ' H' o' e' => p L' σ' H' ((own_keep hk).mpr o') (e'.keeps hk)
  | rt d Γ' => exact fun L' σ' H' v xt o' e' => p L' σ' H' v xt ((own_keep hk).mpr o') (e'.keeps hk)
/-- what a for walks, by what the names hold at each turn -/
structure IterG (K : PySem.W.Frag) (E : Ent) (ms : List Md) (ts : List Ty) (L : Reg) (Γ : Gam ts) (σ : St) (H1 : Hp) (R : Reg) (t : Ty) (J : It) (ds : List (den t)) (Z : Hp → Prop) : Prop where
  keep : ∀ L2 Γ2 σ2 H2, Own K E L2 ms ts Γ2 σ2 H2 [] → Ev ms ts L Γ σ H1 L2 Γ2 σ2 H2 → Z H1 → Z H2
  go : ∀ i H, Z H → i < ds.length → J.go i H
  stop : ∀ H, Z H → J.stop ds.length H
  yld : ∀ i H x H', i < ds.length → Z H → J.yld i H x H' → Same H H' ∧ ∃ d, ds[i]? = some d ∧ (rS K H' R t).1 x d
def RIG (K : PySem.W.Frag) (ms : List Md) (ts : List Ty) (wi : TI) (w : Bool) (t : Ty) (F : Gam ts → Option (List (den t))) : Prop :=
  ∀ (E : Ent) (L : Reg) (Γ : Gam ts) (σ : St) (H : Hp) (R : It → Hp → Prop) (ds : List (den t)), Own K E L ms ts Γ σ H [] → F Γ = some ds →
    (∀ J H' Lr Z, Same H H' → Nw H H' Lr → IterG K E ms ts (fun a => L a ∨ Lr a) Γ σ H' (reg w E fun a => L a ∨ Lr a) t J ds Z → Z H' → R J H') → wi σ H R
theorem Own.nw {Lr : Reg} (o : Own K E L ms ts Γ σ H []) (s : Same H H1) (n : Nw H H1 Lr) : Own K E (fun a => L a ∨ Lr a) ms ts Γ σ H1 [] := o.temp s List.nodup_nil (fun a ha => by simp at ha) n fun a ha => by simp at ha
/-- an owned list, or what is made of it by the walk: Z holds whenever the name stands for the same list -/
theorem rig_name {w : Bool} {t u : Ty} (i : Mem ts (.list t)) {J : Addr → Nat → It} {f : List (den t) → List (den u)} (hm : ms[i.ix]? = some .k := by rfl)
    (it : ∀ (R : Reg) (a : Addr) (ds : List (den t)), IterOk K R u (J a ds.length) (f ds) (fun H => (rS K H R (.list t)).1 (.ref a) ds)) (hf : u.frz = true)
    {σ : St} {E : Ent} {L : Reg} {Γ : Gam ts} {H : Hp} {R : It → Hp → Prop} {ds : List (den t)} (o : Own K E L ms ts Γ σ H []) (e : i.get Γ = some ds)
    (q : ∀ J H' Lr Z, Same H H' → Nw H H' Lr → IterG K E ms ts (fun a => L a ∨ Lr a) Γ σ H' (reg w E fun a => L a ∨ Lr a) u J (f ds) Z → Z H' → R J H') :
    ∃ a vs, σ[i.ix]? = some (some (.ref a)) ∧ SqL K H a vs ∧ vs.length = ds.length ∧ R (J a ds.length) H := by
  obtain ⟨v, fp, h1, h2, _⟩ := o.look i hm e
  have h3 := repM_b h2
  obtain ⟨a, vs, rfl, h4, h5⟩ := id h3
  have I := it (fun _ => True) a ds
  refine ⟨a, vs, h1, h4.seq, h5.length, q _ H (fun _ => False) (fun H => (rS K H (fun _ => True) (.list t)).1 (.ref a) ds) (Same.refl H) (fun a h => h.elim) ⟨fun L2 Γ2 σ2 H2 o2 ev _ => ?_, I.go, I.stop, fun k H x H' hlt z hy => ?_⟩ h3⟩
  · obtain ⟨k1, k2⟩ := ev.keep _ i .k hm rfl
    obtain ⟨v', f', h6, h7, _⟩ := o2.look i hm (k1.trans e)
    rw [k2, h1] at h6
    cases h6
    exact repM_b h7
  · obtain ⟨s, d, hd, r⟩ := I.yld k H x H' hlt z hy
    exact ⟨s, d, hd, (rS_frz u hf).1 x d r⟩
theorem rig_list {w : Bool} {t : Ty} (i : Mem ts (.list t)) {n : Nat} (hf : t.frz = true := by rfl) (hm : ms[i.ix]? = some .k := by rfl) (hn : i.ix = n := by rfl) : RIG K ms ts (iList K (tVar n)) w t (eV i) := fun E L Γ σ H R ds o e q => by
  subst hn
  obtain ⟨a, vs, h1, h2, h3, h4⟩ := rig_name (J := fun a _ => Itl K a) (f := id) i hm (fun R a ds => iter_list) hf o e q
  exact ⟨_, h1, a, rfl, ⟨vs, h2⟩, h4⟩
theorem rig_enum {w : Bool} {t : Ty} (i : Mem ts (.list t)) {n : Nat} (hf : t.frz = true := by rfl) (hm : ms[i.ix]? = some .k := by rfl) (hn : i.ix = n := by rfl) : RIG K ms ts (iEnum K (tCons (tVar n) tNil)) w (.tup (.cons .int (.last t))) (e1 fEnum (eV i)) := fun E L Γ σ H R ds o e q => by
  subst hn
  obtain ⟨d, e1, e2⟩ := bind_some e
  cases e2
  obtain ⟨a, vs, h1, h2, h3, h4⟩ := rig_name (J := fun a _ => Ite K a) (f := enumD) (u := .tup (.cons .int (.last t))) i hm (fun R a ds => iter_enum) hf o e1 q
  exact ⟨_, h1, a, vs, rfl, h2, h4⟩
theorem rig_rev {w : Bool} {t : Ty} (i : Mem ts (.list t)) {n : Nat} (hf : t.frz = true := by rfl) (hm : ms[i.ix]? = some .k := by rfl) (hn : i.ix = n := by rfl) : RIG K ms ts (RT.iRevA K (tVar n)) w t (e1 fRev (eV i)) := fun E L Γ σ H R ds o e q => by
  subst hn
  obtain ⟨d, e1, e2⟩ := bind_some e
  cases e2
  obtain ⟨a, vs, h1, h2, h3, h4⟩ := rig_name (J := fun a n => Itv K a n) (f := List.reverse) i hm (fun R a ds => iter_rev) hf o e1 q
  exact ⟨_, h1, a, vs, rfl, .inl ⟨h2, by rw [h3]; exact h4⟩⟩
theorem rs_forG {w : Bool} {t : Ty} {wi : TI} {g : TG} {tb : TS} {F : Gam ts → Option (List (den t))} {B : den t → Gam ts → Gam ts} {body : Gam ts → Option (Fl (Gam ts) (den ρ))} (bs : List Bool) (hi : RIG K ms ts wi w t F) (hg : RG K ms ts g w t B) (hb : RS K ms ts tb rm ρ body)
    (hm : okMask ms bs = true := by rfl) : RS K ms ts (tFor wi g tb) rm ρ (sFor F B (Gam.mask bs) body) := fun E L Γ σ H D f o e p => by
  obtain ⟨ds, e1, e2⟩ := bind_some e
  refine hi E L Γ σ H _ ds o e1 fun J H1 Lr Z s1 nw it z1 => ?_
  have o1 : Own K E (fun a => L a ∨ Lr a) ms ts Γ σ H1 [] := o.nw s1 nw
  have ev1 : Ev ms ts L Γ σ H (fun a => L a ∨ Lr a) Γ σ H1 := ⟨fun a h => .inl h, fun a q _ h => s1 _ _ h, Stb.of_same s1, fun _ _ _ _ _ => ⟨rfl, rfl⟩⟩
  have p1 := p.later ev1
  have o1m := o1.mask bs
  refine ⟨fun i m σ' H' => m = ds.length - i ∧ i ≤ ds.length ∧ ∃ L' Γ', Own K E L' ms ts Γ' σ' H' [] ∧ Ev ms ts (fun a => L a ∨ Lr a) Γ σ H1 L' Γ' σ' H' ∧ forL B (Gam.mask bs) body (ds.drop i) Γ' = some f,
    ⟨ds.length, by simp, Nat.zero_le _, _, Gam.mask bs Γ, o1m, (Ev.same (Same.refl H1)).mask hm, by simpa using e2⟩, ?_⟩
  rintro i m σ2 H2 ⟨rfl, hle, L2, Γ2, o2, ev2, e3⟩
  have z2 : Z H2 := it.keep L2 Γ2 σ2 H2 o2 ev2 z1
  by_cases hlt : i < ds.length
  · refine .inr ⟨it.go i H2 z2 hlt, fun σ' H' => ∃ L' Γ', Own K E L' ms ts Γ' σ' H' [] ∧ Ev ms ts (fun a => L a ∨ Lr a) Γ σ H1 L' Γ' σ' H' ∧ forL B (Gam.mask bs) body (ds.drop (i + 1)) Γ' = some f, fun σ' H' h => ⟨ds.length - (i + 1), by omega, rfl, hlt, h⟩, fun x H3 hy => ?_⟩
    obtain ⟨s3, d, hd, rd⟩ := it.yld i H2 x H3 hlt z2 hy
    have ed : ds.drop i = d :: ds.drop (i + 1) := by
      have hd' : ds[i] = d := by
        have := List.getElem?_eq_getElem hlt
        rw [this] at hd
        exact Option.some.inj hd
      rw [List.drop_eq_getElem_cons hlt, hd']
    rw [ed] at e3
    obtain ⟨r, e4, e5⟩ := bind_some (show (body (B d Γ2)).bind _ = some f from e3)
    have o3 := o2.same s3
    have ev3 : Ev ms ts (fun a => L a ∨ Lr a) Γ σ H1 L2 Γ2 σ2 H3 := ev2.trans (Ev.same s3)
    refine hg E L2 Γ2 σ2 H3 _ x d o3 ((rS_mono (Cov.of_reg fun a h _ => (by
      cases w with
      | false => exact ev3.sub a h
      | true => exact h.elim .inl fun z => .inr (ev3.sub a z) : reg w E L2 a)) (Stb.refl H3) t).1 x d rd) fun σ4 o4 ev4 => ?_
    refine hb E L2 (B d Γ2) σ4 H3 _ r o4 e4 ?_
    have evb := ev3.trans ev4
    cases r with
    | nx Γ5 => exact fun L5 σ5 H5 o5 ev5 => ⟨L5, Gam.mask bs Γ5, o5.mask bs, (evb.trans ev5).mask hm, e5⟩
    | ct Γ5 => exact fun L5 σ5 H5 o5 ev5 => ⟨L5, Gam.mask bs Γ5, o5.mask bs, (evb.trans ev5).mask hm, e5⟩
    | bk Γ5 =>
      have e6 : Fl.nx (Gam.mask bs Γ5) = f := Option.some.inj e5
      subst e6
      exact fun L5 σ5 H5 o5 ev5 => p1 L5 σ5 H5 (o5.mask bs) ((evb.trans ev5).mask hm)
    | rt d5 Γ5 =>
      have e6 : Fl.rt d5 Γ5 = f := Option.some.inj e5
      subst e6
      exact fun L5 σ5 H5 v5 xt5 o5 ev5 r5 => p1 L5 σ5 H5 v5 xt5 o5 (evb.trans ev5) r5
  · have hi : i = ds.length := by omega
    subst hi
    rw [List.drop_length] at e3
    have e4 : Fl.nx Γ2 = f := Option.some.inj e3
    subst e4
    exact .inl ⟨it.stop H2 z2, p1 L2 σ2 H2 o2 ev2⟩
end
end VV

/-! VMore7: what is never reached; shifts; chains; slices of texts; dicts. -/
namespace VV
open PySem L2
open PyProof.Rows hiding St

section
variable {K : PySem.W.Frag} {E : Ent} {ms ms' : List Md} {ts : List Ty} {L L1 : Reg} {Γ Γ1 : Gam ts} {σ σ1 : St} {H H' H0 H1 H2 : Hp} {xt : List Addr} {rm : Rm} {ρ : Ty}
/-! ### never reached: the mirror has no answer there -/
def tNever : TS := fun _ _ _ => False
theorem ps_never {X : Cx} {st : Stmt} : PS X st tNever := ⟨fun _ _ _ _ _ _ h => h.elim⟩
def sNever {G ρ : Type} : G → Option (Fl G ρ) := fun _ => none
theorem rs_never : RS K ms ts tNever rm ρ sNever := fun E L Γ σ H D f o e p => by cases e

/-! ### with the object named -/
theorem pg_tupK {X : Cx} (K : PySem.W.Frag) (hK : X.K = K) {es : List Expr} {k : Nat} {pos : Pos} {t : TGs} {n : Nat} (hc : X.calm = true) (h : PGs X es t)
    (hn : (assignEach es X.env).length = n := by rfl) (hst : (assignEach es X.env).findIdx? (·.1) = none := by rfl) : PG X (.Tuple es k pos) (gTup K n t) := by
  subst hK
  exact pg_tup hc h hn hst
theorem pi_listK {X : Cx} (K : PySem.W.Frag) (hK : X.K = K) {tg l : Expr} {tl : TE} (hl : PE X l tl) : PI X tg l (iList K tl) := by
  subst hK
  exact pi_list hl
theorem pi_tupK {X : Cx} (K : PySem.W.Frag) (hK : X.K = K) {tg l : Expr} {tl : TE} (hl : PE X l tl) : PI X tg l (iTup K tl) := by
  subst hK
  exact pi_tup hl

/-! ### shifts, bits, chains -/
abbrev fShr (a b : Int) : Option Int := okIf (decide (0 ≤ b)) (a / 2 ^ b.toNat)
abbrev fAnd (a b : Int) : Option Int := some (Builtin.bitAnd a b)
theorem v_shr {m : Em} : V2 K (rI (fun _ j => 0 ≤ j) fun i j => .int (i / 2 ^ j.toNat)) m .int .int .int fShr := v2_I (k := fun _ b => decide (0 ≤ b)) fun i j h => of_decide_eq_true h
theorem v_and {m : Em} : V2 K (rI0 fun i j => .int (Builtin.bitAnd i j)) m .int .int .int fAnd := v2_I0
def eChain {G α β γ : Type} (f : α → β → Option Bool) (g : β → γ → Option Bool) (Fa : G → Option α) (Fb : G → Option β) (Fc : G → Option γ) : G → Option Bool := fun Γ => (Fa Γ).bind fun a => (Fb Γ).bind fun b => (f a b).bind fun k => if k = true then (Fc Γ).bind fun c => g b c else some false

/-! ### slices of texts -/
def fCutS (x : Str) (lo hi : Option Int) : Option Str := okIf (lenOk x.length) (cutS x lo hi)
theorem rp_sliceS {m m' : Em} {te : TE} {tl th : TO} {F : Gam ts → Option Str} {Fl Fh : Gam ts → Option (Option Int)} (h : RP K ms ts te m .str F) (hl : RO K ms ts tl Fl) (hh : RO K ms ts th Fh) :
    RP K ms ts (tSl rSlS te tl th) m' .str (e3 fCutS F Fl Fh) := fun E L Γ σ H xt Q d o e q => by
  obtain ⟨a, ea, e⟩ := bind_some e
  obtain ⟨lo, el, e⟩ := bind_some e
  obtain ⟨hi, eh, e⟩ := bind_some e
  dsimp only [fCutS, okIf] at e
  split at e
  · rename_i hz
    cases e
    refine h E L Γ σ H xt _ a o ea fun v H1 s1 r1 => ?_
    refine hl E L Γ σ H1 xt _ lo (o.same s1) el fun H2 s2 => ?_
    refine hh E L Γ σ H2 xt _ hi ((o.same s1).same s2) eh fun H3 s3 => ?_
    obtain ⟨rfl, hok⟩ := r1.b
    refine ⟨a, rfl, of_decide_eq_true hz, q _ _ (s1.trans (s2.trans s3)) (rep_atom rfl ⟨rfl, ?_⟩)⟩
    unfold PyData.strOk at hok ⊢
    unfold cutS
    rw [Array.all_eq_true'] at hok ⊢
    intro x hx
    refine hok x ?_
    have hx : x ∈ ((a.cps.toList.drop (HT.sIx a.length 0 lo)).take (HT.sIx a.length a.length hi - HT.sIx a.length 0 lo)) := by simpa using hx
    simpa using List.mem_of_mem_drop (List.mem_of_mem_take hx)
  · cases e

/-! ### dicts -/
def getBy {α β κ : Type} [DecidableEq κ] (key : α → Option κ) (d : List (α × β)) (x : α) : Option β := (d.find? fun q => decide (key q.1 = key x)).map (·.2)
def putBy {α β κ : Type} [DecidableEq κ] (key : α → Option κ) (d : List (α × β)) (x : α) (y : β) : List (α × β) := if (d.any fun q => decide (key q.1 = key x)) = true then d.map (fun q => if key q.1 = key x then (q.1, y) else q) else d ++ [(x, y)]
/-- keys that a dict may have here -/
def okRow : Ty → Bool
  | .last a => a == .int || a == .str
  | .cons a b => (a == .int || a == .str) && okRow b
  | _ => false
def okKey : Ty → Bool
  | .int => true
  | .str => true
  | .tup b => okRow b
  | .vtup t => t == .int || t == .str
  | _ => false
theorem key_atom {R : Reg} {a : Ty} (h : (a == .int || a == .str) = true) {v : V} {d : den a} (r : (rS K H R a).1 v d) : ∃ k, v = kV k ∧ keyS a d = some k := by
  cases a <;> first | cases h | skip
  · exact ⟨.inl d, r, rfl⟩
  · exact ⟨.inr d, r.1, rfl⟩
theorem key_row {R : Reg} : ∀ {b : Ty}, okRow b = true → ∀ {vs : List V} {d : den b}, (rS K H R b).2 vs d → ∃ ks : List Key, vs = ks.map kV ∧ keyRow b d = some ks
  | .last a, h, vs, d, r => by
    obtain ⟨v, rfl, r⟩ := r
    obtain ⟨k, e1, e2⟩ := key_atom (a := a) h r
    exact ⟨[k], by rw [e1]; rfl, by unfold keyRow; rw [e2]; rfl⟩
  | .cons a b, h, vs, d, r => by
    simp only [okRow, Bool.and_eq_true] at h
    obtain ⟨v, w, rfl, r1, r2⟩ := r
    obtain ⟨k, e1, e2⟩ := key_atom (a := a) h.1 r1
    obtain ⟨ks, e3, e4⟩ := key_row h.2 r2
    exact ⟨k :: ks, by rw [e1, e3]; rfl, by unfold keyRow; rw [e2, e4]; rfl⟩
  | .non, h, _, _, _ => by cases h
  | .bool, h, _, _, _ => by cases h
  | .int, h, _, _, _ => by cases h
  | .str, h, _, _, _ => by cases h
  | .any, h, _, _, _ => by cases h
  | .opt _, h, _, _, _ => by cases h
  | .vtup _, h, _, _, _ => by cases h
  | .list _, h, _, _, _ => by cases h
  | .dict _ _, h, _, _, _ => by cases h
  | .own _, h, _, _, _ => by cases h
  | .tup _, h, _, _, _ => by cases h
theorem key_vs {R : Reg} {t : Ty} (h : (t == .int || t == .str) = true) : ∀ {vs : List V} {ds : List (den t)}, F2 (rS K H R t).1 vs ds → ∃ ks : List Key, vs = ks.map kV ∧ keyVs t ds = some ks
  | [], [], _ => ⟨[], rfl, rfl⟩
  | v :: vs, d :: ds, r => by
    obtain ⟨k, e1, e2⟩ := key_atom (a := t) h r.1
    obtain ⟨ks, e3, e4⟩ := key_vs h r.2
    exact ⟨k :: ks, by rw [e1, e3]; rfl, by unfold keyVs; rw [e2, e4]; rfl⟩
  | [], _ :: _, r => r.elim
  | _ :: _, [], r => r.elim
theorem key_of {R : Reg} {k : Ty} (h : okKey k = true) {v : V} {d : den k} (r : (rS K H R k).1 v d) : (k.tk = false ∧ ∃ x, v = kV x ∧ keyS k d = some x) ∨ (k.tk = true ∧ ∃ ks b, v = .ref b ∧ H b = some (.tup (ks.map kV)) ∧ keyT k d = some ks) := by
  cases k <;> first | cases h | skip
  · exact .inl ⟨rfl, key_atom (a := .int) rfl r⟩
  · exact .inl ⟨rfl, key_atom (a := .str) rfl r⟩
  · obtain ⟨a, vs, rfl, h1, h2⟩ := r
    obtain ⟨ks, rfl, e⟩ := key_vs (by exact h) h2
    exact .inr ⟨rfl, ks, a, rfl, h1, e⟩
  · obtain ⟨a, vs, rfl, h1, h2⟩ := r
    obtain ⟨ks, rfl, e⟩ := key_row (by exact h) h2
    exact .inr ⟨rfl, ks, a, rfl, h1, e⟩
theorem val_of {α β κ : Type} [DecidableEq κ] {key : α → Option κ} {P : V → β → Prop} {x : α} {k : κ} (hx : key x = some k) : ∀ {kvs : List (κ × V)} {d : List (α × β)}, F2 (fun p q => key q.1 = some p.1 ∧ P p.2 q.2) kvs d →
    (getBy key d x = none ∧ valV kvs k = none) ∨ ∃ v y, getBy key d x = some y ∧ valV kvs k = some v ∧ P v y
  | [], [], _ => .inl ⟨rfl, rfl⟩
  | p :: kvs, q :: d, h => by
    obtain ⟨⟨h1, h2⟩, h3⟩ := h
    by_cases e : p.1 = k
    · refine .inr ⟨p.2, q.2, ?_, valV_pos e, h2⟩
      unfold getBy
      rw [List.find?_cons_of_pos (by rw [h1, hx, e]; exact decide_eq_true rfl)]
      rfl
    · have ih := val_of hx h3
      rw [valV_neg e]
      have : getBy key (q :: d) x = getBy key d x := by
        unfold getBy
        rw [List.find?_cons_of_neg (by rw [h1, hx, decide_eq_true_eq]; exact fun z => e (Option.some.inj z))]
      rw [this]
      exact ih
  | [], _ :: _, h => h.elim
  | _ :: _, [], h => h.elim
def fGetK {k : Ty} {β : Type} (d : List (den k × β)) (x : den k) : Option β := if k.tk = true then getBy (keyT k) d x else getBy (keyS k) d x
abbrev fInK {k : Ty} {β : Type} (x : den k) (d : List (den k × β)) : Option Bool := some (fGetK d x).isSome
abbrev fNotInK {k : Ty} {β : Type} (x : den k) (d : List (den k × β)) : Option Bool := some (!(fGetK d x).isSome)
theorem rd_of_strip {a : Addr} {kvs : List (Key × V)} (h : stripD (H a) = some (.dK kvs)) : Rd H a (.dK kvs) := (strip_dK h).elim .inl .inr
theorem rd_of_stripT {a : Addr} {kvs : List (List Key × V)} (h : stripD (H a) = some (.dT kvs)) : Rd H a (.dT kvs) := (strip_dT h).elim .inl .inr
/-- what d[x] finds -/
theorem dget_of {k t : Ty} (hk : okKey k = true) {R R' : Reg} {a : Addr} {d : List (den k × den t)} {y : V} {x : den k} (h : (rS K H R (.dict k t)).1 (.ref a) d) (h' : (rS K H R' k).1 y x) :
    (fGetK d x = none ∧ DGet H a y none) ∨ ∃ v z, fGetK d x = some z ∧ DGet H a y (some v) ∧ (rS K H R t).1 v z := by
  obtain ⟨b, eb, h⟩ := h
  cases eb
  unfold fGetK
  rcases key_of hk h' with ⟨k1, key, rfl, ek⟩ | ⟨k1, ks, c, rfl, hc, ek⟩
  · rcases h with ⟨_, kvs, h1, h2⟩ | ⟨k2, _⟩
    · rw [k1, if_neg Bool.false_ne_true]
      rcases val_of ek h2 with ⟨g1, g2⟩ | ⟨v, z, g1, g2, g3⟩
      · exact .inl ⟨g1, .inl ⟨kvs, key, rd_of_strip h1.2, rfl, g2.symm⟩⟩
      · exact .inr ⟨v, z, g1, .inl ⟨kvs, key, rd_of_strip h1.2, rfl, g2.symm⟩, g3⟩
    · rw [k1] at k2
      cases k2
  · rcases h with ⟨k2, _⟩ | ⟨_, kvs, h1, h2⟩
    · rw [k1] at k2
      cases k2
    · rw [if_pos k1]
      rcases val_of ek h2 with ⟨g1, g2⟩ | ⟨v, z, g1, g2, g3⟩
      · exact .inl ⟨g1, .inr ⟨kvs, ks, c, rd_of_stripT h1.2, rfl, hc, g2.symm⟩⟩
      · exact .inr ⟨v, z, g1, .inr ⟨kvs, ks, c, rd_of_stripT h1.2, rfl, hc, g2.symm⟩, g3⟩
theorem isD_of {k t : Ty} {R : Reg} {a : Addr} {d : List (den k × den t)} (h : (rS K H R (.dict k t)).1 (.ref a) d) : IsD H a := by
  obtain ⟨b, eb, h⟩ := h
  cases eb
  rcases h with ⟨_, kvs, h1, _⟩ | ⟨_, kvs, h1, _⟩
  · exact .inl ⟨kvs, rd_of_strip h1.2⟩
  · exact .inr ⟨kvs, rd_of_stripT h1.2⟩
theorem dict_ref {k t : Ty} {R : Reg} {v : V} {d : List (den k × den t)} (h : (rS K H R (.dict k t)).1 v d) : ∃ a, v = .ref a := by
  obtain ⟨b, eb, _⟩ := h
  exact ⟨b, eb⟩
theorem rs_on {t : Ty} {v : V} {d : den t} (s : Same H H1) (r : (rS K H (fun _ => True) t).1 v d) : (rS K H1 (fun _ => True) t).1 v d := (rS_mono (Cov.of_same s fun _ h _ => h) (Stb.of_same s) t).1 v d r
theorem rp_dget {k t : Ty} {m1 m2 : Em} {td ty : TE} {F : Gam ts → Option (List (den k × den t))} {G : Gam ts → Option (den k)} (h : RP K ms ts td m1 (.dict k t) F) (h' : RP K ms ts ty m2 k G) (hk : okKey k = true := by rfl) : RP K ms ts (tDGet td ty) .b t (e2 (fGetK (k := k)) F G) := fun E L Γ σ H xt Q d o e q => by
  obtain ⟨a, ea, e⟩ := bind_some e
  obtain ⟨x, ex, e⟩ := bind_some e
  refine h E L Γ σ H xt _ a o ea fun v H1 s1 r1 => h' E L Γ σ H1 xt _ x (o.same s1) ex fun w H2 s2 r2 => ?_
  obtain ⟨p, rfl⟩ := dict_ref (k := k) (t := t) r1.b
  rcases dget_of hk (rs_on (t := .dict k t) s2 r1.b) r2.b with ⟨g1, _⟩ | ⟨v, z, g1, g2, g3⟩
  · rw [g1] at e
    cases e
  · rw [g1] at e
    cases e
    exact ⟨p, v, rfl, g2, q v H2 (s1.trans s2) g3⟩
theorem rp_din {k t : Ty} {m m1 m2 : Em} {td ty : TE} {F : Gam ts → Option (List (den k × den t))} {G : Gam ts → Option (den k)} (h' : RP K ms ts ty m2 k G) (h : RP K ms ts td m1 (.dict k t) F) (hk : okKey k = true := by rfl) : RP K ms ts (tDIn ty td) m .bool (e2 (fInK (k := k)) G F) := fun E L Γ σ H xt Q d o e q => by
  obtain ⟨x, ex, e⟩ := bind_some e
  obtain ⟨a, ea, e⟩ := bind_some e
  refine h' E L Γ σ H xt _ x o ex fun w H1 s1 r1 => h E L Γ σ H1 xt _ a (o.same s1) ea fun v H2 s2 r2 => ?_
  obtain ⟨p, rfl⟩ := dict_ref (k := k) (t := t) r2.b
  rcases dget_of hk r2.b (rs_on s2 r1.b) with ⟨g1, g2⟩ | ⟨v, z, g1, g2, g3⟩
  · rw [fInK, g1] at e
    cases e
    exact ⟨p, none, rfl, g2, q _ H2 (s1.trans s2) (rep_atom rfl rfl)⟩
  · rw [fInK, g1] at e
    cases e
    exact ⟨p, some v, rfl, g2, q _ H2 (s1.trans s2) (rep_atom rfl rfl)⟩
theorem rp_dnotin {k t : Ty} {m m1 m2 : Em} {td ty : TE} {F : Gam ts → Option (List (den k × den t))} {G : Gam ts → Option (den k)} (h' : RP K ms ts ty m2 k G) (h : RP K ms ts td m1 (.dict k t) F) (hk : okKey k = true := by rfl) : RP K ms ts (tDNotIn ty td) m .bool (e2 (fNotInK (k := k)) G F) := fun E L Γ σ H xt Q d o e q => by
  obtain ⟨x, ex, e⟩ := bind_some e
  obtain ⟨a, ea, e⟩ := bind_some e
  refine h' E L Γ σ H xt _ x o ex fun w H1 s1 r1 => h E L Γ σ H1 xt _ a (o.same s1) ea fun v H2 s2 r2 => ?_
  obtain ⟨p, rfl⟩ := dict_ref (k := k) (t := t) r2.b
  rcases dget_of hk r2.b (rs_on s2 r1.b) with ⟨g1, g2⟩ | ⟨v, z, g1, g2, g3⟩
  · rw [fNotInK, g1] at e
    cases e
    exact ⟨p, none, rfl, g2, q _ H2 (s1.trans s2) (rep_atom rfl rfl)⟩
  · rw [fNotInK, g1] at e
    cases e
    exact ⟨p, some v, rfl, g2, q _ H2 (s1.trans s2) (rep_atom rfl rfl)⟩
/-- d.get(x, y) -/
def fGet2 {k : Ty} {β : Type} (d : List (den k × β)) (x : den k) (y : β) : Option β := some ((fGetK d x).getD y)
theorem rp_dget2 {k t : Ty} {m1 m2 m3 : Em} {td ty tx : TE} {F : Gam ts → Option (List (den k × den t))} {G : Gam ts → Option (den k)} {D : Gam ts → Option (den t)} (h : RP K ms ts td m1 (.dict k t) F) (h' : RP K ms ts ty m2 k G) (h2 : RP K ms ts tx m3 t D) (hk : okKey k = true := by rfl) :
    RP K ms ts (tDGet2 td ty tx) .b t (e3 (fGet2 (k := k)) F G D) := fun E L Γ σ H xt Q d o e q => by
  obtain ⟨a, ea, e⟩ := bind_some e
  obtain ⟨x, ex, e⟩ := bind_some e
  obtain ⟨y, ey, e⟩ := bind_some e
  refine h E L Γ σ H xt _ a o ea fun v H1 s1 r1 => ?_
  obtain ⟨p, rfl⟩ := dict_ref (k := k) (t := t) r1.b
  refine ⟨p, rfl, isD_of r1.b, h' E L Γ σ H1 xt _ x (o.same s1) ex fun w H2 s2 r2 => h2 E L Γ σ H2 xt _ y ((o.same s1).same s2) ey fun u H3 s3 r3 => ?_⟩
  rcases dget_of hk (rs_on (t := .dict k t) (s2.trans s3) r1.b) (rs_on s3 r2.b) with ⟨g1, g2⟩ | ⟨v, z, g1, g2, g3⟩
  · rw [fGet2, g1] at e
    cases e
    exact ⟨none, g2, q u H3 ((s1.trans s2).trans s3) r3.b⟩
  · rw [fGet2, g1] at e
    cases e
    exact ⟨some v, g2, q v H3 ((s1.trans s2).trans s3) g3⟩
/-- d.get(x) -/
def nonN : Ty → Bool
  | .non => false
  | .opt _ => false
  | .any => false
  | .own t => nonN t
  | _ => true
theorem nonN_of {R : Reg} : ∀ {t : Ty}, nonN t = true → ∀ {v : V} {d : den t}, (rS K H R t).1 v d → v ≠ .non
  | .bool, _, v, d, r => by cases r; simp
  | .int, _, v, d, r => by cases r; simp
  | .str, _, v, d, r => by obtain ⟨rfl, _⟩ := r; simp
  | .vtup _, _, v, d, r => by obtain ⟨_, _, rfl, _⟩ := r; simp
  | .list _, _, v, d, r => by obtain ⟨_, _, rfl, _⟩ := r; simp
  | .dict _ _, _, v, d, r => by obtain ⟨_, rfl, _⟩ := r; simp
  | .own t, h, v, d, r => nonN_of (t := t) h r
  | .tup _, _, v, d, r => by obtain ⟨_, _, rfl, _⟩ := r; simp
  | .last _, _, v, d, r => r.elim
  | .cons _ _, _, v, d, r => r.elim
  | .non, h, _, _, _ => by cases h
  | .opt _, h, _, _, _ => by cases h
  | .any, h, _, _, _ => by cases h
abbrev fGet1 {k : Ty} {β : Type} (d : List (den k × β)) (x : den k) : Option (Option β) := some (fGetK d x)
theorem rp_dget1 {k t : Ty} {m1 m2 : Em} {td ty : TE} {F : Gam ts → Option (List (den k × den t))} {G : Gam ts → Option (den k)} (h : RP K ms ts td m1 (.dict k t) F) (h' : RP K ms ts ty m2 k G) (hk : okKey k = true := by rfl) (hn : nonN t = true := by rfl) :
    RP K ms ts (tDGet1 td ty) .b (.opt t) (e2 (fGet1 (k := k)) F G) := fun E L Γ σ H xt Q d o e q => by
  obtain ⟨a, ea, e⟩ := bind_some e
  obtain ⟨x, ex, e⟩ := bind_some e
  refine h E L Γ σ H xt _ a o ea fun v H1 s1 r1 => ?_
  obtain ⟨p, rfl⟩ := dict_ref (k := k) (t := t) r1.b
  refine ⟨p, rfl, isD_of r1.b, h' E L Γ σ H1 xt _ x (o.same s1) ex fun w H2 s2 r2 => ?_⟩
  rcases dget_of hk (rs_on (t := .dict k t) s2 r1.b) r2.b with ⟨g1, g2⟩ | ⟨v, z, g1, g2, g3⟩
  · rw [fGet1, g1] at e
    cases e
    exact ⟨none, g2, q _ H2 (s1.trans s2) rfl⟩
  · rw [fGet1, g1] at e
    cases e
    exact ⟨some v, g2, q _ H2 (s1.trans s2) ⟨nonN_of hn g3, g3⟩⟩
end
end VV

/-! VMore8: stores in owned dicts, and in lists that dicts hold. -/
namespace VV
open PySem L2
open PyProof.Rows hiding St

section
variable {K : PySem.W.Frag} {E : Ent} {ms ms' : List Md} {ts : List Ty} {L L1 : Reg} {Γ Γ1 : Gam ts} {σ σ1 : St} {H H' H0 H1 H2 : Hp} {xt : List Addr} {rm : Rm} {ρ : Ty}
/-- AN OWNED THING IS CHANGED at cells of its own -/
theorem Own.chg {t : Ty} (i : Mem ts t) {d : den t} (o : Own K E L ms ts Γ σ H []) (hm : ms[i.ix]? = some .o) (hx : i.get Γ = some d) :
    ∃ v f, σ[i.ix]? = some (some v) ∧ (rO K H L t).1 v d f ∧ f.Nodup ∧ (∀ b ∈ f, Good E L H b) ∧
    ∀ (H1 H2 : Hp) (fd : List Addr) (Lr : Reg) (d' : den t) (f' : List Addr), Same H H1 → Nw H H1 (· ∈ fd) → Nw H H1 Lr → (∀ b ∈ fd, ¬ Lr b) → (∀ b, (H1 b).isSome = true → b ∉ f → H2 b = H1 b) → (∀ b, (H1 b).isSome = true → (H2 b).isSome = true) → Stb H1 H2 →
      (rO K H2 (fun b => L b ∨ Lr b) t).1 v d' f' → f'.Nodup → (∀ b ∈ f', b ∈ f ∨ b ∈ fd) →
      Own K E (fun b => L b ∨ Lr b) ms ts (i.set (some d') Γ) σ H2 [] ∧ Ev ms ts L Γ σ H (fun b => L b ∨ Lr b) (i.set (some d') Γ) σ H2 := by
  obtain ⟨s0, f, q1, q2, q3, q4, q5⟩ := o.focus i hm
  rw [hx] at q2
  obtain ⟨v, rfl, hr⟩ := q2
  have gg : ∀ b ∈ f, Good E L H b := fun b hb => (q4 b hb).1
  refine ⟨v, f, q1, hr, q3, gg, fun H1 H2 fd Lr d' f' s1 h3 h4 h5 oth1 up st1 k0 n0 m0 => ?_⟩
  have st : Stb H H2 := (Stb.of_same s1).trans st1
  have oth : ∀ b, (H b).isSome = true → b ∉ f → H2 b = H b := fun b hb hne => by rw [oth1 b (by rw [same_at s1 hb]; exact hb) hne]; exact same_at s1 hb
  have upH : ∀ b, (H b).isSome = true → (H2 b).isSome = true := fun b hb => up b (by rw [same_at s1 hb]; exact hb)
  have o' := q5 H2 (fun b => L b ∨ Lr b) (some d') (some v) f' [] (fun b hb hnf _ => oth b hb hnf) st (fun _ h => .inl h)
    (fun b hb => hb.elim .inl fun z => .inr (.inr (.inr (h4 b z).1))) upH
    (fun b hb => hb.elim (fun z => ⟨(o.lr b z).1, upH b (o.lr b z).2⟩) fun z => ⟨.inl (o.fresh (h4 b z).1).1, up b (h4 b z).2⟩)
    ⟨v, rfl, k0⟩ (by rw [List.append_nil]; exact n0)
    (fun b hb => by
      have hb : b ∈ f' := by simpa using hb
      rcases m0 b hb with hb | hb
      · refine ⟨.inl hb, fun z => z.elim (gg b hb).nl fun z => ?_, upH b (gg b hb).at_⟩
        have := (gg b hb).at_
        rw [(h4 b z).1] at this
        cases this
      · exact ⟨.inr (.inr (h3 b hb).1), fun z => z.elim (o.fresh (h3 b hb).1).2.1 (h5 b hb), up b (h3 b hb).2⟩)
  rw [set_same q1] at o'
  refine ⟨o', fun _ h => .inl h, fun b q hb x => ?_, st, keepF_set0 i hm rfl _⟩
  rw [oth b (o.lr b hb).2 fun z => (gg b z).nl hb]
  exact x
/-- one cell is changed -/
theorem upd_oth {a : Addr} {u : HO} {f : List Addr} (h : a ∈ f) : ∀ b, (H b).isSome = true → b ∉ f → upd H a u b = H b := fun b _ hb => upd_ne fun z => hb (z ▸ h)
theorem upd_up {a : Addr} {u : HO} : ∀ b, (H b).isSome = true → (upd H a u b).isSome = true := fun b hb => by
  by_cases z : b = a
  · rw [z, upd_same]; rfl
  · rw [upd_ne z]; exact hb
theorem cov_upd {a : Addr} {u : HO} {R : Reg} (h : ¬ R a) : Cov H (upd H a u) R R := fun b q hb x => by
  have ne : b ≠ a := fun z => by
    subst z
    exact h hb
  exact ⟨hb, by rw [upd_ne ne]; exact x⟩

/-! ### d[x] = y -/
theorem f2_put {α β κ : Type} [DecidableEq κ] {key : α → Option κ} {P : V → β → Prop} {x : α} {k : κ} {v : V} {y : β} (hx : key x = some k) (hv : P v y) {kvs : List (κ × V)} {d : List (α × β)} (h : F2 (fun p q => key q.1 = some p.1 ∧ P p.2 q.2) kvs d) :
    F2 (fun p q => key q.1 = some p.1 ∧ P p.2 q.2) (putK kvs k v) (putBy key d x y) := by
  have ha : ∀ {kvs : List (κ × V)} {d : List (α × β)}, F2 (fun p q => key q.1 = some p.1 ∧ P p.2 q.2) kvs d → (kvs.any fun kv => decide (kv.1 = k)) = (d.any fun q => decide (key q.1 = key x)) := by
    intro kvs
    induction kvs with
    | nil =>
      intro d h
      cases d with
      | nil => rfl
      | cons _ _ => exact h.elim
    | cons p kvs ih =>
      intro d h
      cases d with
      | nil => exact h.elim
      | cons q d =>
        rw [List.any_cons, List.any_cons, ih h.2, h.1.1, hx]
        congr 1
        by_cases e : p.1 = k
        · rw [decide_eq_true e, decide_eq_true (congrArg some e)]
        · rw [decide_eq_false e, decide_eq_false fun z => e (Option.some.inj z)]
  have hmap : ∀ {kvs : List (κ × V)} {d : List (α × β)}, F2 (fun p q => key q.1 = some p.1 ∧ P p.2 q.2) kvs d → F2 (fun p q => key q.1 = some p.1 ∧ P p.2 q.2) (kvs.map (fun kv => if kv.1 = k then (kv.1, v) else kv)) (d.map (fun q => if key q.1 = key x then (q.1, y) else q)) := by
    intro kvs
    induction kvs with
    | nil =>
      intro d h
      cases d with
      | nil => exact True.intro
      | cons _ _ => exact h.elim
    | cons p kvs ih =>
      intro d h
      cases d with
      | nil => exact h.elim
      | cons q d =>
        refine ⟨?_, ih h.2⟩
        show key (if key q.1 = key x then (q.1, y) else q).1 = some (if p.1 = k then (p.1, v) else p).1 ∧ P (if p.1 = k then (p.1, v) else p).2 (if key q.1 = key x then (q.1, y) else q).2
        by_cases e : p.1 = k
        · rw [if_pos e, if_pos (by rw [h.1.1, hx, e])]
          exact ⟨h.1.1, hv⟩
        · rw [if_neg e, if_neg (by rw [h.1.1, hx]; exact fun z => e (Option.some.inj z))]
          exact h.1
  unfold putK putBy
  rw [ha h]
  split
  · exact hmap h
  · exact F2.append h ⟨⟨hx, hv⟩, True.intro⟩
def fPutK {k : Ty} {β : Type} (d : List (den k × β)) (x : den k) (y : β) : List (den k × β) := if k.tk = true then putBy (keyT k) d x y else putBy (keyS k) d x y
def sPut {ρ : Type} {ts : List Ty} {k t : Ty} (i : Mem ts (.dict k t)) (F : Gam ts → Option (den t)) (G : Gam ts → Option (den k)) : Gam ts → Option (Fl (Gam ts) ρ) := fun Γ => (i.get Γ).bind fun d => (F Γ).bind fun y => (G Γ).bind fun x => if d.length < sizeLine then some (.nx (i.set (some (fPutK d x y)) Γ)) else none
/-- values without cells -/
theorem rs_dput {k t : Ty} (i : Mem ts (.dict k t)) {n : Nat} {m m' : Em} {tv ty : TE} {F : Gam ts → Option (den t)} {G : Gam ts → Option (den k)} (h : RP K ms ts tv m t F) (h' : RP K ms ts ty m' k G) (hf : t.frz = true := by rfl) (hk : okKey k = true := by rfl) (hm : ms[i.ix]? = some .o := by rfl) (hn : i.ix = n := by rfl) :
    RS K ms ts (sDPut (tVar n) ty tv) rm ρ (sPut i F G) := fun E L Γ σ H D f o e p => by
  subst hn
  obtain ⟨d, e1, e⟩ := bind_some e
  obtain ⟨y, e2, e⟩ := bind_some e
  obtain ⟨x, e3, e⟩ := bind_some e
  split at e
  · rename_i hz
    cases e
    obtain ⟨v0, f0, q1, hr, hnd, gd, go⟩ := o.chg i hm e1
    obtain ⟨a, g, rfl, rfl, hr⟩ := hr
    have ga := gd a List.mem_cons_self
    refine h E L Γ σ H [] _ y o e2 fun v H1 s1 r1 => ⟨_, q1, h' E L Γ σ H1 [] _ x (o.same s1) e3 fun w H2 s2 r2 => ?_⟩
    have s12 := s1.trans s2
    have rv := rs_on s2 r1.b
    have fk : ∀ {p : V} {q : den t} {c : List Addr}, Kid K H L t p q c → (rS K H2 (fun _ => True) t).1 p q := fun x => rs_on s12 (x.elim (fun y => (rO_s (fun _ _ => True.intro) t).1 _ _ _ (fun _ _ => True.intro) y) fun y => (rS_mono (Cov.of_reg fun _ _ _ => True.intro) (Stb.refl _) t).1 _ _ y.2.2)
    rcases key_of hk r2.b with ⟨k1, key, rfl, ek⟩ | ⟨k1, ks, c, rfl, hc, ek⟩
    · rcases hr with ⟨_, kvs, hl, hk3⟩ | ⟨k2, _⟩
      · have h2 : F2 (fun p q => keyS k q.1 = some p.1 ∧ (rS K H2 (fun _ => True) t).1 p.2 q.2) kvs d := hk3.to2 fun p q c _ z => ⟨z.1, fk z.2⟩
        have st : Stb H2 (upd H2 a (.dK (putK kvs key v))) := Stb.upd (s12 _ _ hl) rfl
        have h3 := (f2_put (P := fun p q => (rS K H2 (fun _ => True) t).1 p q) ek rv h2).imp (P' := fun p q => keyS k q.1 = some p.1 ∧ (rS K (upd H2 a (.dK (putK kvs key v))) (fun _ => False) t).1 p.2 q.2) fun p q z => ⟨z.1, rS_stb hf st z.2⟩
        obtain ⟨o', ev⟩ := go H2 (upd H2 a (.dK (putK kvs key v))) [] (fun _ => False) (fPutK d x y) [a] s12 (fun a h => by simp at h) (fun a h => h.elim) (fun a h => by simp at h) (upd_oth List.mem_cons_self) upd_up st
          ⟨a, [], rfl, rfl, .inl ⟨k1, _, upd_same, by
            unfold fPutK
            rw [k1, if_neg Bool.false_ne_true]
            exact F3.of2 (fun p q z => ⟨z.1, kid_frz hf z.2⟩) h3⟩⟩ (by simp) (fun b hb => .inl (by
            rw [List.mem_singleton] at hb
            exact hb ▸ List.mem_cons_self))
        exact ⟨a, _, rfl, .inl ⟨kvs, key, s12 _ _ hl, rfl, by rw [h2.length]; exact hz, rfl⟩, p _ σ _ o' ev⟩
      · rw [k1] at k2
        cases k2
    · rcases hr with ⟨k2, _⟩ | ⟨_, kvs, hl, hk3⟩
      · rw [k1] at k2
        cases k2
      · have h2 : F2 (fun p q => keyT k q.1 = some p.1 ∧ (rS K H2 (fun _ => True) t).1 p.2 q.2) kvs d := hk3.to2 fun p q c _ z => ⟨z.1, fk z.2⟩
        have st : Stb H2 (upd H2 a (.dT (putK kvs ks v))) := Stb.upd (s12 _ _ hl) rfl
        have h3 := (f2_put (P := fun p q => (rS K H2 (fun _ => True) t).1 p q) ek rv h2).imp (P' := fun p q => keyT k q.1 = some p.1 ∧ (rS K (upd H2 a (.dT (putK kvs ks v))) (fun _ => False) t).1 p.2 q.2) fun p q z => ⟨z.1, rS_stb hf st z.2⟩
        obtain ⟨o', ev⟩ := go H2 (upd H2 a (.dT (putK kvs ks v))) [] (fun _ => False) (fPutK d x y) [a] s12 (fun a h => by simp at h) (fun a h => h.elim) (fun a h => by simp at h) (upd_oth List.mem_cons_self) upd_up st
          ⟨a, [], rfl, rfl, .inr ⟨k1, _, upd_same, by
            unfold fPutK
            rw [if_pos k1]
            exact F3.of2 (fun p q z => ⟨z.1, kid_frz hf z.2⟩) h3⟩⟩ (by simp) (fun b hb => .inl (by
            rw [List.mem_singleton] at hb
            exact hb ▸ List.mem_cons_self))
        exact ⟨a, _, rfl, .inr ⟨kvs, ks, c, s12 _ _ hl, rfl, hc, by rw [h2.length]; exact hz, rfl⟩, p _ σ _ o' ev⟩
  · cases e
/-! ### d[x] = y, y owned, x not there yet -/
abbrev KidD (K : PySem.W.Frag) (H : Hp) (L : Reg) {κ : Type} {α : Type} (key : α → Option κ) (t : Ty) : κ × V → α × den t → List Addr → Prop := fun p q g => key q.1 = some p.1 ∧ Kid K H L t p.2 q.2 g
theorem kid_on {t : Ty} {Lr : Reg} {v : V} {d : den t} {g : List Addr} (hc : Cov H H1 L (fun b => L b ∨ Lr b)) (hs : Stb H H1) (hg : ∀ b ∈ g, H1 b = H b) (h : Kid K H L t v d g) : Kid K H1 (fun b => L b ∨ Lr b) t v d g := kid_mono ((rS_mono hc hs t).1 v d) ((rO_mono hc hs t).1 v d g hg) h
theorem getBy_none_any {α β κ : Type} [DecidableEq κ] {key : α → Option κ} {d : List (α × β)} {x : α} (h : getBy key d x = none) : (d.any fun q => decide (key q.1 = key x)) = false := by
  unfold getBy at h
  rw [Option.map_eq_none_iff, List.find?_eq_none] at h
  rw [List.any_eq_false]
  exact h
theorem putK_new {κ : Type} [DecidableEq κ] {kvs : List (κ × V)} {k : κ} {v : V} (h : valV kvs k = none) : putK kvs k v = kvs ++ [(k, v)] := by
  unfold putK
  rw [valV_any, h]
  rfl
def sPutN {ρ : Type} {ts : List Ty} {k t : Ty} (i : Mem ts (.dict k t)) (F : Gam ts → Option (den t)) (G : Gam ts → Option (den k)) : Gam ts → Option (Fl (Gam ts) ρ) := fun Γ => (i.get Γ).bind fun d => (F Γ).bind fun y => (G Γ).bind fun x => if d.length < sizeLine ∧ (fGetK d x).isSome = false then some (.nx (i.set (some (d ++ [(x, y)])) Γ)) else none
theorem f3_val {α β κ : Type} [DecidableEq κ] {key : α → Option κ} {P : V → β → List Addr → Prop} {x : α} {k : κ} (hx : key x = some k) {kvs : List (κ × V)} {d : List (α × β)} {g : List Addr} (h : F3 (fun p q g => key q.1 = some p.1 ∧ P p.2 q.2 g) kvs d g) (hn : getBy key d x = none) : valV kvs k = none := by
  have h2 : F2 (fun p q => key q.1 = some p.1 ∧ (∃ g, P p.2 q.2 g)) kvs d := h.to2 fun p q g _ z => ⟨z.1, g, z.2⟩
  rcases val_of (P := fun v y => ∃ g, P v y g) hx h2 with z | ⟨v, y, z, _⟩
  · exact z.2
  · rw [hn] at z
    cases z
theorem rs_dputN {k t : Ty} (i : Mem ts (.dict k t)) {n : Nat} {m' : Em} {tv ty : TE} {F : Gam ts → Option (den t)} {G : Gam ts → Option (den k)} (h : RP K ms ts tv .o t F) (h' : RP K ms ts ty m' k G) (hk : okKey k = true := by rfl) (hm : ms[i.ix]? = some .o := by rfl) (hn : i.ix = n := by rfl) :
    RS K ms ts (sDPut (tVar n) ty tv) rm ρ (sPutN i F G) := fun E L Γ σ H D f o e p => by
  subst hn
  obtain ⟨d, e1, e⟩ := bind_some e
  obtain ⟨y, e2, e⟩ := bind_some e
  obtain ⟨x, e3, e⟩ := bind_some e
  split at e
  · rename_i hz
    cases e
    obtain ⟨v0, f0, q1, hr, hnd, gd, go⟩ := o.chg i hm e1
    obtain ⟨a, g, rfl, rfl, hr⟩ := hr
    have ga := gd a List.mem_cons_self
    have hnd' := List.nodup_cons.mp hnd
    refine h E L Γ σ H [] _ y o e2 fun v H1 s1 r1 => ⟨_, q1, h' E L Γ σ H1 [] _ x (o.same s1) e3 fun w H2 s2 r2 => ?_⟩
    have s12 := s1.trans s2
    obtain ⟨fd, Lr, j1, j2, j3, j4, j5⟩ := r1
    have dn : fGetK d x = none := by
      have := hz.2
      cases hg : fGetK d x with
      | none => rfl
      | some _ => rw [hg] at this; cases this
    have aH : (H a).isSome = true := ga.at_
    have nfd : ∀ b ∈ fd, b ≠ a := fun b hb z => by
      subst z
      rw [(j3 b hb).1] at aH
      cases aH
    have nLr : ¬ Lr a := fun z => by
      rw [(j4 a z).1] at aH
      cases aH
    have gfd : ∀ b ∈ g, b ∉ fd := fun b hb z => by
      have := (gd b (List.mem_cons_of_mem _ hb)).at_
      rw [(j3 b z).1] at this
      cases this
    have fin : ∀ (u : HO), mutO u = true → Stb H2 (upd H2 a u) → (∀ {κ : Type} (key : den k → Option κ) (kvs : List (κ × V)) (kk : κ), key x = some kk → F3 (KidD K H L key t) kvs d g → F3 (KidD K (upd H2 a u) (fun b => L b ∨ Lr b) key t) (kvs ++ [(kk, v)]) (d ++ [(x, y)]) (g ++ fd)) := fun u mu st κ key kvs kk hkk h3 => by
      have cov : Cov H (upd H2 a u) L (fun b => L b ∨ Lr b) := fun b q hb z => by
        have ne : b ≠ a := fun z => ga.nl (z ▸ hb)
        refine ⟨.inl hb, ?_⟩
        rw [upd_ne ne, same_at s12 (o.lr b hb).2]
        exact z
      refine F3.append (h3.imp fun p q c hc z => ⟨z.1, kid_on cov ((Stb.of_same s12).trans st) (fun b hb => ?_) z.2⟩) ⟨fd, [], by simp, ⟨hkk, .inl ?_⟩, rfl⟩
      · have hb := hc b hb
        have ne : b ≠ a := fun z => hnd'.1 (z ▸ hb)
        rw [upd_ne ne, same_at s12 (gd b (List.mem_cons_of_mem _ hb)).at_]
      · refine (rO_mono (L := fun b => L b ∨ Lr b) (fun b q hb z => ⟨hb, ?_⟩) ((Stb.of_same s2).trans st) t).1 v y fd (fun b hb => ?_) j1
        · have ne : b ≠ a := fun z => hb.elim (fun q => ga.nl (z ▸ q)) fun q => nLr (z ▸ q)
          have bs : (H1 b).isSome = true := hb.elim (fun q => by rw [same_at s1 (o.lr b q).2]; exact (o.lr b q).2) fun q => (j4 b q).2
          rw [upd_ne ne, same_at s2 bs]
          exact z
        · rw [upd_ne (nfd b hb), same_at s2 (j3 b hb).2]
    have fin2 : ∀ (u : HO), mutO u = true → Stb H2 (upd H2 a u) → (rO K (upd H2 a u) (fun b => L b ∨ Lr b) (.dict k t)).1 (.ref a) (d ++ [(x, y)]) (a :: (g ++ fd)) → D.nx σ (upd H2 a u) := fun u mu st hrep => by
      obtain ⟨o', ev⟩ := go H2 (upd H2 a u) fd Lr (d ++ [(x, y)]) (a :: (g ++ fd)) s12 (nw_on s2 j3) (nw_on s2 j4) j5 (upd_oth List.mem_cons_self) upd_up st hrep
        (List.nodup_cons.mpr ⟨fun z => (List.mem_append.mp z).elim hnd'.1 fun z => nfd a z rfl, List.nodup_append.mpr ⟨hnd'.2, j2, fun b hb c hc z => gfd b hb (z ▸ hc)⟩⟩)
        (fun b hb => by
          rcases List.mem_cons.mp hb with z | hb
          · exact .inl (z ▸ List.mem_cons_self)
          · exact (List.mem_append.mp hb).elim (fun z => .inl (List.mem_cons_of_mem _ z)) .inr)
      exact p _ σ _ o' ev
    rcases key_of hk r2.b with ⟨k1, key, rfl, ek⟩ | ⟨k1, ks, c, rfl, hc, ek⟩
    · rcases hr with ⟨_, kvs, hl, hk3⟩ | ⟨k2, _⟩
      · unfold fGetK at dn
        rw [k1, if_neg Bool.false_ne_true] at dn
        have hv := f3_val ek hk3 dn
        have st : Stb H2 (upd H2 a (.dK (putK kvs key v))) := Stb.upd (s12 _ _ hl) rfl
        refine ⟨a, _, rfl, .inl ⟨kvs, key, s12 _ _ hl, rfl, by rw [hk3.length]; exact hz.1, rfl⟩, fin2 _ rfl st ⟨a, g ++ fd, rfl, rfl, .inl ⟨k1, _, upd_same, ?_⟩⟩⟩
        rw [putK_new hv] at st ⊢
        exact fin _ rfl st (keyS k) kvs key ek hk3
      · rw [k1] at k2
        cases k2
    · rcases hr with ⟨k2, _⟩ | ⟨_, kvs, hl, hk3⟩
      · rw [k1] at k2
        cases k2
      · unfold fGetK at dn
        rw [if_pos k1] at dn
        have hv := f3_val ek hk3 dn
        have st : Stb H2 (upd H2 a (.dT (putK kvs ks v))) := Stb.upd (s12 _ _ hl) rfl
        refine ⟨a, _, rfl, .inr ⟨kvs, ks, c, s12 _ _ hl, rfl, hc, by rw [hk3.length]; exact hz.1, rfl⟩, fin2 _ rfl st ⟨a, g ++ fd, rfl, rfl, .inr ⟨k1, _, upd_same, ?_⟩⟩⟩
        rw [putK_new hv] at st ⊢
        exact fin _ rfl st (keyT k) kvs ks ek hk3
  · cases e
end
end VV

/-! VMore9: lists that a dict holds, changed in their place. -/
namespace VV
open PySem L2
open PyProof.Rows hiding St

section
variable {K : PySem.W.Frag} {E : Ent} {ms ms' : List Md} {ts : List Ty} {L L1 : Reg} {Γ Γ1 : Gam ts} {σ σ1 : St} {H H' H0 H1 H2 : Hp} {xt : List Addr} {rm : Rm} {ρ : Ty}
def updBy {α β κ : Type} [DecidableEq κ] (key : α → Option κ) : List (α × β) → α → β → List (α × β)
  | [], _, _ => []
  | q :: d, x, z => if key q.1 = key x then (q.1, z) :: d else q :: updBy key d x z
theorem getBy_pos {α β κ : Type} [DecidableEq κ] {key : α → Option κ} {q : α × β} {d : List (α × β)} {x : α} (h : key q.1 = key x) : getBy key (q :: d) x = some q.2 := by
  unfold getBy
  rw [List.find?_cons_of_pos (by rw [decide_eq_true_eq]; exact h)]
  rfl
theorem getBy_neg {α β κ : Type} [DecidableEq κ] {key : α → Option κ} {q : α × β} {d : List (α × β)} {x : α} (h : ¬ key q.1 = key x) : getBy key (q :: d) x = getBy key d x := by
  unfold getBy
  rw [List.find?_cons_of_neg (by rw [decide_eq_true_eq]; exact h)]
theorem f3_at {α β κ : Type} [DecidableEq κ] {key : α → Option κ} {P : V → β → List Addr → Prop} {x : α} {k : κ} (hx : key x = some k) : ∀ {kvs : List (κ × V)} {d : List (α × β)} {g : List Addr} {y : β}, F3 (fun p q g => key q.1 = some p.1 ∧ P p.2 q.2 g) kvs d g → getBy key d x = some y →
    ∃ v ga gj gb, valV kvs k = some v ∧ g = ga ++ (gj ++ gb) ∧ P v y gj ∧ ∀ (P' : V → β → List Addr → Prop) (z : β) (gj' : List Addr), (∀ p q c, (∀ b ∈ c, b ∈ ga ∨ b ∈ gb) → P p q c → P' p q c) → P' v z gj' → F3 (fun p q g => key q.1 = some p.1 ∧ P' p.2 q.2 g) kvs (updBy key d x z) (ga ++ (gj' ++ gb))
  | [], [], _, _, _, h => by cases h
  | p :: kvs, q :: d, g, y, h, hy => by
    obtain ⟨f1, f2, rfl, ⟨h1, h2⟩, h3⟩ := h
    by_cases e : p.1 = k
    · have ek : key q.1 = key x := by rw [h1, hx, e]
      rw [getBy_pos ek] at hy
      cases hy
      refine ⟨p.2, [], f1, f2, valV_pos e, rfl, h2, fun P' z gj' hP hz => ?_⟩
      unfold updBy
      rw [if_pos ek]
      exact ⟨gj', f2, rfl, ⟨h1, hz⟩, h3.imp fun p q c hc w => ⟨w.1, hP _ _ c (fun b hb => .inr (hc b hb)) w.2⟩⟩
    · have ek : ¬ key q.1 = key x := by rw [h1, hx]; exact fun z => e (Option.some.inj z)
      rw [getBy_neg ek] at hy
      obtain ⟨v, ga, gj, gb, i1, rfl, i2, i3⟩ := f3_at hx h3 hy
      refine ⟨v, f1 ++ ga, gj, gb, by rw [valV_neg e]; exact i1, by rw [List.append_assoc], i2, fun P' z gj' hP hz => ?_⟩
      unfold updBy
      rw [if_neg ek]
      exact ⟨f1, ga ++ (gj' ++ gb), by rw [List.append_assoc], ⟨h1, hP _ _ f1 (fun b hb => .inl (List.mem_append_left _ hb)) h2⟩, i3 P' z gj' (fun p q c hc => hP p q c fun b hb => (hc b hb).elim (fun z => .inl (List.mem_append_right _ z)) .inr) hz⟩
  | [], _ :: _, _, _, h, _ => h.elim
  | _ :: _, [], _, _, h, _ => h.elim
/-- one list of those that a dict holds: grown by an item -/
theorem dapp_core {κ α : Type} [DecidableEq κ] {key : α → Option κ} {u : Ty} {kvs : List (κ × V)} {d : List (α × List (den u))} {g : List Addr} {x : α} {kk : κ} {xs : List (den u)} (ek : key x = some kk) (gd : ∀ b ∈ g, Good E L H b) (hnd : g.Nodup) (lr : ∀ a, L a → (H a).isSome = true)
    (h3 : F3 (KidD K H L key (.own (.list u))) kvs d g) (hg : getBy key d x = some xs) :
    ∃ c vs gc gx gy, valV kvs kk = some (.ref c) ∧ g = gx ++ ((c :: gc) ++ gy) ∧ H c = some (.lst vs) ∧ F3 (Kid K H L u) vs xs gc ∧
      ∀ (H2 : Hp) (Lr : Reg) (fd : List Addr) (w : V) (y : den u), Same H H2 → Nw H H2 (· ∈ fd) → Nw H H2 Lr → fd.Nodup → (rO K H2 (fun b => L b ∨ Lr b) u).1 w y fd →
        F3 (KidD K (upd H2 c (.lst (vs ++ [w]))) (fun b => L b ∨ Lr b) key (.own (.list u))) kvs (updBy key d x (xs ++ [y])) (gx ++ ((c :: (gc ++ fd)) ++ gy)) ∧ (gx ++ ((c :: (gc ++ fd)) ++ gy)).Nodup ∧ ∀ b ∈ gx ++ ((c :: (gc ++ fd)) ++ gy), b ∈ g ∨ b ∈ fd := by
  obtain ⟨v, gx, gj, gy, hv, rfl, hk, hF⟩ := f3_at (P := Kid K H L (.own (.list u))) ek h3 hg
  rcases hk with hk | ⟨hk, _⟩
  · obtain ⟨c, vs, gc, rfl, rfl, hc, hi⟩ := hk
    have nd1 := List.nodup_append.mp hnd
    have nd2 := List.nodup_append.mp nd1.2.1
    have nd3 := List.nodup_cons.mp nd2.1
    have gc' : Good E L H c := gd c (List.mem_append_right _ (List.mem_append_left _ List.mem_cons_self))
    have cx : ∀ b ∈ gx, b ≠ c := fun b hb z => nd1.2.2 b hb c (List.mem_append_left _ List.mem_cons_self) z
    have cy : ∀ b ∈ gy, b ≠ c := fun b hb z => nd2.2.2 c List.mem_cons_self b hb z.symm
    have cc : ∀ b ∈ gc, b ≠ c := fun b hb z => nd3.1 (z ▸ hb)
    have at_ : ∀ b ∈ gx ++ ((c :: gc) ++ gy), (H b).isSome = true := fun b hb => (gd b hb).at_
    refine ⟨c, vs, gc, gx, gy, hv, rfl, hc, hi, fun H2 Lr fd w y s hfd hLr nfd hw => ?_⟩
    have hc2 := s _ _ hc
    have st : Stb H2 (upd H2 c (.lst (vs ++ [w]))) := Stb.upd hc2 rfl
    have stH : Stb H (upd H2 c (.lst (vs ++ [w]))) := (Stb.of_same s).trans st
    have nc : ∀ b ∈ fd, b ≠ c := fun b hb z => by
      have := (hfd b hb).1
      rw [z, hc] at this
      cases this
    have nLr : ¬ Lr c := fun z => by
      have := (hLr c z).1
      rw [hc] at this
      cases this
    have cov : Cov H (upd H2 c (.lst (vs ++ [w]))) L (fun b => L b ∨ Lr b) := fun b q hb z => by
      have ne : b ≠ c := fun z => gc'.nl (z ▸ hb)
      refine ⟨.inl hb, ?_⟩
      rw [upd_ne ne, same_at s (lr b hb)]
      exact z
    have cov2 : Cov H2 (upd H2 c (.lst (vs ++ [w]))) (fun b => L b ∨ Lr b) (fun b => L b ∨ Lr b) := cov_upd fun z => z.elim gc'.nl nLr
    have foot : ∀ b, b ≠ c → (H b).isSome = true → upd H2 c (.lst (vs ++ [w])) b = H b := fun b ne hb => by rw [upd_ne ne, same_at s hb]
    have old : ∀ b ∈ fd, ∀ e ∈ gx ++ ((c :: gc) ++ gy), b ≠ e := fun b hb e he z => by
      have := at_ e he
      rw [← z, (hfd b hb).1] at this
      cases this
    refine ⟨hF (Kid K (upd H2 c (.lst (vs ++ [w]))) (fun b => L b ∨ Lr b) (.own (.list u))) (xs ++ [y]) (c :: (gc ++ fd)) (fun p q cs hcs z => kid_on cov stH (fun b hb => ?_) z) (.inl ⟨c, vs ++ [w], gc ++ fd, rfl, rfl, upd_same, F3.append (hi.imp fun p q cs hcs z => kid_on cov stH (fun b hb => ?_) z) ⟨fd, [], by simp, .inl ((rO_mono cov2 st u).1 w y fd (fun b hb => upd_ne (nc b hb)) hw), rfl⟩⟩), ?_, fun b hb => ?_⟩
    · rcases hcs b hb with h | h
      · exact foot b (cx b h) (at_ b (List.mem_append_left _ h))
      · exact foot b (cy b h) (at_ b (List.mem_append_right _ (List.mem_append_right _ h)))
    · have h := hcs b hb
      exact foot b (cc b h) (at_ b (List.mem_append_right _ (List.mem_append_left _ (List.mem_cons_of_mem _ h))))
    · refine List.nodup_append.mpr ⟨nd1.1, List.nodup_append.mpr ⟨List.nodup_cons.mpr ⟨fun z => ?_, List.nodup_append.mpr ⟨nd3.2, nfd, fun a ha b hb z => ?_⟩⟩, nd2.2.1, fun a ha b hb z => ?_⟩, fun a ha b hb z => ?_⟩
      · exact (List.mem_append.mp z).elim nd3.1 fun z => nc c z rfl
      · exact old b hb a (List.mem_append_right _ (List.mem_append_left _ (List.mem_cons_of_mem _ ha))) z.symm
      · rcases List.mem_cons.mp ha with e | ha
        · exact nd2.2.2 c List.mem_cons_self b hb (e ▸ z)
        · rcases List.mem_append.mp ha with ha | ha
          · exact nd2.2.2 a (List.mem_cons_of_mem _ ha) b hb z
          · exact old a ha b (List.mem_append_right _ (List.mem_append_right _ hb)) z
      · rcases List.mem_append.mp hb with hb | hb
        · rcases List.mem_cons.mp hb with e | hb
          · exact cx a ha (z.trans e)
          · rcases List.mem_append.mp hb with hb | hb
            · exact nd1.2.2 a ha b (List.mem_append_left _ (List.mem_cons_of_mem _ hb)) z
            · exact old b hb a (List.mem_append_left _ ha) z.symm
        · exact nd1.2.2 a ha b (List.mem_append_right _ hb) z
    · rcases List.mem_append.mp hb with hb | hb
      · exact .inl (List.mem_append_left _ hb)
      · rcases List.mem_append.mp hb with hb | hb
        · rcases List.mem_cons.mp hb with e | hb
          · exact .inl (List.mem_append_right _ (List.mem_append_left _ (e ▸ List.mem_cons_self)))
          · rcases List.mem_append.mp hb with hb | hb
            · exact .inl (List.mem_append_right _ (List.mem_append_left _ (List.mem_cons_of_mem _ hb)))
            · exact .inr hb
        · exact .inl (List.mem_append_right _ (List.mem_append_right _ hb))
  · cases hk
def fUpdK {k : Ty} {β : Type} (d : List (den k × β)) (x : den k) (y : β) : List (den k × β) := if k.tk = true then updBy (keyT k) d x y else updBy (keyS k) d x y
/-- d[x].append(y) -/
def sDApp {ρ : Type} {ts : List Ty} {k u : Ty} (i : Mem ts (.dict k (.own (.list u)))) (G : Gam ts → Option (den k)) (F : Gam ts → Option (den u)) : Gam ts → Option (Fl (Gam ts) ρ) := fun Γ => (i.get Γ).bind fun d => (G Γ).bind fun x => (fGetK (β := List (den u)) d x).bind fun xs => (F Γ).bind fun y => if xs.length < sizeLine then some (.nx (i.set (some (fUpdK (β := List (den u)) d x (xs ++ [y]))) Γ)) else none
theorem rs_dapp {k u : Ty} (i : Mem ts (.dict k (.own (.list u)))) {n : Nat} {m' : Em} {te ty : TE} {F : Gam ts → Option (den u)} {G : Gam ts → Option (den k)} (h' : RP K ms ts ty m' k G) (h : RP K ms ts te .o u F) (hk : okKey k = true := by rfl) (hm : ms[i.ix]? = some .o := by rfl) (hn : i.ix = n := by rfl) :
    RS K ms ts (tDrop (tBM K "list" rAppend (tDGet (tVar n) ty) (tCons te tNil))) rm ρ (sDApp i G F) := fun E L Γ σ H D f o e p => by
  subst hn
  obtain ⟨d, e1, e⟩ := bind_some e
  obtain ⟨x, e3, e⟩ := bind_some e
  obtain ⟨xs, e4, e⟩ := bind_some e
  obtain ⟨y, e2, e⟩ := bind_some e
  split at e
  · rename_i hz
    cases e
    obtain ⟨v0, f0, q1, hr, hnd, gd, go⟩ := o.chg i hm e1
    obtain ⟨a, g, rfl, rfl, hr⟩ := hr
    have hnd' := List.nodup_cons.mp hnd
    have gdg : ∀ b ∈ g, Good E L H b := fun b hb => gd b (List.mem_cons_of_mem _ hb)
    have lr : ∀ a, L a → (H a).isSome = true := fun a h => (o.lr a h).2
    refine ⟨_, q1, h' E L Γ σ H [] _ x o e3 fun w' H1 s1 r1 => ?_⟩
    have core : ∀ {κ : Type} [DecidableEq κ] (key : den k → Option κ) (kvs : List (κ × V)) (kk : κ), key x = some kk → F3 (KidD K H L key (.own (.list u))) kvs d g → getBy key (β := List (den u)) d x = some xs → fUpdK (β := List (den u)) d x (xs ++ [y]) = updBy key d x (xs ++ [y]) →
        (∀ (H3 : Hp) (L3 : Reg) (g3 : List Addr) (d3 : List (den k × List (den u))), H3 a = H a → F3 (KidD K H3 L3 key (.own (.list u))) kvs d3 g3 → (rO K H3 L3 (.dict k (.own (.list u)))).1 (.ref a) d3 (a :: g3)) →
        ∃ c, valV kvs kk = some (.ref c) ∧ (tyV K "list" (.ref c) H1 ∧ tCons te tNil σ H1 fun zs H2 => rAppend (.ref c) zs H2 fun _ H3 => D.nx σ H3) := fun {κ} _ key kvs kk ek h3 hget hupd hrep => by
      obtain ⟨c, vs, gc, gx, gy, hv, eg, hc, hi, fin⟩ := dapp_core ek gdg hnd'.2 lr h3 hget
      refine ⟨c, hv, .inl ⟨rfl, vs, .of (s1 _ _ hc)⟩, h E L Γ σ H1 [] _ y (o.same s1) e2 fun w H2 s2 r2 => ?_⟩
      obtain ⟨fd, Lr, j1, j2, j3, j4, j5⟩ := r2
      have s12 := s1.trans s2
      obtain ⟨k1, k2, k3⟩ := fin H2 Lr fd w y s12 (nw_old s1 j3) (nw_old s1 j4) j2 j1
      refine ⟨c, vs, w, rfl, rfl, s12 _ _ hc, by rw [hi.length]; exact hz, ?_⟩
      have hcg : c ∈ g := by rw [eg]; exact List.mem_append_right _ (List.mem_append_left _ List.mem_cons_self)
      have hca : a ≠ c := fun z => hnd'.1 (z ▸ hcg)
      have st : Stb H2 (upd H2 c (.lst (vs ++ [w]))) := Stb.upd (s12 _ _ hc) rfl
      have aH := (gd a List.mem_cons_self).at_
      obtain ⟨o', ev⟩ := go H2 (upd H2 c (.lst (vs ++ [w]))) fd Lr (fUpdK (β := List (den u)) d x (xs ++ [y])) (a :: (gx ++ ((c :: (gc ++ fd)) ++ gy))) s12 (nw_old s1 j3) (nw_old s1 j4) j5 (upd_oth (List.mem_cons_of_mem _ hcg)) upd_up st
        (by
          rw [hupd]
          exact hrep _ _ _ _ (by rw [upd_ne hca, same_at s12 aH]) k1)
        (List.nodup_cons.mpr ⟨fun z => (k3 a z).elim hnd'.1 fun z => (by
          have := (nw_old s1 j3 a z).1
          rw [this] at aH
          cases aH), k2⟩)
        (fun b hb => by
          rcases List.mem_cons.mp hb with z | hb
          · exact .inl (z ▸ List.mem_cons_self)
          · exact (k3 b hb).elim (fun z => .inl (List.mem_cons_of_mem _ z)) .inr)
      exact p _ σ _ o' ev
    rcases key_of hk r1.b with ⟨k1, key, rfl, ek⟩ | ⟨k1, ks, b, rfl, hb, ek⟩
    · rcases hr with ⟨_, kvs, hl, hk3⟩ | ⟨k2, _⟩
      · unfold fGetK at e4
        rw [k1, if_neg Bool.false_ne_true] at e4
        obtain ⟨c, hv, hq⟩ := core (keyS k) kvs key ek hk3 e4 (by unfold fUpdK; rw [k1, if_neg Bool.false_ne_true]) fun H3 L3 g3 d3 ha h3 => ⟨a, g3, rfl, rfl, .inl ⟨k1, kvs, ha.trans hl, h3⟩⟩
        exact ⟨a, .ref c, rfl, .inl ⟨kvs, key, .inl (s1 _ _ hl), rfl, hv.symm⟩, hq⟩
      · rw [k1] at k2
        cases k2
    · rcases hr with ⟨k2, _⟩ | ⟨_, kvs, hl, hk3⟩
      · rw [k1] at k2
        cases k2
      · unfold fGetK at e4
        rw [if_pos k1] at e4
        obtain ⟨c, hv, hq⟩ := core (keyT k) kvs ks ek hk3 e4 (by unfold fUpdK; rw [if_pos k1]) fun H3 L3 g3 d3 ha h3 => ⟨a, g3, rfl, rfl, .inr ⟨k1, kvs, ha.trans hl, h3⟩⟩
        exact ⟨a, .ref c, rfl, .inr ⟨kvs, ks, b, .inl (s1 _ _ hl), rfl, hb, hv.symm⟩, hq⟩
  · cases e
theorem rp_own {te : TE} {m : Em} {t : Ty} {F : Gam ts → Option (den t)} (h : RP K ms ts te m t F) : RP K ms ts te m (.own t) F := fun E L Γ σ H xt Q d o e q => h E L Γ σ H xt Q d o e fun v H' s r => q v H' s (by cases m <;> exact r)
end
end VV

/-! VMore10: more of texts and numbers. -/
namespace VV
open PySem L2
open PyProof.Rows hiding St

section
variable {K : PySem.W.Frag} {E : Ent} {ms ms' : List Md} {ts : List Ty} {L L1 : Reg} {Γ Γ1 : Gam ts} {σ σ1 : St} {H H' H0 H1 H2 : Hp} {xt : List Addr} {rm : Rm} {ρ : Ty}
theorem f2_strs {R : Reg} : ∀ {vs : List V} {ds : List Str}, F2 (rS K H R .str).1 vs ds → vs = ds.map V.str
  | [], [], _ => rfl
  | v :: vs, d :: ds, h => by
    have h1 : v = .str d := h.1.1
    rw [h1, f2_strs h.2]
    rfl
  | [], _ :: _, h => h.elim
  | _ :: _, [], h => h.elim
theorem strs_f2 {R : Reg} : ∀ {ds : List Str}, ds.all PyData.strOk = true → F2 (rS K H R .str).1 (ds.map V.str) ds
  | [], _ => True.intro
  | d :: ds, h => by
    rw [List.all_cons, Bool.and_eq_true] at h
    exact ⟨⟨rfl, h.1⟩, strs_f2 h.2⟩
/-- a.join(xs) -/
def fJoin (a : Str) (ys : List Str) : Option Str := okIf (decide ((ys.map (·.length)).sum + ys.length * a.length ≤ 16777216) && PyData.strOk (Txt.join a ys)) (Txt.join a ys)
abbrev rJoin (K : PySem.W.Frag) : V → List V → Hp → VK → Prop := fun x xs H Q => ∃ a p, ∃ ys : List Str, x = .str a ∧ xs = [.ref p] ∧ (SqL K H p (ys.map V.str) ∨ SqT K H p (ys.map V.str)) ∧ (ys.map (·.length)).sum + ys.length * a.length ≤ 16777216 ∧ Q (.str (Txt.join a ys)) H
theorem rp_join {m m1 m2 : Em} {to te : TE} {F : Gam ts → Option Str} {G : Gam ts → Option (List Str)} (h : RP K ms ts to m1 .str F) (h' : RP K ms ts te m2 (.list .str) G) : RP K ms ts (tM1 (rJoin K) to te) m .str (e2 fJoin F G) := fun E L Γ σ H xt Q d o e q => by
  obtain ⟨a, ea, e⟩ := bind_some e
  obtain ⟨ys, ey, e⟩ := bind_some e
  dsimp only [fJoin, okIf] at e
  split at e
  · rename_i hz
    cases e
    rw [Bool.and_eq_true] at hz
    refine h E L Γ σ H xt _ a o ea fun v H1 s1 r1 => ?_
    cases (show v = .str a from r1.b.1)
    refine ⟨⟨a, rfl⟩, h' E L Γ σ H1 xt _ ys (o.same s1) ey fun w H2 s2 r2 => ?_⟩
    obtain ⟨p, vs, rfl, h1, h2⟩ := r2.b
    have := f2_strs h2
    subst this
    exact ⟨a, p, ys, rfl, rfl, .inl h1.seq, of_decide_eq_true hz.1, q _ H2 (s1.trans s2) (rep_atom rfl ⟨rfl, hz.2⟩)⟩
  · cases e
theorem pe_joinK {X : Cx} (K : PySem.W.Frag) (hK : X.K = K) {o e : Expr} {to te : TE} {apos pos : Pos} (ho : PE X o to) (he : PE X e te) (hs : starEach [e] X.env = [(false, eval e X.env)] := by rfl) (hbase : attributeBase o "join" X.env (eval o X.env) = eval o X.env := by rfl) (hline : (apos.endLine == pos.line) = true := by rfl) :
    PE X (.Call (.Attribute o "join" apos) [e] [] pos) (tM1 (rJoin K) to te) := by
  subst hK
  exact pe_join ho he hs hbase hline
/-- a.split(b) -/
def fSplit (a b : Str) : Option (List Str) := okIf ((b.length != 0) && (decide (a.length + 2 ≤ sizeLine) && (Txt.split a b).all PyData.strOk)) (Txt.split a b)
abbrev rSplit : V → List V → Hp → VK → Prop := fun x xs H Q => ∃ a b, x = .str a ∧ xs = [.str b] ∧ (b.length == 0) = false ∧ a.length + 2 ≤ sizeLine ∧ rNewStrs (Txt.split a b) H Q
theorem rp_split {m1 m2 : Em} {to te : TE} {F G : Gam ts → Option Str} (h : RP K ms ts to m1 .str F) (h' : RP K ms ts te m2 .str G) : RP K ms ts (tM1 rSplit to te) .o (.list .str) (e2 fSplit F G) := fun E L Γ σ H xt Q d o e q => by
  obtain ⟨a, ea, e⟩ := bind_some e
  obtain ⟨b, eb, e⟩ := bind_some e
  dsimp only [fSplit, okIf] at e
  split at e
  · rename_i hz
    cases e
    rw [Bool.and_eq_true, Bool.and_eq_true] at hz
    refine h E L Γ σ H xt _ a o ea fun v H1 s1 r1 => ?_
    cases (show v = .str a from r1.b.1)
    refine ⟨⟨a, rfl⟩, h' E L Γ σ H1 xt _ b (o.same s1) eb fun w H2 s2 r2 => ?_⟩
    cases (show w = .str b from r2.b.1)
    refine ⟨a, b, rfl, rfl, by simpa using hz.1, of_decide_eq_true hz.2.1, fun p hp => ?_⟩
    obtain ⟨s, r⟩ := rep_newL (K := K) (E := E) (L := L) (t := .str) (R := fun _ => True) rfl (s1.trans s2) hp (strs_f2 hz.2.2)
    exact q _ _ s r
  · cases e
/-- a.partition(b) -/
def fPartition (a b : Str) : Option (Str × Str × Str) := okIf ((b.length != 0) && (decide (a.length ≤ sizeLine) && (PyData.strOk (Txt.partition a b).1 && (PyData.strOk (Txt.partition a b).2.1 && PyData.strOk (Txt.partition a b).2.2)))) ((Txt.partition a b).1, (Txt.partition a b).2.1, (Txt.partition a b).2.2)
abbrev rPartition : V → List V → Hp → VK → Prop := fun x xs H Q => ∃ a b, x = .str a ∧ xs = [.str b] ∧ (b.length == 0) = false ∧ a.length ≤ sizeLine ∧
      ∀ p, H p = none → Q (.ref p) (upd H p (.tup [.str (Txt.partition a b).1, .str (Txt.partition a b).2.1, .str (Txt.partition a b).2.2]))
theorem rp_partition {m m1 m2 : Em} {to te : TE} {F G : Gam ts → Option Str} (h : RP K ms ts to m1 .str F) (h' : RP K ms ts te m2 .str G) : RP K ms ts (tM1 rPartition to te) m (.tup (.cons .str (.cons .str (.last .str)))) (e2 fPartition F G) := fun E L Γ σ H xt Q d o e q => by
  obtain ⟨a, ea, e⟩ := bind_some e
  obtain ⟨b, eb, e⟩ := bind_some e
  dsimp only [fPartition, okIf] at e
  split at e
  · rename_i hz
    cases e
    simp only [Bool.and_eq_true] at hz
    refine h E L Γ σ H xt _ a o ea fun v H1 s1 r1 => ?_
    cases (show v = .str a from r1.b.1)
    refine ⟨⟨a, rfl⟩, h' E L Γ σ H1 xt _ b (o.same s1) eb fun w H2 s2 r2 => ?_⟩
    cases (show w = .str b from r2.b.1)
    refine ⟨a, b, rfl, rfl, by simpa using hz.1, of_decide_eq_true hz.2.1, fun p hp => ?_⟩
    refine q _ _ ((s1.trans s2).trans (same_new hp)) (Rep.frz (R := fun _ => True) rfl m ⟨p, _, rfl, upd_same, _, _, rfl, ⟨rfl, hz.2.2.1⟩, _, _, rfl, ⟨rfl, hz.2.2.2.1⟩, _, rfl, rfl, hz.2.2.2.2⟩)
  · cases e
/-- abs, max, min, int of a truth, int of a text -/
theorem rp_abs {m m' : Em} {te : TE} {F : Gam ts → Option Int} (h : RP K ms ts te m' .int F) : RP K ms ts (tCB (fun xs H Q => ∃ i, xs = [.int i] ∧ Q (.int (if i < 0 then -i else i)) H) (tCons te tNil)) m .int (e1 (fun i => some (if i < 0 then -i else i)) F) := fun E L Γ σ H xt Q d o e q => by
  obtain ⟨a, ea, e⟩ := bind_some e
  cases e
  refine h E L Γ σ H xt _ a o ea fun v H1 s1 r1 => ?_
  cases (show v = .int a from r1.b)
  exact ⟨a, rfl, q _ H1 s1 (rep_atom rfl rfl)⟩
theorem rp_max2 {m m1 m2 : Em} {ta tb : TE} {F G : Gam ts → Option Int} (h : RP K ms ts ta m1 .int F) (h' : RP K ms ts tb m2 .int G) : RP K ms ts (tCB (fun xs H Q => ∃ i j, xs = [.int i, .int j] ∧ Q (.int (if j > i then j else i)) H) (tCons ta (tCons tb tNil))) m .int (e2 (fun i j => some (if j > i then j else i)) F G) := fun E L Γ σ H xt Q d o e q => by
  obtain ⟨a, ea, e⟩ := bind_some e
  obtain ⟨b, eb, e⟩ := bind_some e
  cases e
  refine h E L Γ σ H xt _ a o ea fun v H1 s1 r1 => h' E L Γ σ H1 xt _ b (o.same s1) eb fun w H2 s2 r2 => ?_
  cases (show v = .int a from r1.b)
  cases (show w = .int b from r2.b)
  exact ⟨a, b, rfl, q _ H2 (s1.trans s2) (rep_atom rfl rfl)⟩
theorem rp_min2 {m m1 m2 : Em} {ta tb : TE} {F G : Gam ts → Option Int} (h : RP K ms ts ta m1 .int F) (h' : RP K ms ts tb m2 .int G) : RP K ms ts (tCB (fun xs H Q => ∃ i j, xs = [.int i, .int j] ∧ Q (.int (if j < i then j else i)) H) (tCons ta (tCons tb tNil))) m .int (e2 (fun i j => some (if j < i then j else i)) F G) := fun E L Γ σ H xt Q d o e q => by
  obtain ⟨a, ea, e⟩ := bind_some e
  obtain ⟨b, eb, e⟩ := bind_some e
  cases e
  refine h E L Γ σ H xt _ a o ea fun v H1 s1 r1 => h' E L Γ σ H1 xt _ b (o.same s1) eb fun w H2 s2 r2 => ?_
  cases (show v = .int a from r1.b)
  cases (show w = .int b from r2.b)
  exact ⟨a, b, rfl, q _ H2 (s1.trans s2) (rep_atom rfl rfl)⟩
theorem rp_intB {m m' : Em} {te : TE} {F : Gam ts → Option Bool} (h : RP K ms ts te m' .bool F) : RP K ms ts (tCB (fun xs H Q => (∃ i, xs = [.int i] ∧ Q (.int i) H) ∨ ∃ k, xs = [.bl k] ∧ Q (.int (if k then 1 else 0)) H) (tCons te tNil)) m .int (e1 (fun k => some (if k = true then 1 else 0)) F) := fun E L Γ σ H xt Q d o e q => by
  obtain ⟨a, ea, e⟩ := bind_some e
  cases e
  refine h E L Γ σ H xt _ a o ea fun v H1 s1 r1 => ?_
  cases (show v = .bl a from r1.b)
  exact .inr ⟨a, rfl, q _ H1 s1 (rep_atom rfl rfl)⟩
def fIntS (a : Str) : Option Int := if a.length ≤ 640 then PySem.intText? a else none
theorem rp_intS {m m' : Em} {te : TE} {F : Gam ts → Option Str} (h : RP K ms ts te m' .str F) : RP K ms ts (tCB (fun xs H Q => ∃ a n, xs = [.str a] ∧ PySem.intText? a = some n ∧ a.length ≤ 640 ∧ Q (.int n) H) (tCons te tNil)) m .int (e1 fIntS F) := fun E L Γ σ H xt Q d o e q => by
  obtain ⟨a, ea, e⟩ := bind_some e
  unfold fIntS at e
  split at e
  · rename_i hz
    refine h E L Γ σ H xt _ a o ea fun v H1 s1 r1 => ?_
    cases (show v = .str a from r1.b.1)
    exact ⟨a, d, rfl, e, hz, q _ H1 s1 (rep_atom rfl rfl)⟩
  · cases e
end
end VV

/-! VMore11: all, any over lists of truths. -/
namespace L2
open PySem PySem.Spec PyProof.Rows
section
variable {X : Cx}
def rAllD (K : PySem.W.Frag) : List V → Hp → VK → Prop := fun xs H Q => ∃ (a : Addr) (ds : List PyData), xs = [.ref a] ∧ Dp K H (.ref a) (.list ds) ∧ PyData.plainAll ds = true ∧ (∀ x ∈ ds, x.fits63) ∧ Q (.bl (ds.all PyData.truthy)) H
def rAnyD (K : PySem.W.Frag) : List V → Hp → VK → Prop := fun xs H Q => ∃ (a : Addr) (ds : List PyData), xs = [.ref a] ∧ Dp K H (.ref a) (.list ds) ∧ PyData.plainAll ds = true ∧ (∀ x ∈ ds, x.fits63) ∧ Q (.bl (ds.any PyData.truthy)) H
theorem call_allD (hc : X.calm = true) : CallR X (.builtin "all") (rAllD X.K) := by
  intro pins s σ H xs us Q I r h
  obtain ⟨a, ds, rfl, hl, hp, hf, q⟩ := h
  cases r with
  | cons r rt =>
    cases rt
    cases r
    cases hl with
    | lst hs ha =>
      obtain ⟨its, rv, pl, hz⟩ := I.list hs
      obtain ⟨as, h4⟩ := Dp.readsAll I ds _ its ha rv
      exact PySem.W.all_list_data (I.ok.hd hc) pl.isList h4 hp hf fun h' tk hk => ⟨.bl _, H, I.kept (t' := tk) hk, rfl, q⟩
theorem call_anyD (hc : X.calm = true) : CallR X (.builtin "any") (rAnyD X.K) := by
  intro pins s σ H xs us Q I r h
  obtain ⟨a, ds, rfl, hl, hp, hf, q⟩ := h
  cases r with
  | cons r rt =>
    cases rt
    cases r
    cases hl with
    | lst hs ha =>
      obtain ⟨its, rv, pl, hz⟩ := I.list hs
      obtain ⟨as, h4⟩ := Dp.readsAll I ds _ its ha rv
      exact PySem.W.any_list_data (I.ok.hd hc) pl.isList h4 hp hf fun h' tk hk => ⟨.bl _, H, I.kept (t' := tk) hk, rfl, q⟩
end
end L2
namespace VV
open PySem L2
open PyProof.Rows hiding St
section
variable {K : PySem.W.Frag} {E : Ent} {ms ms' : List Md} {ts : List Ty} {L L1 : Reg} {Γ Γ1 : Gam ts} {σ σ1 : St} {H H' H0 H1 H2 : Hp} {xt : List Addr} {rm : Rm} {ρ : Ty}
theorem bools_ok (ds : List Bool) : PyData.plainAll (ds.map (emb .bool).1) = true ∧ (∀ x ∈ ds.map (emb .bool).1, x.fits63) ∧ (ds.map (emb .bool).1).all PyData.truthy = ds.all id ∧ (ds.map (emb .bool).1).any PyData.truthy = ds.any id := by
  refine ⟨?_, fun x hx => ?_, by rw [List.all_map]; rfl, by rw [List.any_map]; rfl⟩
  · induction ds with
    | nil => rfl
    | cons d ds ih =>
      rw [List.map_cons, PyData.plainAll, ih]
      rfl
  · obtain ⟨b, _, rfl⟩ := List.mem_map.mp hx
    exact True.intro
abbrev fAll (d : List Bool) : Option Bool := some (d.all id)
abbrev fAny (d : List Bool) : Option Bool := some (d.any id)
theorem rp_all {m m' : Em} {te : TE} {F : Gam ts → Option (List Bool)} (h : RP K ms ts te m' (.list .bool) F) : RP K ms ts (tCB (rAllD K) (tCons te tNil)) m .bool (e1 fAll F) := fun E L Γ σ H xt Q d o e q => by
  obtain ⟨a, ea, e⟩ := bind_some e
  cases e
  refine h E L Γ σ H xt _ a o ea fun v H1 s1 r1 => ?_
  have hd := (rS_dp (.list .bool) rfl).1 v a r1.b
  obtain ⟨p, vs, rfl, _⟩ := r1.b
  obtain ⟨k1, k2, k3, _⟩ := bools_ok a
  exact ⟨p, _, rfl, hd, k1, k2, by rw [k3]; exact q _ H1 s1 (rep_atom rfl rfl)⟩
theorem rp_any_ {m m' : Em} {te : TE} {F : Gam ts → Option (List Bool)} (h : RP K ms ts te m' (.list .bool) F) : RP K ms ts (tCB (rAnyD K) (tCons te tNil)) m .bool (e1 fAny F) := fun E L Γ σ H xt Q d o e q => by
  obtain ⟨a, ea, e⟩ := bind_some e
  cases e
  refine h E L Γ σ H xt _ a o ea fun v H1 s1 r1 => ?_
  have hd := (rS_dp (.list .bool) rfl).1 v a r1.b
  obtain ⟨p, vs, rfl, _⟩ := r1.b
  obtain ⟨k1, k2, _, k3⟩ := bools_ok a
  exact ⟨p, _, rfl, hd, k1, k2, by rw [k3]; exact q _ H1 s1 (rep_atom rfl rfl)⟩
end
end VV

/-! VMore12: sum, max, min of a list of ints. -/
namespace VV
open PySem L2
open PyProof.Rows hiding St
section
variable {K : PySem.W.Frag} {E : Ent} {ms ms' : List Md} {ts : List Ty} {L L1 : Reg} {Γ Γ1 : Gam ts} {σ σ1 : St} {H H' H0 H1 H2 : Hp} {xt : List Addr} {rm : Rm} {ρ : Ty}
theorem f2_intsV {R : Reg} : ∀ {vs : List V} {ds : List Int}, F2 (rS K H R .int).1 vs ds → vs = ds.map V.int
  | [], [], _ => rfl
  | v :: vs, d :: ds, h => by
    have h1 : v = .int d := h.1
    rw [h1, f2_intsV h.2]
    rfl
  | [], _ :: _, h => h.elim
  | _ :: _, [], h => h.elim
abbrev fSum (d : List Int) : Option Int := some d.sum
theorem rp_sum {m m' : Em} {te : TE} {F : Gam ts → Option (List Int)} (h : RP K ms ts te m' (.list .int) F) : RP K ms ts (tCB (rSum K) (tCons te tNil)) m .int (e1 fSum F) := fun E L Γ σ H xt Q d o e q => by
  obtain ⟨a, ea, e⟩ := bind_some e
  cases e
  refine h E L Γ σ H xt _ a o ea fun v H1 s1 r1 => ?_
  obtain ⟨p, vs, rfl, h1, h2⟩ := r1.b
  have := f2_intsV h2
  subst this
  exact ⟨p, a, rfl, h1.seq, q _ H1 s1 (rep_atom rfl rfl)⟩
def fMaxL (d : List Int) : Option Int := d.max?
def fMinL (d : List Int) : Option Int := d.min?
theorem rp_maxL {m m' : Em} {te : TE} {F : Gam ts → Option (List Int)} (h : RP K ms ts te m' (.list .int) F) : RP K ms ts (tCB (rMax K) (tCons te tNil)) m .int (e1 fMaxL F) := fun E L Γ σ H xt Q d o e q => by
  obtain ⟨a, ea, e⟩ := bind_some e
  refine h E L Γ σ H xt _ a o ea fun v H1 s1 r1 => ?_
  obtain ⟨p, vs, rfl, h1, h2⟩ := r1.b
  have := f2_intsV h2
  subst this
  have e : a.max? = some d := e
  rw [List.max?_eq_some_iff] at e
  refine ⟨p, a, rfl, h1.seq, List.length_pos_of_mem e.1, fun m' hm hmax => ?_⟩
  have : m' = d := Int.le_antisymm (e.2 m' hm) (hmax d e.1)
  subst this
  exact q _ H1 s1 (rep_atom rfl rfl)
theorem rp_minL {m m' : Em} {te : TE} {F : Gam ts → Option (List Int)} (h : RP K ms ts te m' (.list .int) F) : RP K ms ts (tCB (rMin K) (tCons te tNil)) m .int (e1 fMinL F) := fun E L Γ σ H xt Q d o e q => by
  obtain ⟨a, ea, e⟩ := bind_some e
  refine h E L Γ σ H xt _ a o ea fun v H1 s1 r1 => ?_
  obtain ⟨p, vs, rfl, h1, h2⟩ := r1.b
  have := f2_intsV h2
  subst this
  have e : a.min? = some d := e
  rw [List.min?_eq_some_iff] at e
  refine ⟨p, a, rfl, h1.seq, List.length_pos_of_mem e.1, fun m' hm hmin => ?_⟩
  have : m' = d := Int.le_antisymm (hmin d e.1) (e.2 m' hm)
  subst this
  exact q _ H1 s1 (rep_atom rfl rfl)
end
end VV

/-! VPure: tools for the plain laws about mirrors. -/
namespace VV
open PySem L2

/-! ### loops -/
theorem forL_inv {G ρ α : Type} {bind : α → G → G} {mask : G → G} {body : G → Option (Fl G ρ)} (I : List α → G → Prop) : ∀ (xs pre : List α) (Γ : G), I pre Γ →
    (∀ p x q Γ, pre ++ xs = p ++ x :: q → I p Γ → ∃ Γ', (body (bind x Γ) = some (.nx Γ') ∨ body (bind x Γ) = some (.ct Γ')) ∧ I (p ++ [x]) (mask Γ')) → ∃ Γ', forL bind mask body xs Γ = some (.nx Γ') ∧ I (pre ++ xs) Γ'
  | [], pre, Γ, h, _ => ⟨Γ, rfl, by simpa using h⟩
  | x :: xs, pre, Γ, h, hs => by
    obtain ⟨Γ', e, h'⟩ := hs pre x xs Γ rfl h
    obtain ⟨Γ2, e2, h2⟩ := forL_inv I xs (pre ++ [x]) (mask Γ') h' fun p y q Γ e => hs p y q Γ (by rw [← e]; simp)
    refine ⟨Γ2, ?_, by simpa using h2⟩
    rcases e with e | e
    · rw [forL, e]; exact e2
    · rw [forL, e]; exact e2
/-- a loop whose turns are known: the state by a letter s -/
theorem forL_fold {G ρ α S : Type} {bind : α → G → G} {mask : G → G} {body : G → Option (Fl G ρ)} (st : S → G) (step : S → α → S) : ∀ (xs : List α) (s : S), (∀ s x, x ∈ xs → ∃ Γ', body (bind x (st s)) = some (.nx Γ') ∧ mask Γ' = st (step s x)) →
    forL bind mask body xs (st s) = some (.nx (st (xs.foldl step s)))
  | [], s, _ => rfl
  | x :: xs, s, h => by
    obtain ⟨Γ', e, e'⟩ := h s x List.mem_cons_self
    rw [forL, e]
    show forL bind mask body xs (mask Γ') = _
    rw [e']
    exact forL_fold st step xs (step s x) fun s y hy => h s y (List.mem_cons_of_mem _ hy)
/-- a search: a turn goes on, or hands back -/
theorem forL_find {G ρ α : Type} {bind : α → G → G} {mask : G → G} {body : G → Option (Fl G ρ)} {Γ : G} (r : α → Option ρ) : ∀ (xs : List α), (∀ x ∈ xs, (r x = none ∧ ∃ Γ', body (bind x Γ) = some (.nx Γ') ∧ mask Γ' = Γ) ∨ ∃ d Γ', r x = some d ∧ body (bind x Γ) = some (.rt d Γ')) →
    (xs.findSome? r = none → forL bind mask body xs Γ = some (.nx Γ)) ∧ ∀ d, xs.findSome? r = some d → ∃ Γ', forL bind mask body xs Γ = some (.rt d Γ')
  | [], _ => ⟨fun _ => rfl, fun d h => by simp at h⟩
  | x :: xs, h => by
    have ih := forL_find r xs fun y hy => h y (List.mem_cons_of_mem _ hy)
    rcases h x List.mem_cons_self with ⟨h1, Γ', e, e'⟩ | ⟨d, Γ', h1, e⟩
    · rw [List.findSome?_cons, h1, forL, e]
      show (_ → forL bind mask body xs (mask Γ') = _) ∧ ∀ d, _ → ∃ Γ', forL bind mask body xs (mask _) = _
      rw [e']
      exact ih
    · rw [List.findSome?_cons, h1, forL, e]
      exact ⟨fun h => by simp at h, fun d' h => ⟨Γ', by cases h; rfl⟩⟩

theorem sFor_inv {G ρ α : Type} {F : G → Option (List α)} {bind : α → G → G} {mask : G → G} {body : G → Option (Fl G ρ)} {Γ : G} {xs : List α} (I : List α → G → Prop) (hF : F Γ = some xs) (h0 : I [] (mask Γ))
    (hs : ∀ p x q Γ, xs = p ++ x :: q → I p Γ → ∃ Γ', (body (bind x Γ) = some (.nx Γ') ∨ body (bind x Γ) = some (.ct Γ')) ∧ I (p ++ [x]) (mask Γ')) : ∃ Γ', sFor F bind mask body Γ = some (.nx Γ') ∧ I xs Γ' := by
  unfold sFor
  rw [hF]
  exact forL_inv I xs [] (mask Γ) h0 hs
theorem sFor_fold {G ρ α S : Type} {F : G → Option (List α)} {bind : α → G → G} {mask : G → G} {body : G → Option (Fl G ρ)} {Γ : G} {xs : List α} (st : S → G) (step : S → α → S) (s : S) (hF : F Γ = some xs) (h0 : mask Γ = st s)
    (hs : ∀ s x, x ∈ xs → ∃ Γ', body (bind x (st s)) = some (.nx Γ') ∧ mask Γ' = st (step s x)) : sFor F bind mask body Γ = some (.nx (st (xs.foldl step s))) := by
  unfold sFor
  rw [hF]
  show forL bind mask body xs (mask Γ) = _
  rw [h0]
  exact forL_fold st step xs s hs
theorem sFor_find {G ρ α : Type} {F : G → Option (List α)} {bind : α → G → G} {mask : G → G} {body : G → Option (Fl G ρ)} {Γ Γ0 : G} {xs : List α} (r : α → Option ρ) (hF : F Γ = some xs) (h0 : mask Γ = Γ0)
    (hs : ∀ x ∈ xs, (r x = none ∧ ∃ Γ', body (bind x Γ0) = some (.nx Γ') ∧ mask Γ' = Γ0) ∨ ∃ d Γ', r x = some d ∧ body (bind x Γ0) = some (.rt d Γ')) :
    (xs.findSome? r = none → sFor F bind mask body Γ = some (.nx Γ0)) ∧ ∀ d, xs.findSome? r = some d → ∃ Γ', sFor F bind mask body Γ = some (.rt d Γ') := by
  unfold sFor
  rw [hF]
  subst h0
  exact forL_find r xs hs
/-- every turn goes on -/
theorem sFor_all {G ρ α : Type} {F : G → Option (List α)} {bind : α → G → G} {mask : G → G} {body : G → Option (Fl G ρ)} {Γ Γ0 : G} {xs : List α} (hF : F Γ = some xs) (h0 : mask Γ = Γ0)
    (hs : ∀ x ∈ xs, ∃ Γ', body (bind x Γ0) = some (.nx Γ') ∧ mask Γ' = Γ0) : sFor F bind mask body Γ = some (.nx Γ0) :=
  (sFor_find (fun _ => none) hF h0 fun x hx => .inl ⟨rfl, hs x hx⟩).1 (by
    rw [List.findSome?_eq_none_iff]
    exact fun _ _ => rfl)
theorem sSeq_nx {G ρ : Type} {F F' : G → Option (Fl G ρ)} {Γ Γ' : G} (h : F Γ = some (.nx Γ')) : sSeq F F' Γ = F' Γ' := by
  unfold sSeq
  rw [h]
  rfl
theorem sSeq_rt {G ρ : Type} {F F' : G → Option (Fl G ρ)} {Γ Γ' : G} {d : ρ} (h : F Γ = some (.rt d Γ')) : sSeq F F' Γ = some (.rt d Γ') := by
  unfold sSeq
  rw [h]
  rfl
theorem rng_split {n : Nat} {p q : List Int} {x : Int} (h : rng 0 (n : Int) = p ++ x :: q) : p.length < n ∧ x = (p.length : Int) := by
  have h1 := congrArg List.length h
  rw [rng_len] at h1
  simp only [List.length_append, List.length_cons] at h1
  have h2 : p.length < n := by omega
  have h3 := rng_get (lo := 0) (hi := (n : Int)) (i := p.length) (by omega)
  rw [h] at h3
  simp at h3
  exact ⟨h2, h3⟩
theorem fRng1_of {n : Nat} (h : n < 2 ^ 60) : fRng1 (n : Int) = some (rng 0 n) := by
  unfold fRng1 okIf
  rw [if_pos (decide_eq_true (by omega))]

/-! ### numbers -/
theorem mulOk_of {i j : Int} (a b : Nat) (ha : i.natAbs < 2 ^ a) (hb : j.natAbs < 2 ^ b) (h : a + b ≤ 999998) : mulOk i j = true := by
  refine decide_eq_true ?_
  have h1 : i.natAbs.log2 < a + 1 := PySem.Flt.log2_lt_of (Nat.succ_pos a) (Nat.lt_of_lt_of_le ha (Nat.pow_le_pow_right (by decide) (Nat.le_succ a)))
  have h2 : j.natAbs.log2 < b + 1 := PySem.Flt.log2_lt_of (Nat.succ_pos b) (Nat.lt_of_lt_of_le hb (Nat.pow_le_pow_right (by decide) (Nat.le_succ b)))
  omega
theorem divOk_of {j : Int} (b : Nat) (h : 0 < j) (hb : j.natAbs < 2 ^ b) (hb' : b ≤ 8999) : divOk j = true := by
  refine decide_eq_true ⟨h, ?_⟩
  have h2 : j.natAbs.log2 < b + 1 := PySem.Flt.log2_lt_of (Nat.succ_pos b) (Nat.lt_of_lt_of_le hb (Nat.pow_le_pow_right (by decide) (Nat.le_succ b)))
  omega
theorem abs_mul {i j : Int} {a b : Nat} (ha : i.natAbs < 2 ^ a) (hb : j.natAbs < 2 ^ b) : (i * j).natAbs < 2 ^ (a + b) := wide_lt ha hb
theorem abs_add {i j : Int} {a : Nat} (ha : i.natAbs < 2 ^ a) (hb : j.natAbs < 2 ^ a) : (i + j).natAbs < 2 ^ (a + 1) := by
  have h1 := Int.natAbs_add_le i j
  have : 2 ^ (a + 1) = 2 ^ a + 2 ^ a := by rw [Nat.pow_succ]; omega
  omega
theorem abs_le {i : Int} {a b : Nat} (h : i.natAbs < 2 ^ a) (hab : a ≤ b) : i.natAbs < 2 ^ b := Nat.lt_of_lt_of_le h (Nat.pow_le_pow_right (by decide) hab)
theorem abs_mod {i j : Int} {b : Nat} (h : 0 < j) (hb : j.natAbs < 2 ^ b) : (i % j).natAbs < 2 ^ b := by
  have h1 := Int.emod_nonneg i (Int.ne_of_gt h)
  have h2 := Int.emod_lt_of_pos i h
  omega
theorem okIf_true {α : Type} {c : Bool} {a : α} (h : c = true) : okIf c a = some a := by rw [h]; rfl

/-! ### one sign in a text -/
theorem fInS_one (x : Str) (c : Nat) : fInS ⟨#[c]⟩ x = some (decide (c ∈ x.cps.toList)) := congrArg some (StrLaws.found_one x c)


/-! ### == is equality -/
def Ty.isRow : Ty → Bool
  | .last _ => true
  | .cons _ _ => true
  | _ => false
/-- never None -/
def Ty.nn : Ty → Bool
  | .non => false
  | .opt _ => false
  | .any => false
  | .own t => !t.isRow && t.nn
  | _ => true
/-- == is equality -/
def Ty.inj : Ty → Bool
  | .any => false
  | .dict _ _ => false
  | .opt t => !t.isRow && (t.nn && t.inj)
  | .vtup t => !t.isRow && t.inj
  | .list t => !t.isRow && t.inj
  | .own t => !t.isRow && t.inj
  | .tup b => b.isRow && b.inj
  | .last a => !a.isRow && a.inj
  | .cons a b => !a.isRow && (a.inj && (b.isRow && b.inj))
  | _ => true
theorem nn_emb : ∀ (t : Ty), t.nn = true → t.isRow = false → ∀ a : den t, (emb t).1 a ≠ .none
  | .bool, _, _, a => by simp [emb]
  | .int, _, _, a => by simp [emb]
  | .str, _, _, a => by simp [emb]
  | .vtup _, _, _, a => by simp [emb]
  | .list _, _, _, a => by simp [emb]
  | .dict _ _, _, _, a => by simp [emb]
  | .own t, h, _, a => by
    simp only [Ty.nn, Bool.and_eq_true, Bool.not_eq_true'] at h
    exact nn_emb t h.2 h.1 a
  | .tup _, _, _, a => by simp [emb]
  | .non, h, _, _ => by cases h
  | .opt _, h, _, _ => by cases h
  | .any, h, _, _ => by cases h
theorem eqvAll_map_iff {α : Type} {f : α → PyData} (h : ∀ a b : α, PyData.eqv (f a) (f b) = true ↔ a = b) : ∀ xs ys : List α, PyData.eqvAll (xs.map f) (ys.map f) = true ↔ xs = ys
  | [], [] => by simp [PyData.eqvAll]
  | [], _ :: _ => by simp [PyData.eqvAll]
  | _ :: _, [] => by simp [PyData.eqvAll]
  | x :: xs, y :: ys => by
    simp only [List.map_cons, PyData.eqvAll, Bool.and_eq_true, h x y, eqvAll_map_iff h xs ys, List.cons.injEq]
theorem eqv_none : ∀ {p : PyData}, p ≠ .none → PyData.eqv .none p = false ∧ PyData.eqv p .none = false := fun {p} h => by
  cases p <;> first | exact absurd rfl h | exact ⟨rfl, rfl⟩
theorem eqv_iff : ∀ t : Ty, t.inj = true → (t.isRow = false → ∀ a b : den t, PyData.eqv ((emb t).1 a) ((emb t).1 b) = true ↔ a = b) ∧ (t.isRow = true → ∀ a b : den t, PyData.eqvAll ((emb t).2 a) ((emb t).2 b) = true ↔ a = b) := by
  intro t
  induction t with
  | non => exact fun _ => ⟨fun _ a b => by simp [emb, PyData.eqv], fun h => by cases h⟩
  | bool => exact fun _ => ⟨fun _ a b => by simp [emb, PyData.eqv], fun h => by cases h⟩
  | int => exact fun _ => ⟨fun _ a b => by simp [emb, PyData.eqv], fun h => by cases h⟩
  | str => exact fun _ => ⟨fun _ a b => by simp [emb, PyData.eqv], fun h => by cases h⟩
  | any => exact fun h => by cases h
  | dict _ _ => exact fun h => by cases h
  | opt t ih =>
    intro q
    simp only [Ty.inj, Bool.and_eq_true, Bool.not_eq_true'] at q
    refine ⟨fun _ a b => ?_, fun h => by cases h⟩
    have h1 := (ih q.2.2).1 q.1
    cases a with
    | none =>
      cases b with
      | none => simp [emb, PyData.eqv]
      | some y => simp [emb, (eqv_none (nn_emb t q.2.1 q.1 y)).1]
    | some x =>
      cases b with
      | none => simp [emb, (eqv_none (nn_emb t q.2.1 q.1 x)).2]
      | some y => simpa [emb] using h1 x y
  | vtup t ih =>
    intro q
    simp only [Ty.inj, Bool.and_eq_true, Bool.not_eq_true'] at q
    exact ⟨fun _ a b => by simpa [emb, PyData.eqv] using eqvAll_map_iff ((ih q.2).1 q.1) a b, fun h => by cases h⟩
  | list t ih =>
    intro q
    simp only [Ty.inj, Bool.and_eq_true, Bool.not_eq_true'] at q
    exact ⟨fun _ a b => by simpa [emb, PyData.eqv] using eqvAll_map_iff ((ih q.2).1 q.1) a b, fun h => by cases h⟩
  | own t ih =>
    intro q
    simp only [Ty.inj, Bool.and_eq_true, Bool.not_eq_true'] at q
    exact ⟨fun _ => (ih q.2).1 q.1, fun h => by cases h⟩
  | tup b ih =>
    intro q
    simp only [Ty.inj, Bool.and_eq_true] at q
    exact ⟨fun _ a b' => by simpa [emb, PyData.eqv] using (ih q.2).2 q.1 a b', fun h => by cases h⟩
  | last a ih =>
    intro q
    simp only [Ty.inj, Bool.and_eq_true, Bool.not_eq_true'] at q
    exact ⟨fun h => (by cases h), fun _ x y => (by simpa [emb, PyData.eqvAll] using (ih q.2).1 q.1 x y)⟩
  | cons a b iha ihb =>
    intro q
    simp only [Ty.inj, Bool.and_eq_true, Bool.not_eq_true'] at q
    refine ⟨fun h => (by cases h), fun _ x y => ?_⟩
    have h1 := (iha q.2.1).1 q.1 x.1 y.1
    have h2 := (ihb q.2.2.2).2 q.2.2.1 x.2 y.2
    simp only [emb, PyData.eqvAll, Bool.and_eq_true, h1, h2]
    exact ⟨fun h => Prod.ext h.1 h.2, fun h => by rw [h]; exact ⟨rfl, rfl⟩⟩
def okEq (t : Ty) : Bool := !t.isRow && t.inj
theorem eqv_eq {t : Ty} (h : okEq t = true) (a b : den t) : PyData.eqv ((emb t).1 a) ((emb t).1 b) = true ↔ a = b := by
  simp only [okEq, Bool.and_eq_true, Bool.not_eq_true'] at h
  exact (eqv_iff t h.2).1 h.1 a b
open Classical in
theorem fEqD_eq {t : Ty} (h : okEq t = true) (a b : den t) : fEqD t a b = some (decide (a = b)) := by
  unfold fEqD
  congr 1
  rw [Bool.eq_iff_iff, eqv_eq h, decide_eq_true_iff]
open Classical in
theorem fNeD_eq {t : Ty} (h : okEq t = true) (a b : den t) : fNeD t a b = some (!decide (a = b)) := by
  unfold fNeD
  rw [show PyData.eqv ((emb t).1 a) ((emb t).1 b) = decide (a = b) from by rw [Bool.eq_iff_iff, eqv_eq h, decide_eq_true_iff]]
open Classical in
theorem fEqD_same {t : Ty} (h : okEq t = true) (a : den t) : fEqD t a a = some true := by
  rw [fEqD_eq h, decide_eq_true rfl]
open Classical in
theorem fNeD_same {t : Ty} (h : okEq t = true) (a : den t) : fNeD t a a = some false := by
  rw [fNeD_eq h, decide_eq_true rfl]
  rfl
open Classical in
theorem fEqD_ne {t : Ty} (h : okEq t = true) {a b : den t} (hn : a ≠ b) : fEqD t a b = some false := by
  rw [fEqD_eq h, decide_eq_false hn]
open Classical in
theorem fNeD_ne {t : Ty} (h : okEq t = true) {a b : den t} (hn : a ≠ b) : fNeD t a b = some true := by
  rw [fNeD_eq h, decide_eq_false hn]
  rfl
open Classical in
theorem fInD_eq {t : Ty} (h : okEq t = true) (a : den t) (b : List (den t)) : fInD t a b = some (decide (a ∈ b)) := by
  unfold fInD
  congr 1
  rw [Bool.eq_iff_iff, List.any_eq_true, decide_eq_true_iff]
  constructor
  · rintro ⟨x, hx, e⟩
    rw [eqv_eq h] at e
    exact e ▸ hx
  · exact fun hx => ⟨a, hx, (eqv_eq h a a).mpr rfl⟩
open Classical in
theorem fNotInD_eq {t : Ty} (h : okEq t = true) (a : den t) (b : List (den t)) : fNotInD t a b = some (!decide (a ∈ b)) := by
  have := fInD_eq h a b
  unfold fInD at this
  unfold fNotInD
  rw [Option.some.inj this]
open Classical in
theorem fInD_mem {t : Ty} (h : okEq t = true) {a : den t} {b : List (den t)} (hm : a ∈ b) : fInD t a b = some true := by
  rw [fInD_eq h, decide_eq_true hm]
open Classical in
theorem fInD_not {t : Ty} (h : okEq t = true) {a : den t} {b : List (den t)} (hm : a ∉ b) : fInD t a b = some false := by
  rw [fInD_eq h, decide_eq_false hm]
open Classical in
theorem fNotInD_mem {t : Ty} (h : okEq t = true) {a : den t} {b : List (den t)} (hm : a ∈ b) : fNotInD t a b = some false := by
  rw [fNotInD_eq h, decide_eq_true hm]
  rfl
open Classical in
theorem fNotInD_not {t : Ty} (h : okEq t = true) {a : den t} {b : List (den t)} (hm : a ∉ b) : fNotInD t a b = some true := by
  rw [fNotInD_eq h, decide_eq_false hm]
  rfl
/-! ### comprehensions, slices, searches -/
theorem lcL_all {G α β : Type} {bind : α → G → G} {elt : G → Option β} {Γ : G} (f : α → β) : ∀ (xs : List α), (∀ x ∈ xs, elt (bind x Γ) = some (f x)) → lcL bind eYes elt Γ xs = some (xs.map f)
  | [], _ => rfl
  | x :: xs, h => by
    show (some true).bind _ = _
    rw [Option.bind_some, if_pos rfl, h x List.mem_cons_self, Option.bind_some, lcL_all f xs fun y hy => h y (List.mem_cons_of_mem _ hy)]
    rfl
theorem lcL_filter {G α β : Type} {bind : α → G → G} {cond : G → Option Bool} {elt : G → Option β} {Γ : G} (c : α → Bool) (f : α → β) : ∀ (xs : List α), (∀ x ∈ xs, cond (bind x Γ) = some (c x)) → (∀ x ∈ xs, c x = true → elt (bind x Γ) = some (f x)) → lcL bind cond elt Γ xs = some ((xs.filter c).map f)
  | [], _, _ => rfl
  | x :: xs, h, h' => by
    have ih := lcL_filter c f xs (fun y hy => h y (List.mem_cons_of_mem _ hy)) fun y hy => h' y (List.mem_cons_of_mem _ hy)
    show (cond (bind x Γ)).bind _ = _
    rw [h x List.mem_cons_self, Option.bind_some]
    cases hc : c x with
    | true => rw [if_pos rfl, h' x List.mem_cons_self hc, Option.bind_some, ih, List.filter_cons_of_pos hc]; rfl
    | false => rw [if_neg Bool.false_ne_true, ih, List.filter_cons_of_neg (by simp [hc])]
theorem eLc_of {G α β : Type} {src : G → Option (List α)} {bind : α → G → G} {mask : G → G} {cond : G → Option Bool} {elt : G → Option β} {Γ : G} {xs : List α} {r : List β} (h1 : src Γ = some xs) (h2 : lcL bind cond elt (mask Γ) xs = some r) (h3 : lenOk r.length = true) : eLc src bind mask cond elt Γ = some r := by
  unfold eLc
  rw [h1, Option.bind_some, h2, Option.bind_some]
  exact okIf_true h3
theorem lenOk_le {n : Nat} (h : n ≤ 100000) : lenOk n = true := by
  refine decide_eq_true ?_
  rw [sizeLine_eq]
  omega
theorem cut_len {α : Type} (xs : List α) (lo hi : Option Int) : (cutD xs lo hi).length ≤ xs.length := by
  unfold cutD
  rw [List.length_take, List.length_drop]
  omega
theorem cut_mem {α : Type} {xs : List α} {lo hi : Option Int} {x : α} (h : x ∈ cutD xs lo hi) : x ∈ xs := List.mem_of_mem_drop (List.mem_of_mem_take h)
theorem atI_of {α : Type} {xs : List α} {i : Int} (h0 : 0 ≤ i) (h1 : i < xs.length) : atI xs i = some (xs[i.toNat]'(by omega)) := by
  obtain ⟨n, rfl⟩ := Int.eq_ofNat_of_zero_le h0
  exact atI_nat (List.getElem?_eq_getElem (by omega))
theorem atI_some {α : Type} {xs : List α} {i : Int} (h0 : 0 ≤ i) (h1 : i < xs.length) : ∃ x, atI xs i = some x ∧ x ∈ xs := ⟨_, atI_of h0 h1, List.getElem_mem _⟩
theorem divOk_nat {n : Nat} (h : 0 < n) (h' : n < 2 ^ 200) : divOk (n : Int) = true := divOk_of 200 (by omega) (by simpa using h') (by decide)
end VV

namespace Law
open PySem L2 VV
def topS (i : Nat) : Stmt := PySem.Challenge.pw_readgrove_k80_grammars_written.main.body.getD i (.Pass ⟨0, 0, 0, 0⟩)
structure Txt (K : PySem.W.Frag) (mg : Str → Option Value) : Prop where
  b_all : mg "all" = none
  b_bool : mg "bool" = none
  b_int : mg "int" = none
  b_isinstance : mg "isinstance" = none
  b_len : mg "len" = none
  b_list : mg "list" = none
  b_range : mg "range" = none
  b_str : mg "str" = none
  b_tuple : mg "tuple" = none
  c_FIGURES : ∃ t, mg "FIGURES" = some (.str "0123456789" t)
  c_GREAT_grammars : ∃ t, mg "GREAT_grammars" = some (.str "ABCDEFGHIJKLMNOPQRSTUVWXYZ" t)
  c_GREAT_texts : ∃ t, mg "GREAT_texts" = some (.str "ABCDEFGHIJKLMNOPQRSTUVWXYZ" t)
  c_LONGEST : ∃ t, mg "LONGEST" = some (.int 8 t)
  c_MOST_FIGURES : ∃ t, mg "MOST_FIGURES" = some (.int 60 t)
  c_SMALL : ∃ t, mg "SMALL" = some (.str "abcdefghijklmnopqrstuvwxyz" t)
section
variable {P : Program} {w : World} {K : PySem.W.Frag} {mg : Str → Option Value} {base : Heap}
/-! ### _law_heads -/
abbrev s__law_heads : Stmt := topS 24
abbrev N__law_heads : List Str := ["cells", "found", "cell", "name", "k"]
abbrev P__law_heads : List Str := ["cells"]
theorem sc__law_heads : FnScope N__law_heads P__law_heads (defScope s__law_heads) := ⟨rfl, rfl, rfl, by decide +kernel, rfl, by decide +kernel, by decide +kernel⟩
abbrev g__law_heads : List Ty := [(Ty.list Ty.int), (Ty.list Ty.str), Ty.int, Ty.str, Ty.int]
abbrev M__law_heads : List Md := [.w, .o, .w, .w, .w]
abbrev v__law_heads_cells : Mem g__law_heads (Ty.list Ty.int) := .z
abbrev v__law_heads_found : Mem g__law_heads (Ty.list Ty.str) := (.s .z)
abbrev v__law_heads_cell : Mem g__law_heads Ty.int := (.s (.s .z))
abbrev v__law_heads_name : Mem g__law_heads Ty.str := (.s (.s (.s .z)))
abbrev v__law_heads_k : Mem g__law_heads Ty.int := (.s (.s (.s (.s .z))))
noncomputable def lc__law_heads_1 : Gam g__law_heads → Option (List (den Ty.str)) := hide (eLc (e1 fRng1 (e2 fAdd (eC (1 : Int)) (e2 fMod (e2 fDiv (eV (t := Ty.int) (v__law_heads_cell)) (eC (9 : Int))) (eC (8 : Int))))) (bName (t := Ty.int) (v__law_heads_k)) (Gam.mask [true, true, true, true, false]) eYes (e2 fIxS (eC (Str.ofString "QXYZABMN")) (e2 fMod (e2 fAdd (e2 fDiv (eV (t := Ty.int) (v__law_heads_cell)) (e2 fAdd (eV (t := Ty.int) (v__law_heads_k)) (eC (1 : Int)))) (e2 fMul (eV (t := Ty.int) (v__law_heads_k)) (eV (t := Ty.int) (v__law_heads_k)))) (eC (8 : Int)))))
theorem lc__law_heads_1_eq : lc__law_heads_1 = (eLc (e1 fRng1 (e2 fAdd (eC (1 : Int)) (e2 fMod (e2 fDiv (eV (t := Ty.int) (v__law_heads_cell)) (eC (9 : Int))) (eC (8 : Int))))) (bName (t := Ty.int) (v__law_heads_k)) (Gam.mask [true, true, true, true, false]) eYes (e2 fIxS (eC (Str.ofString "QXYZABMN")) (e2 fMod (e2 fAdd (e2 fDiv (eV (t := Ty.int) (v__law_heads_cell)) (e2 fAdd (eV (t := Ty.int) (v__law_heads_k)) (eC (1 : Int)))) (e2 fMul (eV (t := Ty.int) (v__law_heads_k)) (eV (t := Ty.int) (v__law_heads_k)))) (eC (8 : Int))))) := hide_eq _
noncomputable def lb__law_heads_1 : Gam g__law_heads → Option (Fl (Gam g__law_heads) (den (Ty.list Ty.str))) :=
  (sSeq (sSet (v__law_heads_cell) (e2 fMod (eV (t := Ty.int) (v__law_heads_cell)) (e2 fPow (eC (10 : Int)) (eC (40 : Int)))))
  (sSeq (sSet (v__law_heads_name) (e2 fJoin (eC (Str.ofString "")) lc__law_heads_1))
  (sSeq (sIf (e2 fEqI (e2 fMod (eV (t := Ty.int) (v__law_heads_cell)) (eC (3 : Int))) (eC (0 : Int))) (sSet (v__law_heads_name) (e2 fCat (e2 fCat (eV (t := Ty.str) (v__law_heads_name)) (eC (Str.ofString "_"))) (e1 fStrI (e2 fMod (e2 fDiv (eV (t := Ty.int) (v__law_heads_cell)) (eC (3 : Int))) (e2 atI (e1 fSmall (eSnoc (eC (10 : Int)) (eSnoc (eC (10000 : Int)) eNil))) (e2 fMod (e2 fDiv (eV (t := Ty.int) (v__law_heads_cell)) (eC (70 : Int))) (eC (2 : Int)))))))) sNext)
  (sIf (e2 (fNotInD Ty.str) (eV (t := Ty.str) (v__law_heads_name)) (eV (t := (Ty.list Ty.str)) (v__law_heads_found))) (sApp (v__law_heads_found) (eV (t := Ty.str) (v__law_heads_name))) sNext))))
noncomputable def lp__law_heads_1 : Gam g__law_heads → Option (Fl (Gam g__law_heads) (den (Ty.list Ty.str))) := hide (sFor (eV (t := (Ty.list Ty.int)) (v__law_heads_cells)) (bName (t := Ty.int) (v__law_heads_cell)) (Gam.mask [false, true, false, false, false]) lb__law_heads_1)
theorem lp__law_heads_1_eq : lp__law_heads_1 = (sFor (eV (t := (Ty.list Ty.int)) (v__law_heads_cells)) (bName (t := Ty.int) (v__law_heads_cell)) (Gam.mask [false, true, false, false, false]) lb__law_heads_1) := hide_eq _
noncomputable def b__law_heads : Gam g__law_heads → Option (Fl (Gam g__law_heads) (den (Ty.list Ty.str))) :=
  (sSeq (sSet (v__law_heads_found) (e1 fSmall eNil))
  (sSeq lp__law_heads_1
  (sRetM (v__law_heads_found))))
noncomputable def m__law_heads : den (Ty.last (Ty.list Ty.int)) → Option (den (Ty.list Ty.str)) := hide (runG (Ty.last (Ty.list Ty.int)) [(Ty.list Ty.str), Ty.int, Ty.str, Ty.int] b__law_heads)
theorem m__law_heads_eq (d : den (Ty.last (Ty.list Ty.int))) : m__law_heads d = runG (Ty.last (Ty.list Ty.int)) [(Ty.list Ty.str), Ty.int, Ty.str, Ty.int] b__law_heads d := congrFun (hide_eq _) d
theorem m__law_heads_at (p0 : den (Ty.list Ty.int)) : m__law_heads (p0) = endOf (b__law_heads ((some p0, none, none, none, none, ()) : Gam g__law_heads)) := by
  rw [m__law_heads_eq]
  rfl
set_option maxHeartbeats 4000000 in
theorem ok__law_heads {f : Addr} {fd : FuncData} (F : Fun K "_law_heads" "_law_heads" s__law_heads f fd) (T : Txt K mg) :
    FnOk P w K mg base CX0 1 f fd P__law_heads (spP K (Ty.last (Ty.list Ty.int)) .o (Ty.list Ty.str) m__law_heads) := by
  have S := sc__law_heads
  refine fn_ok (F := b__law_heads) [(Ty.list Ty.str), Ty.int, Ty.str, Ty.int] M__law_heads F S rfl rfl rfl m__law_heads_eq (fun cdv A outer s H E hr => ?_)
  refine ⟨_, (pss_cons (ps_set (i := 1) S.nd rfl (Or.inl rfl) (pe_lst pa_nil))
  (pss_cons (ps_for PassesOwn.never rfl (pi_listK K rfl (pv 0)) (pg_name (i := 2) S.nd rfl (Or.inr rfl)) (pss_cons (ps_set (i := 2) S.nd rfl (Or.inr rfl) (pe_op op_mod (pv 2) (pe_op op_pow pe_int pe_int)))
  (pss_cons (ps_set (i := 3) S.nd rfl (Or.inl rfl) (pe_joinK K rfl pe_str (pe_lc (own := [("k", 4)]) rfl S.nd (pi_range1 rfl T.b_range (pa_cons (pe_op op_add pe_int (pe_op op_mod (pe_op op_fdivW (pv 2) pe_int) pe_int)) pa_nil)) (blkOk_by (N := N__law_heads) (sc := defScope s__law_heads) (by decide +kernel)) (fun _ _ _ _ _ => (pg_name (i := 4) S.nd rfl (Or.inl rfl))) (fun _ _ _ _ _ => pts_nil) (fun _ _ _ _ _ => (pe_ix (r := rIxS) ix_str pe_str (pe_op op_mod (pe_op op_add (pe_op op_fdivW (pv 2) (pe_op op_add (pv 4) pe_int)) (pe_op op_mulW (pv 4) (pv 4))) pe_int) (fun _ _ => rfl))))))
  (pss_cons (ps_if (pt_cmpR op_eq (pe_op op_mod (pv 2) pe_int) pe_int (nomark _)) (pss_one (ps_set (i := 3) S.nd rfl (Or.inl rfl) (pe_op op_add_str (pe_op op_add_str (pv 3) pe_str) (pe_callTy call_str_int (by rfl) T.b_str (by decide +kernel) (pa_cons (pe_op op_mod (pe_op op_fdivW (pv 2) pe_int) (pe_ix (r := rIxL K) ix_list (pe_lst (pa_cons pe_int (pa_cons pe_int pa_nil))) (pe_op op_mod (pe_op op_fdivW (pv 2) pe_int) pe_int) (fun _ _ => rfl))) pa_nil))))) pss_nil)
  (pss_one (ps_if (pt_cmpR (r := rNotInD K) (op_notInD (hu65 hr)) (pv 3) (pv 1) (by rfl)) (pss_one (ps_expr (pe_bm PySem.F.plainAttrs_list PySem.F.slot_list_append PySem.F.type_list_append mt_append (pv 1) (pa_cons (pv 3) pa_nil)))) pss_nil))))))
  (pss_one (ps_ret (pv 1))))), ?_⟩
  exact (rs_seq (rs_set (ms := M__law_heads) (m := .o) (v__law_heads_found) (rp_list (t := Ty.str) rl_nil))
  (rs_seq (rs_hide (rs_for (w := true) (t := Ty.int) [false, true, false, false, false] (ri_list (w := true) (t := Ty.int) (rp_varw (ms := M__law_heads) (v__law_heads_cells))) (rg_name (ms := M__law_heads) (v__law_heads_cell)) (rs_seq (rs_set (ms := M__law_heads) (m := .w) (v__law_heads_cell) (rp_op (m1 := .b) (m2 := .b) v_mod (rp_frz .b (rp_varw (ms := M__law_heads) (v__law_heads_cell))) (rp_op (m1 := .b) (m2 := .b) v_pow rp_int rp_int)))
  (rs_seq (rs_set (ms := M__law_heads) (m := .w) (v__law_heads_name) (rp_join (m1 := .b) (m2 := .b) (rp_str) (rp_le (rp_hide (rp_lc (w := false) (m := .o) (t := Ty.int) (u := Ty.str) [true, true, true, true, false] [4] (ris_of (ri_rng1 (w := false) (m := .b) (ra_one (rp_op (m1 := .b) (m2 := .b) v_add rp_int (rp_op (m1 := .b) (m2 := .b) v_mod (rp_op (m1 := .b) (m2 := .b) v_div (rp_frz .b (rp_varw (ms := M__law_heads) (v__law_heads_cell))) rp_int) rp_int))))) (rg_name (ms := M__law_heads) (v__law_heads_k)) gw_name rt_yes (rp_op (m1 := .b) (m2 := .b) v_ixS (rp_str) (rp_op (m1 := .b) (m2 := .b) v_mod (rp_op (m1 := .b) (m2 := .b) v_add (rp_op (m1 := .b) (m2 := .b) v_div (rp_frz .b (rp_varw (ms := M__law_heads) (v__law_heads_cell))) (rp_op (m1 := .b) (m2 := .b) v_add (rp_frz .b (rp_varw (ms := M__law_heads) (v__law_heads_k))) rp_int)) (rp_op (m1 := .b) (m2 := .b) v_mul (rp_frz .b (rp_varw (ms := M__law_heads) (v__law_heads_k))) (rp_frz .b (rp_varw (ms := M__law_heads) (v__law_heads_k))))) rp_int)))))))
  (rs_seq (rs_if (rt_test (rp_op (m := .b) (m1 := .b) (m2 := .b) v_eqI (rp_op (m1 := .b) (m2 := .b) v_mod (rp_frz .b (rp_varw (ms := M__law_heads) (v__law_heads_cell))) rp_int) rp_int)) (rs_set (ms := M__law_heads) (m := .w) (v__law_heads_name) (rp_op (m1 := .b) (m2 := .b) v_cat (rp_op (m1 := .b) (m2 := .b) v_cat (rp_frz .b (rp_varw (ms := M__law_heads) (v__law_heads_name))) (rp_str)) (rp_strI (m' := .b) (rp_op (m1 := .b) (m2 := .b) v_mod (rp_op (m1 := .b) (m2 := .b) v_div (rp_frz .b (rp_varw (ms := M__law_heads) (v__law_heads_cell))) rp_int) (rp_op (m1 := .b) (m2 := .b) (v_ixL (t := Ty.int)) (rp_le (rp_list (t := Ty.int) (rl_cons rp_int (rl_cons rp_int rl_nil)))) (rp_op (m1 := .b) (m2 := .b) v_mod (rp_op (m1 := .b) (m2 := .b) v_div (rp_frz .b (rp_varw (ms := M__law_heads) (v__law_heads_cell))) rp_int) rp_int)))))) rs_next)
  (rs_if (rt_test (rp_op (m := .b) (m1 := .b) (m2 := .b) (v_notInD (t := Ty.str) (by decide)) (rp_frz .b (rp_varw (ms := M__law_heads) (v__law_heads_name))) (rp_var (ms := M__law_heads) (v__law_heads_found)))) (rs_app (ms := M__law_heads) (v__law_heads_found) (rp_frz .o (rp_varw (ms := M__law_heads) (v__law_heads_name)))) rs_next))))))
  (rs_retm (ms := M__law_heads) (v__law_heads_found))))
/-! ### _law_word -/
abbrev s__law_word : Stmt := topS 25
abbrev N__law_word : List Str := ["number", "k"]
abbrev P__law_word : List Str := ["number"]
theorem sc__law_word : FnScope N__law_word P__law_word (defScope s__law_word) := ⟨rfl, rfl, rfl, by decide +kernel, rfl, by decide +kernel, by decide +kernel⟩
abbrev g__law_word : List Ty := [Ty.int, Ty.int]
abbrev M__law_word : List Md := [.w, .w]
abbrev v__law_word_number : Mem g__law_word Ty.int := .z
abbrev v__law_word_k : Mem g__law_word Ty.int := (.s .z)
noncomputable def lc__law_word_1 : Gam g__law_word → Option (List (den Ty.str)) := hide (eLc (e1 fRng1 (e2 fAdd (eC (1 : Int)) (e2 fMod (e2 fDiv (eV (t := Ty.int) (v__law_word_number)) (eC (5 : Int))) (eC (8 : Int))))) (bName (t := Ty.int) (v__law_word_k)) (Gam.mask [true, false]) eYes (e2 fIxS (eC (Str.ofString "eatonihsr")) (e2 fMod (e2 fAdd (e2 fDiv (eV (t := Ty.int) (v__law_word_number)) (e2 fAdd (eV (t := Ty.int) (v__law_word_k)) (eC (1 : Int)))) (eV (t := Ty.int) (v__law_word_k))) (eC (9 : Int)))))
theorem lc__law_word_1_eq : lc__law_word_1 = (eLc (e1 fRng1 (e2 fAdd (eC (1 : Int)) (e2 fMod (e2 fDiv (eV (t := Ty.int) (v__law_word_number)) (eC (5 : Int))) (eC (8 : Int))))) (bName (t := Ty.int) (v__law_word_k)) (Gam.mask [true, false]) eYes (e2 fIxS (eC (Str.ofString "eatonihsr")) (e2 fMod (e2 fAdd (e2 fDiv (eV (t := Ty.int) (v__law_word_number)) (e2 fAdd (eV (t := Ty.int) (v__law_word_k)) (eC (1 : Int)))) (eV (t := Ty.int) (v__law_word_k))) (eC (9 : Int))))) := hide_eq _
noncomputable def b__law_word : Gam g__law_word → Option (Fl (Gam g__law_word) (den Ty.str)) :=
  (sRet (e2 fJoin (eC (Str.ofString "")) lc__law_word_1))
noncomputable def m__law_word : den (Ty.last Ty.int) → Option (den Ty.str) := hide (runG (Ty.last Ty.int) [Ty.int] b__law_word)
theorem m__law_word_eq (d : den (Ty.last Ty.int)) : m__law_word d = runG (Ty.last Ty.int) [Ty.int] b__law_word d := congrFun (hide_eq _) d
theorem m__law_word_at (p0 : den Ty.int) : m__law_word (p0) = endOf (b__law_word ((some p0, none, ()) : Gam g__law_word)) := by
  rw [m__law_word_eq]
  rfl
set_option maxHeartbeats 4000000 in
theorem ok__law_word {f : Addr} {fd : FuncData} (F : Fun K "_law_word" "_law_word" s__law_word f fd) (T : Txt K mg) :
    FnOk P w K mg base CX0 1 f fd P__law_word (spP K (Ty.last Ty.int) .o Ty.str m__law_word) := by
  have S := sc__law_word
  refine fn_ok (F := b__law_word) [Ty.int] M__law_word F S rfl rfl rfl m__law_word_eq (fun cdv A outer s H E hr => ?_)
  refine ⟨_, (pss_one (ps_ret (pe_joinK K rfl pe_str (pe_lc (own := [("k", 1)]) rfl S.nd (pi_range1 rfl T.b_range (pa_cons (pe_op op_add pe_int (pe_op op_mod (pe_op op_fdivW (pv 0) pe_int) pe_int)) pa_nil)) (blkOk_by (N := N__law_word) (sc := defScope s__law_word) (by decide +kernel)) (fun _ _ _ _ _ => (pg_name (i := 1) S.nd rfl (Or.inl rfl))) (fun _ _ _ _ _ => pts_nil) (fun _ _ _ _ _ => (pe_ix (r := rIxS) ix_str pe_str (pe_op op_mod (pe_op op_add (pe_op op_fdivW (pv 0) (pe_op op_add (pv 1) pe_int)) (pv 1)) pe_int) (fun _ _ => rfl))))))), ?_⟩
  exact (rs_ret (rm := .o) (ρ := Ty.str) (rp_join (m1 := .b) (m2 := .b) (rp_str) (rp_le (rp_hide (rp_lc (w := false) (m := .o) (t := Ty.int) (u := Ty.str) [true, false] [1] (ris_of (ri_rng1 (w := false) (m := .b) (ra_one (rp_op (m1 := .b) (m2 := .b) v_add rp_int (rp_op (m1 := .b) (m2 := .b) v_mod (rp_op (m1 := .b) (m2 := .b) v_div (rp_frz .b (rp_varw (ms := M__law_word) (v__law_word_number))) rp_int) rp_int))))) (rg_name (ms := M__law_word) (v__law_word_k)) gw_name rt_yes (rp_op (m1 := .b) (m2 := .b) v_ixS (rp_str) (rp_op (m1 := .b) (m2 := .b) v_mod (rp_op (m1 := .b) (m2 := .b) v_add (rp_op (m1 := .b) (m2 := .b) v_div (rp_frz .b (rp_varw (ms := M__law_word) (v__law_word_number))) (rp_op (m1 := .b) (m2 := .b) v_add (rp_frz .b (rp_varw (ms := M__law_word) (v__law_word_k))) rp_int)) (rp_frz .b (rp_varw (ms := M__law_word) (v__law_word_k)))) rp_int)))))))
/-! ### _law_rule -/
abbrev s__law_rule : Stmt := topS 26
abbrev N__law_rule : List Str := ["cell", "k", "heads", "name", "parts", "j", "one"]
abbrev P__law_rule : List Str := ["cell", "k", "heads"]
theorem sc__law_rule : FnScope N__law_rule P__law_rule (defScope s__law_rule) := ⟨rfl, rfl, rfl, by decide +kernel, rfl, by decide +kernel, by decide +kernel⟩
abbrev g__law_rule : List Ty := [Ty.int, Ty.int, (Ty.list Ty.str), Ty.str, (Ty.list Ty.str), Ty.int, Ty.int]
abbrev M__law_rule : List Md := [.w, .w, .w, .w, .o, .w, .w]
abbrev v__law_rule_cell : Mem g__law_rule Ty.int := .z
abbrev v__law_rule_k : Mem g__law_rule Ty.int := (.s .z)
abbrev v__law_rule_heads : Mem g__law_rule (Ty.list Ty.str) := (.s (.s .z))
abbrev v__law_rule_name : Mem g__law_rule Ty.str := (.s (.s (.s .z)))
abbrev v__law_rule_parts : Mem g__law_rule (Ty.list Ty.str) := (.s (.s (.s (.s .z))))
abbrev v__law_rule_j : Mem g__law_rule Ty.int := (.s (.s (.s (.s (.s .z)))))
abbrev v__law_rule_one : Mem g__law_rule Ty.int := (.s (.s (.s (.s (.s (.s .z))))))
noncomputable def lb__law_rule_1 : Gam g__law_rule → Option (Fl (Gam g__law_rule) (den (Ty.tup (Ty.cons Ty.str (Ty.cons (Ty.vtup Ty.str) (Ty.last Ty.int)))))) :=
  (sSeq (sSet (v__law_rule_one) (e2 fMod (e2 fDiv (e2 fAdd (eV (t := Ty.int) (v__law_rule_cell)) (e2 fMul (eV (t := Ty.int) (v__law_rule_j)) (eC (7919 : Int)))) (e2 fAdd (eC (11 : Int)) (eV (t := Ty.int) (v__law_rule_j)))) (e2 fPow (eC (10 : Int)) (eC (20 : Int)))))
  (sApp (v__law_rule_parts) (e2 atI (e1 fSmall (eSnoc (e1 m__law_word (e2 fDiv (eV (t := Ty.int) (v__law_rule_one)) (eC (2 : Int)))) (eSnoc (e2 atI (eV (t := (Ty.list Ty.str)) (v__law_rule_heads)) (e2 fMod (e2 fDiv (eV (t := Ty.int) (v__law_rule_one)) (eC (2 : Int))) (e1 fLen (eV (t := (Ty.list Ty.str)) (v__law_rule_heads))))) eNil))) (e2 fMod (eV (t := Ty.int) (v__law_rule_one)) (eC (2 : Int))))))
noncomputable def lp__law_rule_1 : Gam g__law_rule → Option (Fl (Gam g__law_rule) (den (Ty.tup (Ty.cons Ty.str (Ty.cons (Ty.vtup Ty.str) (Ty.last Ty.int)))))) := hide (sFor (e1 fRng1 (e2 fMod (eV (t := Ty.int) (v__law_rule_cell)) (eC (5 : Int)))) (bName (t := Ty.int) (v__law_rule_j)) (Gam.mask [true, false, true, true, true, false, false]) lb__law_rule_1)
theorem lp__law_rule_1_eq : lp__law_rule_1 = (sFor (e1 fRng1 (e2 fMod (eV (t := Ty.int) (v__law_rule_cell)) (eC (5 : Int)))) (bName (t := Ty.int) (v__law_rule_j)) (Gam.mask [true, false, true, true, true, false, false]) lb__law_rule_1) := hide_eq _
noncomputable def b__law_rule : Gam g__law_rule → Option (Fl (Gam g__law_rule) (den (Ty.tup (Ty.cons Ty.str (Ty.cons (Ty.vtup Ty.str) (Ty.last Ty.int)))))) :=
  (sSeq (sSet (v__law_rule_cell) (e2 fMod (eV (t := Ty.int) (v__law_rule_cell)) (e2 fPow (eC (10 : Int)) (eC (40 : Int)))))
  (sSeq (sSet (v__law_rule_name) (e2 atI (eV (t := (Ty.list Ty.str)) (v__law_rule_heads)) (e2 fMod (e2 fDiv (eV (t := Ty.int) (v__law_rule_cell)) (eC (7 : Int))) (e1 fLen (eV (t := (Ty.list Ty.str)) (v__law_rule_heads))))))
  (sSeq (sIf (e2 fLt (eV (t := Ty.int) (v__law_rule_k)) (e1 fLen (eV (t := (Ty.list Ty.str)) (v__law_rule_heads)))) (sSet (v__law_rule_name) (e2 atI (eV (t := (Ty.list Ty.str)) (v__law_rule_heads)) (eV (t := Ty.int) (v__law_rule_k)))) sNext)
  (sSeq (sSet (v__law_rule_parts) (e1 fSmall eNil))
  (sSeq lp__law_rule_1
  (sRet (eCons (eV (t := Ty.str) (v__law_rule_name)) (eCons (eV (t := (Ty.list Ty.str)) (v__law_rule_parts)) (e2 atI (e1 fSmall (eSnoc (eC (0 : Int)) (eSnoc (eC (0 : Int)) (eSnoc (e2 fMod (e2 fDiv (eV (t := Ty.int) (v__law_rule_cell)) (eC (50 : Int))) (eC (12 : Int))) (eSnoc (e2 fMod (e2 fMul (e2 fAdd (eV (t := Ty.int) (v__law_rule_cell)) (eC (1 : Int))) (e2 fAdd (eV (t := Ty.int) (v__law_rule_cell)) (eC (3 : Int)))) (e2 fPow (eC (10 : Int)) (eC (60 : Int)))) eNil))))) (e2 fMod (e2 fDiv (eV (t := Ty.int) (v__law_rule_cell)) (eC (5 : Int))) (eC (4 : Int))))))))))))
noncomputable def m__law_rule : den (Ty.cons Ty.int (Ty.cons Ty.int (Ty.last (Ty.list Ty.str)))) → Option (den (Ty.tup (Ty.cons Ty.str (Ty.cons (Ty.vtup Ty.str) (Ty.last Ty.int))))) := hide (runG (Ty.cons Ty.int (Ty.cons Ty.int (Ty.last (Ty.list Ty.str)))) [Ty.str, (Ty.list Ty.str), Ty.int, Ty.int] b__law_rule)
theorem m__law_rule_eq (d : den (Ty.cons Ty.int (Ty.cons Ty.int (Ty.last (Ty.list Ty.str))))) : m__law_rule d = runG (Ty.cons Ty.int (Ty.cons Ty.int (Ty.last (Ty.list Ty.str)))) [Ty.str, (Ty.list Ty.str), Ty.int, Ty.int] b__law_rule d := congrFun (hide_eq _) d
theorem m__law_rule_at (p0 : den Ty.int) (p1 : den Ty.int) (p2 : den (Ty.list Ty.str)) : m__law_rule (p0, p1, p2) = endOf (b__law_rule ((some p0, some p1, some p2, none, none, none, none, ()) : Gam g__law_rule)) := by
  rw [m__law_rule_eq]
  rfl
set_option maxHeartbeats 4000000 in
theorem ok__law_rule {f : Addr} {fd : FuncData} (F : Fun K "_law_rule" "_law_rule" s__law_rule f fd) (T : Txt K mg) {f__law_word : Addr} {fd__law_word : FuncData} (D__law_word : Df K mg "_law_word" "_law_word" s__law_word P__law_word f__law_word fd__law_word) (G__law_word : FnOk P w K mg base CX0 1 f__law_word fd__law_word P__law_word (spP K (Ty.last Ty.int) .o Ty.str m__law_word)) :
    FnOk P w K mg base CX0 2 f fd P__law_rule (spP K (Ty.cons Ty.int (Ty.cons Ty.int (Ty.last (Ty.list Ty.str)))) .o (Ty.tup (Ty.cons Ty.str (Ty.cons (Ty.vtup Ty.str) (Ty.last Ty.int)))) m__law_rule) := by
  have S := sc__law_rule
  refine fn_ok (F := b__law_rule) [Ty.str, (Ty.list Ty.str), Ty.int, Ty.int] M__law_rule F S rfl rfl rfl m__law_rule_eq (fun cdv A outer s H E hr => ?_)
  refine ⟨_, (pss_cons (ps_set (i := 0) S.nd rfl (Or.inl rfl) (pe_op op_mod (pv 0) (pe_op op_pow pe_int pe_int)))
  (pss_cons (ps_set (i := 3) S.nd rfl (Or.inl rfl) (pe_ix (r := rIxL K) ix_list (pv 2) (pe_op op_mod (pe_op op_fdivW (pv 0) pe_int) (pe_callB (r := rLen K) call_len (by rfl) T.b_len (by decide +kernel) (pa_cons (pv 2) pa_nil))) (fun _ _ => rfl)))
  (pss_cons (ps_if (pt_cmpR op_lt (pv 1) (pe_callB (r := rLen K) call_len (by rfl) T.b_len (by decide +kernel) (pa_cons (pv 2) pa_nil)) (nomark _)) (pss_one (ps_set (i := 3) S.nd rfl (Or.inl rfl) (pe_ix (r := rIxL K) ix_list (pv 2) (pv 1) (fun _ _ => rfl)))) pss_nil)
  (pss_cons (ps_set (i := 4) S.nd rfl (Or.inl rfl) (pe_lst pa_nil))
  (pss_cons (ps_for PassesOwn.never rfl (pi_range1 rfl T.b_range (pa_cons (pe_op op_mod (pv 0) pe_int) pa_nil)) (pg_name (i := 5) S.nd rfl (Or.inl rfl)) (pss_cons (ps_set (i := 6) S.nd rfl (Or.inl rfl) (pe_op op_mod (pe_op op_fdivW (pe_op op_add (pv 0) (pe_op op_mulW (pv 5) pe_int)) (pe_op op_add pe_int (pv 5))) (pe_op op_pow pe_int pe_int)))
  (pss_one (ps_expr (pe_bm PySem.F.plainAttrs_list PySem.F.slot_list_append PySem.F.type_list_append mt_append (pv 4) (pa_cons (pe_ix (r := rIxL K) ix_list (pe_lst (pa_cons (pe_call G__law_word (hr.mono (by decide)) rfl D__law_word.gl D__law_word.fn.kp D__law_word.bi .nil pass0 (pa_cons (pe_op op_fdivW (pv 6) pe_int) pa_nil)) (pa_cons (pe_ix (r := rIxL K) ix_list (pv 2) (pe_op op_mod (pe_op op_fdivW (pv 6) pe_int) (pe_callB (r := rLen K) call_len (by rfl) T.b_len (by decide +kernel) (pa_cons (pv 2) pa_nil))) (fun _ _ => rfl)) pa_nil))) (pe_op op_mod (pv 6) pe_int) (fun _ _ => rfl)) pa_nil))))))
  (pss_one (ps_ret (pe_tup (pa_cons (pv 3) (pa_cons (pe_callTy (r := rTupOf K) call_tuple_of (by rfl) T.b_tuple (by decide +kernel) (pa_cons (pv 4) pa_nil)) (pa_cons (pe_ix (r := rIxL K) ix_list (pe_lst (pa_cons pe_int (pa_cons pe_int (pa_cons (pe_op op_mod (pe_op op_fdivW (pv 0) pe_int) pe_int) (pa_cons (pe_op op_mod (pe_op op_mulW (pe_op op_add (pv 0) pe_int) (pe_op op_add (pv 0) pe_int)) (pe_op op_pow pe_int pe_int)) pa_nil))))) (pe_op op_mod (pe_op op_fdivW (pv 0) pe_int) pe_int) (fun _ _ => rfl)) pa_nil))))))))))), ?_⟩
  exact (rs_seq (rs_set (ms := M__law_rule) (m := .w) (v__law_rule_cell) (rp_op (m1 := .b) (m2 := .b) v_mod (rp_frz .b (rp_varw (ms := M__law_rule) (v__law_rule_cell))) (rp_op (m1 := .b) (m2 := .b) v_pow rp_int rp_int)))
  (rs_seq (rs_set (ms := M__law_rule) (m := .w) (v__law_rule_name) (rp_frz .w (rp_op (m1 := .b) (m2 := .b) (v_ixL (t := Ty.str)) (rp_le (rp_varw (ms := M__law_rule) (v__law_rule_heads))) (rp_op (m1 := .b) (m2 := .b) v_mod (rp_op (m1 := .b) (m2 := .b) v_div (rp_frz .b (rp_varw (ms := M__law_rule) (v__law_rule_cell))) rp_int) (rp_lenL (m' := .b) (rp_le (rp_varw (ms := M__law_rule) (v__law_rule_heads))))))))
  (rs_seq (rs_if (rt_test (rp_op (m := .b) (m1 := .b) (m2 := .b) v_lt (rp_frz .b (rp_varw (ms := M__law_rule) (v__law_rule_k))) (rp_lenL (m' := .b) (rp_le (rp_varw (ms := M__law_rule) (v__law_rule_heads)))))) (rs_set (ms := M__law_rule) (m := .w) (v__law_rule_name) (rp_frz .w (rp_op (m1 := .b) (m2 := .b) (v_ixL (t := Ty.str)) (rp_le (rp_varw (ms := M__law_rule) (v__law_rule_heads))) (rp_frz .b (rp_varw (ms := M__law_rule) (v__law_rule_k)))))) rs_next)
  (rs_seq (rs_set (ms := M__law_rule) (m := .o) (v__law_rule_parts) (rp_list (t := Ty.str) rl_nil))
  (rs_seq (rs_hide (rs_for (w := false) (t := Ty.int) [true, false, true, true, true, false, false] (ri_rng1 (w := false) (m := .b) (ra_one (rp_op (m1 := .b) (m2 := .b) v_mod (rp_frz .b (rp_varw (ms := M__law_rule) (v__law_rule_cell))) rp_int))) (rg_name (ms := M__law_rule) (v__law_rule_j)) (rs_seq (rs_set (ms := M__law_rule) (m := .w) (v__law_rule_one) (rp_op (m1 := .b) (m2 := .b) v_mod (rp_op (m1 := .b) (m2 := .b) v_div (rp_op (m1 := .b) (m2 := .b) v_add (rp_frz .b (rp_varw (ms := M__law_rule) (v__law_rule_cell))) (rp_op (m1 := .b) (m2 := .b) v_mul (rp_frz .b (rp_varw (ms := M__law_rule) (v__law_rule_j))) rp_int)) (rp_op (m1 := .b) (m2 := .b) v_add rp_int (rp_frz .b (rp_varw (ms := M__law_rule) (v__law_rule_j))))) (rp_op (m1 := .b) (m2 := .b) v_pow rp_int rp_int)))
  (rs_app (ms := M__law_rule) (v__law_rule_parts) (rp_frz .o (rp_op (m1 := .b) (m2 := .b) (v_ixL (t := Ty.str)) (rp_le (rp_list (t := Ty.str) (rl_cons (rp_call (mA := .b) (rm := .o) (ρ := Ty.str) (m := m__law_word) rfl (ra_one (rp_op (m1 := .b) (m2 := .b) v_div (rp_frz .b (rp_varw (ms := M__law_rule) (v__law_rule_one))) rp_int))) (rl_cons (rp_frz .o (rp_op (m1 := .b) (m2 := .b) (v_ixL (t := Ty.str)) (rp_le (rp_varw (ms := M__law_rule) (v__law_rule_heads))) (rp_op (m1 := .b) (m2 := .b) v_mod (rp_op (m1 := .b) (m2 := .b) v_div (rp_frz .b (rp_varw (ms := M__law_rule) (v__law_rule_one))) rp_int) (rp_lenL (m' := .b) (rp_le (rp_varw (ms := M__law_rule) (v__law_rule_heads))))))) rl_nil)))) (rp_op (m1 := .b) (m2 := .b) v_mod (rp_frz .b (rp_varw (ms := M__law_rule) (v__law_rule_one))) rp_int)))))))
  (rs_ret (rm := .o) (ρ := (Ty.tup (Ty.cons Ty.str (Ty.cons (Ty.vtup Ty.str) (Ty.last Ty.int))))) (rp_tup (ra_cons (rp_frz .o (rp_varw (ms := M__law_rule) (v__law_rule_name))) (ra_cons (rp_tupL (m' := .b) (t := Ty.str) (rp_var (ms := M__law_rule) (v__law_rule_parts))) (ra_one (rp_frz .o (rp_op (m1 := .b) (m2 := .b) (v_ixL (t := Ty.int)) (rp_le (rp_list (t := Ty.int) (rl_cons rp_int (rl_cons rp_int (rl_cons (rp_op (m1 := .b) (m2 := .b) v_mod (rp_op (m1 := .b) (m2 := .b) v_div (rp_frz .b (rp_varw (ms := M__law_rule) (v__law_rule_cell))) rp_int) rp_int) (rl_cons (rp_op (m1 := .b) (m2 := .b) v_mod (rp_op (m1 := .b) (m2 := .b) v_mul (rp_op (m1 := .b) (m2 := .b) v_add (rp_frz .b (rp_varw (ms := M__law_rule) (v__law_rule_cell))) rp_int) (rp_op (m1 := .b) (m2 := .b) v_add (rp_frz .b (rp_varw (ms := M__law_rule) (v__law_rule_cell))) rp_int)) (rp_op (m1 := .b) (m2 := .b) v_pow rp_int rp_int)) rl_nil)))))) (rp_op (m1 := .b) (m2 := .b) v_mod (rp_op (m1 := .b) (m2 := .b) v_div (rp_frz .b (rp_varw (ms := M__law_rule) (v__law_rule_cell))) rp_int) rp_int)))))))))))))
/-! ### _law_cell_at -/
abbrev s__law_cell_at : Stmt := topS 23
abbrev N__law_cell_at : List Str := ["script", "k"]
abbrev P__law_cell_at : List Str := ["script", "k"]
theorem sc__law_cell_at : FnScope N__law_cell_at P__law_cell_at (defScope s__law_cell_at) := ⟨rfl, rfl, rfl, by decide +kernel, rfl, by decide +kernel, by decide +kernel⟩
abbrev g__law_cell_at : List Ty := [(Ty.list Ty.int), Ty.int]
abbrev M__law_cell_at : List Md := [.w, .w]
abbrev v__law_cell_at_script : Mem g__law_cell_at (Ty.list Ty.int) := .z
abbrev v__law_cell_at_k : Mem g__law_cell_at Ty.int := (.s .z)
noncomputable def b__law_cell_at : Gam g__law_cell_at → Option (Fl (Gam g__law_cell_at) (den Ty.int)) :=
  (sSeq (sIf (e2 fLt (eV (t := Ty.int) (v__law_cell_at_k)) (e1 fLen (eV (t := (Ty.list Ty.int)) (v__law_cell_at_script)))) (sRet (e2 atI (eV (t := (Ty.list Ty.int)) (v__law_cell_at_script)) (eV (t := Ty.int) (v__law_cell_at_k)))) sNext)
  (sRet (eC (0 : Int))))
noncomputable def m__law_cell_at : den (Ty.cons (Ty.list Ty.int) (Ty.last Ty.int)) → Option (den Ty.int) := hide (runG (Ty.cons (Ty.list Ty.int) (Ty.last Ty.int)) [] b__law_cell_at)
theorem m__law_cell_at_eq (d : den (Ty.cons (Ty.list Ty.int) (Ty.last Ty.int))) : m__law_cell_at d = runG (Ty.cons (Ty.list Ty.int) (Ty.last Ty.int)) [] b__law_cell_at d := congrFun (hide_eq _) d
theorem m__law_cell_at_at (p0 : den (Ty.list Ty.int)) (p1 : den Ty.int) : m__law_cell_at (p0, p1) = endOf (b__law_cell_at ((some p0, some p1, ()) : Gam g__law_cell_at)) := by
  rw [m__law_cell_at_eq]
  rfl
set_option maxHeartbeats 4000000 in
theorem ok__law_cell_at {f : Addr} {fd : FuncData} (F : Fun K "_law_cell_at" "_law_cell_at" s__law_cell_at f fd) (T : Txt K mg) :
    FnOk P w K mg base CX0 1 f fd P__law_cell_at (spP K (Ty.cons (Ty.list Ty.int) (Ty.last Ty.int)) .o Ty.int m__law_cell_at) := by
  have S := sc__law_cell_at
  refine fn_ok (F := b__law_cell_at) [] M__law_cell_at F S rfl rfl rfl m__law_cell_at_eq (fun cdv A outer s H E hr => ?_)
  refine ⟨_, (pss_cons (ps_if (pt_cmpR op_lt (pv 1) (pe_callB (r := rLen K) call_len (by rfl) T.b_len (by decide +kernel) (pa_cons (pv 0) pa_nil)) (nomark _)) (pss_one (ps_ret (pe_ix (r := rIxL K) ix_list (pv 0) (pv 1) (fun _ _ => rfl)))) pss_nil)
  (pss_one (ps_ret pe_int))), ?_⟩
  exact (rs_seq (rs_if (rt_test (rp_op (m := .b) (m1 := .b) (m2 := .b) v_lt (rp_frz .b (rp_varw (ms := M__law_cell_at) (v__law_cell_at_k))) (rp_lenL (m' := .b) (rp_le (rp_varw (ms := M__law_cell_at) (v__law_cell_at_script)))))) (rs_ret (rm := .o) (ρ := Ty.int) (rp_frz .o (rp_op (m1 := .b) (m2 := .b) (v_ixL (t := Ty.int)) (rp_le (rp_varw (ms := M__law_cell_at) (v__law_cell_at_script))) (rp_frz .b (rp_varw (ms := M__law_cell_at) (v__law_cell_at_k)))))) rs_next)
  (rs_ret (rm := .o) (ρ := Ty.int) rp_int))
/-! ### _law_rules -/
abbrev s__law_rules : Stmt := topS 27
abbrev N__law_rules : List Str := ["script", "heads", "rules", "k"]
abbrev P__law_rules : List Str := ["script"]
theorem sc__law_rules : FnScope N__law_rules P__law_rules (defScope s__law_rules) := ⟨rfl, rfl, rfl, by decide +kernel, rfl, by decide +kernel, by decide +kernel⟩
abbrev g__law_rules : List Ty := [(Ty.list Ty.int), (Ty.list Ty.str), (Ty.list (Ty.tup (Ty.cons Ty.str (Ty.cons (Ty.vtup Ty.str) (Ty.last Ty.int))))), Ty.int]
abbrev M__law_rules : List Md := [.w, .l, .o, .w]
abbrev v__law_rules_script : Mem g__law_rules (Ty.list Ty.int) := .z
abbrev v__law_rules_heads : Mem g__law_rules (Ty.list Ty.str) := (.s .z)
abbrev v__law_rules_rules : Mem g__law_rules (Ty.list (Ty.tup (Ty.cons Ty.str (Ty.cons (Ty.vtup Ty.str) (Ty.last Ty.int))))) := (.s (.s .z))
abbrev v__law_rules_k : Mem g__law_rules Ty.int := (.s (.s (.s .z)))
noncomputable def lb__law_rules_1 : Gam g__law_rules → Option (Fl (Gam g__law_rules) (den (Ty.list (Ty.tup (Ty.cons Ty.str (Ty.cons (Ty.vtup Ty.str) (Ty.last Ty.int))))))) :=
  (sApp (v__law_rules_rules) (e1 m__law_rule (eCons (e1 m__law_cell_at (eCons (eV (t := (Ty.list Ty.int)) (v__law_rules_script)) (e2 fAdd (eC (4 : Int)) (eV (t := Ty.int) (v__law_rules_k))))) (eCons (eV (t := Ty.int) (v__law_rules_k)) (eV (t := (Ty.list Ty.str)) (v__law_rules_heads))))))
noncomputable def lp__law_rules_1 : Gam g__law_rules → Option (Fl (Gam g__law_rules) (den (Ty.list (Ty.tup (Ty.cons Ty.str (Ty.cons (Ty.vtup Ty.str) (Ty.last Ty.int))))))) := hide (sFor (e1 fRng1 (e2 fAdd (e1 fLen (eV (t := (Ty.list Ty.str)) (v__law_rules_heads))) (e2 fMod (e2 fDiv (e1 m__law_cell_at (eCons (eV (t := (Ty.list Ty.int)) (v__law_rules_script)) (eC (0 : Int)))) (eC (8 : Int))) (eC (6 : Int))))) (bName (t := Ty.int) (v__law_rules_k)) (Gam.mask [true, true, true, false]) lb__law_rules_1)
theorem lp__law_rules_1_eq : lp__law_rules_1 = (sFor (e1 fRng1 (e2 fAdd (e1 fLen (eV (t := (Ty.list Ty.str)) (v__law_rules_heads))) (e2 fMod (e2 fDiv (e1 m__law_cell_at (eCons (eV (t := (Ty.list Ty.int)) (v__law_rules_script)) (eC (0 : Int)))) (eC (8 : Int))) (eC (6 : Int))))) (bName (t := Ty.int) (v__law_rules_k)) (Gam.mask [true, true, true, false]) lb__law_rules_1) := hide_eq _
noncomputable def b__law_rules : Gam g__law_rules → Option (Fl (Gam g__law_rules) (den (Ty.list (Ty.tup (Ty.cons Ty.str (Ty.cons (Ty.vtup Ty.str) (Ty.last Ty.int))))))) :=
  (sSeq (sSet (v__law_rules_heads) (e1 m__law_heads (e2 fCatL (e3 fCutL (eV (t := (Ty.list Ty.int)) (v__law_rules_script)) (e1 (fun i => some (some i)) (eC (1 : Int))) (e1 (fun i => some (some i)) (eC (4 : Int)))) (e1 fSmall (eSnoc (e1 m__law_cell_at (eCons (eV (t := (Ty.list Ty.int)) (v__law_rules_script)) (eC (0 : Int)))) eNil)))))
  (sSeq (sSet (v__law_rules_rules) (e1 fSmall eNil))
  (sSeq lp__law_rules_1
  (sRetM (v__law_rules_rules)))))
noncomputable def m__law_rules : den (Ty.last (Ty.list Ty.int)) → Option (den (Ty.list (Ty.tup (Ty.cons Ty.str (Ty.cons (Ty.vtup Ty.str) (Ty.last Ty.int)))))) := hide (runG (Ty.last (Ty.list Ty.int)) [(Ty.list Ty.str), (Ty.list (Ty.tup (Ty.cons Ty.str (Ty.cons (Ty.vtup Ty.str) (Ty.last Ty.int))))), Ty.int] b__law_rules)
theorem m__law_rules_eq (d : den (Ty.last (Ty.list Ty.int))) : m__law_rules d = runG (Ty.last (Ty.list Ty.int)) [(Ty.list Ty.str), (Ty.list (Ty.tup (Ty.cons Ty.str (Ty.cons (Ty.vtup Ty.str) (Ty.last Ty.int))))), Ty.int] b__law_rules d := congrFun (hide_eq _) d
theorem m__law_rules_at (p0 : den (Ty.list Ty.int)) : m__law_rules (p0) = endOf (b__law_rules ((some p0, none, none, none, ()) : Gam g__law_rules)) := by
  rw [m__law_rules_eq]
  rfl
set_option maxHeartbeats 4000000 in
theorem ok__law_rules {f : Addr} {fd : FuncData} (F : Fun K "_law_rules" "_law_rules" s__law_rules f fd) (T : Txt K mg) {f__law_heads : Addr} {fd__law_heads : FuncData} (D__law_heads : Df K mg "_law_heads" "_law_heads" s__law_heads P__law_heads f__law_heads fd__law_heads) (G__law_heads : FnOk P w K mg base CX0 1 f__law_heads fd__law_heads P__law_heads (spP K (Ty.last (Ty.list Ty.int)) .o (Ty.list Ty.str) m__law_heads)) {f__law_cell_at : Addr} {fd__law_cell_at : FuncData} (D__law_cell_at : Df K mg "_law_cell_at" "_law_cell_at" s__law_cell_at P__law_cell_at f__law_cell_at fd__law_cell_at) (G__law_cell_at : FnOk P w K mg base CX0 1 f__law_cell_at fd__law_cell_at P__law_cell_at (spP K (Ty.cons (Ty.list Ty.int) (Ty.last Ty.int)) .o Ty.int m__law_cell_at)) {f__law_rule : Addr} {fd__law_rule : FuncData} (D__law_rule : Df K mg "_law_rule" "_law_rule" s__law_rule P__law_rule f__law_rule fd__law_rule) (G__law_rule : FnOk P w K mg base CX0 2 f__law_rule fd__law_rule P__law_rule (spP K (Ty.cons Ty.int (Ty.cons Ty.int (Ty.last (Ty.list Ty.str)))) .o (Ty.tup (Ty.cons Ty.str (Ty.cons (Ty.vtup Ty.str) (Ty.last Ty.int)))) m__law_rule)) :
    FnOk P w K mg base CX0 3 f fd P__law_rules (spP K (Ty.last (Ty.list Ty.int)) .o (Ty.list (Ty.tup (Ty.cons Ty.str (Ty.cons (Ty.vtup Ty.str) (Ty.last Ty.int))))) m__law_rules) := by
  have S := sc__law_rules
  refine fn_ok (F := b__law_rules) [(Ty.list Ty.str), (Ty.list (Ty.tup (Ty.cons Ty.str (Ty.cons (Ty.vtup Ty.str) (Ty.last Ty.int))))), Ty.int] M__law_rules F S rfl rfl rfl m__law_rules_eq (fun cdv A outer s H E hr => ?_)
  refine ⟨_, (pss_cons (ps_set (i := 1) S.nd rfl (Or.inl rfl) (pe_call G__law_heads (hr.mono (by decide)) rfl D__law_heads.gl D__law_heads.fn.kp D__law_heads.bi .nil pass0 (pa_cons (pe_op (r := rCatR K) op_catR (pe_slice (r := rSlL K) sl_list (pv 0) (po_some pe_int) (po_some pe_int)) (pe_lst (pa_cons (pe_call G__law_cell_at (hr.mono (by decide)) rfl D__law_cell_at.gl D__law_cell_at.fn.kp D__law_cell_at.bi .nil pass0 (pa_cons (pv 0) (pa_cons pe_int pa_nil))) pa_nil))) pa_nil)))
  (pss_cons (ps_set (i := 2) S.nd rfl (Or.inl rfl) (pe_lst pa_nil))
  (pss_cons (ps_for PassesOwn.never rfl (pi_range1 rfl T.b_range (pa_cons (pe_op op_add (pe_callB (r := rLen K) call_len (by rfl) T.b_len (by decide +kernel) (pa_cons (pv 1) pa_nil)) (pe_op op_mod (pe_op op_fdivW (pe_call G__law_cell_at (hr.mono (by decide)) rfl D__law_cell_at.gl D__law_cell_at.fn.kp D__law_cell_at.bi .nil pass0 (pa_cons (pv 0) (pa_cons pe_int pa_nil))) pe_int) pe_int)) pa_nil)) (pg_name (i := 3) S.nd rfl (Or.inl rfl)) (pss_one (ps_expr (pe_bm PySem.F.plainAttrs_list PySem.F.slot_list_append PySem.F.type_list_append mt_append (pv 2) (pa_cons (pe_call G__law_rule (hr.mono (by decide)) rfl D__law_rule.gl D__law_rule.fn.kp D__law_rule.bi .nil pass0 (pa_cons (pe_call G__law_cell_at (hr.mono (by decide)) rfl D__law_cell_at.gl D__law_cell_at.fn.kp D__law_cell_at.bi .nil pass0 (pa_cons (pv 0) (pa_cons (pe_op op_add pe_int (pv 3)) pa_nil))) (pa_cons (pv 3) (pa_cons (pv 1) pa_nil)))) pa_nil)))))
  (pss_one (ps_ret (pv 2)))))), ?_⟩
  exact (rs_seq (rs_set (ms := M__law_rules) (m := .l) (v__law_rules_heads) (rp_le (rp_call (mA := .b) (rm := .o) (ρ := (Ty.list Ty.str)) (m := m__law_heads) rfl (ra_one (rp_le (rp_cat (m1 := .b) (m2 := .b) (rp_le (rp_sliceL (m := .b) (rp_le (rp_varw (ms := M__law_rules) (v__law_rules_script))) (ro_some (m := .b) rp_int) (ro_some (m := .b) rp_int))) (rp_le (rp_list (t := Ty.int) (rl_cons (rp_call (mA := .b) (rm := .o) (ρ := Ty.int) (m := m__law_cell_at) rfl (ra_cons (rp_le (rp_varw (ms := M__law_rules) (v__law_rules_script))) (ra_one rp_int))) rl_nil)))))))))
  (rs_seq (rs_set (ms := M__law_rules) (m := .o) (v__law_rules_rules) (rp_list (t := (Ty.tup (Ty.cons Ty.str (Ty.cons (Ty.vtup Ty.str) (Ty.last Ty.int))))) rl_nil))
  (rs_seq (rs_hide (rs_for (w := false) (t := Ty.int) [true, true, true, false] (ri_rng1 (w := false) (m := .b) (ra_one (rp_op (m1 := .b) (m2 := .b) v_add (rp_lenL (m' := .b) (rp_le (rp_varl (ms := M__law_rules) (v__law_rules_heads)))) (rp_op (m1 := .b) (m2 := .b) v_mod (rp_op (m1 := .b) (m2 := .b) v_div (rp_frz .b (rp_call (mA := .b) (rm := .o) (ρ := Ty.int) (m := m__law_cell_at) rfl (ra_cons (rp_le (rp_varw (ms := M__law_rules) (v__law_rules_script))) (ra_one rp_int)))) rp_int) rp_int)))) (rg_name (ms := M__law_rules) (v__law_rules_k)) (rs_app (ms := M__law_rules) (v__law_rules_rules) (rp_call (mA := .b) (rm := .o) (ρ := (Ty.tup (Ty.cons Ty.str (Ty.cons (Ty.vtup Ty.str) (Ty.last Ty.int))))) (m := m__law_rule) rfl (ra_cons (rp_frz .b (rp_call (mA := .b) (rm := .o) (ρ := Ty.int) (m := m__law_cell_at) rfl (ra_cons (rp_le (rp_varw (ms := M__law_rules) (v__law_rules_script))) (ra_one (rp_op (m1 := .b) (m2 := .b) v_add rp_int (rp_frz .b (rp_varw (ms := M__law_rules) (v__law_rules_k)))))))) (ra_cons (rp_frz .b (rp_varw (ms := M__law_rules) (v__law_rules_k))) (ra_one (rp_le (rp_varl (ms := M__law_rules) (v__law_rules_heads))))))))))
  (rs_retm (ms := M__law_rules) (v__law_rules_rules)))))
/-! ### _law_shown -/
abbrev s__law_shown : Stmt := topS 28
abbrev N__law_shown : List Str := ["rules", "rows", "name", "parts", "cost", "row"]
abbrev P__law_shown : List Str := ["rules"]
theorem sc__law_shown : FnScope N__law_shown P__law_shown (defScope s__law_shown) := ⟨rfl, rfl, rfl, by decide +kernel, rfl, by decide +kernel, by decide +kernel⟩
abbrev g__law_shown : List Ty := [(Ty.list (Ty.tup (Ty.cons Ty.str (Ty.cons (Ty.vtup Ty.str) (Ty.last Ty.int))))), (Ty.list Ty.str), Ty.str, (Ty.vtup Ty.str), Ty.int, Ty.str]
abbrev M__law_shown : List Md := [.w, .o, .w, .w, .w, .w]
abbrev v__law_shown_rules : Mem g__law_shown (Ty.list (Ty.tup (Ty.cons Ty.str (Ty.cons (Ty.vtup Ty.str) (Ty.last Ty.int))))) := .z
abbrev v__law_shown_rows : Mem g__law_shown (Ty.list Ty.str) := (.s .z)
abbrev v__law_shown_name : Mem g__law_shown Ty.str := (.s (.s .z))
abbrev v__law_shown_parts : Mem g__law_shown (Ty.vtup Ty.str) := (.s (.s (.s .z)))
abbrev v__law_shown_cost : Mem g__law_shown Ty.int := (.s (.s (.s (.s .z))))
abbrev v__law_shown_row : Mem g__law_shown Ty.str := (.s (.s (.s (.s (.s .z)))))
noncomputable def lb__law_shown_1 : Gam g__law_shown → Option (Fl (Gam g__law_shown) (den Ty.str)) :=
  (sSeq (sSet (v__law_shown_row) (e2 fJoin (eC (Str.ofString " ")) (e2 fCatL (e1 fSmall (eSnoc (eV (t := Ty.str) (v__law_shown_name)) (eSnoc (eC (Str.ofString "=")) eNil))) (eV (t := (Ty.vtup Ty.str)) (v__law_shown_parts)))))
  (sSeq (sIf (e2 fGt (eV (t := Ty.int) (v__law_shown_cost)) (eC (0 : Int))) (sSet (v__law_shown_row) (e2 fCat (e2 fCat (eV (t := Ty.str) (v__law_shown_row)) (eC (Str.ofString " : "))) (e1 fStrI (eV (t := Ty.int) (v__law_shown_cost))))) sNext)
  (sApp (v__law_shown_rows) (eV (t := Ty.str) (v__law_shown_row)))))
noncomputable def lp__law_shown_1 : Gam g__law_shown → Option (Fl (Gam g__law_shown) (den Ty.str)) := hide (sFor (eV (t := (Ty.list (Ty.tup (Ty.cons Ty.str (Ty.cons (Ty.vtup Ty.str) (Ty.last Ty.int)))))) (v__law_shown_rules)) (bCons (bName (t := Ty.str) (v__law_shown_name)) (bCons (bName (t := (Ty.vtup Ty.str)) (v__law_shown_parts)) (bName (t := Ty.int) (v__law_shown_cost)))) (Gam.mask [false, true, false, false, false, false]) lb__law_shown_1)
theorem lp__law_shown_1_eq : lp__law_shown_1 = (sFor (eV (t := (Ty.list (Ty.tup (Ty.cons Ty.str (Ty.cons (Ty.vtup Ty.str) (Ty.last Ty.int)))))) (v__law_shown_rules)) (bCons (bName (t := Ty.str) (v__law_shown_name)) (bCons (bName (t := (Ty.vtup Ty.str)) (v__law_shown_parts)) (bName (t := Ty.int) (v__law_shown_cost)))) (Gam.mask [false, true, false, false, false, false]) lb__law_shown_1) := hide_eq _
noncomputable def b__law_shown : Gam g__law_shown → Option (Fl (Gam g__law_shown) (den Ty.str)) :=
  (sSeq (sSet (v__law_shown_rows) (e1 fSmall eNil))
  (sSeq lp__law_shown_1
  (sRet (e2 fJoin (eC (Str.ofString "\n")) (eV (t := (Ty.list Ty.str)) (v__law_shown_rows))))))
noncomputable def m__law_shown : den (Ty.last (Ty.list (Ty.tup (Ty.cons Ty.str (Ty.cons (Ty.vtup Ty.str) (Ty.last Ty.int)))))) → Option (den Ty.str) := hide (runG (Ty.last (Ty.list (Ty.tup (Ty.cons Ty.str (Ty.cons (Ty.vtup Ty.str) (Ty.last Ty.int)))))) [(Ty.list Ty.str), Ty.str, (Ty.vtup Ty.str), Ty.int, Ty.str] b__law_shown)
theorem m__law_shown_eq (d : den (Ty.last (Ty.list (Ty.tup (Ty.cons Ty.str (Ty.cons (Ty.vtup Ty.str) (Ty.last Ty.int))))))) : m__law_shown d = runG (Ty.last (Ty.list (Ty.tup (Ty.cons Ty.str (Ty.cons (Ty.vtup Ty.str) (Ty.last Ty.int)))))) [(Ty.list Ty.str), Ty.str, (Ty.vtup Ty.str), Ty.int, Ty.str] b__law_shown d := congrFun (hide_eq _) d
theorem m__law_shown_at (p0 : den (Ty.list (Ty.tup (Ty.cons Ty.str (Ty.cons (Ty.vtup Ty.str) (Ty.last Ty.int)))))) : m__law_shown (p0) = endOf (b__law_shown ((some p0, none, none, none, none, none, ()) : Gam g__law_shown)) := by
  rw [m__law_shown_eq]
  rfl
set_option maxHeartbeats 4000000 in
theorem ok__law_shown {f : Addr} {fd : FuncData} (F : Fun K "_law_shown" "_law_shown" s__law_shown f fd) (T : Txt K mg) :
    FnOk P w K mg base CX0 1 f fd P__law_shown (spP K (Ty.last (Ty.list (Ty.tup (Ty.cons Ty.str (Ty.cons (Ty.vtup Ty.str) (Ty.last Ty.int)))))) .o Ty.str m__law_shown) := by
  have S := sc__law_shown
  refine fn_ok (F := b__law_shown) [(Ty.list Ty.str), Ty.str, (Ty.vtup Ty.str), Ty.int, Ty.str] M__law_shown F S rfl rfl rfl m__law_shown_eq (fun cdv A outer s H E hr => ?_)
  refine ⟨_, (pss_cons (ps_set (i := 1) S.nd rfl (Or.inl rfl) (pe_lst pa_nil))
  (pss_cons (ps_for PassesOwn.never rfl (pi_listK K rfl (pv 0)) (pg_tupK (n := 3) K rfl rfl (pgs_cons (pg_name (i := 2) S.nd rfl (Or.inl rfl)) (pgs_cons (pg_name (i := 3) S.nd rfl (Or.inl rfl)) (pgs_cons (pg_name (i := 4) S.nd rfl (Or.inl rfl)) pgs_nil)))) (pss_cons (ps_set (i := 5) S.nd rfl (Or.inl rfl) (pe_joinK K rfl pe_str (pe_op (r := rCatR K) op_catR (pe_lst (pa_cons (pv 2) (pa_cons pe_str pa_nil))) (pe_callTy (r := rListOf K) call_list_of (by rfl) T.b_list (by decide +kernel) (pa_cons (pv 3) pa_nil)))))
  (pss_cons (ps_if (pt_cmpR op_gt (pv 4) pe_int (nomark _)) (pss_one (ps_set (i := 5) S.nd rfl (Or.inl rfl) (pe_op op_add_str (pe_op op_add_str (pv 5) pe_str) (pe_callTy call_str_int (by rfl) T.b_str (by decide +kernel) (pa_cons (pv 4) pa_nil))))) pss_nil)
  (pss_one (ps_expr (pe_bm PySem.F.plainAttrs_list PySem.F.slot_list_append PySem.F.type_list_append mt_append (pv 1) (pa_cons (pv 5) pa_nil)))))))
  (pss_one (ps_ret (pe_joinK K rfl pe_str (pv 1)))))), ?_⟩
  exact (rs_seq (rs_set (ms := M__law_shown) (m := .o) (v__law_shown_rows) (rp_list (t := Ty.str) rl_nil))
  (rs_seq (rs_hide (rs_for (w := true) (t := (Ty.tup (Ty.cons Ty.str (Ty.cons (Ty.vtup Ty.str) (Ty.last Ty.int))))) [false, true, false, false, false, false] (ri_list (w := true) (t := (Ty.tup (Ty.cons Ty.str (Ty.cons (Ty.vtup Ty.str) (Ty.last Ty.int))))) (rp_varw (ms := M__law_shown) (v__law_shown_rules))) (rg_tup (rgs_cons (rg_name (ms := M__law_shown) (v__law_shown_name)) (rgs_cons (rg_name (ms := M__law_shown) (v__law_shown_parts)) (rgs_one (rg_name (ms := M__law_shown) (v__law_shown_cost)))))) (rs_seq (rs_set (ms := M__law_shown) (m := .w) (v__law_shown_row) (rp_join (m1 := .b) (m2 := .b) (rp_str) (rp_le (rp_cat (m1 := .b) (m2 := .b) (rp_le (rp_list (t := Ty.str) (rl_cons (rp_frz .o (rp_varw (ms := M__law_shown) (v__law_shown_name))) (rl_cons (rp_str) rl_nil)))) (rp_le (rp_listV (m := .b) (t := Ty.str) (rp_frz .b (rp_varw (ms := M__law_shown) (v__law_shown_parts)))))))))
  (rs_seq (rs_if (rt_test (rp_op (m := .b) (m1 := .b) (m2 := .b) v_gt (rp_frz .b (rp_varw (ms := M__law_shown) (v__law_shown_cost))) rp_int)) (rs_set (ms := M__law_shown) (m := .w) (v__law_shown_row) (rp_op (m1 := .b) (m2 := .b) v_cat (rp_op (m1 := .b) (m2 := .b) v_cat (rp_frz .b (rp_varw (ms := M__law_shown) (v__law_shown_row))) (rp_str)) (rp_strI (m' := .b) (rp_frz .b (rp_varw (ms := M__law_shown) (v__law_shown_cost)))))) rs_next)
  (rs_app (ms := M__law_shown) (v__law_shown_rows) (rp_frz .o (rp_varw (ms := M__law_shown) (v__law_shown_row))))))))
  (rs_ret (rm := .o) (ρ := Ty.str) (rp_join (m1 := .b) (m2 := .b) (rp_str) (rp_var (ms := M__law_shown) (v__law_shown_rows))))))
/-! ### shown_rule -/
abbrev s_shown_rule : Stmt := topS 15
abbrev N_shown_rule : List Str := ["rule", "name", "parts", "cost", "words"]
abbrev P_shown_rule : List Str := ["rule"]
theorem sc_shown_rule : FnScope N_shown_rule P_shown_rule (defScope s_shown_rule) := ⟨rfl, rfl, rfl, by decide +kernel, rfl, by decide +kernel, by decide +kernel⟩
abbrev g_shown_rule : List Ty := [(Ty.tup (Ty.cons Ty.str (Ty.cons (Ty.vtup Ty.str) (Ty.last Ty.int)))), Ty.str, (Ty.vtup Ty.str), Ty.int, (Ty.list Ty.str)]
abbrev M_shown_rule : List Md := [.w, .w, .w, .w, .l]
abbrev v_shown_rule_rule : Mem g_shown_rule (Ty.tup (Ty.cons Ty.str (Ty.cons (Ty.vtup Ty.str) (Ty.last Ty.int)))) := .z
abbrev v_shown_rule_name : Mem g_shown_rule Ty.str := (.s .z)
abbrev v_shown_rule_parts : Mem g_shown_rule (Ty.vtup Ty.str) := (.s (.s .z))
abbrev v_shown_rule_cost : Mem g_shown_rule Ty.int := (.s (.s (.s .z)))
abbrev v_shown_rule_words : Mem g_shown_rule (Ty.list Ty.str) := (.s (.s (.s (.s .z))))
noncomputable def b_shown_rule : Gam g_shown_rule → Option (Fl (Gam g_shown_rule) (den Ty.str)) :=
  (sSeq (sAsg (eV (t := (Ty.tup (Ty.cons Ty.str (Ty.cons (Ty.vtup Ty.str) (Ty.last Ty.int))))) (v_shown_rule_rule)) (bCons (bName (t := Ty.str) (v_shown_rule_name)) (bCons (bName (t := (Ty.vtup Ty.str)) (v_shown_rule_parts)) (bName (t := Ty.int) (v_shown_rule_cost)))))
  (sSeq (sSet (v_shown_rule_words) (e2 fCatL (e1 fSmall (eSnoc (eV (t := Ty.str) (v_shown_rule_name)) (eSnoc (eC (Str.ofString "=")) eNil))) (eV (t := (Ty.vtup Ty.str)) (v_shown_rule_parts))))
  (sSeq (sIf (e2 fGt (eV (t := Ty.int) (v_shown_rule_cost)) (eC (0 : Int))) (sSet (v_shown_rule_words) (e2 fCatL (eV (t := (Ty.list Ty.str)) (v_shown_rule_words)) (e1 fSmall (eSnoc (eC (Str.ofString ":")) (eSnoc (e1 fStrI (eV (t := Ty.int) (v_shown_rule_cost))) eNil))))) sNext)
  (sRet (e2 fJoin (eC (Str.ofString " ")) (eV (t := (Ty.list Ty.str)) (v_shown_rule_words)))))))
noncomputable def m_shown_rule : den (Ty.last (Ty.tup (Ty.cons Ty.str (Ty.cons (Ty.vtup Ty.str) (Ty.last Ty.int))))) → Option (den Ty.str) := hide (runG (Ty.last (Ty.tup (Ty.cons Ty.str (Ty.cons (Ty.vtup Ty.str) (Ty.last Ty.int))))) [Ty.str, (Ty.vtup Ty.str), Ty.int, (Ty.list Ty.str)] b_shown_rule)
theorem m_shown_rule_eq (d : den (Ty.last (Ty.tup (Ty.cons Ty.str (Ty.cons (Ty.vtup Ty.str) (Ty.last Ty.int)))))) : m_shown_rule d = runG (Ty.last (Ty.tup (Ty.cons Ty.str (Ty.cons (Ty.vtup Ty.str) (Ty.last Ty.int))))) [Ty.str, (Ty.vtup Ty.str), Ty.int, (Ty.list Ty.str)] b_shown_rule d := congrFun (hide_eq _) d
theorem m_shown_rule_at (p0 : den (Ty.tup (Ty.cons Ty.str (Ty.cons (Ty.vtup Ty.str) (Ty.last Ty.int))))) : m_shown_rule (p0) = endOf (b_shown_rule ((some p0, none, none, none, none, ()) : Gam g_shown_rule)) := by
  rw [m_shown_rule_eq]
  rfl
set_option maxHeartbeats 4000000 in
theorem ok_shown_rule {f : Addr} {fd : FuncData} (F : Fun K "shown_rule" "shown_rule" s_shown_rule f fd) (T : Txt K mg) :
    FnOk P w K mg base CX0 1 f fd P_shown_rule (spP K (Ty.last (Ty.tup (Ty.cons Ty.str (Ty.cons (Ty.vtup Ty.str) (Ty.last Ty.int))))) .o Ty.str m_shown_rule) := by
  have S := sc_shown_rule
  refine fn_ok (F := b_shown_rule) [Ty.str, (Ty.vtup Ty.str), Ty.int, (Ty.list Ty.str)] M_shown_rule F S rfl rfl rfl m_shown_rule_eq (fun cdv A outer s H E hr => ?_)
  refine ⟨_, (pss_cons (ps_asg (pv 0) (pg_tupK (n := 3) K rfl rfl (pgs_cons (pg_name (i := 1) S.nd rfl (Or.inl rfl)) (pgs_cons (pg_name (i := 2) S.nd rfl (Or.inl rfl)) (pgs_cons (pg_name (i := 3) S.nd rfl (Or.inl rfl)) pgs_nil)))))
  (pss_cons (ps_set (i := 4) S.nd rfl (Or.inl rfl) (pe_op (r := rCatR K) op_catR (pe_lst (pa_cons (pv 1) (pa_cons pe_str pa_nil))) (pe_callTy (r := rListOf K) call_list_of (by rfl) T.b_list (by decide +kernel) (pa_cons (pv 2) pa_nil))))
  (pss_cons (ps_if (pt_cmpR op_gt (pv 3) pe_int (nomark _)) (pss_one (ps_set (i := 4) S.nd rfl (Or.inl rfl) (pe_op (r := rCatR K) op_catR (pv 4) (pe_lst (pa_cons pe_str (pa_cons (pe_callTy call_str_int (by rfl) T.b_str (by decide +kernel) (pa_cons (pv 3) pa_nil)) pa_nil)))))) pss_nil)
  (pss_one (ps_ret (pe_joinK K rfl pe_str (pv 4))))))), ?_⟩
  exact (rs_seq (rs_asg (w := false) (t := (Ty.tup (Ty.cons Ty.str (Ty.cons (Ty.vtup Ty.str) (Ty.last Ty.int))))) (rp_frz .l (rp_varw (ms := M_shown_rule) (v_shown_rule_rule))) (rg_tup (rgs_cons (rg_name (ms := M_shown_rule) (v_shown_rule_name)) (rgs_cons (rg_name (ms := M_shown_rule) (v_shown_rule_parts)) (rgs_one (rg_name (ms := M_shown_rule) (v_shown_rule_cost)))))))
  (rs_seq (rs_set (ms := M_shown_rule) (m := .l) (v_shown_rule_words) (rp_le (rp_cat (m1 := .b) (m2 := .b) (rp_le (rp_list (t := Ty.str) (rl_cons (rp_frz .o (rp_varw (ms := M_shown_rule) (v_shown_rule_name))) (rl_cons (rp_str) rl_nil)))) (rp_le (rp_listV (m := .b) (t := Ty.str) (rp_frz .b (rp_varw (ms := M_shown_rule) (v_shown_rule_parts))))))))
  (rs_seq (rs_if (rt_test (rp_op (m := .b) (m1 := .b) (m2 := .b) v_gt (rp_frz .b (rp_varw (ms := M_shown_rule) (v_shown_rule_cost))) rp_int)) (rs_set (ms := M_shown_rule) (m := .l) (v_shown_rule_words) (rp_le (rp_cat (m1 := .b) (m2 := .b) (rp_le (rp_varl (ms := M_shown_rule) (v_shown_rule_words))) (rp_le (rp_list (t := Ty.str) (rl_cons (rp_str) (rl_cons (rp_strI (m' := .b) (rp_frz .b (rp_varw (ms := M_shown_rule) (v_shown_rule_cost)))) rl_nil))))))) rs_next)
  (rs_ret (rm := .o) (ρ := Ty.str) (rp_join (m1 := .b) (m2 := .b) (rp_str) (rp_le (rp_varl (ms := M_shown_rule) (v_shown_rule_words))))))))
/-! ### shown_grammar -/
abbrev s_shown_grammar : Stmt := topS 16
abbrev N_shown_grammar : List Str := ["grammar", "rule"]
abbrev P_shown_grammar : List Str := ["grammar"]
theorem sc_shown_grammar : FnScope N_shown_grammar P_shown_grammar (defScope s_shown_grammar) := ⟨rfl, rfl, rfl, by decide +kernel, rfl, by decide +kernel, by decide +kernel⟩
abbrev g_shown_grammar : List Ty := [(Ty.list (Ty.tup (Ty.cons Ty.str (Ty.cons (Ty.vtup Ty.str) (Ty.last Ty.int))))), (Ty.tup (Ty.cons Ty.str (Ty.cons (Ty.vtup Ty.str) (Ty.last Ty.int))))]
abbrev M_shown_grammar : List Md := [.w, .w]
abbrev v_shown_grammar_grammar : Mem g_shown_grammar (Ty.list (Ty.tup (Ty.cons Ty.str (Ty.cons (Ty.vtup Ty.str) (Ty.last Ty.int))))) := .z
abbrev v_shown_grammar_rule : Mem g_shown_grammar (Ty.tup (Ty.cons Ty.str (Ty.cons (Ty.vtup Ty.str) (Ty.last Ty.int)))) := (.s .z)
noncomputable def lc_shown_grammar_1 : Gam g_shown_grammar → Option (List (den Ty.str)) := hide (eLc (eV (t := (Ty.list (Ty.tup (Ty.cons Ty.str (Ty.cons (Ty.vtup Ty.str) (Ty.last Ty.int)))))) (v_shown_grammar_grammar)) (bName (t := (Ty.tup (Ty.cons Ty.str (Ty.cons (Ty.vtup Ty.str) (Ty.last Ty.int))))) (v_shown_grammar_rule)) (Gam.mask [true, false]) eYes (e1 m_shown_rule (eV (t := (Ty.tup (Ty.cons Ty.str (Ty.cons (Ty.vtup Ty.str) (Ty.last Ty.int))))) (v_shown_grammar_rule))))
theorem lc_shown_grammar_1_eq : lc_shown_grammar_1 = (eLc (eV (t := (Ty.list (Ty.tup (Ty.cons Ty.str (Ty.cons (Ty.vtup Ty.str) (Ty.last Ty.int)))))) (v_shown_grammar_grammar)) (bName (t := (Ty.tup (Ty.cons Ty.str (Ty.cons (Ty.vtup Ty.str) (Ty.last Ty.int))))) (v_shown_grammar_rule)) (Gam.mask [true, false]) eYes (e1 m_shown_rule (eV (t := (Ty.tup (Ty.cons Ty.str (Ty.cons (Ty.vtup Ty.str) (Ty.last Ty.int))))) (v_shown_grammar_rule)))) := hide_eq _
noncomputable def b_shown_grammar : Gam g_shown_grammar → Option (Fl (Gam g_shown_grammar) (den Ty.str)) :=
  (sRet (e2 fJoin (eC (Str.ofString "\n")) lc_shown_grammar_1))
noncomputable def m_shown_grammar : den (Ty.last (Ty.list (Ty.tup (Ty.cons Ty.str (Ty.cons (Ty.vtup Ty.str) (Ty.last Ty.int)))))) → Option (den Ty.str) := hide (runG (Ty.last (Ty.list (Ty.tup (Ty.cons Ty.str (Ty.cons (Ty.vtup Ty.str) (Ty.last Ty.int)))))) [(Ty.tup (Ty.cons Ty.str (Ty.cons (Ty.vtup Ty.str) (Ty.last Ty.int))))] b_shown_grammar)
theorem m_shown_grammar_eq (d : den (Ty.last (Ty.list (Ty.tup (Ty.cons Ty.str (Ty.cons (Ty.vtup Ty.str) (Ty.last Ty.int))))))) : m_shown_grammar d = runG (Ty.last (Ty.list (Ty.tup (Ty.cons Ty.str (Ty.cons (Ty.vtup Ty.str) (Ty.last Ty.int)))))) [(Ty.tup (Ty.cons Ty.str (Ty.cons (Ty.vtup Ty.str) (Ty.last Ty.int))))] b_shown_grammar d := congrFun (hide_eq _) d
theorem m_shown_grammar_at (p0 : den (Ty.list (Ty.tup (Ty.cons Ty.str (Ty.cons (Ty.vtup Ty.str) (Ty.last Ty.int)))))) : m_shown_grammar (p0) = endOf (b_shown_grammar ((some p0, none, ()) : Gam g_shown_grammar)) := by
  rw [m_shown_grammar_eq]
  rfl
set_option maxHeartbeats 4000000 in
theorem ok_shown_grammar {f : Addr} {fd : FuncData} (F : Fun K "shown_grammar" "shown_grammar" s_shown_grammar f fd) (T : Txt K mg) {f_shown_rule : Addr} {fd_shown_rule : FuncData} (D_shown_rule : Df K mg "shown_rule" "shown_rule" s_shown_rule P_shown_rule f_shown_rule fd_shown_rule) (G_shown_rule : FnOk P w K mg base CX0 1 f_shown_rule fd_shown_rule P_shown_rule (spP K (Ty.last (Ty.tup (Ty.cons Ty.str (Ty.cons (Ty.vtup Ty.str) (Ty.last Ty.int))))) .o Ty.str m_shown_rule)) :
    FnOk P w K mg base CX0 2 f fd P_shown_grammar (spP K (Ty.last (Ty.list (Ty.tup (Ty.cons Ty.str (Ty.cons (Ty.vtup Ty.str) (Ty.last Ty.int)))))) .o Ty.str m_shown_grammar) := by
  have S := sc_shown_grammar
  refine fn_ok (F := b_shown_grammar) [(Ty.tup (Ty.cons Ty.str (Ty.cons (Ty.vtup Ty.str) (Ty.last Ty.int))))] M_shown_grammar F S rfl rfl rfl m_shown_grammar_eq (fun cdv A outer s H E hr => ?_)
  refine ⟨_, (pss_one (ps_ret (pe_joinK K rfl pe_str (pe_lc (own := [("rule", 1)]) rfl S.nd (pi_listK K rfl (pv 0)) (blkOk_by (N := N_shown_grammar) (sc := defScope s_shown_grammar) (by decide +kernel)) (fun _ _ _ _ _ => (pg_name (i := 1) S.nd rfl (Or.inl rfl))) (fun _ _ _ _ _ => pts_nil) (fun _ _ _ _ _ => (pe_call G_shown_rule (hr.mono (by decide)) rfl D_shown_rule.gl D_shown_rule.fn.kp D_shown_rule.bi .nil pass0 (pa_cons (pv 1) pa_nil))))))), ?_⟩
  exact (rs_ret (rm := .o) (ρ := Ty.str) (rp_join (m1 := .b) (m2 := .b) (rp_str) (rp_le (rp_hide (rp_lc (w := true) (m := .o) (t := (Ty.tup (Ty.cons Ty.str (Ty.cons (Ty.vtup Ty.str) (Ty.last Ty.int))))) (u := Ty.str) [true, false] [1] (ris_of (ri_list (w := true) (t := (Ty.tup (Ty.cons Ty.str (Ty.cons (Ty.vtup Ty.str) (Ty.last Ty.int))))) (rp_varw (ms := M_shown_grammar) (v_shown_grammar_grammar)))) (rg_name (ms := M_shown_grammar) (v_shown_grammar_rule)) gw_name rt_yes (rp_call (mA := .b) (rm := .o) (ρ := Ty.str) (m := m_shown_rule) rfl (ra_one (rp_frz .b (rp_varw (ms := M_shown_grammar) (v_shown_grammar_rule))))))))))
/-! ### names -/
abbrev s_names : Stmt := topS 7
abbrev N_names : List Str := ["grammar", "found", "name", "parts", "cost"]
abbrev P_names : List Str := ["grammar"]
theorem sc_names : FnScope N_names P_names (defScope s_names) := ⟨rfl, rfl, rfl, by decide +kernel, rfl, by decide +kernel, by decide +kernel⟩
abbrev g_names : List Ty := [(Ty.list (Ty.tup (Ty.cons Ty.str (Ty.cons (Ty.vtup Ty.str) (Ty.last Ty.int))))), (Ty.list Ty.str), Ty.str, (Ty.vtup Ty.str), Ty.int]
abbrev M_names : List Md := [.w, .o, .w, .w, .w]
abbrev v_names_grammar : Mem g_names (Ty.list (Ty.tup (Ty.cons Ty.str (Ty.cons (Ty.vtup Ty.str) (Ty.last Ty.int))))) := .z
abbrev v_names_found : Mem g_names (Ty.list Ty.str) := (.s .z)
abbrev v_names_name : Mem g_names Ty.str := (.s (.s .z))
abbrev v_names_parts : Mem g_names (Ty.vtup Ty.str) := (.s (.s (.s .z)))
abbrev v_names_cost : Mem g_names Ty.int := (.s (.s (.s (.s .z))))
noncomputable def lb_names_1 : Gam g_names → Option (Fl (Gam g_names) (den (Ty.list Ty.str))) :=
  (sIf (e2 (fNotInD Ty.str) (eV (t := Ty.str) (v_names_name)) (eV (t := (Ty.list Ty.str)) (v_names_found))) (sApp (v_names_found) (eV (t := Ty.str) (v_names_name))) sNext)
noncomputable def lp_names_1 : Gam g_names → Option (Fl (Gam g_names) (den (Ty.list Ty.str))) := hide (sFor (eV (t := (Ty.list (Ty.tup (Ty.cons Ty.str (Ty.cons (Ty.vtup Ty.str) (Ty.last Ty.int)))))) (v_names_grammar)) (bCons (bName (t := Ty.str) (v_names_name)) (bCons (bName (t := (Ty.vtup Ty.str)) (v_names_parts)) (bName (t := Ty.int) (v_names_cost)))) (Gam.mask [false, true, false, false, false]) lb_names_1)
theorem lp_names_1_eq : lp_names_1 = (sFor (eV (t := (Ty.list (Ty.tup (Ty.cons Ty.str (Ty.cons (Ty.vtup Ty.str) (Ty.last Ty.int)))))) (v_names_grammar)) (bCons (bName (t := Ty.str) (v_names_name)) (bCons (bName (t := (Ty.vtup Ty.str)) (v_names_parts)) (bName (t := Ty.int) (v_names_cost)))) (Gam.mask [false, true, false, false, false]) lb_names_1) := hide_eq _
noncomputable def b_names : Gam g_names → Option (Fl (Gam g_names) (den (Ty.list Ty.str))) :=
  (sSeq (sSet (v_names_found) (e1 fSmall eNil))
  (sSeq lp_names_1
  (sRetM (v_names_found))))
noncomputable def m_names : den (Ty.last (Ty.list (Ty.tup (Ty.cons Ty.str (Ty.cons (Ty.vtup Ty.str) (Ty.last Ty.int)))))) → Option (den (Ty.list Ty.str)) := hide (runG (Ty.last (Ty.list (Ty.tup (Ty.cons Ty.str (Ty.cons (Ty.vtup Ty.str) (Ty.last Ty.int)))))) [(Ty.list Ty.str), Ty.str, (Ty.vtup Ty.str), Ty.int] b_names)
theorem m_names_eq (d : den (Ty.last (Ty.list (Ty.tup (Ty.cons Ty.str (Ty.cons (Ty.vtup Ty.str) (Ty.last Ty.int))))))) : m_names d = runG (Ty.last (Ty.list (Ty.tup (Ty.cons Ty.str (Ty.cons (Ty.vtup Ty.str) (Ty.last Ty.int)))))) [(Ty.list Ty.str), Ty.str, (Ty.vtup Ty.str), Ty.int] b_names d := congrFun (hide_eq _) d
theorem m_names_at (p0 : den (Ty.list (Ty.tup (Ty.cons Ty.str (Ty.cons (Ty.vtup Ty.str) (Ty.last Ty.int)))))) : m_names (p0) = endOf (b_names ((some p0, none, none, none, none, ()) : Gam g_names)) := by
  rw [m_names_eq]
  rfl
set_option maxHeartbeats 4000000 in
theorem ok_names {f : Addr} {fd : FuncData} (F : Fun K "names" "names" s_names f fd) (T : Txt K mg) :
    FnOk P w K mg base CX0 1 f fd P_names (spP K (Ty.last (Ty.list (Ty.tup (Ty.cons Ty.str (Ty.cons (Ty.vtup Ty.str) (Ty.last Ty.int)))))) .o (Ty.list Ty.str) m_names) := by
  have S := sc_names
  refine fn_ok (F := b_names) [(Ty.list Ty.str), Ty.str, (Ty.vtup Ty.str), Ty.int] M_names F S rfl rfl rfl m_names_eq (fun cdv A outer s H E hr => ?_)
  refine ⟨_, (pss_cons (ps_set (i := 1) S.nd rfl (Or.inl rfl) (pe_lst pa_nil))
  (pss_cons (ps_for PassesOwn.never rfl (pi_listK K rfl (pv 0)) (pg_tupK (n := 3) K rfl rfl (pgs_cons (pg_name (i := 2) S.nd rfl (Or.inl rfl)) (pgs_cons (pg_name (i := 3) S.nd rfl (Or.inl rfl)) (pgs_cons (pg_name (i := 4) S.nd rfl (Or.inl rfl)) pgs_nil)))) (pss_one (ps_if (pt_cmpR (r := rNotInD K) (op_notInD (hu65 hr)) (pv 2) (pv 1) (by rfl)) (pss_one (ps_expr (pe_bm PySem.F.plainAttrs_list PySem.F.slot_list_append PySem.F.type_list_append mt_append (pv 1) (pa_cons (pv 2) pa_nil)))) pss_nil)))
  (pss_one (ps_ret (pv 1))))), ?_⟩
  exact (rs_seq (rs_set (ms := M_names) (m := .o) (v_names_found) (rp_list (t := Ty.str) rl_nil))
  (rs_seq (rs_hide (rs_for (w := true) (t := (Ty.tup (Ty.cons Ty.str (Ty.cons (Ty.vtup Ty.str) (Ty.last Ty.int))))) [false, true, false, false, false] (ri_list (w := true) (t := (Ty.tup (Ty.cons Ty.str (Ty.cons (Ty.vtup Ty.str) (Ty.last Ty.int))))) (rp_varw (ms := M_names) (v_names_grammar))) (rg_tup (rgs_cons (rg_name (ms := M_names) (v_names_name)) (rgs_cons (rg_name (ms := M_names) (v_names_parts)) (rgs_one (rg_name (ms := M_names) (v_names_cost)))))) (rs_if (rt_test (rp_op (m := .b) (m1 := .b) (m2 := .b) (v_notInD (t := Ty.str) (by decide)) (rp_frz .b (rp_varw (ms := M_names) (v_names_name))) (rp_var (ms := M_names) (v_names_found)))) (rs_app (ms := M_names) (v_names_found) (rp_frz .o (rp_varw (ms := M_names) (v_names_name)))) rs_next)))
  (rs_retm (ms := M_names) (v_names_found))))
/-! ### is_name -/
abbrev s_is_name : Stmt := topS 6
abbrev N_is_name : List Str := ["part"]
abbrev P_is_name : List Str := ["part"]
theorem sc_is_name : FnScope N_is_name P_is_name (defScope s_is_name) := ⟨rfl, rfl, rfl, by decide +kernel, rfl, by decide +kernel, by decide +kernel⟩
abbrev g_is_name : List Ty := [Ty.str]
abbrev M_is_name : List Md := [.w]
abbrev v_is_name_part : Mem g_is_name Ty.str := .z
noncomputable def b_is_name : Gam g_is_name → Option (Fl (Gam g_is_name) (den Ty.bool)) :=
  (sRet (eAnd (e2 fNeS (eV (t := Ty.str) (v_is_name_part)) (eC (Str.ofString ""))) (e2 fInS (e2 fIxS (eV (t := Ty.str) (v_is_name_part)) (eC (0 : Int))) (eC (Str.ofString "ABCDEFGHIJKLMNOPQRSTUVWXYZ")))))
noncomputable def m_is_name : den (Ty.last Ty.str) → Option (den Ty.bool) := hide (runG (Ty.last Ty.str) [] b_is_name)
theorem m_is_name_eq (d : den (Ty.last Ty.str)) : m_is_name d = runG (Ty.last Ty.str) [] b_is_name d := congrFun (hide_eq _) d
theorem m_is_name_at (p0 : den Ty.str) : m_is_name (p0) = endOf (b_is_name ((some p0, ()) : Gam g_is_name)) := by
  rw [m_is_name_eq]
  rfl
set_option maxHeartbeats 4000000 in
theorem ok_is_name {f : Addr} {fd : FuncData} (F : Fun K "is_name" "is_name" s_is_name f fd) (T : Txt K mg) :
    FnOk P w K mg base CX0 1 f fd P_is_name (spP K (Ty.last Ty.str) .o Ty.bool m_is_name) := by
  have S := sc_is_name
  refine fn_ok (F := b_is_name) [] M_is_name F S rfl rfl rfl m_is_name_eq (fun cdv A outer s H E hr => ?_)
  refine ⟨_, (pss_one (ps_ret (pe_and (pe_cmpR op_ne (pv 0) pe_str (nomark _)) (pe_one (pe_cmpR op_in_str (pe_ix (r := rIxS) ix_str (pv 0) pe_int (fun _ _ => rfl)) (pe_glob (v := V.str (Str.ofString "ABCDEFGHIJKLMNOPQRSTUVWXYZ")) rfl (T.c_GREAT_grammars).choose_spec ⟨_, rfl⟩) (by rfl)))))), ?_⟩
  exact (rs_ret (rm := .o) (ρ := Ty.bool) (rp_and (m1 := .b) (m2 := .b) (rp_op (m1 := .b) (m2 := .b) v_neS (rp_frz .b (rp_varw (ms := M_is_name) (v_is_name_part))) (rp_str)) (rp_op (m1 := .b) (m2 := .b) v_inS (rp_op (m1 := .b) (m2 := .b) v_ixS (rp_frz .b (rp_varw (ms := M_is_name) (v_is_name_part))) rp_int) rp_str)))
/-! ### grammar_of -/
abbrev s_grammar_of : Stmt := topS 8
abbrev N_grammar_of : List Str := ["rules", "known", "name", "parts", "cost", "part"]
abbrev P_grammar_of : List Str := ["rules"]
theorem sc_grammar_of : FnScope N_grammar_of P_grammar_of (defScope s_grammar_of) := ⟨rfl, rfl, rfl, by decide +kernel, rfl, by decide +kernel, by decide +kernel⟩
abbrev g_grammar_of : List Ty := [(Ty.list (Ty.tup (Ty.cons Ty.str (Ty.cons (Ty.vtup Ty.str) (Ty.last Ty.int))))), (Ty.list Ty.str), Ty.str, (Ty.vtup Ty.str), Ty.int, Ty.str]
abbrev M_grammar_of : List Md := [.w, .l, .w, .w, .w, .w]
abbrev v_grammar_of_rules : Mem g_grammar_of (Ty.list (Ty.tup (Ty.cons Ty.str (Ty.cons (Ty.vtup Ty.str) (Ty.last Ty.int))))) := .z
abbrev v_grammar_of_known : Mem g_grammar_of (Ty.list Ty.str) := (.s .z)
abbrev v_grammar_of_name : Mem g_grammar_of Ty.str := (.s (.s .z))
abbrev v_grammar_of_parts : Mem g_grammar_of (Ty.vtup Ty.str) := (.s (.s (.s .z)))
abbrev v_grammar_of_cost : Mem g_grammar_of Ty.int := (.s (.s (.s (.s .z))))
abbrev v_grammar_of_part : Mem g_grammar_of Ty.str := (.s (.s (.s (.s (.s .z)))))
noncomputable def lc_grammar_of_1 : Gam g_grammar_of → Option (List (den (Ty.tup (Ty.cons Ty.str (Ty.cons (Ty.vtup Ty.str) (Ty.last Ty.int)))))) := hide (eLc (eV (t := (Ty.list (Ty.tup (Ty.cons Ty.str (Ty.cons (Ty.vtup Ty.str) (Ty.last Ty.int)))))) (v_grammar_of_rules)) (bCons (bName (t := Ty.str) (v_grammar_of_name)) (bCons (bName (t := (Ty.vtup Ty.str)) (v_grammar_of_parts)) (bName (t := Ty.int) (v_grammar_of_cost)))) (Gam.mask [true, true, false, false, false, true]) eYes (eCons (eV (t := Ty.str) (v_grammar_of_name)) (eCons (eV (t := (Ty.vtup Ty.str)) (v_grammar_of_parts)) (eV (t := Ty.int) (v_grammar_of_cost)))))
theorem lc_grammar_of_1_eq : lc_grammar_of_1 = (eLc (eV (t := (Ty.list (Ty.tup (Ty.cons Ty.str (Ty.cons (Ty.vtup Ty.str) (Ty.last Ty.int)))))) (v_grammar_of_rules)) (bCons (bName (t := Ty.str) (v_grammar_of_name)) (bCons (bName (t := (Ty.vtup Ty.str)) (v_grammar_of_parts)) (bName (t := Ty.int) (v_grammar_of_cost)))) (Gam.mask [true, true, false, false, false, true]) eYes (eCons (eV (t := Ty.str) (v_grammar_of_name)) (eCons (eV (t := (Ty.vtup Ty.str)) (v_grammar_of_parts)) (eV (t := Ty.int) (v_grammar_of_cost))))) := hide_eq _
noncomputable def lb_grammar_of_2 : Gam g_grammar_of → Option (Fl (Gam g_grammar_of) (den (Ty.list (Ty.tup (Ty.cons Ty.str (Ty.cons (Ty.vtup Ty.str) (Ty.last Ty.int))))))) :=
  (sIf (eAnd (e1 m_is_name (eV (t := Ty.str) (v_grammar_of_part))) (e2 (fNotInD Ty.str) (eV (t := Ty.str) (v_grammar_of_part)) (eV (t := (Ty.list Ty.str)) (v_grammar_of_known)))) sNever sNext)
noncomputable def lp_grammar_of_2 : Gam g_grammar_of → Option (Fl (Gam g_grammar_of) (den (Ty.list (Ty.tup (Ty.cons Ty.str (Ty.cons (Ty.vtup Ty.str) (Ty.last Ty.int))))))) := hide (sFor (eV (t := (Ty.vtup Ty.str)) (v_grammar_of_parts)) (bName (t := Ty.str) (v_grammar_of_part)) (Gam.mask [true, true, false, false, false, false]) lb_grammar_of_2)
theorem lp_grammar_of_2_eq : lp_grammar_of_2 = (sFor (eV (t := (Ty.vtup Ty.str)) (v_grammar_of_parts)) (bName (t := Ty.str) (v_grammar_of_part)) (Gam.mask [true, true, false, false, false, false]) lb_grammar_of_2) := hide_eq _
noncomputable def lb_grammar_of_1 : Gam g_grammar_of → Option (Fl (Gam g_grammar_of) (den (Ty.list (Ty.tup (Ty.cons Ty.str (Ty.cons (Ty.vtup Ty.str) (Ty.last Ty.int))))))) :=
  (sSeq (sIf (e2 fLt (eV (t := Ty.int) (v_grammar_of_cost)) (eC (0 : Int))) sNever sNext)
  lp_grammar_of_2)
noncomputable def lp_grammar_of_1 : Gam g_grammar_of → Option (Fl (Gam g_grammar_of) (den (Ty.list (Ty.tup (Ty.cons Ty.str (Ty.cons (Ty.vtup Ty.str) (Ty.last Ty.int))))))) := hide (sFor (eV (t := (Ty.list (Ty.tup (Ty.cons Ty.str (Ty.cons (Ty.vtup Ty.str) (Ty.last Ty.int)))))) (v_grammar_of_rules)) (bCons (bName (t := Ty.str) (v_grammar_of_name)) (bCons (bName (t := (Ty.vtup Ty.str)) (v_grammar_of_parts)) (bName (t := Ty.int) (v_grammar_of_cost)))) (Gam.mask [true, true, false, false, false, false]) lb_grammar_of_1)
theorem lp_grammar_of_1_eq : lp_grammar_of_1 = (sFor (eV (t := (Ty.list (Ty.tup (Ty.cons Ty.str (Ty.cons (Ty.vtup Ty.str) (Ty.last Ty.int)))))) (v_grammar_of_rules)) (bCons (bName (t := Ty.str) (v_grammar_of_name)) (bCons (bName (t := (Ty.vtup Ty.str)) (v_grammar_of_parts)) (bName (t := Ty.int) (v_grammar_of_cost)))) (Gam.mask [true, true, false, false, false, false]) lb_grammar_of_1) := hide_eq _
noncomputable def b_grammar_of : Gam g_grammar_of → Option (Fl (Gam g_grammar_of) (den (Ty.list (Ty.tup (Ty.cons Ty.str (Ty.cons (Ty.vtup Ty.str) (Ty.last Ty.int))))))) :=
  (sSeq (sIf (e2 (fEqD (Ty.list (Ty.tup (Ty.cons Ty.str (Ty.cons (Ty.vtup Ty.str) (Ty.last Ty.int)))))) (eV (t := (Ty.list (Ty.tup (Ty.cons Ty.str (Ty.cons (Ty.vtup Ty.str) (Ty.last Ty.int)))))) (v_grammar_of_rules)) (e1 fSmall eNil)) sNever sNext)
  (sSeq (sSet (v_grammar_of_known) (e1 m_names (eV (t := (Ty.list (Ty.tup (Ty.cons Ty.str (Ty.cons (Ty.vtup Ty.str) (Ty.last Ty.int)))))) (v_grammar_of_rules))))
  (sSeq lp_grammar_of_1
  (sRet lc_grammar_of_1))))
noncomputable def m_grammar_of : den (Ty.last (Ty.list (Ty.tup (Ty.cons Ty.str (Ty.cons (Ty.vtup Ty.str) (Ty.last Ty.int)))))) → Option (den (Ty.list (Ty.tup (Ty.cons Ty.str (Ty.cons (Ty.vtup Ty.str) (Ty.last Ty.int)))))) := hide (runG (Ty.last (Ty.list (Ty.tup (Ty.cons Ty.str (Ty.cons (Ty.vtup Ty.str) (Ty.last Ty.int)))))) [(Ty.list Ty.str), Ty.str, (Ty.vtup Ty.str), Ty.int, Ty.str] b_grammar_of)
theorem m_grammar_of_eq (d : den (Ty.last (Ty.list (Ty.tup (Ty.cons Ty.str (Ty.cons (Ty.vtup Ty.str) (Ty.last Ty.int))))))) : m_grammar_of d = runG (Ty.last (Ty.list (Ty.tup (Ty.cons Ty.str (Ty.cons (Ty.vtup Ty.str) (Ty.last Ty.int)))))) [(Ty.list Ty.str), Ty.str, (Ty.vtup Ty.str), Ty.int, Ty.str] b_grammar_of d := congrFun (hide_eq _) d
theorem m_grammar_of_at (p0 : den (Ty.list (Ty.tup (Ty.cons Ty.str (Ty.cons (Ty.vtup Ty.str) (Ty.last Ty.int)))))) : m_grammar_of (p0) = endOf (b_grammar_of ((some p0, none, none, none, none, none, ()) : Gam g_grammar_of)) := by
  rw [m_grammar_of_eq]
  rfl
set_option maxHeartbeats 4000000 in
theorem ok_grammar_of {f : Addr} {fd : FuncData} (F : Fun K "grammar_of" "grammar_of" s_grammar_of f fd) (T : Txt K mg) {f_names : Addr} {fd_names : FuncData} (D_names : Df K mg "names" "names" s_names P_names f_names fd_names) (G_names : FnOk P w K mg base CX0 1 f_names fd_names P_names (spP K (Ty.last (Ty.list (Ty.tup (Ty.cons Ty.str (Ty.cons (Ty.vtup Ty.str) (Ty.last Ty.int)))))) .o (Ty.list Ty.str) m_names)) {f_is_name : Addr} {fd_is_name : FuncData} (D_is_name : Df K mg "is_name" "is_name" s_is_name P_is_name f_is_name fd_is_name) (G_is_name : FnOk P w K mg base CX0 1 f_is_name fd_is_name P_is_name (spP K (Ty.last Ty.str) .o Ty.bool m_is_name)) :
    FnOk P w K mg base CX0 2 f fd P_grammar_of (spP K (Ty.last (Ty.list (Ty.tup (Ty.cons Ty.str (Ty.cons (Ty.vtup Ty.str) (Ty.last Ty.int)))))) .o (Ty.list (Ty.tup (Ty.cons Ty.str (Ty.cons (Ty.vtup Ty.str) (Ty.last Ty.int))))) m_grammar_of) := by
  have S := sc_grammar_of
  refine fn_ok (F := b_grammar_of) [(Ty.list Ty.str), Ty.str, (Ty.vtup Ty.str), Ty.int, Ty.str] M_grammar_of F S rfl rfl rfl m_grammar_of_eq (fun cdv A outer s H E hr => ?_)
  refine ⟨_, (pss_cons (ps_if (pt_cmpR (r := rEqD K) (op_eqD hr.units) (pv 0) (pe_lst pa_nil) (nomark _)) (pss_one VV.ps_never) pss_nil)
  (pss_cons (ps_set (i := 1) S.nd rfl (Or.inl rfl) (pe_call G_names (hr.mono (by decide)) rfl D_names.gl D_names.fn.kp D_names.bi .nil pass0 (pa_cons (pv 0) pa_nil)))
  (pss_cons (ps_for PassesOwn.never rfl (pi_listK K rfl (pv 0)) (pg_tupK (n := 3) K rfl rfl (pgs_cons (pg_name (i := 2) S.nd rfl (Or.inl rfl)) (pgs_cons (pg_name (i := 3) S.nd rfl (Or.inl rfl)) (pgs_cons (pg_name (i := 4) S.nd rfl (Or.inl rfl)) pgs_nil)))) (pss_cons (ps_if (pt_cmpR op_lt (pv 4) pe_int (nomark _)) (pss_one VV.ps_never) pss_nil)
  (pss_one (ps_for PassesOwn.never rfl (pi_tupK K rfl (pv 3)) (pg_name (i := 5) S.nd rfl (Or.inl rfl)) (pss_one (ps_if (PW.pt (pw_and (pt_val (pe_call G_is_name (hr.mono (by decide)) rfl D_is_name.gl D_is_name.fn.kp D_is_name.bi .nil pass0 (pa_cons (pv 5) pa_nil))) (pw_and1 (pt_cmpR (r := rNotInD K) (op_notInD (hu65 hr)) (pv 5) (pv 1) (by rfl))))) (pss_one VV.ps_never) pss_nil))))))
  (pss_one (ps_ret (pe_lc (own := [("name", 2), ("parts", 3), ("cost", 4)]) rfl S.nd (pi_listK K rfl (pv 0)) (blkOk_by (N := N_grammar_of) (sc := defScope s_grammar_of) (by decide +kernel)) (fun _ _ _ _ _ => (pg_tupK (n := 3) K rfl rfl (pgs_cons (pg_name (i := 2) S.nd rfl (Or.inl rfl)) (pgs_cons (pg_name (i := 3) S.nd rfl (Or.inl rfl)) (pgs_cons (pg_name (i := 4) S.nd rfl (Or.inl rfl)) pgs_nil))))) (fun _ _ _ _ _ => pts_nil) (fun _ _ _ _ _ => (pe_tup (pa_cons (pv 2) (pa_cons (pe_callTy (r := rTupOf K) call_tuple_of (by rfl) T.b_tuple (by decide +kernel) (pa_cons (pv 3) pa_nil)) (pa_cons (pv 4) pa_nil))))))))))), ?_⟩
  exact (rs_seq (rs_if (rt_test (rp_op (m := .b) (m1 := .b) (m2 := .b) (v_eqD (t := (Ty.list (Ty.tup (Ty.cons Ty.str (Ty.cons (Ty.vtup Ty.str) (Ty.last Ty.int)))))) (by decide)) (rp_le (rp_varw (ms := M_grammar_of) (v_grammar_of_rules))) (rp_le (rp_list (t := (Ty.tup (Ty.cons Ty.str (Ty.cons (Ty.vtup Ty.str) (Ty.last Ty.int))))) rl_nil)))) rs_never rs_next)
  (rs_seq (rs_set (ms := M_grammar_of) (m := .l) (v_grammar_of_known) (rp_le (rp_call (mA := .b) (rm := .o) (ρ := (Ty.list Ty.str)) (m := m_names) rfl (ra_one (rp_le (rp_varw (ms := M_grammar_of) (v_grammar_of_rules)))))))
  (rs_seq (rs_hide (rs_for (w := true) (t := (Ty.tup (Ty.cons Ty.str (Ty.cons (Ty.vtup Ty.str) (Ty.last Ty.int))))) [true, true, false, false, false, false] (ri_list (w := true) (t := (Ty.tup (Ty.cons Ty.str (Ty.cons (Ty.vtup Ty.str) (Ty.last Ty.int))))) (rp_varw (ms := M_grammar_of) (v_grammar_of_rules))) (rg_tup (rgs_cons (rg_name (ms := M_grammar_of) (v_grammar_of_name)) (rgs_cons (rg_name (ms := M_grammar_of) (v_grammar_of_parts)) (rgs_one (rg_name (ms := M_grammar_of) (v_grammar_of_cost)))))) (rs_seq (rs_if (rt_test (rp_op (m := .b) (m1 := .b) (m2 := .b) v_lt (rp_frz .b (rp_varw (ms := M_grammar_of) (v_grammar_of_cost))) rp_int)) rs_never rs_next)
  (rs_hide (rs_for (w := false) (t := Ty.str) [true, true, false, false, false, false] (ri_vtup (w := false) (t := Ty.str) (rp_frz .l (rp_varw (ms := M_grammar_of) (v_grammar_of_parts)))) (rg_name (ms := M_grammar_of) (v_grammar_of_part)) (rs_if (rt_and (rt_val (m := .b) (rp_frz .b (rp_call (mA := .b) (rm := .o) (ρ := Ty.bool) (m := m_is_name) rfl (ra_one (rp_frz .b (rp_varw (ms := M_grammar_of) (v_grammar_of_part))))))) (rt_test (rp_op (m := .b) (m1 := .b) (m2 := .b) (v_notInD (t := Ty.str) (by decide)) (rp_frz .b (rp_varw (ms := M_grammar_of) (v_grammar_of_part))) (rp_le (rp_varl (ms := M_grammar_of) (v_grammar_of_known)))))) rs_never rs_next))))))
  (rs_ret (rm := .o) (ρ := (Ty.list (Ty.tup (Ty.cons Ty.str (Ty.cons (Ty.vtup Ty.str) (Ty.last Ty.int)))))) (rp_hide (rp_lc (w := true) (m := .o) (t := (Ty.tup (Ty.cons Ty.str (Ty.cons (Ty.vtup Ty.str) (Ty.last Ty.int))))) (u := (Ty.tup (Ty.cons Ty.str (Ty.cons (Ty.vtup Ty.str) (Ty.last Ty.int))))) [true, true, false, false, false, true] [2, 3, 4] (ris_of (ri_list (w := true) (t := (Ty.tup (Ty.cons Ty.str (Ty.cons (Ty.vtup Ty.str) (Ty.last Ty.int))))) (rp_varw (ms := M_grammar_of) (v_grammar_of_rules)))) (rg_tup (rgs_cons (rg_name (ms := M_grammar_of) (v_grammar_of_name)) (rgs_cons (rg_name (ms := M_grammar_of) (v_grammar_of_parts)) (rgs_one (rg_name (ms := M_grammar_of) (v_grammar_of_cost)))))) (gw_tup (gws_cons gw_name mg_name (gws_cons gw_name mg_name (gws_cons gw_name mg_name gws_nil)))) rt_yes (rp_tup (ra_cons (rp_frz .o (rp_varw (ms := M_grammar_of) (v_grammar_of_name))) (ra_cons (rp_tupV (m' := .b) (t := Ty.str) (rp_frz .b (rp_varw (ms := M_grammar_of) (v_grammar_of_parts)))) (ra_one (rp_frz .o (rp_varw (ms := M_grammar_of) (v_grammar_of_cost)))))))))))))
/-! ### cost_of -/
abbrev s_cost_of : Stmt := topS 19
abbrev N_cost_of : List Str := ["text", "sign"]
abbrev P_cost_of : List Str := ["text"]
theorem sc_cost_of : FnScope N_cost_of P_cost_of (defScope s_cost_of) := ⟨rfl, rfl, rfl, by decide +kernel, rfl, by decide +kernel, by decide +kernel⟩
abbrev g_cost_of : List Ty := [Ty.str, Ty.str]
abbrev M_cost_of : List Md := [.w, .w]
abbrev v_cost_of_text : Mem g_cost_of Ty.str := .z
abbrev v_cost_of_sign : Mem g_cost_of Ty.str := (.s .z)
noncomputable def lb_cost_of_1 : Gam g_cost_of → Option (Fl (Gam g_cost_of) (den Ty.int)) :=
  (sIf (e2 fNotInS (eV (t := Ty.str) (v_cost_of_sign)) (eC (Str.ofString "0123456789"))) sNever sNext)
noncomputable def lp_cost_of_1 : Gam g_cost_of → Option (Fl (Gam g_cost_of) (den Ty.int)) := hide (sFor (e1 fSigns (eV (t := Ty.str) (v_cost_of_text))) (bName (t := Ty.str) (v_cost_of_sign)) (Gam.mask [true, false]) lb_cost_of_1)
theorem lp_cost_of_1_eq : lp_cost_of_1 = (sFor (e1 fSigns (eV (t := Ty.str) (v_cost_of_text))) (bName (t := Ty.str) (v_cost_of_sign)) (Gam.mask [true, false]) lb_cost_of_1) := hide_eq _
noncomputable def b_cost_of : Gam g_cost_of → Option (Fl (Gam g_cost_of) (den Ty.int)) :=
  (sSeq (sIf (eOr (e2 fEqS (eV (t := Ty.str) (v_cost_of_text)) (eC (Str.ofString ""))) (eOr (e2 fGt (e1 fLenS (eV (t := Ty.str) (v_cost_of_text))) (eC (60 : Int))) (e2 fEqS (e2 fIxS (eV (t := Ty.str) (v_cost_of_text)) (eC (0 : Int))) (eC (Str.ofString "0"))))) sNever sNext)
  (sSeq lp_cost_of_1
  (sRet (e1 fIntS (eV (t := Ty.str) (v_cost_of_text))))))
noncomputable def m_cost_of : den (Ty.last Ty.str) → Option (den Ty.int) := hide (runG (Ty.last Ty.str) [Ty.str] b_cost_of)
theorem m_cost_of_eq (d : den (Ty.last Ty.str)) : m_cost_of d = runG (Ty.last Ty.str) [Ty.str] b_cost_of d := congrFun (hide_eq _) d
theorem m_cost_of_at (p0 : den Ty.str) : m_cost_of (p0) = endOf (b_cost_of ((some p0, none, ()) : Gam g_cost_of)) := by
  rw [m_cost_of_eq]
  rfl
set_option maxHeartbeats 4000000 in
theorem ok_cost_of {f : Addr} {fd : FuncData} (F : Fun K "cost_of" "cost_of" s_cost_of f fd) (T : Txt K mg) :
    FnOk P w K mg base CX0 1 f fd P_cost_of (spP K (Ty.last Ty.str) .o Ty.int m_cost_of) := by
  have S := sc_cost_of
  refine fn_ok (F := b_cost_of) [Ty.str] M_cost_of F S rfl rfl rfl m_cost_of_eq (fun cdv A outer s H E hr => ?_)
  refine ⟨_, (pss_cons (ps_if (PW.pt (pw_or (pt_cmpR op_eq (pv 0) pe_str (nomark _)) (pw_or (pt_cmpR op_gt (pe_callB (r := rLen K) call_len (by rfl) T.b_len (by decide +kernel) (pa_cons (pv 0) pa_nil)) (pe_glob (v := V.int 60) rfl (T.c_MOST_FIGURES).choose_spec ⟨_, rfl⟩) (nomark _)) (pw_or1 (pt_cmpR op_eq (pe_ix (r := rIxS) ix_str (pv 0) pe_int (fun _ _ => rfl)) pe_str (nomark _)))))) (pss_one VV.ps_never) pss_nil)
  (pss_cons (ps_for PassesOwn.never rfl (pi_str (pv 0)) (pg_name (i := 1) S.nd rfl (Or.inl rfl)) (pss_one (ps_if (pt_cmpR op_notIn_str (pv 1) (pe_glob (v := V.str (Str.ofString "0123456789")) rfl (T.c_FIGURES).choose_spec ⟨_, rfl⟩) (by rfl)) (pss_one VV.ps_never) pss_nil)))
  (pss_one (ps_ret (pe_callTy call_int_str (by rfl) T.b_int (by decide +kernel) (pa_cons (pv 0) pa_nil)))))), ?_⟩
  exact (rs_seq (rs_if (rt_or (rt_test (rp_op (m := .b) (m1 := .b) (m2 := .b) v_eqS (rp_frz .b (rp_varw (ms := M_cost_of) (v_cost_of_text))) (rp_str))) (rt_or (rt_test (rp_op (m := .b) (m1 := .b) (m2 := .b) v_gt (rp_lenS (m' := .b) (rp_frz .b (rp_varw (ms := M_cost_of) (v_cost_of_text)))) rp_int)) (rt_test (rp_op (m := .b) (m1 := .b) (m2 := .b) v_eqS (rp_op (m1 := .b) (m2 := .b) v_ixS (rp_frz .b (rp_varw (ms := M_cost_of) (v_cost_of_text))) rp_int) (rp_str))))) rs_never rs_next)
  (rs_seq (rs_hide (rs_for (w := false) (t := Ty.str) [true, false] (ri_str (w := false) (m := .b) (rp_frz .b (rp_varw (ms := M_cost_of) (v_cost_of_text)))) (rg_name (ms := M_cost_of) (v_cost_of_sign)) (rs_if (rt_test (rp_op (m := .b) (m1 := .b) (m2 := .b) v_notInS (rp_frz .b (rp_varw (ms := M_cost_of) (v_cost_of_sign))) rp_str)) rs_never rs_next)))
  (rs_ret (rm := .o) (ρ := Ty.int) (rp_intS (m' := .b) (rp_frz .b (rp_varw (ms := M_cost_of) (v_cost_of_text)))))))
/-! ### made_of -/
abbrev s_made_of : Stmt := topS 18
abbrev N_made_of : List Str := ["text", "signs", "sign"]
abbrev P_made_of : List Str := ["text", "signs"]
theorem sc_made_of : FnScope N_made_of P_made_of (defScope s_made_of) := ⟨rfl, rfl, rfl, by decide +kernel, rfl, by decide +kernel, by decide +kernel⟩
abbrev g_made_of : List Ty := [Ty.str, Ty.str, Ty.str]
abbrev M_made_of : List Md := [.w, .w, .w]
abbrev v_made_of_text : Mem g_made_of Ty.str := .z
abbrev v_made_of_signs : Mem g_made_of Ty.str := (.s .z)
abbrev v_made_of_sign : Mem g_made_of Ty.str := (.s (.s .z))
noncomputable def lc_made_of_1 : Gam g_made_of → Option (List (den Ty.bool)) := hide (eLc (e1 fSigns (eV (t := Ty.str) (v_made_of_text))) (bName (t := Ty.str) (v_made_of_sign)) (Gam.mask [true, true, false]) eYes (e2 fInS (eV (t := Ty.str) (v_made_of_sign)) (eV (t := Ty.str) (v_made_of_signs))))
theorem lc_made_of_1_eq : lc_made_of_1 = (eLc (e1 fSigns (eV (t := Ty.str) (v_made_of_text))) (bName (t := Ty.str) (v_made_of_sign)) (Gam.mask [true, true, false]) eYes (e2 fInS (eV (t := Ty.str) (v_made_of_sign)) (eV (t := Ty.str) (v_made_of_signs)))) := hide_eq _
noncomputable def b_made_of : Gam g_made_of → Option (Fl (Gam g_made_of) (den Ty.bool)) :=
  (sSeq (sIf (eOr (e2 fEqS (eV (t := Ty.str) (v_made_of_text)) (eC (Str.ofString ""))) (e2 fGt (e1 fLenS (eV (t := Ty.str) (v_made_of_text))) (eC (8 : Int)))) (sRet (eC false)) sNext)
  (sRet (e1 fAll lc_made_of_1)))
noncomputable def m_made_of : den (Ty.cons Ty.str (Ty.last Ty.str)) → Option (den Ty.bool) := hide (runG (Ty.cons Ty.str (Ty.last Ty.str)) [Ty.str] b_made_of)
theorem m_made_of_eq (d : den (Ty.cons Ty.str (Ty.last Ty.str))) : m_made_of d = runG (Ty.cons Ty.str (Ty.last Ty.str)) [Ty.str] b_made_of d := congrFun (hide_eq _) d
theorem m_made_of_at (p0 : den Ty.str) (p1 : den Ty.str) : m_made_of (p0, p1) = endOf (b_made_of ((some p0, some p1, none, ()) : Gam g_made_of)) := by
  rw [m_made_of_eq]
  rfl
set_option maxHeartbeats 4000000 in
theorem ok_made_of {f : Addr} {fd : FuncData} (F : Fun K "made_of" "made_of" s_made_of f fd) (T : Txt K mg) :
    FnOk P w K mg base CX0 1 f fd P_made_of (spP K (Ty.cons Ty.str (Ty.last Ty.str)) .o Ty.bool m_made_of) := by
  have S := sc_made_of
  refine fn_ok (F := b_made_of) [Ty.str] M_made_of F S rfl rfl rfl m_made_of_eq (fun cdv A outer s H E hr => ?_)
  refine ⟨_, (pss_cons (ps_if (PW.pt (pw_or (pt_cmpR op_eq (pv 0) pe_str (nomark _)) (pw_or1 (pt_cmpR op_gt (pe_callB (r := rLen K) call_len (by rfl) T.b_len (by decide +kernel) (pa_cons (pv 0) pa_nil)) (pe_glob (v := V.int 8) rfl (T.c_LONGEST).choose_spec ⟨_, rfl⟩) (nomark _))))) (pss_one (ps_ret pe_bl)) pss_nil)
  (pss_one (ps_ret (pe_callB (r := rAllD K) (call_allD rfl) (by rfl) T.b_all (by decide +kernel) (pa_cons (pe_lc (own := [("sign", 2)]) rfl S.nd (pi_str (pv 0)) (blkOk_by (N := N_made_of) (sc := defScope s_made_of) (by decide +kernel)) (fun _ _ _ _ _ => (pg_name (i := 2) S.nd rfl (Or.inl rfl))) (fun _ _ _ _ _ => pts_nil) (fun _ _ _ _ _ => (pe_cmpR op_in_str (pv 2) (pv 1) (by rfl)))) pa_nil))))), ?_⟩
  exact (rs_seq (rs_if (rt_or (rt_test (rp_op (m := .b) (m1 := .b) (m2 := .b) v_eqS (rp_frz .b (rp_varw (ms := M_made_of) (v_made_of_text))) (rp_str))) (rt_test (rp_op (m := .b) (m1 := .b) (m2 := .b) v_gt (rp_lenS (m' := .b) (rp_frz .b (rp_varw (ms := M_made_of) (v_made_of_text)))) rp_int))) (rs_ret (rm := .o) (ρ := Ty.bool) rp_bool) rs_next)
  (rs_ret (rm := .o) (ρ := Ty.bool) (rp_all (m' := .b) (rp_le (rp_hide (rp_lc (w := false) (m := .o) (t := Ty.str) (u := Ty.bool) [true, true, false] [2] (ris_of (ri_str (w := false) (m := .b) (rp_frz .b (rp_varw (ms := M_made_of) (v_made_of_text))))) (rg_name (ms := M_made_of) (v_made_of_sign)) gw_name rt_yes (rp_op (m1 := .b) (m2 := .b) v_inS (rp_frz .b (rp_varw (ms := M_made_of) (v_made_of_sign))) (rp_frz .b (rp_varw (ms := M_made_of) (v_made_of_signs))))))))))
/-! ### is_name_text -/
abbrev s_is_name_text : Stmt := topS 17
abbrev N_is_name_text : List Str := ["text", "letters", "stroke", "figures"]
abbrev P_is_name_text : List Str := ["text"]
theorem sc_is_name_text : FnScope N_is_name_text P_is_name_text (defScope s_is_name_text) := ⟨rfl, rfl, rfl, by decide +kernel, rfl, by decide +kernel, by decide +kernel⟩
abbrev g_is_name_text : List Ty := [Ty.str, Ty.str, Ty.str, Ty.str]
abbrev M_is_name_text : List Md := [.w, .w, .w, .w]
abbrev v_is_name_text_text : Mem g_is_name_text Ty.str := .z
abbrev v_is_name_text_letters : Mem g_is_name_text Ty.str := (.s .z)
abbrev v_is_name_text_stroke : Mem g_is_name_text Ty.str := (.s (.s .z))
abbrev v_is_name_text_figures : Mem g_is_name_text Ty.str := (.s (.s (.s .z)))
noncomputable def b_is_name_text : Gam g_is_name_text → Option (Fl (Gam g_is_name_text) (den Ty.bool)) :=
  (sSeq (sAsg (e2 fPartition (eV (t := Ty.str) (v_is_name_text_text)) (eC (Str.ofString "_"))) (bCons (bName (t := Ty.str) (v_is_name_text_letters)) (bCons (bName (t := Ty.str) (v_is_name_text_stroke)) (bName (t := Ty.str) (v_is_name_text_figures)))))
  (sSeq (sIf (eNot (e1 m_made_of (eCons (eV (t := Ty.str) (v_is_name_text_letters)) (eC (Str.ofString "ABCDEFGHIJKLMNOPQRSTUVWXYZ"))))) (sRet (eC false)) sNext)
  (sSeq (sIf (e2 fEqS (eV (t := Ty.str) (v_is_name_text_stroke)) (eC (Str.ofString ""))) (sRet (eC true)) sNext)
  (sRet (eAnd (e1 m_made_of (eCons (eV (t := Ty.str) (v_is_name_text_figures)) (eC (Str.ofString "0123456789")))) (e2 fLe (e1 fLenS (eV (t := Ty.str) (v_is_name_text_figures))) (eC (4 : Int))))))))
noncomputable def m_is_name_text : den (Ty.last Ty.str) → Option (den Ty.bool) := hide (runG (Ty.last Ty.str) [Ty.str, Ty.str, Ty.str] b_is_name_text)
theorem m_is_name_text_eq (d : den (Ty.last Ty.str)) : m_is_name_text d = runG (Ty.last Ty.str) [Ty.str, Ty.str, Ty.str] b_is_name_text d := congrFun (hide_eq _) d
theorem m_is_name_text_at (p0 : den Ty.str) : m_is_name_text (p0) = endOf (b_is_name_text ((some p0, none, none, none, ()) : Gam g_is_name_text)) := by
  rw [m_is_name_text_eq]
  rfl
set_option maxHeartbeats 4000000 in
theorem ok_is_name_text {f : Addr} {fd : FuncData} (F : Fun K "is_name_text" "is_name_text" s_is_name_text f fd) (T : Txt K mg) {f_made_of : Addr} {fd_made_of : FuncData} (D_made_of : Df K mg "made_of" "made_of" s_made_of P_made_of f_made_of fd_made_of) (G_made_of : FnOk P w K mg base CX0 1 f_made_of fd_made_of P_made_of (spP K (Ty.cons Ty.str (Ty.last Ty.str)) .o Ty.bool m_made_of)) :
    FnOk P w K mg base CX0 2 f fd P_is_name_text (spP K (Ty.last Ty.str) .o Ty.bool m_is_name_text) := by
  have S := sc_is_name_text
  refine fn_ok (F := b_is_name_text) [Ty.str, Ty.str, Ty.str] M_is_name_text F S rfl rfl rfl m_is_name_text_eq (fun cdv A outer s H E hr => ?_)
  refine ⟨_, (pss_cons (ps_asg (pe_partition (pv 0) pe_str) (pg_tupK (n := 3) K rfl rfl (pgs_cons (pg_name (i := 1) S.nd rfl (Or.inl rfl)) (pgs_cons (pg_name (i := 2) S.nd rfl (Or.inl rfl)) (pgs_cons (pg_name (i := 3) S.nd rfl (Or.inl rfl)) pgs_nil)))))
  (pss_cons (ps_if (pt_not (pt_val (pe_call G_made_of (hr.mono (by decide)) rfl D_made_of.gl D_made_of.fn.kp D_made_of.bi .nil pass0 (pa_cons (pv 1) (pa_cons (pe_glob (v := V.str (Str.ofString "ABCDEFGHIJKLMNOPQRSTUVWXYZ")) rfl (T.c_GREAT_texts).choose_spec ⟨_, rfl⟩) pa_nil))))) (pss_one (ps_ret pe_bl)) pss_nil)
  (pss_cons (ps_if (pt_cmpR op_eq (pv 2) pe_str (nomark _)) (pss_one (ps_ret pe_bl)) pss_nil)
  (pss_one (ps_ret (pe_and (pe_call G_made_of (hr.mono (by decide)) rfl D_made_of.gl D_made_of.fn.kp D_made_of.bi .nil pass0 (pa_cons (pv 3) (pa_cons (pe_glob (v := V.str (Str.ofString "0123456789")) rfl (T.c_FIGURES).choose_spec ⟨_, rfl⟩) pa_nil))) (pe_one (pe_cmpR op_le (pe_callB (r := rLen K) call_len (by rfl) T.b_len (by decide +kernel) (pa_cons (pv 3) pa_nil)) pe_int (nomark _))))))))), ?_⟩
  exact (rs_seq (rs_asg (w := false) (t := (Ty.tup (Ty.cons Ty.str (Ty.cons Ty.str (Ty.last Ty.str))))) (rp_partition (m1 := .b) (m2 := .b) (rp_frz .b (rp_varw (ms := M_is_name_text) (v_is_name_text_text))) (rp_str)) (rg_tup (rgs_cons (rg_name (ms := M_is_name_text) (v_is_name_text_letters)) (rgs_cons (rg_name (ms := M_is_name_text) (v_is_name_text_stroke)) (rgs_one (rg_name (ms := M_is_name_text) (v_is_name_text_figures)))))))
  (rs_seq (rs_if (rt_not (rt_val (m := .b) (rp_frz .b (rp_call (mA := .b) (rm := .o) (ρ := Ty.bool) (m := m_made_of) rfl (ra_cons (rp_frz .b (rp_varw (ms := M_is_name_text) (v_is_name_text_letters))) (ra_one rp_str)))))) (rs_ret (rm := .o) (ρ := Ty.bool) rp_bool) rs_next)
  (rs_seq (rs_if (rt_test (rp_op (m := .b) (m1 := .b) (m2 := .b) v_eqS (rp_frz .b (rp_varw (ms := M_is_name_text) (v_is_name_text_stroke))) (rp_str))) (rs_ret (rm := .o) (ρ := Ty.bool) rp_bool) rs_next)
  (rs_ret (rm := .o) (ρ := Ty.bool) (rp_and (m1 := .b) (m2 := .b) (rp_frz .b (rp_call (mA := .b) (rm := .o) (ρ := Ty.bool) (m := m_made_of) rfl (ra_cons (rp_frz .b (rp_varw (ms := M_is_name_text) (v_is_name_text_figures))) (ra_one rp_str)))) (rp_op (m1 := .b) (m2 := .b) v_le (rp_lenS (m' := .b) (rp_frz .b (rp_varw (ms := M_is_name_text) (v_is_name_text_figures)))) rp_int))))))
/-! ### read_rule -/
abbrev s_read_rule : Stmt := topS 20
abbrev N_read_rule : List Str := ["text", "words", "cost", "word"]
abbrev P_read_rule : List Str := ["text"]
theorem sc_read_rule : FnScope N_read_rule P_read_rule (defScope s_read_rule) := ⟨rfl, rfl, rfl, by decide +kernel, rfl, by decide +kernel, by decide +kernel⟩
abbrev g_read_rule : List Ty := [Ty.str, (Ty.list Ty.str), Ty.int, Ty.str]
abbrev M_read_rule : List Md := [.w, .l, .w, .w]
abbrev v_read_rule_text : Mem g_read_rule Ty.str := .z
abbrev v_read_rule_words : Mem g_read_rule (Ty.list Ty.str) := (.s .z)
abbrev v_read_rule_cost : Mem g_read_rule Ty.int := (.s (.s .z))
abbrev v_read_rule_word : Mem g_read_rule Ty.str := (.s (.s (.s .z)))
noncomputable def lb_read_rule_1 : Gam g_read_rule → Option (Fl (Gam g_read_rule) (den (Ty.tup (Ty.cons Ty.str (Ty.cons (Ty.vtup Ty.str) (Ty.last Ty.int)))))) :=
  (sIf (eAnd (eNot (e1 m_made_of (eCons (eV (t := Ty.str) (v_read_rule_word)) (eC (Str.ofString "abcdefghijklmnopqrstuvwxyz"))))) (eNot (e1 m_is_name_text (eV (t := Ty.str) (v_read_rule_word))))) sNever sNext)
noncomputable def lp_read_rule_1 : Gam g_read_rule → Option (Fl (Gam g_read_rule) (den (Ty.tup (Ty.cons Ty.str (Ty.cons (Ty.vtup Ty.str) (Ty.last Ty.int)))))) := hide (sFor (e3 fCutL (eV (t := (Ty.list Ty.str)) (v_read_rule_words)) (e1 (fun i => some (some i)) (eC (2 : Int))) (eC none)) (bName (t := Ty.str) (v_read_rule_word)) (Gam.mask [false, true, true, false]) lb_read_rule_1)
theorem lp_read_rule_1_eq : lp_read_rule_1 = (sFor (e3 fCutL (eV (t := (Ty.list Ty.str)) (v_read_rule_words)) (e1 (fun i => some (some i)) (eC (2 : Int))) (eC none)) (bName (t := Ty.str) (v_read_rule_word)) (Gam.mask [false, true, true, false]) lb_read_rule_1) := hide_eq _
noncomputable def b_read_rule : Gam g_read_rule → Option (Fl (Gam g_read_rule) (den (Ty.tup (Ty.cons Ty.str (Ty.cons (Ty.vtup Ty.str) (Ty.last Ty.int)))))) :=
  (sSeq (sSet (v_read_rule_words) (e2 fSplit (eV (t := Ty.str) (v_read_rule_text)) (eC (Str.ofString " "))))
  (sSeq (sSet (v_read_rule_cost) (eC (0 : Int)))
  (sSeq (sIf (eAnd (e2 fGt (e1 fLen (eV (t := (Ty.list Ty.str)) (v_read_rule_words))) (eC (3 : Int))) (e2 fEqS (e2 atI (eV (t := (Ty.list Ty.str)) (v_read_rule_words)) (e1 (fun a => some (-a)) (eC (2 : Int)))) (eC (Str.ofString ":")))) (sSeq (sSet (v_read_rule_cost) (e1 m_cost_of (e2 atI (eV (t := (Ty.list Ty.str)) (v_read_rule_words)) (e1 (fun a => some (-a)) (eC (1 : Int))))))
  (sSet (v_read_rule_words) (e3 fCutL (eV (t := (Ty.list Ty.str)) (v_read_rule_words)) (eC none) (e1 (fun i => some (some i)) (e1 (fun a => some (-a)) (eC (2 : Int))))))) sNext)
  (sSeq (sIf (eOr (e2 fLt (e1 fLen (eV (t := (Ty.list Ty.str)) (v_read_rule_words))) (eC (2 : Int))) (eOr (e2 fNeS (e2 atI (eV (t := (Ty.list Ty.str)) (v_read_rule_words)) (eC (1 : Int))) (eC (Str.ofString "="))) (eNot (e1 m_is_name_text (e2 atI (eV (t := (Ty.list Ty.str)) (v_read_rule_words)) (eC (0 : Int))))))) sNever sNext)
  (sSeq lp_read_rule_1
  (sRet (eCons (e2 atI (eV (t := (Ty.list Ty.str)) (v_read_rule_words)) (eC (0 : Int))) (eCons (e3 fCutL (eV (t := (Ty.list Ty.str)) (v_read_rule_words)) (e1 (fun i => some (some i)) (eC (2 : Int))) (eC none)) (eV (t := Ty.int) (v_read_rule_cost))))))))))
noncomputable def m_read_rule : den (Ty.last Ty.str) → Option (den (Ty.tup (Ty.cons Ty.str (Ty.cons (Ty.vtup Ty.str) (Ty.last Ty.int))))) := hide (runG (Ty.last Ty.str) [(Ty.list Ty.str), Ty.int, Ty.str] b_read_rule)
theorem m_read_rule_eq (d : den (Ty.last Ty.str)) : m_read_rule d = runG (Ty.last Ty.str) [(Ty.list Ty.str), Ty.int, Ty.str] b_read_rule d := congrFun (hide_eq _) d
theorem m_read_rule_at (p0 : den Ty.str) : m_read_rule (p0) = endOf (b_read_rule ((some p0, none, none, none, ()) : Gam g_read_rule)) := by
  rw [m_read_rule_eq]
  rfl
set_option maxHeartbeats 4000000 in
theorem ok_read_rule {f : Addr} {fd : FuncData} (F : Fun K "read_rule" "read_rule" s_read_rule f fd) (T : Txt K mg) {f_cost_of : Addr} {fd_cost_of : FuncData} (D_cost_of : Df K mg "cost_of" "cost_of" s_cost_of P_cost_of f_cost_of fd_cost_of) (G_cost_of : FnOk P w K mg base CX0 1 f_cost_of fd_cost_of P_cost_of (spP K (Ty.last Ty.str) .o Ty.int m_cost_of)) {f_is_name_text : Addr} {fd_is_name_text : FuncData} (D_is_name_text : Df K mg "is_name_text" "is_name_text" s_is_name_text P_is_name_text f_is_name_text fd_is_name_text) (G_is_name_text : FnOk P w K mg base CX0 2 f_is_name_text fd_is_name_text P_is_name_text (spP K (Ty.last Ty.str) .o Ty.bool m_is_name_text)) {f_made_of : Addr} {fd_made_of : FuncData} (D_made_of : Df K mg "made_of" "made_of" s_made_of P_made_of f_made_of fd_made_of) (G_made_of : FnOk P w K mg base CX0 1 f_made_of fd_made_of P_made_of (spP K (Ty.cons Ty.str (Ty.last Ty.str)) .o Ty.bool m_made_of)) :
    FnOk P w K mg base CX0 3 f fd P_read_rule (spP K (Ty.last Ty.str) .o (Ty.tup (Ty.cons Ty.str (Ty.cons (Ty.vtup Ty.str) (Ty.last Ty.int)))) m_read_rule) := by
  have S := sc_read_rule
  refine fn_ok (F := b_read_rule) [(Ty.list Ty.str), Ty.int, Ty.str] M_read_rule F S rfl rfl rfl m_read_rule_eq (fun cdv A outer s H E hr => ?_)
  refine ⟨_, (pss_cons (ps_set (i := 1) S.nd rfl (Or.inl rfl) (pe_split (pv 0) pe_str))
  (pss_cons (ps_set (i := 2) S.nd rfl (Or.inl rfl) pe_int)
  (pss_cons (ps_if (PW.pt (pw_and (pt_cmpR op_gt (pe_callB (r := rLen K) call_len (by rfl) T.b_len (by decide +kernel) (pa_cons (pv 1) pa_nil)) pe_int (nomark _)) (pw_and1 (pt_cmpR op_eq (pe_ix (r := rIxL K) ix_list (pv 1) (pe_un un_neg pe_int) (fun _ _ => rfl)) pe_str (nomark _))))) (pss_cons (ps_set (i := 2) S.nd rfl (Or.inl rfl) (pe_call G_cost_of (hr.mono (by decide)) rfl D_cost_of.gl D_cost_of.fn.kp D_cost_of.bi .nil pass0 (pa_cons (pe_ix (r := rIxL K) ix_list (pv 1) (pe_un un_neg pe_int) (fun _ _ => rfl)) pa_nil)))
  (pss_one (ps_set (i := 1) S.nd rfl (Or.inl rfl) (pe_slice (r := rSlL K) sl_list (pv 1) po_none (po_some (pe_un un_neg pe_int)))))) pss_nil)
  (pss_cons (ps_if (PW.pt (pw_or (pt_cmpR op_lt (pe_callB (r := rLen K) call_len (by rfl) T.b_len (by decide +kernel) (pa_cons (pv 1) pa_nil)) pe_int (nomark _)) (pw_or (pt_cmpR op_ne (pe_ix (r := rIxL K) ix_list (pv 1) pe_int (fun _ _ => rfl)) pe_str (nomark _)) (pw_or1 (pt_not (pt_val (pe_call G_is_name_text (hr.mono (by decide)) rfl D_is_name_text.gl D_is_name_text.fn.kp D_is_name_text.bi .nil pass0 (pa_cons (pe_ix (r := rIxL K) ix_list (pv 1) pe_int (fun _ _ => rfl)) pa_nil)))))))) (pss_one VV.ps_never) pss_nil)
  (pss_cons (ps_for PassesOwn.never rfl (pi_listK K rfl (pe_slice (r := rSlL K) sl_list (pv 1) (po_some pe_int) po_none)) (pg_name (i := 3) S.nd rfl (Or.inl rfl)) (pss_one (ps_if (PW.pt (pw_and (pt_not (pt_val (pe_call G_made_of (hr.mono (by decide)) rfl D_made_of.gl D_made_of.fn.kp D_made_of.bi .nil pass0 (pa_cons (pv 3) (pa_cons (pe_glob (v := V.str (Str.ofString "abcdefghijklmnopqrstuvwxyz")) rfl (T.c_SMALL).choose_spec ⟨_, rfl⟩) pa_nil))))) (pw_and1 (pt_not (pt_val (pe_call G_is_name_text (hr.mono (by decide)) rfl D_is_name_text.gl D_is_name_text.fn.kp D_is_name_text.bi .nil pass0 (pa_cons (pv 3) pa_nil))))))) (pss_one VV.ps_never) pss_nil)))
  (pss_one (ps_ret (pe_tup (pa_cons (pe_ix (r := rIxL K) ix_list (pv 1) pe_int (fun _ _ => rfl)) (pa_cons (pe_callTy (r := rTupOf K) call_tuple_of (by rfl) T.b_tuple (by decide +kernel) (pa_cons (pe_slice (r := rSlL K) sl_list (pv 1) (po_some pe_int) po_none) pa_nil)) (pa_cons (pv 2) pa_nil))))))))))), ?_⟩
  exact (rs_seq (rs_set (ms := M_read_rule) (m := .l) (v_read_rule_words) (rp_le (rp_split (m1 := .b) (m2 := .b) (rp_frz .b (rp_varw (ms := M_read_rule) (v_read_rule_text))) (rp_str))))
  (rs_seq (rs_set (ms := M_read_rule) (m := .w) (v_read_rule_cost) rp_int)
  (rs_seq (rs_if (rt_and (rt_test (rp_op (m := .b) (m1 := .b) (m2 := .b) v_gt (rp_lenL (m' := .b) (rp_le (rp_varl (ms := M_read_rule) (v_read_rule_words)))) rp_int)) (rt_test (rp_op (m := .b) (m1 := .b) (m2 := .b) v_eqS (rp_op (m1 := .b) (m2 := .b) (v_ixL (t := Ty.str)) (rp_le (rp_varl (ms := M_read_rule) (v_read_rule_words))) (rp_neg (m1 := .b) rp_int)) (rp_str)))) (rs_seq (rs_set (ms := M_read_rule) (m := .w) (v_read_rule_cost) (rp_frz .w (rp_call (mA := .b) (rm := .o) (ρ := Ty.int) (m := m_cost_of) rfl (ra_one (rp_op (m1 := .b) (m2 := .b) (v_ixL (t := Ty.str)) (rp_le (rp_varl (ms := M_read_rule) (v_read_rule_words))) (rp_neg (m1 := .b) rp_int))))))
  (rs_set (ms := M_read_rule) (m := .l) (v_read_rule_words) (rp_le (rp_sliceL (m := .b) (rp_le (rp_varl (ms := M_read_rule) (v_read_rule_words))) ro_none (ro_some (m := .b) (rp_neg (m1 := .b) rp_int)))))) rs_next)
  (rs_seq (rs_if (rt_or (rt_test (rp_op (m := .b) (m1 := .b) (m2 := .b) v_lt (rp_lenL (m' := .b) (rp_le (rp_varl (ms := M_read_rule) (v_read_rule_words)))) rp_int)) (rt_or (rt_test (rp_op (m := .b) (m1 := .b) (m2 := .b) v_neS (rp_op (m1 := .b) (m2 := .b) (v_ixL (t := Ty.str)) (rp_le (rp_varl (ms := M_read_rule) (v_read_rule_words))) rp_int) (rp_str))) (rt_not (rt_val (m := .b) (rp_frz .b (rp_call (mA := .b) (rm := .o) (ρ := Ty.bool) (m := m_is_name_text) rfl (ra_one (rp_op (m1 := .b) (m2 := .b) (v_ixL (t := Ty.str)) (rp_le (rp_varl (ms := M_read_rule) (v_read_rule_words))) rp_int)))))))) rs_never rs_next)
  (rs_seq (rs_hide (rs_for (w := false) (t := Ty.str) [false, true, true, false] (ri_list (w := false) (t := Ty.str) (rp_le (rp_sliceL (m := .b) (rp_le (rp_varl (ms := M_read_rule) (v_read_rule_words))) (ro_some (m := .b) rp_int) ro_none))) (rg_name (ms := M_read_rule) (v_read_rule_word)) (rs_if (rt_and (rt_not (rt_val (m := .b) (rp_frz .b (rp_call (mA := .b) (rm := .o) (ρ := Ty.bool) (m := m_made_of) rfl (ra_cons (rp_frz .b (rp_varw (ms := M_read_rule) (v_read_rule_word))) (ra_one rp_str)))))) (rt_not (rt_val (m := .b) (rp_frz .b (rp_call (mA := .b) (rm := .o) (ρ := Ty.bool) (m := m_is_name_text) rfl (ra_one (rp_frz .b (rp_varw (ms := M_read_rule) (v_read_rule_word))))))))) rs_never rs_next)))
  (rs_ret (rm := .o) (ρ := (Ty.tup (Ty.cons Ty.str (Ty.cons (Ty.vtup Ty.str) (Ty.last Ty.int))))) (rp_tup (ra_cons (rp_frz .o (rp_op (m1 := .b) (m2 := .b) (v_ixL (t := Ty.str)) (rp_le (rp_varl (ms := M_read_rule) (v_read_rule_words))) rp_int)) (ra_cons (rp_tupL (m' := .b) (t := Ty.str) (rp_le (rp_sliceL (m := .b) (rp_le (rp_varl (ms := M_read_rule) (v_read_rule_words))) (ro_some (m := .b) rp_int) ro_none))) (ra_one (rp_frz .o (rp_varw (ms := M_read_rule) (v_read_rule_cost)))))))))))))
/-! ### read_grammar -/
abbrev s_read_grammar : Stmt := topS 21
abbrev N_read_grammar : List Str := ["text", "row"]
abbrev P_read_grammar : List Str := ["text"]
theorem sc_read_grammar : FnScope N_read_grammar P_read_grammar (defScope s_read_grammar) := ⟨rfl, rfl, rfl, by decide +kernel, rfl, by decide +kernel, by decide +kernel⟩
abbrev g_read_grammar : List Ty := [Ty.str, Ty.str]
abbrev M_read_grammar : List Md := [.w, .w]
abbrev v_read_grammar_text : Mem g_read_grammar Ty.str := .z
abbrev v_read_grammar_row : Mem g_read_grammar Ty.str := (.s .z)
noncomputable def lc_read_grammar_1 : Gam g_read_grammar → Option (List (den (Ty.tup (Ty.cons Ty.str (Ty.cons (Ty.vtup Ty.str) (Ty.last Ty.int)))))) := hide (eLc (e2 fSplit (eV (t := Ty.str) (v_read_grammar_text)) (eC (Str.ofString "\n"))) (bName (t := Ty.str) (v_read_grammar_row)) (Gam.mask [true, false]) eYes (e1 m_read_rule (eV (t := Ty.str) (v_read_grammar_row))))
theorem lc_read_grammar_1_eq : lc_read_grammar_1 = (eLc (e2 fSplit (eV (t := Ty.str) (v_read_grammar_text)) (eC (Str.ofString "\n"))) (bName (t := Ty.str) (v_read_grammar_row)) (Gam.mask [true, false]) eYes (e1 m_read_rule (eV (t := Ty.str) (v_read_grammar_row)))) := hide_eq _
noncomputable def b_read_grammar : Gam g_read_grammar → Option (Fl (Gam g_read_grammar) (den (Ty.list (Ty.tup (Ty.cons Ty.str (Ty.cons (Ty.vtup Ty.str) (Ty.last Ty.int))))))) :=
  (sRet (e1 m_grammar_of lc_read_grammar_1))
noncomputable def m_read_grammar : den (Ty.last Ty.str) → Option (den (Ty.list (Ty.tup (Ty.cons Ty.str (Ty.cons (Ty.vtup Ty.str) (Ty.last Ty.int)))))) := hide (runG (Ty.last Ty.str) [Ty.str] b_read_grammar)
theorem m_read_grammar_eq (d : den (Ty.last Ty.str)) : m_read_grammar d = runG (Ty.last Ty.str) [Ty.str] b_read_grammar d := congrFun (hide_eq _) d
theorem m_read_grammar_at (p0 : den Ty.str) : m_read_grammar (p0) = endOf (b_read_grammar ((some p0, none, ()) : Gam g_read_grammar)) := by
  rw [m_read_grammar_eq]
  rfl
set_option maxHeartbeats 4000000 in
theorem ok_read_grammar {f : Addr} {fd : FuncData} (F : Fun K "read_grammar" "read_grammar" s_read_grammar f fd) (T : Txt K mg) {f_grammar_of : Addr} {fd_grammar_of : FuncData} (D_grammar_of : Df K mg "grammar_of" "grammar_of" s_grammar_of P_grammar_of f_grammar_of fd_grammar_of) (G_grammar_of : FnOk P w K mg base CX0 2 f_grammar_of fd_grammar_of P_grammar_of (spP K (Ty.last (Ty.list (Ty.tup (Ty.cons Ty.str (Ty.cons (Ty.vtup Ty.str) (Ty.last Ty.int)))))) .o (Ty.list (Ty.tup (Ty.cons Ty.str (Ty.cons (Ty.vtup Ty.str) (Ty.last Ty.int))))) m_grammar_of)) {f_read_rule : Addr} {fd_read_rule : FuncData} (D_read_rule : Df K mg "read_rule" "read_rule" s_read_rule P_read_rule f_read_rule fd_read_rule) (G_read_rule : FnOk P w K mg base CX0 3 f_read_rule fd_read_rule P_read_rule (spP K (Ty.last Ty.str) .o (Ty.tup (Ty.cons Ty.str (Ty.cons (Ty.vtup Ty.str) (Ty.last Ty.int)))) m_read_rule)) :
    FnOk P w K mg base CX0 4 f fd P_read_grammar (spP K (Ty.last Ty.str) .o (Ty.list (Ty.tup (Ty.cons Ty.str (Ty.cons (Ty.vtup Ty.str) (Ty.last Ty.int))))) m_read_grammar) := by
  have S := sc_read_grammar
  refine fn_ok (F := b_read_grammar) [Ty.str] M_read_grammar F S rfl rfl rfl m_read_grammar_eq (fun cdv A outer s H E hr => ?_)
  refine ⟨_, (pss_one (ps_ret (pe_call G_grammar_of (hr.mono (by decide)) rfl D_grammar_of.gl D_grammar_of.fn.kp D_grammar_of.bi .nil pass0 (pa_cons (pe_lc (own := [("row", 1)]) rfl S.nd (pi_listK K rfl (pe_split (pv 0) pe_str)) (blkOk_by (N := N_read_grammar) (sc := defScope s_read_grammar) (by decide +kernel)) (fun _ _ _ _ _ => (pg_name (i := 1) S.nd rfl (Or.inl rfl))) (fun _ _ _ _ _ => pts_nil) (fun _ _ _ _ _ => (pe_call G_read_rule (hr.mono (by decide)) rfl D_read_rule.gl D_read_rule.fn.kp D_read_rule.bi .nil pass0 (pa_cons (pv 1) pa_nil)))) pa_nil)))), ?_⟩
  exact (rs_ret (rm := .o) (ρ := (Ty.list (Ty.tup (Ty.cons Ty.str (Ty.cons (Ty.vtup Ty.str) (Ty.last Ty.int)))))) (rp_call (mA := .b) (rm := .o) (ρ := (Ty.list (Ty.tup (Ty.cons Ty.str (Ty.cons (Ty.vtup Ty.str) (Ty.last Ty.int)))))) (m := m_grammar_of) rfl (ra_one (rp_le (rp_hide (rp_lc (w := false) (m := .o) (t := Ty.str) (u := (Ty.tup (Ty.cons Ty.str (Ty.cons (Ty.vtup Ty.str) (Ty.last Ty.int))))) [true, false] [1] (ris_of (ri_list (w := false) (t := Ty.str) (rp_le (rp_split (m1 := .b) (m2 := .b) (rp_frz .b (rp_varw (ms := M_read_grammar) (v_read_grammar_text))) (rp_str))))) (rg_name (ms := M_read_grammar) (v_read_grammar_row)) gw_name rt_yes (rp_call (mA := .b) (rm := .o) (ρ := (Ty.tup (Ty.cons Ty.str (Ty.cons (Ty.vtup Ty.str) (Ty.last Ty.int))))) (m := m_read_rule) rfl (ra_one (rp_frz .b (rp_varw (ms := M_read_grammar) (v_read_grammar_row)))))))))))
/-! ### law -/
abbrev s_law : Stmt := topS 29
abbrev N_law : List Str := ["script", "rules", "handed", "due", "text", "found", "name", "parts", "cost"]
abbrev P_law : List Str := ["script"]
theorem sc_law : FnScope N_law P_law (defScope s_law) := ⟨rfl, rfl, rfl, by decide +kernel, rfl, by decide +kernel, by decide +kernel⟩
abbrev g_law : List Ty := [(Ty.list Ty.int), (Ty.list (Ty.tup (Ty.cons Ty.str (Ty.cons (Ty.vtup Ty.str) (Ty.last Ty.int))))), (Ty.list (Ty.tup (Ty.cons Ty.str (Ty.cons (Ty.vtup Ty.str) (Ty.last Ty.int))))), Ty.str, Ty.str, (Ty.list (Ty.tup (Ty.cons Ty.str (Ty.cons (Ty.vtup Ty.str) (Ty.last Ty.int))))), Ty.str, (Ty.vtup Ty.str), Ty.int]
abbrev M_law : List Md := [.w, .l, .l, .w, .w, .o, .w, .w, .w]
abbrev v_law_script : Mem g_law (Ty.list Ty.int) := .z
abbrev v_law_rules : Mem g_law (Ty.list (Ty.tup (Ty.cons Ty.str (Ty.cons (Ty.vtup Ty.str) (Ty.last Ty.int))))) := (.s .z)
abbrev v_law_handed : Mem g_law (Ty.list (Ty.tup (Ty.cons Ty.str (Ty.cons (Ty.vtup Ty.str) (Ty.last Ty.int))))) := (.s (.s .z))
abbrev v_law_due : Mem g_law Ty.str := (.s (.s (.s .z)))
abbrev v_law_text : Mem g_law Ty.str := (.s (.s (.s (.s .z))))
abbrev v_law_found : Mem g_law (Ty.list (Ty.tup (Ty.cons Ty.str (Ty.cons (Ty.vtup Ty.str) (Ty.last Ty.int))))) := (.s (.s (.s (.s (.s .z)))))
abbrev v_law_name : Mem g_law Ty.str := (.s (.s (.s (.s (.s (.s .z))))))
abbrev v_law_parts : Mem g_law (Ty.vtup Ty.str) := (.s (.s (.s (.s (.s (.s (.s .z)))))))
abbrev v_law_cost : Mem g_law Ty.int := (.s (.s (.s (.s (.s (.s (.s (.s .z))))))))
noncomputable def lb_law_1 : Gam g_law → Option (Fl (Gam g_law) (den Ty.bool)) :=
  (sIf (eOr (eNot (e1 (fun d => some ((fun _ => true) d)) (eV (t := (Ty.vtup Ty.str)) (v_law_parts)))) (eOr (eNot (e1 (fun d => some ((fun _ => true) d)) (eV (t := Ty.int) (v_law_cost)))) (e1 (fun d => some ((fun _ => false) d)) (eV (t := Ty.int) (v_law_cost))))) (sRet (eC false)) sNext)
noncomputable def lp_law_1 : Gam g_law → Option (Fl (Gam g_law) (den Ty.bool)) := hide (sFor (eV (t := (Ty.list (Ty.tup (Ty.cons Ty.str (Ty.cons (Ty.vtup Ty.str) (Ty.last Ty.int)))))) (v_law_found)) (bCons (bName (t := Ty.str) (v_law_name)) (bCons (bName (t := (Ty.vtup Ty.str)) (v_law_parts)) (bName (t := Ty.int) (v_law_cost)))) (Gam.mask [false, true, false, true, false, true, false, false, false]) lb_law_1)
theorem lp_law_1_eq : lp_law_1 = (sFor (eV (t := (Ty.list (Ty.tup (Ty.cons Ty.str (Ty.cons (Ty.vtup Ty.str) (Ty.last Ty.int)))))) (v_law_found)) (bCons (bName (t := Ty.str) (v_law_name)) (bCons (bName (t := (Ty.vtup Ty.str)) (v_law_parts)) (bName (t := Ty.int) (v_law_cost)))) (Gam.mask [false, true, false, true, false, true, false, false, false]) lb_law_1) := hide_eq _
noncomputable def b_law : Gam g_law → Option (Fl (Gam g_law) (den Ty.bool)) :=
  (sSeq (sSet (v_law_rules) (e1 m__law_rules (eV (t := (Ty.list Ty.int)) (v_law_script))))
  (sSeq (sSet (v_law_handed) (eV (t := (Ty.list (Ty.tup (Ty.cons Ty.str (Ty.cons (Ty.vtup Ty.str) (Ty.last Ty.int)))))) (v_law_rules)))
  (sSeq (sSet (v_law_due) (e1 m__law_shown (eV (t := (Ty.list (Ty.tup (Ty.cons Ty.str (Ty.cons (Ty.vtup Ty.str) (Ty.last Ty.int)))))) (v_law_rules))))
  (sSeq (sSet (v_law_text) (e1 m_shown_grammar (eV (t := (Ty.list (Ty.tup (Ty.cons Ty.str (Ty.cons (Ty.vtup Ty.str) (Ty.last Ty.int)))))) (v_law_handed))))
  (sSeq (sIf (eOr (eNot (e1 (fun d => some ((fun _ => true) d)) (eV (t := Ty.str) (v_law_text)))) (eOr (e2 fNeS (eV (t := Ty.str) (v_law_text)) (eV (t := Ty.str) (v_law_due))) (e2 (fNeD (Ty.list (Ty.tup (Ty.cons Ty.str (Ty.cons (Ty.vtup Ty.str) (Ty.last Ty.int)))))) (eV (t := (Ty.list (Ty.tup (Ty.cons Ty.str (Ty.cons (Ty.vtup Ty.str) (Ty.last Ty.int)))))) (v_law_handed)) (eV (t := (Ty.list (Ty.tup (Ty.cons Ty.str (Ty.cons (Ty.vtup Ty.str) (Ty.last Ty.int)))))) (v_law_rules))))) (sRet (eC false)) sNext)
  (sSeq (sSet (v_law_found) (e1 m_read_grammar (eV (t := Ty.str) (v_law_due))))
  (sSeq (sIf (eOr (eNot (e1 (fun d => some ((fun _ => true) d)) (eV (t := (Ty.list (Ty.tup (Ty.cons Ty.str (Ty.cons (Ty.vtup Ty.str) (Ty.last Ty.int)))))) (v_law_found)))) (e2 (fNeD (Ty.list (Ty.tup (Ty.cons Ty.str (Ty.cons (Ty.vtup Ty.str) (Ty.last Ty.int)))))) (eV (t := (Ty.list (Ty.tup (Ty.cons Ty.str (Ty.cons (Ty.vtup Ty.str) (Ty.last Ty.int)))))) (v_law_found)) (eV (t := (Ty.list (Ty.tup (Ty.cons Ty.str (Ty.cons (Ty.vtup Ty.str) (Ty.last Ty.int)))))) (v_law_rules)))) (sRet (eC false)) sNext)
  (sSeq lp_law_1
  (sSeq (sLst (v_law_found) fun _ => [])
  (sRet (e2 (fEqD (Ty.list (Ty.tup (Ty.cons Ty.str (Ty.cons (Ty.vtup Ty.str) (Ty.last Ty.int)))))) (e1 m_read_grammar (eV (t := Ty.str) (v_law_due))) (eV (t := (Ty.list (Ty.tup (Ty.cons Ty.str (Ty.cons (Ty.vtup Ty.str) (Ty.last Ty.int)))))) (v_law_rules)))))))))))))
noncomputable def m_law : den (Ty.last (Ty.list Ty.int)) → Option (den Ty.bool) := hide (runG (Ty.last (Ty.list Ty.int)) [(Ty.list (Ty.tup (Ty.cons Ty.str (Ty.cons (Ty.vtup Ty.str) (Ty.last Ty.int))))), (Ty.list (Ty.tup (Ty.cons Ty.str (Ty.cons (Ty.vtup Ty.str) (Ty.last Ty.int))))), Ty.str, Ty.str, (Ty.list (Ty.tup (Ty.cons Ty.str (Ty.cons (Ty.vtup Ty.str) (Ty.last Ty.int))))), Ty.str, (Ty.vtup Ty.str), Ty.int] b_law)
theorem m_law_eq (d : den (Ty.last (Ty.list Ty.int))) : m_law d = runG (Ty.last (Ty.list Ty.int)) [(Ty.list (Ty.tup (Ty.cons Ty.str (Ty.cons (Ty.vtup Ty.str) (Ty.last Ty.int))))), (Ty.list (Ty.tup (Ty.cons Ty.str (Ty.cons (Ty.vtup Ty.str) (Ty.last Ty.int))))), Ty.str, Ty.str, (Ty.list (Ty.tup (Ty.cons Ty.str (Ty.cons (Ty.vtup Ty.str) (Ty.last Ty.int))))), Ty.str, (Ty.vtup Ty.str), Ty.int] b_law d := congrFun (hide_eq _) d
theorem m_law_at (p0 : den (Ty.list Ty.int)) : m_law (p0) = endOf (b_law ((some p0, none, none, none, none, none, none, none, none, ()) : Gam g_law)) := by
  rw [m_law_eq]
  rfl
set_option maxHeartbeats 4000000 in
theorem ok_law {f : Addr} {fd : FuncData} (F : Fun K "law" "law" s_law f fd) (T : Txt K mg) {f__law_rules : Addr} {fd__law_rules : FuncData} (D__law_rules : Df K mg "_law_rules" "_law_rules" s__law_rules P__law_rules f__law_rules fd__law_rules) (G__law_rules : FnOk P w K mg base CX0 3 f__law_rules fd__law_rules P__law_rules (spP K (Ty.last (Ty.list Ty.int)) .o (Ty.list (Ty.tup (Ty.cons Ty.str (Ty.cons (Ty.vtup Ty.str) (Ty.last Ty.int))))) m__law_rules)) {f__law_shown : Addr} {fd__law_shown : FuncData} (D__law_shown : Df K mg "_law_shown" "_law_shown" s__law_shown P__law_shown f__law_shown fd__law_shown) (G__law_shown : FnOk P w K mg base CX0 1 f__law_shown fd__law_shown P__law_shown (spP K (Ty.last (Ty.list (Ty.tup (Ty.cons Ty.str (Ty.cons (Ty.vtup Ty.str) (Ty.last Ty.int)))))) .o Ty.str m__law_shown)) {f_shown_grammar : Addr} {fd_shown_grammar : FuncData} (D_shown_grammar : Df K mg "shown_grammar" "shown_grammar" s_shown_grammar P_shown_grammar f_shown_grammar fd_shown_grammar) (G_shown_grammar : FnOk P w K mg base CX0 2 f_shown_grammar fd_shown_grammar P_shown_grammar (spP K (Ty.last (Ty.list (Ty.tup (Ty.cons Ty.str (Ty.cons (Ty.vtup Ty.str) (Ty.last Ty.int)))))) .o Ty.str m_shown_grammar)) {f_read_grammar : Addr} {fd_read_grammar : FuncData} (D_read_grammar : Df K mg "read_grammar" "read_grammar" s_read_grammar P_read_grammar f_read_grammar fd_read_grammar) (G_read_grammar : FnOk P w K mg base CX0 4 f_read_grammar fd_read_grammar P_read_grammar (spP K (Ty.last Ty.str) .o (Ty.list (Ty.tup (Ty.cons Ty.str (Ty.cons (Ty.vtup Ty.str) (Ty.last Ty.int))))) m_read_grammar)) :
    FnOk P w K mg base CX0 5 f fd P_law (spP K (Ty.last (Ty.list Ty.int)) .o Ty.bool m_law) := by
  have S := sc_law
  refine fn_ok (F := b_law) [(Ty.list (Ty.tup (Ty.cons Ty.str (Ty.cons (Ty.vtup Ty.str) (Ty.last Ty.int))))), (Ty.list (Ty.tup (Ty.cons Ty.str (Ty.cons (Ty.vtup Ty.str) (Ty.last Ty.int))))), Ty.str, Ty.str, (Ty.list (Ty.tup (Ty.cons Ty.str (Ty.cons (Ty.vtup Ty.str) (Ty.last Ty.int))))), Ty.str, (Ty.vtup Ty.str), Ty.int] M_law F S rfl rfl rfl m_law_eq (fun cdv A outer s H E hr => ?_)
  refine ⟨_, (pss_cons (ps_set (i := 1) S.nd rfl (Or.inl rfl) (pe_call G__law_rules (hr.mono (by decide)) rfl D__law_rules.gl D__law_rules.fn.kp D__law_rules.bi .nil pass0 (pa_cons (pv 0) pa_nil)))
  (pss_cons (ps_set (i := 2) S.nd rfl (Or.inl rfl) (pe_callTy (r := rListOf K) call_list_of (by rfl) T.b_list (by decide +kernel) (pa_cons (pv 1) pa_nil)))
  (pss_cons (ps_set (i := 3) S.nd rfl (Or.inl rfl) (pe_call G__law_shown (hr.mono (by decide)) rfl D__law_shown.gl D__law_shown.fn.kp D__law_shown.bi .nil pass0 (pa_cons (pv 1) pa_nil)))
  (pss_cons (ps_set (i := 4) S.nd rfl (Or.inl rfl) (pe_call G_shown_grammar (hr.mono (by decide)) rfl D_shown_grammar.gl D_shown_grammar.fn.kp D_shown_grammar.bi .nil pass0 (pa_cons (pv 2) pa_nil)))
  (pss_cons (ps_if (PW.pt (pw_or (pt_not (pt_val (pe_callB (r := rIsi K) call_isi (by rfl) T.b_isinstance (by decide +kernel) (pa_cons (pv 4) (pa_cons (pe_bltn (v := .ty "str") (by rfl) T.b_str (by decide +kernel) rfl) pa_nil))))) (pw_or (pt_cmpR op_ne (pv 4) (pv 3) (nomark _)) (pw_or1 (pt_cmpR (r := rNeD K) (op_neD hr.units) (pv 2) (pv 1) (nomark _)))))) (pss_one (ps_ret pe_bl)) pss_nil)
  (pss_cons (ps_set (i := 5) S.nd rfl (Or.inl rfl) (pe_call G_read_grammar (hr.mono (by decide)) rfl D_read_grammar.gl D_read_grammar.fn.kp D_read_grammar.bi .nil pass0 (pa_cons (pv 3) pa_nil)))
  (pss_cons (ps_if (PW.pt (pw_or (pt_not (pt_val (pe_callB (r := rIsi K) call_isi (by rfl) T.b_isinstance (by decide +kernel) (pa_cons (pv 5) (pa_cons (pe_bltn (v := .ty "list") (by rfl) T.b_list (by decide +kernel) rfl) pa_nil))))) (pw_or1 (pt_cmpR (r := rNeD K) (op_neD hr.units) (pv 5) (pv 1) (nomark _))))) (pss_one (ps_ret pe_bl)) pss_nil)
  (pss_cons (ps_for PassesOwn.never rfl (pi_listK K rfl (pv 5)) (pg_tupK (n := 3) K rfl rfl (pgs_cons (pg_name (i := 6) S.nd rfl (Or.inl rfl)) (pgs_cons (pg_name (i := 7) S.nd rfl (Or.inl rfl)) (pgs_cons (pg_name (i := 8) S.nd rfl (Or.inl rfl)) pgs_nil)))) (pss_one (ps_if (PW.pt (pw_or (pt_not (pt_val (pe_callB (r := rIsi K) call_isi (by rfl) T.b_isinstance (by decide +kernel) (pa_cons (pv 7) (pa_cons (pe_bltn (v := .ty "tuple") (by rfl) T.b_tuple (by decide +kernel) rfl) pa_nil))))) (pw_or (pt_not (pt_val (pe_callB (r := rIsi K) call_isi (by rfl) T.b_isinstance (by decide +kernel) (pa_cons (pv 8) (pa_cons (pe_bltn (v := .ty "int") (by rfl) T.b_int (by decide +kernel) rfl) pa_nil))))) (pw_or1 (pt_val (pe_callB (r := rIsi K) call_isi (by rfl) T.b_isinstance (by decide +kernel) (pa_cons (pv 8) (pa_cons (pe_bltn (v := .ty "bool") (by rfl) T.b_bool (by decide +kernel) rfl) pa_nil)))))))) (pss_one (ps_ret pe_bl)) pss_nil)))
  (pss_cons (ps_expr (pe_bm0 PySem.F.plainAttrs_list PySem.F.slot_list_clear PySem.F.type_list_clear mt_clear (pv 5)))
  (pss_one (ps_ret (pe_cmpR (r := rEqD K) (op_eqD hr.units) (pe_call G_read_grammar (hr.mono (by decide)) rfl D_read_grammar.gl D_read_grammar.fn.kp D_read_grammar.bi .nil pass0 (pa_cons (pv 3) pa_nil)) (pv 1) (nomark _))))))))))))), ?_⟩
  exact (rs_seq (rs_set (ms := M_law) (m := .l) (v_law_rules) (rp_le (rp_call (mA := .b) (rm := .o) (ρ := (Ty.list (Ty.tup (Ty.cons Ty.str (Ty.cons (Ty.vtup Ty.str) (Ty.last Ty.int)))))) (m := m__law_rules) rfl (ra_one (rp_le (rp_varw (ms := M_law) (v_law_script)))))))
  (rs_seq (rs_set (ms := M_law) (m := .l) (v_law_handed) (rp_le (rp_listL (m := .b) (t := (Ty.tup (Ty.cons Ty.str (Ty.cons (Ty.vtup Ty.str) (Ty.last Ty.int))))) (rp_le (rp_varl (ms := M_law) (v_law_rules))))))
  (rs_seq (rs_set (ms := M_law) (m := .w) (v_law_due) (rp_frz .w (rp_call (mA := .b) (rm := .o) (ρ := Ty.str) (m := m__law_shown) rfl (ra_one (rp_le (rp_varl (ms := M_law) (v_law_rules)))))))
  (rs_seq (rs_set (ms := M_law) (m := .w) (v_law_text) (rp_frz .w (rp_call (mA := .b) (rm := .o) (ρ := Ty.str) (m := m_shown_grammar) rfl (ra_one (rp_le (rp_varl (ms := M_law) (v_law_handed)))))))
  (rs_seq (rs_if (rt_or (rt_not (rt_val (m := .b) (rp_isi (t := Ty.str) (m' := .b) "str" (fun _ => true) (rp_frz .b (rp_varw (ms := M_law) (v_law_text))) (fun d => by show kitB "str" "str" = _; decide +kernel)))) (rt_or (rt_test (rp_op (m := .b) (m1 := .b) (m2 := .b) v_neS (rp_frz .b (rp_varw (ms := M_law) (v_law_text))) (rp_frz .b (rp_varw (ms := M_law) (v_law_due))))) (rt_test (rp_op (m := .b) (m1 := .b) (m2 := .b) (v_neD (t := (Ty.list (Ty.tup (Ty.cons Ty.str (Ty.cons (Ty.vtup Ty.str) (Ty.last Ty.int)))))) (by decide)) (rp_le (rp_varl (ms := M_law) (v_law_handed))) (rp_le (rp_varl (ms := M_law) (v_law_rules))))))) (rs_ret (rm := .o) (ρ := Ty.bool) rp_bool) rs_next)
  (rs_seq (rs_set (ms := M_law) (m := .o) (v_law_found) (rp_call (mA := .b) (rm := .o) (ρ := (Ty.list (Ty.tup (Ty.cons Ty.str (Ty.cons (Ty.vtup Ty.str) (Ty.last Ty.int)))))) (m := m_read_grammar) rfl (ra_one (rp_frz .b (rp_varw (ms := M_law) (v_law_due))))))
  (rs_seq (rs_if (rt_or (rt_not (rt_val (m := .b) (rp_isi (t := (Ty.list (Ty.tup (Ty.cons Ty.str (Ty.cons (Ty.vtup Ty.str) (Ty.last Ty.int)))))) (m' := .b) "list" (fun _ => true) (rp_var (ms := M_law) (v_law_found)) (fun d => by show kitB "list" "list" = _; decide +kernel)))) (rt_test (rp_op (m := .b) (m1 := .b) (m2 := .b) (v_neD (t := (Ty.list (Ty.tup (Ty.cons Ty.str (Ty.cons (Ty.vtup Ty.str) (Ty.last Ty.int)))))) (by decide)) (rp_var (ms := M_law) (v_law_found)) (rp_le (rp_varl (ms := M_law) (v_law_rules)))))) (rs_ret (rm := .o) (ρ := Ty.bool) rp_bool) rs_next)
  (rs_seq (rs_hide (rs_keep [.w, .l, .l, .w, .w, .k, .w, .w, .w] (rs_forG (w := false) (t := (Ty.tup (Ty.cons Ty.str (Ty.cons (Ty.vtup Ty.str) (Ty.last Ty.int))))) [false, true, false, true, false, true, false, false, false] (rig_list (ms := [.w, .l, .l, .w, .w, .k, .w, .w, .w]) (v_law_found)) (rg_tup (rgs_cons (rg_name (ms := [.w, .l, .l, .w, .w, .k, .w, .w, .w]) (v_law_name)) (rgs_cons (rg_name (ms := [.w, .l, .l, .w, .w, .k, .w, .w, .w]) (v_law_parts)) (rgs_one (rg_name (ms := [.w, .l, .l, .w, .w, .k, .w, .w, .w]) (v_law_cost)))))) (rs_if (rt_or (rt_not (rt_val (m := .b) (rp_isi (t := (Ty.vtup Ty.str)) (m' := .b) "tuple" (fun _ => true) (rp_frz .b (rp_varw (ms := [.w, .l, .l, .w, .w, .k, .w, .w, .w]) (v_law_parts))) (fun d => by show kitB "tuple" "tuple" = _; decide +kernel)))) (rt_or (rt_not (rt_val (m := .b) (rp_isi (t := Ty.int) (m' := .b) "int" (fun _ => true) (rp_frz .b (rp_varw (ms := [.w, .l, .l, .w, .w, .k, .w, .w, .w]) (v_law_cost))) (fun d => by show kitB "int" "int" = _; decide +kernel)))) (rt_val (m := .b) (rp_isi (t := Ty.int) (m' := .b) "bool" (fun _ => false) (rp_frz .b (rp_varw (ms := [.w, .l, .l, .w, .w, .k, .w, .w, .w]) (v_law_cost))) (fun d => by show kitB "int" "bool" = _; decide +kernel))))) (rs_ret (rm := .o) (ρ := Ty.bool) rp_bool) rs_next))))
  (rs_seq (rs_clear (ms := M_law) (v_law_found))
  (rs_ret (rm := .o) (ρ := Ty.bool) (rp_op (m1 := .b) (m2 := .b) (v_eqD (t := (Ty.list (Ty.tup (Ty.cons Ty.str (Ty.cons (Ty.vtup Ty.str) (Ty.last Ty.int)))))) (by decide)) (rp_le (rp_call (mA := .b) (rm := .o) (ρ := (Ty.list (Ty.tup (Ty.cons Ty.str (Ty.cons (Ty.vtup Ty.str) (Ty.last Ty.int)))))) (m := m_read_grammar) rfl (ra_one (rp_frz .b (rp_varw (ms := M_law) (v_law_due)))))) (rp_le (rp_varl (ms := M_law) (v_law_rules))))))))))))))
end
/-! ### the end -/
theorem all_mk {l : PySem.W.OpenLaw} {w : World} {K : PySem.W.Frag} {h : Heap} {mg : Str → Option Value} {fa : Addr} (X : K.In h) (G : h.Ns mainGlobals mg) (hfa : mg "law" = some (.ref fa))
    {f0 : Addr} {od0 an0 : Option Addr} {sl0 : Array (Option Value)} {oc0 kV0 dc0 pm0 cd0 ct0 : Value}
    {f1 : Addr} {od1 an1 : Option Addr} {sl1 : Array (Option Value)} {oc1 kV1 dc1 pm1 cd1 ct1 : Value}
    {f2 : Addr} {od2 an2 : Option Addr} {sl2 : Array (Option Value)} {oc2 kV2 dc2 pm2 cd2 ct2 : Value}
    {f3 : Addr} {od3 an3 : Option Addr} {sl3 : Array (Option Value)} {oc3 kV3 dc3 pm3 cd3 ct3 : Value}
    {f4 : Addr} {od4 an4 : Option Addr} {sl4 : Array (Option Value)} {oc4 kV4 dc4 pm4 cd4 ct4 : Value}
    {f5 : Addr} {od5 an5 : Option Addr} {sl5 : Array (Option Value)} {oc5 kV5 dc5 pm5 cd5 ct5 : Value}
    {f6 : Addr} {od6 an6 : Option Addr} {sl6 : Array (Option Value)} {oc6 kV6 dc6 pm6 cd6 ct6 : Value}
    {f7 : Addr} {od7 an7 : Option Addr} {sl7 : Array (Option Value)} {oc7 kV7 dc7 pm7 cd7 ct7 : Value}
    {f8 : Addr} {od8 an8 : Option Addr} {sl8 : Array (Option Value)} {oc8 kV8 dc8 pm8 cd8 ct8 : Value}
    {f9 : Addr} {od9 an9 : Option Addr} {sl9 : Array (Option Value)} {oc9 kV9 dc9 pm9 cd9 ct9 : Value}
    {f10 : Addr} {od10 an10 : Option Addr} {sl10 : Array (Option Value)} {oc10 kV10 dc10 pm10 cd10 ct10 : Value}
    {f11 : Addr} {od11 an11 : Option Addr} {sl11 : Array (Option Value)} {oc11 kV11 dc11 pm11 cd11 ct11 : Value}
    {f12 : Addr} {od12 an12 : Option Addr} {sl12 : Array (Option Value)} {oc12 kV12 dc12 pm12 cd12 ct12 : Value}
    {f13 : Addr} {od13 an13 : Option Addr} {sl13 : Array (Option Value)} {oc13 kV13 dc13 pm13 cd13 ct13 : Value}
    {f14 : Addr} {od14 an14 : Option Addr} {sl14 : Array (Option Value)} {oc14 kV14 dc14 pm14 cd14 ct14 : Value}
    {f15 : Addr} {od15 an15 : Option Addr} {sl15 : Array (Option Value)} {oc15 kV15 dc15 pm15 cd15 ct15 : Value}
    {f16 : Addr} {od16 an16 : Option Addr} {sl16 : Array (Option Value)} {oc16 kV16 dc16 pm16 cd16 ct16 : Value}
    (a0 : PySem.W.nsIn K mainGlobals "_law_heads" = some (some (.ref f0))) (l0 : K.lookup f0 = some ⟨oc0, od0, .func (PySem.W.fnOf "_law_heads" "_law_heads" (defArgs s__law_heads) (defBody s__law_heads) (defScope s__law_heads) .none kV0 dc0 pm0 an0 cd0 ct0), sl0⟩) (c0 : PySem.W.codeIn K cd0 "_law_heads" = true) (k0 : PySem.W.keepIn K (.ref f0) = true)
    (a1 : PySem.W.nsIn K mainGlobals "_law_word" = some (some (.ref f1))) (l1 : K.lookup f1 = some ⟨oc1, od1, .func (PySem.W.fnOf "_law_word" "_law_word" (defArgs s__law_word) (defBody s__law_word) (defScope s__law_word) .none kV1 dc1 pm1 an1 cd1 ct1), sl1⟩) (c1 : PySem.W.codeIn K cd1 "_law_word" = true) (k1 : PySem.W.keepIn K (.ref f1) = true)
    (a2 : PySem.W.nsIn K mainGlobals "_law_rule" = some (some (.ref f2))) (l2 : K.lookup f2 = some ⟨oc2, od2, .func (PySem.W.fnOf "_law_rule" "_law_rule" (defArgs s__law_rule) (defBody s__law_rule) (defScope s__law_rule) .none kV2 dc2 pm2 an2 cd2 ct2), sl2⟩) (c2 : PySem.W.codeIn K cd2 "_law_rule" = true) (k2 : PySem.W.keepIn K (.ref f2) = true)
    (a3 : PySem.W.nsIn K mainGlobals "_law_cell_at" = some (some (.ref f3))) (l3 : K.lookup f3 = some ⟨oc3, od3, .func (PySem.W.fnOf "_law_cell_at" "_law_cell_at" (defArgs s__law_cell_at) (defBody s__law_cell_at) (defScope s__law_cell_at) .none kV3 dc3 pm3 an3 cd3 ct3), sl3⟩) (c3 : PySem.W.codeIn K cd3 "_law_cell_at" = true) (k3 : PySem.W.keepIn K (.ref f3) = true)
    (a4 : PySem.W.nsIn K mainGlobals "_law_rules" = some (some (.ref f4))) (l4 : K.lookup f4 = some ⟨oc4, od4, .func (PySem.W.fnOf "_law_rules" "_law_rules" (defArgs s__law_rules) (defBody s__law_rules) (defScope s__law_rules) .none kV4 dc4 pm4 an4 cd4 ct4), sl4⟩) (c4 : PySem.W.codeIn K cd4 "_law_rules" = true) (k4 : PySem.W.keepIn K (.ref f4) = true)
    (a5 : PySem.W.nsIn K mainGlobals "_law_shown" = some (some (.ref f5))) (l5 : K.lookup f5 = some ⟨oc5, od5, .func (PySem.W.fnOf "_law_shown" "_law_shown" (defArgs s__law_shown) (defBody s__law_shown) (defScope s__law_shown) .none kV5 dc5 pm5 an5 cd5 ct5), sl5⟩) (c5 : PySem.W.codeIn K cd5 "_law_shown" = true) (k5 : PySem.W.keepIn K (.ref f5) = true)
    (a6 : PySem.W.nsIn K mainGlobals "shown_rule" = some (some (.ref f6))) (l6 : K.lookup f6 = some ⟨oc6, od6, .func (PySem.W.fnOf "shown_rule" "shown_rule" (defArgs s_shown_rule) (defBody s_shown_rule) (defScope s_shown_rule) .none kV6 dc6 pm6 an6 cd6 ct6), sl6⟩) (c6 : PySem.W.codeIn K cd6 "shown_rule" = true) (k6 : PySem.W.keepIn K (.ref f6) = true)
    (a7 : PySem.W.nsIn K mainGlobals "shown_grammar" = some (some (.ref f7))) (l7 : K.lookup f7 = some ⟨oc7, od7, .func (PySem.W.fnOf "shown_grammar" "shown_grammar" (defArgs s_shown_grammar) (defBody s_shown_grammar) (defScope s_shown_grammar) .none kV7 dc7 pm7 an7 cd7 ct7), sl7⟩) (c7 : PySem.W.codeIn K cd7 "shown_grammar" = true) (k7 : PySem.W.keepIn K (.ref f7) = true)
    (a8 : PySem.W.nsIn K mainGlobals "names" = some (some (.ref f8))) (l8 : K.lookup f8 = some ⟨oc8, od8, .func (PySem.W.fnOf "names" "names" (defArgs s_names) (defBody s_names) (defScope s_names) .none kV8 dc8 pm8 an8 cd8 ct8), sl8⟩) (c8 : PySem.W.codeIn K cd8 "names" = true) (k8 : PySem.W.keepIn K (.ref f8) = true)
    (a9 : PySem.W.nsIn K mainGlobals "is_name" = some (some (.ref f9))) (l9 : K.lookup f9 = some ⟨oc9, od9, .func (PySem.W.fnOf "is_name" "is_name" (defArgs s_is_name) (defBody s_is_name) (defScope s_is_name) .none kV9 dc9 pm9 an9 cd9 ct9), sl9⟩) (c9 : PySem.W.codeIn K cd9 "is_name" = true) (k9 : PySem.W.keepIn K (.ref f9) = true)
    (a10 : PySem.W.nsIn K mainGlobals "grammar_of" = some (some (.ref f10))) (l10 : K.lookup f10 = some ⟨oc10, od10, .func (PySem.W.fnOf "grammar_of" "grammar_of" (defArgs s_grammar_of) (defBody s_grammar_of) (defScope s_grammar_of) .none kV10 dc10 pm10 an10 cd10 ct10), sl10⟩) (c10 : PySem.W.codeIn K cd10 "grammar_of" = true) (k10 : PySem.W.keepIn K (.ref f10) = true)
    (a11 : PySem.W.nsIn K mainGlobals "cost_of" = some (some (.ref f11))) (l11 : K.lookup f11 = some ⟨oc11, od11, .func (PySem.W.fnOf "cost_of" "cost_of" (defArgs s_cost_of) (defBody s_cost_of) (defScope s_cost_of) .none kV11 dc11 pm11 an11 cd11 ct11), sl11⟩) (c11 : PySem.W.codeIn K cd11 "cost_of" = true) (k11 : PySem.W.keepIn K (.ref f11) = true)
    (a12 : PySem.W.nsIn K mainGlobals "made_of" = some (some (.ref f12))) (l12 : K.lookup f12 = some ⟨oc12, od12, .func (PySem.W.fnOf "made_of" "made_of" (defArgs s_made_of) (defBody s_made_of) (defScope s_made_of) .none kV12 dc12 pm12 an12 cd12 ct12), sl12⟩) (c12 : PySem.W.codeIn K cd12 "made_of" = true) (k12 : PySem.W.keepIn K (.ref f12) = true)
    (a13 : PySem.W.nsIn K mainGlobals "is_name_text" = some (some (.ref f13))) (l13 : K.lookup f13 = some ⟨oc13, od13, .func (PySem.W.fnOf "is_name_text" "is_name_text" (defArgs s_is_name_text) (defBody s_is_name_text) (defScope s_is_name_text) .none kV13 dc13 pm13 an13 cd13 ct13), sl13⟩) (c13 : PySem.W.codeIn K cd13 "is_name_text" = true) (k13 : PySem.W.keepIn K (.ref f13) = true)
    (a14 : PySem.W.nsIn K mainGlobals "read_rule" = some (some (.ref f14))) (l14 : K.lookup f14 = some ⟨oc14, od14, .func (PySem.W.fnOf "read_rule" "read_rule" (defArgs s_read_rule) (defBody s_read_rule) (defScope s_read_rule) .none kV14 dc14 pm14 an14 cd14 ct14), sl14⟩) (c14 : PySem.W.codeIn K cd14 "read_rule" = true) (k14 : PySem.W.keepIn K (.ref f14) = true)
    (a15 : PySem.W.nsIn K mainGlobals "read_grammar" = some (some (.ref f15))) (l15 : K.lookup f15 = some ⟨oc15, od15, .func (PySem.W.fnOf "read_grammar" "read_grammar" (defArgs s_read_grammar) (defBody s_read_grammar) (defScope s_read_grammar) .none kV15 dc15 pm15 an15 cd15 ct15), sl15⟩) (c15 : PySem.W.codeIn K cd15 "read_grammar" = true) (k15 : PySem.W.keepIn K (.ref f15) = true)
    (a16 : PySem.W.nsIn K mainGlobals "law" = some (some (.ref f16))) (l16 : K.lookup f16 = some ⟨oc16, od16, .func (PySem.W.fnOf "law" "law" (defArgs s_law) (defBody s_law) (defScope s_law) .none kV16 dc16 pm16 an16 cd16 ct16), sl16⟩) (c16 : PySem.W.codeIn K cd16 "law" = true) (k16 : PySem.W.keepIn K (.ref f16) = true)
    (b_all : PySem.W.nsIn K mainGlobals "all" = some none)
    (b_bool : PySem.W.nsIn K mainGlobals "bool" = some none)
    (b_int : PySem.W.nsIn K mainGlobals "int" = some none)
    (b_isinstance : PySem.W.nsIn K mainGlobals "isinstance" = some none)
    (b_len : PySem.W.nsIn K mainGlobals "len" = some none)
    (b_list : PySem.W.nsIn K mainGlobals "list" = some none)
    (b_range : PySem.W.nsIn K mainGlobals "range" = some none)
    (b_str : PySem.W.nsIn K mainGlobals "str" = some none)
    (b_tuple : PySem.W.nsIn K mainGlobals "tuple" = some none)
    {t_FIGURES : Tok} (c_FIGURES : PySem.W.nsIn K mainGlobals "FIGURES" = some (some (.str "0123456789" t_FIGURES)))
    {t_GREAT_grammars : Tok} (c_GREAT_grammars : PySem.W.nsIn K mainGlobals "GREAT_grammars" = some (some (.str "ABCDEFGHIJKLMNOPQRSTUVWXYZ" t_GREAT_grammars)))
    {t_GREAT_texts : Tok} (c_GREAT_texts : PySem.W.nsIn K mainGlobals "GREAT_texts" = some (some (.str "ABCDEFGHIJKLMNOPQRSTUVWXYZ" t_GREAT_texts)))
    {t_LONGEST : Tok} (c_LONGEST : PySem.W.nsIn K mainGlobals "LONGEST" = some (some (.int 8 t_LONGEST)))
    {t_MOST_FIGURES : Tok} (c_MOST_FIGURES : PySem.W.nsIn K mainGlobals "MOST_FIGURES" = some (some (.int 60 t_MOST_FIGURES)))
    {t_SMALL : Tok} (c_SMALL : PySem.W.nsIn K mainGlobals "SMALL" = some (some (.str "abcdefghijklmnopqrstuvwxyz" t_SMALL)))
    : ∃ fd : FuncData, (∀ (s : Shared) (v : Value), BindsTo s fd ⟨[v], []⟩ [("script", v)]) ∧ ∀ base : Heap, K.In base → base.Ns mainGlobals mg → FnOk l.prog w K mg base CX0 5 fa fd P_law (spP K (.last (.list .int)) .o .bool m_law) := by
  have e := hfa.symm.trans (PySem.W.mg_of X G a16)
  cases e
  have T : Txt K mg := ⟨PySem.W.mg_none_of X G b_all, PySem.W.mg_none_of X G b_bool, PySem.W.mg_none_of X G b_int, PySem.W.mg_none_of X G b_isinstance, PySem.W.mg_none_of X G b_len, PySem.W.mg_none_of X G b_list, PySem.W.mg_none_of X G b_range, PySem.W.mg_none_of X G b_str, PySem.W.mg_none_of X G b_tuple, ⟨_, PySem.W.mg_of X G c_FIGURES⟩, ⟨_, PySem.W.mg_of X G c_GREAT_grammars⟩, ⟨_, PySem.W.mg_of X G c_GREAT_texts⟩, ⟨_, PySem.W.mg_of X G c_LONGEST⟩, ⟨_, PySem.W.mg_of X G c_MOST_FIGURES⟩, ⟨_, PySem.W.mg_of X G c_SMALL⟩⟩
  have F0 := fun_mk (x := "_law_heads") (qual := "_law_heads") (st := s__law_heads) l0 c0 k0
  have b0 := F0.binds (ps := P__law_heads) fun _ _ _ _ _ _ us hl => match us, hl with | [_], _ => rfl
  have D0 : Df K mg "_law_heads" "_law_heads" s__law_heads P__law_heads f0 _ := ⟨F0, PySem.W.mg_of X G a0, b0⟩
  have F1 := fun_mk (x := "_law_word") (qual := "_law_word") (st := s__law_word) l1 c1 k1
  have b1 := F1.binds (ps := P__law_word) fun _ _ _ _ _ _ us hl => match us, hl with | [_], _ => rfl
  have D1 : Df K mg "_law_word" "_law_word" s__law_word P__law_word f1 _ := ⟨F1, PySem.W.mg_of X G a1, b1⟩
  have F2 := fun_mk (x := "_law_rule") (qual := "_law_rule") (st := s__law_rule) l2 c2 k2
  have b2 := F2.binds (ps := P__law_rule) fun _ _ _ _ _ _ us hl => match us, hl with | [_, _, _], _ => rfl
  have D2 : Df K mg "_law_rule" "_law_rule" s__law_rule P__law_rule f2 _ := ⟨F2, PySem.W.mg_of X G a2, b2⟩
  have F3 := fun_mk (x := "_law_cell_at") (qual := "_law_cell_at") (st := s__law_cell_at) l3 c3 k3
  have b3 := F3.binds (ps := P__law_cell_at) fun _ _ _ _ _ _ us hl => match us, hl with | [_, _], _ => rfl
  have D3 : Df K mg "_law_cell_at" "_law_cell_at" s__law_cell_at P__law_cell_at f3 _ := ⟨F3, PySem.W.mg_of X G a3, b3⟩
  have F4 := fun_mk (x := "_law_rules") (qual := "_law_rules") (st := s__law_rules) l4 c4 k4
  have b4 := F4.binds (ps := P__law_rules) fun _ _ _ _ _ _ us hl => match us, hl with | [_], _ => rfl
  have D4 : Df K mg "_law_rules" "_law_rules" s__law_rules P__law_rules f4 _ := ⟨F4, PySem.W.mg_of X G a4, b4⟩
  have F5 := fun_mk (x := "_law_shown") (qual := "_law_shown") (st := s__law_shown) l5 c5 k5
  have b5 := F5.binds (ps := P__law_shown) fun _ _ _ _ _ _ us hl => match us, hl with | [_], _ => rfl
  have D5 : Df K mg "_law_shown" "_law_shown" s__law_shown P__law_shown f5 _ := ⟨F5, PySem.W.mg_of X G a5, b5⟩
  have F6 := fun_mk (x := "shown_rule") (qual := "shown_rule") (st := s_shown_rule) l6 c6 k6
  have b6 := F6.binds (ps := P_shown_rule) fun _ _ _ _ _ _ us hl => match us, hl with | [_], _ => rfl
  have D6 : Df K mg "shown_rule" "shown_rule" s_shown_rule P_shown_rule f6 _ := ⟨F6, PySem.W.mg_of X G a6, b6⟩
  have F7 := fun_mk (x := "shown_grammar") (qual := "shown_grammar") (st := s_shown_grammar) l7 c7 k7
  have b7 := F7.binds (ps := P_shown_grammar) fun _ _ _ _ _ _ us hl => match us, hl with | [_], _ => rfl
  have D7 : Df K mg "shown_grammar" "shown_grammar" s_shown_grammar P_shown_grammar f7 _ := ⟨F7, PySem.W.mg_of X G a7, b7⟩
  have F8 := fun_mk (x := "names") (qual := "names") (st := s_names) l8 c8 k8
  have b8 := F8.binds (ps := P_names) fun _ _ _ _ _ _ us hl => match us, hl with | [_], _ => rfl
  have D8 : Df K mg "names" "names" s_names P_names f8 _ := ⟨F8, PySem.W.mg_of X G a8, b8⟩
  have F9 := fun_mk (x := "is_name") (qual := "is_name") (st := s_is_name) l9 c9 k9
  have b9 := F9.binds (ps := P_is_name) fun _ _ _ _ _ _ us hl => match us, hl with | [_], _ => rfl
  have D9 : Df K mg "is_name" "is_name" s_is_name P_is_name f9 _ := ⟨F9, PySem.W.mg_of X G a9, b9⟩
  have F10 := fun_mk (x := "grammar_of") (qual := "grammar_of") (st := s_grammar_of) l10 c10 k10
  have b10 := F10.binds (ps := P_grammar_of) fun _ _ _ _ _ _ us hl => match us, hl with | [_], _ => rfl
  have D10 : Df K mg "grammar_of" "grammar_of" s_grammar_of P_grammar_of f10 _ := ⟨F10, PySem.W.mg_of X G a10, b10⟩
  have F11 := fun_mk (x := "cost_of") (qual := "cost_of") (st := s_cost_of) l11 c11 k11
  have b11 := F11.binds (ps := P_cost_of) fun _ _ _ _ _ _ us hl => match us, hl with | [_], _ => rfl
  have D11 : Df K mg "cost_of" "cost_of" s_cost_of P_cost_of f11 _ := ⟨F11, PySem.W.mg_of X G a11, b11⟩
  have F12 := fun_mk (x := "made_of") (qual := "made_of") (st := s_made_of) l12 c12 k12
  have b12 := F12.binds (ps := P_made_of) fun _ _ _ _ _ _ us hl => match us, hl with | [_, _], _ => rfl
  have D12 : Df K mg "made_of" "made_of" s_made_of P_made_of f12 _ := ⟨F12, PySem.W.mg_of X G a12, b12⟩
  have F13 := fun_mk (x := "is_name_text") (qual := "is_name_text") (st := s_is_name_text) l13 c13 k13
  have b13 := F13.binds (ps := P_is_name_text) fun _ _ _ _ _ _ us hl => match us, hl with | [_], _ => rfl
  have D13 : Df K mg "is_name_text" "is_name_text" s_is_name_text P_is_name_text f13 _ := ⟨F13, PySem.W.mg_of X G a13, b13⟩
  have F14 := fun_mk (x := "read_rule") (qual := "read_rule") (st := s_read_rule) l14 c14 k14
  have b14 := F14.binds (ps := P_read_rule) fun _ _ _ _ _ _ us hl => match us, hl with | [_], _ => rfl
  have D14 : Df K mg "read_rule" "read_rule" s_read_rule P_read_rule f14 _ := ⟨F14, PySem.W.mg_of X G a14, b14⟩
  have F15 := fun_mk (x := "read_grammar") (qual := "read_grammar") (st := s_read_grammar) l15 c15 k15
  have b15 := F15.binds (ps := P_read_grammar) fun _ _ _ _ _ _ us hl => match us, hl with | [_], _ => rfl
  have D15 : Df K mg "read_grammar" "read_grammar" s_read_grammar P_read_grammar f15 _ := ⟨F15, PySem.W.mg_of X G a15, b15⟩
  have F16 := fun_mk (x := "law") (qual := "law") (st := s_law) l16 c16 k16
  have b16 := F16.binds (ps := P_law) fun _ _ _ _ _ _ us hl => match us, hl with | [_], _ => rfl
  refine ⟨PySem.W.fnOf "law" "law" (defArgs s_law) (defBody s_law) (defScope s_law) .none kV16 dc16 pm16 an16 cd16 ct16, fun s v => .of_eq rfl, fun base _ _ => ?_⟩
  have G0 := ok__law_heads (P := l.prog) (w := w) (base := base) F0 T 
  have G1 := ok__law_word (P := l.prog) (w := w) (base := base) F1 T 
  have G2 := ok__law_rule (P := l.prog) (w := w) (base := base) F2 T D1 G1
  have G3 := ok__law_cell_at (P := l.prog) (w := w) (base := base) F3 T 
  have G4 := ok__law_rules (P := l.prog) (w := w) (base := base) F4 T D0 G0 D3 G3 D2 G2
  have G5 := ok__law_shown (P := l.prog) (w := w) (base := base) F5 T 
  have G6 := ok_shown_rule (P := l.prog) (w := w) (base := base) F6 T 
  have G7 := ok_shown_grammar (P := l.prog) (w := w) (base := base) F7 T D6 G6
  have G8 := ok_names (P := l.prog) (w := w) (base := base) F8 T 
  have G9 := ok_is_name (P := l.prog) (w := w) (base := base) F9 T 
  have G10 := ok_grammar_of (P := l.prog) (w := w) (base := base) F10 T D8 G8 D9 G9
  have G11 := ok_cost_of (P := l.prog) (w := w) (base := base) F11 T 
  have G12 := ok_made_of (P := l.prog) (w := w) (base := base) F12 T 
  have G13 := ok_is_name_text (P := l.prog) (w := w) (base := base) F13 T D12 G12
  have G14 := ok_read_rule (P := l.prog) (w := w) (base := base) F14 T D11 G11 D13 G13 D12 G12
  have G15 := ok_read_grammar (P := l.prog) (w := w) (base := base) F15 T D10 G10 D14 G14
  exact ok_law F16 T D4 G4 D5 G5 D7 G7 D15 G15
theorem walk {l : PySem.W.OpenLaw} {q : Program} {loose : List Str} {XP : (Str → Option Value) → Heap → Prop} {YP : World → Heap → Prop} {d : DefRec} {K : Params → PySem.W.Frag} (hlaw : ∀ ns : List Int, ns.length ≤ 63 → m_law ns = some true) (hn : l.most = some 63) (hdf : d.params.defaults = [])
    (hY : ∀ (w : World) (h : Heap), YP w h → (K w.params).In h)
    (F : ∀ (w : World) (mg : Str → Option Value) (fa : Addr) (h : Heap), (K w.params).In h → h.Ns mainGlobals mg → mg d.name = some (.ref fa) →
      ∃ fd : FuncData, (∀ (s : Shared) (u : Value), BindsTo s fd ⟨[u], []⟩ [("script", u)]) ∧ ∀ base : Heap, (K w.params).In base → base.Ns mainGlobals mg → FnOk l.prog w (K w.params) mg base CX0 5 fa fd ["script"] (spP (K w.params) (.last (.list .int)) .o .bool m_law)) :
    PySem.W.WalkO q loose XP YP l.row.toRowW d [] (fun f vs => PySem.call f vs) :=
  L2.walk_of (n := 63) (k := 5) (x := "script") (CX := fun _ => CX0) (sp := fun w => spP (K w.params) (.last (.list .int)) .o .bool m_law) hn (by decide) hdf ⟨rfl, by decide, by decide⟩ hY F (fun _ _ a ns hl _ hS => law_sp hlaw hl hS) fun _ _ _ _ _ z => z
end Law

namespace Law
open PySem L2 VV
local macro_rules | `(tactic| walk_at "run") => `(tactic| simp (config := {implicitDefEqProofs := false}) only [Gam.mask, reduceIte, runG, iniG, noneG, sNext, sSeq, sSet, sLst, sLput, sExt, sAsgE, ePop, sPut, sPutN, sDApp, sIf, sRet, sRetM, sMove, sApp, sAsg, sUnl, bCons, eNot, bindAll, bName, bCons, e1, e2, e3, eV, fAll, fAny, fSum, eYes, eChain, fShr, fAnd, eC, eNil, eCons, eSnoc, eAnd, eOr, eNot, eIf, eProj, RIx.get, Mem.get, Mem.set, Option.bind_some, Option.bind_none, okIf, fAdd, fSub, fMul, fDiv, fMod, fPow, fLt, fLe, fGt, fGe, fEqI, fNeI, fEqS, fNeS, fEqB, fNeB, fLen, fSmall, fCutL, endOf, if_true, if_false, Bool.false_eq_true, true_and, and_true, Option.isSome_none, Option.isSome_some, decide_true, decide_false, List.length_nil, List.length_cons, Nat.zero_le, Bool.not_true, Bool.not_false])
local macro_rules | `(tactic| walk_at "go") => `(tactic| simp (config := {implicitDefEqProofs := false}) only [Gam.mask, reduceIte, runG, iniG, noneG, sNext, sSeq, sSet, sLst, sLput, sExt, sAsgE, ePop, sPut, sPutN, sDApp, sIf, sRet, sRetM, sMove, sApp, sAsg, sUnl, bCons, eNot, bindAll, bName, bCons, e1, e2, e3, eV, fAll, fAny, fSum, eYes, eChain, fShr, fAnd, eC, eNil, eCons, eSnoc, eAnd, eOr, eNot, eIf, eProj, RIx.get, Mem.get, Mem.set, Option.bind_some, Option.bind_none, okIf, fAdd, fSub, fMul, fDiv, fMod, fPow, fLt, fLe, fGt, fGe, fEqI, fNeI, fEqS, fNeS, fEqB, fNeB, fLen, fSmall, fCutL, endOf, if_true, if_false, Bool.false_eq_true, true_and, and_true, Option.isSome_none, Option.isSome_some, decide_true, decide_false, List.length_nil, List.length_cons, Nat.zero_le, Bool.not_true, Bool.not_false, List.length_nil, Nat.zero_add, Nat.reduceAdd, Nat.reduceLeDiff, Int.reduceLT, Int.reduceLE, Int.reduceEq, Nat.reduceEqDiff, Int.reduceNeg, *])
/-! ### the cells of a script -/
theorem cell_at_ok (script : List Int) (k : Nat) : m__law_cell_at (script, (k : Int)) = some (script.getD k 0) := by
  rw [m__law_cell_at_at]
  unfold b__law_cell_at
  by_cases h : k < script.length
  · have h1 : ((k : Int) < (script.length : Int)) := by omega
    have h2 : atI script (k : Int) = some script[k] := atI_nat (List.getElem?_eq_getElem h)
    have h3 : script.getD k 0 = script[k] := by
      rw [List.getD_eq_getElem?_getD, List.getElem?_eq_getElem h]
      rfl
    walk_at "go"
  · have h1 : ¬ ((k : Int) < (script.length : Int)) := by omega
    have h3 : script.getD k 0 = 0 := by
      rw [List.getD_eq_getElem?_getD, List.getElem?_eq_none (by omega)]
      rfl
    walk_at "go"
/-! ### texts made of signs -/
abbrev smallS : Str := Str.ofString "abcdefghijklmnopqrstuvwxyz"
abbrev greatS : Str := Str.ofString "ABCDEFGHIJKLMNOPQRSTUVWXYZ"
theorem upper_small : Txt.upper smallS = greatS := by decide +kernel
theorem small_len : smallS.length = 26 := by decide +kernel
theorem great_len : greatS.length = 26 := by decide +kernel
theorem small_strok : PyData.strOk smallS = true := by decide +kernel
theorem great_strok : PyData.strOk greatS = true := by decide +kernel
theorem upper_ok : fUpper smallS = some greatS := by
  unfold fUpper
  rw [upper_small]
  exact okIf_true (by decide +kernel)
theorem len_cat (a b : Str) : (a ++ b).length = a.length + b.length := Array.size_append
theorem cps_cat (a b : Str) : (a ++ b).cps.toList = a.cps.toList ++ b.cps.toList := Array.toList_append
theorem str_len (x : Str) : x.cps.toList.length = x.length := rfl
/-- x is made of signs of a -/
def Of (a x : Str) : Prop := ∀ c ∈ x.cps.toList, c ∈ a.cps.toList
theorem Of.ok {a x : Str} (h : Of a x) (ha : PyData.strOk a = true) : PyData.strOk x = true := by
  unfold PyData.strOk at ha ⊢
  rw [Array.all_eq_true'] at ha ⊢
  exact fun c hc => ha c (by simpa using h c (by simpa using hc))
theorem Of.cat {a x y : Str} (h : Of a x) (h' : Of a y) : Of a (x ++ y) := fun c hc => by
  rw [cps_cat] at hc
  exact (List.mem_append.mp hc).elim (h c) (h' c)
/-- the first sign of t is one of a -/
def HeadIn (a t : Str) : Prop := ∃ c r, t.cps.toList = c :: r ∧ c ∈ a.cps.toList
theorem HeadIn.cat {a t : Str} (h : HeadIn a t) (u : Str) : HeadIn a (t ++ u) := by
  obtain ⟨c, r, e, m⟩ := h
  exact ⟨c, r ++ u.cps.toList, by rw [cps_cat, e]; rfl, m⟩
theorem head_of {a t : Str} (h : Of a t) (hl : 0 < t.length) : HeadIn a t := by
  cases e : t.cps.toList with
  | nil =>
    have : t.cps.toList.length = 0 := by rw [e]; rfl
    rw [str_len] at this
    omega
  | cons c r => exact ⟨c, r, e, h c (by rw [e]; exact List.mem_cons_self)⟩
theorem small_not_great {c : Nat} (h : c ∈ smallS.cps.toList) : ¬ c ∈ greatS.cps.toList := by
  have : ∀ c ∈ smallS.cps.toList, c ∉ greatS.cps.toList := by decide +kernel
  exact this c h
theorem is_name_cons (x : Str) (c : Nat) (r : List Nat) (hx : x.cps.toList = c :: r) (hl : x.length ≤ 100000) : m_is_name x = some (decide (c ∈ greatS.cps.toList)) := by
  have hne : decide (x = Str.ofString "") = false := by
    refine decide_eq_false fun h => ?_
    rw [h] at hx
    cases hx
  have hix : fIxS x 0 = some ⟨#[c]⟩ := by
    unfold fIxS
    rw [if_pos (lenOk_le hl), hx]
    have : atI (c :: r) ((0 : Nat) : Int) = some c := atI_nat rfl
    rw [show (0 : Int) = ((0 : Nat) : Int) from rfl, this]
    rfl
  rw [m_is_name_at]
  unfold b_is_name
  walk_at "run"
  simp (config := {implicitDefEqProofs := false}) only [hne, Bool.not_false, Bool.not_true, if_true, hix, Option.bind_some, fInS_one]
theorem is_name_great {x : Str} (h : HeadIn greatS x) (hl : x.length ≤ 100000) : m_is_name x = some true := by
  obtain ⟨c, r, e, m⟩ := h
  rw [is_name_cons x c r e hl, decide_eq_true m]
theorem is_name_small {x : Str} (h : HeadIn smallS x) (hl : x.length ≤ 100000) : m_is_name x = some false := by
  obtain ⟨c, r, e, m⟩ := h
  rw [is_name_cons x c r e hl, decide_eq_false (small_not_great m)]
theorem num_len {k n : Nat} (hk : 1 ≤ k) (h : n < 10 ^ k) : (Str.ofString (toString ((n : Nat) : Int))).length ≤ k := by
  rw [show ((n : Nat) : Int) = Int.ofNat n from rfl, PyProof.Rows.text_ofNat, ← str_len]
  show (List.map Char.toNat (Nat.toDigits 10 n)).length ≤ k
  rw [List.length_map]
  exact PyProof.Rows.digits10_le hk h
theorem strI_ok {f : Int} (h0 : 0 ≤ f) (h1 : f < 10000) : ∃ t, fStrI f = some t ∧ t.length ≤ 4 := by
  obtain ⟨n, rfl⟩ := Int.eq_ofNat_of_zero_le h0
  refine ⟨Str.ofString (toString (n : Int)), okIf_true (decide_eq_true ?_), num_len (k := 4) (by decide) (by omega)⟩
  have : (n : Int).natAbs.log2 < 15 := PySem.Flt.log2_lt_of (by decide) (by omega)
  omega
theorem foldRep_list (c : Nat) : ∀ (n : Nat) (acc : Array Nat), (List.foldl (fun x1 x2 => x1 ++ x2) acc (List.replicate n #[c])).toList = acc.toList ++ List.replicate n c
  | 0, acc => by simp
  | n + 1, acc => by
    rw [List.replicate_succ, List.foldl_cons, foldRep_list c n, Array.toList_append, List.replicate_succ]
    simp
theorem rep_one (c n : Nat) : (repS ⟨#[c]⟩ (n : Int)).cps.toList = List.replicate n c := by
  unfold repS
  by_cases h : n = 0
  · subst h
    rfl
  · rw [if_neg (by omega)]
    by_cases h1 : n = 1
    · subst h1
      rfl
    · rw [if_neg]
      · show (List.foldl (fun x1 x2 => x1 ++ x2) #[] (List.replicate (n : Int).toNat #[c])).toList = _
        rw [foldRep_list]
        rfl
      · rw [Bool.or_eq_true, beq_iff_eq, beq_iff_eq]
        rintro (h2 | h2)
        · omega
        · cases h2
theorem repS_ok {a : Str} {c : Nat} (ha : PyData.strOk a = true) (hc : c ∈ a.cps.toList) (n : Nat) (hn : n ≤ 1000) : ∃ t, fRepS ⟨#[c]⟩ (n : Int) = some t ∧ t.length = n ∧ Of a t := by
  have h1 := rep_one c n
  have h2 : Of a (repS ⟨#[c]⟩ (n : Int)) := fun x hx => by
    rw [h1] at hx
    rw [(List.mem_replicate.mp hx).2]
    exact hc
  refine ⟨repS ⟨#[c]⟩ (n : Int), okIf_true ?_, ?_, h2⟩
  · rw [Bool.and_eq_true]
    refine ⟨decide_eq_true ⟨by omega, by omega, ?_⟩, h2.ok ha⟩
    show 1 * _ ≤ _
    rw [sizeLine_eq]
    simp
    omega
  · rw [← str_len, h1, List.length_replicate]
theorem sign_ok {a : Str} (ha : a.length = 26) (i : Int) : ∃ c, fIxS a (i % 26) = some ⟨#[c]⟩ ∧ c ∈ a.cps.toList := by
  have m0 := Int.emod_nonneg i (by decide : (26 : Int) ≠ 0)
  have m1 := Int.emod_lt_of_pos i (by decide : (0 : Int) < 26)
  obtain ⟨c, hc, hm⟩ := atI_some (xs := a.cps.toList) (i := i % 26) m0 (by rw [str_len, ha]; omega)
  refine ⟨c, ?_, hm⟩
  unfold fIxS
  rw [if_pos (lenOk_le (by omega)), hc]
  rfl
theorem cat_len {x y : Str} (h : x.length + y.length ≤ 100000) : fCat x y = some (x ++ y) := okIf_true (lenOk_le h)
theorem lt_line {n : Nat} (h : n ≤ 100000) : n < sizeLine := by
  rw [sizeLine_eq]
  omega
theorem catL_ok {α : Type} {a b : List α} (h : a.length + b.length ≤ 100000) : fCatL a b = some (a ++ b) := okIf_true (lenOk_le h)
theorem ixN_at {n j : Nat} (h : j < n) : ixN n (j : Int) = some j := by
  unfold ixN
  rw [if_pos (by omega), if_pos (by omega)]
  rfl
/-! ### names, each once; a grammar -/
abbrev RuleT : Type := Str × List Str × Int
def uniq (xs : List Str) : List Str := xs.foldl (fun acc x => if x ∈ acc then acc else acc ++ [x]) []
theorem uniq_snoc (p : List Str) (x : Str) : uniq (p ++ [x]) = if x ∈ uniq p then uniq p else uniq p ++ [x] := by
  unfold uniq
  rw [List.foldl_append]
  rfl
theorem rev_ind {α : Type} {P : List α → Prop} (h0 : P []) (hs : ∀ p x, P p → P (p ++ [x])) (xs : List α) : P xs := by
  have : ∀ ys : List α, P ys.reverse := fun ys => by
    induction ys with
    | nil => exact h0
    | cons y ys ih =>
      rw [List.reverse_cons]
      exact hs _ _ ih
  have := this xs.reverse
  rw [List.reverse_reverse] at this
  exact this
theorem uniq_mem (xs : List Str) : ∀ x, x ∈ uniq xs ↔ x ∈ xs := by
  refine rev_ind (P := fun xs => ∀ x, x ∈ uniq xs ↔ x ∈ xs) (fun x => by simp [uniq]) (fun p y ih x => ?_) xs
  rw [uniq_snoc]
  by_cases h : y ∈ uniq p
  · rw [if_pos h, ih x, List.mem_append, List.mem_singleton]
    exact ⟨.inl, fun z => z.elim id fun z => by rw [z]; exact (ih y).mp h⟩
  · rw [if_neg h, List.mem_append, List.mem_append, List.mem_singleton, ih x]
theorem uniq_len (xs : List Str) : (uniq xs).length ≤ xs.length := by
  refine rev_ind (P := fun xs => (uniq xs).length ≤ xs.length) (by simp [uniq]) (fun p y ih => ?_) xs
  rw [uniq_snoc]
  split
  · simp; omega
  · simp; omega
theorem names_ok (g : List RuleT) (h : g.length ≤ 1000) : m_names g = some (uniq (g.map (·.1))) := by
  have hlp : ∃ Γ', lp_names_1 (some g, some [], none, none, none, ()) = some (.nx Γ') ∧ (fun (pre : List RuleT) (Γ : Gam g_names) => Γ = (none, some (uniq (pre.map (·.1))), none, none, none, ())) g Γ' := by
    rw [lp_names_1_eq]
    refine sFor_inv (fun (pre : List RuleT) (Γ : Gam g_names) => Γ = (none, some (uniq (pre.map (·.1))), none, none, none, ())) (xs := g) ?_ ?_ ?_
    · rfl
    · rfl
    · rintro p r q Γ he rfl
      obtain ⟨name, parts, cost⟩ := r
      have hl : (uniq (p.map (·.1))).length < sizeLine := lt_line (by
        have h1 := uniq_len (p.map (·.1))
        have h2 := congrArg List.length he
        rw [List.length_map] at h1
        simp at h2
        omega)
      have hm : (p ++ [((name, parts, cost) : RuleT)]).map (·.1) = p.map (·.1) ++ [name] := by simp
      rw [hm, uniq_snoc]
      clear hm he
      by_cases hx : name ∈ uniq (p.map (·.1))
      · have hni := fNotInD_mem (t := .str) rfl hx
        rw [if_pos hx]
        refine ⟨(none, some (uniq (p.map (·.1))), some name, some parts, some cost, ()), .inl ?_, rfl⟩
        unfold lb_names_1
        clear hx
        walk_at "go"
      · have hni := fNotInD_not (t := .str) rfl hx
        rw [if_neg hx]
        refine ⟨(none, some (uniq (p.map (·.1)) ++ [name]), some name, some parts, some cost, ()), .inl ?_, rfl⟩
        unfold lb_names_1
        clear hx
        walk_at "go"
  obtain ⟨Γ', e, rfl⟩ := hlp
  rw [m_names_at]
  unfold b_names
  clear h
  walk_at "go"
/-- what grammar_of lets by -/
def PartOk (known : List Str) (p : Str) : Prop := m_is_name p = some false ∨ (m_is_name p = some true ∧ p ∈ known)
theorem parts_loop (rules : List RuleT) (known parts : List Str) (name : Str) (cost : Int) (h : ∀ p ∈ parts, PartOk known p) :
    lp_grammar_of_2 (some rules, some known, some name, some parts, some cost, none, ()) = some (.nx (some rules, some known, none, none, none, none, ())) := by
  rw [lp_grammar_of_2_eq]
  refine sFor_all (xs := parts) ?_ ?_ fun p hp => ?_
  · rfl
  · rfl
  · refine ⟨(some rules, some known, none, none, none, some p, ()), ?_, rfl⟩
    unfold lb_grammar_of_2
    rcases h p hp with h1 | ⟨h1, h2⟩
    · clear h hp
      walk_at "go"
    · have hni := fNotInD_mem (t := .str) rfl h2
      clear h hp h2
      walk_at "go"
theorem grammar_of_ok (g : List RuleT) (h0 : g ≠ []) (h : g.length ≤ 1000) (hc : ∀ r ∈ g, 0 ≤ r.2.2) (hp : ∀ r ∈ g, ∀ p ∈ r.2.1, PartOk (uniq (g.map (·.1))) p) : m_grammar_of g = some g := by
  have hn := names_ok g h
  have hne := fEqD_ne (t := .list (Ty.tup (Ty.cons Ty.str (Ty.cons (Ty.vtup Ty.str) (Ty.last Ty.int))))) rfl h0
  have hlp : lp_grammar_of_1 (some g, some (uniq (g.map (·.1))), none, none, none, none, ()) = some (.nx (some g, some (uniq (g.map (·.1))), none, none, none, none, ())) := by
    rw [lp_grammar_of_1_eq]
    refine sFor_all (xs := g) ?_ ?_ fun r hr => ?_
    · rfl
    · rfl
    · obtain ⟨name, parts, cost⟩ := r
      have h1 := parts_loop g (uniq (g.map (·.1))) parts name cost (hp _ hr)
      have h2 : ¬ (cost : Int) < 0 := Int.not_lt.mpr (hc _ hr)
      refine ⟨(some g, some (uniq (g.map (·.1))), none, none, none, none, ()), ?_, rfl⟩
      unfold lb_grammar_of_1
      clear hn hne hp hc hr
      walk_at "go"
  have hlc : lc_grammar_of_1 (some g, some (uniq (g.map (·.1))), none, none, none, none, ()) = some g := by
    rw [lc_grammar_of_1_eq]
    have := lcL_all (bind := (bCons (bName (t := Ty.str) (v_grammar_of_name)) (bCons (bName (t := (Ty.vtup Ty.str)) (v_grammar_of_parts)) (bName (t := Ty.int) (v_grammar_of_cost))))) (elt := (eCons (eV (t := Ty.str) (v_grammar_of_name)) (eCons (eV (t := (Ty.vtup Ty.str)) (v_grammar_of_parts)) (eV (t := Ty.int) (v_grammar_of_cost))))) (Γ := ((some g, some (uniq (g.map (·.1))), none, none, none, none, ()) : Gam g_grammar_of)) id g fun r _ => rfl
    rw [List.map_id] at this
    exact eLc_of rfl this (lenOk_le (by omega))
  rw [m_grammar_of_at]
  unfold b_grammar_of
  clear hp hc h0 h
  walk_at "go"
/-! ### made_of, is_name_text -/
theorem fLenS_ok {x : Str} (h : x.length ≤ 100000) : fLenS x = some (x.length : Int) := okIf_true (lenOk_le h)
theorem made_of_eq (t s : Str) (h : t.length ≤ 100000) : ∃ b, m_made_of (t, s) = some b ∧ (b = true ↔ (t.length ≠ 0 ∧ t.length ≤ 8) ∧ Of s t) := by
  have hl := fLenS_ok h
  by_cases he : t = Str.ofString ""
  · refine ⟨false, ?_, ?_⟩
    · rw [m_made_of_at]
      unfold b_made_of
      clear h
      subst he
      walk_at "go"
    · subst he
      exact ⟨fun z => (by cases z), fun z => absurd rfl z.1.1⟩
  · by_cases h8 : (8 : Int) < (t.length : Int)
    · refine ⟨false, ?_, ⟨fun z => (by cases z), fun z => by omega⟩⟩
      rw [m_made_of_at]
      unfold b_made_of
      clear h
      walk_at "go"
    · have hlc : lc_made_of_1 (some t, some s, none, ()) = some ((t.cps.toList.map fun c => (⟨#[c]⟩ : Str)).map fun x => !(Builtin.Str.occurrences s x 0 s.length 1).isEmpty) := by
        rw [lc_made_of_1_eq]
        refine eLc_of (xs := t.cps.toList.map fun c => (⟨#[c]⟩ : Str)) rfl (lcL_all (fun x => !(Builtin.Str.occurrences s x 0 s.length 1).isEmpty) _ fun x _ => rfl) (lenOk_le ?_)
        rw [List.length_map, List.length_map, str_len]
        exact h
      refine ⟨((t.cps.toList.map fun c => (⟨#[c]⟩ : Str)).map fun x => !(Builtin.Str.occurrences s x 0 s.length 1).isEmpty).all id, ?_, ?_⟩
      · rw [m_made_of_at]
        unfold b_made_of
        generalize ((t.cps.toList.map fun c => (⟨#[c]⟩ : Str)).map fun x => !(Builtin.Str.occurrences s x 0 s.length 1).isEmpty) = bs at hlc
        clear h
        walk_at "go"
      · have hne : t.length ≠ 0 := fun z => he (by
          have : t.cps = #[] := Array.size_eq_zero_iff.mp z
          cases t
          simp at this
          rw [this]
          rfl)
        rw [List.all_eq_true]
        constructor
        · intro z
          refine ⟨⟨hne, by omega⟩, fun c hc => ?_⟩
          have := z _ (List.mem_map.mpr ⟨⟨#[c]⟩, List.mem_map.mpr ⟨c, hc, rfl⟩, rfl⟩)
          have h1 := fInS_one s c
          unfold fInS at h1
          rw [Option.some.injEq] at h1
          simp only [id] at this
          rw [h1] at this
          exact of_decide_eq_true this
        · rintro ⟨_, ho⟩ b hb
          obtain ⟨x, hx, rfl⟩ := List.mem_map.mp hb
          obtain ⟨c, hc, rfl⟩ := List.mem_map.mp hx
          have h1 := fInS_one s c
          unfold fInS at h1
          rw [Option.some.injEq] at h1
          simp only [id]
          rw [h1]
          exact decide_eq_true (ho c hc)
theorem made_of_true {t s : Str} (h0 : t.length ≠ 0) (h8 : t.length ≤ 8) (ho : Of s t) : m_made_of (t, s) = some true := by
  obtain ⟨b, e, hb⟩ := made_of_eq t s (by omega)
  rw [e, hb.mpr ⟨⟨h0, h8⟩, ho⟩]
abbrev lineS : Str := Str.ofString "_"
abbrev figS : Str := Str.ofString "0123456789"
theorem great_no {c : Nat} (h : c ∈ greatS.cps.toList) : c ≠ 95 ∧ c ≠ 32 ∧ c ≠ 10 := by
  have : ∀ c ∈ greatS.cps.toList, c ≠ 95 ∧ c ≠ 32 ∧ c ≠ 10 := by decide +kernel
  exact this c h
theorem line_tl : TL.tl lineS = [95] := by decide +kernel
theorem fig_strok : PyData.strOk figS = true := by decide +kernel
theorem line_len : lineS.length = 1 := by decide +kernel
theorem name_plain {b : Str} (ho : Of greatS b) (h0 : b.length ≠ 0) (h8 : b.length ≤ 8) : m_is_name_text b = some true := by
  have hp : Txt.partition b lineS = (b, Str.empty, Str.empty) := TL.partition_none line_tl fun h => (great_no (ho 95 h)).1 rfl
  have hf : fPartition b lineS = some (b, Str.empty, Str.empty) := by
    unfold fPartition
    rw [hp]
    refine okIf_true ?_
    simp only [Bool.and_eq_true]
    exact ⟨by decide +kernel, decide_eq_true (by rw [sizeLine_eq]; omega), ho.ok great_strok, by decide +kernel, by decide +kernel⟩
  have hm := made_of_true (s := greatS) h0 h8 ho
  have he : Str.empty = Str.ofString "" := rfl
  rw [m_is_name_text_at]
  unfold b_is_name_text
  clear ho h0 h8 hp
  walk_at "go"
theorem name_line {b n : Str} (ho : Of greatS b) (h0 : b.length ≠ 0) (h8 : b.length ≤ 8) (hn : Of figS n) (hn0 : n.length ≠ 0) (hn4 : n.length ≤ 4) : m_is_name_text (b ++ lineS ++ n) = some true := by
  have hp : Txt.partition (b ++ lineS ++ n) lineS = (b, lineS, n) := TL.partition_app line_tl fun h => (great_no (ho 95 h)).1 rfl
  have hf : fPartition (b ++ lineS ++ n) lineS = some (b, lineS, n) := by
    unfold fPartition
    rw [hp]
    refine okIf_true ?_
    simp only [Bool.and_eq_true]
    exact ⟨by decide +kernel, decide_eq_true (by rw [sizeLine_eq, len_cat, len_cat, line_len]; omega), ho.ok great_strok, by decide +kernel, hn.ok fig_strok⟩
  have hm := made_of_true (s := greatS) h0 h8 ho
  have hm2 := made_of_true (s := figS) hn0 (by omega) hn
  have hl := fLenS_ok (x := n) (by omega)
  have h4 : (n.length : Int) ≤ 4 := by omega
  have hne : ¬ (lineS = Str.ofString "") := by decide +kernel
  rw [m_is_name_text_at]
  unfold b_is_name_text
  clear ho h0 h8 hp hn hn0 hn4
  walk_at "go"
/-! ### costs as texts -/
abbrev numT (n : Nat) : Str := Str.ofString (toString ((n : Nat) : Int))
theorem num_tl (n : Nat) : (numT n).cps.toList = TL.numL n := TL.tl_num n
theorem numL_head {n : Nat} (h : 0 < n) : ∃ c r, TL.numL n = c :: r ∧ c ≠ 48 := by
  induction n using Nat.strongRecOn with
  | _ n ih =>
    by_cases h10 : n < 10
    · exact ⟨48 + n, [], TL.numL_lt h10, by omega⟩
    · obtain ⟨c, r, e, hc⟩ := ih (n / 10) (by omega) (by omega)
      exact ⟨c, r ++ [48 + n % 10], by rw [TL.numL_step (by omega), e]; rfl, hc⟩
theorem num_figs (n : Nat) : Of figS (numT n) := fun c hc => by
  rw [num_tl] at hc
  have := TL.numL_digits n c hc
  have hall : ∀ d, d < 10 → 48 + d ∈ figS.cps.toList := by decide +kernel
  have := hall (c - 48) (by omega)
  rwa [show 48 + (c - 48) = c from by omega] at this
theorem num_size {n k : Nat} (hk : 0 < k) (h : n < 10 ^ k) : (numT n).length ≤ k := num_len hk h
theorem num_pos_len (n : Nat) : (numT n).length ≠ 0 := fun z => by
  have : (numT n).cps.toList.length = 0 := z
  rw [num_tl] at this
  exact TL.numL_ne n (List.eq_nil_of_length_eq_zero this)
theorem cost_ok (n : Nat) (h0 : 0 < n) (h : n < 10 ^ 60) : m_cost_of (numT n) = some (n : Int) := by
  have hs := num_size (k := 60) (by decide) h
  have hl := fLenS_ok (x := numT n) (by omega)
  have h60 : ¬ (60 : Int) < ((numT n).length : Int) := by omega
  have hne : ¬ (numT n = Str.ofString "") := fun e => num_pos_len n (by rw [e]; rfl)
  obtain ⟨c, r, e, hc⟩ := numL_head h0
  have hix : fIxS (numT n) 0 = some ⟨#[c]⟩ := by
    unfold fIxS
    rw [if_pos (lenOk_le (by omega)), num_tl, e]
    have : atI (c :: r) ((0 : Nat) : Int) = some c := atI_nat rfl
    rw [show (0 : Int) = ((0 : Nat) : Int) from rfl, this]
    rfl
  have hn0 : ¬ ((⟨#[c]⟩ : Str) = Str.ofString "0") := fun z => hc (by
    have : [c] = [48] := congrArg (fun s : Str => s.cps.toList) z
    simpa using this)
  have hint : fIntS (numT n) = some (n : Int) := by
    unfold fIntS
    rw [if_pos (by omega)]
    refine TL.int_num ?_
    have : (numT n).cps.toList.length ≤ 60 := hs
    rw [num_tl] at this
    omega
  have hlp : lp_cost_of_1 (some (numT n), none, ()) = some (.nx (some (numT n), none, ())) := by
    rw [lp_cost_of_1_eq]
    refine sFor_all (xs := (numT n).cps.toList.map fun c => (⟨#[c]⟩ : Str)) ?_ ?_ fun x hx => ?_
    · rfl
    · rfl
    · obtain ⟨d, hd, rfl⟩ := List.mem_map.mp hx
      have h1 := fInS_one figS d
      rw [decide_eq_true (num_figs n d hd)] at h1
      have h2 : fNotInS ⟨#[d]⟩ figS = some false := by
        unfold fInS at h1
        unfold fNotInS
        rw [Option.some.inj h1]
        rfl
      refine ⟨(some (numT n), some ⟨#[d]⟩, ()), ?_, rfl⟩
      unfold lb_cost_of_1
      clear h1 hx hd hint hix hne hl hs h hn0
      walk_at "go"
  rw [m_cost_of_at]
  unfold b_cost_of
  clear h hs
  walk_at "go"
/-! ### a rule's text, read back -/
abbrev blankS : Str := Str.ofString " "
abbrev feedS : Str := Str.ofString "\n"
theorem blank_tl : TL.tl blankS = [32] := by decide +kernel
theorem feed_tl : TL.tl feedS = [10] := by decide +kernel
theorem joinL_len (S : List Nat) : ∀ parts : List (List Nat), (TL.joinL S parts).length ≤ (parts.map List.length).sum + parts.length * S.length
  | [] => by simp [TL.joinL]
  | [p] => by simp [TL.joinL]
  | p :: q :: r => by
    have ih := joinL_len S (q :: r)
    show (p ++ (S ++ TL.joinL S (q :: r))).length ≤ _
    simp only [List.length_append, List.map_cons, List.sum_cons, List.length_cons, Nat.succ_mul] at ih ⊢
    omega
theorem join_len (y : Str) (parts : List Str) : (Txt.join y parts).length ≤ (parts.map (·.length)).sum + parts.length * y.length := by
  have h := joinL_len (TL.tl y) (parts.map TL.tl)
  rw [← TL.tl_join, ← TL.join_eq, List.map_map, List.length_map] at h
  exact h
theorem sum_le {α : Type} {f : α → Nat} {b : Nat} : ∀ xs : List α, (∀ x ∈ xs, f x ≤ b) → (xs.map f).sum ≤ xs.length * b
  | [], _ => by simp
  | x :: xs, h => by
    have := sum_le xs fun y hy => h y (List.mem_cons_of_mem _ hy)
    have := h x List.mem_cons_self
    simp only [List.map_cons, List.sum_cons, List.length_cons, Nat.succ_mul]
    omega
theorem join_mem (y : Str) : ∀ (parts : List Str) (c : Nat), c ∈ (Txt.join y parts).cps.toList → c ∈ y.cps.toList ∨ ∃ p ∈ parts, c ∈ p.cps.toList := by
  intro parts c h
  have h : c ∈ TL.tl (Txt.join y parts) := h
  rw [TL.join_eq, TL.tl_join] at h
  have key : ∀ ps : List (List Nat), c ∈ TL.joinL (TL.tl y) ps → c ∈ TL.tl y ∨ ∃ p ∈ ps, c ∈ p := by
    intro ps
    induction ps with
    | nil => intro h; simp [TL.joinL] at h
    | cons p ps ih =>
      cases ps with
      | nil => exact fun h => .inr ⟨p, List.mem_cons_self, h⟩
      | cons q r =>
        intro h
        have h : c ∈ p ++ (TL.tl y ++ TL.joinL (TL.tl y) (q :: r)) := h
        rcases List.mem_append.mp h with h | h
        · exact .inr ⟨p, List.mem_cons_self, h⟩
        · rcases List.mem_append.mp h with h | h
          · exact .inl h
          · rcases ih h with h | ⟨z, hz, h⟩
            · exact .inl h
            · exact .inr ⟨z, List.mem_cons_of_mem _ hz, h⟩
  rcases key _ h with h | ⟨z, hz, h⟩
  · exact .inl h
  · obtain ⟨p, hp, rfl⟩ := List.mem_map.mp hz
    exact .inr ⟨p, hp, h⟩
theorem strOk_iff {x : Str} : PyData.strOk x = true ↔ ∀ c ∈ x.cps.toList, c < 0x110000 := by
  unfold PyData.strOk
  rw [Array.all_eq_true']
  exact ⟨fun h c hc => of_decide_eq_true (h c (by simpa using hc)), fun h c hc => decide_eq_true (h c (by simpa using hc))⟩
theorem join_strok {y : Str} {parts : List Str} (hy : PyData.strOk y = true) (hp : ∀ p ∈ parts, PyData.strOk p = true) : PyData.strOk (Txt.join y parts) = true := by
  rw [strOk_iff]
  intro c hc
  rcases join_mem y parts c hc with h | ⟨p, hm, h⟩
  · exact strOk_iff.mp hy c h
  · exact strOk_iff.mp (hp p hm) c h
/-- texts that may be joined by a sign and parted again -/
structure Clean (s : Nat) (b : Nat) (parts : List Str) : Prop where
  ok : ∀ p ∈ parts, PyData.strOk p = true
  free : ∀ p ∈ parts, s ∉ p.cps.toList
  few : parts.length ≤ 1000
  short : ∀ p ∈ parts, p.length ≤ b
theorem fJoin_ok {y : Str} {s b : Nat} {parts : List Str} (hy : TL.tl y = [s]) (hys : PyData.strOk y = true) (hb : b ≤ 10000) (c : Clean s b parts) : fJoin y parts = some (Txt.join y parts) ∧ (Txt.join y parts).length ≤ parts.length * (b + 1) := by
  have yl : y.length = 1 := congrArg List.length hy
  have h1 := sum_le (f := fun p : Str => p.length) parts c.short
  have h2 := join_len y parts
  rw [yl, Nat.mul_one] at h2
  have h3 : parts.length * b ≤ 1000 * 10000 := Nat.mul_le_mul c.few hb
  have h4 := c.few
  have e : parts.length * (b + 1) = parts.length * b + parts.length := Nat.mul_succ _ _
  refine ⟨okIf_true ?_, by omega⟩
  rw [Bool.and_eq_true]
  refine ⟨decide_eq_true ?_, join_strok hys c.ok⟩
  rw [yl, Nat.mul_one]
  omega
theorem fSplit_ok {y : Str} {s b : Nat} {parts : List Str} (hy : TL.tl y = [s]) (hys : y.cps.all (· < 256) = true) (hyo : PyData.strOk y = true) (hb : b ≤ 10000) (c : Clean s b parts) (hne : parts ≠ []) : fSplit (Txt.join y parts) y = some parts := by
  have hs := TL.split_join hy hys hne c.free
  have hj := (fJoin_ok hy hyo hb c).2
  have h3 : parts.length * (b + 1) ≤ 1000 * 10001 := Nat.mul_le_mul c.few (by omega)
  have yl : y.length = 1 := congrArg List.length hy
  unfold fSplit
  rw [hs]
  refine okIf_true ?_
  rw [Bool.and_eq_true, Bool.and_eq_true]
  refine ⟨by rw [yl]; rfl, decide_eq_true (by rw [sizeLine_eq]; omega), ?_⟩
  rw [List.all_eq_true]
  exact c.ok
theorem cut_from2 {α : Type} (a b : α) (r : List α) : cutD (a :: b :: r) (some 2) none = r := by
  unfold cutD
  have e1 : HT.sIx (a :: b :: r).length 0 (some 2) = 2 := by
    unfold HT.sIx
    simp <;> omega
  rw [e1]
  show ((a :: b :: r).drop 2).take ((a :: b :: r).length - 2) = r
  rw [List.drop_succ_cons, List.drop_succ_cons, List.drop_zero, List.take_of_length_le]
  simp
theorem cut_to2 {α : Type} (p : List α) (a b : α) : cutD (p ++ [a, b]) none (some (-2)) = p := by
  unfold cutD
  have e1 : HT.sIx (p ++ [a, b]).length 0 none = 0 := rfl
  have e2 : HT.sIx (p ++ [a, b]).length (p ++ [a, b]).length (some (-2)) = p.length := by
    show (if (-2 : Int) < 0 then ((-2 : Int) + ((p ++ [a, b]).length : Int)).toNat else min (-2 : Int).toNat (p ++ [a, b]).length) = p.length
    rw [if_pos (by decide), List.length_append]
    simp <;> omega
  rw [e1, e2, List.drop_zero, Nat.sub_zero, List.take_left]
theorem at_m1 {α : Type} (p : List α) (a b : α) : atI (p ++ [a, b]) (-1) = some b := by
  unfold atI ixN
  rw [if_neg (by decide), if_pos (by simp; omega)]
  show (p ++ [a, b])[((-1 : Int) + (p ++ [a, b]).length).toNat]? = _
  rw [show ((-1 : Int) + (p ++ [a, b]).length).toNat = p.length + 1 from by simp; omega, List.getElem?_append_right (by omega)]
  simp
theorem at_m2 {α : Type} (p : List α) (a b : α) : atI (p ++ [a, b]) (-2) = some a := by
  unfold atI ixN
  rw [if_neg (by decide), if_pos (by simp <;> omega)]
  show (p ++ [a, b])[((-2 : Int) + (p ++ [a, b]).length).toNat]? = _
  rw [show ((-2 : Int) + (p ++ [a, b]).length).toNat = p.length from by simp; omega, List.getElem?_append_right (by omega)]
  simp
abbrev Rule80 : Type := RuleT
/-- a name as it is written, a word -/
structure NameT (h : Str) : Prop where
  txt : m_is_name_text h = some true
  head : HeadIn greatS h
  b32 : 32 ∉ h.cps.toList
  b10 : 10 ∉ h.cps.toList
  len : h.length ≤ 100
  ok : PyData.strOk h = true
structure WordT (w : Str) : Prop where
  of : Of smallS w
  ne : w.length ≠ 0
  le : w.length ≤ 8
structure RuleT80 (r : Rule80) : Prop where
  name : NameT r.1
  parts : ∀ p ∈ r.2.1, NameT p ∨ WordT p
  few : r.2.1.length ≤ 50
  c0 : 0 ≤ r.2.2
  c1 : r.2.2 < 10 ^ 60
def tokens (r : Rule80) : List Str := if 0 < r.2.2 then (r.1 :: Str.ofString "=" :: r.2.1) ++ [Str.ofString ":", numT r.2.2.toNat] else r.1 :: Str.ofString "=" :: r.2.1
theorem small_no {c : Nat} (h : c ∈ smallS.cps.toList) : c ≠ 58 ∧ c ≠ 32 ∧ c ≠ 10 := by
  have : ∀ c ∈ smallS.cps.toList, c ≠ 58 ∧ c ≠ 32 ∧ c ≠ 10 := by decide +kernel
  exact this c h
theorem great_no2 {c : Nat} (h : c ∈ greatS.cps.toList) : c ≠ 58 := by
  have : ∀ c ∈ greatS.cps.toList, c ≠ 58 := by decide +kernel
  exact this c h
theorem part_not_colon {p : Str} (h : NameT p ∨ WordT p) : ¬ (p = Str.ofString ":") := fun e => by
  have e58 : (Str.ofString ":").cps.toList = [58] := by decide +kernel
  rcases h with h | h
  · obtain ⟨c, r, e2, hc⟩ := h.head
    rw [e, e58] at e2
    cases e2
    exact great_no2 hc rfl
  · have := h.of 58 (by rw [e, e58]; exact List.mem_cons_self)
    exact (small_no this).1 rfl
theorem parts80_loop (words : List Str) (name : Str) (parts : List Str) (cost : Int) (hw : words = name :: Str.ofString "=" :: parts) (text : Option Str) (hp : ∀ p ∈ parts, NameT p ∨ WordT p) :
    lp_read_rule_1 (text, some words, some cost, none, ()) = some (.nx (none, some words, some cost, none, ())) := by
  rw [lp_read_rule_1_eq]
  refine sFor_all (xs := parts) ?_ ?_ fun p hm => ?_
  · have := cut_from2 name (Str.ofString "=") parts
    rw [← hw] at this
    clear hp hw
    walk_at "go"
  · rfl
  · refine ⟨(none, some words, some cost, some p, ()), ?_, rfl⟩
    unfold lb_read_rule_1
    rcases hp p hm with h | h
    · obtain ⟨b, e, hb⟩ := made_of_eq p smallS (Nat.le_trans h.len (by decide))
      have ht := h.txt
      clear hp hm hw h hb
      cases b <;> walk_at "go"
    · have hm2 := made_of_true (s := smallS) h.ne h.le h.of
      clear hp hm hw h
      walk_at "go"
theorem part_clean {p : Str} (h : NameT p ∨ WordT p) : PyData.strOk p = true ∧ 32 ∉ p.cps.toList ∧ 10 ∉ p.cps.toList ∧ p.length ≤ 100 := by
  rcases h with h | h
  · exact ⟨h.ok, h.b32, h.b10, h.len⟩
  · exact ⟨h.of.ok small_strok, fun z => (small_no (h.of 32 z)).2.1 rfl, fun z => (small_no (h.of 10 z)).2.2 rfl, Nat.le_trans h.le (by decide)⟩
theorem fig_no {c : Nat} (h : c ∈ figS.cps.toList) : c ≠ 58 ∧ c ≠ 32 ∧ c ≠ 10 := by
  have : ∀ c ∈ figS.cps.toList, c ≠ 58 ∧ c ≠ 32 ∧ c ≠ 10 := by decide +kernel
  exact this c h
theorem token_clean {r : Rule80} (h : RuleT80 r) : ∀ t ∈ tokens r, PyData.strOk t = true ∧ 32 ∉ t.cps.toList ∧ 10 ∉ t.cps.toList ∧ t.length ≤ 100 := by
  have he : PyData.strOk (Str.ofString "=") = true ∧ 32 ∉ (Str.ofString "=").cps.toList ∧ 10 ∉ (Str.ofString "=").cps.toList ∧ (Str.ofString "=").length ≤ 100 := ⟨by decide +kernel, by decide +kernel, by decide +kernel, by decide +kernel⟩
  have hc : PyData.strOk (Str.ofString ":") = true ∧ 32 ∉ (Str.ofString ":").cps.toList ∧ 10 ∉ (Str.ofString ":").cps.toList ∧ (Str.ofString ":").length ≤ 100 := ⟨by decide +kernel, by decide +kernel, by decide +kernel, by decide +kernel⟩
  have hn : PyData.strOk (numT r.2.2.toNat) = true ∧ 32 ∉ (numT r.2.2.toNat).cps.toList ∧ 10 ∉ (numT r.2.2.toNat).cps.toList ∧ (numT r.2.2.toNat).length ≤ 100 := by
    have hf := num_figs r.2.2.toNat
    have hlt : r.2.2.toNat < 10 ^ 60 := by
      have := h.c1
      have := h.c0
      have e : ((10 : Int) ^ 60) = ((10 ^ 60 : Nat) : Int) := by decide +kernel
      rw [e] at *
      omega
    exact ⟨hf.ok fig_strok, fun z => (fig_no (hf 32 z)).2.1 rfl, fun z => (fig_no (hf 10 z)).2.2 rfl, Nat.le_trans (num_size (by decide) hlt) (by decide)⟩
  have hb : ∀ t ∈ r.1 :: Str.ofString "=" :: r.2.1, PyData.strOk t = true ∧ 32 ∉ t.cps.toList ∧ 10 ∉ t.cps.toList ∧ t.length ≤ 100 := fun t ht => by
    rcases List.mem_cons.mp ht with rfl | ht
    · exact part_clean (.inl h.name)
    · rcases List.mem_cons.mp ht with rfl | ht
      · exact he
      · exact part_clean (h.parts t ht)
  intro t ht
  unfold tokens at ht
  split at ht
  · rcases List.mem_append.mp ht with ht | ht
    · exact hb t ht
    · rcases List.mem_cons.mp ht with rfl | ht
      · exact hc
      · rw [List.mem_singleton] at ht
        rw [ht]
        exact hn
  · exact hb t ht
theorem tokens_clean {r : Rule80} (h : RuleT80 r) : Clean 32 100 (tokens r) := ⟨fun p hp => (token_clean h p hp).1, fun p hp => (token_clean h p hp).2.1, by
  have := h.few
  unfold tokens
  split <;> simp <;> omega, fun p hp => (token_clean h p hp).2.2.2⟩
theorem blank_ok : PyData.strOk blankS = true ∧ blankS.cps.all (· < 256) = true := ⟨by decide +kernel, by decide +kernel⟩
theorem feed_ok : PyData.strOk feedS = true ∧ feedS.cps.all (· < 256) = true := ⟨by decide +kernel, by decide +kernel⟩
theorem read_rule_ok (r : Rule80) (h : RuleT80 r) : m_read_rule (Txt.join blankS (tokens r)) = some r := by
  have hsp := fSplit_ok blank_tl blank_ok.2 blank_ok.1 (by decide) (tokens_clean h) (by unfold tokens; split <;> simp)
  obtain ⟨name, parts, cost⟩ := r
  have hn : m_is_name_text name = some true := h.name.txt
  generalize hT : Txt.join blankS (tokens (name, parts, cost)) = T at hsp
  have hlp := parts80_loop (name :: Str.ofString "=" :: parts) name parts cost rfl (some T) h.parts
  have hcf := cut_from2 name (Str.ofString "=") parts
  have i0 : atI (name :: Str.ofString "=" :: parts) 0 = some name := atI_nat (j := 0) rfl
  have i1 : atI (name :: Str.ofString "=" :: parts) 1 = some (Str.ofString "=") := atI_nat (j := 1) rfl
  have hlen2 : ¬ ((parts.length : Int) + 1 + 1 < 2) := by omega
  rw [m_read_rule_at]
  unfold b_read_rule
  by_cases hc : 0 < cost
  · have ht : tokens (name, parts, cost) = (name :: Str.ofString "=" :: parts) ++ [Str.ofString ":", numT cost.toNat] := if_pos hc
    rw [ht] at hsp
    have j1 := at_m1 (name :: Str.ofString "=" :: parts) (Str.ofString ":") (numT cost.toNat)
    have j2 := at_m2 (name :: Str.ofString "=" :: parts) (Str.ofString ":") (numT cost.toNat)
    have j3 := cut_to2 (name :: Str.ofString "=" :: parts) (Str.ofString ":") (numT cost.toNat)
    have hlt : cost.toNat < 10 ^ 60 := by
      have h1 : cost < 10 ^ 60 := h.c1
      have e : ((10 : Int) ^ 60) = ((10 ^ 60 : Nat) : Int) := by decide +kernel
      rw [e] at h1
      omega
    have hco := cost_ok cost.toNat (by omega) hlt
    rw [Int.toNat_of_nonneg (by omega)] at hco
    have hl3 : (3 : Int) < (((name :: Str.ofString "=" :: parts) ++ [Str.ofString ":", numT cost.toNat]).length : Int) := by simp; omega
    generalize (name :: Str.ofString "=" :: parts) ++ [Str.ofString ":", numT cost.toNat] = W at hsp j1 j2 j3 hl3
    generalize hB : name :: Str.ofString "=" :: parts = B at j3 hlp hcf i0 i1
    have hB2 : ¬ ((B.length : Int) < 2) := by rw [← hB]; simp; omega
    clear h hT ht hlt hc hlen2 hB
    walk_at "go"
  · have ht : tokens (name, parts, cost) = name :: Str.ofString "=" :: parts := if_neg hc
    have hc0 : cost = 0 := by
      have := h.c0
      have : (0 : Int) ≤ cost := h.c0
      omega
    rw [ht] at hsp
    have hcond : ((3 : Int) < (((name :: Str.ofString "=" :: parts).length : Nat) : Int)) → ∃ w, atI (name :: Str.ofString "=" :: parts) (-2) = some w ∧ ¬ (w = Str.ofString ":") := fun h3 => by
      simp only [List.length_cons] at h3
      unfold atI ixN
      rw [if_neg (by decide), if_pos (by simp; omega)]
      refine ⟨parts[parts.length - 2]'(by omega), ?_, part_not_colon (h.parts _ (List.getElem_mem _))⟩
      show (name :: Str.ofString "=" :: parts)[((-2 : Int) + (name :: Str.ofString "=" :: parts).length).toNat]? = _
      rw [show ((-2 : Int) + (name :: Str.ofString "=" :: parts).length).toNat = (parts.length - 2) + 1 + 1 from by simp; omega]
      rw [List.getElem?_cons_succ, List.getElem?_cons_succ, List.getElem?_eq_getElem (by omega)]
    subst hc0
    generalize hB : name :: Str.ofString "=" :: parts = B at hsp hlp hcf i0 i1 hcond
    have hB2 : ¬ ((B.length : Int) < 2) := by rw [← hB]; simp; omega
    by_cases h3 : (3 : Int) < (B.length : Int)
    · obtain ⟨w, hw, hwn⟩ := hcond h3
      clear h hT ht hc hlen2 hB hcond
      walk_at "go"
    · clear h hT ht hc hlen2 hB hcond
      walk_at "go"
/-! ### rules shown -/
theorem strI_big {cost : Int} (h0 : 0 ≤ cost) (h1 : cost < 10 ^ 60) : fStrI cost = some (numT cost.toNat) := by
  have e : ((10 : Int) ^ 60) = ((10 ^ 60 : Nat) : Int) := by decide +kernel
  rw [e] at h1
  have h2 : cost.natAbs < 2 ^ 200 := Nat.lt_of_lt_of_le (show cost.natAbs < 10 ^ 60 by omega) (by decide +kernel)
  unfold fStrI
  rw [show (numT cost.toNat) = Str.ofString (toString cost) from by rw [numT, Int.toNat_of_nonneg h0]]
  refine okIf_true (decide_eq_true ?_)
  have := PySem.Flt.log2_lt_of (k := 200) (by decide) h2
  omega
theorem shown_rule_ok (r : Rule80) (h : RuleT80 r) : m_shown_rule r = some (Txt.join blankS (tokens r)) := by
  have hj := (fJoin_ok blank_tl blank_ok.1 (by decide) (tokens_clean h)).1
  obtain ⟨name, parts, cost⟩ := r
  have hfew : parts.length ≤ 50 := h.few
  have hc1 : fCatL [name, Str.ofString "="] parts = some (name :: Str.ofString "=" :: parts) := catL_ok (by simp; omega)
  rw [m_shown_rule_at]
  unfold b_shown_rule
  by_cases hc : 0 < cost
  · have ht : tokens (name, parts, cost) = (name :: Str.ofString "=" :: parts) ++ [Str.ofString ":", numT cost.toNat] := if_pos hc
    have hs := strI_big (h.c0) (h.c1)
    have hs : fStrI cost = some (numT cost.toNat) := hs
    have hc2 : fCatL (name :: Str.ofString "=" :: parts) [Str.ofString ":", numT cost.toNat] = some ((name :: Str.ofString "=" :: parts) ++ [Str.ofString ":", numT cost.toNat]) := catL_ok (by simp; omega)
    rw [ht] at hj ⊢
    generalize (name :: Str.ofString "=" :: parts) ++ [Str.ofString ":", numT cost.toNat] = W at hj hc2 ⊢
    generalize name :: Str.ofString "=" :: parts = B at hc1 hc2
    clear h hfew ht
    walk_at "go"
  · have ht : tokens (name, parts, cost) = name :: Str.ofString "=" :: parts := if_neg hc
    rw [ht] at hj ⊢
    generalize name :: Str.ofString "=" :: parts = B at hj hc1 ⊢
    clear h hfew ht
    walk_at "go"
def rowsOf (g : List Rule80) : List Str := g.map fun r => Txt.join blankS (tokens r)
theorem rows_clean {g : List Rule80} (h : ∀ r ∈ g, RuleT80 r) (hl : g.length ≤ 1000) : Clean 10 10000 (rowsOf g) := by
  have row : ∀ r ∈ g, PyData.strOk (Txt.join blankS (tokens r)) = true ∧ 10 ∉ (Txt.join blankS (tokens r)).cps.toList ∧ (Txt.join blankS (tokens r)).length ≤ 10000 := fun r hr => by
    have hc := tokens_clean (h r hr)
    refine ⟨join_strok blank_ok.1 hc.ok, fun z => ?_, ?_⟩
    · rcases join_mem _ _ _ z with z | ⟨p, hp, z⟩
      · have : 10 ∈ ([32] : List Nat) := blank_tl ▸ z
        simp at this
      · exact (token_clean (h r hr) p hp).2.2.1 z
    · have h1 := (fJoin_ok blank_tl blank_ok.1 (by decide) hc).2
      have hf := (h r hr).few
      have : (tokens r).length ≤ 54 := by
        unfold tokens
        split <;> simp <;> omega
      have := Nat.mul_le_mul this (Nat.le_refl 101)
      omega
  refine ⟨fun p hp => ?_, fun p hp => ?_, by unfold rowsOf; rw [List.length_map]; exact hl, fun p hp => ?_⟩
  · obtain ⟨r, hr, rfl⟩ := List.mem_map.mp hp
    exact (row r hr).1
  · obtain ⟨r, hr, rfl⟩ := List.mem_map.mp hp
    exact (row r hr).2.1
  · obtain ⟨r, hr, rfl⟩ := List.mem_map.mp hp
    exact (row r hr).2.2
theorem shown_grammar_ok (g : List Rule80) (h : ∀ r ∈ g, RuleT80 r) (hl : g.length ≤ 1000) : m_shown_grammar g = some (Txt.join feedS (rowsOf g)) := by
  have hj := (fJoin_ok feed_tl feed_ok.1 (by decide) (rows_clean h hl)).1
  have hlc : lc_shown_grammar_1 (some g, none, ()) = some (rowsOf g) := by
    rw [lc_shown_grammar_1_eq]
    refine eLc_of (xs := g) rfl (lcL_all (fun r => Txt.join blankS (tokens r)) g fun r hr => ?_) (lenOk_le (by show (rowsOf g).length ≤ _; unfold rowsOf; rw [List.length_map]; omega))
    have := shown_rule_ok r (h r hr)
    clear hj h hr
    walk_at "go"
  rw [m_shown_grammar_at]
  unfold b_shown_grammar
  clear h hl
  walk_at "go"
theorem read_grammar_ok (g : List RuleT) (h : ∀ r ∈ g, RuleT80 r) (h0 : g ≠ []) (hl : g.length ≤ 1000) (hp : ∀ r ∈ g, ∀ p ∈ r.2.1, NameT p → p ∈ g.map (·.1)) : m_read_grammar (Txt.join feedS (rowsOf g)) = some g := by
  have hsp := fSplit_ok feed_tl feed_ok.2 feed_ok.1 (by decide) (rows_clean h hl) (by
    unfold rowsOf
    exact fun e => h0 (List.map_eq_nil_iff.mp e))
  have hg := grammar_of_ok g h0 hl (fun r hr => (h r hr).c0) fun r hr p hm => by
    rcases (h r hr).parts p hm with hn | hw
    · exact .inr ⟨is_name_great hn.head (Nat.le_trans hn.len (by decide)), (uniq_mem _ p).mpr (hp r hr p hm hn)⟩
    · exact .inl (is_name_small (head_of hw.of (Nat.pos_of_ne_zero hw.ne)) (Nat.le_trans hw.le (by decide)))
  have hlc : lc_read_grammar_1 (some (Txt.join feedS (rowsOf g)), none, ()) = some g := by
    rw [lc_read_grammar_1_eq]
    refine eLc_of (xs := rowsOf g) hsp ?_ (lenOk_le (by omega))
    have key : ∀ l : List RuleT, (∀ r ∈ l, RuleT80 r) → lcL (bName (t := Ty.str) (v_read_grammar_row)) eYes (e1 m_read_rule (eV (t := Ty.str) (v_read_grammar_row))) ((some (Txt.join feedS (rowsOf g)), none, ()) : Gam g_read_grammar) (rowsOf l) = some l := by
      intro l
      induction l with
      | nil => exact fun _ => rfl
      | cons r l ih =>
        intro hr
        have h1 := read_rule_ok r (hr r List.mem_cons_self)
        have h2 := ih fun x hx => hr x (List.mem_cons_of_mem _ hx)
        show (some true).bind _ = _
        rw [Option.bind_some, if_pos rfl]
        show (m_read_rule (Txt.join blankS (tokens r))).bind _ = _
        rw [h1, Option.bind_some]
        show (lcL _ eYes _ _ (rowsOf l)).bind _ = _
        rw [h2]
        rfl
    exact key g h
  rw [m_read_grammar_at]
  unfold b_read_grammar
  clear h hp h0 hl hsp
  walk_at "go"
/-! ### heads and words of the law -/
theorem sign_of {a : Str} {n : Nat} (ha : a.length = n) (hn : 0 < n) (hn' : n ≤ 1000) (i : Int) : ∃ c, fIxS a (i % (n : Int)) = some ⟨#[c]⟩ ∧ c ∈ a.cps.toList := by
  have m0 := Int.emod_nonneg i (show (n : Int) ≠ 0 by omega)
  have m1 := Int.emod_lt_of_pos i (show (0 : Int) < (n : Int) by omega)
  obtain ⟨c, hc, hm⟩ := atI_some (xs := a.cps.toList) (i := i % (n : Int)) m0 (by rw [str_len, ha]; exact m1)
  refine ⟨c, ?_, hm⟩
  unfold fIxS
  rw [if_pos (lenOk_le (by omega)), hc]
  rfl
abbrev emptyS : Str := Str.ofString ""
theorem joinL_nil : ∀ ps : List (List Nat), TL.joinL [] ps = ps.flatten
  | [] => rfl
  | [p] => by simp [TL.joinL]
  | p :: q :: r => by
    show p ++ ([] ++ TL.joinL [] (q :: r)) = _
    rw [joinL_nil (q :: r)]
    rfl
theorem join_signs (cs : List Nat) : (Txt.join emptyS (cs.map fun c => (⟨#[c]⟩ : Str))).cps.toList = cs := by
  show TL.tl _ = cs
  rw [TL.join_eq, TL.tl_join, List.map_map, show TL.tl emptyS = [] from rfl, joinL_nil]
  show (cs.map fun c => [c]).flatten = cs
  induction cs with
  | nil => rfl
  | cons c cs ih => rw [List.map_cons, List.flatten_cons, ih]; rfl
theorem fJoin_signs {a : Str} (ha : PyData.strOk a = true) {cs : List Nat} (hc : ∀ c ∈ cs, c ∈ a.cps.toList) (hl : cs.length ≤ 1000) : ∃ t, fJoin emptyS (cs.map fun c => (⟨#[c]⟩ : Str)) = some t ∧ Of a t ∧ t.length = cs.length := by
  have h1 := join_signs cs
  have h2 : Of a (Txt.join emptyS (cs.map fun c => (⟨#[c]⟩ : Str))) := fun c h => by
    rw [h1] at h
    exact hc c h
  refine ⟨_, okIf_true ?_, h2, ?_⟩
  · rw [Bool.and_eq_true]
    refine ⟨decide_eq_true ?_, h2.ok ha⟩
    have h3 := sum_le (f := fun p : Str => p.length) (b := 1) (cs.map fun c => (⟨#[c]⟩ : Str)) (fun x hx => by
      obtain ⟨c, _, rfl⟩ := List.mem_map.mp hx
      exact Nat.le_refl _)
    rw [List.length_map] at h3 ⊢
    show _ + _ * 0 ≤ _
    omega
  · rw [← str_len, h1]
abbrev eatS : Str := Str.ofString "eatonihsr"
abbrev qxyS : Str := Str.ofString "QXYZABMN"
theorem eat_small {c : Nat} (h : c ∈ eatS.cps.toList) : c ∈ smallS.cps.toList := by
  have : ∀ c ∈ eatS.cps.toList, c ∈ smallS.cps.toList := by decide +kernel
  exact this c h
theorem qxy_great {c : Nat} (h : c ∈ qxyS.cps.toList) : c ∈ greatS.cps.toList := by
  have : ∀ c ∈ qxyS.cps.toList, c ∈ greatS.cps.toList := by decide +kernel
  exact this c h
theorem divOk_small {k : Nat} (h : k < 2 ^ 100) : divOk ((k : Int) + 1) = true := divOk_of 101 (by omega) (by
  have : ((k : Int) + 1).natAbs = k + 1 := by omega
  rw [this, Nat.pow_succ]
  omega) (by decide)
theorem word80_ok (number : Int) : ∃ w, m__law_word number = some w ∧ WordT w := by
  have d5 : divOk 5 = true := by decide +kernel
  obtain ⟨size, hsize⟩ : ∃ s : Nat, (s : Int) = 1 + number / 5 % 8 := ⟨(1 + number / 5 % 8).toNat, Int.toNat_of_nonneg (by omega)⟩
  have hs : 1 ≤ size ∧ size ≤ 8 := by omega
  obtain ⟨f, hf⟩ : ∃ f : Int → Nat, ∀ i, fIxS eatS (i % 9) = some ⟨#[f i]⟩ ∧ f i ∈ eatS.cps.toList := ⟨fun i => (sign_of (a := eatS) (n := 9) (by decide +kernel) (by decide) (by decide) i).choose, fun i => (sign_of (a := eatS) (n := 9) (by decide +kernel) (by decide) (by decide) i).choose_spec⟩
  have hlc : lc__law_word_1 (some number, none, ()) = some ((((rng 0 (size : Int)).map fun k => f (number / (k + 1) + k))).map fun c => (⟨#[c]⟩ : Str)) := by
    rw [lc__law_word_1_eq, List.map_map]
    refine eLc_of (xs := rng 0 (size : Int)) ?_ (lcL_all _ _ fun k hk => ?_) (lenOk_le (by rw [List.length_map, rng_len]; omega))
    · have := fRng1_of (n := size) (by omega)
      rw [hsize] at this ⊢
      clear hf hsize
      walk_at "go"
    · have h1 := (hf (number / (k + 1) + k)).1
      unfold rng at hk
      obtain ⟨j, _, rfl⟩ := List.mem_map.mp hk
      have hj : divOk (0 + (j : Int) + 1) = true := by
        rw [Int.zero_add]
        exact divOk_small (by
          have := List.mem_range.mp (by assumption)
          have h2 : j < 8 := by omega
          exact Nat.lt_trans h2 (by decide))
      have h9 : (0 : Int) < 9 := by decide
      clear hf hk hsize
      walk_at "go"
      rfl
  obtain ⟨t, ht, ho, hl⟩ := fJoin_signs (a := smallS) small_strok (cs := (rng 0 (size : Int)).map fun k => f (number / (k + 1) + k)) (fun c hc => by
    obtain ⟨k, _, rfl⟩ := List.mem_map.mp hc
    exact eat_small (hf _).2) (by rw [List.length_map, rng_len]; omega)
  rw [List.length_map, rng_len] at hl
  refine ⟨t, ?_, ⟨ho, by omega, by omega⟩⟩
  rw [m__law_word_at]
  unfold b__law_word
  generalize ((rng 0 (size : Int)).map fun k => f (number / (k + 1) + k)).map (fun c => (⟨#[c]⟩ : Str)) = W at hlc ht
  clear hf ho
  walk_at "go"
theorem qxy_strok : PyData.strOk qxyS = true := by decide +kernel
theorem nameT_plain {b : Str} (ho : Of greatS b) (h0 : b.length ≠ 0) (h8 : b.length ≤ 8) : NameT b :=
  ⟨name_plain ho h0 h8, head_of ho (Nat.pos_of_ne_zero h0), fun z => (great_no (ho 32 z)).2.1 rfl, fun z => (great_no (ho 10 z)).2.2 rfl, by omega, ho.ok great_strok⟩
theorem line_no : ∀ c ∈ lineS.cps.toList, c ≠ 32 ∧ c ≠ 10 ∧ c < 0x110000 := by decide +kernel
theorem nameT_line {b n : Str} (ho : Of greatS b) (h0 : b.length ≠ 0) (h8 : b.length ≤ 8) (hn : Of figS n) (hn0 : n.length ≠ 0) (hn4 : n.length ≤ 4) : NameT (b ++ lineS ++ n) := by
  have mem : ∀ c ∈ (b ++ lineS ++ n).cps.toList, c ∈ greatS.cps.toList ∨ c ∈ lineS.cps.toList ∨ c ∈ figS.cps.toList := fun c hc => by
    rw [cps_cat, cps_cat] at hc
    rcases List.mem_append.mp hc with hc | hc
    · rcases List.mem_append.mp hc with hc | hc
      · exact .inl (ho c hc)
      · exact .inr (.inl hc)
    · exact .inr (.inr (hn c hc))
  refine ⟨name_line ho h0 h8 hn hn0 hn4, ((head_of ho (Nat.pos_of_ne_zero h0)).cat _).cat _, fun z => ?_, fun z => ?_, by rw [len_cat, len_cat, line_len]; omega, strOk_append (strOk_append (ho.ok great_strok) (by decide +kernel)) (hn.ok fig_strok)⟩
  · rcases mem 32 z with h | h | h
    · exact (great_no h).2.1 rfl
    · exact (line_no 32 h).1 rfl
    · exact (fig_no h).2.1 rfl
  · rcases mem 10 z with h | h | h
    · exact (great_no h).2.2 rfl
    · exact (line_no 10 h).2.1 rfl
    · exact (fig_no h).2.2 rfl
theorem head_signs (found : Option (List Str)) (c : Int) : ∃ cs : List Nat, lc__law_heads_1 (none, found, some c, none, none, ()) = some (cs.map fun c => (⟨#[c]⟩ : Str)) ∧ (∀ x ∈ cs, x ∈ greatS.cps.toList) ∧ cs.length ≠ 0 ∧ cs.length ≤ 8 := by
  have d9 : divOk 9 = true := by decide +kernel
  obtain ⟨size, hsize⟩ : ∃ s : Nat, (s : Int) = 1 + c / 9 % 8 := ⟨(1 + c / 9 % 8).toNat, Int.toNat_of_nonneg (by omega)⟩
  have hs : 1 ≤ size ∧ size ≤ 8 := by omega
  obtain ⟨f, hf⟩ : ∃ f : Int → Nat, ∀ i, fIxS qxyS (i % 8) = some ⟨#[f i]⟩ ∧ f i ∈ qxyS.cps.toList := ⟨fun i => (sign_of (a := qxyS) (n := 8) (by decide +kernel) (by decide) (by decide) i).choose, fun i => (sign_of (a := qxyS) (n := 8) (by decide +kernel) (by decide) (by decide) i).choose_spec⟩
  refine ⟨(rng 0 (size : Int)).map fun k => f (c / (k + 1) + k * k), ?_, fun x hx => ?_, by rw [List.length_map, rng_len]; omega, by rw [List.length_map, rng_len]; omega⟩
  · rw [lc__law_heads_1_eq, List.map_map]
    refine eLc_of (xs := rng 0 (size : Int)) ?_ (lcL_all _ _ fun k hk => ?_) (lenOk_le (by rw [List.length_map, rng_len]; omega))
    · have := fRng1_of (n := size) (by omega)
      rw [hsize] at this ⊢
      clear hf hsize
      walk_at "go"
    · have h1 := (hf (c / (k + 1) + k * k)).1
      unfold rng at hk
      obtain ⟨j, hjm, rfl⟩ := List.mem_map.mp hk
      have hj8 : j < 8 := by
        have := List.mem_range.mp hjm
        omega
      have hj : divOk (0 + (j : Int) + 1) = true := by
        rw [Int.zero_add]
        exact divOk_small (Nat.lt_trans hj8 (by decide))
      have hmul : mulOk (0 + (j : Int)) (0 + (j : Int)) = true := mulOk_of 4 4 (by omega) (by omega) (by decide)
      have h9 : (0 : Int) < 8 := by decide
      clear hf hk hsize hjm hj8
      walk_at "go"
      rfl
  · obtain ⟨k, _, rfl⟩ := List.mem_map.mp hx
    exact qxy_great (hf _).2
theorem heads_turn (found : List Str) (cell : Int) (hl : found.length ≤ 1000) : ∃ name, NameT name ∧ ∃ Γ', lb__law_heads_1 (none, some found, some cell, none, none, ()) = some (.nx Γ') ∧ Gam.mask [false, true, false, false, false] Γ' = (none, some (if name ∈ found then found else found ++ [name]), none, none, none, ()) := by
  have p40 : powOk 10 40 = true := by decide +kernel
  have d3 : divOk 3 = true := by decide +kernel
  have d70 : divOk 70 = true := by decide +kernel
  have hbig : (0 : Int) < (10 : Int) ^ (40 : Int).toNat := by decide +kernel
  obtain ⟨big, hb⟩ : ∃ b : Int, (10 : Int) ^ (40 : Int).toNat = b := ⟨_, rfl⟩
  rw [hb] at hbig
  have hP : (e2 fPow (eC (10 : Int)) (eC (40 : Int)) : Gam g__law_heads → Option Int) = fun _ => some big := by
    funext Γ
    show okIf (powOk 10 40) ((10 : Int) ^ (40 : Int).toNat) = some big
    rw [p40, hb]
    rfl
  clear p40 hb
  obtain ⟨c, hc⟩ : ∃ c : Int, cell % big = c := ⟨_, rfl⟩
  obtain ⟨cs, hlc, hcs, hc0, hc8⟩ := head_signs (some found) c
  obtain ⟨b, hj, ho, hbl⟩ := fJoin_signs great_strok hcs (by omega)
  have hline : found.length < sizeLine := lt_line (by omega)
  by_cases h3 : c % 3 = 0
  · obtain ⟨z, hz, hzm⟩ := atI_some (xs := [(10 : Int), 10000]) (i := c / 70 % 2) (by omega) (by simp; omega)
    have hz0 : 0 < z ∧ z ≤ 10000 := by
      simp at hzm
      omega
    have v0 := Int.emod_nonneg (c / 3) (show z ≠ 0 by omega)
    have v1 := Int.emod_lt_of_pos (c / 3) hz0.1
    obtain ⟨v, hv⟩ : ∃ v : Int, c / 3 % z = v := ⟨_, rfl⟩
    rw [hv] at v0 v1
    have hs := strI_big v0 (Int.lt_of_lt_of_le (show v < 10000 by omega) (by decide +kernel))
    have hn4 := num_size (n := v.toNat) (k := 4) (by decide) (by omega)
    have hN := nameT_line ho (by omega) (by omega) (num_figs v.toNat) (num_pos_len v.toNat) hn4
    have hk1 : fCat b lineS = some (b ++ lineS) := cat_len (by rw [line_len]; omega)
    have hk2 : fCat (b ++ lineS) (numT v.toNat) = some (b ++ lineS ++ numT v.toNat) := cat_len (by rw [len_cat, line_len]; omega)
    refine ⟨b ++ lineS ++ numT v.toNat, hN, ?_⟩
    have hz1 := hz0.1
    generalize b ++ lineS ++ numT v.toNat = name at hN hk2 ⊢
    clear hN hzm hz0 v0 v1 hn4 hcs hc0 hc8 ho hbl hl
    by_cases hm : name ∈ found
    · have hni := fNotInD_mem (t := .str) rfl hm
      rw [if_pos hm]
      refine ⟨(none, some found, some c, some name, none, ()), ?_, rfl⟩
      clear hm
      unfold lb__law_heads_1
      rw [hP]
      clear hP
      walk_at "go"
    · have hni := fNotInD_not (t := .str) rfl hm
      rw [if_neg hm]
      refine ⟨(none, some (found ++ [name]), some c, some name, none, ()), ?_, rfl⟩
      clear hm
      unfold lb__law_heads_1
      rw [hP]
      clear hP
      walk_at "go"
  · have hN := nameT_plain ho (by omega) (by omega)
    refine ⟨b, hN, ?_⟩
    clear hN hcs hc0 hc8 ho hbl hl
    by_cases hm : b ∈ found
    · have hni := fNotInD_mem (t := .str) rfl hm
      rw [if_pos hm]
      refine ⟨(none, some found, some c, some b, none, ()), ?_, rfl⟩
      clear hm
      unfold lb__law_heads_1
      rw [hP]
      clear hP
      walk_at "go"
    · have hni := fNotInD_not (t := .str) rfl hm
      rw [if_neg hm]
      refine ⟨(none, some (found ++ [b]), some c, some b, none, ()), ?_, rfl⟩
      clear hm
      unfold lb__law_heads_1
      rw [hP]
      clear hP
      walk_at "go"
theorem heads80_ok (cells : List Int) (hl : cells.length ≤ 100) (hne : cells ≠ []) : ∃ hs, m__law_heads cells = some hs ∧ (∀ h ∈ hs, NameT h) ∧ hs.length ≤ cells.length ∧ 0 < hs.length := by
  have hlp : ∃ Γ', lp__law_heads_1 (some cells, some [], none, none, none, ()) = some (.nx Γ') ∧ (fun (pre : List Int) (Γ : Gam g__law_heads) => ∃ hs, Γ = (none, some hs, none, none, none, ()) ∧ (∀ h ∈ hs, NameT h) ∧ hs.length ≤ pre.length ∧ (pre ≠ [] → 0 < hs.length)) cells Γ' := by
    rw [lp__law_heads_1_eq]
    refine sFor_inv (fun (pre : List Int) (Γ : Gam g__law_heads) => ∃ hs, Γ = (none, some hs, none, none, none, ()) ∧ (∀ h ∈ hs, NameT h) ∧ hs.length ≤ pre.length ∧ (pre ≠ [] → 0 < hs.length)) (xs := cells) ?_ ?_ ?_
    · rfl
    · exact ⟨[], rfl, fun h hh => by simp at hh, Nat.le_refl _, fun z => absurd rfl z⟩
    · rintro p x q Γ he ⟨hs, rfl, k1, k2, k3⟩
      have hp : p.length ≤ 100 := by
        have := congrArg List.length he
        simp at this
        omega
      obtain ⟨name, hN, Γ', e1, e2⟩ := heads_turn hs x (by omega)
      refine ⟨Γ', .inl e1, _, e2, fun h hh => ?_, ?_, fun _ => ?_⟩
      · split at hh
        · exact k1 h hh
        · rcases List.mem_append.mp hh with hh | hh
          · exact k1 h hh
          · rw [List.mem_singleton] at hh
            rw [hh]
            exact hN
      · split <;> simp <;> omega
      · split
        · rename_i hm
          exact List.length_pos_of_mem hm
        · simp
  obtain ⟨Γ', e, hs, rfl, k1, k2, k3⟩ := hlp
  refine ⟨hs, ?_, k1, k2, k3 hne⟩
  rw [m__law_heads_at]
  unfold b__law_heads
  clear k1 k2 k3 hl hne
  walk_at "go"
/-! ### the law's rules -/
theorem word_no_name {p : Str} (h : WordT p) (h' : NameT p) : False := by
  obtain ⟨c, r, e, hc⟩ := h'.head
  exact small_not_great (h.of c (by rw [e]; exact List.mem_cons_self)) hc
theorem parts80_ok (c : Int) (k : Option Int) (heads : List Str) (name : Str) (hc0 : 0 ≤ c) (hh : ∀ h ∈ heads, NameT h) (hl : 0 < heads.length) (hl' : heads.length ≤ 1000) (big : Int) (hbig : 0 < big) (hP : (e2 fPow (eC (10 : Int)) (eC (20 : Int)) : Gam g__law_rule → Option Int) = fun _ => some big) :
    ∃ parts, lp__law_rule_1 (some c, k, some heads, some name, some [], none, none, ()) = some (.nx (some c, none, some heads, some name, some parts, none, none, ())) ∧ (∀ p ∈ parts, (NameT p ∧ p ∈ heads) ∨ WordT p) ∧ parts.length ≤ 5 := by
  obtain ⟨size, hsize⟩ : ∃ s : Nat, (s : Int) = c % 5 := ⟨(c % 5).toNat, Int.toNat_of_nonneg (by omega)⟩
  have hs : size ≤ 5 := by omega
  have hlp : ∃ Γ', lp__law_rule_1 (some c, k, some heads, some name, some [], none, none, ()) = some (.nx Γ') ∧ (fun (pre : List Int) (Γ : Gam g__law_rule) => ∃ parts, Γ = (some c, none, some heads, some name, some parts, none, none, ()) ∧ (∀ p ∈ parts, (NameT p ∧ p ∈ heads) ∨ WordT p) ∧ parts.length ≤ pre.length) (rng 0 (size : Int)) Γ' := by
    rw [lp__law_rule_1_eq]
    refine sFor_inv (fun (pre : List Int) (Γ : Gam g__law_rule) => ∃ parts, Γ = (some c, none, some heads, some name, some parts, none, none, ()) ∧ (∀ p ∈ parts, (NameT p ∧ p ∈ heads) ∨ WordT p) ∧ parts.length ≤ pre.length) (xs := rng 0 (size : Int)) ?_ ?_ ?_
    · have := fRng1_of (n := size) (by omega)
      rw [hsize] at this ⊢
      have h5 : (0 : Int) < 5 := by decide
      clear hh hP hsize
      walk_at "go"
    · exact ⟨[], rfl, fun p h => by simp at h, Nat.le_refl _⟩
    · rintro pre x q Γ he ⟨parts, rfl, k1, k2⟩
      obtain ⟨hp, rfl⟩ := rng_split he
      have d2 : divOk 2 = true := by decide +kernel
      have hmul : mulOk (pre.length : Int) 7919 = true := mulOk_of 4 13 (by omega) (by decide) (by decide)
      have hdiv : divOk (11 + (pre.length : Int)) = true := divOk_of 10 (by omega) (by omega) (by decide)
      obtain ⟨one, hone⟩ : ∃ o : Int, (c + (pre.length : Int) * 7919) / (11 + (pre.length : Int)) % big = o := ⟨_, rfl⟩
      obtain ⟨w, hw, hwt⟩ := word80_ok (one / 2)
      have m0 := Int.emod_nonneg (one / 2) (show (heads.length : Int) ≠ 0 by omega)
      have m1 := Int.emod_lt_of_pos (one / 2) (show (0 : Int) < (heads.length : Int) by omega)
      obtain ⟨hd, hhd, hhm⟩ := atI_some (xs := heads) m0 m1
      obtain ⟨p, hpx, hpm⟩ := atI_some (xs := [w, hd]) (i := one % 2) (by omega) (by simp; omega)
      have hpos : (0 : Int) < (heads.length : Int) := by omega
      have hline : parts.length < sizeLine := lt_line (by omega)
      have hgood : (NameT p ∧ p ∈ heads) ∨ WordT p := by
        simp only [List.mem_cons, List.not_mem_nil, or_false] at hpm
        rcases hpm with rfl | rfl
        · exact .inr hwt
        · exact .inl ⟨hh _ hhm, hhm⟩
      refine ⟨(some c, none, some heads, some name, some (parts ++ [p]), some (pre.length : Int), some one, ()), .inl ?_, _, rfl, fun y hy => ?_, by simp; omega⟩
      · unfold lb__law_rule_1
        rw [hP]
        clear hP hh hgood hpm hhm hwt k1 k2 he m0 m1 hsize
        walk_at "go"
      · rcases List.mem_append.mp hy with hy | hy
        · exact k1 y hy
        · rw [List.mem_singleton] at hy
          rw [hy]
          exact hgood
  obtain ⟨Γ', e, parts, rfl, k1, k2⟩ := hlp
  exact ⟨parts, e, k1, by rw [rng_len] at k2; omega⟩
theorem cost80_ok (c big : Int) (hb : big = 10 ^ 60) (hc0 : 0 ≤ c) (hc1 : c < 10 ^ 40) : ∃ z, atI [(0 : Int), 0, c / 50 % 12, (c + 1) * (c + 3) % big] (c / 5 % 4) = some z ∧ 0 ≤ z ∧ z < 10 ^ 60 := by
  obtain ⟨z, hz, hm⟩ := atI_some (xs := [(0 : Int), 0, c / 50 % 12, (c + 1) * (c + 3) % big]) (i := c / 5 % 4) (by omega) (by simp; omega)
  have hbp : (0 : Int) < big := by rw [hb]; decide +kernel
  have h12 : (12 : Int) < 10 ^ 60 := by decide +kernel
  have h0 : (0 : Int) < 10 ^ 60 := by decide +kernel
  refine ⟨z, hz, ?_⟩
  rw [List.mem_cons, List.mem_cons, List.mem_cons, List.mem_singleton] at hm
  rcases hm with e | e | e | e
  · rw [e]; exact ⟨Int.le_refl _, h0⟩
  · rw [e]; exact ⟨Int.le_refl _, h0⟩
  · rw [e]
    exact ⟨Int.emod_nonneg _ (by decide), Int.lt_trans (Int.emod_lt_of_pos _ (by decide)) h12⟩
  · rw [e]
    refine ⟨Int.emod_nonneg _ (Int.ne_of_gt hbp), ?_⟩
    have := Int.emod_lt_of_pos ((c + 1) * (c + 3)) hbp
    rwa [hb] at this ⊢
theorem big40 {c : Int} (h0 : 0 ≤ c) (h1 : c < 10 ^ 40) : (c + 1).natAbs < 2 ^ 140 ∧ (c + 3).natAbs < 2 ^ 140 := by
  have e : ((10 : Int) ^ 40) = ((10 ^ 40 : Nat) : Int) := by decide +kernel
  rw [e] at h1
  have h2 : 10 ^ 40 + 10 < 2 ^ 140 := by decide +kernel
  constructor
  · exact Nat.lt_trans (show (c + 1).natAbs < 10 ^ 40 + 10 by omega) h2
  · exact Nat.lt_trans (show (c + 3).natAbs < 10 ^ 40 + 10 by omega) h2
theorem rule80_ok (cell : Int) (k : Nat) (heads : List Str) (hh : ∀ h ∈ heads, NameT h) (hl : 0 < heads.length) (hl' : heads.length ≤ 1000) :
    ∃ r : RuleT, m__law_rule (cell, (k : Int), heads) = some r ∧ RuleT80 r ∧ (∀ p ∈ r.2.1, NameT p → p ∈ heads) ∧ r.1 ∈ heads ∧ ∀ h : k < heads.length, r.1 = heads[k] := by
  have p40 : powOk 10 40 = true := by decide +kernel
  have p20 : powOk 10 20 = true := by decide +kernel
  have p60 : powOk 10 60 = true := by decide +kernel
  have d7 : divOk 7 = true := by decide +kernel
  have d50 : divOk 50 = true := by decide +kernel
  have d5 : divOk 5 = true := by decide +kernel
  obtain ⟨b40, hb40⟩ : ∃ b : Int, (10 : Int) ^ (40 : Int).toNat = b := ⟨_, rfl⟩
  obtain ⟨b20, hb20⟩ : ∃ b : Int, (10 : Int) ^ (20 : Int).toNat = b := ⟨_, rfl⟩
  obtain ⟨b60, hb60⟩ : ∃ b : Int, (10 : Int) ^ (60 : Int).toNat = b := ⟨_, rfl⟩
  have q40 : (0 : Int) < b40 := by rw [← hb40]; decide +kernel
  have q20 : (0 : Int) < b20 := by rw [← hb20]; decide +kernel
  have q60 : (0 : Int) < b60 := by rw [← hb60]; decide +kernel
  have hP40 : (e2 fPow (eC (10 : Int)) (eC (40 : Int)) : Gam g__law_rule → Option Int) = fun _ => some b40 := by
    funext Γ
    show okIf (powOk 10 40) ((10 : Int) ^ (40 : Int).toNat) = some b40
    rw [p40, hb40]
    rfl
  have hP20 : (e2 fPow (eC (10 : Int)) (eC (20 : Int)) : Gam g__law_rule → Option Int) = fun _ => some b20 := by
    funext Γ
    show okIf (powOk 10 20) ((10 : Int) ^ (20 : Int).toNat) = some b20
    rw [p20, hb20]
    rfl
  have hP60 : (e2 fPow (eC (10 : Int)) (eC (60 : Int)) : Gam g__law_rule → Option Int) = fun _ => some b60 := by
    funext Γ
    show okIf (powOk 10 60) ((10 : Int) ^ (60 : Int).toNat) = some b60
    rw [p60, hb60]
    rfl
  obtain ⟨c, hc⟩ : ∃ c : Int, cell % b40 = c := ⟨_, rfl⟩
  have c0 : 0 ≤ c := by rw [← hc]; exact Int.emod_nonneg _ (Int.ne_of_gt q40)
  have c1 : c < 10 ^ 40 := by
    rw [← hc]
    have h1 := Int.emod_lt_of_pos cell q40
    have h2 : b40 = 10 ^ 40 := hb40.symm
    rwa [h2] at h1 ⊢
  obtain ⟨z, hz, z0, z1⟩ := cost80_ok c b60 hb60.symm c0 c1
  have hbig := big40 c0 c1
  have hmul : mulOk (c + 1) (c + 3) = true := mulOk_of 140 140 hbig.1 hbig.2 (by decide)
  have m0 := Int.emod_nonneg (c / 7) (show (heads.length : Int) ≠ 0 by omega)
  have m1 := Int.emod_lt_of_pos (c / 7) (show (0 : Int) < (heads.length : Int) by omega)
  obtain ⟨n0, hn0, hnm⟩ := atI_some (xs := heads) m0 m1
  have hpos : (0 : Int) < (heads.length : Int) := by omega
  obtain ⟨name, hname, hnmem, hnk⟩ : ∃ name, (if (k : Int) < (heads.length : Int) then atI heads (k : Int) else some n0) = some name ∧ name ∈ heads ∧ ∀ h : k < heads.length, name = heads[k] := by
    by_cases h : k < heads.length
    · refine ⟨heads[k], ?_, List.getElem_mem h, fun _ => rfl⟩
      rw [if_pos (by omega)]
      exact atI_nat (List.getElem?_eq_getElem h)
    · refine ⟨n0, ?_, hnm, fun z => absurd z h⟩
      rw [if_neg (by omega)]
  obtain ⟨parts, hlp, k1, k2⟩ := parts80_ok c (some (k : Int)) heads name c0 hh hl hl' b20 q20 hP20
  refine ⟨(name, parts, z), ?_, ⟨hh _ hnmem, fun p hp => (k1 p hp).elim (fun x => .inl x.1) .inr, by show parts.length ≤ 50; omega, z0, z1⟩, fun p hp hN => (k1 p hp).elim (fun x => x.2) fun x => (word_no_name x hN).elim, hnmem, hnk⟩
  rw [m__law_rule_at]
  unfold b__law_rule
  rw [hP40, hP60]
  clear hP40 hP20 hP60 p40 p20 p60 hb40 hb20 hb60 q20 k1 k2 hnk hnmem hnm m0 m1 hbig z0 z1 c0 c1 hh hl hl'
  by_cases h : (k : Int) < (heads.length : Int)
  · rw [if_pos h] at hname
    walk_at "go"
  · rw [if_neg h] at hname
    cases hname
    walk_at "go"
theorem rules80_ok (script : List Int) (hs : script.length ≤ 63) : ∃ (heads : List Str) (rules : List RuleT), m__law_rules script = some rules ∧ (∀ r ∈ rules, RuleT80 r) ∧ rules ≠ [] ∧ rules.length ≤ 1000 ∧ ∀ r ∈ rules, ∀ p ∈ r.2.1, NameT p → p ∈ rules.map (·.1) := by
  have hcell : m__law_cell_at (script, 0) = some (script.getD 0 0) := cell_at_ok script 0
  have hcl := cut_len script (some 1) (some 4)
  have hcat : fCatL (cutD script (some 1) (some 4)) [script.getD 0 0] = some (cutD script (some 1) (some 4) ++ [script.getD 0 0]) := catL_ok (by simp; omega)
  obtain ⟨heads, hh, hN, hl, hpos⟩ := heads80_ok (cutD script (some 1) (some 4) ++ [script.getD 0 0]) (by simp; omega) (by simp)
  have hl100 : heads.length ≤ 100 := by
    rw [List.length_append, List.length_singleton] at hl
    omega
  obtain ⟨more, hmore⟩ : ∃ m : Nat, (m : Int) = script.getD 0 0 / 8 % 6 := ⟨(script.getD 0 0 / 8 % 6).toNat, Int.toNat_of_nonneg (by omega)⟩
  have hm6 : more < 6 := by omega
  have hlp : ∃ Γ', lp__law_rules_1 (some script, some heads, some [], none, ()) = some (.nx Γ') ∧ (fun (pre : List Int) (Γ : Gam g__law_rules) => ∃ rules : List RuleT, Γ = (some script, some heads, some rules, none, ()) ∧ (∀ r ∈ rules, RuleT80 r) ∧ rules.length = pre.length ∧ (∀ r ∈ rules, ∀ p ∈ r.2.1, NameT p → p ∈ heads) ∧ ∀ j, j < pre.length → ∀ h : j < heads.length, heads[j] ∈ rules.map (·.1)) (rng 0 ((heads.length + more : Nat) : Int)) Γ' := by
    rw [lp__law_rules_1_eq]
    refine sFor_inv (fun (pre : List Int) (Γ : Gam g__law_rules) => ∃ rules : List RuleT, Γ = (some script, some heads, some rules, none, ()) ∧ (∀ r ∈ rules, RuleT80 r) ∧ rules.length = pre.length ∧ (∀ r ∈ rules, ∀ p ∈ r.2.1, NameT p → p ∈ heads) ∧ ∀ j, j < pre.length → ∀ h : j < heads.length, heads[j] ∈ rules.map (·.1)) (xs := rng 0 ((heads.length + more : Nat) : Int)) ?_ ?_ ?_
    · have := fRng1_of (n := heads.length + more) (by omega)
      rw [show ((heads.length + more : Nat) : Int) = (heads.length : Int) + script.getD 0 0 / 8 % 6 from by rw [← hmore]; omega] at this ⊢
      have d8 : divOk 8 = true := by decide +kernel
      have h6 : (0 : Int) < 6 := by decide
      clear hN hcat hh hmore hl
      walk_at "go"
    · exact ⟨[], rfl, fun r h => by simp at h, rfl, fun r h => by simp at h, fun j h => by simp at h⟩
    · rintro pre x q Γ he ⟨rules, rfl, k1, k2, k3, k4⟩
      obtain ⟨hp, rfl⟩ := rng_split he
      have hc4 : m__law_cell_at (script, 4 + (pre.length : Int)) = some (script.getD (4 + pre.length) 0) := cell_at_ok script (4 + pre.length)
      obtain ⟨r, hr, g1, g2, g3, g4⟩ := rule80_ok (script.getD (4 + pre.length) 0) pre.length heads hN hpos (by omega)
      have hline : rules.length < sizeLine := lt_line (by omega)
      refine ⟨(some script, some heads, some (rules ++ [r]), some (pre.length : Int), ()), .inl ?_, _, rfl, fun y hy => ?_, by simp [k2], fun y hy p hp hNp => ?_, fun j hj h => ?_⟩
      · unfold lb__law_rules_1
        clear hN k1 k2 k3 k4 g1 g2 g3 g4 he hcat hh hmore hl
        walk_at "go"
      · rcases List.mem_append.mp hy with hy | hy
        · exact k1 y hy
        · rw [List.mem_singleton] at hy
          rw [hy]
          exact g1
      · rcases List.mem_append.mp hy with hy | hy
        · exact k3 y hy p hp hNp
        · rw [List.mem_singleton] at hy
          rw [hy] at hp
          exact g2 p hp hNp
      · rw [List.map_append]
        by_cases hj2 : j < pre.length
        · exact List.mem_append_left _ (k4 j hj2 h)
        · have : j = pre.length := by
            simp at hj
            omega
          subst this
          refine List.mem_append_right _ ?_
          rw [← g4 h]
          simp
  obtain ⟨Γ', e, rules, rfl, k1, k2, k3, k4⟩ := hlp
  rw [rng_len, Int.sub_zero, Int.toNat_natCast] at k2 k4
  refine ⟨heads, rules, ?_, k1, fun z => ?_, by omega, fun r hr p hp hNp => ?_⟩
  · rw [m__law_rules_at]
    unfold b__law_rules
    clear hN k1 k2 k3 k4 hmore hl
    walk_at "go"
  · rw [z] at k2
    simp at k2
    omega
  · have hm := k3 r hr p hp hNp
    obtain ⟨j, hj, ej⟩ := List.getElem_of_mem hm
    rw [← ej]
    exact k4 j (by omega) hj
theorem joinL_app (S : List Nat) (a b : List Nat) : ∀ ps : List (List Nat), ps ≠ [] → TL.joinL S (ps ++ [a, b]) = TL.joinL S ps ++ S ++ a ++ S ++ b
  | [], h => absurd rfl h
  | [p], _ => by simp [TL.joinL]
  | p :: q :: r, _ => by
    have ih := joinL_app S a b (q :: r) (by simp)
    show p ++ (S ++ TL.joinL S ((q :: r) ++ [a, b])) = p ++ (S ++ TL.joinL S (q :: r)) ++ S ++ a ++ S ++ b
    rw [ih]
    simp
theorem tl_inj {x y : Str} (h : x.cps.toList = y.cps.toList) : x = y := by
  cases x
  cases y
  simp at h
  rw [h]
theorem colonS_tl : (Str.ofString " : ").cps.toList = [32, 58, 32] := by decide +kernel
theorem colon_tl : (Str.ofString ":").cps.toList = [58] := by decide +kernel
/-- the law's row is the shown row -/
theorem shown_same (name : Str) (parts : List Str) (n : Str) : Txt.join blankS (name :: Str.ofString "=" :: parts) ++ Str.ofString " : " ++ n = Txt.join blankS ((name :: Str.ofString "=" :: parts) ++ [Str.ofString ":", n]) := by
  refine tl_inj ?_
  rw [cps_cat, cps_cat]
  show TL.tl _ ++ _ ++ _ = TL.tl _
  rw [TL.join_eq, TL.join_eq, TL.tl_join, TL.tl_join, List.map_append, blank_tl, colonS_tl]
  show _ = TL.joinL [32] (_ ++ [TL.tl (Str.ofString ":"), TL.tl n])
  rw [joinL_app _ _ _ _ (by simp), show TL.tl (Str.ofString ":") = [58] from colon_tl]
  simp
/-! ### the law's own text -/
theorem law_shown_ok (g : List RuleT) (h : ∀ r ∈ g, RuleT80 r) (hl : g.length ≤ 1000) : m__law_shown g = some (Txt.join feedS (rowsOf g)) := by
  have hj := (fJoin_ok feed_tl feed_ok.1 (by decide) (rows_clean h hl)).1
  have hlp : ∃ Γ', lp__law_shown_1 (some g, some [], none, none, none, none, ()) = some (.nx Γ') ∧ (fun (pre : List RuleT) (Γ : Gam g__law_shown) => Γ = (none, some (rowsOf pre), none, none, none, none, ())) g Γ' := by
    rw [lp__law_shown_1_eq]
    refine sFor_inv (fun (pre : List RuleT) (Γ : Gam g__law_shown) => Γ = (none, some (rowsOf pre), none, none, none, none, ())) (xs := g) rfl rfl ?_
    rintro pre r q Γ he rfl
    have hm : r ∈ g := by rw [he]; simp
    have hlen : pre.length < g.length := by rw [he]; simp
    have hr := h r hm
    have hjr := (fJoin_ok blank_tl blank_ok.1 (by decide) (tokens_clean hr)).1
    have hline : (rowsOf pre).length < sizeLine := by
      unfold rowsOf
      rw [List.length_map]
      exact lt_line (by omega)
    have hsnoc : rowsOf (pre ++ [r]) = rowsOf pre ++ [Txt.join blankS (tokens r)] := by
      unfold rowsOf
      rw [List.map_append, List.map_singleton]
    rw [hsnoc]
    clear hsnoc h he hm hlen hj
    obtain ⟨name, parts, cost⟩ := r
    refine ⟨(none, some (rowsOf pre ++ [Txt.join blankS (tokens (name, parts, cost))]), some name, some parts, some cost, some (Txt.join blankS (tokens (name, parts, cost))), ()), .inl ?_, rfl⟩
    have hfew : parts.length ≤ 50 := hr.few
    have hc1 : fCatL [name, Str.ofString "="] parts = some (name :: Str.ofString "=" :: parts) := catL_ok (by simp; omega)
    unfold lb__law_shown_1
    by_cases hc : 0 < cost
    · have ht : tokens (name, parts, cost) = (name :: Str.ofString "=" :: parts) ++ [Str.ofString ":", numT cost.toNat] := if_pos hc
      have hs : fStrI cost = some (numT cost.toNat) := strI_big (hr.c0) (hr.c1)
      have hcl := tokens_clean hr
      have hjl := (fJoin_ok blank_tl blank_ok.1 (by decide) hcl).2
      rw [ht] at hjr hcl hjl ⊢
      have hcl2 : Clean 32 100 (name :: Str.ofString "=" :: parts) := ⟨fun p hp => hcl.ok p (List.mem_append_left _ hp), fun p hp => hcl.free p (List.mem_append_left _ hp), by have := hcl.few; simp at this ⊢; omega, fun p hp => hcl.short p (List.mem_append_left _ hp)⟩
      have hj2 := (fJoin_ok blank_tl blank_ok.1 (by decide) hcl2).1
      have hjl2 := (fJoin_ok blank_tl blank_ok.1 (by decide) hcl2).2
      have hsame := shown_same name parts (numT cost.toNat)
      have hnl : (numT cost.toNat).length ≤ 100 := hcl.short _ (by simp)
      have l3 : (Str.ofString " : ").length = 3 := by decide +kernel
      have hq1 : fCat (Txt.join blankS (name :: Str.ofString "=" :: parts)) (Str.ofString " : ") = some (Txt.join blankS (name :: Str.ofString "=" :: parts) ++ Str.ofString " : ") := okIf_true (lenOk_le (by simp at hjl2 ⊢; omega))
      have hq2 : fCat (Txt.join blankS (name :: Str.ofString "=" :: parts) ++ Str.ofString " : ") (numT cost.toNat) = some (Txt.join blankS ((name :: Str.ofString "=" :: parts) ++ [Str.ofString ":", numT cost.toNat])) := by
        rw [← hsame]
        refine okIf_true (lenOk_le ?_)
        rw [Str.length_append]
        simp at hjl2 ⊢
        omega
      clear hsame hjl hjl2 hcl hcl2 hnl l3 hfew hr ht hjr
      generalize Txt.join blankS ((name :: Str.ofString "=" :: parts) ++ [Str.ofString ":", numT cost.toNat]) = W at hq2 ⊢
      generalize Txt.join blankS (name :: Str.ofString "=" :: parts) ++ Str.ofString " : " = W2 at hq1 hq2
      generalize Txt.join blankS (name :: Str.ofString "=" :: parts) = W3 at hq1 hj2
      generalize name :: Str.ofString "=" :: parts = B at hc1 hj2
      walk_at "go"
    · have ht : tokens (name, parts, cost) = name :: Str.ofString "=" :: parts := if_neg hc
      rw [ht] at hjr ⊢
      clear ht hfew hr
      generalize name :: Str.ofString "=" :: parts = B at hc1 hjr ⊢
      walk_at "go"
  obtain ⟨_, hlp, rfl⟩ := hlp
  rw [m__law_shown_at]
  unfold b__law_shown
  clear h hl
  walk_at "go"
theorem law_true (script : List Int) (h : script.length ≤ 63) : m_law script = some true := by
  obtain ⟨heads, rules, hr, k1, k0, kl, kp⟩ := rules80_ok script h
  have h1 := law_shown_ok rules k1 kl
  have h2 := shown_grammar_ok rules k1 kl
  have h3 := read_grammar_ok rules k1 k0 kl kp
  have hnd := fNeD_same (t := .list (Ty.tup (Ty.cons Ty.str (Ty.cons (Ty.vtup Ty.str) (Ty.last Ty.int))))) rfl rules
  have hed := fEqD_same (t := .list (Ty.tup (Ty.cons Ty.str (Ty.cons (Ty.vtup Ty.str) (Ty.last Ty.int))))) rfl rules
  have hlp : ∀ (handed : Option (List RuleT)) (text : Option Str), lp_law_1 ((some script, some rules, handed, some (Txt.join feedS (rowsOf rules)), text, some rules, none, none, none, ()) : Gam g_law) = some (.nx (none, some rules, none, some (Txt.join feedS (rowsOf rules)), none, some rules, none, none, none, ())) := fun handed text => by
    rw [lp_law_1_eq]
    refine sFor_all (xs := rules) rfl rfl fun r _ => ?_
    obtain ⟨name, parts, cost⟩ := r
    refine ⟨(none, some rules, none, some (Txt.join feedS (rowsOf rules)), none, some rules, some name, some parts, some cost, ()), ?_, rfl⟩
    unfold lb_law_1
    clear hr k1 k0 kl kp h1 h2 h3
    walk_at "go"
  clear k1 k0 kl kp
  rw [m_law_at]
  unfold b_law
  generalize Txt.join feedS (rowsOf rules) = W at h1 h2 h3 hlp
  walk_at "go"
end Law

open PySem PySem.W PyProof.Rows
set_option maxRecDepth 100000 in
set_option maxHeartbeats 0 in
theorem PySem.Challenge.cw_readgrove_k80_grammars_written_holds : PySem.Challenge.rw_readgrove_k80_grammars_written.Holds := by
  w_on; o_law; k_head; (case hw => w_witness2)
  k_fill
  refine Law.walk (l := PySem.Challenge.rw_readgrove_k80_grammars_written) Law.law_true rfl rfl (fun w h Y => PySem.W.kIn_of Y) ?F
  case F =>
    intro w mg fa h KX G hmg
    refine' Law.all_mk KX G hmg ?a0 ?l0 ?c0 ?k0 ?a1 ?l1 ?c1 ?k1 ?a2 ?l2 ?c2 ?k2 ?a3 ?l3 ?c3 ?k3 ?a4 ?l4 ?c4 ?k4 ?a5 ?l5 ?c5 ?k5 ?a6 ?l6 ?c6 ?k6 ?a7 ?l7 ?c7 ?k7 ?a8 ?l8 ?c8 ?k8 ?a9 ?l9 ?c9 ?k9 ?a10 ?l10 ?c10 ?k10 ?a11 ?l11 ?c11 ?k11 ?a12 ?l12 ?c12 ?k12 ?a13 ?l13 ?c13 ?k13 ?a14 ?l14 ?c14 ?k14 ?a15 ?l15 ?c15 ?k15 ?a16 ?l16 ?c16 ?k16 ?b_all ?b_bool ?b_int ?b_isinstance ?b_len ?b_list ?b_range ?b_str ?b_tuple ?c_FIGURES ?c_GREAT_grammars ?c_GREAT_texts ?c_LONGEST ?c_MOST_FIGURES ?c_SMALL
    (case a0 => k_is)
    (case l0 => k_is)
    (case c0 => k_is)
    (case k0 => k_is)
    (case a1 => k_is)
    (case l1 => k_is)
    (case c1 => k_is)
    (case k1 => k_is)
    (case a2 => k_is)
    (case l2 => k_is)
    (case c2 => k_is)
    (case k2 => k_is)
    (case a3 => k_is)
    (case l3 => k_is)
    (case c3 => k_is)
    (case k3 => k_is)
    (case a4 => k_is)
    (case l4 => k_is)
    (case c4 => k_is)
    (case k4 => k_is)
    (case a5 => k_is)
    (case l5 => k_is)
    (case c5 => k_is)
    (case k5 => k_is)
    (case a6 => k_is)
    (case l6 => k_is)
    (case c6 => k_is)
    (case k6 => k_is)
    (case a7 => k_is)
    (case l7 => k_is)
    (case c7 => k_is)
    (case k7 => k_is)
    (case a8 => k_is)
    (case l8 => k_is)
    (case c8 => k_is)
    (case k8 => k_is)
    (case a9 => k_is)
    (case l9 => k_is)
    (case c9 => k_is)
    (case k9 => k_is)
    (case a10 => k_is)
    (case l10 => k_is)
    (case c10 => k_is)
    (case k10 => k_is)
    (case a11 => k_is)
    (case l11 => k_is)
    (case c11 => k_is)
    (case k11 => k_is)
    (case a12 => k_is)
    (case l12 => k_is)
    (case c12 => k_is)
    (case k12 => k_is)
    (case a13 => k_is)
    (case l13 => k_is)
    (case c13 => k_is)
    (case k13 => k_is)
    (case a14 => k_is)
    (case l14 => k_is)
    (case c14 => k_is)
    (case k14 => k_is)
    (case a15 => k_is)
    (case l15 => k_is)
    (case c15 => k_is)
    (case k15 => k_is)
    (case a16 => k_is)
    (case l16 => k_is)
    (case c16 => k_is)
    (case k16 => k_is)
    (case b_all => k_is)
    (case b_bool => k_is)
    (case b_int => k_is)
    (case b_isinstance => k_is)
    (case b_len => k_is)
    (case b_list => k_is)
    (case b_range => k_is)
    (case b_str => k_is)
    (case b_tuple => k_is)
    (case c_FIGURES => k_is)
    (case c_GREAT_grammars => k_is)
    (case c_GREAT_texts => k_is)
    (case c_LONGEST => k_is)
    (case c_MOST_FIGURES => k_is)
    (case c_SMALL => k_is)
