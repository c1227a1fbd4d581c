import PyProof.Rows.All
import Wide.All
import OpenK.AllK
import Wide.FinOn
import HandS.ForMost
import KE.SortData
import KE.SortLaws
import KE.KDictCopyH
import KE.KDictSum
import KE.KDictWalk
import HandS.SetKeys
import HandS.SetFor
import HandS.Strs
import KE.KRevSl
import PyProof.ListNew
import KE.KRevIter
import HandS.RevTup
import HandS.Rev
import HandS.DictComp
import HandS.WordsDict
import PyProof.EqAt
import PyProof.NeData
import PyProof.EqLayable
import PyProof.Rows.EqDataRows
import HandS.Iter
import KE.GoesEnum
import KE.GoesNew
import HandS.Wide
import HandS.IsInst
import HandS.Zip
import HandS.Deep
import HandS.NoneIn
import HandS.TupLen
import HandS.TupAny
import KE.DataAny
import HandS.Codes
import PySem.Challenge.RW_readgrove_k68_rows_let_by
set_option Elab.async false
set_option linter.all false
set_option maxRecDepth 100000
/-! VCore: values with owners. Types of data, what stands for them in the heap (shared: read alone; owned: may be changed in place), the locals of a def as one typed row. -/
namespace VV
open PySem L2

/-! ### types of data -/
inductive Ty where
  | non | bool | int | str | any
  | opt (t : Ty) | vtup (t : Ty) | list (t : Ty) | dict (k v : Ty) | own (t : Ty)
  | hl (b : Ty) | tup (b : Ty) | last (a : Ty) | cons (a b : Ty)
  deriving DecidableEq
@[reducible] def den : Ty → Type
  | .non => Unit
  | .bool => Bool
  | .int => Int
  | .str => Str
  | .any => PyData
  | .opt t => Option (den t)
  | .vtup t => List (den t)
  | .list t => List (den t)
  | .dict k v => List (den k × den v)
  | .own t => den t
  | .hl b => den b
  | .tup b => den b
  | .last a => den a
  | .cons a b => den a × den b

/-- no cell that may be changed stands in such data -/
def Ty.frz : Ty → Bool
  | .non => true
  | .bool => true
  | .int => true
  | .str => true
  | .any => true
  | .opt t => t.frz
  | .vtup t => t.frz
  | .list _ => false
  | .dict _ _ => false
  | .own _ => false
  | .hl _ => false
  | .tup b => b.frz
  | .last a => a.frz
  | .cons a b => a.frz && b.frz
def Ty.isOwn : Ty → Bool
  | .own _ => true
  | _ => false
mutual
/-- data without lists and dicts -/
def dv (H : Hp) : PyData → V → Prop
  | .none, v => v = .non
  | .bool b, v => v = .bl b
  | .int i, v => v = .int i
  | .str x, v => v = .str x ∧ PyData.strOk x = true
  | .list _, _ => False
  | .tuple ds, v => ∃ a vs, v = .ref a ∧ H a = some (.tup vs) ∧ dvs H ds vs
  | .dict _, _ => False
def dvs (H : Hp) : List PyData → List V → Prop
  | [], vs => vs = []
  | d :: ds, vs => ∃ v r, vs = v :: r ∧ dv H d v ∧ dvs H ds r
end
/-- a key that is an int or a text -/
def keyS : (k : Ty) → den k → Option Key
  | .int, i => some (.inl i)
  | .str, x => some (.inr x)
  | _, _ => none
def keyRow : (b : Ty) → den b → Option (List Key)
  | .last a, d => (keyS a d).map fun k => [k]
  | .cons a b, d => do
    let k ← keyS a d.1
    let r ← keyRow b d.2
    pure (k :: r)
  | _, _ => none
def keyVs (t : Ty) : List (den t) → Option (List Key)
  | [] => some []
  | d :: r => do
    let k ← keyS t d
    let s ← keyVs t r
    pure (k :: s)
/-- a key that is a tuple of such -/
def keyT : (k : Ty) → den k → Option (List Key)
  | .tup b, d => keyRow b d
  | .vtup t, d => keyVs t d
  | _, _ => none
/-- the keys are tuples -/
def Ty.tk : Ty → Bool
  | .tup _ => true
  | .vtup _ => true
  | _ => false

/-! ### pairs of lists -/
def F2 {α β : Type} (P : α → β → Prop) : List α → List β → Prop
  | [], [] => True
  | v :: vs, d :: ds => P v d ∧ F2 P vs ds
  | _, _ => False
def F3 {α β : Type} (P : α → β → List Addr → Prop) : List α → List β → List Addr → Prop
  | [], [], f => f = []
  | v :: vs, d :: ds, f => ∃ f1 f2, f = f1 ++ f2 ∧ P v d f1 ∧ F3 P vs ds f2
  | _, _, _ => False
theorem F2.imp {α β : Type} {P P' : α → β → Prop} (h : ∀ v d, P v d → P' v d) : ∀ {vs : List α} {ds : List β}, F2 P vs ds → F2 P' vs ds
  | [], [], q => q
  | v :: vs, d :: ds, q => ⟨h v d q.1, F2.imp h q.2⟩
  | [], _ :: _, q => q.elim
  | _ :: _, [], q => q.elim
theorem F2.length {α β : Type} {P : α → β → Prop} : ∀ {vs : List α} {ds : List β}, F2 P vs ds → vs.length = ds.length
  | [], [], _ => rfl
  | _ :: vs, _ :: ds, q => by
    have := F2.length (P := P) q.2
    simp [this]
  | [], _ :: _, q => q.elim
  | _ :: _, [], q => q.elim
theorem F2.append {α β : Type} {P : α → β → Prop} : ∀ {vs : List α} {ds : List β} {ws : List α} {es : List β}, F2 P vs ds → F2 P ws es → F2 P (vs ++ ws) (ds ++ es)
  | [], [], _, _, _, q => q
  | _ :: _, _ :: _, _, _, p, q => ⟨p.1, F2.append p.2 q⟩
  | [], _ :: _, _, _, p, _ => p.elim
  | _ :: _, [], _, _, p, _ => p.elim
theorem F2.get {α β : Type} {P : α → β → Prop} : ∀ {vs : List α} {ds : List β} {i : Nat} {d : β}, F2 P vs ds → ds[i]? = some d → ∃ v, vs[i]? = some v ∧ P v d
  | v :: vs, e :: ds, 0, d, q, h => by
    simp at h
    subst h
    exact ⟨v, rfl, q.1⟩
  | v :: vs, e :: ds, i + 1, d, q, h => by
    obtain ⟨w, h1, h2⟩ := F2.get (i := i) (d := d) q.2 (by simpa using h)
    exact ⟨w, by simpa using h1, h2⟩
  | [], [], _, _, _, h => by simp at h
  | [], _ :: _, _, _, q, _ => q.elim
  | _ :: _, [], _, _, q, _ => q.elim
theorem F2.get' {α β : Type} {P : α → β → Prop} : ∀ {vs : List α} {ds : List β} {i : Nat} {v : α}, F2 P vs ds → vs[i]? = some v → ∃ d, ds[i]? = some d ∧ P v d
  | v :: vs, e :: ds, 0, d, q, h => by
    simp at h
    subst h
    exact ⟨e, rfl, q.1⟩
  | v :: vs, e :: ds, i + 1, d, q, h => by
    obtain ⟨w, h1, h2⟩ := F2.get' (i := i) (v := d) q.2 (by simpa using h)
    exact ⟨w, by simpa using h1, h2⟩
  | [], [], _, _, _, h => by simp at h
  | [], _ :: _, _, _, q, _ => q.elim
  | _ :: _, [], _, _, q, _ => q.elim
theorem F2.take {α β : Type} {P : α → β → Prop} : ∀ {vs : List α} {ds : List β} (n : Nat), F2 P vs ds → F2 P (vs.take n) (ds.take n)
  | _, _, 0, _ => by simp [F2]
  | [], [], _ + 1, _ => by simp [F2]
  | v :: vs, d :: ds, n + 1, q => ⟨q.1, F2.take n q.2⟩
  | [], _ :: _, _, q => q.elim
  | _ :: _, [], _, q => q.elim
theorem F2.drop {α β : Type} {P : α → β → Prop} : ∀ {vs : List α} {ds : List β} (n : Nat), F2 P vs ds → F2 P (vs.drop n) (ds.drop n)
  | _, _, 0, q => by simpa using q
  | [], [], _ + 1, _ => by simp [F2]
  | v :: vs, d :: ds, n + 1, q => by simpa using F2.drop n q.2
  | [], _ :: _, _, q => q.elim
  | _ :: _, [], _, q => q.elim
theorem F2.reverse {α β : Type} {P : α → β → Prop} : ∀ {vs : List α} {ds : List β}, F2 P vs ds → F2 P vs.reverse ds.reverse
  | [], [], q => q
  | v :: vs, d :: ds, q => by
    simp only [List.reverse_cons]
    exact F2.append (F2.reverse q.2) ⟨q.1, trivial⟩
  | [], _ :: _, q => q.elim
  | _ :: _, [], q => q.elim
theorem F3.imp {α β : Type} {P P' : α → β → List Addr → Prop} : ∀ {vs : List α} {ds : List β} {f : List Addr}, (∀ v d g, (∀ a ∈ g, a ∈ f) → P v d g → P' v d g) → F3 P vs ds f → F3 P' vs ds f
  | [], [], _, _, q => q
  | v :: vs, d :: ds, f, h, q => by
    obtain ⟨f1, f2, rfl, p, r⟩ := q
    exact ⟨f1, f2, rfl, h v d f1 (fun a ha => List.mem_append_left _ ha) p, F3.imp (fun v d g hg x => h v d g (fun a ha => List.mem_append_right _ (hg a ha)) x) r⟩
  | [], _ :: _, _, _, q => q.elim
  | _ :: _, [], _, _, q => q.elim
theorem F3.to2 {α β : Type} {P : α → β → List Addr → Prop} {P' : α → β → Prop} : ∀ {vs : List α} {ds : List β} {f : List Addr}, (∀ v d g, (∀ a ∈ g, a ∈ f) → P v d g → P' v d) → F3 P vs ds f → F2 P' vs ds
  | [], [], _, _, _ => True.intro
  | v :: vs, d :: ds, f, h, q => by
    obtain ⟨f1, f2, rfl, p, r⟩ := q
    exact ⟨h v d f1 (fun a ha => List.mem_append_left _ ha) p, F3.to2 (fun v d g hg x => h v d g (fun a ha => List.mem_append_right _ (hg a ha)) x) r⟩
  | [], _ :: _, _, _, q => q.elim
  | _ :: _, [], _, _, q => q.elim
theorem F3.of2 {α β : Type} {P : α → β → List Addr → Prop} {P' : α → β → Prop} (h : ∀ v d, P' v d → P v d []) : ∀ {vs : List α} {ds : List β}, F2 P' vs ds → F3 P vs ds []
  | [], [], _ => rfl
  | v :: vs, d :: ds, q => ⟨[], [], rfl, h v d q.1, F3.of2 h q.2⟩
  | [], _ :: _, q => q.elim
  | _ :: _, [], q => q.elim
theorem F3.nil_of {α β : Type} {P : α → β → List Addr → Prop} (h : ∀ v d f, P v d f → f = []) : ∀ {vs : List α} {ds : List β} {f : List Addr}, F3 P vs ds f → f = []
  | [], [], _, q => q
  | v :: vs, d :: ds, _, q => by
    obtain ⟨f1, f2, rfl, p, r⟩ := q
    rw [h v d f1 p, F3.nil_of h r]
    rfl
  | [], _ :: _, _, q => q.elim
  | _ :: _, [], _, q => q.elim
theorem F3.append {α β : Type} {P : α → β → List Addr → Prop} : ∀ {vs : List α} {ds : List β} {f : List Addr} {ws : List α} {es : List β} {g : List Addr}, F3 P vs ds f → F3 P ws es g → F3 P (vs ++ ws) (ds ++ es) (f ++ g)
  | [], [], _, _, _, _, p, q => by
    have p : _ = _ := p
    subst p
    exact q
  | v :: vs, d :: ds, _, _, _, _, p, q => by
    obtain ⟨f1, f2, rfl, p, r⟩ := p
    exact ⟨f1, f2 ++ _, by rw [List.append_assoc], p, F3.append r q⟩
  | [], _ :: _, _, _, _, _, p, _ => p.elim
  | _ :: _, [], _, _, _, _, p, _ => p.elim
theorem F3.length {α β : Type} {P : α → β → List Addr → Prop} : ∀ {vs : List α} {ds : List β} {f : List Addr}, F3 P vs ds f → vs.length = ds.length
  | [], [], _, _ => rfl
  | _ :: vs, _ :: ds, _, q => by
    obtain ⟨f1, f2, rfl, p, r⟩ := q
    have := F3.length r
    simp [this]
  | [], _ :: _, _, q => q.elim
  | _ :: _, [], _, q => q.elim

/-! ### what stands for data -/
abbrev Reg := Addr → Prop
/-- tuples, and lists and tuples that are known to the object, never change -/
structure Stb (H H' : Hp) : Prop where
  tup : ∀ a xs, H a = some (.tup xs) → H' a = some (.tup xs)
  frl : ∀ a o xs, H a = some (.frz o (.lst xs)) → H' a = some (.frz o (.lst xs))
  frt : ∀ a o xs, H a = some (.frz o (.tup xs)) → H' a = some (.frz o (.tup xs))
theorem Stb.refl (H : Hp) : Stb H H := ⟨fun _ _ h => h, fun _ _ _ h => h, fun _ _ _ h => h⟩
theorem Stb.trans {H H1 H2 : Hp} (a : Stb H H1) (b : Stb H1 H2) : Stb H H2 := ⟨fun c x h => b.tup c x (a.tup c x h), fun c o x h => b.frl c o x (a.frl c o x h), fun c o x h => b.frt c o x (a.frt c o x h)⟩
theorem Stb.of_same {H H' : Hp} (s : Same H H') : Stb H H' := ⟨fun _ _ h => s _ _ h, fun _ _ _ h => s _ _ h, fun _ _ _ h => s _ _ h⟩
theorem Stb.seqT {K : PySem.W.Frag} {H H' : Hp} {a : Addr} {xs : List V} (s : Stb H H') (h : SqT K H a xs) : SqT K H' a xs := by
  rcases h with (h | ⟨o, h⟩) | h
  · exact .inl (.inl (s.tup _ _ h))
  · exact .inl (.inr ⟨o, s.frt _ _ _ h⟩)
  · exact .inr h
/-- a store of a list or a dict at a place of its own -/
def mutO : HO → Bool
  | .tup _ => false
  | .frz _ _ => false
  | _ => true
theorem Stb.upd {H : Hp} {a : Addr} {o u : HO} (h : H a = some o) (m : mutO o = true) : Stb H (upd H a u) := by
  refine ⟨fun b xs e => ?_, fun b q xs e => ?_, fun b q xs e => ?_⟩ <;>
  · by_cases hb : b = a
    · subst hb
      rw [h] at e
      cases e
      cases m
    · rw [upd_ne hb]
      exact e
/-- a dict that is locked is read as the dict -/
def stripD : Option HO → Option HO
  | some (.frz _ (.dK k)) => some (.dK k)
  | some (.frz _ (.dT k)) => some (.dT k)
  | o => o
theorem strip_lst {H : Hp} {a : Addr} {vs : List V} (h : stripD (H a) = some (.lst vs)) : H a = some (.lst vs) := by
  unfold stripD at h
  split at h <;> first | exact h | cases h
theorem strip_dK {H : Hp} {a : Addr} {k : List (Key × V)} (h : stripD (H a) = some (.dK k)) : H a = some (.dK k) ∨ ∃ o, H a = some (.frz o (.dK k)) := by
  unfold stripD at h
  split at h
  · rename_i e; cases h; exact .inr ⟨_, e⟩
  · cases h
  · exact .inl h
theorem strip_dT {H : Hp} {a : Addr} {k : List (List Key × V)} (h : stripD (H a) = some (.dT k)) : H a = some (.dT k) ∨ ∃ o, H a = some (.frz o (.dT k)) := by
  unfold stripD at h
  split at h
  · cases h
  · rename_i e; cases h; exact .inr ⟨_, e⟩
  · exact .inl h
theorem strip_of {H : Hp} {a : Addr} {o : HO} (h : H a = some o) (m : mutO o = true) : stripD (H a) = some o := by
  rw [h]
  cases o <;> first | rfl | cases m
theorem strip_some {x : Option HO} {o : HO} (h : stripD x = some o) : x.isSome = true := by
  cases x with
  | none => cases h
  | some y => rfl
theorem same_new {H : Hp} {a : Addr} {o : HO} (h : H a = none) : Same H (L2.upd H a o) := fun b q e => by
  rw [upd_ne (ne_of_none e h)]
  exact e

/-- a list that is read: a tracked one within R, or one that never changes -/
def LstR (K : PySem.W.Frag) (H : Hp) (R : Reg) (a : Addr) (vs : List V) : Prop :=
  (R a ∧ stripD (H a) = some (.lst vs)) ∨ (∃ o, H a = some (.frz o (.lst vs))) ∨
    ∃ (o : Obj) (its : Array Value) (n : Nat), K.lookup a = some o ∧ o.cls = .type "list" ∧ o.dict = none ∧ o.data = .seq its n ∧ its.size ≤ sizeLine ∧ Vals vs its.toList
section
variable (K : PySem.W.Frag) (H : Hp)
/-- a dict that is read -/
def DicK (R : Reg) (a : Addr) (kvs : List (Key × V)) : Prop := R a ∧ stripD (H a) = some (.dK kvs)
def DicT (R : Reg) (a : Addr) (kvs : List (List Key × V)) : Prop := R a ∧ stripD (H a) = some (.dT kvs)

/-- data that is read alone: all its cells lie in R. first: as a value; second: a row of values (a tuple's items) -/
def rS (R : Reg) : (t : Ty) → (V → den t → Prop) × (List V → den t → Prop)
  | .non => (fun v _ => v = .non, fun _ _ => False)
  | .bool => (fun v d => v = .bl d, fun _ _ => False)
  | .int => (fun v d => v = .int d, fun _ _ => False)
  | .str => (fun v d => v = .str d ∧ PyData.strOk d = true, fun _ _ => False)
  | .any => (fun v d => dv H d v, fun _ _ => False)
  | .opt t => (fun v d => match d with
      | none => v = .non
      | some x => v ≠ .non ∧ (rS R t).1 v x, fun _ _ => False)
  | .vtup t => (fun v d => ∃ a vs, v = .ref a ∧ H a = some (.tup vs) ∧ F2 (rS R t).1 vs d, fun _ _ => False)
  | .list t => (fun v d => ∃ a vs, v = .ref a ∧ LstR K H R a vs ∧ F2 (rS R t).1 vs d, fun _ _ => False)
  | .dict k t => (fun v d => ∃ a, v = .ref a ∧
      ((k.tk = false ∧ ∃ kvs, DicK H R a kvs ∧ F2 (fun p q => keyS k q.1 = some p.1 ∧ (rS R t).1 p.2 q.2) kvs d) ∨
       (k.tk = true ∧ ∃ kvs, DicT H R a kvs ∧ F2 (fun p q => keyT k q.1 = some p.1 ∧ (rS R t).1 p.2 q.2) kvs d)), fun _ _ => False)
  | .own t => rS R t
  | .hl b => (fun v d => ∃ a vs, v = .ref a ∧ LstR K H R a vs ∧ (rS R b).2 vs d, fun _ _ => False)
  | .tup b => (fun v d => ∃ a vs, v = .ref a ∧ H a = some (.tup vs) ∧ (rS R b).2 vs d, fun _ _ => False)
  | .last a => (fun _ _ => False, fun vs d => ∃ v, vs = [v] ∧ (rS R a).1 v d)
  | .cons a b => (fun _ _ => False, fun vs d => ∃ v r, vs = v :: r ∧ (rS R a).1 v d.1 ∧ (rS R b).2 r d.2)

/-- within owned data: a part that is shared, or owned itself -/
def kid {α : Type} (own : Bool) (s : V → α → Prop) (o : V → α → List Addr → Prop) : V → α → List Addr → Prop := fun v d f => o v d f ∨ (own = false ∧ f = [] ∧ s v d)
/-- data that is owned: its cells are just f (its shared parts' lie in L) -/
def rO (L : Reg) : (t : Ty) → (V → den t → List Addr → Prop) × (List V → den t → List Addr → Prop)
  | .non => (fun v _ f => f = [] ∧ v = .non, fun _ _ _ => False)
  | .bool => (fun v d f => f = [] ∧ v = .bl d, fun _ _ _ => False)
  | .int => (fun v d f => f = [] ∧ v = .int d, fun _ _ _ => False)
  | .str => (fun v d f => f = [] ∧ v = .str d ∧ PyData.strOk d = true, fun _ _ _ => False)
  | .any => (fun v d f => f = [] ∧ dv H d v, fun _ _ _ => False)
  | .opt t => (fun v d f => match d with
      | none => f = [] ∧ v = .non
      | some x => v ≠ .non ∧ kid t.isOwn (rS K H L t).1 (rO L t).1 v x f, fun _ _ _ => False)
  | .vtup t => (fun v d f => ∃ a vs, v = .ref a ∧ H a = some (.tup vs) ∧ F3 (kid t.isOwn (rS K H L t).1 (rO L t).1) vs d f, fun _ _ _ => False)
  | .list t => (fun v d f => ∃ a vs g, v = .ref a ∧ f = a :: g ∧ H a = some (.lst vs) ∧ F3 (kid t.isOwn (rS K H L t).1 (rO L t).1) vs d g, fun _ _ _ => False)
  | .dict k t => (fun v d f => ∃ a g, v = .ref a ∧ f = a :: g ∧
      ((k.tk = false ∧ ∃ kvs, H a = some (.dK kvs) ∧ F3 (fun p q g => keyS k q.1 = some p.1 ∧ kid t.isOwn (rS K H L t).1 (rO L t).1 p.2 q.2 g) kvs d g) ∨
       (k.tk = true ∧ ∃ kvs, H a = some (.dT kvs) ∧ F3 (fun p q g => keyT k q.1 = some p.1 ∧ kid t.isOwn (rS K H L t).1 (rO L t).1 p.2 q.2 g) kvs d g)), fun _ _ _ => False)
  | .own t => rO L t
  | .hl b => (fun v d f => ∃ a vs g, v = .ref a ∧ f = a :: g ∧ H a = some (.lst vs) ∧ (rO L b).2 vs d g, fun _ _ _ => False)
  | .tup b => (fun v d f => ∃ a vs, v = .ref a ∧ H a = some (.tup vs) ∧ (rO L b).2 vs d f, fun _ _ _ => False)
  | .last a => (fun _ _ _ => False, fun vs d f => ∃ v, vs = [v] ∧ kid a.isOwn (rS K H L a).1 (rO L a).1 v d f)
  | .cons a b => (fun _ _ _ => False, fun vs d f => ∃ v r f1 f2, vs = v :: r ∧ f = f1 ++ f2 ∧ kid a.isOwn (rS K H L a).1 (rO L a).1 v d.1 f1 ∧ (rO L b).2 r d.2 f2)
end

section
variable {K : PySem.W.Frag} {H H' : Hp} {R R' L L' : Reg}
mutual
theorem dv_mono (s : Stb H H') : ∀ (d : PyData) (v : V), dv H d v → dv H' d v
  | .none, _, h => h
  | .bool _, _, h => h
  | .int _, _, h => h
  | .str _, _, h => h
  | .list _, _, h => h.elim
  | .tuple ds, _, h => by
    obtain ⟨a, vs, e, h1, h2⟩ := h
    exact ⟨a, vs, e, s.tup _ _ h1, dvs_mono s ds vs h2⟩
  | .dict _, _, h => h.elim
theorem dvs_mono (s : Stb H H') : ∀ (ds : List PyData) (vs : List V), dvs H ds vs → dvs H' ds vs
  | [], _, h => h
  | d :: ds, _, h => by
    obtain ⟨v, r, e, h1, h2⟩ := h
    exact ⟨v, r, e, dv_mono s d v h1, dvs_mono s ds r h2⟩
end
mutual
theorem dv_dp : ∀ (d : PyData) (v : V), dv H d v → Dp K H v d
  | .none, _, h => by cases h; exact .non
  | .bool _, _, h => by cases h; exact .bl _
  | .int _, _, h => by cases h; exact .int _
  | .str _, _, h => by obtain ⟨rfl, _⟩ := h; exact .str _
  | .list _, _, h => h.elim
  | .tuple ds, _, h => by
    obtain ⟨a, vs, rfl, h1, h2⟩ := h
    exact .tup (.of h1) (dvs_dp ds vs h2)
  | .dict _, _, h => h.elim
theorem dvs_dp : ∀ (ds : List PyData) (vs : List V), dvs H ds vs → DpAll K H vs ds
  | [], _, h => by cases h; exact .nil
  | d :: ds, _, h => by
    obtain ⟨v, r, rfl, h1, h2⟩ := h
    exact .cons (dv_dp d v h1) (dvs_dp ds r h2)
end
/-- what R's cells hold is held in R' -/
def Cov (H H' : Hp) (R R' : Reg) : Prop := ∀ a o, R a → stripD (H a) = some o → R' a ∧ stripD (H' a) = some o
theorem Cov.refl (H : Hp) (R : Reg) : Cov H H R R := fun _ _ h e => ⟨h, e⟩
theorem Cov.of_same (s : Same H H') (h : ∀ a, R a → (H a).isSome = true → R' a) : Cov H H' R R' := fun a o hr e => by
  refine ⟨h a hr (strip_some e), ?_⟩
  cases q : H a with
  | none => rw [q] at e; cases e
  | some x => rw [s _ _ q, ← q]; exact e
theorem Cov.of_reg (h : ∀ a, R a → (H a).isSome = true → R' a) : Cov H H R R' := Cov.of_same (Same.refl H) h
theorem LstR.mono {a : Addr} {vs : List V} (hc : Cov H H' R R') (hs : Stb H H') (h : LstR K H R a vs) : LstR K H' R' a vs := by
  rcases h with ⟨h1, h2⟩ | ⟨o, h⟩ | h
  · exact .inl (hc _ _ h1 h2)
  · exact .inr (.inl ⟨o, hs.frl _ _ _ h⟩)
  · exact .inr (.inr h)
theorem LstR.seq {a : Addr} {vs : List V} (h : LstR K H R a vs) : SqL K H a vs := by
  rcases h with ⟨h1, h2⟩ | ⟨o, h⟩ | h
  · exact .inl (.inl (strip_lst h2))
  · exact .inl (.inr ⟨o, h⟩)
  · exact .inr h
theorem LstR.of_seq {a : Addr} {vs : List V} (h : SqL K H a vs) : LstR K H (fun a => (H a).isSome = true) a vs := by
  rcases h with (h | ⟨o, h⟩) | h
  · exact .inl ⟨by show (H a).isSome = true; rw [h]; rfl, by rw [h]; rfl⟩
  · exact .inr (.inl ⟨o, h⟩)
  · exact .inr (.inr h)
theorem DicK.mono {a : Addr} {kvs : List (Key × V)} (hc : Cov H H' R R') (h : DicK H R a kvs) : DicK H' R' a kvs := hc _ _ h.1 h.2
theorem DicT.mono {a : Addr} {kvs : List (List Key × V)} (hc : Cov H H' R R') (h : DicT H R a kvs) : DicT H' R' a kvs := hc _ _ h.1 h.2
theorem rS_mono (hc : Cov H H' R R') (hs : Stb H H') : ∀ t : Ty,
    (∀ v d, (rS K H R t).1 v d → (rS K H' R' t).1 v d) ∧ (∀ vs d, (rS K H R t).2 vs d → (rS K H' R' t).2 vs d) := by
  intro t
  induction t with
  | non => exact ⟨fun _ _ h => h, fun _ _ h => h⟩
  | bool => exact ⟨fun _ _ h => h, fun _ _ h => h⟩
  | int => exact ⟨fun _ _ h => h, fun _ _ h => h⟩
  | str => exact ⟨fun _ _ h => h, fun _ _ h => h⟩
  | any => exact ⟨fun v d h => dv_mono hs d v h, fun _ _ h => h⟩
  | opt t ih =>
    refine ⟨fun v d h => ?_, fun _ _ h => h⟩
    cases d with
    | none => exact h
    | some x => exact ⟨h.1, ih.1 v x h.2⟩
  | vtup t ih =>
    refine ⟨fun v d h => ?_, fun _ _ h => h⟩
    obtain ⟨a, vs, e, h1, h2⟩ := h
    exact ⟨a, vs, e, hs.tup _ _ h1, h2.imp ih.1⟩
  | list t ih =>
    refine ⟨fun v d h => ?_, fun _ _ h => h⟩
    obtain ⟨a, vs, e, h1, h2⟩ := h
    exact ⟨a, vs, e, h1.mono hc hs, h2.imp ih.1⟩
  | dict k t _ ih =>
    refine ⟨fun v d h => ?_, fun _ _ h => h⟩
    obtain ⟨a, e, ⟨k1, kvs, h1, h2⟩ | ⟨k1, kvs, h1, h2⟩⟩ := h
    · exact ⟨a, e, .inl ⟨k1, kvs, h1.mono hc, h2.imp fun p q x => ⟨x.1, ih.1 _ _ x.2⟩⟩⟩
    · exact ⟨a, e, .inr ⟨k1, kvs, h1.mono hc, h2.imp fun p q x => ⟨x.1, ih.1 _ _ x.2⟩⟩⟩
  | own t ih => exact ih
  | hl b ih =>
    refine ⟨fun v d h => ?_, fun _ _ h => h⟩
    obtain ⟨a, vs, e, h1, h2⟩ := h
    exact ⟨a, vs, e, h1.mono hc hs, ih.2 _ _ h2⟩
  | tup b ih =>
    refine ⟨fun v d h => ?_, fun _ _ h => h⟩
    obtain ⟨a, vs, e, h1, h2⟩ := h
    exact ⟨a, vs, e, hs.tup _ _ h1, ih.2 _ _ h2⟩
  | last a ih =>
    refine ⟨fun _ _ h => h, fun vs d h => ?_⟩
    obtain ⟨v, e, h⟩ := h
    exact ⟨v, e, ih.1 _ _ h⟩
  | cons a b iha ihb =>
    refine ⟨fun _ _ h => h, fun vs d h => ?_⟩
    obtain ⟨v, r, e, h1, h2⟩ := h
    exact ⟨v, r, e, iha.1 _ _ h1, ihb.2 _ _ h2⟩
theorem kid_mono {α : Type} {own : Bool} {s s' : V → α → Prop} {o o' : V → α → List Addr → Prop} {f : List Addr} {v : V} {d : α} (h1 : s v d → s' v d) (h2 : o v d f → o' v d f) (h : kid own s o v d f) : kid own s' o' v d f := by
  rcases h with h | ⟨h3, h4, h⟩
  · exact .inl (h2 h)
  · exact .inr ⟨h3, h4, h1 h⟩
theorem rO_mono (hc : Cov H H' L L') (hs : Stb H H') : ∀ t : Ty,
    (∀ v d f, (∀ a ∈ f, H' a = H a) → (rO K H L t).1 v d f → (rO K H' L' t).1 v d f) ∧ (∀ vs d f, (∀ a ∈ f, H' a = H a) → (rO K H L t).2 vs d f → (rO K H' L' t).2 vs d f) := by
  intro t
  have sm : ∀ t v d, (rS K H L t).1 v d → (rS K H' L' t).1 v d := fun t => (rS_mono hc hs t).1
  induction t with
  | non => exact ⟨fun _ _ _ _ h => h, fun _ _ _ _ h => h⟩
  | bool => exact ⟨fun _ _ _ _ h => h, fun _ _ _ _ h => h⟩
  | int => exact ⟨fun _ _ _ _ h => h, fun _ _ _ _ h => h⟩
  | str => exact ⟨fun _ _ _ _ h => h, fun _ _ _ _ h => h⟩
  | any => exact ⟨fun v d f _ h => ⟨h.1, dv_mono hs d v h.2⟩, fun _ _ _ _ h => h⟩
  | opt t ih =>
    refine ⟨fun v d f hf h => ?_, fun _ _ _ _ h => h⟩
    cases d with
    | none => exact h
    | some x => exact ⟨h.1, kid_mono (sm t v x) (ih.1 v x f hf) h.2⟩
  | vtup t ih =>
    refine ⟨fun v d f hf h => ?_, fun _ _ _ _ h => h⟩
    obtain ⟨a, vs, e, h1, h2⟩ := h
    exact ⟨a, vs, e, hs.tup _ _ h1, h2.imp fun v d g hg x => kid_mono (sm t v d) (ih.1 v d g fun a ha => hf a (hg a ha)) x⟩
  | list t ih =>
    refine ⟨fun v d f hf h => ?_, fun _ _ _ _ h => h⟩
    obtain ⟨a, vs, g, e, rfl, h1, h2⟩ := h
    exact ⟨a, vs, g, e, rfl, (hf a List.mem_cons_self).trans h1, h2.imp fun v d g' hg x => kid_mono (sm t v d) (ih.1 v d g' fun a ha => hf a (List.mem_cons_of_mem _ (hg a ha))) x⟩
  | dict k t _ ih =>
    refine ⟨fun v d f hf h => ?_, fun _ _ _ _ h => h⟩
    obtain ⟨a, g, e, rfl, ⟨k1, kvs, h1, h2⟩ | ⟨k1, kvs, h1, h2⟩⟩ := h
    · exact ⟨a, g, e, rfl, .inl ⟨k1, kvs, (hf a List.mem_cons_self).trans h1, h2.imp fun p q g' hg x => ⟨x.1, kid_mono (sm t _ _) (ih.1 _ _ g' fun a ha => hf a (List.mem_cons_of_mem _ (hg a ha))) x.2⟩⟩⟩
    · exact ⟨a, g, e, rfl, .inr ⟨k1, kvs, (hf a List.mem_cons_self).trans h1, h2.imp fun p q g' hg x => ⟨x.1, kid_mono (sm t _ _) (ih.1 _ _ g' fun a ha => hf a (List.mem_cons_of_mem _ (hg a ha))) x.2⟩⟩⟩
  | own t ih => exact ih
  | hl b ih =>
    refine ⟨fun v d f hf h => ?_, fun _ _ _ _ h => h⟩
    obtain ⟨a, vs, g, e, rfl, h1, h2⟩ := h
    exact ⟨a, vs, g, e, rfl, (hf a List.mem_cons_self).trans h1, ih.2 _ _ _ (fun a ha => hf a (List.mem_cons_of_mem _ ha)) h2⟩
  | tup b ih =>
    refine ⟨fun v d f hf h => ?_, fun _ _ _ _ h => h⟩
    obtain ⟨a, vs, e, h1, h2⟩ := h
    exact ⟨a, vs, e, hs.tup _ _ h1, ih.2 _ _ _ hf h2⟩
  | last a ih =>
    refine ⟨fun _ _ _ _ h => h, fun vs d f hf h => ?_⟩
    obtain ⟨v, e, h⟩ := h
    exact ⟨v, e, kid_mono (sm a v d) (ih.1 v d f hf) h⟩
  | cons a b iha ihb =>
    refine ⟨fun _ _ _ _ h => h, fun vs d f hf h => ?_⟩
    obtain ⟨v, r, f1, f2, e, rfl, h1, h2⟩ := h
    exact ⟨v, r, f1, f2, e, rfl, kid_mono (sm a v d.1) (iha.1 v d.1 f1 fun a ha => hf a (List.mem_append_left _ ha)) h1, ihb.2 _ _ _ (fun a ha => hf a (List.mem_append_right _ ha)) h2⟩
theorem kid_s {t : Ty} {f : List Addr} {v : V} {d : den t} (hL : ∀ a, L a → R a) (h2 : (rO K H L t).1 v d f → (rS K H R t).1 v d) (h : kid t.isOwn (rS K H L t).1 (rO K H L t).1 v d f) : (rS K H R t).1 v d := by
  rcases h with h | ⟨_, _, h⟩
  · exact h2 h
  · exact (rS_mono (Cov.of_reg fun a h _ => hL a h) (Stb.refl H) t).1 v d h
/-- owned data, from now on shared -/
theorem rO_s (hL : ∀ a, L a → R a) : ∀ t : Ty,
    (∀ v d f, (∀ a ∈ f, R a) → (rO K H L t).1 v d f → (rS K H R t).1 v d) ∧ (∀ vs d f, (∀ a ∈ f, R a) → (rO K H L t).2 vs d f → (rS K H R t).2 vs d) := by
  intro t
  induction t with
  | non => exact ⟨fun _ _ _ _ h => h.2, fun _ _ _ _ h => h⟩
  | bool => exact ⟨fun _ _ _ _ h => h.2, fun _ _ _ _ h => h⟩
  | int => exact ⟨fun _ _ _ _ h => h.2, fun _ _ _ _ h => h⟩
  | str => exact ⟨fun _ _ _ _ h => h.2, fun _ _ _ _ h => h⟩
  | any => exact ⟨fun v d f _ h => h.2, fun _ _ _ _ h => h⟩
  | opt t ih =>
    refine ⟨fun v d f hf h => ?_, fun _ _ _ _ h => h⟩
    cases d with
    | none => exact h.2
    | some x => exact ⟨h.1, kid_s hL (ih.1 v x f hf) h.2⟩
  | vtup t ih =>
    refine ⟨fun v d f hf h => ?_, fun _ _ _ _ h => h⟩
    obtain ⟨a, vs, e, h1, h2⟩ := h
    exact ⟨a, vs, e, h1, h2.to2 fun v d g hg x => kid_s hL (ih.1 v d g fun a ha => hf a (hg a ha)) x⟩
  | list t ih =>
    refine ⟨fun v d f hf h => ?_, fun _ _ _ _ h => h⟩
    obtain ⟨a, vs, g, e, rfl, h1, h2⟩ := h
    exact ⟨a, vs, e, .inl ⟨hf a List.mem_cons_self, strip_of h1 rfl⟩, h2.to2 fun v d g' hg x => kid_s hL (ih.1 v d g' fun a ha => hf a (List.mem_cons_of_mem _ (hg a ha))) x⟩
  | dict k t _ ih =>
    refine ⟨fun v d f hf h => ?_, fun _ _ _ _ h => h⟩
    obtain ⟨a, g, e, rfl, ⟨k1, kvs, h1, h2⟩ | ⟨k1, kvs, h1, h2⟩⟩ := h
    · exact ⟨a, e, .inl ⟨k1, kvs, ⟨hf a List.mem_cons_self, strip_of h1 rfl⟩, h2.to2 fun p q g' hg x => ⟨x.1, kid_s hL (ih.1 _ _ g' fun a ha => hf a (List.mem_cons_of_mem _ (hg a ha))) x.2⟩⟩⟩
    · exact ⟨a, e, .inr ⟨k1, kvs, ⟨hf a List.mem_cons_self, strip_of h1 rfl⟩, h2.to2 fun p q g' hg x => ⟨x.1, kid_s hL (ih.1 _ _ g' fun a ha => hf a (List.mem_cons_of_mem _ (hg a ha))) x.2⟩⟩⟩
  | own t ih => exact ih
  | hl b ih =>
    refine ⟨fun v d f hf h => ?_, fun _ _ _ _ h => h⟩
    obtain ⟨a, vs, g, e, rfl, h1, h2⟩ := h
    exact ⟨a, vs, e, .inl ⟨hf a List.mem_cons_self, strip_of h1 rfl⟩, ih.2 _ _ _ (fun a ha => hf a (List.mem_cons_of_mem _ ha)) h2⟩
  | tup b ih =>
    refine ⟨fun v d f hf h => ?_, fun _ _ _ _ h => h⟩
    obtain ⟨a, vs, e, h1, h2⟩ := h
    exact ⟨a, vs, e, h1, ih.2 _ _ _ hf h2⟩
  | last a ih =>
    refine ⟨fun _ _ _ _ h => h, fun vs d f hf h => ?_⟩
    obtain ⟨v, e, h⟩ := h
    exact ⟨v, e, kid_s hL (ih.1 v d f hf) h⟩
  | cons a b iha ihb =>
    refine ⟨fun _ _ _ _ h => h, fun vs d f hf h => ?_⟩
    obtain ⟨v, r, f1, f2, e, rfl, h1, h2⟩ := h
    exact ⟨v, r, e, kid_s hL (iha.1 v d.1 f1 fun a ha => hf a (List.mem_append_left _ ha)) h1, ihb.2 _ _ _ (fun a ha => hf a (List.mem_append_right _ ha)) h2⟩
/-- data without cells: shared anywhere -/
theorem rS_frz : ∀ t : Ty, t.frz = true → (∀ v d, (rS K H R t).1 v d → (rS K H R' t).1 v d) ∧ (∀ vs d, (rS K H R t).2 vs d → (rS K H R' t).2 vs d) := by
  intro t
  induction t with
  | non => exact fun _ => ⟨fun _ _ h => h, fun _ _ h => h⟩
  | bool => exact fun _ => ⟨fun _ _ h => h, fun _ _ h => h⟩
  | int => exact fun _ => ⟨fun _ _ h => h, fun _ _ h => h⟩
  | str => exact fun _ => ⟨fun _ _ h => h, fun _ _ h => h⟩
  | any => exact fun _ => ⟨fun _ _ h => h, fun _ _ h => h⟩
  | opt t ih =>
    intro q
    refine ⟨fun v d h => ?_, fun _ _ h => h⟩
    cases d with
    | none => exact h
    | some x => exact ⟨h.1, (ih q).1 v x h.2⟩
  | vtup t ih =>
    intro q
    refine ⟨fun v d h => ?_, fun _ _ h => h⟩
    obtain ⟨a, vs, e, h1, h2⟩ := h
    exact ⟨a, vs, e, h1, h2.imp (ih q).1⟩
  | list t ih => exact fun q => absurd q (by simp [Ty.frz])
  | dict k t _ ih => exact fun q => absurd q (by simp [Ty.frz])
  | own t ih => exact fun q => absurd q (by simp [Ty.frz])
  | hl b ih => exact fun q => absurd q (by simp [Ty.frz])
  | tup b ih =>
    intro q
    refine ⟨fun v d h => ?_, fun _ _ h => h⟩
    obtain ⟨a, vs, e, h1, h2⟩ := h
    exact ⟨a, vs, e, h1, (ih q).2 _ _ h2⟩
  | last a ih =>
    intro q
    refine ⟨fun _ _ h => h, fun vs d h => ?_⟩
    obtain ⟨v, e, h⟩ := h
    exact ⟨v, e, (ih q).1 _ _ h⟩
  | cons a b iha ihb =>
    intro q
    simp only [Ty.frz, Bool.and_eq_true] at q
    refine ⟨fun _ _ h => h, fun vs d h => ?_⟩
    obtain ⟨v, r, e, h1, h2⟩ := h
    exact ⟨v, r, e, (iha q.1).1 _ _ h1, (ihb q.2).2 _ _ h2⟩
theorem frz_own {t : Ty} (h : t.frz = true) : t.isOwn = false := by cases t <;> first | rfl | (simp [Ty.frz] at h)
/-- .. and owned is the same as shared -/
theorem rO_frz : ∀ t : Ty, t.frz = true → (∀ v d f, (rO K H L t).1 v d f → f = [] ∧ (rS K H R t).1 v d) ∧ (∀ vs d f, (rO K H L t).2 vs d f → f = [] ∧ (rS K H R t).2 vs d) := by
  intro t
  have kd : ∀ t : Ty, t.frz = true → (∀ v d f, (rO K H L t).1 v d f → f = [] ∧ (rS K H R t).1 v d) → ∀ v d f, kid t.isOwn (rS K H L t).1 (rO K H L t).1 v d f → f = [] ∧ (rS K H R t).1 v d := fun t q ih v d f h => by
    rcases h with h | ⟨_, e, h⟩
    · exact ih v d f h
    · exact ⟨e, (rS_frz t q).1 v d h⟩
  induction t with
  | non => exact fun _ => ⟨fun _ _ _ h => h, fun _ _ _ h => h.elim⟩
  | bool => exact fun _ => ⟨fun _ _ _ h => h, fun _ _ _ h => h.elim⟩
  | int => exact fun _ => ⟨fun _ _ _ h => h, fun _ _ _ h => h.elim⟩
  | str => exact fun _ => ⟨fun _ _ _ h => h, fun _ _ _ h => h.elim⟩
  | any => exact fun _ => ⟨fun _ _ _ h => h, fun _ _ _ h => h.elim⟩
  | opt t ih =>
    intro q
    refine ⟨fun v d f h => ?_, fun _ _ _ h => h.elim⟩
    cases d with
    | none => exact h
    | some x =>
      have := kd t q (ih q).1 v x f h.2
      exact ⟨this.1, h.1, this.2⟩
  | vtup t ih =>
    intro q
    refine ⟨fun v d f h => ?_, fun _ _ _ h => h.elim⟩
    obtain ⟨a, vs, e, h1, h2⟩ := h
    exact ⟨h2.nil_of fun v d f x => (kd t q (ih q).1 v d f x).1, a, vs, e, h1, h2.to2 fun v d g _ x => (kd t q (ih q).1 v d g x).2⟩
  | list t ih => exact fun q => absurd q (by simp [Ty.frz])
  | dict k t _ ih => exact fun q => absurd q (by simp [Ty.frz])
  | own t ih => exact fun q => absurd q (by simp [Ty.frz])
  | hl b ih => exact fun q => absurd q (by simp [Ty.frz])
  | tup b ih =>
    intro q
    refine ⟨fun v d f h => ?_, fun _ _ _ h => h.elim⟩
    obtain ⟨a, vs, e, h1, h2⟩ := h
    have := (ih q).2 _ _ _ h2
    exact ⟨this.1, a, vs, e, h1, this.2⟩
  | last a ih =>
    intro q
    refine ⟨fun _ _ _ h => h.elim, fun vs d f h => ?_⟩
    obtain ⟨v, e, h⟩ := h
    have := kd a q (ih q).1 v d f h
    exact ⟨this.1, v, e, this.2⟩
  | cons a b iha ihb =>
    intro q
    simp only [Ty.frz, Bool.and_eq_true] at q
    refine ⟨fun _ _ _ h => h.elim, fun vs d f h => ?_⟩
    obtain ⟨v, r, f1, f2, e, rfl, h1, h2⟩ := h
    have h1' := kd a q.1 (iha q.1).1 v d.1 f1 h1
    have h2' := (ihb q.2).2 _ _ _ h2
    exact ⟨by rw [h1'.1, h2'.1]; rfl, v, r, e, h1'.2, h2'.2⟩
theorem rS_o : ∀ t : Ty, t.frz = true → (∀ v d, (rS K H R t).1 v d → (rO K H L t).1 v d []) ∧ (∀ vs d, (rS K H R t).2 vs d → (rO K H L t).2 vs d []) := by
  intro t
  induction t with
  | non => exact fun _ => ⟨fun _ _ h => ⟨rfl, h⟩, fun _ _ h => h⟩
  | bool => exact fun _ => ⟨fun _ _ h => ⟨rfl, h⟩, fun _ _ h => h⟩
  | int => exact fun _ => ⟨fun _ _ h => ⟨rfl, h⟩, fun _ _ h => h⟩
  | str => exact fun _ => ⟨fun _ _ h => ⟨rfl, h⟩, fun _ _ h => h⟩
  | any => exact fun _ => ⟨fun _ _ h => ⟨rfl, h⟩, fun _ _ h => h⟩
  | opt t ih =>
    intro q
    refine ⟨fun v d h => ?_, fun _ _ h => h⟩
    cases d with
    | none => exact ⟨rfl, h⟩
    | some x => exact ⟨h.1, .inl ((ih q).1 v x h.2)⟩
  | vtup t ih =>
    intro q
    refine ⟨fun v d h => ?_, fun _ _ h => h⟩
    obtain ⟨a, vs, e, h1, h2⟩ := h
    exact ⟨a, vs, e, h1, F3.of2 (fun v d x => .inl ((ih q).1 v d x)) h2⟩
  | list t ih => exact fun q => absurd q (by simp [Ty.frz])
  | dict k t _ ih => exact fun q => absurd q (by simp [Ty.frz])
  | own t ih => exact fun q => absurd q (by simp [Ty.frz])
  | hl b ih => exact fun q => absurd q (by simp [Ty.frz])
  | tup b ih =>
    intro q
    refine ⟨fun v d h => ?_, fun _ _ h => h⟩
    obtain ⟨a, vs, e, h1, h2⟩ := h
    exact ⟨a, vs, e, h1, (ih q).2 _ _ h2⟩
  | last a ih =>
    intro q
    refine ⟨fun _ _ h => h, fun vs d h => ?_⟩
    obtain ⟨v, e, h⟩ := h
    exact ⟨v, e, .inl ((ih q).1 _ _ h)⟩
  | cons a b iha ihb =>
    intro q
    simp only [Ty.frz, Bool.and_eq_true] at q
    refine ⟨fun _ _ h => h, fun vs d h => ?_⟩
    obtain ⟨v, r, e, h1, h2⟩ := h
    exact ⟨v, r, [], [], e, rfl, .inl ((iha q.1).1 _ _ h1), (ihb q.2).2 _ _ h2⟩
end
end VV

/-! VL1: sorted of data, of a dict's keys. -/
namespace L2
open PySem PySem.Spec PySem.W PyProof.Rows
section
variable {X : Cx}
theorem eachIs_vals {β : Type} {val : β → V} : ∀ {bs : List β} {us : List Value}, Vals (bs.map val) us → EachIs (fun u b => RelV (val b) u) us bs
  | [], us, h => by
    cases h
    exact .nil
  | b :: bs, us, h => by
    cases h with
    | cons r t => exact .cons r (eachIs_vals t)
theorem vals_eachIs {β : Type} {val : β → V} : ∀ {us : List Value} {bs : List β}, EachIs (fun u b => RelV (val b) u) us bs → Vals (bs.map val) us
  | _, _, .nil => .nil
  | _, _, .cons r t => .cons r (vals_eachIs t)
/-- items that can be sorted: of one kind, not too deep -/
structure SortOk {β : Type} (enc : β → PyData) (bs : List β) : Prop where
  al : AllAlike (bs.map enc)
  so : Sortable (bs.map enc)
  dep : ∀ b ∈ bs, (enc b).depth ≤ 60
def rSortD (K : PySem.W.Frag) {β : Type} (val : β → V) (enc : β → PyData) : List V → Hp → VK → Prop := fun xs H Q => ∃ (a : Addr) (bs : List β), xs = [.ref a] ∧ SqL K H a (bs.map val) ∧ DpAll K H (bs.map val) (bs.map enc) ∧ SortOk enc bs ∧
  ∀ p, H p = none → Q (.ref p) (upd H p (.lst ((bs.mergeSort (dataLe false enc)).map val)))
theorem cr_sortD {β : Type} (val : β → V) (enc : β → PyData) (hu : X.A.units + 65 < cLine) : CallR X (.builtin "sorted") (rSortD X.K val enc) := by
  intro pins s σ H xs us Q I r h
  obtain ⟨a, bs, rfl, hs, hd, so, q⟩ := h
  obtain ⟨its, rv, hl, hz⟩ := I.list hs
  rw [Vals.ref1 r]
  have e := eachIs_vals rv
  obtain ⟨as, hr⟩ := Dp.readsAll I _ _ its hd rv
  have er := readsAll_each enc hr
  rw [List.length_map] at hz
  refine sorted_data (prog := X.prog) (w := X.w) (A := X.A) hl.isList e er so.al so.so hz (fun b hb => ?_) fun out ho1 ho2 => ?_
  · have := so.dep b hb
    omega
  · have hv := vals_eachIs ho2
    obtain ⟨ep, hp⟩ := PyProof.Rows.sortedAll_at s.heap its out.toArray
    refine ⟨.ref _, upd H (s.heap.objs.size + 1) (.lst ((bs.mergeSort (dataLe false enc)).map val)), I.laid (t' := s.toks) (fun _ _ => PyProof.Rows.sortedAll_old) (Nat.le_succ _) ⟨?_, out, ep, hv, hp⟩, rfl, q _ (I.hok.fresh (Nat.le_succ _))⟩
    rw [List.length_map, List.length_mergeSort]
    exact hz
/-! ### a dict with tuple keys, raw -/
theorem paired_at {α β : Type} {P : α → β → Prop} : ∀ {xs : List α} {ys : List β}, Paired P xs ys → ∀ {i : Nat} {x : α}, xs[i]? = some x → ∃ y, ys[i]? = some y ∧ P x y
  | _, _, .nil, i, x, e => by simp at e
  | _, _, .cons h t, 0, x, e => by
    have e := Option.some.inj e
    subst e
    exact ⟨_, rfl, h⟩
  | _, _, .cons h t, i + 1, x, e => paired_at t (i := i) (x := x) e
variable {pins : List (Addr × Obj)} {σ : St} {H : Hp} {s : Shared}
theorem Inv.rawT {d : Addr} {kvs : List (List Key × V)} (I : Inv X pins σ H s) (h : Rd H d (.dT kvs)) : (d == sysModules) = false ∧ kvs.length ≤ sizeLine ∧ ∃ es ep, s.heap.DictRaw d es ep ∧ es.size = kvs.length ∧
    ∀ (i : Nat) (k : List Key) (v : V), kvs[i]? = some (k, v) → ∃ (en : DictEntry) (q : Addr), es[i]? = some en ∧ en.key = Value.ref q ∧ H q = some (.tup (k.map kV)) ∧ RelV v en.val := by
  obtain ⟨z, y, xs, r, o, es, ep, h1, h2, h3, h4, _⟩ := dt_rd I.hok h
  refine ⟨y, z, es, ep, ⟨o, h1, h2, h3⟩, ?_, fun i k v e => ?_⟩
  · have a := size_of_entries h4
    have b := Paired.length r
    omega
  · obtain ⟨p, hp, q1, q2, q3⟩ := paired_at r e
    have q := entry_at h4 i
    rw [hp] at q
    exact ⟨_, p.2.1, q, rfl, q2, q3⟩
theorem each_at {β : Type} {R : Value → β → Prop} : ∀ {us : List Value} {bs : List β}, us.length = bs.length → (∀ (i : Nat) (u : Value) (b : β), us[i]? = some u → bs[i]? = some b → R u b) → EachIs R us bs
  | [], [], _, _ => .nil
  | u :: us, b :: bs, hl, h => .cons (h 0 u b rfl rfl) (each_at (by simpa using hl) fun i u b e1 e2 => h (i + 1) u b (by simpa using e1) (by simpa using e2))
  | [], _ :: _, hl, _ => by simp at hl
  | _ :: _, [], hl, _ => by simp at hl
theorem each_len {β : Type} {R : Value → β → Prop} : ∀ {us : List Value} {bs : List β}, EachIs R us bs → us.length = bs.length
  | _, _, .nil => rfl
  | _, _, .cons _ t => by simp [each_len t]
end
end L2

/-! VL2: walks of dicts (keys, values, items), whatever their keys. -/
namespace L2
open PySem PySem.Spec PySem.W PyProof.Rows
def isDct : HO → Bool
  | .dK _ => true
  | .dT _ => true
  | _ => false
def lenOf : HO → Nat
  | .dK kvs => kvs.length
  | .dT kvs => kvs.length
  | _ => 0
/-- the dict's entry at place i -/
def EntOf (H : Hp) (u : HO) (i : Nat) (k v : V) : Prop := match u with
  | .dK kvs => ∃ key, kvs[i]? = some (key, v) ∧ k = kV key
  | .dT kvs => ∃ key q, kvs[i]? = some (key, v) ∧ k = .ref q ∧ H q = some (.tup (key.map kV))
  | _ => False
section
variable {X : Cx} {pins : List (Addr × Obj)} {σ : St} {H : Hp} {s : Shared} {d : Addr} {u : HO}
/-- a locked dict's object -/
theorem Inv.rawF {od : Obj} (I : Inv X pins σ H s) (h : H d = some (.frz od u)) (hu : isDct u = true) : (d == sysModules) = false ∧ s.heap.get? d = some od ∧ od.ExactDict ∧ ∃ es ep, od.data = .dict es ep ∧ es.size = lenOf u ∧ ∀ (i : Nat) (hi : i < es.size), ∃ k v, EntOf H u i k v ∧ RelV k es[i].key ∧ RelV v es[i].val := by
  cases u with
  | dK kvs =>
    obtain ⟨hs, hg, hx, es, ep, vs, hdt, hsz, kv, hm⟩ := I.frzK h
    refine ⟨hs, hg, hx, es, ep, hdt, hsz, fun i hi => ?_⟩
    have hi' : i < kvs.length := by omega
    obtain ⟨w, hw, rw⟩ := kv_get kv (List.getElem?_eq_getElem hi')
    obtain ⟨o2, es2, g1, g2, g3, _, g5, _⟩ := hm
    rw [hg] at g1
    cases g1
    rw [hdt] at g3
    cases g3
    have q := g5.get? (i := i) (e := es[i]) (by rw [Array.getElem?_toList, Array.getElem?_eq_getElem hi]) hw
    exact ⟨kV kvs[i].1, kvs[i].2, ⟨kvs[i].1, List.getElem?_eq_getElem hi', rfl⟩, relV_key q.1, by rw [q.2]; exact rw⟩
  | dT kvs =>
    obtain ⟨hs, hg, hx, es, ep, hdt, hsz, _⟩ := I.frzT h
    obtain ⟨_, _, es2, ep2, raw, hsz2, ent⟩ := I.rawT (.inr ⟨od, h⟩)
    obtain ⟨o2, g1, g2, g3⟩ := raw
    rw [hg] at g1
    cases g1
    rw [hdt] at g3
    cases g3
    refine ⟨hs, hg, hx, es, ep, hdt, hsz, fun i hi => ?_⟩
    have hi' : i < kvs.length := by omega
    obtain ⟨en, q, e1, e2, e3, e4⟩ := ent i kvs[i].1 kvs[i].2 (List.getElem?_eq_getElem hi')
    have e5 : es[i] = en := Option.some.inj ((Array.getElem?_eq_getElem hi).symm.trans e1)
    refine ⟨.ref q, kvs[i].2, ⟨kvs[i].1, q, List.getElem?_eq_getElem hi', rfl, e3⟩, ?_, by rw [e5]; exact e4⟩
    rw [e5, e2]
    rfl
  | _ => cases hu
end
def ItKeys (d : Addr) (od : Obj) (u : HO) : It := ⟨fun i H => H d = some (.frz od u) ∧ i < lenOf u, fun i H x H' => H' = H ∧ ∃ v, EntOf H u i x v, fun i H => H d = some (.frz od u) ∧ lenOf u ≤ i⟩
def ItVals (d : Addr) (od : Obj) (u : HO) : It := ⟨fun i H => H d = some (.frz od u) ∧ i < lenOf u, fun i H x H' => H' = H ∧ ∃ k, EntOf H u i k x, fun i H => H d = some (.frz od u) ∧ lenOf u ≤ i⟩
def ItItems (d : Addr) (od : Obj) (u : HO) : It := ⟨fun i H => H d = some (.frz od u) ∧ i < lenOf u, fun i H x H' => ∃ T k v, EntOf H u i k v ∧ x = .ref T ∧ H T = none ∧ H' = upd H T (.tup [k, v]), fun i H => H d = some (.frz od u) ∧ lenOf u ≤ i⟩
section
variable {P : Program} {w : World} {K : PySem.W.Frag} {tg : Expr} {d : Addr} {od : Obj} {u : HO} {ep : Nat}
theorem turn_keysU (it : Addr) (hu : isDct u = true) (hep : ∃ es, od.data = .dict es ep) : Turn P w K tg (ItKeys d od u) [it] it (fun i h => h.IsKeyIter it d i (lenOf u) ep) where
  mem := List.mem_singleton.mpr rfl
  obj := fun i h ⟨oi, e, _, dd⟩ b hb => ⟨oi, by rw [List.mem_singleton.mp hb]; exact e, fun v z => by rw [dd] at z; cases z⟩
  keep := fun i h h' ⟨oi, e, r⟩ k => ⟨oi, k it (List.mem_singleton.mpr rfl) oi e, r⟩
  item := fun X hP hw hK hc i pins s σ H E I hf st ⟨hd, hi⟩ => by
    subst hP hw hK
    obtain ⟨es0, he0⟩ := hep
    obtain ⟨f0, f1, _, f3, f4, f5⟩ := hf it (List.mem_singleton.mpr rfl)
    obtain ⟨_, hg, hx, es, ep', hdt, hsz, ent⟩ := I.rawF hd hu
    obtain ⟨rfl, rfl⟩ := dict_ep he0 hdt
    have hi2 : i < es.size := by omega
    obtain ⟨k, v, ev, rk, _⟩ := ent i hi2
    rw [← hsz] at st
    refine wpAny_pyNext_keys_item_raw st ⟨od, hg, hx, hdt⟩ hi2 fun h' st' sb => ?_
    obtain ⟨oi, e, c, dd⟩ := id st'
    rw [hsz] at st'
    exact ⟨_, rfl, go_of (s := { s with heap := h' }) e c dd (by decide) ⟨k, H, I.turned (t' := s.toks) (fun b ob hb q => (sb.2 b hb).trans q) f0 f1 f3 f4 f5, rk, ⟨rfl, v, ev⟩, st', fun b hb => (hf b hb).1⟩⟩
  done := fun X hP hw hK hc i pins s σ H E I hf st ⟨hd, hi⟩ => by
    subst hP hw hK
    obtain ⟨es0, he0⟩ := hep
    obtain ⟨f0, f1, _, f3, f4, f5⟩ := hf it (List.mem_singleton.mpr rfl)
    obtain ⟨_, hg, hx, es, ep', hdt, hsz, _⟩ := I.rawF hd hu
    obtain ⟨rfl, rfl⟩ := dict_ep he0 hdt
    rw [← hsz] at st hi
    exact wpAny_pyNext_keys_end_raw (I.ok.hd hc) st ⟨od, hg, hx, hdt⟩ hi fun h' eb => ⟨rfl, I.turned (t' := s.toks) (fun b ob hb q => eb b ob hb q) f0 f1 f3 f4 f5⟩
  self := fun A i s Q E st h => PySem.wpAny_pyIter_keyiter st h
theorem turn_valsU (it : Addr) (hu : isDct u = true) (hep : ∃ es, od.data = .dict es ep) : Turn P w K tg (ItVals d od u) [it] it (fun i h => h.IsValIter it d i (lenOf u) ep) where
  mem := List.mem_singleton.mpr rfl
  obj := fun i h ⟨oi, e, _, dd⟩ b hb => ⟨oi, by rw [List.mem_singleton.mp hb]; exact e, fun v z => by rw [dd] at z; cases z⟩
  keep := fun i h h' ⟨oi, e, r⟩ k => ⟨oi, k it (List.mem_singleton.mpr rfl) oi e, r⟩
  item := fun X hP hw hK hc i pins s σ H E I hf st ⟨hd, hi⟩ => by
    subst hP hw hK
    obtain ⟨es0, he0⟩ := hep
    obtain ⟨f0, f1, _, f3, f4, f5⟩ := hf it (List.mem_singleton.mpr rfl)
    obtain ⟨_, hg, hx, es, ep', hdt, hsz, ent⟩ := I.rawF hd hu
    obtain ⟨rfl, rfl⟩ := dict_ep he0 hdt
    have hi2 : i < es.size := by omega
    obtain ⟨k, v, ev, _, rv⟩ := ent i hi2
    rw [← hsz] at st
    refine wpAny_pyNext_values_item_raw st ⟨od, hg, hx, hdt⟩ hi2 fun h' st' sb => ?_
    obtain ⟨oi, e, c, dd⟩ := id st'
    rw [hsz] at st'
    exact ⟨_, rfl, go_of (s := { s with heap := h' }) e c dd (by decide) ⟨v, H, I.turned (t' := s.toks) (fun b ob hb q => (sb.2 b hb).trans q) f0 f1 f3 f4 f5, rv, ⟨rfl, k, ev⟩, st', fun b hb => (hf b hb).1⟩⟩
  done := fun X hP hw hK hc i pins s σ H E I hf st ⟨hd, hi⟩ => by
    subst hP hw hK
    obtain ⟨es0, he0⟩ := hep
    obtain ⟨f0, f1, _, f3, f4, f5⟩ := hf it (List.mem_singleton.mpr rfl)
    obtain ⟨_, hg, hx, es, ep', hdt, hsz, _⟩ := I.rawF hd hu
    obtain ⟨rfl, rfl⟩ := dict_ep he0 hdt
    rw [← hsz] at st hi
    exact wpAny_pyNext_values_end_raw (I.ok.hd hc) st ⟨od, hg, hx, hdt⟩ hi fun h' eb => ⟨rfl, I.turned (t' := s.toks) (fun b ob hb q => eb b ob hb q) f0 f1 f3 f4 f5⟩
  self := fun A i s Q E st h => PySem.wpAny_pyIter_valiter st h
theorem turn_itemsU {elts : List Expr} {kk : Nat} {tpos : Pos} (it : Addr) (hu : isDct u = true) (hep : ∃ es, od.data = .dict es ep) :
    Turn P w K (.Tuple elts kk tpos) (ItItems d od u) [it] it (fun i h => ∃ ok ov, IsItemIter h it d i (lenOf u) ep ok ov) where
  mem := List.mem_singleton.mpr rfl
  obj := fun i h hh b hb => by
    obtain ⟨ok, ov, e⟩ := hh
    obtain rfl := List.mem_singleton.mp hb
    exact ⟨_, e, fun v z => by cases z⟩
  keep := fun i h h' ⟨ok, ov, e⟩ k => ⟨ok, ov, k it (List.mem_singleton.mpr rfl) _ e⟩
  item := fun X hP hw hK hc i pins s σ H E I hf ⟨ok, ov, st⟩ ⟨hd, hi⟩ => by
    subst hP hw hK
    obtain ⟨es0, he0⟩ := hep
    obtain ⟨_, hg, hx, es, ep', hdt, hsz, ent⟩ := I.rawF hd hu
    obtain ⟨rfl, rfl⟩ := dict_ep he0 hdt
    have hi2 : i < es.size := by omega
    obtain ⟨k, v, ev, rk, rv⟩ := ent i hi2
    have hlt : it < s.heap.objs.size := Heap.lt_size st
    rw [← hsz] at st
    refine wpAny_pyNext_items_item_raw st ⟨od, hg, hx, hdt⟩ hi2 fun h1 ho hT _ hk => ⟨_, rfl, wpAny_letOwnedTupleGo_items (s := { s with heap := h1 }) ho fun h2 he2 sb => ?_⟩
    have hne : s.heap.objs.size ≠ it := Nat.ne_of_gt hlt
    have hT2 : h2.get? s.heap.objs.size = some { cls := .type "tuple", data := .seq #[es[i].key, es[i].val] } := (sb.2 _ hne).trans hT
    have hch : ∀ b, b ∉ [it] → b ≠ it := fun b hb z => hb (List.mem_singleton.mpr z)
    have I2 : Inv X pins σ (upd H s.heap.objs.size (.tup [k, v])) { s with heap := h2 } :=
      I.turnedNew (t' := s.toks) (ch := [it]) (fun b ob hb q => (sb.2 b (hch b hb)).trans (hk b ob (hch b hb) q)) hf (Nat.le_refl _) ⟨by show 2 ≤ sizeLine; decide, [es[i].key, es[i].val], .cons rk (.cons rv .nil), ⟨_, hT2, rfl, _, rfl⟩⟩
    refine ⟨.ref s.heap.objs.size, _, I2, rfl, ⟨_, k, v, ev, rfl, I.hok.fresh (Nat.le_refl _), rfl⟩, ⟨es[i].key, es[i].val, by rw [← hsz]; exact he2⟩, fun b hb => ?_⟩
    rw [List.mem_singleton.mp hb, upd_ne (Nat.ne_of_lt hlt)]
    exact (hf it (List.mem_singleton.mpr rfl)).1
  done := fun X hP hw hK hc i pins s σ H E I hf ⟨ok, ov, st⟩ ⟨hd, hi⟩ => by
    subst hP hw hK
    obtain ⟨es0, he0⟩ := hep
    obtain ⟨f0, f1, _, f3, f4, f5⟩ := hf it (List.mem_singleton.mpr rfl)
    obtain ⟨_, hg, hx, es, ep', hdt, hsz, _⟩ := I.rawF hd hu
    obtain ⟨rfl, rfl⟩ := dict_ep he0 hdt
    rw [← hsz] at st hi
    exact wpAny_pyNext_items_end_raw (I.ok.hd hc) st ⟨od, hg, hx, hdt⟩ hi fun h' eb => ⟨rfl, I.turned (t' := s.toks) (fun b ob hb q => eb b ob hb q) f0 f1 f3 f4 f5⟩
  self := fun A i s Q E ⟨_, _, e⟩ h => wpAny_pyIter_itemiter e h
end
/-! ### what a for walks: a dict that is locked, or is from now on -/
def iDct (J : Addr → Obj → HO → It) (td : TE) : TI := fun σ H R => td σ H fun x H1 => ∃ d u, x = .ref d ∧ isDct u = true ∧ ((∃ od, H1 d = some (.frz od u) ∧ R (J d od u) H1) ∨ (H1 d = some u ∧ ∀ od, R (J d od u) (upd H1 d (.frz od u))))
section
variable {X : Cx} {tg e : Expr} {td : TE} {apos cpos : Pos} {pins : List (Addr × Obj)} {σ : St} {s : Shared}
theorem mut_dct {u : HO} (h : isDct u = true) : Mut (some u) := by cases u <;> first | exact True.intro | cases h
theorem dct_locked {J : Addr → Obj → HO → It} {R : It → Hp → Prop} {H : Hp} {d : Addr} {u : HO} (I : Inv X pins σ H s) (hu : isDct u = true) (h : (∃ od, H d = some (.frz od u) ∧ R (J d od u) H) ∨ (H d = some u ∧ ∀ od, R (J d od u) (upd H d (.frz od u)))) :
    ∃ od H', Inv X pins σ H' s ∧ H' d = some (.frz od u) ∧ R (J d od u) H' := by
  rcases h with ⟨od, h1, h2⟩ | ⟨h1, h2⟩
  · exact ⟨od, H, I, h1, h2⟩
  · obtain ⟨od, I'⟩ := I.lock h1 (mut_dct hu)
    exact ⟨od, _, I', upd_same, h2 od⟩
theorem pi_dkeys (he : PE X e td) : PI X tg e (iDct ItKeys td) := ⟨fun pins s σ H R I h => by
  refine thn (he.run pins s σ H _ I h) fun uv s1 ⟨x, H1, I1, rx, d, u, ex, hu, q⟩ => ?_
  subst ex
  obtain rfl : uv = Value.ref d := rx
  obtain ⟨od, H2, I2, hl, q⟩ := dct_locked I1 hu q
  obtain ⟨hs, hg, hx, es, ep, hdt, hsz, _⟩ := I2.rawF hl hu
  refine wpAny_pyIter_dict_raw hs ⟨od, hg, hx, hdt⟩ (pi_one (tk := s1.toks) I2 _ (turn_keysU _ hu ⟨es, hdt⟩) ⟨_, Heap.get?_push_size _ rfl, rfl, ?_⟩ q)
  rw [hsz] <;> rfl⟩
theorem pi_dvals (he : PE X e td) (hbase : attributeBase e "values" X.env (eval e X.env) = eval e X.env := by rfl) (hline : (apos.endLine == cpos.line) = true := by rfl) : PI X tg (.Call (.Attribute e "values" apos) [] [] cpos) (iDct ItVals td) := ⟨fun pins s σ H R I h => by
  refine wpAny_Call_method (T := "dict") (id := "dict.values") hbase rfl hline F.plainAttrs_dict F.slot_dict_values F.type_dict_values (thn (he.run pins s σ H _ I h) fun uv s1 ⟨x, H1, I1, rx, d, u, ex, hu, q⟩ => ?_)
  subst ex
  obtain rfl : uv = Value.ref d := rx
  obtain ⟨od, H2, I2, hl, q⟩ := dct_locked I1 hu q
  obtain ⟨hs, hg, hx, es, ep, hdt, hsz, _⟩ := I2.rawF hl hu
  have raw : s1.heap.DictRaw d es ep := ⟨od, hg, hx, hdt⟩
  refine ⟨raw.typeIs, fun a ea => by cases ea; exact ⟨od, hg, hx.2.1⟩, ?_⟩
  have I3 : Inv X pins σ H2 { s1 with heap := s1.heap.push { cls := .type "dict_values", data := .fields #[.ref d] } } := I2.kept (t' := s1.toks) fun b ob q => Heap.get?_push_of_some _ q
  have fin : wpAny (model X.prog X.w) X.A (pyIter (.ref s1.heap.objs.size)) (PIE X pins σ tg R) X.xe { s1 with heap := s1.heap.push { cls := .type "dict_values", data := .fields #[.ref d] } } := by
    refine wpAny_pyIter_values_raw (d := d) ⟨_, Heap.get?_push_size _ rfl, rfl, rfl⟩ (raw.at fun o e => Heap.get?_push_of_some _ e) (pi_one (tk := s1.toks) I3 _ (turn_valsU _ hu ⟨es, hdt⟩) ⟨_, Heap.get?_push_size _ rfl, rfl, ?_⟩ q)
    rw [hsz] <;> rfl
  show wpAny _ _ (callWith cpos (.builtin "dict.values") [.ref d] [] []) _ X.xe s1
  exact method_meetsIn F.slot_dict_values F.entry_dict_values rfl (PySem.evalArgs_none ⟨rfl, raw.typeIs, F.args_dict_values_1 _, _, meets_dict_values_raw d hs, ⟨es, ep, raw⟩, fin⟩)⟩
theorem pi_ditems {elts : List Expr} {kk : Nat} {tpos : Pos} (he : PE X e td) (hbase : attributeBase e "items" X.env (eval e X.env) = eval e X.env := by rfl) (hline : (apos.endLine == cpos.line) = true := by rfl) :
    PI X (.Tuple elts kk tpos) (.Call (.Attribute e "items" apos) [] [] cpos) (iDct ItItems td) := ⟨fun pins s σ H R I h => by
  refine wpAny_Call_method (T := "dict") (id := "dict.items") hbase rfl hline F.plainAttrs_dict F.slot_dict_items F.type_dict_items (thn (he.run pins s σ H _ I h) fun uv s1 ⟨x, H1, I1, rx, d, u, ex, hu, q⟩ => ?_)
  subst ex
  obtain rfl : uv = Value.ref d := rx
  obtain ⟨od, H2, I2, hl, q⟩ := dct_locked I1 hu q
  obtain ⟨hs, hg, hx, es, ep, hdt, hsz, _⟩ := I2.rawF hl hu
  have raw : s1.heap.DictRaw d es ep := ⟨od, hg, hx, hdt⟩
  refine ⟨raw.typeIs, fun a ea => by cases ea; exact ⟨od, hg, hx.2.1⟩, ?_⟩
  have I3 : Inv X pins σ H2 { s1 with heap := s1.heap.push { cls := .type "dict_items", data := .fields #[.ref d] } } := I2.kept (t' := s1.toks) fun b ob q => Heap.get?_push_of_some _ q
  have fin : wpAny (model X.prog X.w) X.A (pyIter (.ref s1.heap.objs.size)) (PIE X pins σ (.Tuple elts kk tpos) R) X.xe { s1 with heap := s1.heap.push { cls := .type "dict_items", data := .fields #[.ref d] } } := by
    refine wpAny_pyIter_items_raw (d := d) ⟨_, Heap.get?_push_size _ rfl, rfl, rfl⟩ (raw.at fun o e => Heap.get?_push_of_some _ e) (pi_one (tk := s1.toks) I3 _ (turn_itemsU _ hu ⟨es, hdt⟩) ⟨.none, .none, ?_⟩ q)
    rw [← hsz]
    exact Heap.get?_push_size _ rfl
  show wpAny _ _ (callWith cpos (.builtin "dict.items") [.ref d] [] []) _ X.xe s1
  exact method_meetsIn F.slot_dict_items F.entry_dict_items rfl (PySem.evalArgs_none ⟨rfl, raw.typeIs, F.args_dict_items_1 _, _, meets_dict_items_raw d hs, ⟨es, ep, raw⟩, fin⟩)⟩
end
/-! ### sorted(d), whatever the keys -/
section
variable {X : Cx} {pins : List (Addr × Obj)} {σ : St} {H : Hp} {s : Shared} {d : Addr} {u : HO}
theorem Inv.rawR (I : Inv X pins σ H s) (h : Rd H d u) (hu : isDct u = true) : (d == sysModules) = false ∧ lenOf u ≤ sizeLine ∧ ∃ es ep, s.heap.DictRaw d es ep ∧ es.size = lenOf u ∧ ∀ (i : Nat) (hi : i < es.size), ∃ k v, EntOf H u i k v ∧ RelV k es[i].key ∧ RelV v es[i].val := by
  cases u with
  | dK kvs =>
    obtain ⟨z, lo, vs, kv, dd⟩ := dk_rd I.hok h
    obtain ⟨o, es, ep, g1, g2, g3, g4, g5, g6⟩ := dd
    have l1 := g5.length
    have l2 : kvs.length = vs.length := Paired.length kv
    rw [Array.length_toList] at l1
    refine ⟨lo, z, es, ep, ⟨o, g1, g2, g3⟩, by show _ = kvs.length; omega, fun i hi => ?_⟩
    have hi' : i < kvs.length := by omega
    obtain ⟨w, hw, rw⟩ := kv_get kv (List.getElem?_eq_getElem hi')
    have q := g5.get? (i := i) (e := es[i]) (by rw [Array.getElem?_toList, Array.getElem?_eq_getElem hi]) hw
    exact ⟨kV kvs[i].1, kvs[i].2, ⟨kvs[i].1, List.getElem?_eq_getElem hi', rfl⟩, relV_key q.1, by rw [q.2]; exact rw⟩
  | dT kvs =>
    obtain ⟨lo, z, es, ep, raw, hsz, ent⟩ := I.rawT h
    refine ⟨lo, z, es, ep, raw, hsz, fun i hi => ?_⟩
    have hi' : i < kvs.length := by omega
    obtain ⟨en, q, e1, e2, e3, e4⟩ := ent i kvs[i].1 kvs[i].2 (List.getElem?_eq_getElem hi')
    have e5 : es[i] = en := Option.some.inj ((Array.getElem?_eq_getElem hi).symm.trans e1)
    refine ⟨.ref q, kvs[i].2, ⟨kvs[i].1, q, List.getElem?_eq_getElem hi', rfl, e3⟩, ?_, by rw [e5]; exact e4⟩
    rw [e5, e2]
    rfl
  | _ => cases hu
theorem each_has {β : Type} {R : V → β → Prop} : ∀ {us : List Value} {bs : List β}, EachIs (fun u b => ∃ x, RelV x u ∧ R x b) us bs → ∃ ws, Vals ws us ∧ Paired R ws bs
  | _, _, .nil => ⟨[], .nil, .nil⟩
  | _, _, .cons h t => by
    obtain ⟨x, h1, h2⟩ := h
    obtain ⟨ws, h3, h4⟩ := each_has t
    exact ⟨x :: ws, .cons h1 h3, .cons h2 h4⟩
def rSortDct (K : PySem.W.Frag) {β : Type} (enc : β → PyData) : List V → Hp → VK → Prop := fun xs H Q => ∃ (d : Addr) (u : HO) (bs : List β) (R : V → β → Prop), xs = [.ref d] ∧ Rd H d u ∧ isDct u = true ∧ bs.length = lenOf u ∧ (∀ i x y, EntOf H u i x y → ∃ b, bs[i]? = some b ∧ R x b) ∧ (∀ x b, R x b → Dp K H x (enc b)) ∧ SortOk enc bs ∧
  ∀ p ws, Paired R ws (bs.mergeSort (dataLe false enc)) → H p = none → Q (.ref p) (upd H p (.lst ws))
theorem cr_sortDct {β : Type} (enc : β → PyData) (hc : X.calm = true) (hu : X.A.units + 65 < cLine) : CallR X (.builtin "sorted") (rSortDct X.K enc) := by
  intro pins s σ H xs us Q I r h
  obtain ⟨d, u, bs, R, rfl, hd, hdu, hlen, hent, hdp, so, q⟩ := h
  rw [Vals.ref1 r]
  obtain ⟨hs, hz, es, ep, raw, hsz, ent⟩ := I.rawR hd hdu
  refine Calls.call_function_entry PyProof.Rows.kind_sorted PyProof.Rows.plain_sorted PyProof.Rows.entry_sorted (PyProof.Rows.args_sorted1 _) ?_
  unfold Builtin.«sorted»
  refine wpAny_bind (m := checkCount "sorted" 1 1 _) (wpAny_pure ?_)
  refine wpAny_bind (kdu_collect (A := X.A.in1) (KdlSrc.rawDict hs) (I.ok.hd hc) raw (by omega) fun h' tk acc hk hacc => ?_)
  have hal : acc.toList.length = bs.length := by rw [Array.length_toList, hacc.1, hsz, hlen]
  have I1 : Inv X pins σ H { s with heap := h', toks := tk } := I.kept hk
  have e : EachIs (fun u b => ∃ x, RelV x u ∧ R x b) acc.toList bs := by
    refine each_at hal fun i w b e1 e2 => ?_
    obtain ⟨hi, rfl⟩ := hacc.2 i w (by rw [← Array.getElem?_toList]; exact e1)
    obtain ⟨k, v, g1, g2, _⟩ := ent i hi
    obtain ⟨b', g3, g4⟩ := hent i k v g1
    rw [e2] at g3
    cases g3
    exact ⟨k, g2, g4⟩
  obtain ⟨ws0, v0, p0⟩ := each_has e
  have hdpa : DpAll X.K H ws0 (bs.map enc) := by
    have key : ∀ {ws : List V} {bs : List β}, Paired R ws bs → DpAll X.K H ws (bs.map enc) := by
      intro ws bs hp
      induction hp with
      | nil => exact .nil
      | cons h _ ih => exact .cons (hdp _ _ h) ih
    exact key p0
  obtain ⟨as, hr⟩ := Dp.readsAll I1 _ _ acc.toList hdpa v0
  have er := readsAll_each enc hr
  refine wpAny_bind (wpAny_newList ?_ (by rw [hal, hlen]; exact hz))
  have at0 : (h'.push (seqObj "list" acc.toList.toArray 0)).get? h'.objs.size = some (seqObj "list" acc.toList.toArray 0) := Heap.get?_push_size _ rfl
  have old : ∀ b o, h'.get? b = some o → (sortingHeap (h'.push (seqObj "list" acc.toList.toArray 0)) h'.objs.size acc.toList).get? b = some o := fun b o eb =>
    sortingHeap_old (Nat.ne_of_lt (Heap.lt_size eb)) (Heap.get?_push_of_some _ eb)
  have er2 : EachIs (fun v b => ∃ as, Reads (sortingHeap (h'.push (seqObj "list" acc.toList.toArray 0)) h'.objs.size acc.toList) v (enc b) as) acc.toList bs := er.mono fun _ _ ⟨as, r⟩ => ⟨as, PyProof.Rows.Reads.keeps old r⟩
  show wpAny _ _ _ _ _ { s with heap := h'.push (seqObj "list" acc.toList.toArray 0), toks := tk }
  refine wpAny_bind (wpAny_holding (wpAny_call_entry PyProof.Rows.slot_list_sort ⟨_, at0, rfl⟩ PyProof.Rows.entry_list_sort
    (list_sort_vals (κ := dataKind (sortingHeap (h'.push (seqObj "list" acc.toList.toArray 0)) h'.objs.size acc.toList) (bs.map enc)) at0
      (SortsAt.data (s := { s with heap := sortingHeap (h'.push (seqObj "list" acc.toList.toArray 0)) h'.objs.size acc.toList, toks := tk }) (each_map (R := fun v d => ∃ as, Reads (sortingHeap (h'.push (seqObj "list" acc.toList.toArray 0)) h'.objs.size acc.toList) v d as) enc er2) so.al so.so
        fun d hd => ?_) (by rw [hal, hlen]; exact hz) ⟨_, rfl, ?_⟩)
    (PyProof.Rows.args_list_sort _)))
  · obtain ⟨b, hb, rfl⟩ := List.mem_map.mp hd
    have := so.dep b hb
    show X.A.units + 2 + _ < _
    omega
  · obtain ⟨ws, v1, p1⟩ := each_has (sortVals_data false e er2 so.al)
    have hl1 : ws.length = bs.length := by rw [Paired.length p1, List.length_mergeSort]
    obtain ⟨ep2, hp2⟩ := PyProof.Rows.sortedHeap_at at0 (out := (sortVals (dataKind (sortingHeap (h'.push (seqObj "list" acc.toList.toArray 0)) h'.objs.size acc.toList) (bs.map enc)) false acc.toList acc.toList).toArray)
    refine wpAny_pure ⟨_, rfl, .ref h'.objs.size, upd H h'.objs.size (.lst ws), I1.laid (a := h'.objs.size) (o := .lst ws) (t' := tk) (fun b o eb => ?_) (Nat.le_refl _) ⟨by rw [hl1, hlen]; exact hz, _, _, v1, hp2⟩, rfl, q _ ws p1 (I1.hok.fresh (Nat.le_refl _))⟩
    have hlt := Heap.lt_size eb
    rw [PyProof.Rows.sortedHeap_old (Nat.ne_of_lt hlt) (by rw [Heap.size_push]; exact Nat.lt_succ_of_lt hlt)]
    exact Heap.get?_push_of_some _ eb
end
end L2

/-! VL3: setdefault of tuple keys; sorted(set(ints)). -/
namespace L2
open PySem PySem.Spec PySem.W PyProof.Rows
section
variable {X : Cx} {o e f : Expr} {td ty tx : TE} {apos cpos : Pos}
def tDSetT (td ty tx : TE) : TE := fun σ H Q => td σ H fun x H1 => ∃ a, x = .ref a ∧ IsD H1 a ∧ ty σ H1 fun y H2 => tx σ H2 fun z H3 => ∃ kvs k b, H3 a = some (.dT kvs) ∧ y = .ref b ∧ H3 b = some (.tup (k.map kV)) ∧ kvs.length < sizeLine ∧
  (∀ v, valV kvs k = some v → Q v H3) ∧ (valV kvs k = none → Q z (upd H3 a (.dT (putK kvs k z))))
theorem pe_dsetT (hu : X.A.units + 1 < cLine) (ho : PE X o td) (he : PE X e ty) (hf : PE X f tx) (m : M2 X o "setdefault" apos e f cpos) : PE X (.Call (.Attribute o "setdefault" apos) [e, f] [] cpos) (tDSetT td ty tx) := ⟨fun pins s σ H Q I h => by
  refine wpAny_Call_method m.base m.few m.line PySem.F.plainAttrs_dict PySem.F.slot_dict_setdefault PySem.F.type_dict_setdefault (thn (ho.run pins s σ H _ I h) fun u s1 ⟨x, H1, I1, rx, a, ex, d, q1⟩ => ?_)
  subst ex
  obtain rfl : u = Value.ref a := rx
  obtain ⟨t1, t2, _⟩ := isD_at I1 d
  refine ⟨t1, t2, ?_⟩
  rw [m.trees]
  refine Calls.callWith_builtin rfl (Calls.evalArgs_plain (Calls.spliced_cons (thn (he.run pins s1 σ H1 _ I1 q1) fun iv s2 ⟨y, H2, I2, ry, q2⟩ =>
    Calls.spliced_cons (thn (hf.run pins s2 σ H2 _ I2 q2) fun fv s3 ⟨z, H3, I3, rz, kvs, k, b, ea, ey, eb, hl, q3, q4⟩ => Calls.spliced_nil ?_))))
  subst ey
  obtain rfl : iv = Value.ref b := ry
  obtain ⟨hz, hd, xs, rel, dd⟩ := dt_of I3.hok ea
  have hx : xs.length ≤ sizeLine := by rw [← Paired.length rel]; exact hz
  have rv := rel.val k
  refine call_setdefault_heap (hsz := hx) (tupleKind_room_in1 hu) (key_of I3.hok eb) hd dd (fun p hp => ?_) fun hn h' dd' hs => ?_
  · rw [hp] at rv
    cases hv : valV kvs k with
    | none => rw [hv] at rv; exact rv.elim
    | some v => rw [hv] at rv; exact ⟨v, H3, I3.tok _, rv, q3 v hv⟩
  · rw [hn] at rv
    have hv : valV kvs k = none := by
      cases hv : valV kvs k with
      | none => rfl
      | some v => rw [hv] at rv; exact rv.elim
    have hl2 : (putK kvs k z).length ≤ sizeLine := by have := length_putK kvs k z; omega
    obtain ⟨q, es, ep, hq, h2, h3, h4, _, h5⟩ := dd'
    have new : ObjOk X.prog X.w (upd H3 a (.dT (putK kvs k z))) h' a (.dT (putK kvs k z)) := ⟨hl2, hd, _, (rel.put k eb rz).keeps fun c ys ec => by
      rw [upd_ne (ne_of ec ea (fun z => nomatch z))]
      exact ec, q, es, ep, hq, h2, h3, h4, h5⟩
    exact ⟨z, _, d_write I3 (by rw [ea]; exact True.intro) hs ⟨q, hq⟩ new, rz, q4 hv⟩⟩
end

/-! ### sorted(set(xs)), xs a list of ints -/
/-- a set just made -/
def newSet (w : World) : Obj := ⟨.type "set", none, .set #[] 0 (.fresh 0 0 (!w.params.followText "set-order")), #[]⟩
theorem ne_succ2 {a b : Nat} (h : a < b) : a ≠ b + 1 := by omega
theorem off_two {a b : Nat} (h : b < a) : a ∉ [a + 1, b] := by
  rw [List.mem_cons, List.mem_singleton]
  omega
theorem off_three {a b : Nat} (h : b < a) : b ∉ [a, a + 1] := by
  rw [List.mem_cons, List.mem_singleton]
  omega
section
variable {P : Program} {w : World} {A : Around} {E : Value → Shared → Prop} {s : Shared}
/-- what set(l) leaves: a set of just these ints, all else as it was -/
def SetMade (w : World) (s : Shared) (a : Addr) (ns : List Int) (s' : Shared) : Prop := ∃ (h' : Heap) (tk c : Nat), s' = { s with heap := h', toks := tk } ∧ SetR w h' a (fun j => decide (j ∈ ns)) c ∧ c ≤ ns.length ∧ ∀ b o, s.heap.get? b = some o → h'.get? b = some o
/-- set.__init__(a, l), a set just made at a -/
theorem init_ints {l : Addr} {items : Array Value} {ns : List Int} (hh : A.handled = none) (hl : s.heap.IsList l items) (hit : IntsAre items.toList ns) (hb : ns.length + 1 < scanBound) :
    codeAny (model P w) A (.call (.builtin "set.__init__") ⟨[.ref s.heap.objs.size, .ref l], []⟩) (wants (fun r s2 => r = .none ∧ SetMade w s s.heap.objs.size ns s2) E) { s with heap := s.heap.push (newSet w) } := by
  have size : items.size = ns.length := by rw [← Array.length_toList]; exact IntsAre.length hit
  have at0 : (s.heap.push (newSet w)).get? s.heap.objs.size = some (newSet w) := Heap.get?_push_size _ rfl
  have ty0 : Shared.TypeIs { s with heap := s.heap.push (newSet w) } (.ref s.heap.objs.size) "set" := ⟨_, at0, rfl⟩
  have low : l < s.heap.objs.size := let ⟨_, q, _⟩ := hl; Heap.lt_size q
  refine codeAny_call_builtin F.called_set.init.plain F.entry_set_init (check_set_init_1 ty0 ?_)
  obtain ⟨⟨oc, od, odata, os⟩, g1, g2, n, g3⟩ := id hl
  obtain rfl : oc = .type "list" := g2
  obtain rfl : odata = .seq items n := g3
  have g4 : (s.heap.push (newSet w)).get? l = some ⟨.type "list", od, .seq items n, os⟩ := Heap.get?_push_of_some _ g1
  have hl1 : (s.heap.push (newSet w)).IsList l items := hl.push _
  have sub1 := F.sub_list_set
  have sub2 := F.sub_list_frozenset
  have ned : (Value.type "list" == Value.type "dict") = false := rfl
  unfold Builtin.«set.__init__» noKeywords Builtin.Frozenset.updateFrom
  generalize hPI : pyIter = PI
  wp_walk
  subst hPI
  refine wpAny_pyIter_list hl1 (wpAny_bind (wpAny_runValue ?_))
  have apart : l ≠ (s.heap.push (newSet w)).objs.size := by rw [Heap.size_push]; exact ne_succ2 low
  have calm : A.in1.in1.handled = none := by simp [hh]
  have vals : ∀ (i : Nat) (v : Value), items[i]? = some v → ∃ k t, ns[i]? = some k ∧ v = .int k t := fun i v hv => by
    have hi : i < ns.length := size ▸ (Array.getElem?_eq_some_iff.mp hv).1
    obtain ⟨t, et⟩ := PyProof.Rows.IntsAre.int_at hit i v ((Array.getElem?_toList).trans hv)
    exact ⟨ns[i], t, List.getElem?_eq_getElem hi, by rw [et, List.getD_eq_getElem?_getD, List.getElem?_eq_getElem hi]; rfl⟩
  have off : s.heap.objs.size ∉ [(s.heap.push (newSet w)).objs.size, l] := by
    rw [Heap.size_push]
    exact off_two low
  refine set_update_ints ((Walks.list calm _ l apart items).toS) s.heap.objs.size off ns size hb vals (items.size - 0) 0 _ (by omega) (Nat.zero_le _) ?_ ⟨0, Nat.le_refl 0, ?_⟩ fun s' c mv hc hR => ?_
  · exact ⟨⟨_, Heap.get?_push_size _ rfl, rfl, rfl⟩, hl1.push _⟩
  · exact setR_new_at (Heap.get?_push_of_some _ at0)
  obtain ⟨h', g', d', tk', os'⟩ := s'
  obtain rfl : g' = s.gens := mv.gens
  obtain rfl : d' = s.drawn := mv.drawn
  obtain rfl : os' = s.os := mv.os
  show wpAny _ _ _ _ _ _
  refine wpAny_pure ?_
  show wpAny _ _ (ret Value.none) _ _ _
  refine wpAny_pure ⟨rfl, h', tk', c, rfl, hR, size ▸ hc, fun b o q => mv.heap b o (fun z => ?_) (Heap.get?_push_of_some _ (Heap.get?_push_of_some _ q))⟩
  rw [Heap.size_push] at z
  exact off_three (Heap.lt_size q) z
theorem call_set_ints {l : Addr} {items : Array Value} {ns : List Int} {Q : Value → Shared → Prop} (hh : A.handled = none) (hl : s.heap.IsList l items) (hit : IntsAre items.toList ns) (hb : ns.length + 1 < scanBound)
    (h : ∀ s', SetMade w s s.heap.objs.size ns s' → Q (.ref s.heap.objs.size) s') : wpAny (model P w) A (call (.type "set") [.ref l]) Q E s := by
  obtain ⟨c, tl, mro⟩ := F.called_set.mro
  have made := F.called_set.made
  have sub := F.called_set.sub
  have notT := F.called_set.notType
  have can := F.called_set.canCreate
  have tcall := F.typeCall_set_1 (.ref l)
  refine wpAny_call (codeAny_of_tree ?_)
  show wpAny _ _ (callAny (.type "set") _) _ _ _
  refine wpAny_pure ⟨Code.quiet_builtin _ (by decide +kernel), codeAny_builtin F.entry_type_call ?_⟩
  rw [Around.under_plain (weight_type_call_type "set" [.ref l] []) rfl]
  repeat (any_goals (first | assumption | wp_step))
  refine codeAny_mono (code_set_led1 (.ref l) (E := E) (Q₁ := fun x s1 => x = .ref s.heap.objs.size ∧ s1 = { s with heap := s.heap.push (newSet w) }) ⟨rfl, rfl⟩) fun r s1 hr => ?_
  rcases r with e | fl
  · exact hr
  cases fl with
  | ret x =>
    obtain ⟨rfl, rfl⟩ := hr
    have ty0 : Shared.TypeIs { s with heap := s.heap.push (newSet w) } (.ref s.heap.objs.size) "set" := ⟨_, Heap.get?_push_size _ rfl, rfl⟩
    have look := F.called_set.init.lookup
    have bind := F.called_set.init.bind (.ref s.heap.objs.size)
    repeat (any_goals (first | assumption | wp_step))
    refine codeAny_mono (init_ints (E := E) hh hl hit hb) fun r2 s2 hr2 => ?_
    rcases r2 with e | fl2
    · exact hr2
    cases fl2 with
    | ret r3 =>
      obtain ⟨rfl, mk⟩ := hr2
      repeat (any_goals (first | assumption | wp_step))
      exact h _ mk
    | _ => exact hr2.elim
  | _ => exact hr.elim
end
section
variable {X : Cx}
def rSetI (K : PySem.W.Frag) (w : World) : List V → Hp → VK → Prop := fun xs H Q => ∃ (l : Addr) (ns : List Int), xs = [V.ref l] ∧ SqL K H l (ns.map V.int) ∧ ns.length ≤ 1000 ∧ ∀ a c, H a = none → c ≤ ns.length → Q (.ref a) (upd H a (SetO w a (fun j => decide (j ∈ ns)) c))
theorem cr_setI (hc : X.calm = true) : CallR X (.type "set") (rSetI X.K X.w) := by
  intro pins s σ H xs us Q I r h
  obtain ⟨l, ns, rfl, hs, hz, q⟩ := h
  obtain ⟨its, rv, hl, _⟩ := I.list hs
  rw [Vals.ref1 r]
  refine call_set_ints (I.ok.hd hc) hl.isList (by simpa using rv.ints) (by unfold scanBound; omega) fun s' mk => ?_
  obtain ⟨h', tk, c, rfl, R, hcn, hk⟩ := mk
  exact ⟨.ref s.heap.objs.size, _, I.laid (t' := tk) hk (Nat.le_refl _) (setO_new R), rfl, q _ c (I.hok.fresh (Nat.le_refl _)) hcn⟩
end
end L2

/-! VL4: chains of three comparisons; xs[::-1]. -/
namespace L2
open PySem PySem.Spec PySem.W PyProof.Rows
section
variable {X : Cx} {a b c d e : Expr} {ta tb tc td te : TE} {pos p2 : Pos}
/-- a op1 b op2 c op3 d -/
def tChain3 (r r' r2 : R2) (ta tb tc td : TE) : TE := fun σ H Q => ta σ H fun x H1 => tb σ H1 fun y H2 => r x y H2 fun z H3 => ∃ k, z = .bl k ∧
  (if k = true then tc σ H3 fun w' H4 => r' y w' H4 fun z2 H5 => ∃ k2, z2 = .bl k2 ∧ (if k2 = true then td σ H5 fun w2 H6 => r2 w' w2 H6 fun z3 H7 => ∃ k3, z3 = .bl k3 ∧ Q (.bl k3) H7 else Q (.bl false) H5) else Q (.bl false) H3)
theorem pe_chain3 {op op' op2 : CmpOp} {r r' r2 : R2} (ho : OpR X (compareOp op) r) (ho' : OpR X (compareOp op') r') (ho2 : OpR X (compareOp op2) r2) (ha : PE X a ta) (hb : PE X b tb) (hc : PE X c tc) (hd : PE X d td)
    (hm : lastMarks [op, op', op2] [b, c, d] = false := by with_unfolding_all rfl) : PE X (.Compare a [op, op', op2] [b, c, d] pos) (tChain3 r r' r2 ta tb tc td) := by
  constructor
  intro pins s σ H Q I h
  refine Compare_chain (thn (ha.run pins s σ H _ I h) fun v s1 q => ?_) hm
  obtain ⟨x, H1, I1, r1, q1⟩ := q
  refine chain_link (thn (hb.run pins s1 σ H1 _ I1 q1) fun u s2 q => ?_)
  obtain ⟨y, H2, I2, r2', q2⟩ := q
  refine thn (ho pins s2 σ H2 x y v u _ I2 r1 r2' q2) fun g s3 q => ?_
  obtain ⟨z, H3, I3, r3, k, ek, q3⟩ := q
  subst ek
  cases r3
  refine wpAny_truthy_bool ?_
  cases k with
  | false => exact ite_ff ⟨.bl false, H3, I3, rfl, q3⟩
  | true =>
    refine ite_tt (chain_link (thn (hc.run pins s3 σ H3 _ I3 q3) fun w' s4 q => ?_))
    obtain ⟨z', H4, I4, r4, q4⟩ := q
    refine thn (ho' pins s4 σ H4 y z' u w' _ I4 r2' r4 q4) fun g2 s5 q => ?_
    obtain ⟨z2, H5, I5, r5, k2, ek2, q5⟩ := q
    subst ek2
    cases r5
    refine wpAny_truthy_bool ?_
    cases k2 with
    | false => exact ite_ff ⟨.bl false, H5, I5, rfl, q5⟩
    | true =>
      refine ite_tt (chain_last (thn (hd.run pins s5 σ H5 _ I5 q5) fun w2 s6 q => ?_))
      obtain ⟨z3, H6, I6, r6, q6⟩ := q
      refine thn (ho2 pins s6 σ H6 z' z3 w' w2 _ I6 r4 r6 q6) fun g3 s7 q => ?_
      obtain ⟨z4, H7, I7, r7, k3, ek3, q7⟩ := q
      subst ek3
      exact ⟨.bl k3, H7, I7, r7, q7⟩
theorem pt_chain3 {op op' op2 : CmpOp} {r r' r2 : R2} (ho : OpR X (compareOp op) r) (ho' : OpR X (compareOp op') r') (ho2 : OpR X (compareOp op2) r2) (ha : PE X a ta) (hb : PE X b tb) (hc : PE X c tc) (hd : PE X d td)
    (hm : lastMarks [op, op', op2] [b, c, d] = false := by with_unfolding_all rfl) : PT X (.Compare a [op, op', op2] [b, c, d] pos) (tTest (tChain3 r r' r2 ta tb tc td)) := by
  constructor
  intro pins s σ H Q I h
  refine isTrue_chain (thn (ha.run pins s σ H _ I h) fun v s1 q => ?_) hm
  obtain ⟨x, H1, I1, r1, q1⟩ := q
  refine test_link (thn (hb.run pins s1 σ H1 _ I1 q1) fun u s2 q => ?_)
  obtain ⟨y, H2, I2, r2', q2⟩ := q
  refine thn (ho pins s2 σ H2 x y v u _ I2 r1 r2' q2) fun g s3 q => ?_
  obtain ⟨z, H3, I3, r3, k, ek, q3⟩ := q
  subst ek
  cases r3
  refine wpAny_truthy_bool ?_
  cases k with
  | false =>
    obtain ⟨k', e', q'⟩ := q3
    cases e'
    exact ite_ff ⟨H3, I3, q'⟩
  | true =>
    refine ite_tt (test_link (thn (hc.run pins s3 σ H3 _ I3 q3) fun w' s4 q => ?_))
    obtain ⟨z', H4, I4, r4, q4⟩ := q
    refine thn (ho' pins s4 σ H4 y z' u w' _ I4 r2' r4 q4) fun g2 s5 q => ?_
    obtain ⟨z2, H5, I5, r5, k2, ek2, q5⟩ := q
    subst ek2
    cases r5
    refine wpAny_truthy_bool ?_
    cases k2 with
    | false =>
      obtain ⟨k', e', q'⟩ := q5
      cases e'
      exact ite_ff ⟨H5, I5, q'⟩
    | true =>
      refine ite_tt (test_last (thn (hd.run pins s5 σ H5 _ I5 q5) fun w2 s6 q => ?_))
      obtain ⟨z3, H6, I6, r6, q6⟩ := q
      refine thn (ho2 pins s6 σ H6 z' z3 w' w2 _ I6 r4 r6 q6) fun g3 s7 q => ?_
      obtain ⟨z4, H7, I7, r7, k3, ek3, q7⟩ := q
      subst ek3
      cases r7
      obtain ⟨k', e', q'⟩ := q7
      cases e'
      exact wpAny_truthy_bool ⟨H7, I7, q'⟩
/-- xs[::-1], a list: a new one -/
def tRevSl (K : PySem.W.Frag) (te ts : TE) : TE := fun σ H Q => te σ H fun x H1 => ts σ H1 fun y H2 => y = .int (-1) ∧ ∃ a xs, x = .ref a ∧ SqL K H2 a xs ∧ ∀ p, H2 p = none → Q (.ref p) (upd H2 p (.lst xs.reverse))
theorem pe_revSl {ts : TE} (he : PE X e te) {st : Expr} (hs : PE X st ts) : PE X (.Subscript e (.Slice none none (some st) p2) pos) (tRevSl X.K te ts) := by
  constructor
  intro pins s σ H Q I h
  refine Subscript_ (thn (he.run pins s σ H _ I h) fun v s1 q => ?_)
  obtain ⟨x, H1, I1, r1, q1⟩ := q
  refine wpAny_Slice ?_
  rw [evalPart_none]
  refine wpAny_pure (wpAny_pure ?_)
  rw [evalPart_some]
  refine thn (hs.run pins s1 σ H1 _ I1 q1) fun u s2 q => ?_
  obtain ⟨y, H2, I2, r2, ey, a, xs, ex, hx, q2⟩ := q
  subst ey
  obtain ⟨t, rfl⟩ := r2
  subst ex
  cases r1
  have I3 : Inv X pins σ H2 { s2 with heap := s2.heap.push { cls := .type "slice", data := .fields #[.none, .none, .int (-1) t] } } := I2.kept (t' := s2.toks) fun b ob q => Heap.get?_push_of_some _ q
  obtain ⟨its', rv', ht', hl'⟩ := I3.list hx
  have hlen' := rv'.length
  show wpAny (model X.prog X.w) X.A (subscriptTail e (.Slice none none (some st) p2) (.ref a) (.ref s2.heap.objs.size)) (EP X pins σ Q) X.xe { s2 with heap := s2.heap.push { cls := .type "slice", data := .fields #[.none, .none, .int (-1) t] } }
  refine tail_any (ops := [.ref a, .ref s2.heap.objs.size]) ht'.isList.typeIs slot_list_getitem.lookup ?_ (by with_unfolding_all rfl)
  refine wpAny_getItem_list_slice ht'.isList (Heap.IsSliceOf.new ..) .none .none (.int (-1) t) (by decide) ?_ (by rw [List.size_toArray]; omega)
  rw [krv_pick]
  refine ⟨.ref _, _, I3.laid (o := .lst xs.reverse) (fun b ob q => Heap.get?_push_of_some _ q) (Nat.le_refl _) ?_, rfl, q2 _ (I3.hok.fresh (Nat.le_refl _))⟩
  exact ⟨by rw [List.length_reverse]; omega, _, 0, rv'.reverse, Heap.get?_push_size _ rfl⟩
end
end L2

set_option maxHeartbeats 1000000
/-! VL5: list(reversed(x)), x a list or a tuple. -/
namespace RT
open PySem PySem.Spec PyProof.Rows
section
variable {prog : Program} {w : World} {A : Around} {E : Value → Shared → Prop} {s : Shared}
/-- the hint of a reversed tuple -/
theorem vh_len : typeLookup (.type "reversed") "__len__" = pure none := by rw [typeLookup_type, builtinLookup_eq_fast]; kernel_rfl
theorem vh_slot : Slot "reversed" "__length_hint__" "reversed.__length_hint__" :=
  .of (n := "__length_hint__") (owner := "reversed")
    (by rw [typeLookup_type, builtinLookup_eq_fast]; kernel_rfl) (by decide +kernel) (by decide +kernel)
    (by decide +kernel) (by first | exact .inl (by decide +kernel) | exact .inr (by decide +kernel))
    (by rw [isSubtype_type]; kernel_rfl)
theorem vh_entry : entryFor table "reversed.__length_hint__" = some Builtin.«reversed.__length_hint__» := entryFor_of_tree (by kernel_rfl)
theorem vh_args (a : Value) : argsOk "reversed.__length_hint__" ⟨[a], []⟩ := by
  unfold argsOk
  rw [signature?_of (id := "reversed.__length_hint__") (o := ['d', 'e', 's', 'r', 'e', 'v', 'e', 'r']) (n := ['_', '_', 't', 'n', 'i', 'h', '_', 'h', 't', 'g', 'n', 'e', 'l', '_', '_']) (by kernel_rfl) owner_rt]
  kernel_rfl
theorem vh_call {it t : Addr} {items : Array Value} {i : Int} {Q : Value → Shared → Prop} (hit : IsRt s.heap it t i) (ht : IsTup s.heap t items) (hz : (items.size : Int) < 2 ^ 63)
    (h0 : 0 ≤ i + 1) (h1 : i + 1 ≤ items.size) (h : ∀ tk tk', Q (.int (i + 1) tk) { s with toks := tk' }) :
    wpAny (model prog w) A (call (.builtin "reversed.__length_hint__") [.ref it]) Q E s := by
  obtain ⟨o, ho, hc, hd⟩ := id hit
  refine wpAny_call_entry vh_slot hit.typeIs vh_entry ?_ (vh_args _)
  unfold Builtin.«reversed.__length_hint__»
  refine wpAny_bind (wpAny_of_eq (a := Value.ref it) rfl ?_)
  refine wpAny_bind (wpAny_field ho hd (x := .ref t) rfl ?_)
  rw [show (Value.ref t == Value.none) = false from rfl]
  refine wpAny_bind (len_tuple ht hz ?_)
  refine wpAny_bind (wpAny_of_eq (a := some ((items.size : Nat) : Int)) rfl ?_)
  refine wpAny_bind (wpAny_field (s := { s with toks := s.toks + 1 + 1 }) ho hd (x := rawInt i) rfl ?_)
  show wpAny _ _ (if _ then _ else _) _ _ _
  rw [if_neg (by omega)]
  refine wpAny_bind (wpAny_mkInt ?_)
  exact wpAny_pure ⟨_, rfl, h _ _⟩
theorem vh_rt {it t : Addr} {items : Array Value} {i : Int} {Q : Bool → Shared → Prop} (hit : IsRt s.heap it t i) (ht : IsTup s.heap t items) (hz : (items.size : Int) ≤ sizeLine)
    (h0 : 0 ≤ i + 1) (h1 : i + 1 ≤ items.size) (h : ∀ k tk, Q k { s with toks := tk }) :
    wpAny (model prog w) A (Builtin.List.listLengthHint (.ref it)) Q E s := by
  have hT : s.TypeIs (.ref it) "reversed" := hit.typeIs
  have hl : (sizeLine : Int) < 2 ^ 62 := by rw [sizeLine_eq]; decide
  unfold Builtin.List.listLengthHint
  refine wpAny_bind (wpAny_specialOf hT vh_len ?_)
  show wpAny _ _ (specialOf (Value.ref it) (Str.ofString "__length_hint__") >>= _) _ _ _
  refine wpAny_bind (wpAny_specialOf hT vh_slot.lookup ?_)
  generalize eg : ("reversed.__length_hint__" : String) = g
  wp_delta
  rw [show splitId g = some ("reversed", "__length_hint__") from by rw [← eg]; decide +kernel]
  subst eg
  refine wpAny_bind (wpAny_isInstance (T := "reversed") (b := true) hT F.sub_reversed_self ?_)
  try dsimp only
  rw [if_neg (by decide)]
  refine wpAny_ite_split (fun z => absurd z (by decide +kernel)) (fun _ => ?_)
  refine wpAny_bind (wpAny_rule ?_)
  refine wpAny_bind (wpAny_of_eq (a := (Value.builtin "reversed.__length_hint__", [Value.ref it])) (by first | rfl | kernel_rfl) ?_)
  refine wpAny_bind (wpAny_attempt (vh_call hit ht (by omega) h0 h1 fun tk tk' => ?_))
  try dsimp only
  refine wpAny_bind (wpAny_of_eq (a := some (i + 1)) rfl ?_)
  have a1 : Builtin.List.listFitsIndex (i + 1) = true := by
    unfold Builtin.List.listFitsIndex
    rw [Bool.and_eq_true, decide_eq_true_eq, decide_eq_true_eq]
    omega
  have a2 : Builtin.List.listTooLong (i + 1).toNat = false := by
    unfold Builtin.List.listTooLong
    rw [decide_eq_false_iff_not]
    omega
  try dsimp only
  rw [if_neg (by rw [a1]; decide), if_neg (by omega), if_neg (by rw [a2]; decide)]
  exact wpAny_pure (h _ _)
/-- the hint of a reversed list -/
theorem vh_lri {it l : Addr} {i : Int} {Q : Bool → Shared → Prop} (hit : s.heap.IsRevIter it l i) (h : ∀ k tk, Q k { s with toks := tk }) :
    wpAny (model prog w) A (Builtin.List.listLengthHint (.ref it)) Q E s := by
  have hT : s.TypeIs (.ref it) "list_reverseiterator" := Heap.IsRevIter.typeIs hit
  unfold Builtin.List.listLengthHint
  refine wpAny_bind (wpAny_specialOf hT nolen_lri ?_)
  show wpAny _ _ (specialOf (Value.ref it) (Str.ofString "__length_hint__") >>= _) _ _ _
  refine wpAny_bind (wpAny_specialOf hT hint_lri ?_)
  generalize eg : ("list_reverseiterator.__length_hint__" : String) = g
  wp_delta
  rw [show splitId g = some ("list_reverseiterator", "__length_hint__") from by rw [← eg]; decide +kernel]
  subst eg
  refine wpAny_bind (wpAny_isInstance (T := "list_reverseiterator") (b := true) hT (by rw [isSubtype_type]; kernel_rfl) ?_)
  exact wpAny_pure (h false s.toks)
end
/-- an iterator that `list` can drain -/
structure Drains (prog : Program) (w : World) (T : String) (I : Addr) (fp : List Addr) (n : Nat) (P : Nat → Value → Prop) (Z : Nat → Heap → Prop) : Prop where
  cls : ∀ i h, Z i h → ∃ o, h.get? I = some o ∧ o.cls = .type T
  nl : (Value.type T == Value.type "list") = false
  nt : (Value.type T == Value.type "tuple") = false
  hint : ∀ (A : Around) (E : Value → Shared → Prop) (s : Shared) (Q : Bool → Shared → Prop), Z 0 s.heap → (∀ k tk, Q k { s with toks := tk }) → wpAny (model prog w) A (Builtin.List.listLengthHint (.ref I)) Q E s
  walk : ∀ A : Around, A.handled = none → Walks prog w A I fp [I] n P Z
section
variable {prog : Program} {w : World} {A : Around} {E : Value → Shared → Prop} {s : Shared} {T : String} {I : Addr} {fp : List Addr} {n : Nat} {P : Nat → Value → Prop} {Z : Nat → Heap → Prop}
/-- what is left behind -/
def Left (s : Shared) (l I : Addr) (n : Nat) (P : Nat → Value → Prop) (h' : Heap) (acc : Array Value) (c : Nat) : Prop :=
  (∀ b o, b ≠ l → b ≠ I → s.heap.get? b = some o → h'.get? b = some o) ∧ h'.get? l = some { cls := .type "list", dict := none, data := .seq acc c, slots := #[] } ∧ ItemsOf P acc n
theorem drain_loop {R : Result → Shared → Prop} (D : Drains prog w T I fp n P Z) (no : A.handled = none) (z : Z 0 s.heap) (l : Addr) (off : l ∉ fp) (r : Value) (c : Nat) (hn : n ≤ sizeLine)
    (hl : s.heap.get? l = some { cls := .type "list", data := .seq #[] c }) (k : ∀ h' tk acc c', Left s l I n P h' acc c' → R (.ok (.ret r)) { s with heap := h', toks := tk }) :
    codeAny (model prog w) A (.builtin "list.extend.loop" ⟨[.ref l, .ref I, r], []⟩) R s := by
  have W := D.walk A.in1 no
  refine codeAny_extend_loopS W.toS hn l off r n 0 s #[] c rfl (Nat.zero_le n) z hl (ItemsOf.nil _) fun s2 acc c' mv at2 ac => ?_
  rw [Moved.eq_with mv]
  refine k s2.heap s2.toks acc c' ⟨fun b o n1 n2 e => mv.heap b o (fun m => ?_) e, at2, ac⟩
  rcases List.mem_cons.mp m with m | m
  · exact n1 m
  · exact n2 (List.mem_singleton.mp m)
theorem drain_extend {R : Result → Shared → Prop} (D : Drains prog w T I fp n P Z) (no : A.handled = none) (z : Z 0 s.heap) (l : Addr) (off : l ∉ fp) (hI : I ∈ fp) (r : Value) (c : Nat) (hn : n ≤ sizeLine)
    (hl : s.heap.get? l = some { cls := .type "list", data := .seq #[] c }) 
    (k : ∀ h' tk acc c', Left s l I n P h' acc c' → R (.ok (.ret r)) { s with heap := h', toks := tk }) :
    wpAny (model prog w) A.in1 (Builtin.List.listExtendWith (.ref l) (.ref I) r)
      (fun e s2 => match e with | .done f => R (.ok f) s2 | .again c2 => c2.quiet = true ∧ codeAny (model prog w) A c2 R s2) (fun e s2 => R (.error e) s2) s := by
  have ne : l ≠ I := fun e => off (by rw [e]; exact hI)
  have ns : Builtin.List.listSameRef (.ref l) (.ref I) = false := by
    show (l == I) = false
    exact beq_false_of_ne ne
  obtain ⟨o, ho, hc⟩ := D.cls 0 _ z
  unfold Builtin.List.listExtendWith
  refine wpAny_bind (wpAny_typeOf (T := T) ⟨o, ho, hc⟩ ?_)
  simp only [ns, D.nl, D.nt, Bool.or_self, Bool.false_eq_true, if_false]
  refine wpAny_bind ((D.walk A.in1 no).self 0 s _ _ z (wpAny_bind (wpAny_holding (D.hint _ _ s _ z fun b tk => ?_))))
  refine wpAny_ite_split (fun _ => ?_) (fun _ => wpAny_pure ⟨plainId_quiet F.plain_extend_loop _, drain_loop (s := { s with toks := tk }) D no z l off r c hn hl k⟩)
  refine wpAny_bind (wpAny_rule (wpAny_bind ?_))
  show wpAny _ _ (updateSeq l (·.push .none) >>= fun _ => updateSeq l (·.pop)) _ _ _
  have g1 := Heap.get?_update_self (h := s.heap) (Obj.mapSeq fun q => q.push Value.none) hl rfl
  have g2 := Heap.get?_update_self (Obj.mapSeq fun q => q.pop) g1 rfl
  refine wpAny_bind (wpAny_updateSeq (s := { s with toks := tk }) hl rfl (wpAny_updateSeq (s := { s with heap := s.heap.update l (Obj.mapSeq fun q => q.push Value.none), toks := tk }) g1 rfl ?_ (by seq_fits)))
  have far : ∀ b q, b ≠ l → s.heap.get? b = some q → ((s.heap.update l (Obj.mapSeq fun q => q.push Value.none)).update l (Obj.mapSeq fun q => q.pop)).get? b = some q :=
    fun b q d e => (Heap.get?_update_other _ _ fun x => d x.symm).trans ((Heap.get?_update_other _ _ fun x => d x.symm).trans e)
  refine wpAny_pure ⟨plainId_quiet F.plain_extend_loop _, drain_loop (s := { s with heap := (s.heap.update l (Obj.mapSeq fun q => q.push Value.none)).update l (Obj.mapSeq fun q => q.pop), toks := tk }) D no ((D.walk A.in1 no).frame 0 _ _ z fun b m q e => far b q (fun x => off (x ▸ m)) e) l off r _ hn g2 fun h' tk' acc c' y => ?_⟩
  exact k h' tk' acc c' ⟨fun b q d d2 e => y.1 b q d d2 (far b q d e), y.2⟩
theorem drain_list {Q : Value → Shared → Prop} (D : Drains prog w T I fp n P Z) (no : A.handled = none) (z : Z 0 s.heap) (hfp : ∀ b ∈ fp, b < s.heap.objs.size) (hI : I ∈ fp) (hn : n ≤ sizeLine)
    (k : ∀ h' tk acc c', (∀ b o, b ≠ I → s.heap.get? b = some o → h'.get? b = some o) → h'.get? s.heap.objs.size = some { cls := .type "list", dict := none, data := .seq acc c', slots := #[] } → ItemsOf P acc n → Q (.ref s.heap.objs.size) { s with heap := h', toks := tk }) :
    wpAny (model prog w) A (call (.type "list") [.ref I]) Q E s := by
  have off : s.heap.objs.size ∉ fp := fun m => absurd (hfp _ m) (Nat.lt_irrefl _)
  refine callType_codes (Q₁ := fun v s1 => v = .ref s.heap.objs.size ∧ s1 = { s with heap := s.heap.push { cls := .type "list", data := .seq #[] } }) F.called_list (F.typeCall_list_1 _) F.entry_list_init
    (code_list_new _ (And.intro rfl rfl)) fun v s1 q => ?_
  obtain ⟨rfl, rfl⟩ := q
  have g0 : (s.heap.push { cls := .type "list", data := .seq #[] }).get? s.heap.objs.size = some { cls := .type "list", data := .seq #[] } := Heap.get?_push_size _ rfl
  have z1 := (D.walk A.in1 no).frame 0 _ (s.heap.push { cls := .type "list", data := .seq #[] }) z fun b _ o e => Heap.get?_push_of_some _ e
  refine ⟨⟨_, g0, rfl⟩, F.args_list_init_2 _ _, ?_⟩
  show wpAny _ _ (do let old ← Builtin.List.listItems (.ref s.heap.objs.size); Builtin.List.listUpdate (.ref s.heap.objs.size) (fun _ => #[]); letGo old.toList.reverse; Builtin.List.listExtendWith (.ref s.heap.objs.size) (.ref I) .none) _ _ _
  refine wpAny_bind ?_
  unfold Builtin.List.listItems
  refine wpAny_bind (wpAny_seqItems g0 rfl (wpAny_pure ?_))
  show wpAny _ _ (updateSeq s.heap.objs.size (fun _ => #[]) >>= fun _ => letGo (#[] : Array Value).toList.reverse >>= fun _ => Builtin.List.listExtendWith (.ref s.heap.objs.size) (.ref I) .none) _ _ _
  refine wpAny_bind (wpAny_updateSeq g0 rfl ?_)
  have g1 := Heap.get?_update_self (Obj.mapSeq fun _ => (#[] : Array Value)) g0 rfl
  have far : ∀ b q, b ≠ s.heap.objs.size → s.heap.get? b = some q → ((s.heap.push { cls := .type "list", data := .seq #[] }).update s.heap.objs.size (Obj.mapSeq fun _ => (#[] : Array Value))).get? b = some q :=
    fun b q d e => (Heap.get?_update_other _ _ fun x => d x.symm).trans (Heap.get?_push_of_some _ e)
  refine wpAny_bind (wpAny_letGo (drain_extend (A := A.in1) (T := T) D no ((D.walk A.in1 no).frame 0 _ _ z fun b m q e => far b q (fun x => off (x ▸ m)) e) _ off hI .none _ hn g1 fun h' tk acc c' y => ⟨rfl, ?_⟩))
  exact k h' tk acc c' (fun b q d e => y.1 b q (Nat.ne_of_lt (Heap.lt_size e)) d (far b q (Nat.ne_of_lt (Heap.lt_size e)) e)) y.2.1 y.2.2
end
theorem drains_rt {prog : Program} {w : World} (it a : Addr) (ne : a ≠ it) (items : Array Value) (hz : items.size ≤ sizeLine) :
    Drains prog w "reversed" it [it, a] items.size (fun i v => items[items.size - 1 - i]? = some v) (fun i h => i ≤ items.size ∧ IsRt h it a ((items.size : Int) - 1 - (i : Int)) ∧ IsTup h a items) where
  cls := fun i h z => let ⟨o, ho, hc, _⟩ := z.2.1; ⟨o, ho, hc⟩
  nl := by decide
  nt := by decide
  hint := fun A E s Q z k => vh_rt z.2.1 z.2.2 (by exact_mod_cast hz) (by have := z.1; omega) (by omega) k
  walk := fun A no => {
    sub := fun b m => by rw [List.mem_singleton.mp m]; exact List.mem_cons_self
    frame := fun i h h' z k => ⟨z.1, z.2.1.at fun o e => k it (by simp) o e, let ⟨o, e, r⟩ := z.2.2; ⟨o, k a (by simp) o e, r⟩⟩
    item := fun i s Q E lt z k => by
      have j : (items.size : Int) - 1 - (i : Int) = ((items.size - 1 - i : Nat) : Int) := by omega
      have j2 : ((items.size - 1 - i : Nat) : Int) - 1 = (items.size : Int) - 1 - ((i + 1 : Nat) : Int) := by omega
      have z1 := z.2.1
      rw [j] at z1
      have hx : items[items.size - 1 - i]? = some (items[items.size - 1 - i]'(by omega)) := Array.getElem?_eq_getElem (by omega)
      refine next_rt_item z1 z.2.2 hx hz fun h' z2 sb => ?_
      rw [j2] at z2
      exact k _ h' _ hx ⟨lt, z2, let ⟨o, e, r⟩ := z.2.2; ⟨o, (sb.2 a ne).trans e, r⟩⟩ fun b o nb e => (sb.2 b fun x => nb (by simp [x])).trans e
    done := fun s Q E z k => by
      have j : (items.size : Int) - 1 - (items.size : Int) = -1 := by omega
      have z1 := z.2.1
      rw [j] at z1
      exact next_rt_end no z1 fun h' eb => k h' s.toks fun b o nb e => eb b o (fun x => nb (by simp [x])) e
    self := fun i s Q E z k => iter_rt z.2.1 k }
theorem drains_lri {prog : Program} {w : World} (it a : Addr) (ne : a ≠ it) (items : Array Value) :
    Drains prog w "list_reverseiterator" it [it, a] items.size (fun i v => items[items.size - 1 - i]? = some v) (fun i h => i ≤ items.size ∧ h.IsRevIter it a ((items.size : Int) - 1 - (i : Int)) ∧ h.IsList a items) where
  cls := fun i h z => let ⟨o, ho, hc, _⟩ := z.2.1; ⟨o, ho, hc⟩
  nl := by decide
  nt := by decide
  hint := fun A E s Q z k => vh_lri z.2.1 k
  walk := fun A no => .listRev no it a ne items
end RT
namespace L2
open PySem PySem.Spec PySem.W PyProof.Rows RT
section
variable {X : Cx}
/-- an iterator was pushed, and drained into a list -/
theorem drained {pins : List (Addr × Obj)} {σ : St} {H : Hp} {s : Shared} {xs : List V} {its : List Value} {oI : Obj} {tk0 : Nat} {T : String} {a : Addr} {Z : Nat → Heap → Prop} {A : Around} {E : Value → Shared → Prop} {Q : V → Hp → Prop}
    (I : Inv X pins σ H s) (rv : Vals xs its) (hz : xs.length ≤ sizeLine) (ha : a < s.heap.objs.size) (no : A.handled = none)
    (D : RT.Drains X.prog X.w T s.heap.objs.size [s.heap.objs.size, a] its.toArray.size (fun i v => its.toArray[its.toArray.size - 1 - i]? = some v) Z) (z : Z 0 (s.heap.push oI))
    (k : ∀ q, H q = none → Q (.ref q) (upd H q (.lst xs.reverse))) :
    wpAny (model X.prog X.w) A (call (.type "list") [.ref s.heap.objs.size]) (EP X pins σ Q) E { s with heap := s.heap.push oI, toks := tk0 } := by
  have sz : (s.heap.push oI).objs.size = s.heap.objs.size + 1 := size_push' _ _
  have nz : its.toArray.size ≤ sizeLine := by rw [List.size_toArray, ← rv.length]; exact hz
  refine RT.drain_list (s := { s with heap := s.heap.push oI, toks := tk0 }) D no z (fun b m => ?_) (by simp) nz fun h' tk acc c' far at1 its' => ?_
  · rw [sz]
    rcases List.mem_cons.mp m with m | m
    · rw [m]
      exact Nat.lt_succ_self _
    · rw [List.mem_singleton.mp m]
      exact Nat.lt_succ_of_lt ha
  · have e0 : ((s.heap.push oI).objs.size) = s.heap.objs.size + 1 := sz
    have I2 : Inv X pins σ H { s with heap := s.heap.push oI, toks := tk0 } := I.kept fun b o e => Heap.get?_push_of_some _ e
    have fresh : H (s.heap.push oI).objs.size = none := I.hok.fresh (by rw [sz]; omega)
    have I3 : Inv X pins σ (upd H (s.heap.push oI).objs.size (.lst xs.reverse)) { s with heap := (s.heap.push oI).push { cls := .type "list", dict := none, data := .seq acc c', slots := #[] }, toks := tk0 } :=
      I2.laid (t' := tk0) (fun b o e => Heap.get?_push_of_some _ e) (Nat.le_refl _) ⟨by rw [List.length_reverse]; exact hz, acc.toList, c', RT.vals_rev rv its', by
        rw [Array.toArray_toList]
        exact Heap.get?_push_size _ rfl⟩
    have nq : s.heap.objs.size ≠ (s.heap.push oI).objs.size := by rw [sz]; omega
    obtain ⟨f0, f1, f2, f3, f4, f5⟩ := I.fpOk (H' := upd H (s.heap.push oI).objs.size (.lst xs.reverse)) (b := s.heap.objs.size) (Nat.le_refl _) (by
      unfold upd
      rw [if_neg nq]
      exact I.hok.fresh (Nat.le_refl _))
    have I4 : Inv X pins σ (upd H (s.heap.push oI).objs.size (.lst xs.reverse)) { s with heap := h', toks := tk } := I3.turned (t' := tk) (fun b o hb e => by
      by_cases eb : b = (s.heap.push oI).objs.size
      · subst eb
        have e2 := Heap.get?_push_size (s.heap.push oI) (o := { cls := .type "list", dict := none, data := .seq acc c', slots := #[] }) rfl
        rw [e2] at e
        rw [← e]
        exact at1
      · refine far b o hb ?_
        have e3 := e
        rw [Heap.get?_push_ne _ _ _ eb] at e3
        exact e3) f0 f1 f3 f4 f5
    exact ⟨.ref (s.heap.push oI).objs.size, _, I4, rfl, k _ fresh⟩
/-- list(reversed(x)), x a list or a tuple: a new list -/
def tListRev (K : PySem.W.Frag) (te : TE) : TE := fun σ H Q => te σ H fun v H1 => ∃ (a : Addr) (xs : List V), v = .ref a ∧ (SqL K H1 a xs ∨ SqT K H1 a xs) ∧ ∀ q, H1 q = none → Q (.ref q) (upd H1 q (.lst xs.reverse))
theorem pe_listRev {e : Expr} {te : TE} {p p2 pos pos2 : Pos} (hc : X.calm = true) (hg : Gl X "list") (hm : X.mg "list" = none) (hg2 : Gl X "reversed") (hm2 : X.mg "reversed" = none) (he : PE X e te)
    (s1 : starEach [e] X.env = (false, eval e X.env) :: starEach [] X.env := by rfl)
    (s2 : starEach [.Call (.Name "reversed" p2) [e] [] pos2] X.env = (false, eval (.Call (.Name "reversed" p2) [e] [] pos2) X.env) :: starEach [] X.env := by rfl) :
    PE X (.Call (.Name "list" p) [.Call (.Name "reversed" p2) [e] [] pos2] [] pos) (tListRev X.K te) := by
  constructor
  intro pins s σ H Q I h
  refine Call_ (ld_blt I hg hm boot_list (PyProof.Rows.callWith_type1 (args_cons (Call_ (ld_blt I hg2 hm2 PyProof.Rows.boot_reversed (PyProof.Rows.callWith_type1 (args_cons (thn (he.run pins s σ H _ I h) fun u sa q => args_nil ?_) s1) s1 rfl))) s2) s2 rfl))
  obtain ⟨v, H1, I1, r1, a, xs, ev, hq, q⟩ := q
  subst ev
  obtain rfl : u = Value.ref a := r1
  have no := I1.ok.hd hc
  rcases hq with hq | hq
  · obtain ⟨its, rv, hl, hz⟩ := I1.list hq
    have l1 := rv.length
    obtain ⟨o1, g1, _⟩ := id hl.isList
    have lt := Heap.lt_size g1
    have e1 : ((its.toArray.size : Nat) : Int) - 1 - ((0 : Nat) : Int) = (its.toArray.size : Int) - 1 := by omega
    refine call_reversed_list hl.isList (args_nil ?_)
    refine drained (tk0 := sa.toks) I1 rv hz lt no (RT.drains_lri _ a (Nat.ne_of_lt lt) its.toArray) ⟨Nat.zero_le _, ?_, hl.isList.push _⟩ q
    rw [e1]
    exact ⟨_, Heap.get?_push_size _ rfl, rfl, rfl⟩
  · obtain ⟨its, rv, ht, hz⟩ := I1.tuple hq
    have l1 := rv.length
    have ln := line63
    obtain ⟨o1, g1, r2⟩ := id ht
    have lt := Heap.lt_size g1
    have nz : its.toArray.size ≤ sizeLine := by rw [List.size_toArray, ← rv.length]; exact hz
    have e1 : ((its.toArray.size : Nat) : Int) - 1 - ((0 : Nat) : Int) = (its.toArray.size : Int) - 1 := by omega
    refine call_reversed_tup ht (fun A E Q k => len_tuple ht (by simp only [List.size_toArray] <;> omega) k) (args_nil ?_)
    refine drained (tk0 := sa.toks + 1 + 1) I1 rv hz lt no (RT.drains_rt _ a (Nat.ne_of_lt lt) its.toArray nz) ⟨Nat.zero_le _, ?_, ⟨o1, Heap.get?_push_of_some _ g1, r2⟩⟩ q
    rw [e1]
    exact ⟨_, Heap.get?_push_size _ rfl, rfl, rfl⟩
/-- a dict (with keys ints and texts), locked or not -/
def HasK (H : Hp) (a : Addr) (ks : List (Key × V)) : Prop := H a = some (.dK ks) ∨ ∃ o, H a = some (.frz o (.dK ks))
theorem HasK.ok {pins : List (Addr × Obj)} {σ : St} {H : Hp} {s : Shared} {a : Addr} {ks : List (Key × V)} (I : Inv X pins σ H s) (h : HasK H a ks) : (a == sysModules) = false ∧ ∃ va, KV ks va ∧ s.heap.DictOf (mixKind X.prog X.w) a va := by
  rcases h with h | ⟨o, h⟩
  · obtain ⟨_, y, va, r, d⟩ := (show ObjOk X.prog X.w H s.heap a (.dK ks) from I.hok a _ h)
    exact ⟨y, va, r, d⟩
  · obtain ⟨_, _, y, va, r, d⟩ := (show ObjOk X.prog X.w H s.heap a (.frz o (.dK ks)) from I.hok a _ h)
    exact ⟨y, va, r, d⟩
/-- d != {}, d == {} -/
def rNeE : R2 := fun x y H Q => ∃ a b ks, x = .ref a ∧ y = .ref b ∧ HasK H a ks ∧ HasK H b [] ∧ Q (.bl (!ks.isEmpty)) H
def rEqE : R2 := fun x y H Q => ∃ a b ks, x = .ref a ∧ y = .ref b ∧ HasK H a ks ∧ HasK H b [] ∧ Q (.bl ks.isEmpty) H
theorem op_neE (hu : X.A.units < cLine) : OpR X (compareOp .NotEq) rNeE := by
  intro pins s σ H x y v u Q I rx ry h
  obtain ⟨a, b, ks, rfl, rfl, ea, eb, q⟩ := h
  obtain rfl : v = Value.ref a := rx
  obtain rfl : u = Value.ref b := ry
  obtain ⟨ya, va, ra, da⟩ := ea.ok I
  obtain ⟨yb, vb, rb, db⟩ := eb.ok I
  have lb : vb.length = 0 := by rw [← rb.length]; rfl
  have la : ks.length = va.length := ra.length
  refine PySem.W.keq_ne (knd := mixKind X.prog X.w) (r := true) ya yb da db hu (fun e => ?_) (fin_bl I q ?_)
  · have n : va = [] := List.length_eq_zero_iff.mp (e.trans lb)
    subst n
    exact .nil
  · cases ks with
    | nil => rw [show va.length = 0 from la.symm, lb]; rfl
    | cons p r =>
      rw [lb, show va.length = r.length + 1 from la.symm]
      rfl
theorem op_eqE (hu : X.A.units < cLine) : OpR X (compareOp .Eq) rEqE := by
  intro pins s σ H x y v u Q I rx ry h
  obtain ⟨a, b, ks, rfl, rfl, ea, eb, q⟩ := h
  obtain rfl : v = Value.ref a := rx
  obtain rfl : u = Value.ref b := ry
  obtain ⟨ya, va, ra, da⟩ := ea.ok I
  obtain ⟨yb, vb, rb, db⟩ := eb.ok I
  have lb : vb.length = 0 := by rw [← rb.length]; rfl
  have la : ks.length = va.length := ra.length
  refine PySem.W.keq_eq (knd := mixKind X.prog X.w) (r := true) ya yb da db hu (fun e => ?_) (fin_bl I q ?_)
  · have n : va = [] := List.length_eq_zero_iff.mp (e.trans lb)
    subst n
    exact .nil
  · cases ks with
    | nil => rw [show va.length = 0 from la.symm, lb]; rfl
    | cons p r =>
      rw [lb, show va.length = r.length + 1 from la.symm]
      rfl
/-- len of a dict, locked or not -/
def rLenK : List V → Hp → VK → Prop := fun xs H Q => ∃ a ks, xs = [V.ref a] ∧ HasK H a ks ∧ Q (.int ks.length) H
theorem call_lenK : CallR X (.builtin "len") rLenK := by
  intro pins s σ H xs us Q I r h
  obtain ⟨a, ks, rfl, ha, q⟩ := h
  obtain ⟨u, rfl, ru⟩ := vals1 r
  cases ru
  exact d_len I ha fun t s2 I2 => ⟨V.int (ks.length : Nat), H, I2, ⟨t, rfl⟩, q⟩
end
end L2

/-! VL6: == and != of data, one of which is not deep. -/
namespace L2
open PySem PySem.SeqAt
section
variable {X : Cx}
def rEqM (K : PySem.W.Frag) : R2 := fun x y H Q => ∃ d e, Dp K H x d ∧ Dp K H y e ∧ d.canLay0 = true ∧ e.canLay0 = true ∧ min d.depth e.depth ≤ 64 ∧ Q (.bl (PyData.eqv d e)) H
def rNeM (K : PySem.W.Frag) : R2 := fun x y H Q => ∃ d e, Dp K H x d ∧ Dp K H y e ∧ d.canLay0 = true ∧ e.canLay0 = true ∧ min d.depth e.depth ≤ 64 ∧ Q (.bl (!PyData.eqv d e)) H
theorem op_eqM (hu : X.A.units + 64 < cLine) : OpR X (compareOp .Eq) (rEqM X.K) := by
  intro pins s σ H x y v u Q I rx ry h
  obtain ⟨d, e, hd, he, l1, l2, dp, q⟩ := h
  obtain ⟨as, h1⟩ := Dp.reads I _ _ _ hd rx
  obtain ⟨bs, h2⟩ := Dp.reads I _ _ _ he ry
  exact compareEq_reads h1 h2 l1 l2 (by omega) (fin_bl I q rfl)
theorem op_neM (hu : X.A.units + 64 < cLine) : OpR X (compareOp .NotEq) (rNeM X.K) := by
  intro pins s σ H x y v u Q I rx ry h
  obtain ⟨d, e, hd, he, l1, l2, dp, q⟩ := h
  obtain ⟨as, h1⟩ := Dp.reads I _ _ _ hd rx
  obtain ⟨bs, h2⟩ := Dp.reads I _ _ _ he ry
  exact compareNe_reads h1 h2 l1 l2 (by omega) (fin_bl I q rfl)
def rIsB : R2 := fun x y H Q => ∃ a b, x = .bl a ∧ y = .bl b ∧ Q (.bl (decide (a = b))) H
def rNotB : R2 := fun x y H Q => ∃ a b, x = .bl a ∧ y = .bl b ∧ Q (.bl (!decide (a = b))) H
theorem op_isB : OpR X (compareOp .Is) rIsB := by
  intro pins s σ H x y v u Q I rx ry h
  obtain ⟨a, b, rfl, rfl, q⟩ := h
  obtain rfl : v = Value.bool a := rx
  obtain rfl : u = Value.bool b := ry
  cases a <;> cases b <;> exact wpAny_pure (fin_bl I q rfl)
theorem op_notB : OpR X (compareOp .IsNot) rNotB := by
  intro pins s σ H x y v u Q I rx ry h
  obtain ⟨a, b, rfl, rfl, q⟩ := h
  obtain rfl : v = Value.bool a := rx
  obtain rfl : u = Value.bool b := ry
  cases a <;> cases b <;> exact wpAny_pure (fin_bl I q rfl)
end
end L2

set_option maxHeartbeats 1000000
/-! VL7: enumerate of a tuple. -/
namespace EN
open PySem PySem.Spec PySem.W PyProof.Rows L2
theorem newT {v : Value} {o : Obj} {H : Heap → Prop} (B : Begins v o H) : Meets (Builtin.«enumerate.__new__» { pos := [Value.type "enumerate", v] }) fun x R s => H s.heap ∧
            R (Except.ok (Flow.ret (Value.ref (s.heap.push o).objs.size)))
              { heap :=
                  (s.heap.push o).push
                    { cls := Value.type "enumerate",
                      data :=
                        Data.fields
                          #[Value.none, Value.bool false, Value.ref s.heap.objs.size, rawInt 0, Value.none,
                            Value.none] },
                gens := s.gens, drawn := s.drawn, toks := s.toks, os := s.os } := by
  intro prog w A R s h
  unfold Builtin.«enumerate.__new__»
  refine wpAny_bind ?_
  unfold Builtin.SmallTypes.newClass
  simp only []
  refine wpAny_bind (wpAny_pure ?_)
  simp only [Bool.not_true, Bool.false_eq_true, if_false]
  rw [sub_enumerate]
  refine wpAny_bind (wpAny_pure ?_)
  refine wpAny_pure ?_
  simp only [beq_self_eq_true, if_true]
  refine wpAny_bind ?_
  unfold Builtin.SmallTypes.calledThroughType
  refine wpAny_bind (wpAny_stack fun st _ _ _ => wpAny_pure ?_)
  have fin : wpAny (model prog w) A.in1 (do
              let __do_lift ← pyIter v
              let __do_lift ←
                Builtin.SmallTypes.newRecord (Value.type "enumerate")
                    (Builtin.SmallTypes.ownedTupleFields ++ [__do_lift, rawInt 0, Value.none, Value.none])
              ret __do_lift) (fun fin s' =>
          match fin with
          | Fin.done f => R (Except.ok f) s'
          | Fin.again c' => c'.quiet = true ∧ codeAny (model prog w) A c' R s') (fun e s' => R (Except.error e) s') s := by
    refine wpAny_bind (B.iter _ _ _ _ s _ h.1 ?_)
    refine wpAny_bind ?_
    unfold Builtin.SmallTypes.newRecord newObj
    simp only []
    unfold newObjAsIs
    rw [if_neg (by
      have := sizeLine_eq
      show ¬ (6 > sizeLine + 2)
      omega)]
    refine wpAny_bind (wpAny_alloc ?_)
    refine wpAny_pure ?_
    exact wpAny_pure h.2
  have ite_any : ∀ (c : Prop) [Decidable c] (a b : Sem PySem.Fin) (Q : PySem.Fin → Shared → Prop) (E : Value → Shared → Prop), wpAny (model prog w) A.in1 a Q E s → wpAny (model prog w) A.in1 b Q E s → wpAny (model prog w) A.in1 (if c then a else b) Q E s := by
    intro c _ a b Q E h1 h2
    by_cases hc : c
    · rw [if_pos hc]; exact h1
    · rw [if_neg hc]; exact h2
  refine ite_any _ _ _ _ _ ?_ ?_
  · refine wpAny_bind (wpAny_of_eq (a := (v, none)) rfl ?_)
    exact fin
  · refine wpAny_bind (wpAny_of_eq (a := (v, none)) rfl ?_)
    exact fin
theorem init_slot : Slot "enumerate" "__init__" "object.__init__" :=
  .of (n := "__init__") (owner := "object")
    (by rw [typeLookup_type, builtinLookup_eq_fast]; kernel_rfl) (by decide +kernel) (by decide +kernel)
    (by decide +kernel) (by first | exact .inl (by decide +kernel) | exact .inr (by decide +kernel))
    (by first | (rw [isSubtype_type]; kernel_rfl) | kernel_rfl)
theorem called_enum : TypeCalled "enumerate" "enumerate.__new__" "object.__init__" where
  notType := by decide +kernel
  canCreate := by first | kernel_rfl | decide +kernel
  mro := ⟨.type "enumerate", [.type "object"], by kernel_rfl⟩
  made := by kernel_rfl
  plain := by decide +kernel
  sub := sub_enumerate
  init := init_slot
theorem callT {prog : Program} {w : World} {A : Around} {E : Value → Shared → Prop} {s : Shared} {v : Value} {o : Obj} {H : Heap → Prop} (B : Begins v o H) {Q : Value → Shared → Prop} (hs : H s.heap)
   (k : ∀ h', IsEnum h' (s.heap.objs.size + 1) s.heap.objs.size 0 Value.none → h'.get? s.heap.objs.size = some o → h'.objs.size = s.heap.objs.size + 2 → (∀ (b : Addr) (o : Obj), s.heap.get? b = some o → h'.get? b = some o) →
      Q (Value.ref (s.heap.objs.size + 1)) { heap := h', gens := s.gens, drawn := s.drawn, toks := s.toks, os := s.os }) :
   wpAny (model prog w) A (call (.type "enumerate") [v]) Q E s := by
  refine callType_new (newId := "enumerate.__new__") (Bn := Builtin.«enumerate.__new__») called_enum (by decide +kernel) (by kernel_rfl) (by kernel_rfl) (fun obj => ?_) (entryFor_of_tree (by kernel_rfl)) (newT B) ⟨hs, ?_⟩
  · first | exact PyProof.args_object_init_2 _ _ | exact PySem.args_object_init_2 _ _ | kernel_rfl
  · refine ⟨?_, ?_⟩
    · exact ⟨_, Heap.get?_push_size _ rfl, rfl⟩
    · have e0 : (s.heap.push o).objs.size = s.heap.objs.size + 1 := Heap.size_push _ _
      rw [e0]
      refine k _ ?_ ?_ ?_ ?_
      · have := Heap.get?_push_size (s.heap.push o) (o := { cls := Value.type "enumerate", data := Data.fields #[Value.none, Value.bool false, Value.ref s.heap.objs.size, rawInt 0, Value.none, Value.none] }) rfl
        rw [e0] at this
        exact this
      · exact Heap.get?_push_of_some _ (Heap.get?_push_size _ B.free)
      · rw [Heap.size_push, Heap.size_push]
      · exact fun b q e => Heap.get?_push_of_some _ (Heap.get?_push_of_some _ e)
/-- the turns: i and a tuple's i-th item -/
def IteT (K : PySem.W.Frag) (a : Addr) (n : Nat) : It :=
  { go := fun i H => i < n ∧ ∃ xs x, SqT K H a xs ∧ xs[i]? = some x
    yld := fun i H v H' => ∃ T x, v = V.ref T ∧ H T = none ∧ H' = upd H T (HO.tup [V.int (i : Int), x]) ∧ ∀ xs : List V, SqT K H a xs → xs[i]? = some x
    stop := fun i H => n ≤ i ∧ ∃ xs, SqT K H a xs ∧ xs.length = n }
def iEnumT (K : PySem.W.Frag) (te : TE) : TI := fun σ H R => te σ H fun v H1 => ∃ a xs, v = V.ref a ∧ SqT K H1 a xs ∧ R (IteT K a xs.length) H1
theorem tup_same {h : Heap} {a : Addr} {x y : Array Value} (p : IsTup h a x) (q : IsTup h a y) : x = y := by
  obtain ⟨o, h1, _, n, h2⟩ := p
  obtain ⟨o', h1', _, n', h2'⟩ := q
  rw [h1] at h1'
  cases h1'
  rw [h2] at h2'
  injection h2'
theorem turn_enumT {P : Program} {w : World} {K : PySem.W.Frag} {elts : List Expr} {kk : Nat} {tpos : Pos} (a e it : Addr) (n : Nat) :
    Turn P w K (Expr.Tuple elts kk tpos) (IteT K a n) [e, it] e fun i h => i ≤ n ∧ (∃ old, IsEnum h e it (i : Int) old) ∧ h.IsTupleIter it a i ∧ e ≠ it where
  mem := by simp
  obj := fun i h z b m => by
    obtain ⟨_, ⟨old, he⟩, ⟨o, ho, hc, hd⟩, _⟩ := z
    rcases List.mem_cons.mp m with rfl | m
    · exact ⟨_, he, fun v q => by cases q⟩
    · rw [List.mem_singleton.mp m]
      exact ⟨o, ho, fun v q => by rw [hd] at q; cases q⟩
  keep := fun i h h' z k => by
    obtain ⟨hi, ⟨old, he⟩, ⟨o, ho, hc⟩, ne⟩ := z
    exact ⟨hi, ⟨old, k e (by simp) _ he⟩, ⟨o, k it (by simp) _ ho, hc⟩, ne⟩
  item := fun X hP hw hK hc i pins s σ H E I fp z g => by
    subst hP
    subst hw
    subst hK
    obtain ⟨hi, ⟨old, he⟩, hit, ne⟩ := z
    obtain ⟨hin, xs, x, hq, hx⟩ := g
    obtain ⟨its, rv, ht, hz⟩ := I.tuple hq
    have no := I.ok.hd hc
    have n1 : it ≠ a := fun q => by
      subst q
      obtain ⟨o, ho, hc1, _⟩ := hit
      obtain ⟨o2, ho2, hc2, _⟩ := id ht
      rw [ho] at ho2
      cases ho2
      rw [hc1] at hc2
      exact absurd hc2 (by decide)
    have n2 : e ≠ a := fun q => by
      subst q
      obtain ⟨o2, ho2, hc2, _⟩ := id ht
      have he : s.heap.get? e = some _ := he
      rw [he] at ho2
      cases ho2
      have hc2 : Value.type "enumerate" = Value.type "tuple" := hc2
      exact absurd hc2 (by decide)
    have G := GoesN.enumFrom (A := X.A) (elts := elts) (x1 := kk) (pos := tpos) 0 (Draws.tuple (prog := X.prog) (w := X.w) (A := X.A.in1) no it a n1.symm its.toArray) e ne (by simp [ne, n2]) (by simp)
    have hl : i < its.toArray.size := by
      rw [List.size_toArray, ← rv.length]
      exact (List.getElem?_eq_some_iff.mp hx).1
    refine G.goes i s (fun u s2 => ∃ x H', L2.Inv X pins σ H' s2 ∧ L2.RelV x u ∧ (IteT X.K a n).yld i H x H' ∧ (i + 1 ≤ n ∧ (∃ old, IsEnum s2.heap e it ((i + 1 : Nat) : Int) old) ∧ s2.heap.IsTupleIter it a (i + 1) ∧ e ≠ it) ∧ ∀ (b : Addr), b ∈ [e, it] → H' b = none) E hl ⟨⟨old, by rw [Int.zero_add]; exact he⟩, hit, ht⟩ fun v h' tk Y z' far le => ?_
    obtain ⟨T, t, y, rfl, hT, hy, hTt⟩ := Y
    obtain ⟨⟨old', he'⟩, hit', ht'⟩ := z'
    have hxi : xs[i]? = some x := hx
    have rx : L2.RelV x y := by
      have : ∀ {xs : List V} {its : List Value}, Vals xs its → ∀ (i : Nat) (x : V) (y : Value), xs[i]? = some x → its[i]? = some y → L2.RelV x y := by
        intro xs its h
        induction h with
        | nil => intro i x y h1 h2; simp at h1
        | cons r _ ih =>
          intro i x y h1 h2
          cases i with
          | zero =>
            simp at h1 h2
            subst h1
            subst h2
            exact r
          | succ i => exact ih i x y (by simpa using h1) (by simpa using h2)
      exact this rv i x y hx (by simpa using hy)
    refine ⟨.ref T, upd H T (.tup [.int (i : Int), x]), I.turnedNew (ch := [e, it]) far fp hT ⟨by have := sizeLine_eq; simp only [List.length_cons, List.length_nil]; omega, [.int (0 + (i : Int)) t, y], .cons ⟨t, by rw [Int.zero_add]⟩ (.cons rx .nil), hTt⟩, rfl, ⟨T, x, rfl, I.hok.fresh hT, rfl, fun xs' hq' => ?_⟩, ⟨by omega, ⟨old', by
      have : (0 : Int) + ((i + 1 : Nat) : Int) = ((i + 1 : Nat) : Int) := by omega
      rw [this] at he'
      exact he'⟩, hit', ne⟩, fun b hb => ?_⟩
    · obtain ⟨its', rv', ht2, _⟩ := I.tuple hq'
      have e2 := tup_same ht ht2
      have e3 : its = its' := by
        have := congrArg Array.toList e2
        simpa using this
      subst e3
      rw [Vals.inj rv' rv]
      exact hx
    · have hb2 : b ≠ T := fun q => by
        have : ∃ o, s.heap.get? b = some o := by
          rcases List.mem_cons.mp hb with q | q
          · rw [q]; exact ⟨_, he⟩
          · rw [List.mem_singleton.mp q]
            obtain ⟨o, ho, _⟩ := hit
            exact ⟨o, ho⟩
        obtain ⟨o, ho⟩ := this
        exact absurd (Heap.lt_size ho) (Nat.not_lt.mpr (by rw [q]; exact hT))
      rw [upd_ne hb2]
      exact (fp b hb).1
  done := fun X hP hw hK hc i pins s σ H E I fp z g => by
    subst hP
    subst hw
    subst hK
    obtain ⟨hi, ⟨old, he⟩, hit, ne⟩ := z
    obtain ⟨hin, xs, hq, hx⟩ := g
    have hi : i = n := Nat.le_antisymm hi hin
    obtain ⟨its, rv, ht, hz⟩ := I.tuple hq
    have no := I.ok.hd hc
    have n1 : it ≠ a := fun q => by
      subst q
      obtain ⟨o, ho, hc1, _⟩ := hit
      obtain ⟨o2, ho2, hc2, _⟩ := id ht
      rw [ho] at ho2
      cases ho2
      rw [hc1] at hc2
      exact absurd hc2 (by decide)
    have n2 : e ≠ a := fun q => by
      subst q
      obtain ⟨o2, ho2, hc2, _⟩ := id ht
      have he : s.heap.get? e = some _ := he
      rw [he] at ho2
      cases ho2
      have hc2 : Value.type "enumerate" = Value.type "tuple" := hc2
      exact absurd hc2 (by decide)
    have G := GoesN.enumFrom (A := X.A) (elts := elts) (x1 := kk) (pos := tpos) 0 (Draws.tuple (prog := X.prog) (w := X.w) (A := X.A.in1) no it a n1.symm its.toArray) e ne (by simp [ne, n2]) (by simp)
    have hl : its.toArray.size = i := by
      rw [List.size_toArray, ← rv.length, hx, hi]
    refine G.stops s _ E ⟨⟨old, by rw [Int.zero_add, hl]; exact he⟩, by rw [hl]; exact hit, ht⟩ fun h' tk far le => I.turnedL (ch := [e, it]) far fp
  self := fun A i s Q E z q => by
    obtain ⟨_, ⟨old, he⟩, _⟩ := z
    exact wpAny_pyIter_enum he q
/-- for i, x in enumerate(a tuple) -/
theorem pi_enumT {X : Cx} {e : Expr} {te : TE} {p pos tpos : Pos} {elts : List Expr} {kk : Nat} (hg : Gl X "enumerate") (hm : X.mg "enumerate" = none) (he : PE X e te)
    (s1 : starEach [e] X.env = (false, eval e X.env) :: starEach [] X.env := by rfl) :
    PI X (.Tuple elts kk tpos) (.Call (.Name "enumerate" p) [e] [] pos) (iEnumT X.K te) := by
  constructor
  intro pins s σ H R I h
  refine Call_ (ld_blt I hg hm boot_enumerate (PyProof.Rows.callWith_type1 (args_cons (thn (he.run pins s σ H _ I h) fun u sa q => args_nil ?_) s1) s1 rfl))
  obtain ⟨v, H1, I1, r1, a, xs, ev, hq, q⟩ := q
  subst ev
  obtain rfl : u = Value.ref a := r1
  obtain ⟨its, rv, ht, hz⟩ := I1.tuple hq
  refine callT (begins_tuple a its.toArray) ht fun h' k1 k2 k3 k4 => ?_
  refine wpAny_pyIter_enum k1 ?_
  refine ⟨_, [sa.heap.objs.size + 1, sa.heap.objs.size], _, IteT X.K a xs.length, H1, rfl, I1.kept k4, turn_enumT a (sa.heap.objs.size + 1) sa.heap.objs.size xs.length, ⟨Nat.zero_le _, ⟨_, k1⟩, ⟨_, k2, rfl, rfl⟩, Nat.succ_ne_self _⟩, fun b hb => ?_, q⟩
  have hb2 : sa.heap.objs.size ≤ b := by
    rcases List.mem_cons.mp hb with q | q
    · rw [q]; exact Nat.le_succ _
    · rw [List.mem_singleton.mp q]; exact Nat.le_refl _
  exact I1.fpOk (H' := H1) hb2 (I1.hok.fresh hb2)
end EN

/-! VOwn: the locals of a def as one typed row, what is owned of them, and the judgements. -/
namespace VV
open PySem L2

@[reducible] def Gam : List Ty → Type
  | [] => Unit
  | t :: ts => Option (den t) × Gam ts
inductive Mem : List Ty → Ty → Type where
  | z {t : Ty} {ts : List Ty} : Mem (t :: ts) t
  | s {u t : Ty} {ts : List Ty} : Mem ts t → Mem (u :: ts) t
def Mem.ix : {ts : List Ty} → {t : Ty} → Mem ts t → Nat
  | _, _, .z => 0
  | _, _, .s i => i.ix + 1
def Mem.get : {ts : List Ty} → {t : Ty} → Mem ts t → Gam ts → Option (den t)
  | _, _, .z, Γ => Γ.1
  | _, _, .s i, Γ => i.get Γ.2
def Mem.set : {ts : List Ty} → {t : Ty} → Mem ts t → Option (den t) → Gam ts → Gam ts
  | _, _, .z, d, Γ => (d, Γ.2)
  | _, _, .s i, d, Γ => (Γ.1, i.set d Γ.2)
/-- forget the names that the mask leaves out -/
def Gam.mask : {ts : List Ty} → List Bool → Gam ts → Gam ts
  | [], _, _ => ()
  | _ :: _, [], Γ => Γ
  | _ :: _, b :: bs, Γ => (if b then Γ.1 else none, Gam.mask bs Γ.2)
theorem Mem.set_set : ∀ {ts : List Ty} {t : Ty} (i : Mem ts t) (d e : Option (den t)) (Γ : Gam ts), i.set d (i.set e Γ) = i.set d Γ
  | _, _, .z, _, _, _ => rfl
  | _, _, .s i, d, e, Γ => by
    show (Γ.1, i.set d (i.set e Γ.2)) = (Γ.1, i.set d Γ.2)
    rw [Mem.set_set i]
theorem Mem.get_set : ∀ {ts : List Ty} {t : Ty} (i : Mem ts t) (d : Option (den t)) (Γ : Gam ts), i.get (i.set d Γ) = d
  | _, _, .z, _, _ => rfl
  | _, _, .s i, d, Γ => Mem.get_set i d Γ.2
theorem Mem.get_set_ne : ∀ {ts : List Ty} {t u : Ty} (i : Mem ts t) (j : Mem ts u) (d : Option (den t)) (Γ : Gam ts), i.ix ≠ j.ix → j.get (i.set d Γ) = j.get Γ
  | _, _, _, .z, .z, _, _, h => absurd rfl h
  | _, _, _, .z, .s j, _, _, _ => rfl
  | _, _, _, .s i, .z, _, _, _ => rfl
  | _, _, _, .s i, .s j, d, Γ, h => Mem.get_set_ne i j d Γ.2 fun e => h (congrArg (· + 1) e)

/-- how a name holds: o: owned; l: shared, made within the def; w: shared, perhaps the caller's; f: as w, and not to be stored now -/
inductive Md where
  | o | l | w | f | k | r
  deriving DecidableEq
/-- not to be stored now (k: owned, and not to be changed now) -/
def Md.hard : Md → Bool
  | .f => true
  | .k => true
  | _ => false
/-- its slot is not to be stored (r: owned, changed in place alone) -/
def Md.fixd : Md → Bool
  | .f => true
  | .k => true
  | .r => true
  | _ => false
def Md.own : Md → Bool
  | .o => true
  | .r => true
  | _ => false
section
variable (K : PySem.W.Frag) (H : Hp) (S0 L : Reg)
def repM : Md → (t : Ty) → V → den t → List Addr → Prop
  | .o, t, v, d, f => (rO K H L t).1 v d f
  | .l, t, v, d, f => f = [] ∧ (rS K H L t).1 v d
  | .w, t, v, d, f => f = [] ∧ (rS K H (fun a => S0 a ∨ L a) t).1 v d
  | .f, t, v, d, f => f = [] ∧ (rS K H (fun a => S0 a ∨ L a) t).1 v d
  | .k, t, v, d, f => (rO K H L t).1 v d f
  | .r, t, v, d, f => (rO K H L t).1 v d f
def slot (m : Md) (t : Ty) : Option (den t) → Option V → List Addr → Prop
  | none, _, f => f = []
  | some d, s, f => ∃ v, s = some v ∧ repM K H S0 L m t v d f
def rG : List Md → (ts : List Ty) → Gam ts → St → List Addr → Prop
  | [], [], _, σ, fp => σ = [] ∧ fp = []
  | m :: ms, t :: ts, Γ, s :: σ, fp => ∃ f1 f2, fp = f1 ++ f2 ∧ slot K H S0 L m t Γ.1 s f1 ∧ rG ms ts Γ.2 σ f2
  | _, _, _, _, _ => False
end
section
variable {K : PySem.W.Frag} {H H' : Hp} {S0 L L' : Reg}
theorem repM_mono {m : Md} {t : Ty} {v : V} {d : den t} {f : List Addr} (hS : Cov H H' S0 S0) (hL : Cov H H' L L') (hs : Stb H H') (hf : ∀ a ∈ f, H' a = H a) (h : repM K H S0 L m t v d f) : repM K H' S0 L' m t v d f := by
  have hw : Cov H H' (fun a => S0 a ∨ L a) (fun a => S0 a ∨ L' a) := fun a o hr e => by
    rcases hr with hr | hr
    · exact ⟨.inl (hS a o hr e).1, (hS a o hr e).2⟩
    · exact ⟨.inr (hL a o hr e).1, (hL a o hr e).2⟩
  cases m with
  | o => exact (rO_mono hL hs t).1 v d f hf h
  | k => exact (rO_mono hL hs t).1 v d f hf h
  | r => exact (rO_mono hL hs t).1 v d f hf h
  | l => exact ⟨h.1, (rS_mono hL hs t).1 v d h.2⟩
  | w => exact ⟨h.1, (rS_mono hw hs t).1 v d h.2⟩
  | f => exact ⟨h.1, (rS_mono hw hs t).1 v d h.2⟩
theorem slot_mono {m : Md} {t : Ty} {d : Option (den t)} {s : Option V} {f : List Addr} (hS : Cov H H' S0 S0) (hL : Cov H H' L L') (hs : Stb H H') (hf : ∀ a ∈ f, H' a = H a) (h : slot K H S0 L m t d s f) : slot K H' S0 L' m t d s f := by
  cases d with
  | none => exact h
  | some d =>
    obtain ⟨v, e, h⟩ := h
    exact ⟨v, e, repM_mono hS hL hs hf h⟩
theorem rG_mono (hS : Cov H H' S0 S0) (hL : Cov H H' L L') (hs : Stb H H') : ∀ {ms : List Md} {ts : List Ty} {Γ : Gam ts} {σ : St} {fp : List Addr}, (∀ a ∈ fp, H' a = H a) → rG K H S0 L ms ts Γ σ fp → rG K H' S0 L' ms ts Γ σ fp
  | [], [], _, _, _, _, h => h
  | m :: ms, t :: ts, Γ, s :: σ, fp, hf, h => by
    obtain ⟨f1, f2, rfl, h1, h2⟩ := h
    exact ⟨f1, f2, rfl, slot_mono hS hL hs (fun a ha => hf a (List.mem_append_left _ ha)) h1, rG_mono hS hL hs (fun a ha => hf a (List.mem_append_right _ ha)) h2⟩
  | [], _ :: _, _, _, _, _, h => h.elim
  | _ :: _, [], _, _, _, _, h => h.elim
  | _ :: _, _ :: _, _, [], _, _, h => h.elim
theorem rG_focus : ∀ {ts : List Ty} {t : Ty} (i : Mem ts t) {ms : List Md} {m : Md} {Γ : Gam ts} {σ : St} {fp : List Addr}, rG K H S0 L ms ts Γ σ fp → ms[i.ix]? = some m →
    ∃ s f fa fb, σ[i.ix]? = some s ∧ slot K H S0 L m t (i.get Γ) s f ∧ fp = fa ++ (f ++ fb) ∧ ∀ d' s' f', slot K H S0 L m t d' s' f' → rG K H S0 L ms ts (i.set d' Γ) (σ.set i.ix s') (fa ++ (f' ++ fb))
  | _ :: _, _, .z, m :: ms, m', Γ, s :: σ, fp, h, hm => by
    obtain ⟨f1, f2, rfl, h1, h2⟩ := h
    have e : m = m' := by simpa [Mem.ix] using hm
    subst e
    exact ⟨s, f1, [], f2, rfl, h1, rfl, fun d' s' f' q => ⟨f', f2, rfl, q, h2⟩⟩
  | _ :: _, _, .s i, m :: ms, m', Γ, s :: σ, fp, h, hm => by
    obtain ⟨f1, f2, rfl, h1, h2⟩ := h
    obtain ⟨s', f, fa, fb, e1, e2, rfl, e3⟩ := rG_focus i h2 (by simpa [Mem.ix] using hm)
    refine ⟨s', f, f1 ++ fa, fb, by simpa [Mem.ix] using e1, e2, by simp, fun d' s'' f' q => ⟨f1, fa ++ (f' ++ fb), by simp, h1, ?_⟩⟩
    exact e3 d' s'' f' q
  | _ :: _, _, _, [], _, _, _, _, h, _ => h.elim
  | _ :: _, _, _, _ :: _, _, _, [], _, h, _ => h.elim
theorem rG_len : ∀ {ms : List Md} {ts : List Ty} {Γ : Gam ts} {σ : St} {fp : List Addr}, rG K H S0 L ms ts Γ σ fp → σ.length = ts.length ∧ ms.length = ts.length
  | [], [], _, _, _, h => by rw [h.1]; exact ⟨rfl, rfl⟩
  | m :: ms, t :: ts, Γ, s :: σ, fp, h => by
    obtain ⟨f1, f2, rfl, h1, h2⟩ := h
    have := rG_len h2
    simp [this.1, this.2]
  | [], _ :: _, _, _, _, h => h.elim
  | _ :: _, [], _, _, _, h => h.elim
  | _ :: _, _ :: _, _, [], _, h => h.elim
theorem rG_mask : ∀ {ms : List Md} {ts : List Ty} {Γ : Gam ts} {σ : St} {fp : List Addr} (bs : List Bool), rG K H S0 L ms ts Γ σ fp → ∃ fp', rG K H S0 L ms ts (Gam.mask bs Γ) σ fp' ∧ fp'.Sublist fp
  | [], [], _, _, _, _, h => ⟨_, h, List.Sublist.refl _⟩
  | m :: ms, t :: ts, Γ, s :: σ, fp, [], h => ⟨fp, h, List.Sublist.refl _⟩
  | m :: ms, t :: ts, Γ, s :: σ, fp, b :: bs, h => by
    obtain ⟨f1, f2, rfl, h1, h2⟩ := h
    obtain ⟨f2', h3, h4⟩ := rG_mask bs h2
    cases b with
    | true => exact ⟨f1 ++ f2', ⟨f1, f2', rfl, h1, h3⟩, List.Sublist.append (List.Sublist.refl _) h4⟩
    | false => exact ⟨f2', ⟨[], f2', rfl, rfl, h3⟩, h4.trans (List.sublist_append_right _ _)⟩
  | [], _ :: _, _, _, _, _, h => h.elim
  | _ :: _, [], _, _, _, _, h => h.elim
  | _ :: _, _ :: _, _, [], _, _, h => h.elim
end

/-- what a def found at its entry: the heap, what is handed in to be read, the cells that are handed in to be changed -/
structure Ent where
  H0 : Hp
  S0 : Reg
  io : List Addr
/-- cells of one's own: of the entry's io, or made since -/
structure Good (E : Ent) (L : Reg) (H : Hp) (a : Addr) : Prop where
  new : E.H0 a = none ∨ a ∈ E.io
  nl : ¬ L a
  ns : ¬ E.S0 a
  at_ : (H a).isSome = true
structure Own (K : PySem.W.Frag) (E : Ent) (L : Reg) (ms : List Md) (ts : List Ty) (Γ : Gam ts) (σ : St) (H : Hp) (xt : List Addr) : Prop where
  ex : ∃ fp, rG K H E.S0 L ms ts Γ σ fp ∧ (fp ++ xt).Nodup ∧ ∀ a ∈ fp ++ xt, Good E L H a
  fr : ∀ a o, E.H0 a = some o → a ∉ E.io → H a = some o
  lr : ∀ a, L a → (E.H0 a = none ∨ a ∈ E.io) ∧ (H a).isSome = true
  s0 : ∀ a, E.S0 a → (E.H0 a).isSome = true ∧ a ∉ E.io
  iod : ∀ a ∈ E.io, (H a).isSome = true
section
variable {K : PySem.W.Frag} {E : Ent} {L L' : Reg} {ms : List Md} {ts : List Ty} {Γ : Gam ts} {σ : St} {H H' : Hp} {xt : List Addr}
theorem isSome_some {α : Type} {x : Option α} (h : x.isSome = true) : ∃ y, x = some y := Option.isSome_iff_exists.mp h
theorem same_at {a : Addr} (s : Same H H') (h : (H a).isSome = true) : H' a = H a := by
  obtain ⟨o, e⟩ := isSome_some h
  rw [e]
  exact s _ _ e
theorem Own.covS (o : Own K E L ms ts Γ σ H xt) (fr : ∀ a o, E.H0 a = some o → a ∉ E.io → H' a = some o) : Cov H H' E.S0 E.S0 := fun a q hr e => by
  obtain ⟨h1, h2⟩ := o.s0 a hr
  obtain ⟨y, hy⟩ := isSome_some h1
  refine ⟨hr, ?_⟩
  rw [fr a y hy h2, ← o.fr a y hy h2]
  exact e
/-- nothing that stood has changed -/
theorem Own.same (o : Own K E L ms ts Γ σ H xt) (s : Same H H') : Own K E L ms ts Γ σ H' xt := by
  obtain ⟨fp, g, nd, gd⟩ := o.ex
  have fr : ∀ a q, E.H0 a = some q → a ∉ E.io → H' a = some q := fun a q h1 h2 => s _ _ (o.fr a q h1 h2)
  refine ⟨⟨fp, rG_mono (o.covS fr) (Cov.of_same s fun a h _ => h) (Stb.of_same s) (fun a ha => same_at s (gd a (List.mem_append_left _ ha)).at_) g, nd, fun a ha => ?_⟩, fr, fun a h => ?_, o.s0, fun a h => ?_⟩
  · obtain ⟨h1, h2, h3, h4⟩ := gd a ha
    exact ⟨h1, h2, h3, by rw [same_at s h4]; exact h4⟩
  · obtain ⟨h1, h2⟩ := o.lr a h
    exact ⟨h1, by rw [same_at s h2]; exact h2⟩
  · rw [same_at s (o.iod a h)]
    exact o.iod a h
theorem Own.drop (o : Own K E L ms ts Γ σ H xt) : Own K E L ms ts Γ σ H [] := by
  obtain ⟨fp, g, nd, gd⟩ := o.ex
  refine ⟨⟨fp, g, ?_, fun a ha => gd a (List.mem_append_left _ (by simpa using ha))⟩, o.fr, o.lr, o.s0, o.iod⟩
  rw [List.append_nil]
  exact (List.nodup_append.mp nd).1
theorem Own.mask (o : Own K E L ms ts Γ σ H xt) (bs : List Bool) : Own K E L ms ts (Gam.mask bs Γ) σ H xt := by
  obtain ⟨fp, g, nd, gd⟩ := o.ex
  obtain ⟨fp', g', sb⟩ := rG_mask bs g
  refine ⟨⟨fp', g', nd.sublist (sb.append (List.Sublist.refl _)), fun a ha => gd a ?_⟩, o.fr, o.lr, o.s0, o.iod⟩
  rcases List.mem_append.mp ha with h | h
  · exact List.mem_append_left _ (sb.subset h)
  · exact List.mem_append_right _ h
/-- cells that are new are not the entry's -/
theorem Own.fresh (o : Own K E L ms ts Γ σ H xt) {a : Addr} (h : H a = none) : E.H0 a = none ∧ ¬ L a ∧ ¬ E.S0 a := by
  refine ⟨?_, fun q => ?_, fun q => ?_⟩
  · cases e : E.H0 a with
    | none => rfl
    | some y =>
      by_cases hi : a ∈ E.io
      · have := o.iod a hi
        rw [h] at this
        cases this
      · rw [o.fr a y e hi] at h
        cases h
  · have := (o.lr a q).2
    rw [h] at this
    cases this
  · obtain ⟨h1, h2⟩ := o.s0 a q
    obtain ⟨y, e⟩ := isSome_some h1
    rw [o.fr a y e h2] at h
    cases h
/-- THE MASTER RULE: one name's slot is changed, with its cells; all else stands -/
theorem Own.focus {t : Ty} (i : Mem ts t) {m : Md} (o : Own K E L ms ts Γ σ H xt) (hm : ms[i.ix]? = some m) :
    ∃ s f, σ[i.ix]? = some s ∧ slot K H E.S0 L m t (i.get Γ) s f ∧ f.Nodup ∧ (∀ a ∈ f, Good E L H a ∧ a ∉ xt) ∧
    ∀ (H' : Hp) (L' : Reg) (d' : Option (den t)) (s' : Option V) (f' xt' : List Addr), (∀ a, (H a).isSome = true → a ∉ f → a ∉ xt → H' a = H a) → Stb H H' → (∀ a, L a → L' a) → (∀ a, L' a → L a ∨ a ∈ f ∨ a ∈ xt ∨ H a = none) →
      (∀ a, (H a).isSome = true → (H' a).isSome = true) → (∀ a, L' a → (E.H0 a = none ∨ a ∈ E.io) ∧ (H' a).isSome = true) → slot K H' E.S0 L' m t d' s' f' → (f' ++ xt').Nodup → (∀ a ∈ f' ++ xt', (a ∈ f ∨ a ∈ xt ∨ H a = none) ∧ ¬ L' a ∧ (H' a).isSome = true) →
      Own K E L' ms ts (i.set d' Γ) (σ.set i.ix s') H' xt' := by
  obtain ⟨fp, g, nd, gd⟩ := id o.ex
  obtain ⟨s, f, fa, fb, e1, e2, rfl, e3⟩ := rG_focus i g hm
  have nd1 := List.nodup_append.mp nd
  have nd2 := List.nodup_append.mp nd1.1
  have nd3 := List.nodup_append.mp nd2.2.1
  have fxt : ∀ a ∈ f, a ∉ xt := fun a ha hx => nd1.2.2 a (List.mem_append_right _ (List.mem_append_left _ ha)) a hx rfl
  refine ⟨s, f, e1, e2, nd3.1, fun a ha => ⟨gd a (List.mem_append_left _ (List.mem_append_right _ (List.mem_append_left _ ha))), fxt a ha⟩, fun H' L' d' s' f' xt' c1 c2 c3 c4 c9 c5 c6 c7 c8 => ?_⟩
  have fr : ∀ a q, E.H0 a = some q → a ∉ E.io → H' a = some q := fun a q h1 h2 => by
    have h3 := o.fr a q h1 h2
    have nf : ∀ a', a' = a → Good E L H a' → False := fun a' e z => by
      subst e
      rcases z.new with z | z
      · rw [h1] at z; cases z
      · exact h2 z
    rw [c1 a (by rw [h3]; rfl) (fun z => nf a rfl (gd a (List.mem_append_left _ (List.mem_append_right _ (List.mem_append_left _ z))))) (fun z => nf a rfl (gd a (List.mem_append_right _ z)))]
    exact h3
  -- the other names' cells
  have oth : ∀ a, a ∈ fa ∨ a ∈ fb → a ∈ fa ++ (f ++ fb) ∧ a ∉ f ∧ a ∉ xt := fun a h => by
    rcases h with h | h
    · exact ⟨List.mem_append_left _ h, fun z => nd2.2.2 a h a (List.mem_append_left _ z) rfl, fun z => nd1.2.2 a (List.mem_append_left _ h) a z rfl⟩
    · exact ⟨List.mem_append_right _ (List.mem_append_right _ h), fun z => nd3.2.2 a z a h rfl, fun z => nd1.2.2 a (List.mem_append_right _ (List.mem_append_right _ h)) a z rfl⟩
  have othg : ∀ a, a ∈ fa ∨ a ∈ fb → Good E L H a := fun a h => gd a (List.mem_append_left _ (oth a h).1)
  have othc : ∀ a, a ∈ fa ∨ a ∈ fb → H' a = H a := fun a h => c1 a (othg a h).at_ (oth a h).2.1 (oth a h).2.2
  have covL : Cov H H' L L' := fun a q h e => by
    refine ⟨c3 a h, ?_⟩
    have h2 := (o.lr a h).2
    rw [c1 a h2 (fun z => (gd a (List.mem_append_left _ (List.mem_append_right _ (List.mem_append_left _ z)))).nl h) (fun z => (gd a (List.mem_append_right _ z)).nl h)]
    exact e
  have g0 := e3 none s [] rfl
  have g1 : rG K H' E.S0 L' ms ts (i.set none Γ) (σ.set i.ix s) (fa ++ ([] ++ fb)) := rG_mono (o.covS fr) covL c2 (fun a ha => othc a (by
    rcases List.mem_append.mp ha with h | h
    · exact .inl h
    · exact .inr (by simpa using h))) g0
  obtain ⟨s2, f2, fa2, fb2, q1, q2, q3, q4⟩ := rG_focus i g1 hm
  rw [Mem.get_set] at q2
  have q2 : f2 = [] := q2
  subst q2
  have g2 := q4 d' s' f' c6
  rw [Mem.set_set, List.set_set] at g2
  have e4 : fa2 ++ fb2 = fa ++ fb := by simpa using q3.symm
  have mem4 : ∀ a, a ∈ fa2 ∨ a ∈ fb2 → a ∈ fa ∨ a ∈ fb := fun a h => by
    have : a ∈ fa2 ++ fb2 := List.mem_append.mpr h
    rw [e4] at this
    exact List.mem_append.mp this
  have ndo : (fa2 ++ fb2).Nodup := by
    rw [e4]
    exact List.nodup_append.mpr ⟨nd2.1, nd3.2.1, fun a ha b hb => nd2.2.2 a ha b (List.mem_append_right _ hb)⟩
  have ndo2 := List.nodup_append.mp ndo
  have apart : ∀ a, a ∈ fa2 ∨ a ∈ fb2 → a ∉ f' ++ xt' := fun a h z => by
    have h' := mem4 a h
    rcases (c8 a z).1 with q | q | q
    · exact (oth a h').2.1 q
    · exact (oth a h').2.2 q
    · have := (othg a h').at_
      rw [q] at this
      cases this
  have c7' := List.nodup_append.mp c7
  refine ⟨⟨_, g2, ?_, fun a ha => ?_⟩, fr, c5, o.s0, fun a h => c9 a (o.iod a h)⟩
  · rw [List.append_assoc, List.append_assoc]
    refine List.nodup_append.mpr ⟨ndo2.1, List.nodup_append.mpr ⟨c7'.1, List.nodup_append.mpr ⟨ndo2.2.1, c7'.2.1, fun a ha b hb e => ?_⟩, fun a ha b hb e => ?_⟩, fun a ha b hb e => ?_⟩
    · subst e; exact apart a (.inr ha) (List.mem_append_right _ hb)
    · subst e
      rcases List.mem_append.mp hb with z | z
      · exact apart a (.inr z) (List.mem_append_left _ ha)
      · exact c7'.2.2 a ha a z rfl
    · subst e
      rcases List.mem_append.mp hb with z | z
      · exact apart a (.inl ha) (List.mem_append_left _ z)
      · rcases List.mem_append.mp z with z | z
        · exact ndo2.2.2 a ha a z rfl
        · exact apart a (.inl ha) (List.mem_append_right _ z)
  · have cases' : (a ∈ fa2 ∨ a ∈ fb2) ∨ a ∈ f' ++ xt' := by
      simp only [List.mem_append] at ha ⊢
      rcases ha with (h | h | h) | h
      · exact .inl (.inl h)
      · exact .inr (.inl h)
      · exact .inl (.inr h)
      · exact .inr (.inr h)
    rcases cases' with h | h
    · have h' := mem4 a h
      have gg := othg a h'
      refine ⟨gg.new, fun z => ?_, gg.ns, by rw [othc a h']; exact gg.at_⟩
      rcases c4 a z with q | q | q | q
      · exact gg.nl q
      · exact (oth a h').2.1 q
      · exact (oth a h').2.2 q
      · have := gg.at_
        rw [q] at this
        cases this
    · obtain ⟨q1, q2, q3⟩ := c8 a h
      rcases q1 with q | q | q
      · have gg := gd a (List.mem_append_left _ (List.mem_append_right _ (List.mem_append_left _ q)))
        exact ⟨gg.new, q2, gg.ns, q3⟩
      · have gg := gd a (List.mem_append_right _ q)
        exact ⟨gg.new, q2, gg.ns, q3⟩
      · have ff := o.fresh q
        exact ⟨.inl ff.1, q2, ff.2.2, q3⟩
end

/-! ### what an expression gives -/
inductive Em where
  | o | l | w | b
  deriving DecidableEq
/-- cells made since H -/
def Nw (H H' : Hp) (R : Reg) : Prop := ∀ a, R a → H a = none ∧ (H' a).isSome = true
section
variable (K : PySem.W.Frag) (E : Ent) (L : Reg) (H H' : Hp)
def Rep : Em → (t : Ty) → V → den t → Prop
  | .o, t, v, d => ∃ f Lr, (rO K H' (fun a => L a ∨ Lr a) t).1 v d f ∧ f.Nodup ∧ Nw H H' (· ∈ f) ∧ Nw H H' Lr ∧ ∀ a ∈ f, ¬ Lr a
  | .l, t, v, d => ∃ Lr, (rS K H' (fun a => L a ∨ Lr a) t).1 v d ∧ Nw H H' Lr
  | .w, t, v, d => ∃ Lr, (rS K H' (fun a => E.S0 a ∨ L a ∨ Lr a) t).1 v d ∧ Nw H H' Lr
  | .b, t, v, d => (rS K H' (fun _ => True) t).1 v d
def Rep2 : Em → (t : Ty) → List V → den t → Prop
  | .o, t, v, d => ∃ f Lr, (rO K H' (fun a => L a ∨ Lr a) t).2 v d f ∧ f.Nodup ∧ Nw H H' (· ∈ f) ∧ Nw H H' Lr ∧ ∀ a ∈ f, ¬ Lr a
  | .l, t, v, d => ∃ Lr, (rS K H' (fun a => L a ∨ Lr a) t).2 v d ∧ Nw H H' Lr
  | .w, t, v, d => ∃ Lr, (rS K H' (fun a => E.S0 a ∨ L a ∨ Lr a) t).2 v d ∧ Nw H H' Lr
  | .b, t, v, d => (rS K H' (fun _ => True) t).2 v d
end
/-- o gives l gives w gives b -/
def Em.le : Em → Em → Bool
  | .o, _ => true
  | .l, .o => false
  | .l, _ => true
  | .w, .w => true
  | .w, .b => true
  | .b, .b => true
  | _, _ => false
section
variable {K : PySem.W.Frag} {E : Ent} {L L' : Reg} {H H1 H2 : Hp}
theorem Rep.le {m m' : Em} (h : m.le m' = true) {t : Ty} {v : V} {d : den t} (r : Rep K E L H H1 m t v d) : Rep K E L H H1 m' t v d := by
  have ol : Rep K E L H H1 .o t v d → Rep K E L H H1 .l t v d := fun ⟨f, Lr, h1, h2, h3, h4, h5⟩ =>
    ⟨fun a => Lr a ∨ a ∈ f, (rO_s (fun a h => by rcases h with h | h; exact .inl h; exact .inr (.inl h)) t).1 v d f (fun a ha => .inr (.inr ha)) h1, fun a ha => by rcases ha with q | q; exact h4 a q; exact h3 a q⟩
  have lw : Rep K E L H H1 .l t v d → Rep K E L H H1 .w t v d := fun ⟨Lr, h1, h2⟩ => ⟨Lr, (rS_mono (Cov.of_reg fun a h _ => .inr h) (Stb.refl _) t).1 v d h1, h2⟩
  have wb : Rep K E L H H1 .w t v d → Rep K E L H H1 .b t v d := fun ⟨Lr, h1, h2⟩ => (rS_mono (Cov.of_reg fun a h _ => True.intro) (Stb.refl _) t).1 v d h1
  cases m <;> cases m' <;> first | exact r | exact absurd h (by decide) | exact ol r | exact lw r | exact wb r | exact lw (ol r) | exact wb (lw r) | exact wb (lw (ol r))
/-- without cells: all ways -/
theorem Rep.frz {t : Ty} (q : t.frz = true) (m : Em) {R : Reg} {v : V} {d : den t} (r : (rS K H1 R t).1 v d) : Rep K E L H H1 m t v d := by
  cases m with
  | o => exact ⟨[], fun _ => False, (rS_o t q).1 v d r, List.nodup_nil, fun a h => by simp at h, fun a h => h.elim, fun a h => by simp at h⟩
  | l => exact ⟨fun _ => False, (rS_frz t q).1 v d r, fun a h => h.elim⟩
  | w => exact ⟨fun _ => False, (rS_frz t q).1 v d r, fun a h => h.elim⟩
  | b => exact (rS_frz t q).1 v d r
/-- read later -/
theorem Rep.same {m : Em} {t : Ty} {v : V} {d : den t} (s : Same H1 H2) (r : Rep K E L H H1 m t v d) : Rep K E L H H2 m t v d := by
  have nw : ∀ {R : Reg}, Nw H H1 R → Nw H H2 R := fun {R} h a ha => ⟨(h a ha).1, by rw [same_at s (h a ha).2]; exact (h a ha).2⟩
  cases m with
  | o =>
    obtain ⟨f, Lr, h1, h2, h3, h4, h5⟩ := r
    exact ⟨f, Lr, (rO_mono (Cov.of_same s fun a h _ => h) (Stb.of_same s) t).1 v d f (fun a ha => same_at s (h3 a ha).2) h1, h2, nw h3, nw h4, h5⟩
  | l =>
    obtain ⟨Lr, h1, h2⟩ := r
    exact ⟨Lr, (rS_mono (Cov.of_same s fun a h _ => h) (Stb.of_same s) t).1 v d h1, nw h2⟩
  | w =>
    obtain ⟨Lr, h1, h2⟩ := r
    exact ⟨Lr, (rS_mono (Cov.of_same s fun a h _ => h) (Stb.of_same s) t).1 v d h1, nw h2⟩
  | b => exact (rS_mono (Cov.of_same s fun a h _ => h) (Stb.of_same s) t).1 v d r
/-- made since an earlier heap -/
theorem Rep.older {m : Em} {t : Ty} {v : V} {d : den t} (s : Same H H1) (r : Rep K E L H1 H2 m t v d) : Rep K E L H H2 m t v d := by
  have nw : ∀ {R : Reg}, Nw H1 H2 R → Nw H H2 R := fun {R} h a ha => ⟨s.free (h a ha).1, (h a ha).2⟩
  cases m with
  | o =>
    obtain ⟨f, Lr, h1, h2, h3, h4, h5⟩ := r
    exact ⟨f, Lr, h1, h2, nw h3, nw h4, h5⟩
  | l =>
    obtain ⟨Lr, h1, h2⟩ := r
    exact ⟨Lr, h1, nw h2⟩
  | w =>
    obtain ⟨Lr, h1, h2⟩ := r
    exact ⟨Lr, h1, nw h2⟩
  | b => exact r
end

/-! ### the judgements -/
section
variable (K : PySem.W.Frag) (ms : List Md) (ts : List Ty)
/-- an expression that changes nothing -/
def RP (te : TE) (m : Em) (t : Ty) (F : Gam ts → Option (den t)) : Prop :=
  ∀ (E : Ent) (L : Reg) (Γ : Gam ts) (σ : St) (H : Hp) (xt : List Addr) (Q : VK) (d : den t), Own K E L ms ts Γ σ H xt → F Γ = some d → (∀ v H', Same H H' → Rep K E L H H' m t v d → Q v H') → te σ H Q
/-- a row of expressions -/
def RA (ta : TA) (m : Em) (b : Ty) (F : Gam ts → Option (den b)) : Prop :=
  ∀ (E : Ent) (L : Reg) (Γ : Gam ts) (σ : St) (H : Hp) (xt : List Addr) (Q : List V → Hp → Prop) (d : den b), Own K E L ms ts Γ σ H xt → F Γ = some d → (∀ vs H', Same H H' → Rep2 K E L H H' m b vs d → Q vs H') → ta σ H Q
/-- .. of one type -/
def RAs (ta : TA) (m : Em) (t : Ty) (F : Gam ts → Option (List (den t))) : Prop :=
  ∀ (E : Ent) (L : Reg) (Γ : Gam ts) (σ : St) (H : Hp) (xt : List Addr) (Q : List V → Hp → Prop) (d : List (den t)), Own K E L ms ts Γ σ H xt → F Γ = some d → (∀ vs H', Same H H' → F2 (Rep K E L H H' m t) vs d → Q vs H') → ta σ H Q
/-- a test -/
def RT (tt : TT) (F : Gam ts → Option Bool) : Prop :=
  ∀ (E : Ent) (L : Reg) (Γ : Gam ts) (σ : St) (H : Hp) (xt : List Addr) (Q : Bool → Hp → Prop) (c : Bool), Own K E L ms ts Γ σ H xt → F Γ = some c → (∀ H', Same H H' → Q c H') → tt σ H Q
end
/-- how a block ends -/
inductive Fl (τ ρ : Type) where
  | nx (γ : τ) | bk (γ : τ) | ct (γ : τ) | rt (r : ρ) (γ : τ)
/-- names that are not to be stored stay -/
def KeepF (ms : List Md) (ts : List Ty) (Γ Γ' : Gam ts) (σ σ' : St) : Prop := (∀ (t : Ty) (i : Mem ts t) (m : Md), ms[i.ix]? = some m → m.hard = true → i.get Γ' = i.get Γ) ∧ ∀ (n : Nat) (m : Md), ms[n]? = some m → m.fixd = true → σ'[n]? = σ[n]?
theorem KeepF.refl {ms : List Md} {ts : List Ty} {Γ : Gam ts} {σ : St} : KeepF ms ts Γ Γ σ σ := ⟨fun _ _ _ _ _ => rfl, fun _ _ _ _ => rfl⟩
theorem KeepF.trans {ms : List Md} {ts : List Ty} {Γ Γ1 Γ2 : Gam ts} {σ σ1 σ2 : St} (a : KeepF ms ts Γ Γ1 σ σ1) (b : KeepF ms ts Γ1 Γ2 σ1 σ2) : KeepF ms ts Γ Γ2 σ σ2 := ⟨fun t i m h hh => (b.1 t i m h hh).trans (a.1 t i m h hh), fun n m h hh => (b.2 n m h hh).trans (a.2 n m h hh)⟩
theorem hard_fixd {m : Md} (h : m.hard = true) : m.fixd = true := by cases m <;> first | rfl | cases h
structure Ev (ms : List Md) (ts : List Ty) (L : Reg) (Γ : Gam ts) (σ : St) (H : Hp) (L' : Reg) (Γ' : Gam ts) (σ' : St) (H' : Hp) : Prop where
  sub : ∀ a, L a → L' a
  cell : ∀ a o, L a → H a = some o → H' a = some o
  stb : Stb H H'
  keep : KeepF ms ts Γ Γ' σ σ'
theorem Ev.trans {ms : List Md} {ts : List Ty} {L L1 L2 : Reg} {Γ Γ1 Γ2 : Gam ts} {σ σ1 σ2 : St} {H H1 H2 : Hp} (a : Ev ms ts L Γ σ H L1 Γ1 σ1 H1) (b : Ev ms ts L1 Γ1 σ1 H1 L2 Γ2 σ2 H2) : Ev ms ts L Γ σ H L2 Γ2 σ2 H2 :=
  ⟨fun c h => b.sub c (a.sub c h), fun c o h e => b.cell c o (a.sub c h) (a.cell c o h e), a.stb.trans b.stb, a.keep.trans b.keep⟩
theorem Ev.same {ms : List Md} {ts : List Ty} {L : Reg} {Γ : Gam ts} {σ : St} {H H' : Hp} (s : Same H H') : Ev ms ts L Γ σ H L Γ σ H' :=
  ⟨fun _ h => h, fun _ _ _ e => s _ _ e, Stb.of_same s, KeepF.refl⟩
/-- how a def hands back -/
inductive Rm where
  | o | l | w
  deriving DecidableEq
section
variable (K : PySem.W.Frag) (E : Ent)
def RRep (L : Reg) (H' : Hp) : Rm → (ρ : Ty) → V → den ρ → List Addr → Prop
  | .o, ρ, v, d, xt => (rO K H' L ρ).1 v d xt
  | .l, ρ, v, d, xt => xt = [] ∧ (rS K H' L ρ).1 v d
  | .w, ρ, v, d, xt => xt = [] ∧ (rS K H' (fun a => E.S0 a ∨ L a) ρ).1 v d
def Post (ms : List Md) (ts : List Ty) (rm : Rm) (ρ : Ty) (L : Reg) (Γ : Gam ts) (σ : St) (H : Hp) (D : Ends) : Fl (Gam ts) (den ρ) → Prop
  | .nx Γ' => ∀ L' σ' H', Own K E L' ms ts Γ' σ' H' [] → Ev ms ts L Γ σ H L' Γ' σ' H' → D.nx σ' H'
  | .bk Γ' => ∀ L' σ' H', Own K E L' ms ts Γ' σ' H' [] → Ev ms ts L Γ σ H L' Γ' σ' H' → D.bk σ' H'
  | .ct Γ' => ∀ L' σ' H', Own K E L' ms ts Γ' σ' H' [] → Ev ms ts L Γ σ H L' Γ' σ' H' → D.ct σ' H'
  | .rt d Γ' => ∀ L' σ' H' v xt, Own K E L' ms ts Γ' σ' H' xt → Ev ms ts L Γ σ H L' Γ' σ' H' → RRep K E L' H' rm ρ v d xt → D.rt v H'
end
/-- a statement -/
def RS (K : PySem.W.Frag) (ms : List Md) (ts : List Ty) (st : TS) (rm : Rm) (ρ : Ty) (F : Gam ts → Option (Fl (Gam ts) (den ρ))) : Prop :=
  ∀ (E : Ent) (L : Reg) (Γ : Gam ts) (σ : St) (H : Hp) (D : Ends) (f : Fl (Gam ts) (den ρ)), Own K E L ms ts Γ σ H [] → F Γ = some f → Post K E ms ts rm ρ L Γ σ H D f → st D σ H
/-- an expression that may change owned names -/
def RE (K : PySem.W.Frag) (ms : List Md) (ts : List Ty) (te : TE) (m : Em) (t : Ty) (F : Gam ts → Option (den t × Gam ts)) : Prop :=
  ∀ (E : Ent) (L : Reg) (Γ : Gam ts) (σ : St) (H : Hp) (Q : VK) (d : den t) (Γ' : Gam ts), Own K E L ms ts Γ σ H [] → F Γ = some (d, Γ') →
    (∀ v L' H' xt, Own K E L' ms ts Γ' σ H' xt → Ev ms ts L Γ σ H L' Γ' σ H' → (match m with
      | .o => (rO K H' L' t).1 v d xt
      | .l => xt = [] ∧ (rS K H' L' t).1 v d
      | .w => xt = [] ∧ (rS K H' (fun a => E.S0 a ∨ L' a) t).1 v d
      | .b => xt = [] ∧ (rS K H' (fun _ => True) t).1 v d) → Q v H') → te σ H Q
end VV

/-! VRule: the rules for expressions that change nothing. -/
namespace VV
open PySem L2

/-! ### mirrors are put together by these -/
def eC {G α : Type} (d : α) : G → Option α := fun _ => some d
def eV {ts : List Ty} {t : Ty} (i : Mem ts t) : Gam ts → Option (den t) := fun Γ => i.get Γ
def e1 {G α β : Type} (f : α → Option β) (Fa : G → Option α) : G → Option β := fun Γ => (Fa Γ).bind f
def e2 {G α β γ : Type} (f : α → β → Option γ) (Fa : G → Option α) (Fb : G → Option β) : G → Option γ := fun Γ => (Fa Γ).bind fun a => (Fb Γ).bind fun b => f a b
def e3 {G α β γ δ : Type} (f : α → β → γ → Option δ) (Fa : G → Option α) (Fb : G → Option β) (Fc : G → Option γ) : G → Option δ := fun Γ => (Fa Γ).bind fun a => (Fb Γ).bind fun b => (Fc Γ).bind fun c => f a b c
def eIf {G α : Type} (Fc : G → Option Bool) (Fa Fb : G → Option α) : G → Option α := fun Γ => (Fc Γ).bind fun c => if c = true then Fa Γ else Fb Γ
/-- c and d (d is looked at only where c is True); c or d; not c -/
def eAnd {G : Type} (Fa Fb : G → Option Bool) : G → Option Bool := fun Γ => (Fa Γ).bind fun c => if c = true then Fb Γ else some false
def eOr {G : Type} (Fa Fb : G → Option Bool) : G → Option Bool := fun Γ => (Fa Γ).bind fun c => if c = true then some true else Fb Γ
def eNot {G : Type} (Fa : G → Option Bool) : G → Option Bool := fun Γ => (Fa Γ).bind fun c => some (!c)
def eCons {G α β : Type} (Fa : G → Option α) (Fb : G → Option β) : G → Option (α × β) := fun Γ => (Fa Γ).bind fun a => (Fb Γ).bind fun b => some (a, b)
def eNil {G α : Type} : G → Option (List α) := fun _ => some []
def eSnoc {G α : Type} (Fa : G → Option α) (Fb : G → Option (List α)) : G → Option (List α) := fun Γ => (Fa Γ).bind fun a => (Fb Γ).bind fun b => some (a :: b)
def okIf {α : Type} (c : Bool) (a : α) : Option α := if c then some a else none

section
variable {K : PySem.W.Frag} {ms : List Md} {ts : List Ty} {E : Ent} {L : Reg} {Γ : Gam ts} {σ : St} {H H' : Hp} {xt : List Addr}
theorem bind_some {α β : Type} {x : Option α} {f : α → Option β} {b : β} (h : x.bind f = some b) : ∃ a, x = some a ∧ f a = some b := by
  cases x with
  | none => cases h
  | some a => exact ⟨a, rfl, h⟩

/-! ### ways of giving -/
theorem rp_le {te : TE} {m m' : Em} {t : Ty} {F : Gam ts → Option (den t)} (h : RP K ms ts te m t F) (hl : m.le m' = true := by rfl) : RP K ms ts te m' t F :=
  fun E L Γ σ H xt Q d o e q => h E L Γ σ H xt Q d o e fun v H' s r => q v H' s (r.le hl)
theorem rp_frz {te : TE} {m : Em} (m' : Em) {t : Ty} {F : Gam ts → Option (den t)} (h : RP K ms ts te m t F) (hf : t.frz = true := by rfl) : RP K ms ts te m' t F :=
  fun E L Γ σ H xt Q d o e q => h E L Γ σ H xt Q d o e fun v H' s r => q v H' s (Rep.frz hf m' (r.le (m' := .b) (by cases m <;> rfl)))
theorem Rep.b {m : Em} {t : Ty} {v : V} {d : den t} {H1 : Hp} (r : Rep K E L H H1 m t v d) : (rS K H1 (fun _ => True) t).1 v d := r.le (m' := .b) (by cases m <;> rfl)

/-! ### names and constants -/
theorem Own.look {t : Ty} (i : Mem ts t) {m : Md} {d : den t} (o : Own K E L ms ts Γ σ H xt) (hm : ms[i.ix]? = some m) (hd : i.get Γ = some d) : ∃ v f, σ[i.ix]? = some (some v) ∧ repM K H E.S0 L m t v d f ∧ ∀ a ∈ f, Good E L H a := by
  obtain ⟨s, f, e1, e2, _, e4, _⟩ := o.focus i hm
  rw [hd] at e2
  obtain ⟨v, rfl, r⟩ := e2
  exact ⟨v, f, e1, r, fun a ha => (e4 a ha).1⟩
theorem repM_b {m : Md} {t : Ty} {v : V} {d : den t} {f : List Addr} {S0 : Reg} (h : repM K H S0 L m t v d f) : (rS K H (fun _ => True) t).1 v d := by
  cases m with
  | o => exact (rO_s (fun _ _ => True.intro) t).1 v d f (fun _ _ => True.intro) h
  | k => exact (rO_s (fun _ _ => True.intro) t).1 v d f (fun _ _ => True.intro) h
  | r => exact (rO_s (fun _ _ => True.intro) t).1 v d f (fun _ _ => True.intro) h
  | l => exact (rS_mono (Cov.of_reg fun _ _ _ => True.intro) (Stb.refl H) t).1 v d h.2
  | w => exact (rS_mono (Cov.of_reg fun _ _ _ => True.intro) (Stb.refl H) t).1 v d h.2
  | f => exact (rS_mono (Cov.of_reg fun _ _ _ => True.intro) (Stb.refl H) t).1 v d h.2
/-- a name, only looked at -/
theorem rp_var {t : Ty} (i : Mem ts t) {n : Nat} {m : Md} (hm : ms[i.ix]? = some m := by rfl) (hn : i.ix = n := by rfl) : RP K ms ts (tVar n) .b t (eV i) := fun E L Γ σ H xt Q d o e q => by
  subst hn
  obtain ⟨v, f, h1, h2, _⟩ := o.look i hm e
  exact ⟨v, h1, q v H (Same.refl H) (repM_b h2)⟩
/-- a shared name -/
theorem rp_varw {t : Ty} (i : Mem ts t) {n : Nat} {m : Md} (hm : ms[i.ix]? = some m := by rfl) (hk : (m == .w || m == .f || m == .l) = true := by rfl) (hn : i.ix = n := by rfl) : RP K ms ts (tVar n) .w t (eV i) := fun E L Γ σ H xt Q d o e q => by
  subst hn
  obtain ⟨v, f, h1, h2, _⟩ := o.look i hm e
  have wk : ∀ {R : Reg}, (∀ a, R a → E.S0 a ∨ L a) → (rS K H R t).1 v d → Rep K E L H H .w t v d := fun hR r =>
    ⟨fun _ => False, (rS_mono (Cov.of_reg fun a h _ => (hR a h).elim .inl fun z => .inr (.inl z)) (Stb.refl H) t).1 v d r, fun _ h => h.elim⟩
  refine ⟨v, h1, q v H (Same.refl H) ?_⟩
  cases m with
  | o => exact absurd hk (by decide)
  | k => exact absurd hk (by decide)
  | r => exact absurd hk (by decide)
  | l => exact wk (fun a h => .inr h) h2.2
  | w => exact wk (fun a h => h) h2.2
  | f => exact wk (fun a h => h) h2.2
theorem rp_varl {t : Ty} (i : Mem ts t) {n : Nat} (hm : ms[i.ix]? = some .l := by rfl) (hn : i.ix = n := by rfl) : RP K ms ts (tVar n) .l t (eV i) := fun E L Γ σ H xt Q d o e q => by
  subst hn
  obtain ⟨v, f, h1, h2, _⟩ := o.look i hm e
  exact ⟨v, h1, q v H (Same.refl H) ⟨fun _ => False, (rS_mono (Cov.of_reg fun a h _ => .inl h) (Stb.refl H) t).1 v d h2.2, fun _ h => h.elim⟩⟩
theorem rep_atom {m : Em} {t : Ty} {v : V} {d : den t} (hf : t.frz = true) (h : (rS K H' (fun _ => True) t).1 v d) : Rep K E L H H' m t v d := Rep.frz hf m h
theorem rp_const {m : Em} {t : Ty} {v : V} {d : den t} (hf : t.frz = true) (h : ∀ H, (rS K H (fun _ => True) t).1 v d) : RP K ms ts (tC v) m t (eC d) := fun E L Γ σ H xt Q d' o e q => by
  cases e
  exact q v H (Same.refl H) (rep_atom hf (h H))
theorem rp_int {m : Em} {i : Int} : RP K ms ts (tC (.int i)) m .int (eC i) := rp_const rfl fun _ => rfl
theorem rp_bool {m : Em} {b : Bool} : RP K ms ts (tC (.bl b)) m .bool (eC b) := rp_const rfl fun _ => rfl
theorem rp_str {m : Em} {x : Str} (h : PyData.strOk x = true := by decide +kernel) : RP K ms ts (tC (.str x)) m .str (eC x) := rp_const rfl fun _ => ⟨rfl, h⟩
theorem rp_non {m : Em} : RP K ms ts (tC .non) m .non (eC ()) := rp_const rfl fun _ => rfl
/-- None where something or None is wanted -/
theorem rp_noneO {m : Em} {t : Ty} : RP K ms ts (tC .non) m (.opt t) (eC none) := fun E L Γ σ H xt Q d' o e q => by
  cases e
  refine q .non H (Same.refl H) ?_
  cases m with
  | o => exact ⟨[], fun _ => False, ⟨rfl, rfl⟩, List.nodup_nil, fun a h => by simp at h, fun a h => h.elim, fun a h => by simp at h⟩
  | l => exact ⟨fun _ => False, rfl, fun a h => h.elim⟩
  | w => exact ⟨fun _ => False, rfl, fun a h => h.elim⟩
  | b => exact rfl
/-- a thing where something or None is wanted -/
def Ty.solid : Ty → Bool
  | .non => false
  | .any => false
  | .opt _ => false
  | .own _ => false
  | _ => true
theorem rS_solid {R : Reg} {t : Ty} (h : t.solid = true) {v : V} {d : den t} (r : (rS K H R t).1 v d) : v ≠ .non := by
  cases t with
  | bool => rintro rfl; cases r
  | int => rintro rfl; cases r
  | str => rintro rfl; cases r.1
  | vtup t => obtain ⟨a, _, rfl, _⟩ := r; exact fun z => by cases z
  | list t => obtain ⟨a, _, rfl, _⟩ := r; exact fun z => by cases z
  | hl b => obtain ⟨a, _, rfl, _⟩ := r; exact fun z => by cases z
  | dict k t => obtain ⟨a, rfl, _⟩ := r; exact fun z => by cases z
  | tup b => obtain ⟨a, _, rfl, _⟩ := r; exact fun z => by cases z
  | last a => exact r.elim
  | cons a b => exact r.elim
  | _ => cases h
theorem rp_some {te : TE} {m : Em} {t : Ty} {F : Gam ts → Option (den t)} (h : RP K ms ts te m t F) (hs : t.solid = true := by rfl) : RP K ms ts te m (.opt t) (e1 (fun d => some (some d)) F) := fun E L Γ σ H xt Q d o e q => by
  obtain ⟨d', e1, e2⟩ := bind_some e
  cases e2
  refine h E L Γ σ H xt Q d' o e1 fun v H' s r => q v H' s ?_
  have ne : v ≠ .non := rS_solid hs r.b
  cases m with
  | o =>
    obtain ⟨f, Lr, h1, h2, h3⟩ := r
    exact ⟨f, Lr, ⟨ne, .inl h1⟩, h2, h3⟩
  | l =>
    obtain ⟨Lr, h1, h2⟩ := r
    exact ⟨Lr, ⟨ne, h1⟩, h2⟩
  | w =>
    obtain ⟨Lr, h1, h2⟩ := r
    exact ⟨Lr, ⟨ne, h1⟩, h2⟩
  | b => exact ⟨ne, r⟩

/-! ### operators by values -/
/-- a two-place operation on values -/
def V2 (K : PySem.W.Frag) (r : R2) (m : Em) (t1 t2 t : Ty) (f : den t1 → den t2 → Option (den t)) : Prop :=
  ∀ (E : Ent) (L : Reg) (H : Hp) (v w : V) (a : den t1) (b : den t2) (c : den t) (Q : VK), (rS K H (fun _ => True) t1).1 v a → (rS K H (fun _ => True) t2).1 w b → f a b = some c → (∀ v' H', Same H H' → Rep K E L H H' m t v' c → Q v' H') → r v w H Q
theorem rp_op {r : R2} {m m1 m2 : Em} {t1 t2 t : Ty} {f : den t1 → den t2 → Option (den t)} {ta tb : TE} {Fa : Gam ts → Option (den t1)} {Fb : Gam ts → Option (den t2)} (hv : V2 K r m t1 t2 t f) (ha : RP K ms ts ta m1 t1 Fa) (hb : RP K ms ts tb m2 t2 Fb) :
    RP K ms ts (tOp r ta tb) m t (e2 f Fa Fb) := fun E L Γ σ H xt Q d o e q => by
  obtain ⟨a, ea, e⟩ := bind_some e
  obtain ⟨b, eb, e⟩ := bind_some e
  refine ha E L Γ σ H xt _ a o ea fun v H1 s1 r1 => ?_
  refine hb E L Γ σ H1 xt _ b (o.same s1) eb fun w H2 s2 r2 => ?_
  refine hv E L H2 v w a b d Q ((rS_mono (Cov.of_same s2 fun _ h _ => h) (Stb.of_same s2) t1).1 v a r1.b) r2.b e fun v' H3 s3 r3 => ?_
  exact q v' H3 ((s1.trans s2).trans s3) (r3.older (s1.trans s2))
theorem v2_I0 {m : Em} {g : Int → Int → Int} : V2 K (rI0 fun i j => .int (g i j)) m .int .int .int (fun a b => some (g a b)) := fun E L H v w a b c Q ra rb e q => by
  cases e
  exact ⟨a, b, ra, rb, q _ H (Same.refl H) (rep_atom rfl rfl)⟩
theorem v2_I {m : Em} {C : Int → Int → Prop} {k : Int → Int → Bool} (hk : ∀ i j, k i j = true → C i j) {g : Int → Int → Int} : V2 K (rI C fun i j => .int (g i j)) m .int .int .int (fun a b => okIf (k a b) (g a b)) := fun E L H v w a b c Q ra rb e q => by
  dsimp only [okIf] at e
  split at e
  · rename_i h
    cases e
    exact ⟨a, b, ra, rb, hk a b h, q _ H (Same.refl H) (rep_atom rfl rfl)⟩
  · cases e
theorem v2_B0 {m : Em} {g : Int → Int → Bool} : V2 K (rI0 fun i j => .bl (g i j)) m .int .int .bool (fun a b => some (g a b)) := fun E L H v w a b c Q ra rb e q => by
  cases e
  exact ⟨a, b, ra, rb, q _ H (Same.refl H) (rep_atom rfl rfl)⟩
abbrev fAdd (a b : Int) : Option Int := some (a + b)
abbrev fSub (a b : Int) : Option Int := some (a - b)
def mulOk (a b : Int) : Bool := decide (a.natAbs.log2 + b.natAbs.log2 < 1000000)
def divOk (b : Int) : Bool := decide (0 < b ∧ b.natAbs.log2 < 9000)
abbrev fMul (a b : Int) : Option Int := okIf (mulOk a b) (a * b)
abbrev fDiv (a b : Int) : Option Int := okIf (divOk b) (a / b)
abbrev fMod (a b : Int) : Option Int := okIf (decide (0 < b)) (a % b)
def powOk (a b : Int) : Bool := decide (0 ≤ b ∧ b ≤ 1000000 ∧ a.natAbs < 2 ^ 64)
abbrev fPow (a b : Int) : Option Int := okIf (powOk a b) (a ^ b.toNat)
theorem v_add {m : Em} : V2 K (rI0 fun i j => .int (i + j)) m .int .int .int fAdd := v2_I0
theorem v_sub {m : Em} : V2 K (rI0 fun i j => .int (i - j)) m .int .int .int fSub := v2_I0
theorem v_mul {m : Em} : V2 K (rI CMulW fun i j => .int (i * j)) m .int .int .int fMul := v2_I fun i j h => by have h := of_decide_eq_true h; exact h
theorem v_div {m : Em} : V2 K (rI CDivW fun i j => .int (i / j)) m .int .int .int fDiv := v2_I (k := fun _ b => divOk b) fun i j h => by have h := of_decide_eq_true h; exact h
theorem v_mod {m : Em} : V2 K (rI (fun _ j => 0 < j) fun i j => .int (i % j)) m .int .int .int fMod := v2_I (k := fun _ b => decide (0 < b)) fun i j h => of_decide_eq_true h
theorem v_pow {m : Em} : V2 K (rI CPow fun i j => .int (i ^ j.toNat)) m .int .int .int fPow := v2_I fun i j h => by have h := of_decide_eq_true h; exact h
abbrev fLt (a b : Int) : Option Bool := some (decide (a < b))
abbrev fLe (a b : Int) : Option Bool := some (decide (a ≤ b))
abbrev fGt (a b : Int) : Option Bool := some (decide (b < a))
abbrev fGe (a b : Int) : Option Bool := some (decide (b ≤ a))
theorem v_lt {m : Em} : V2 K (rI0 fun i j => .bl (decide (i < j))) m .int .int .bool fLt := v2_B0
theorem v_le {m : Em} : V2 K (rI0 fun i j => .bl (decide (i ≤ j))) m .int .int .bool fLe := v2_B0
theorem v_gt {m : Em} : V2 K (rI0 fun i j => .bl (decide (j < i))) m .int .int .bool fGt := v2_B0
theorem v_ge {m : Em} : V2 K (rI0 fun i j => .bl (decide (j ≤ i))) m .int .int .bool fGe := v2_B0
abbrev fEqI (a b : Int) : Option Bool := some (decide (a = b))
abbrev fNeI (a b : Int) : Option Bool := some (!decide (a = b))
abbrev fEqS (a b : Str) : Option Bool := some (decide (a = b))
abbrev fNeS (a b : Str) : Option Bool := some (!decide (a = b))
abbrev fEqB (a b : Bool) : Option Bool := some (decide (a = b))
abbrev fNeB (a b : Bool) : Option Bool := some (!decide (a = b))
theorem v_eqI {m : Em} : V2 K rEq m .int .int .bool fEqI := fun E L H v w a b c Q ra rb e q => by
  cases e; cases ra; cases rb
  refine ⟨rfl, q _ H (Same.refl H) (rep_atom rfl ?_)⟩
  show V.bl _ = V.bl _
  simp
theorem v_neI {m : Em} : V2 K rNe m .int .int .bool fNeI := fun E L H v w a b c Q ra rb e q => by
  cases e; cases ra; cases rb
  refine ⟨rfl, q _ H (Same.refl H) (rep_atom rfl ?_)⟩
  show V.bl _ = V.bl _
  simp
theorem v_eqS {m : Em} : V2 K rEq m .str .str .bool fEqS := fun E L H v w a b c Q ra rb e q => by
  obtain ⟨rfl, _⟩ := ra; obtain ⟨rfl, _⟩ := rb; cases e
  refine ⟨rfl, q _ H (Same.refl H) (rep_atom rfl ?_)⟩
  show V.bl _ = V.bl _
  simp
theorem v_neS {m : Em} : V2 K rNe m .str .str .bool fNeS := fun E L H v w a b c Q ra rb e q => by
  obtain ⟨rfl, _⟩ := ra; obtain ⟨rfl, _⟩ := rb; cases e
  refine ⟨rfl, q _ H (Same.refl H) (rep_atom rfl ?_)⟩
  show V.bl _ = V.bl _
  simp
theorem v_eqB {m : Em} : V2 K rEq m .bool .bool .bool fEqB := fun E L H v w a b c Q ra rb e q => by
  cases e; cases ra; cases rb
  refine ⟨rfl, q _ H (Same.refl H) (rep_atom rfl ?_)⟩
  show V.bl _ = V.bl _
  simp
theorem v_neB {m : Em} : V2 K rNe m .bool .bool .bool fNeB := fun E L H v w a b c Q ra rb e q => by
  cases e; cases ra; cases rb
  refine ⟨rfl, q _ H (Same.refl H) (rep_atom rfl ?_)⟩
  show V.bl _ = V.bl _
  simp
/-- is None, is not None -/
theorem v_isN {m : Em} {t : Ty} : V2 K (fun x y H Q => y = .non ∧ Q (.bl (decide (x = .non))) H) m (.opt t) .non .bool (fun a _ => some a.isNone) := fun E L H v w a b c Q ra rb e q => by
  cases e; cases rb
  refine ⟨rfl, q _ H (Same.refl H) (rep_atom rfl ?_)⟩
  show V.bl _ = V.bl _
  cases a with
  | none => cases (show v = .non from ra); rfl
  | some x => simp [(show v ≠ .non ∧ _ from ra).1]
theorem v_notN {m : Em} {t : Ty} : V2 K (fun x y H Q => y = .non ∧ Q (.bl (!decide (x = .non))) H) m (.opt t) .non .bool (fun a _ => some a.isSome) := fun E L H v w a b c Q ra rb e q => by
  cases e; cases rb
  refine ⟨rfl, q _ H (Same.refl H) (rep_atom rfl ?_)⟩
  show V.bl _ = V.bl _
  cases a with
  | none => cases (show v = .non from ra); rfl
  | some x => simp [(show v ≠ .non ∧ _ from ra).1]
/-- texts -/
def lenOk (n : Nat) : Bool := decide (n ≤ sizeLine)
def fCat (a b : Str) : Option Str := okIf (lenOk (a.length + b.length)) (a ++ b)
theorem strOk_append {a b : Str} (h : PyData.strOk a = true) (h' : PyData.strOk b = true) : PyData.strOk (a ++ b) = true := by
  unfold PyData.strOk at *
  show (a.cps ++ b.cps).all _ = true
  rw [Array.all_append, h, h']
  rfl
theorem v_cat {m : Em} : V2 K (fun x y H Q => ∃ i j, x = .str i ∧ y = .str j ∧ i.length + j.length ≤ sizeLine ∧ Q (.str (i ++ j)) H) m .str .str .str fCat := fun E L H v w a b c Q ra rb e q => by
  unfold fCat okIf at e
  split at e
  · rename_i h
    cases e
    exact ⟨a, b, ra.1, rb.1, of_decide_eq_true h, q _ H (Same.refl H) (rep_atom rfl ⟨rfl, strOk_append ra.2 rb.2⟩)⟩
  · cases e
def fInS (a b : Str) : Option Bool := some (!(Builtin.Str.occurrences b a 0 b.length 1).isEmpty)
def fNotInS (a b : Str) : Option Bool := some (!(!(Builtin.Str.occurrences b a 0 b.length 1).isEmpty))
theorem v_inS {m : Em} : V2 K (fun x y H Q => ∃ i j, x = .str i ∧ y = .str j ∧ Q (.bl (!(Builtin.Str.occurrences j i 0 j.length 1).isEmpty)) H) m .str .str .bool fInS := fun E L H v w a b c Q ra rb e q => by
  cases e
  exact ⟨a, b, ra.1, rb.1, q _ H (Same.refl H) (rep_atom rfl rfl)⟩
theorem v_notInS {m : Em} : V2 K (fun x y H Q => ∃ i j, x = .str i ∧ y = .str j ∧ Q (.bl (!(!(Builtin.Str.occurrences j i 0 j.length 1).isEmpty))) H) m .str .str .bool fNotInS := fun E L H v w a b c Q ra rb e q => by
  cases e
  exact ⟨a, b, ra.1, rb.1, q _ H (Same.refl H) (rep_atom rfl rfl)⟩

/-! ### unary -/
theorem rp_neg {m m1 : Em} {ta : TE} {Fa : Gam ts → Option Int} (ha : RP K ms ts ta m1 .int Fa) : RP K ms ts (tUn (rU fun i => .int (-i)) ta) m .int (e1 (fun a => some (-a)) Fa) := fun E L Γ σ H xt Q d o e q => by
  obtain ⟨a, ea, e⟩ := bind_some e
  cases e
  exact ha E L Γ σ H xt _ a o ea fun v H1 s1 r1 => ⟨a, r1.b, q _ H1 s1 (rep_atom rfl rfl)⟩

/-! ### tests -/
theorem rt_val {te : TE} {m : Em} {F : Gam ts → Option Bool} (h : RP K ms ts te m .bool F) : RT K ms ts (tB te) F := fun E L Γ σ H xt Q c o e q => h E L Γ σ H xt _ c o e fun v H' s r => ⟨c, r.b, q H' s⟩
theorem rt_test {te : TE} {m : Em} {F : Gam ts → Option Bool} (h : RP K ms ts te m .bool F) : RT K ms ts (tTest te) F := rt_val h
theorem rt_and {ta tb : TT} {Fa Fb : Gam ts → Option Bool} (ha : RT K ms ts ta Fa) (hb : RT K ms ts tb Fb) : RT K ms ts (tAnd ta tb) (eAnd Fa Fb) := fun E L Γ σ H xt Q c o e q => by
  obtain ⟨a, ea, e⟩ := bind_some e
  refine ha E L Γ σ H xt _ a o ea fun H1 s1 => ?_
  cases a with
  | true =>
    rw [if_pos rfl] at e ⊢
    exact hb E L Γ σ H1 xt _ c (o.same s1) e fun H2 s2 => q H2 (s1.trans s2)
  | false =>
    rw [if_neg Bool.false_ne_true] at e ⊢
    cases e
    exact q H1 s1
theorem rt_or {ta tb : TT} {Fa Fb : Gam ts → Option Bool} (ha : RT K ms ts ta Fa) (hb : RT K ms ts tb Fb) : RT K ms ts (tOr ta tb) (eOr Fa Fb) := fun E L Γ σ H xt Q c o e q => by
  obtain ⟨a, ea, e⟩ := bind_some e
  refine ha E L Γ σ H xt _ a o ea fun H1 s1 => ?_
  cases a with
  | true =>
    rw [if_pos rfl] at e ⊢
    cases e
    exact q H1 s1
  | false =>
    rw [if_neg Bool.false_ne_true] at e ⊢
    exact hb E L Γ σ H1 xt _ c (o.same s1) e fun H2 s2 => q H2 (s1.trans s2)
theorem rt_not {ta : TT} {Fa : Gam ts → Option Bool} (ha : RT K ms ts ta Fa) : RT K ms ts (tNot ta) (eNot Fa) := fun E L Γ σ H xt Q c o e q => by
  obtain ⟨a, ea, e⟩ := bind_some e
  cases e
  exact ha E L Γ σ H xt _ a o ea fun H1 s1 => q H1 s1
theorem rp_and {m m1 m2 : Em} {ta tb : TE} {Fa Fb : Gam ts → Option Bool} (ha : RP K ms ts ta m1 .bool Fa) (hb : RP K ms ts tb m2 .bool Fb) : RP K ms ts (tAndV ta tb) m .bool (eAnd Fa Fb) := fun E L Γ σ H xt Q c o e q => by
  obtain ⟨a, ea, e⟩ := bind_some e
  refine ha E L Γ σ H xt _ a o ea fun v H1 s1 r1 => ⟨a, r1.b, ?_⟩
  cases a with
  | true =>
    rw [if_pos rfl] at e ⊢
    exact hb E L Γ σ H1 xt _ c (o.same s1) e fun w H2 s2 r2 => q w H2 (s1.trans s2) (rep_atom rfl r2.b)
  | false =>
    rw [if_neg Bool.false_ne_true] at e ⊢
    cases e
    exact q _ H1 s1 (rep_atom rfl rfl)
theorem rp_or {m m1 m2 : Em} {ta tb : TE} {Fa Fb : Gam ts → Option Bool} (ha : RP K ms ts ta m1 .bool Fa) (hb : RP K ms ts tb m2 .bool Fb) : RP K ms ts (tOrV ta tb) m .bool (eOr Fa Fb) := fun E L Γ σ H xt Q c o e q => by
  obtain ⟨a, ea, e⟩ := bind_some e
  refine ha E L Γ σ H xt _ a o ea fun v H1 s1 r1 => ⟨a, r1.b, ?_⟩
  cases a with
  | true =>
    rw [if_pos rfl] at e ⊢
    cases e
    exact q _ H1 s1 (rep_atom rfl rfl)
  | false =>
    rw [if_neg Bool.false_ne_true] at e ⊢
    exact hb E L Γ σ H1 xt _ c (o.same s1) e fun w H2 s2 r2 => q w H2 (s1.trans s2) (rep_atom rfl r2.b)
theorem rp_not {m m1 : Em} {ta : TE} {Fa : Gam ts → Option Bool} (ha : RP K ms ts ta m1 .bool Fa) : RP K ms ts (tNotV ta) m .bool (eNot Fa) := fun E L Γ σ H xt Q c o e q => by
  obtain ⟨a, ea, e⟩ := bind_some e
  cases e
  exact ha E L Γ σ H xt _ a o ea fun v H1 s1 r1 => ⟨a, r1.b, q _ H1 s1 (rep_atom rfl rfl)⟩
theorem rp_if {m : Em} {t : Ty} {tc : TT} {ta tb : TE} {Fc : Gam ts → Option Bool} {Fa Fb : Gam ts → Option (den t)} (hc : RT K ms ts tc Fc) (ha : RP K ms ts ta m t Fa) (hb : RP K ms ts tb m t Fb) : RP K ms ts (tIf tc ta tb) m t (eIf Fc Fa Fb) := fun E L Γ σ H xt Q d o e q => by
  obtain ⟨c, ec, e⟩ := bind_some e
  refine hc E L Γ σ H xt _ c o ec fun H1 s1 => ?_
  cases c with
  | true =>
    rw [if_pos rfl] at e ⊢
    exact ha E L Γ σ H1 xt _ d (o.same s1) e fun w H2 s2 r2 => q w H2 (s1.trans s2) (r2.older s1)
  | false =>
    rw [if_neg Bool.false_ne_true] at e ⊢
    exact hb E L Γ σ H1 xt _ d (o.same s1) e fun w H2 s2 r2 => q w H2 (s1.trans s2) (r2.older s1)
/-- a < b < c -/
theorem rp_chain {r r' : R2} {m m1 m2 m3 m4 m5 : Em} {t1 t2 t3 : Ty} {f : den t1 → den t2 → Option Bool} {g : den t2 → den t3 → Option Bool} {ta tb tc : TE} {Fa : Gam ts → Option (den t1)} {Fb : Gam ts → Option (den t2)} {Fc : Gam ts → Option (den t3)}
    (hv : V2 K r m4 t1 t2 .bool f) (hv' : V2 K r' m5 t2 t3 .bool g) (ha : RP K ms ts ta m1 t1 Fa) (hb : RP K ms ts tb m2 t2 Fb) (hc : RP K ms ts tc m3 t3 Fc) : RP K ms ts (tChain r r' ta tb tc) m .bool
      (fun Γ => (Fa Γ).bind fun a => (Fb Γ).bind fun b => (f a b).bind fun k => if k = true then (Fc Γ).bind fun c => g b c else some false) := fun E L Γ σ H xt Q d o e q => by
  obtain ⟨a, ea, e⟩ := bind_some e
  obtain ⟨b, eb, e⟩ := bind_some e
  obtain ⟨k, ek, e⟩ := bind_some e
  refine ha E L Γ σ H xt _ a o ea fun v H1 s1 r1 => ?_
  refine hb E L Γ σ H1 xt _ b (o.same s1) eb fun w H2 s2 r2 => ?_
  refine hv E L H2 v w a b k _ ((rS_mono (Cov.of_same s2 fun _ h _ => h) (Stb.of_same s2) t1).1 v a r1.b) r2.b ek fun z H3 s3 r3 => ⟨k, r3.b, ?_⟩
  cases k with
  | true =>
    rw [if_pos rfl] at e ⊢
    obtain ⟨c, ec, e⟩ := bind_some e
    refine hc E L Γ σ H3 xt _ c (((o.same s1).same s2).same s3) ec fun x H4 s4 r4 => ?_
    refine hv' E L H4 w x b c d _ ((rS_mono (Cov.of_same (s3.trans s4) fun _ h _ => h) (Stb.of_same (s3.trans s4)) t2).1 w b r2.b) r4.b e fun y H5 s5 r5 => ?_
    exact q y H5 ((((s1.trans s2).trans s3).trans s4).trans s5) (rep_atom rfl r5.b)
  | false =>
    rw [if_neg Bool.false_ne_true] at e ⊢
    cases e
    exact q _ H3 ((s1.trans s2).trans s3) (rep_atom rfl rfl)

/-! ### rows of expressions -/
theorem ra_one {m : Em} {t : Ty} {te : TE} {F : Gam ts → Option (den t)} (h : RP K ms ts te m t F) : RA K ms ts (tCons te tNil) m (.last t) F := fun E L Γ σ H xt Q d o e q => by
  refine h E L Γ σ H xt _ d o e fun v H' s r => q [v] H' s ?_
  cases m with
  | o =>
    obtain ⟨f, Lr, h1, h2⟩ := r
    exact ⟨f, Lr, ⟨v, rfl, .inl h1⟩, h2⟩
  | l =>
    obtain ⟨Lr, h1, h2⟩ := r
    exact ⟨Lr, ⟨v, rfl, h1⟩, h2⟩
  | w =>
    obtain ⟨Lr, h1, h2⟩ := r
    exact ⟨Lr, ⟨v, rfl, h1⟩, h2⟩
  | b => exact ⟨v, rfl, r⟩
theorem ra_cons {m : Em} {t b : Ty} {te : TE} {ta : TA} {F : Gam ts → Option (den t)} {G : Gam ts → Option (den b)} (h : RP K ms ts te m t F) (hr : RA K ms ts ta m b G) : RA K ms ts (tCons te ta) m (.cons t b) (eCons F G) := fun E L Γ σ H xt Q d o e q => by
  obtain ⟨a, ea, e⟩ := bind_some e
  obtain ⟨r, er, e⟩ := bind_some e
  cases e
  refine h E L Γ σ H xt _ a o ea fun v H1 s1 r1 => hr E L Γ σ H1 xt _ r (o.same s1) er fun vs H2 s2 r2 => q (v :: vs) H2 (s1.trans s2) ?_
  have nwo : ∀ {R : Reg}, Nw H1 H2 R → Nw H H2 R := fun {R} h a ha => ⟨s1.free (h a ha).1, (h a ha).2⟩
  have nwe : ∀ {R : Reg}, Nw H H1 R → Nw H H2 R := fun {R} h a ha => ⟨(h a ha).1, by rw [same_at s2 (h a ha).2]; exact (h a ha).2⟩
  have apart : ∀ {R R' : Reg}, Nw H H1 R → Nw H1 H2 R' → ∀ a, R a → ¬ R' a := fun {R R'} h h' a ha hb => by
    have := (h a ha).2
    rw [(h' a hb).1] at this
    cases this
  cases m with
  | o =>
    obtain ⟨f, Lr, h1, h2, h3, h4, h5⟩ := r1
    obtain ⟨g, Ls, k1, k2, k3, k4, k5⟩ := r2
    have e1 : (rO K H2 (fun a => L a ∨ (Lr a ∨ Ls a)) t).1 v a f := (rO_mono (Cov.of_same s2 fun a h _ => h.elim .inl fun z => .inr (.inl z)) (Stb.of_same s2) t).1 v a f (fun a ha => same_at s2 (h3 a ha).2) h1
    have e2 : (rO K H2 (fun a => L a ∨ (Lr a ∨ Ls a)) b).2 vs r g := (rO_mono (Cov.of_reg fun a h _ => h.elim .inl fun z => .inr (.inr z)) (Stb.refl _) b).2 vs r g (fun _ _ => rfl) k1
    refine ⟨f ++ g, fun a => Lr a ∨ Ls a, ⟨v, vs, f, g, rfl, rfl, .inl e1, e2⟩, List.nodup_append.mpr ⟨h2, k2, fun a ha b hb z => ?_⟩, fun a ha => ?_, fun a ha => ?_, fun a ha => ?_⟩
    · subst z
      exact apart h3 k3 a ha hb
    · rcases List.mem_append.mp ha with z | z
      · exact nwe h3 a z
      · exact nwo k3 a z
    · rcases ha with z | z
      · exact nwe h4 a z
      · exact nwo k4 a z
    · rcases List.mem_append.mp ha with z | z
      · exact fun y => y.elim (h5 a z) (apart h3 k4 a z)
      · exact fun y => y.elim (fun y => apart h4 k3 a y z) (k5 a z)
  | l =>
    obtain ⟨Lr, h1, h2⟩ := r1
    obtain ⟨Ls, k1, k2⟩ := r2
    refine ⟨fun a => Lr a ∨ Ls a, ⟨v, vs, rfl, (rS_mono (Cov.of_same s2 fun a h _ => h.elim .inl fun z => .inr (.inl z)) (Stb.of_same s2) t).1 v a h1, (rS_mono (Cov.of_reg fun a h _ => h.elim .inl fun z => .inr (.inr z)) (Stb.refl _) b).2 vs r k1⟩, fun a ha => ?_⟩
    rcases ha with z | z
    · exact nwe h2 a z
    · exact nwo k2 a z
  | w =>
    obtain ⟨Lr, h1, h2⟩ := r1
    obtain ⟨Ls, k1, k2⟩ := r2
    refine ⟨fun a => Lr a ∨ Ls a, ⟨v, vs, rfl, (rS_mono (Cov.of_same s2 fun a h _ => h.elim .inl fun z => z.elim (fun z => .inr (.inl z)) fun z => .inr (.inr (.inl z))) (Stb.of_same s2) t).1 v a h1,
      (rS_mono (Cov.of_reg fun a h _ => h.elim .inl fun z => z.elim (fun z => .inr (.inl z)) fun z => .inr (.inr (.inr z))) (Stb.refl _) b).2 vs r k1⟩, fun a ha => ?_⟩
    rcases ha with z | z
    · exact nwe h2 a z
    · exact nwo k2 a z
  | b => exact ⟨v, vs, rfl, (rS_mono (Cov.of_same s2 fun a h _ => h) (Stb.of_same s2) t).1 v a r1, r2⟩
theorem new_upd {a : Addr} {o : HO} (h : H a = none) : Same H (upd H a o) ∧ (upd H a o) a = some o := ⟨same_new h, upd_same⟩
/-- a written tuple -/
def rowLen : Ty → Nat
  | .last _ => 1
  | .cons _ b => rowLen b + 1
  | .own t => rowLen t
  | _ => 0
theorem row_length {R : Reg} : ∀ (b : Ty) (vs : List V) (d : den b), (rS K H R b).2 vs d → vs.length = rowLen b
  | .last a, _, _, h => by obtain ⟨v, rfl, _⟩ := h; rfl
  | .cons a b, _, _, h => by
    obtain ⟨v, r, rfl, _, h2⟩ := h
    have := row_length b r _ h2
    simp [rowLen, this]
  | .non, _, _, h => h.elim
  | .bool, _, _, h => h.elim
  | .int, _, _, h => h.elim
  | .str, _, _, h => h.elim
  | .any, _, _, h => h.elim
  | .opt _, _, _, h => h.elim
  | .vtup _, _, _, h => h.elim
  | .list _, _, _, h => h.elim
  | .dict _ _, _, _, h => h.elim
  | .own t, vs, d, h => row_length t vs d h
  | .hl _, _, _, h => h.elim
  | .tup _, _, _, h => h.elim
end
end VV

/-! VStmt: the rules for statements, loops, and defs. -/
namespace VV
open PySem L2

/-- a term that the kernel doesn't look into -/
noncomputable def hide {α : Type} (a : α) : α := Classical.choose (⟨a, rfl⟩ : ∃ b, b = a)
theorem hide_eq {α : Type} (a : α) : hide a = a := Classical.choose_spec (⟨a, rfl⟩ : ∃ b, b = a)
section
variable {K : PySem.W.Frag} {E : Ent} {ms : List Md} {ts : List Ty} {L L1 : Reg} {Γ Γ1 : Gam ts} {σ σ1 : St} {H H' H1 : Hp} {xt : List Addr} {rm : Rm} {ρ : Ty}
/-! ### blocks -/
def sNext {G ρ : Type} : G → Option (Fl G ρ) := fun Γ => some (.nx Γ)
def sSeq {G ρ : Type} (F F' : G → Option (Fl G ρ)) : G → Option (Fl G ρ) := fun Γ => (F Γ).bind fun r => match r with
  | .nx Γ' => F' Γ'
  | r => some r
def sIf {G ρ : Type} (c : G → Option Bool) (F F' : G → Option (Fl G ρ)) : G → Option (Fl G ρ) := fun Γ => (c Γ).bind fun b => if b = true then F Γ else F' Γ
def sBreak {G ρ : Type} : G → Option (Fl G ρ) := fun Γ => some (.bk Γ)
def sCont {G ρ : Type} : G → Option (Fl G ρ) := fun Γ => some (.ct Γ)
def sSet {ρ : Type} {ts : List Ty} {t : Ty} (i : Mem ts t) (F : Gam ts → Option (den t)) : Gam ts → Option (Fl (Gam ts) ρ) := fun Γ => (F Γ).bind fun d => some (.nx (i.set (some d) Γ))
def sRet {G ρ : Type} (F : G → Option ρ) : G → Option (Fl G ρ) := fun Γ => (F Γ).bind fun d => some (.rt d Γ)
/-- an owned name is handed back -/
def sRetM {ts : List Ty} {t : Ty} (i : Mem ts t) : Gam ts → Option (Fl (Gam ts) (den t)) := fun Γ => (i.get Γ).bind fun d => some (.rt d (i.set none Γ))
def sDrop {G ρ α : Type} (F : G → Option α) : G → Option (Fl G ρ) := fun Γ => (F Γ).bind fun _ => some (.nx Γ)
theorem Post.later {D : Ends} {f : Fl (Gam ts) (den ρ)} (p : Post K E ms ts rm ρ L Γ σ H D f) (e : Ev ms ts L Γ σ H L1 Γ1 σ1 H1) : Post K E ms ts rm ρ L1 Γ1 σ1 H1 D f := by
  cases f with
  | nx Γ' => exact fun L' σ' H' o e' => p L' σ' H' o (e.trans e')
  | bk Γ' => exact fun L' σ' H' o e' => p L' σ' H' o (e.trans e')
  | ct Γ' => exact fun L' σ' H' o e' => p L' σ' H' o (e.trans e')
  | rt d Γ' => exact fun L' σ' H' v xt o e' => p L' σ' H' v xt o (e.trans e')
theorem rs_hide {t : TS} {F : Gam ts → Option (Fl (Gam ts) (den ρ))} (h : RS K ms ts t rm ρ F) : RS K ms ts t rm ρ (hide F) := by
  rw [hide_eq]
  exact h
theorem rs_next : RS K ms ts tNext rm ρ sNext := fun E L Γ σ H D f o e p => by
  cases e
  exact p L σ H o (Ev.same (Same.refl H))
theorem rs_break : RS K ms ts tBreak rm ρ sBreak := fun E L Γ σ H D f o e p => by
  cases e
  exact p L σ H o (Ev.same (Same.refl H))
theorem rs_cont : RS K ms ts tCont rm ρ sCont := fun E L Γ σ H D f o e p => by
  cases e
  exact p L σ H o (Ev.same (Same.refl H))
theorem rs_seq {t u : TS} {F F' : Gam ts → Option (Fl (Gam ts) (den ρ))} (h : RS K ms ts t rm ρ F) (h' : RS K ms ts u rm ρ F') : RS K ms ts (tSeq t u) rm ρ (sSeq F F') := fun E L Γ σ H D f o e p => by
  obtain ⟨r, e1, e2⟩ := bind_some e
  refine h E L Γ σ H _ r o e1 ?_
  cases r with
  | nx Γ1 => exact fun L1 σ1 H1 o1 ev1 => h' E L1 Γ1 σ1 H1 D f o1 e2 (p.later ev1)
  | bk Γ1 => cases e2; exact fun L1 σ1 H1 o1 ev1 => p L1 σ1 H1 o1 ev1
  | ct Γ1 => cases e2; exact fun L1 σ1 H1 o1 ev1 => p L1 σ1 H1 o1 ev1
  | rt d Γ1 => cases e2; exact fun L1 σ1 H1 v xt o1 ev1 r1 => p L1 σ1 H1 v xt o1 ev1 r1
theorem rs_if {tc : TT} {t u : TS} {c : Gam ts → Option Bool} {F F' : Gam ts → Option (Fl (Gam ts) (den ρ))} (hc : RT K ms ts tc c) (h : RS K ms ts t rm ρ F) (h' : RS K ms ts u rm ρ F') : RS K ms ts (tIfS tc t u) rm ρ (sIf c F F') := fun E L Γ σ H D f o e p => by
  obtain ⟨b, e1, e2⟩ := bind_some e
  refine hc E L Γ σ H [] _ b o e1 fun H1 s1 => ?_
  cases b with
  | true =>
    rw [if_pos rfl] at e2 ⊢
    exact h E L Γ σ H1 D f (o.same s1) e2 (p.later (Ev.same s1))
  | false =>
    rw [if_neg Bool.false_ne_true] at e2 ⊢
    exact h' E L Γ σ H1 D f (o.same s1) e2 (p.later (Ev.same s1))
theorem rs_drop {te : TE} {m : Em} {t : Ty} {F : Gam ts → Option (den t)} (h : RP K ms ts te m t F) : RS K ms ts (tDrop te) rm ρ (sDrop F) := fun E L Γ σ H D f o e p => by
  obtain ⟨d, e1, e2⟩ := bind_some e
  cases e2
  exact h E L Γ σ H [] _ d o e1 fun v H1 s1 _ => p L σ H1 (o.same s1) (Ev.same s1)

/-! ### stores -/
theorem keepF_set {t : Ty} (i : Mem ts t) {m : Md} (hm : ms[i.ix]? = some m) (hk : m.fixd = false) (d : Option (den t)) (s : Option V) : KeepF ms ts Γ (i.set d Γ) σ (σ.set i.ix s) := by
  have ne : ∀ n m', ms[n]? = some m' → m'.fixd = true → i.ix ≠ n := fun n m' hj hh z => by
    rw [z, hj] at hm
    cases hm
    rw [hk] at hh
    cases hh
  exact ⟨fun u j m' hj hh => Mem.get_set_ne i j d Γ (ne _ m' hj (hard_fixd hh)), fun n m' hj hh => List.getElem?_set_ne (ne n m' hj hh)⟩
/-- what is made for the while -/
theorem Own.temp {f : List Addr} {Lr : Reg} (o : Own K E L ms ts Γ σ H []) (s : Same H H') (nf : f.Nodup) (hf : Nw H H' (· ∈ f)) (hl : Nw H H' Lr) (hd : ∀ a ∈ f, ¬ Lr a) : Own K E (fun a => L a ∨ Lr a) ms ts Γ σ H' f := by
  have o1 := o.same s
  obtain ⟨fp, g, nd, gd⟩ := id o.ex
  obtain ⟨fp1, g1, nd1, gd1⟩ := id o1.ex
  rw [List.append_nil] at nd gd
  have fre : ∀ a, H a = none → a ∉ fp := fun a h z => by
    have := (gd a z).at_
    rw [h] at this
    cases this
  refine ⟨⟨fp, rG_mono (o.covS fun a q h1 h2 => s _ _ (o.fr a q h1 h2)) (Cov.of_same s fun a h _ => .inl h) (Stb.of_same s) (fun a ha => same_at s (gd a ha).at_) g, ?_, fun a ha => ?_⟩, o1.fr, fun a h => ?_, o.s0, o1.iod⟩
  · exact List.nodup_append.mpr ⟨nd, nf, fun a ha b hb z => by subst z; exact fre a (hf a hb).1 ha⟩
  · rcases List.mem_append.mp ha with h | h
    · have g := gd a h
      exact ⟨g.new, fun z => z.elim g.nl fun z => fre a (hl a z).1 h, g.ns, by rw [same_at s g.at_]; exact g.at_⟩
    · have ff := o.fresh (hf a h).1
      exact ⟨.inl ff.1, fun z => z.elim ff.2.1 (hd a h), ff.2.2, (hf a h).2⟩
  · rcases h with h | h
    · exact o1.lr a h
    · exact ⟨.inl (o.fresh (hl a h).1).1, (hl a h).2⟩
/-- a name's mode and what may be stored there -/
def Md.em : Md → Em
  | .o => .o
  | .l => .l
  | .w => .w
  | .f => .b
  | .k => .b
  | .r => .b
theorem Own.store {t : Ty} (i : Mem ts t) {m : Md} {v : V} {d : den t} (o : Own K E L ms ts Γ σ H []) (hm : ms[i.ix]? = some m) (hk : m.fixd = false) (s : Same H H') (r : Rep K E L H H' m.em t v d) :
    ∃ L', Own K E L' ms ts (i.set (some d) Γ) (σ.set i.ix (some v)) H' [] ∧ Ev ms ts L Γ σ H L' (i.set (some d) Γ) (σ.set i.ix (some v)) H' := by
  obtain ⟨s0, f0, e1, e2, e3, e4, e5⟩ := o.focus i hm
  have same1 : ∀ a, (H a).isSome = true → H' a = H a := fun a h => same_at s h
  have up : ∀ a, (H a).isSome = true → (H' a).isSome = true := fun a h => by rw [same1 a h]; exact h
  have ev : ∀ (L' : Reg), (∀ a, L a → L' a) → Ev ms ts L Γ σ H L' (i.set (some d) Γ) (σ.set i.ix (some v)) H' := fun L' hL => ⟨hL, fun a q _ h => s _ _ h, Stb.of_same s, keepF_set i hm hk _ _⟩
  have go : ∀ (L' : Reg) (f : List Addr), (∀ a, L a → L' a) → (∀ a, L' a → L a ∨ H a = none) → (∀ a, L' a → (H' a).isSome = true) → repM K H' E.S0 L' m t v d f → f.Nodup → (∀ a ∈ f, H a = none ∧ ¬ L' a ∧ (H' a).isSome = true) →
      ∃ L', Own K E L' ms ts (i.set (some d) Γ) (σ.set i.ix (some v)) H' [] ∧ Ev ms ts L Γ σ H L' (i.set (some d) Γ) (σ.set i.ix (some v)) H' := fun L' f c3 c4 c5 c6 c7 c8 => by
    refine ⟨L', e5 H' L' (some d) (some v) f [] (fun a h _ _ => same1 a h) (Stb.of_same s) c3 (fun a h => (c4 a h).elim .inl fun z => .inr (.inr (.inr z))) up (fun a h => ⟨?_, c5 a h⟩) ⟨v, rfl, c6⟩ (by simpa using c7) fun a ha => ?_, ev L' c3⟩
    · rcases c4 a h with z | z
      · exact (o.lr a z).1
      · exact .inl (o.fresh z).1
    · have ha : a ∈ f := by simpa using ha
      exact ⟨.inr (.inr (c8 a ha).1), (c8 a ha).2⟩
  have lift : ∀ {R : Reg}, Nw H H' R → ∀ a, L a ∨ R a → (H' a).isSome = true := fun {R} h a z => z.elim (fun z => up a (o.lr a z).2) fun z => (h a z).2
  cases m with
  | o =>
    obtain ⟨f, Lr, h1, h2, h3, h4, h5⟩ := r
    exact go (fun a => L a ∨ Lr a) f (fun a h => .inl h) (fun a h => h.elim .inl fun z => .inr (h4 a z).1) (lift h4) h1 h2 fun a ha => ⟨(h3 a ha).1, fun z => z.elim (o.fresh (h3 a ha).1).2.1 (h5 a ha), (h3 a ha).2⟩
  | l =>
    obtain ⟨Lr, h1, h4⟩ := r
    exact go (fun a => L a ∨ Lr a) [] (fun a h => .inl h) (fun a h => h.elim .inl fun z => .inr (h4 a z).1) (lift h4) ⟨rfl, h1⟩ List.nodup_nil fun a ha => by simp at ha
  | w =>
    obtain ⟨Lr, h1, h4⟩ := r
    exact go (fun a => L a ∨ Lr a) [] (fun a h => .inl h) (fun a h => h.elim .inl fun z => .inr (h4 a z).1) (lift h4) ⟨rfl, h1⟩ List.nodup_nil fun a ha => by simp at ha
  | f => exact absurd hk (by decide)
  | k => exact absurd hk (by decide)
  | r => exact absurd hk (by decide)
theorem rs_set {t : Ty} (i : Mem ts t) {n : Nat} {m : Md} {te : TE} {F : Gam ts → Option (den t)} (h : RP K ms ts te m.em t F) (hm : ms[i.ix]? = some m := by rfl) (hk : m.fixd = false := by rfl) (hn : i.ix = n := by rfl) :
    RS K ms ts (tAsg te (gName n)) rm ρ (sSet i F) := fun E L Γ σ H D f o e p => by
  subst hn
  obtain ⟨d, e1, e2⟩ := bind_some e
  cases e2
  refine h E L Γ σ H [] _ d o e1 fun v H1 s1 r1 => ?_
  obtain ⟨L', o', ev⟩ := o.store i hm hk s1 r1
  exact p L' _ H1 o' ev
/-- return -/
def Rm.em : Rm → Em
  | .o => .o
  | .l => .l
  | .w => .w
theorem rs_ret {te : TE} {F : Gam ts → Option (den ρ)} (h : RP K ms ts te rm.em ρ F) : RS K ms ts (tRet te) rm ρ (sRet F) := fun E L Γ σ H D f o e p => by
  obtain ⟨d, e1, e2⟩ := bind_some e
  cases e2
  refine h E L Γ σ H [] _ d o e1 fun v H1 s1 r1 => ?_
  have ev : ∀ Lr : Reg, Ev ms ts L Γ σ H (fun a => L a ∨ Lr a) Γ σ H1 := fun Lr => ⟨fun a h => .inl h, fun a q _ h => s1 _ _ h, Stb.of_same s1, KeepF.refl⟩
  cases rm with
  | o =>
    obtain ⟨f, Lr, h1, h2, h3, h4, h5⟩ := r1
    exact p _ σ H1 v f (o.temp s1 h2 h3 h4 h5) (ev Lr) h1
  | l =>
    obtain ⟨Lr, h1, h4⟩ := r1
    exact p _ σ H1 v [] (o.temp s1 List.nodup_nil (fun a ha => by simp at ha) h4 fun a ha => by simp at ha) (ev Lr) ⟨rfl, h1⟩
  | w =>
    obtain ⟨Lr, h1, h4⟩ := r1
    exact p _ σ H1 v [] (o.temp s1 List.nodup_nil (fun a ha => by simp at ha) h4 fun a ha => by simp at ha) (ev Lr) ⟨rfl, h1⟩
/-- an owned name, taken out -/
theorem Own.take {t : Ty} (i : Mem ts t) {d : den t} (o : Own K E L ms ts Γ σ H []) (hm : ms[i.ix]? = some .o) (hd : i.get Γ = some d) : ∃ v f, σ[i.ix]? = some (some v) ∧ (rO K H L t).1 v d f ∧ Own K E L ms ts (i.set none Γ) σ H f := by
  obtain ⟨s0, f0, e1, e2, e3, e4, e5⟩ := o.focus i hm
  rw [hd] at e2
  obtain ⟨v, rfl, r⟩ := e2
  refine ⟨v, f0, e1, r, ?_⟩
  have := e5 H L none (some v) [] f0 (fun a h _ _ => rfl) (Stb.refl H) (fun _ h => h) (fun _ h => .inl h) (fun _ h => h) (fun a h => o.lr a h) rfl (by simpa using e3) fun a ha => by
    have ha : a ∈ f0 := by simpa using ha
    exact ⟨.inl ha, (e4 a ha).1.nl, (e4 a ha).1.at_⟩
  have es : σ.set i.ix (some v) = σ := by
    refine List.ext_getElem? fun n => ?_
    by_cases hn : n = i.ix
    · subst hn
      rw [List.getElem?_set_self (List.getElem?_eq_some_iff.mp e1).1]
      exact e1.symm
    · rw [List.getElem?_set_ne (Ne.symm hn)]
  rw [es] at this
  exact this
theorem keepF_set0 {t : Ty} (i : Mem ts t) {m : Md} (hm : ms[i.ix]? = some m) (hk : m.hard = false) (d : Option (den t)) : KeepF ms ts Γ (i.set d Γ) σ σ := ⟨fun u j m' hj hh => by
  have ne : i.ix ≠ j.ix := fun z => by
    rw [z, hj] at hm
    cases hm
    rw [hk] at hh
    cases hh
  exact Mem.get_set_ne i j d Γ ne, fun _ _ _ _ => rfl⟩
theorem repM_own {S0 : Reg} {m : Md} (h : m.own = true) {t : Ty} {v : V} {d : den t} {f : List Addr} : repM K H S0 L m t v d f ↔ (rO K H L t).1 v d f := by cases m <;> first | exact Iff.rfl | cases h
theorem own_hard {m : Md} (h : m.own = true) : m.hard = false := by cases m <;> first | rfl | cases h
theorem rs_retm (i : Mem ts ρ) {n : Nat} (hm : ms[i.ix]? = some .o := by rfl) (hn : i.ix = n := by rfl) : RS K ms ts (tRet (tVar n)) .o ρ (sRetM i) := fun E L Γ σ H D f o e p => by
  subst hn
  obtain ⟨d, e1, e2⟩ := bind_some e
  cases e2
  obtain ⟨v, f, h1, h2, h3⟩ := o.take i hm e1
  exact ⟨v, h1, p L σ H v f h3 ⟨fun _ h => h, fun _ _ _ h => h, Stb.refl H, keepF_set0 i hm rfl none⟩ h2⟩
/-- x = y, y owned and from now on without value; x: owned, or shared -/
def sMove {ρ : Type} {ts : List Ty} {t : Ty} (i j : Mem ts t) : Gam ts → Option (Fl (Gam ts) ρ) := fun Γ => (j.get Γ).bind fun d => some (.nx (i.set (some d) (j.set none Γ)))
theorem rs_move {t : Ty} (i j : Mem ts t) {n k : Nat} {m : Md} (hj : ms[j.ix]? = some .o := by rfl) (hm : ms[i.ix]? = some m := by rfl) (hk : m.fixd = false := by rfl) (hn : i.ix = n := by rfl) (hjk : j.ix = k := by rfl) :
    RS K ms ts (tAsg (tVar k) (gName n)) rm ρ (sMove i j) := fun E L Γ σ H D f o e p => by
  subst hn
  subst hjk
  obtain ⟨d, e1, e2⟩ := bind_some e
  cases e2
  obtain ⟨v, f, h1, h2, h3⟩ := o.take j hj e1
  obtain ⟨s0, f0, q1, q2, q3, q4, q5⟩ := h3.focus i hm
  obtain ⟨fp, _, ndx, gdx⟩ := h3.ex
  have nf : f.Nodup := (List.nodup_append.mp ndx).2.1
  have gf : ∀ a ∈ f, Good E L H a := fun a ha => gdx a (List.mem_append_right _ ha)
  have kp : KeepF ms ts Γ (i.set (some d) (j.set none Γ)) σ (σ.set i.ix (some v)) := (keepF_set0 (Γ := Γ) (σ := σ) j hj rfl none).trans (keepF_set (Γ := j.set none Γ) (σ := σ) i hm hk (some d) (some v))
  refine ⟨v, h1, ?_⟩
  have go : ∀ (L' : Reg) (f' : List Addr), (∀ a, L a → L' a) → (∀ a, L' a → L a ∨ a ∈ f) → (∀ a, L' a → (E.H0 a = none ∨ a ∈ E.io) ∧ (H a).isSome = true) → repM K H E.S0 L' m t v d f' → f'.Nodup → (∀ a ∈ f', a ∈ f ∧ ¬ L' a) → D.nx (σ.set i.ix (some v)) H := fun L' f' c3 c4 c5 c6 c7 c8 => by
    refine p L' _ H (q5 H L' (some d) (some v) f' [] (fun _ _ _ _ => rfl) (Stb.refl H) c3 (fun a h => (c4 a h).elim .inl fun z => .inr (.inr (.inl z))) (fun _ h => h) c5 ⟨v, rfl, c6⟩ (by simpa using c7) fun a ha => ?_) ⟨c3, fun _ _ _ h => h, Stb.refl H, kp⟩
    have ha : a ∈ f' := by simpa using ha
    exact ⟨.inr (.inl (c8 a ha).1), (c8 a ha).2, (gf a (c8 a ha).1).at_⟩
  cases m with
  | o => exact go L f (fun _ h => h) (fun _ h => .inl h) (fun a h => o.lr a h) h2 nf fun a ha => ⟨ha, (gf a ha).nl⟩
  | l => exact go (fun a => L a ∨ a ∈ f) [] (fun _ h => .inl h) (fun _ h => h) (fun a h => h.elim (o.lr a) fun z => ⟨(gf a z).new, (gf a z).at_⟩) ⟨rfl, (rO_s (fun _ h => .inl h) t).1 v d f (fun a h => .inr h) h2⟩ List.nodup_nil fun a ha => by simp at ha
  | w => exact go (fun a => L a ∨ a ∈ f) [] (fun _ h => .inl h) (fun _ h => h) (fun a h => h.elim (o.lr a) fun z => ⟨(gf a z).new, (gf a z).at_⟩) ⟨rfl, (rO_s (fun _ h => .inr (.inl h)) t).1 v d f (fun a h => .inr (.inr h)) h2⟩ List.nodup_nil fun a ha => by simp at ha
  | f => exact absurd hk (by decide)
  | k => exact absurd hk (by decide)
  | r => exact absurd hk (by decide)

/-! ### loops -/
def forL {G ρ α : Type} (bind : α → G → G) (mask : G → G) (body : G → Option (Fl G ρ)) : List α → G → Option (Fl G ρ)
  | [], Γ => some (.nx Γ)
  | x :: xs, Γ => (body (bind x Γ)).bind fun r => match r with
    | .nx Γ' => forL bind mask body xs (mask Γ')
    | .ct Γ' => forL bind mask body xs (mask Γ')
    | .bk Γ' => some (.nx (mask Γ'))
    | .rt r Γ' => some (.rt r Γ')
def sFor {G ρ α : Type} (F : G → Option (List α)) (bind : α → G → G) (mask : G → G) (body : G → Option (Fl G ρ)) : G → Option (Fl G ρ) := fun Γ => (F Γ).bind fun xs => forL bind mask body xs (mask Γ)
def reg (w : Bool) (E : Ent) (L : Reg) : Reg := if w then (fun a => E.S0 a ∨ L a) else L
/-- what a for walks: Z is its state -/
structure IterOk (K : PySem.W.Frag) (R : Reg) (t : Ty) (J : It) (ds : List (den t)) (Z : Hp → Prop) : Prop where
  keep : ∀ H H', Cov H H' R R → Stb H H' → Z H → Z H'
  go : ∀ i H, Z H → i < ds.length → J.go i H
  stop : ∀ H, Z H → J.stop ds.length H
  yld : ∀ i H x H', i < ds.length → Z H → J.yld i H x H' → Same H H' ∧ ∃ d, ds[i]? = some d ∧ (rS K H' R t).1 x d
def RI (K : PySem.W.Frag) (ms : List Md) (ts : List Ty) (wi : TI) (w : Bool) (t : Ty) (F : Gam ts → Option (List (den t))) : Prop :=
  ∀ (E : Ent) (L : Reg) (Γ : Gam ts) (σ : St) (H : Hp) (xt : List Addr) (R : It → Hp → Prop) (ds : List (den t)), Own K E L ms ts Γ σ H xt → F Γ = some ds →
    (∀ J H' Lr Z, Same H H' → Nw H H' Lr → IterOk K (reg w E fun a => L a ∨ Lr a) t J ds Z → Z H' → R J H') → wi σ H R
/-- a target that takes an item -/
def RG (K : PySem.W.Frag) (ms : List Md) (ts : List Ty) (g : TG) (w : Bool) (t : Ty) (B : den t → Gam ts → Gam ts) : Prop :=
  ∀ (E : Ent) (L : Reg) (Γ : Gam ts) (σ : St) (H : Hp) (Q : St → Hp → Prop) (x : V) (d : den t), Own K E L ms ts Γ σ H [] → (rS K H (reg w E L) t).1 x d →
    (∀ σ', Own K E L ms ts (B d Γ) σ' H [] → Ev ms ts L Γ σ H L (B d Γ) σ' H → Q σ' H) → g x σ H Q
def RGs (K : PySem.W.Frag) (ms : List Md) (ts : List Ty) (g : TGs) (w : Bool) (b : Ty) (B : den b → Gam ts → Gam ts) : Prop :=
  ∀ (E : Ent) (L : Reg) (Γ : Gam ts) (σ : St) (H : Hp) (Q : St → Hp → Prop) (xs : List V) (d : den b), Own K E L ms ts Γ σ H [] → (rS K H (reg w E L) b).2 xs d →
    (∀ σ', Own K E L ms ts (B d Γ) σ' H [] → Ev ms ts L Γ σ H L (B d Γ) σ' H → Q σ' H) → g xs σ H Q
def bName {ts : List Ty} {t : Ty} (i : Mem ts t) : den t → Gam ts → Gam ts := fun d Γ => i.set (some d) Γ
def bCons {G α β : Type} (B : α → G → G) (B' : β → G → G) : α × β → G → G := fun d Γ => B' d.2 (B d.1 Γ)
def okTg (w : Bool) (m : Md) (t : Ty) : Bool := match m with
  | .o => t.frz
  | .l => !w || t.frz
  | .w => true
  | .f => false
  | .k => false
  | .r => false
theorem rg_name {w : Bool} {t : Ty} (i : Mem ts t) {n : Nat} {m : Md} (hm : ms[i.ix]? = some m := by rfl) (hk : okTg w m t = true := by rfl) (hn : i.ix = n := by rfl) : RG K ms ts (gName n) w t (bName i) := fun E L Γ σ H Q x d o r q => by
  subst hn
  obtain ⟨s0, f0, e1, e2, e3, e4, e5⟩ := o.focus i hm
  have hkf : m.fixd = false := by
    cases m <;> first | rfl | exact absurd hk (by simp [okTg])
  refine q _ (e5 H L (some d) (some x) [] [] (fun _ _ _ _ => rfl) (Stb.refl H) (fun _ h => h) (fun _ h => .inl h) (fun _ h => h) (fun a h => o.lr a h) ⟨x, rfl, ?_⟩ (by simp) (fun a ha => by simp at ha)) ⟨fun _ h => h, fun _ _ _ h => h, Stb.refl H, keepF_set i hm hkf _ _⟩
  have toW : (rS K H (reg w E L) t).1 x d → (rS K H (fun a => E.S0 a ∨ L a) t).1 x d := fun r => by
    cases w with
    | true => exact r
    | false => exact (rS_mono (Cov.of_reg fun a h _ => .inr h) (Stb.refl H) t).1 x d r
  cases m with
  | o => exact (rS_o t hk).1 x d r
  | l =>
    refine ⟨rfl, ?_⟩
    cases w with
    | false => exact r
    | true => exact (rS_frz t (by simpa [okTg] using hk)).1 x d r
  | w => exact ⟨rfl, toW r⟩
  | f => exact absurd hk (by simp [okTg])
  | k => exact absurd hk (by simp [okTg])
  | r => exact absurd hk (by simp [okTg])
theorem rgs_one {w : Bool} {t : Ty} {g : TG} {B : den t → Gam ts → Gam ts} (h : RG K ms ts g w t B) : RGs K ms ts (gCons g gNil) w (.last t) B := fun E L Γ σ H Q xs d o r q => by
  obtain ⟨v, rfl, r⟩ := r
  exact ⟨v, [], rfl, h E L Γ σ H _ v d o r fun σ' o' e' => ⟨rfl, q σ' o' e'⟩⟩
theorem rgs_cons {w : Bool} {t b : Ty} {g : TG} {gs : TGs} {B : den t → Gam ts → Gam ts} {B' : den b → Gam ts → Gam ts} (h : RG K ms ts g w t B) (h' : RGs K ms ts gs w b B') : RGs K ms ts (gCons g gs) w (.cons t b) (bCons B B') := fun E L Γ σ H Q xs d o r q => by
  obtain ⟨v, vs, rfl, r1, r2⟩ := r
  refine ⟨v, vs, rfl, h E L Γ σ H _ v d.1 o r1 fun σ' o' e' => ?_⟩
  exact h' E L (B d.1 Γ) σ' H Q vs d.2 o' r2 fun σ2 o2 e2 => q σ2 o2 (e'.trans e2)
theorem rg_tup {w : Bool} {b : Ty} {gs : TGs} {n : Nat} {B : den b → Gam ts → Gam ts} (h : RGs K ms ts gs w b B) (hn : rowLen b = n := by rfl) : RG K ms ts (gTup K n gs) w (.tup b) B := fun E L Γ σ H Q x d o r q => by
  obtain ⟨a, vs, rfl, h1, h2⟩ := r
  exact ⟨a, vs, rfl, .of h1, (row_length b vs d h2).trans hn, h E L Γ σ H Q vs d o h2 q⟩
/-- names that the mask forgets are none of those that are to stay -/
def okMask : List Md → List Bool → Bool
  | [], _ => true
  | _, [] => true
  | m :: ms, b :: bs => (b || !m.hard) && okMask ms bs
theorem mask_get : ∀ {ts : List Ty} {t : Ty} (i : Mem ts t) (ms : List Md) (bs : List Bool) (Γ : Gam ts), okMask ms bs = true → (∃ m, ms[i.ix]? = some m ∧ m.hard = true) → i.get (Gam.mask bs Γ) = i.get Γ
  | _ :: _, _, .z, m :: ms, b :: bs, Γ, h, hm => by
    obtain ⟨m', e, hh⟩ := hm
    have e : m = m' := by simpa [Mem.ix] using e
    subst e
    simp only [okMask, Bool.and_eq_true] at h
    have hb : b = true := by simpa [hh] using h.1
    subst hb
    rfl
  | _ :: _, _, .s i, m :: ms, b :: bs, Γ, h, hm => by
    simp only [okMask, Bool.and_eq_true] at h
    exact mask_get i ms bs Γ.2 h.2 (by simpa [Mem.ix] using hm)
  | _ :: _, _, .z, _, [], _, _, _ => rfl
  | _ :: _, _, .s i, _, [], _, _, _ => rfl
  | _, _, .z, [], _, _, _, hm => by simp at hm
  | _, _, .s i, [], _, _, _, hm => by simp at hm
theorem Ev.mask {L' : Reg} {Γ' : Gam ts} {σ' : St} {bs : List Bool} (hb : okMask ms bs = true) (e : Ev ms ts L Γ σ H L' Γ' σ' H') : Ev ms ts L Γ σ H L' (Gam.mask bs Γ') σ' H' :=
  ⟨e.sub, e.cell, e.stb, fun t i m h hh => (mask_get i ms bs Γ' hb ⟨m, h, hh⟩).trans (e.keep.1 t i m h hh), e.keep.2⟩
theorem Ev.cov {w : Bool} {L' : Reg} {Γ' : Gam ts} {σ' : St} (o : Own K E L ms ts Γ σ H xt) {xt' : List Addr} (o' : Own K E L' ms ts Γ' σ' H' xt') (e : Ev ms ts L Γ σ H L' Γ' σ' H') : Cov H H' (reg w E L) (reg w E L) := by
  have covL : Cov H H' L L := fun a q h x => by
    refine ⟨h, ?_⟩
    cases z : H a with
    | none => rw [z] at x; cases x
    | some y => rw [e.cell a y h z, ← z]; exact x
  cases w with
  | false => exact covL
  | true =>
    intro a q h x
    rcases h with h | h
    · exact ⟨.inl h, (o.covS o'.fr a q h x).2⟩
    · exact ⟨.inr h, (covL a q h x).2⟩
theorem Ev.covw {w : Bool} {L' : Reg} {Γ' : Gam ts} {σ' : St} (o : Own K E L ms ts Γ σ H xt) {xt' : List Addr} (o' : Own K E L' ms ts Γ' σ' H' xt') (e : Ev ms ts L Γ σ H L' Γ' σ' H') : Cov H H' (reg w E L) (reg w E L') := fun a q h x => by
  have := e.cov (w := w) o o' a q h x
  refine ⟨?_, this.2⟩
  cases w with
  | false => exact e.sub a this.1
  | true => exact this.1.elim .inl fun z => .inr (e.sub a z)
theorem rs_for {w : Bool} {t : Ty} {wi : TI} {g : TG} {tb : TS} {F : Gam ts → Option (List (den t))} {B : den t → Gam ts → Gam ts} {body : Gam ts → Option (Fl (Gam ts) (den ρ))} (bs : List Bool) (hi : RI K ms ts wi w t F) (hg : RG K ms ts g w t B) (hb : RS K ms ts tb rm ρ body)
    (hm : okMask ms bs = true := by rfl) : RS K ms ts (tFor wi g tb) rm ρ (sFor F B (Gam.mask bs) body) := fun E L Γ σ H D f o e p => by
  obtain ⟨ds, e1, e2⟩ := bind_some e
  refine hi E L Γ σ H [] _ ds o e1 fun J H1 Lr Z s1 nw it z1 => ?_
  have o1 : Own K E (fun a => L a ∨ Lr a) ms ts Γ σ H1 [] := o.temp s1 List.nodup_nil (fun a ha => by simp at ha) nw fun a ha => by simp at ha
  have ev1 : Ev ms ts L Γ σ H (fun a => L a ∨ Lr a) Γ σ H1 := ⟨fun a h => .inl h, fun a q _ h => s1 _ _ h, Stb.of_same s1, KeepF.refl⟩
  have p1 := p.later ev1
  have o1m := o1.mask bs
  refine ⟨fun i m σ' H' => m = ds.length - i ∧ i ≤ ds.length ∧ ∃ L' Γ', Own K E L' ms ts Γ' σ' H' [] ∧ Ev ms ts (fun a => L a ∨ Lr a) Γ σ H1 L' Γ' σ' H' ∧ forL B (Gam.mask bs) body (ds.drop i) Γ' = some f,
    ⟨ds.length, by simp, Nat.zero_le _, _, Gam.mask bs Γ, o1m, (Ev.same (Same.refl H1)).mask hm, by simpa using e2⟩, ?_⟩
  rintro i m σ2 H2 ⟨rfl, hle, L2, Γ2, o2, ev2, e3⟩
  have z2 : Z H2 := it.keep H1 H2 (ev2.cov o1 o2) ev2.stb z1
  by_cases hlt : i < ds.length
  · refine .inr ⟨it.go i H2 z2 hlt, fun σ' H' => ∃ L' Γ', Own K E L' ms ts Γ' σ' H' [] ∧ Ev ms ts (fun a => L a ∨ Lr a) Γ σ H1 L' Γ' σ' H' ∧ forL B (Gam.mask bs) body (ds.drop (i + 1)) Γ' = some f, fun σ' H' h => ⟨ds.length - (i + 1), by omega, rfl, hlt, h⟩, fun x H3 hy => ?_⟩
    obtain ⟨s3, d, hd, rd⟩ := it.yld i H2 x H3 hlt z2 hy
    have ed : ds.drop i = d :: ds.drop (i + 1) := by
      have hd' : ds[i] = d := by
        have := List.getElem?_eq_getElem hlt
        rw [this] at hd
        exact Option.some.inj hd
      rw [List.drop_eq_getElem_cons hlt, hd']
    rw [ed] at e3
    obtain ⟨r, e4, e5⟩ := bind_some (show (body (B d Γ2)).bind _ = some f from e3)
    have o3 := o2.same s3
    have ev3 : Ev ms ts (fun a => L a ∨ Lr a) Γ σ H1 L2 Γ2 σ2 H3 := ev2.trans (Ev.same s3)
    refine hg E L2 Γ2 σ2 H3 _ x d o3 ((rS_mono (Cov.of_reg fun a h _ => (by
      cases w with
      | false => exact ev3.sub a h
      | true => exact h.elim .inl fun z => .inr (ev3.sub a z) : reg w E L2 a)) (Stb.refl H3) t).1 x d rd) fun σ4 o4 ev4 => ?_
    refine hb E L2 (B d Γ2) σ4 H3 _ r o4 e4 ?_
    have evb := ev3.trans ev4
    cases r with
    | nx Γ5 => exact fun L5 σ5 H5 o5 ev5 => ⟨L5, Gam.mask bs Γ5, o5.mask bs, (evb.trans ev5).mask hm, e5⟩
    | ct Γ5 => exact fun L5 σ5 H5 o5 ev5 => ⟨L5, Gam.mask bs Γ5, o5.mask bs, (evb.trans ev5).mask hm, e5⟩
    | bk Γ5 =>
      have e6 : Fl.nx (Gam.mask bs Γ5) = f := Option.some.inj e5
      subst e6
      exact fun L5 σ5 H5 o5 ev5 => p1 L5 σ5 H5 (o5.mask bs) ((evb.trans ev5).mask hm)
    | rt d5 Γ5 =>
      have e6 : Fl.rt d5 Γ5 = f := Option.some.inj e5
      subst e6
      exact fun L5 σ5 H5 v5 xt5 o5 ev5 r5 => p1 L5 σ5 H5 v5 xt5 o5 (evb.trans ev5) r5
  · have hi : i = ds.length := by omega
    subst hi
    rw [List.drop_length] at e3
    have e4 : Fl.nx Γ2 = f := Option.some.inj e3
    subst e4
    exact .inl ⟨it.stop H2 z2, p1 L2 σ2 H2 o2 ev2⟩
end
end VV

/-! VDef: while, what is walked, defs and their calls. -/
namespace VV
open PySem L2
open PyProof.Rows hiding St

section
variable {K : PySem.W.Frag} {E : Ent} {ms : List Md} {ts : List Ty} {L L1 : Reg} {Γ Γ1 : Gam ts} {σ σ1 : St} {H H' H1 : Hp} {xt : List Addr} {rm : Rm} {ρ : Ty}
/-! ### while -/
def whileN {G ρ : Type} (c : G → Option Bool) (mask : G → G) (body : G → Option (Fl G ρ)) : Nat → G → Option (Fl G ρ)
  | 0, _ => none
  | n + 1, Γ => (c Γ).bind fun b => if b = true then (body Γ).bind fun r => match r with
      | .nx Γ' => whileN c mask body n (mask Γ')
      | .ct Γ' => whileN c mask body n (mask Γ')
      | .bk Γ' => some (.nx (mask Γ'))
      | .rt r Γ' => some (.rt r Γ')
    else some (.nx Γ)
theorem whileN_succ {G ρ : Type} {c : G → Option Bool} {mask : G → G} {body : G → Option (Fl G ρ)} : ∀ {n : Nat} {Γ : G} {r : Fl G ρ}, whileN c mask body n Γ = some r → whileN c mask body (n + 1) Γ = some r
  | 0, _, _, h => by cases h
  | n + 1, Γ, r, h => by
    rw [whileN] at h ⊢
    obtain ⟨b, e1, e2⟩ := bind_some h
    rw [e1]
    show (if b = true then _ else _) = _
    cases b with
    | false => exact e2
    | true =>
      rw [if_pos rfl] at e2 ⊢
      obtain ⟨r', e3, e4⟩ := bind_some e2
      rw [e3]
      cases r' with
      | nx Γ' => exact whileN_succ e4
      | ct Γ' => exact whileN_succ e4
      | bk Γ' => exact e4
      | rt d Γ' => exact e4
theorem whileN_add {G ρ : Type} {c : G → Option Bool} {mask : G → G} {body : G → Option (Fl G ρ)} {n : Nat} {Γ : G} {r : Fl G ρ} (h : whileN c mask body n Γ = some r) : ∀ k : Nat, whileN c mask body (n + k) Γ = some r
  | 0 => h
  | k + 1 => whileN_succ (whileN_add h k)
theorem whileN_det {G ρ : Type} {c : G → Option Bool} {mask : G → G} {body : G → Option (Fl G ρ)} {n m : Nat} {Γ : G} {r r' : Fl G ρ} (h : whileN c mask body n Γ = some r) (h' : whileN c mask body m Γ = some r') : r = r' := by
  have a := whileN_add h m
  have b := whileN_add h' n
  rw [Nat.add_comm m n] at b
  rw [a] at b
  exact Option.some.inj b
open Classical in
noncomputable def sWhile {G ρ : Type} (c : G → Option Bool) (mask : G → G) (body : G → Option (Fl G ρ)) : G → Option (Fl G ρ) := fun Γ =>
  if h : ∃ r n, whileN c mask body n (mask Γ) = some r then some (Classical.choose h) else none
theorem sWhile_of {G ρ : Type} {c : G → Option Bool} {mask : G → G} {body : G → Option (Fl G ρ)} {n : Nat} {Γ : G} {r : Fl G ρ} (h : whileN c mask body n (mask Γ) = some r) : sWhile c mask body Γ = some r := by
  have hx : ∃ r n, whileN c mask body n (mask Γ) = some r := ⟨r, n, h⟩
  unfold sWhile
  rw [dif_pos hx]
  obtain ⟨m, hm⟩ := Classical.choose_spec hx
  rw [whileN_det hm h]
theorem sWhile_some {G ρ : Type} {c : G → Option Bool} {mask : G → G} {body : G → Option (Fl G ρ)} {Γ : G} {r : Fl G ρ} (h : sWhile c mask body Γ = some r) : ∃ n, whileN c mask body n (mask Γ) = some r := by
  unfold sWhile at h
  split at h
  · rename_i hx
    obtain ⟨m, hm⟩ := Classical.choose_spec hx
    rw [Option.some.inj h] at hm
    exact ⟨m, hm⟩
  · cases h
theorem rs_while {tc : TT} {tb : TS} {c : Gam ts → Option Bool} {body : Gam ts → Option (Fl (Gam ts) (den ρ))} (bs : List Bool) (hc : RT K ms ts tc c) (hb : RS K ms ts tb rm ρ body) (hm : okMask ms bs = true := by rfl) : RS K ms ts (tWhile tc tb) rm ρ (sWhile c (Gam.mask bs) body) := fun E L Γ σ H D f o e p => by
  obtain ⟨n, e⟩ := sWhile_some e
  refine ⟨fun m σ' H' => ∃ L' Γ', Own K E L' ms ts Γ' σ' H' [] ∧ Ev ms ts L Γ σ H L' Γ' σ' H' ∧ whileN c (Gam.mask bs) body m Γ' = some f, ⟨n, L, Gam.mask bs Γ, o.mask bs, (Ev.same (Same.refl H)).mask hm, e⟩, ?_⟩
  rintro m σ2 H2 ⟨L2, Γ2, o2, ev2, e2⟩
  cases m with
  | zero => cases e2
  | succ m =>
    rw [whileN] at e2
    obtain ⟨b, e3, e4⟩ := bind_some e2
    refine hc E L2 Γ2 σ2 H2 [] _ b o2 e3 fun H3 s3 => ?_
    have ev3 := ev2.trans (Ev.same (ms := ms) (ts := ts) (L := L2) (Γ := Γ2) (σ := σ2) s3)
    cases b with
    | false =>
      rw [if_neg Bool.false_ne_true] at e4 ⊢
      have e5 : Fl.nx Γ2 = f := Option.some.inj e4
      subst e5
      exact p L2 σ2 H3 (o2.same s3) ev3
    | true =>
      rw [if_pos rfl] at e4 ⊢
      obtain ⟨r, e5, e6⟩ := bind_some e4
      refine ⟨fun σ' H' => ∃ L' Γ', Own K E L' ms ts Γ' σ' H' [] ∧ Ev ms ts L Γ σ H L' Γ' σ' H' ∧ whileN c (Gam.mask bs) body m Γ' = some f, fun σ' H' h => ⟨m, Nat.lt_succ_self m, h⟩, ?_⟩
      refine hb E L2 Γ2 σ2 H3 _ r (o2.same s3) e5 ?_
      cases r with
      | nx Γ5 => exact fun L5 σ5 H5 o5 ev5 => ⟨L5, Gam.mask bs Γ5, o5.mask bs, (ev3.trans ev5).mask hm, e6⟩
      | ct Γ5 => exact fun L5 σ5 H5 o5 ev5 => ⟨L5, Gam.mask bs Γ5, o5.mask bs, (ev3.trans ev5).mask hm, e6⟩
      | bk Γ5 =>
        have e7 : Fl.nx (Gam.mask bs Γ5) = f := Option.some.inj e6
        subst e7
        exact fun L5 σ5 H5 o5 ev5 => p L5 σ5 H5 (o5.mask bs) ((ev3.trans ev5).mask hm)
      | rt d5 Γ5 =>
        have e7 : Fl.rt d5 Γ5 = f := Option.some.inj e6
        subst e7
        exact fun L5 σ5 H5 v5 xt5 o5 ev5 r5 => p L5 σ5 H5 v5 xt5 o5 (ev3.trans ev5) r5

/-! ### what is walked -/
theorem iter_list {R : Reg} {t : Ty} {a : Addr} {ds : List (den t)} : IterOk K R t (Itl K a) ds (fun H => (rS K H R (.list t)).1 (.ref a) ds) where
  keep := fun H H' c s h => (rS_mono c s (.list t)).1 _ _ h
  go := fun i H h hi => by
    obtain ⟨b, vs, e, h1, h2⟩ := h
    cases e
    have hl := h2.length
    exact ⟨vs, vs[i]'(by omega), h1.seq, List.getElem?_eq_getElem _⟩
  stop := fun H h => by
    obtain ⟨b, vs, e, h1, h2⟩ := h
    cases e
    exact ⟨vs, h1.seq, Nat.le_of_eq h2.length⟩
  yld := fun i H x H' hlt h hy => by
    obtain ⟨b, vs, e, h1, h2⟩ := h
    cases e
    obtain ⟨rfl, hx⟩ := hy
    obtain ⟨d, hd, r⟩ := h2.get' (hx vs h1.seq)
    exact ⟨Same.refl _, d, hd, r⟩
theorem reg_rep {w : Bool} {t : Ty} {v : V} {d : den t} (r : Rep K E L H H1 (if w then .w else .l) t v d) : ∃ Lr, (rS K H1 (reg w E fun a => L a ∨ Lr a) t).1 v d ∧ Nw H H1 Lr := by
  cases w with
  | true =>
    obtain ⟨Lr, h1, h2⟩ := r
    exact ⟨Lr, h1, h2⟩
  | false =>
    obtain ⟨Lr, h1, h2⟩ := r
    exact ⟨Lr, h1, h2⟩
theorem ri_list {w : Bool} {t : Ty} {te : TE} {F : Gam ts → Option (List (den t))} (h : RP K ms ts te (if w then .w else .l) (.list t) F) : RI K ms ts (iList K te) w t F := fun E L Γ σ H xt R ds o e q => by
  refine h E L Γ σ H xt _ ds o e fun v H1 s1 r1 => ?_
  obtain ⟨Lr, h1, h2⟩ := reg_rep r1
  obtain ⟨a, vs, rfl, h3, h4⟩ := id h1
  exact ⟨a, rfl, ⟨vs, h3.seq⟩, q _ H1 Lr _ s1 h2 iter_list h1⟩
theorem iter_vtup {R : Reg} {t : Ty} {a : Addr} {ds : List (den t)} : IterOk K R t (Itt K a) ds (fun H => (rS K H R (.vtup t)).1 (.ref a) ds) where
  keep := fun H H' c s h => (rS_mono c s (.vtup t)).1 _ _ h
  go := fun i H h hi => by
    obtain ⟨b, vs, e, h1, h2⟩ := h
    cases e
    have hl := h2.length
    exact ⟨vs, vs[i]'(by omega), .of h1, List.getElem?_eq_getElem _⟩
  stop := fun H h => by
    obtain ⟨b, vs, e, h1, h2⟩ := h
    cases e
    exact ⟨vs, .of h1, Nat.le_of_eq h2.length⟩
  yld := fun i H x H' hlt h hy => by
    obtain ⟨b, vs, e, h1, h2⟩ := h
    cases e
    obtain ⟨rfl, hx⟩ := hy
    obtain ⟨d, hd, r⟩ := h2.get' (hx vs (.of h1))
    exact ⟨Same.refl _, d, hd, r⟩
theorem ri_vtup {w : Bool} {t : Ty} {te : TE} {F : Gam ts → Option (List (den t))} (h : RP K ms ts te (if w then .w else .l) (.vtup t) F) : RI K ms ts (iTup K te) w t F := fun E L Γ σ H xt R ds o e q => by
  refine h E L Γ σ H xt _ ds o e fun v H1 s1 r1 => ?_
  obtain ⟨Lr, h1, h2⟩ := reg_rep r1
  obtain ⟨a, vs, rfl, h3, h4⟩ := id h1
  exact ⟨a, rfl, ⟨vs, .of h3⟩, q _ H1 Lr _ s1 h2 iter_vtup h1⟩
/-- lo, lo + 1, .. below hi -/
def rng (lo hi : Int) : List Int := (List.range (hi - lo).toNat).map fun (k : Nat) => lo + (k : Int)
theorem rng_get {lo hi : Int} {i : Nat} (h : i < (hi - lo).toNat) : (rng lo hi)[i]? = some (lo + (i : Int)) := by
  unfold rng
  rw [List.getElem?_map, List.getElem?_range h]
  rfl
theorem rng_len {lo hi : Int} : (rng lo hi).length = (hi - lo).toNat := by simp [rng]
theorem iter_rng {R : Reg} {lo hi : Int} : IterOk K R .int (Itr lo (hi - lo).toNat) (rng lo hi) (fun _ => True) where
  keep := fun _ _ _ _ h => h
  go := fun i H _ hi => by rw [rng_len] at hi; exact hi
  stop := fun H _ => by rw [rng_len]; exact Nat.le_refl _
  yld := fun i H x H' hlt _ hy => by
    obtain ⟨rfl, rfl⟩ := hy
    rw [rng_len] at hlt
    exact ⟨Same.refl _, _, rng_get hlt, rfl⟩
def fRng1 (n : Int) : Option (List Int) := okIf (decide (-(2 ^ 62) ≤ n ∧ n < 2 ^ 62)) (rng 0 n)
def fRng2 (d : Int × Int) : Option (List Int) := okIf (decide (-(2 ^ 62) ≤ d.1 ∧ d.1 < 2 ^ 62 ∧ -(2 ^ 62) ≤ d.2 ∧ d.2 < 2 ^ 62)) (rng d.1 d.2)

theorem ri_rng1 {w : Bool} {ta : TA} {m : Em} {F : Gam ts → Option Int} (h : RA K ms ts ta m (.last .int) F) : RI K ms ts (iRng1 ta) w .int (e1 fRng1 F) := fun E L Γ σ H xt R ds o e q => by
  obtain ⟨n, en, e⟩ := bind_some e
  dsimp only [fRng1, okIf] at e
  split at e
  · rename_i hb
    cases e
    have hb := of_decide_eq_true hb
    refine h E L Γ σ H xt _ n o en fun vs H1 s1 r1 => ?_
    obtain ⟨v, rfl, rv⟩ : ∃ v, vs = [v] ∧ v = .int n := by
      cases m with
      | o =>
        obtain ⟨f, Lr, ⟨v, e1, k⟩, _⟩ := r1
        rcases k with k | ⟨_, _, k⟩
        · exact ⟨v, e1, k.2⟩
        · exact ⟨v, e1, k⟩
      | l => obtain ⟨Lr, ⟨v, e1, k⟩, _⟩ := r1; exact ⟨v, e1, k⟩
      | w => obtain ⟨Lr, ⟨v, e1, k⟩, _⟩ := r1; exact ⟨v, e1, k⟩
      | b => obtain ⟨v, e1, k⟩ := r1; exact ⟨v, e1, k⟩
    subst rv
    refine ⟨n, rfl, hb.1, hb.2, q _ H1 (fun _ => False) (fun _ => True) s1 (fun a h => h.elim) ?_ True.intro⟩
    have := iter_rng (K := K) (R := reg w E fun a => L a ∨ False) (lo := 0) (hi := n)
    rw [Int.sub_zero] at this
    exact this
  · cases e
theorem ri_rng2 {w : Bool} {ta : TA} {F : Gam ts → Option (Int × Int)} (h : RA K ms ts ta .b (.cons .int (.last .int)) F) : RI K ms ts (iRng2 ta) w .int (e1 fRng2 F) := fun E L Γ σ H xt R ds o e q => by
  obtain ⟨n, en, e⟩ := bind_some e
  dsimp only [fRng2, okIf] at e
  split at e
  · rename_i hb
    cases e
    have hb := of_decide_eq_true hb
    refine h E L Γ σ H xt _ n o en fun vs H1 s1 r1 => ?_
    obtain ⟨v, r, rfl, rv, ⟨w', rfl, rw'⟩⟩ := r1
    cases rv
    cases rw'
    exact ⟨n.1, n.2, rfl, hb, q _ H1 (fun _ => False) (fun _ => True) s1 (fun a h => h.elim) iter_rng True.intro⟩
  · cases e

/-! ### defs -/
def rowTys : Ty → List Ty
  | .last a => [a]
  | .cons a b => a :: rowTys b
  | _ => []
def noneG : (ls : List Ty) → Gam ls
  | [] => ()
  | _ :: ls => (none, noneG ls)
def iniG : (b : Ty) → (ls : List Ty) → den b → Gam (rowTys b ++ ls)
  | .last _, ls, d => (some d, noneG ls)
  | .cons _ b, ls, d => (some d.1, iniG b ls d.2)
  | .non, ls, _ => noneG ls
  | .bool, ls, _ => noneG ls
  | .int, ls, _ => noneG ls
  | .str, ls, _ => noneG ls
  | .any, ls, _ => noneG ls
  | .opt _, ls, _ => noneG ls
  | .vtup _, ls, _ => noneG ls
  | .list _, ls, _ => noneG ls
  | .dict _ _, ls, _ => noneG ls
  | .own _, ls, _ => noneG ls
  | .hl _, ls, _ => noneG ls
  | .tup _, ls, _ => noneG ls
/-- the parameters are shared -/
def okMs : Ty → List Ty → List Md → Bool
  | .last _, ls, m :: ms => (m == .w || m == .f) && ms.length == ls.length
  | .cons _ b, ls, m :: ms => (m == .w || m == .f) && okMs b ls ms
  | _, _, _ => false
theorem rG_none : ∀ {ls : List Ty} {ms : List Md} {S0 L : Reg}, ms.length = ls.length → rG K H S0 L ms ls (noneG ls) (List.replicate ls.length none) []
  | [], [], _, _, _ => ⟨rfl, rfl⟩
  | _ :: ls, m :: ms, _, _, h => ⟨[], [], rfl, rfl, rG_none (by simpa using h)⟩
  | [], _ :: _, _, _, h => by simp at h
  | _ :: _, [], _, _, h => by simp at h
theorem rG_ini {S0 L : Reg} : ∀ (b : Ty) (ls : List Ty) (ms : List Md) (vs : List V) (d : den b), okMs b ls ms = true → (rS K H S0 b).2 vs d → rG K H S0 L ms (rowTys b ++ ls) (iniG b ls d) (vs.map some ++ List.replicate ls.length none) []
  | .last a, ls, m :: ms, vs, d, hk, h => by
    obtain ⟨v, rfl, r⟩ := h
    simp only [okMs, Bool.and_eq_true, Bool.or_eq_true, beq_iff_eq] at hk
    have r' : (rS K H (fun a => S0 a ∨ L a) a).1 v d := (rS_mono (Cov.of_reg fun a h _ => .inl h) (Stb.refl H) a).1 v d r
    refine ⟨[], [], rfl, ⟨v, rfl, ?_⟩, rG_none hk.2⟩
    rcases hk.1 with rfl | rfl
    · exact ⟨rfl, r'⟩
    · exact ⟨rfl, r'⟩
  | .cons a b, ls, m :: ms, vs, d, hk, h => by
    obtain ⟨v, r, rfl, r1, r2⟩ := h
    simp only [okMs, Bool.and_eq_true, Bool.or_eq_true, beq_iff_eq] at hk
    have r' : (rS K H (fun a => S0 a ∨ L a) a).1 v d.1 := (rS_mono (Cov.of_reg fun a h _ => .inl h) (Stb.refl H) a).1 v d.1 r1
    refine ⟨[], [], rfl, ⟨v, rfl, ?_⟩, rG_ini b ls ms r d.2 hk.2 r2⟩
    rcases hk.1 with rfl | rfl
    · exact ⟨rfl, r'⟩
    · exact ⟨rfl, r'⟩
  | .last _, _, [], _, _, hk, _ => by simp [okMs] at hk
  | .cons _ _, _, [], _, _, hk, _ => by simp [okMs] at hk
  | .non, _, _, _, _, hk, _ => by simp [okMs] at hk
  | .bool, _, _, _, _, hk, _ => by simp [okMs] at hk
  | .int, _, _, _, _, hk, _ => by simp [okMs] at hk
  | .str, _, _, _, _, hk, _ => by simp [okMs] at hk
  | .any, _, _, _, _, hk, _ => by simp [okMs] at hk
  | .opt _, _, _, _, _, hk, _ => by simp [okMs] at hk
  | .vtup _, _, _, _, _, hk, _ => by simp [okMs] at hk
  | .list _, _, _, _, _, hk, _ => by simp [okMs] at hk
  | .dict _ _, _, _, _, _, hk, _ => by simp [okMs] at hk
  | .own _, _, _, _, _, hk, _ => by simp [okMs] at hk
  | .hl _, _, _, _, _, hk, _ => by simp [okMs] at hk
  | .tup _, _, _, _, _, hk, _ => by simp [okMs] at hk
/-- how what is handed back lies -/
def CRep (K : PySem.W.Frag) (S : Reg) (H H' : Hp) : Rm → (ρ : Ty) → V → den ρ → Prop
  | .o, ρ, v, d => ∃ f Lr, (rO K H' Lr ρ).1 v d f ∧ f.Nodup ∧ Nw H H' (· ∈ f) ∧ Nw H H' Lr ∧ ∀ a ∈ f, ¬ Lr a
  | .l, ρ, v, d => ∃ Lr, (rS K H' Lr ρ).1 v d ∧ Nw H H' Lr
  | .w, ρ, v, d => ∃ Lr, (rS K H' (fun a => S a ∨ Lr a) ρ).1 v d ∧ Nw H H' Lr
/-- THE PROMISE of a def that changes nothing that is handed in: its mirror m -/
def spP (K : PySem.W.Frag) (b : Ty) (rm : Rm) (ρ : Ty) (m : den b → Option (den ρ)) : Sp := fun vs H Q _ => ∃ (S : Reg) (d : den b) (r : den ρ), (∀ a, S a → (H a).isSome = true) ∧ (rS K H S b).2 vs d ∧ m d = some r ∧ ∀ v' H', Same H H' → CRep K S H H' rm ρ v' r → Q v' H'
def endOf {G ρ : Type} : Option (Fl G ρ) → Option ρ
  | some (.rt r _) => some r
  | _ => none
/-- what a def's body reckons -/
def runG {ρ : Type} (b : Ty) (ls : List Ty) (F : Gam (rowTys b ++ ls) → Option (Fl (Gam (rowTys b ++ ls)) ρ)) (d : den b) : Option ρ := endOf (F (iniG b ls d))
theorem fn_ok {P : Program} {w : World} {mg : Str → Option Value} {base : Heap} {x qual : Str} {st : Stmt} {f : Addr} {fd : FuncData} {N ps : List Str} {k : Nat} {b : Ty} (ls : List Ty) (ms : List Md) {m : den b → Option (den ρ)} {F : Gam (rowTys b ++ ls) → Option (Fl (Gam (rowTys b ++ ls)) (den ρ))}
    (Fn : Fun K x qual st f fd) (S : FnScope N ps (defScope st)) (hps : ps.length = rowLen b) (hN : N.length = rowLen b + ls.length) (hms : okMs b ls ms = true) (hm : ∀ d, m d = runG b ls F d)
    (hbody : ∀ (cdv : Value) (A : Around) (outer : List Env) (s : Shared) (H : Hp) (E : XK), Room k (A.deeper (envOfC qual (defScope st) s.heap.objs.size f cdv)) →
      ∃ t, PSs (cxOf CX0 P w K mg base N qual (defScope st) f cdv A outer s H E).nox (defBody st) t ∧ RS K ms (rowTys b ++ ls) t rm ρ F) : FnOk P w K mg base CX0 (k + 1) f fd ps (spP K b rm ρ m) := by
  refine Fn.ok S (fun vs H Q E h => ?_) (fun cdv A outer s H vs Q E hr h => ?_)
  · obtain ⟨S, d, r, _, h2, _⟩ := h
    rw [row_length b vs d h2, hps]
  · obtain ⟨S, d, r, h1, h2, h3, h4⟩ := h
    obtain ⟨t, ht, hrs⟩ := hbody cdv A outer s H E hr
    refine ⟨t, ht, ?_⟩
    rw [hm d] at h3
    unfold runG at h3
    have hl := row_length b vs d h2
    have es : L2.start N vs = vs.map some ++ List.replicate ls.length none := by
      unfold L2.start
      rw [hl, hN, Nat.add_sub_cancel_left]
    rw [es]
    obtain ⟨fl, e1, e2⟩ : ∃ fl, F (iniG b ls d) = some fl ∧ endOf (some fl) = some r := by
      cases e : F (iniG b ls d) with
      | none => rw [e] at h3; cases h3
      | some fl => rw [e] at h3; exact ⟨fl, rfl, h3⟩
    cases fl with
    | nx _ => cases e2
    | bk _ => cases e2
    | ct _ => cases e2
    | rt r' Γ' =>
      cases e2
      have o : Own K ⟨H, S, []⟩ (fun _ => False) ms (rowTys b ++ ls) (iniG b ls d) (vs.map some ++ List.replicate ls.length none) H [] :=
        ⟨⟨[], rG_ini b ls ms vs d hms h2, by simp, fun a ha => by simp at ha⟩, fun a o h _ => h, fun a h => h.elim, fun a h => ⟨h1 a h, by simp⟩, fun a h => by simp at h⟩
      refine hrs ⟨H, S, []⟩ _ _ _ H _ _ o e1 fun L' σ' H' v xt o' ev rr => ?_
      have s' : Same H H' := fun a q h => o'.fr a q h (by simp)
      have nwL : Nw H H' L' := fun a h => ⟨(o'.lr a h).1.elim id fun z => by simp at z, (o'.lr a h).2⟩
      refine h4 v H' s' ?_
      cases rm with
      | o =>
        obtain ⟨fp, _, nd, gd⟩ := o'.ex
        exact ⟨xt, L', rr, (List.nodup_append.mp nd).2.1, fun a ha => ⟨(gd a (List.mem_append_right _ ha)).new.elim id fun z => by simp at z, (gd a (List.mem_append_right _ ha)).at_⟩, nwL, fun a ha => (gd a (List.mem_append_right _ ha)).nl⟩
      | l => exact ⟨L', rr.2, nwL⟩
      | w => exact ⟨L', rr.2, nwL⟩
theorem Rep2.b {m : Em} {t : Ty} {vs : List V} {d : den t} (r : Rep2 K E L H H1 m t vs d) : (rS K H1 (fun _ => True) t).2 vs d := by
  cases m with
  | o =>
    obtain ⟨f, Lr, h1, _⟩ := r
    exact (rO_s (fun _ _ => True.intro) t).2 vs d f (fun _ _ => True.intro) h1
  | l =>
    obtain ⟨Lr, h1, _⟩ := r
    exact (rS_mono (Cov.of_reg fun _ _ _ => True.intro) (Stb.refl _) t).2 vs d h1
  | w =>
    obtain ⟨Lr, h1, _⟩ := r
    exact (rS_mono (Cov.of_reg fun _ _ _ => True.intro) (Stb.refl _) t).2 vs d h1
  | b => exact r
/-- a call of a def that hands back what is its own -/
theorem rp_call {b : Ty} {mA : Em} {ta : TA} {m : den b → Option (den ρ)} {F : Gam ts → Option (den b)} {X : XK} (hk : (rm == .o || rm == .l) = true) (h : RA K ms ts ta mA b F) : RP K ms ts (tCall (spP K b rm ρ m) [] X ta) rm.em ρ (e1 m F) := fun E L Γ σ H xt Q d o e q => by
  obtain ⟨a, ea, e⟩ := bind_some e
  refine h E L Γ σ H xt _ a o ea fun vs H1 s1 r1 => ?_
  rw [List.append_nil]
  refine ⟨fun a => (H1 a).isSome = true, a, d, fun _ h => h, (rS_mono (Cov.of_reg fun _ _ h => h) (Stb.refl _) b).2 vs a r1.b, e, fun v' H2 s2 r2 => ?_⟩
  refine q v' H2 (s1.trans s2) (Rep.older s1 ?_)
  cases rm with
  | o =>
    obtain ⟨f, Lr, h1, h2, h3, h4, h5⟩ := r2
    exact ⟨f, Lr, (rO_mono (Cov.of_reg fun a h _ => .inr h) (Stb.refl _) ρ).1 v' d f (fun _ _ => rfl) h1, h2, h3, h4, h5⟩
  | l =>
    obtain ⟨Lr, h1, h2⟩ := r2
    exact ⟨Lr, (rS_mono (Cov.of_reg fun a h _ => .inr h) (Stb.refl _) ρ).1 v' d h1, h2⟩
  | w => exact absurd hk (by decide)
/-- a call of a def that may hand back a part of what is handed in -/
theorem rp_callw {b : Ty} {ta : TA} {m : den b → Option (den ρ)} {F : Gam ts → Option (den b)} {X : XK} (h : RA K ms ts ta .w b F) : RP K ms ts (tCall (spP K b .w ρ m) [] X ta) .w ρ (e1 m F) := fun E L Γ σ H xt Q d o e q => by
  obtain ⟨a, ea, e⟩ := bind_some e
  refine h E L Γ σ H xt _ a o ea fun vs H1 s1 r1 => ?_
  rw [List.append_nil]
  obtain ⟨Lr, h1, h2⟩ := r1
  refine ⟨fun a => (E.S0 a ∨ L a ∨ Lr a) ∧ (H1 a).isSome = true, a, d, fun _ h => h.2, (rS_mono (Cov.of_reg fun _ h h' => ⟨h, h'⟩) (Stb.refl _) b).2 vs a h1, e, fun v' H2 s2 r2 => ?_⟩
  obtain ⟨Ls, h3, h4⟩ := r2
  refine q v' H2 (s1.trans s2) ⟨fun a => Lr a ∨ Ls a, (rS_mono (Cov.of_reg fun a h _ => ?_) (Stb.refl _) ρ).1 v' d h3, fun a h => ?_⟩
  · rcases h with ⟨h | h | h, _⟩ | h
    · exact .inl h
    · exact .inr (.inl h)
    · exact .inr (.inr (.inl h))
    · exact .inr (.inr (.inr h))
  · rcases h with h | h
    · exact ⟨(h2 a h).1, by rw [same_at s2 (h2 a h).2]; exact (h2 a h).2⟩
    · exact ⟨s1.free (h4 a h).1, (h4 a h).2⟩

/-! ### the law -/
theorem f2_ints : ∀ ns : List Int, F2 (rS K H (fun a => (H a).isSome = true) .int).1 (ns.map V.int) ns
  | [] => True.intro
  | _ :: ns => ⟨rfl, f2_ints ns⟩
theorem law_sp {m : den (.last (.list .int)) → Option (den .bool)} (hm : ∀ ns : List Int, ns.length ≤ 63 → m ns = some true) {a : Addr} {ns : List Int} {X : XK} (hl : ns.length ≤ 63) (hS : SqL K H a (ns.map V.int)) : spP K (.last (.list .int)) .o .bool m [.ref a] H (fun v _ => v = .bl true) X :=
  ⟨fun a => (H a).isSome = true, ns, true, fun _ h => h, ⟨.ref a, rfl, a, ns.map V.int, rfl, LstR.of_seq hS, f2_ints ns⟩, hm ns hl, fun v' H' _ cr => by
    obtain ⟨f, Lr, h, _⟩ := cr
    exact h.2⟩
/-- a def as it stands behind the top, with its name -/
structure Df (K : PySem.W.Frag) (mg : Str → Option Value) (x qual : Str) (st : Stmt) (ps : List Str) (f : Addr) (fd : FuncData) : Prop where
  fn : Fun K x qual st f fd
  gl : mg x = some (.ref f)
  bi : Binds K fd ps []
theorem hu65 {k : Nat} {A : Around} (hr : Room k A) : A.units + 65 < cLine := by
  have := hr.un
  omega
end
end VV

/-! VMore: displays, items, slices, lengths, methods, truth of kinds, dicts. -/
namespace VV
open PySem L2
open PyProof.Rows hiding St

section
variable {K : PySem.W.Frag} {E : Ent} {ms : List Md} {ts : List Ty} {L L1 : Reg} {Γ Γ1 : Gam ts} {σ σ1 : St} {H H' H1 H2 : Hp} {xt : List Addr} {rm : Rm} {ρ : Ty}

/-! ### rows of one type -/
/-- how a row of things of one type lies -/
def RepL (K : PySem.W.Frag) (E : Ent) (L : Reg) (H H' : Hp) : Em → (t : Ty) → List V → List (den t) → Prop
  | .o, t, vs, ds => ∃ f Lr, F3 (kid t.isOwn (rS K H' (fun a => L a ∨ Lr a) t).1 (rO K H' (fun a => L a ∨ Lr a) t).1) vs ds f ∧ f.Nodup ∧ Nw H H' (· ∈ f) ∧ Nw H H' Lr ∧ ∀ a ∈ f, ¬ Lr a
  | .l, t, vs, ds => ∃ Lr, F2 (rS K H' (fun a => L a ∨ Lr a) t).1 vs ds ∧ Nw H H' Lr
  | .w, t, vs, ds => ∃ Lr, F2 (rS K H' (fun a => E.S0 a ∨ L a ∨ Lr a) t).1 vs ds ∧ Nw H H' Lr
  | .b, t, vs, ds => F2 (rS K H' (fun _ => True) t).1 vs ds
def RL (K : PySem.W.Frag) (ms : List Md) (ts : List Ty) (ta : TA) (m : Em) (t : Ty) (F : Gam ts → Option (List (den t))) : Prop :=
  ∀ (E : Ent) (L : Reg) (Γ : Gam ts) (σ : St) (H : Hp) (xt : List Addr) (Q : List V → Hp → Prop) (d : List (den t)), Own K E L ms ts Γ σ H xt → F Γ = some d → (∀ vs H', Same H H' → RepL K E L H H' m t vs d → Q vs H') → ta σ H Q
theorem rl_nil {m : Em} {t : Ty} : RL K ms ts tNil m t eNil := fun E L Γ σ H xt Q d o e q => by
  cases e
  refine q [] H (Same.refl H) ?_
  cases m with
  | o => exact ⟨[], fun _ => False, rfl, List.nodup_nil, fun a h => by simp at h, fun a h => h.elim, fun a h => by simp at h⟩
  | l => exact ⟨fun _ => False, True.intro, fun a h => h.elim⟩
  | w => exact ⟨fun _ => False, True.intro, fun a h => h.elim⟩
  | b => exact True.intro
theorem nw_old {R : Reg} (s1 : Same H H1) (h : Nw H1 H2 R) : Nw H H2 R := fun a ha => ⟨s1.free (h a ha).1, (h a ha).2⟩
theorem nw_on {R : Reg} (s2 : Same H1 H2) (h : Nw H H1 R) : Nw H H2 R := fun a ha => ⟨(h a ha).1, by rw [same_at s2 (h a ha).2]; exact (h a ha).2⟩
theorem nw_apart {R R' : Reg} (h : Nw H H1 R) (h' : Nw H1 H2 R') : ∀ a, R a → ¬ R' a := fun a ha hb => by
  have := (h a ha).2
  rw [(h' a hb).1] at this
  cases this
theorem rl_cons {m : Em} {t : Ty} {te : TE} {ta : TA} {F : Gam ts → Option (den t)} {G : Gam ts → Option (List (den t))} (h : RP K ms ts te m t F) (hr : RL K ms ts ta m t G) : RL K ms ts (tCons te ta) m t (eSnoc F G) := fun E L Γ σ H xt Q d o e q => by
  obtain ⟨a, ea, e⟩ := bind_some e
  obtain ⟨r, er, e⟩ := bind_some e
  cases e
  refine h E L Γ σ H xt _ a o ea fun v H1 s1 r1 => hr E L Γ σ H1 xt _ r (o.same s1) er fun vs H2 s2 r2 => q (v :: vs) H2 (s1.trans s2) ?_
  cases m with
  | o =>
    obtain ⟨f, Lr, h1, h2, h3, h4, h5⟩ := r1
    obtain ⟨g, Ls, k1, k2, k3, k4, k5⟩ := r2
    have e1 : (rO K H2 (fun a => L a ∨ (Lr a ∨ Ls a)) t).1 v a f := (rO_mono (Cov.of_same s2 fun a h _ => h.elim .inl fun z => .inr (.inl z)) (Stb.of_same s2) t).1 v a f (fun a ha => same_at s2 (h3 a ha).2) h1
    have e2 : F3 (kid t.isOwn (rS K H2 (fun a => L a ∨ (Lr a ∨ Ls a)) t).1 (rO K H2 (fun a => L a ∨ (Lr a ∨ Ls a)) t).1) vs r g := k1.imp fun v d g' _ x => kid_mono ((rS_mono (Cov.of_reg fun a h _ => h.elim .inl fun z => .inr (.inr z)) (Stb.refl _) t).1 v d) ((rO_mono (Cov.of_reg fun a h _ => h.elim .inl fun z => .inr (.inr z)) (Stb.refl _) t).1 v d g' fun _ _ => rfl) x
    refine ⟨f ++ g, fun a => Lr a ∨ Ls a, ⟨f, g, rfl, .inl e1, e2⟩, List.nodup_append.mpr ⟨h2, k2, fun a ha b hb z => ?_⟩, fun a ha => ?_, fun a ha => ?_, fun a ha => ?_⟩
    · subst z
      exact nw_apart h3 k3 a ha hb
    · rcases List.mem_append.mp ha with z | z
      · exact nw_on s2 h3 a z
      · exact nw_old s1 k3 a z
    · rcases ha with z | z
      · exact nw_on s2 h4 a z
      · exact nw_old s1 k4 a z
    · rcases List.mem_append.mp ha with z | z
      · exact fun y => y.elim (h5 a z) (nw_apart h3 k4 a z)
      · exact fun y => y.elim (fun y => nw_apart h4 k3 a y z) (k5 a z)
  | l =>
    obtain ⟨Lr, h1, h2⟩ := r1
    obtain ⟨Ls, k1, k2⟩ := r2
    refine ⟨fun a => Lr a ∨ Ls a, ⟨(rS_mono (Cov.of_same s2 fun a h _ => h.elim .inl fun z => .inr (.inl z)) (Stb.of_same s2) t).1 v a h1, k1.imp fun v d x => (rS_mono (Cov.of_reg fun a h _ => h.elim .inl fun z => .inr (.inr z)) (Stb.refl _) t).1 v d x⟩, fun a ha => ?_⟩
    rcases ha with z | z
    · exact nw_on s2 h2 a z
    · exact nw_old s1 k2 a z
  | w =>
    obtain ⟨Lr, h1, h2⟩ := r1
    obtain ⟨Ls, k1, k2⟩ := r2
    refine ⟨fun a => Lr a ∨ Ls a, ⟨(rS_mono (Cov.of_same s2 fun a h _ => h.elim .inl fun z => z.elim (fun z => .inr (.inl z)) fun z => .inr (.inr (.inl z))) (Stb.of_same s2) t).1 v a h1,
      k1.imp fun v d x => (rS_mono (Cov.of_reg fun a h _ => h.elim .inl fun z => z.elim (fun z => .inr (.inl z)) fun z => .inr (.inr (.inr z))) (Stb.refl _) t).1 v d x⟩, fun a ha => ?_⟩
    rcases ha with z | z
    · exact nw_on s2 h2 a z
    · exact nw_old s1 k2 a z
  | b => exact ⟨(rS_mono (Cov.of_same s2 fun a h _ => h) (Stb.of_same s2) t).1 v a r1, r2⟩

/-! ### displays -/
def rowSmall (b : Ty) : Bool := decide (rowLen b ≤ 1000)
theorem line_1000 {n : Nat} (h : n ≤ 1000) : n ≤ sizeLine := by rw [sizeLine_eq]; omega
theorem Rep2.len {m : Em} {b : Ty} {vs : List V} {d : den b} (r : Rep2 K E L H H1 m b vs d) : vs.length = rowLen b := row_length b vs d r.b
/-- what holds at the old heap, with one new thing more -/
theorem rep_new {m : Em} {t : Ty} {v : V} {d : den t} (s : Same H1 H2) (r : Rep K E L H H1 m t v d) : Rep K E L H H2 m t v d := r.same s
theorem rp_tup {m : Em} {b : Ty} {ta : TA} {F : Gam ts → Option (den b)} (h : RA K ms ts ta m b F) (hs : rowSmall b = true := by rfl) : RP K ms ts (tTup ta) m (.tup b) F := fun E L Γ σ H xt Q d o e q => by
  refine h E L Γ σ H xt _ d o e fun vs H1 s1 r1 => ?_
  refine ⟨by rw [r1.len]; exact line_1000 (of_decide_eq_true hs), fun p hp => ?_⟩
  have s2 : Same H1 (upd H1 p (.tup vs)) := same_new hp
  refine q (.ref p) _ (s1.trans s2) ?_
  cases m with
  | o =>
    obtain ⟨f, Lr, h1, h2, h3, h4, h5⟩ := r1
    exact ⟨f, Lr, ⟨p, vs, rfl, upd_same, (rO_mono (Cov.of_same s2 fun a h _ => h) (Stb.of_same s2) b).2 vs d f (fun a ha => same_at s2 (h3 a ha).2) h1⟩, h2, nw_on s2 h3, nw_on s2 h4, h5⟩
  | l =>
    obtain ⟨Lr, h1, h2⟩ := r1
    exact ⟨Lr, ⟨p, vs, rfl, upd_same, (rS_mono (Cov.of_same s2 fun a h _ => h) (Stb.of_same s2) b).2 vs d h1⟩, nw_on s2 h2⟩
  | w =>
    obtain ⟨Lr, h1, h2⟩ := r1
    exact ⟨Lr, ⟨p, vs, rfl, upd_same, (rS_mono (Cov.of_same s2 fun a h _ => h) (Stb.of_same s2) b).2 vs d h1⟩, nw_on s2 h2⟩
  | b => exact ⟨p, vs, rfl, upd_same, (rS_mono (Cov.of_same s2 fun a h _ => h) (Stb.of_same s2) b).2 vs d r1⟩
theorem RepL.len {m : Em} {t : Ty} {vs : List V} {d : List (den t)} (r : RepL K E L H H1 m t vs d) : vs.length = d.length := by
  cases m with
  | o => obtain ⟨f, Lr, h1, _⟩ := r; exact h1.length
  | l => obtain ⟨Lr, h1, _⟩ := r; exact h1.length
  | w => obtain ⟨Lr, h1, _⟩ := r; exact h1.length
  | b => exact F2.length r
def fSmall {α : Type} (d : List α) : Option (List α) := okIf (decide (d.length ≤ 1000)) d
/-- (a, b, ..) where any number may stand -/
theorem rp_vtup {m : Em} {t : Ty} {ta : TA} {F : Gam ts → Option (List (den t))} (h : RL K ms ts ta m t F) : RP K ms ts (tTup ta) m (.vtup t) (e1 fSmall F) := fun E L Γ σ H xt Q d o e q => by
  obtain ⟨d', e1, e2⟩ := bind_some e
  dsimp only [fSmall, okIf] at e2
  split at e2
  · rename_i hz
    cases e2
    refine h E L Γ σ H xt _ d o e1 fun vs H1 s1 r1 => ?_
    refine ⟨by rw [r1.len]; exact line_1000 (of_decide_eq_true hz), fun p hp => ?_⟩
    have s2 : Same H1 (upd H1 p (.tup vs)) := same_new hp
    refine q (.ref p) _ (s1.trans s2) ?_
    cases m with
    | o =>
      obtain ⟨f, Lr, h1, h2, h3, h4, h5⟩ := r1
      exact ⟨f, Lr, ⟨p, vs, rfl, upd_same, h1.imp fun v d g hg x => kid_mono ((rS_mono (Cov.of_same s2 fun a h _ => h) (Stb.of_same s2) t).1 v d) ((rO_mono (Cov.of_same s2 fun a h _ => h) (Stb.of_same s2) t).1 v d g fun a ha => same_at s2 (h3 a (hg a ha)).2) x⟩, h2, nw_on s2 h3, nw_on s2 h4, h5⟩
    | l =>
      obtain ⟨Lr, h1, h2⟩ := r1
      exact ⟨Lr, ⟨p, vs, rfl, upd_same, h1.imp (rS_mono (Cov.of_same s2 fun a h _ => h) (Stb.of_same s2) t).1⟩, nw_on s2 h2⟩
    | w =>
      obtain ⟨Lr, h1, h2⟩ := r1
      exact ⟨Lr, ⟨p, vs, rfl, upd_same, h1.imp (rS_mono (Cov.of_same s2 fun a h _ => h) (Stb.of_same s2) t).1⟩, nw_on s2 h2⟩
    | b => exact ⟨p, vs, rfl, upd_same, F2.imp (rS_mono (Cov.of_same s2 fun a h _ => h) (Stb.of_same s2) t).1 r1⟩
  · cases e2
/-- [a, b, ..] -/
theorem rp_list {t : Ty} {ta : TA} {F : Gam ts → Option (List (den t))} (h : RL K ms ts ta .o t F) : RP K ms ts (tLst ta) .o (.list t) (e1 fSmall F) := fun E L Γ σ H xt Q d o e q => by
  obtain ⟨d', e1, e2⟩ := bind_some e
  dsimp only [fSmall, okIf] at e2
  split at e2
  · rename_i hz
    cases e2
    refine h E L Γ σ H xt _ d o e1 fun vs H1 s1 r1 => ?_
    refine ⟨by rw [r1.len]; exact line_1000 (of_decide_eq_true hz), fun p hp => ?_⟩
    have s2 : Same H1 (upd H1 p (.lst vs)) := same_new hp
    refine q (.ref p) _ (s1.trans s2) ?_
    obtain ⟨f, Lr, h1, h2, h3, h4, h5⟩ := r1
    have pf : p ∉ f := fun z => by
      have := (h3 p z).2
      rw [hp] at this
      cases this
    have pl : ¬ Lr p := fun z => by
      have := (h4 p z).2
      rw [hp] at this
      cases this
    refine ⟨p :: f, Lr, ⟨p, vs, f, rfl, rfl, upd_same, h1.imp fun v d g hg x => kid_mono ((rS_mono (Cov.of_same s2 fun a h _ => h) (Stb.of_same s2) t).1 v d) ((rO_mono (Cov.of_same s2 fun a h _ => h) (Stb.of_same s2) t).1 v d g fun a ha => same_at s2 (h3 a (hg a ha)).2) x⟩,
      List.nodup_cons.mpr ⟨pf, h2⟩, fun a ha => ?_, nw_on s2 h4, fun a ha => ?_⟩
    · rcases List.mem_cons.mp ha with rfl | ha
      · exact ⟨s1.free hp, by rw [upd_same]; rfl⟩
      · exact nw_on s2 h3 a ha
    · rcases List.mem_cons.mp ha with rfl | ha
      · exact pl
      · exact h5 a ha
  · cases e2
/-- .. of what is shared: a list that is shared -/
theorem rp_listw {t : Ty} {ta : TA} {F : Gam ts → Option (List (den t))} (h : RL K ms ts ta .w t F) : RP K ms ts (tLst ta) .w (.list t) (e1 fSmall F) := fun E L Γ σ H xt Q d o e q => by
  obtain ⟨d', e1, e2⟩ := bind_some e
  dsimp only [fSmall, okIf] at e2
  split at e2
  · rename_i hz
    cases e2
    refine h E L Γ σ H xt _ d o e1 fun vs H1 s1 r1 => ?_
    refine ⟨by rw [r1.len]; exact line_1000 (of_decide_eq_true hz), fun p hp => ?_⟩
    have s2 : Same H1 (upd H1 p (.lst vs)) := same_new hp
    refine q (.ref p) _ (s1.trans s2) ?_
    obtain ⟨Lr, h1, h2⟩ := r1
    refine ⟨fun a => Lr a ∨ a = p, ⟨p, vs, rfl, .inl ⟨.inr (.inr (.inr rfl)), by rw [upd_same]; rfl⟩, h1.imp (rS_mono (Cov.of_same s2 fun a h _ => h.elim .inl fun z => z.elim (fun z => .inr (.inl z)) fun z => .inr (.inr (.inl z))) (Stb.of_same s2) t).1⟩, fun a ha => ?_⟩
    rcases ha with ha | rfl
    · exact nw_on s2 h2 a ha
    · exact ⟨s1.free hp, by rw [upd_same]; rfl⟩
  · cases e2
/-- {} -/
theorem rp_dnewK {k t : Ty} (hk : k.tk = false := by rfl) : RP K ms ts tDNewK .o (.dict k t) eNil := fun E L Γ σ H xt Q d o e q => by
  cases e
  refine fun p hp => q (.ref p) _ (same_new hp) ⟨[p], fun _ => False, ⟨p, [], rfl, rfl, .inl ⟨hk, [], upd_same, rfl⟩⟩, by simp, fun a ha => ?_, fun a h => h.elim, fun a _ h => h⟩
  have ha : a = p := by simpa using ha
  subst ha
  exact ⟨hp, by rw [upd_same]; rfl⟩
theorem rp_dnewT {k t : Ty} (hk : k.tk = true := by rfl) : RP K ms ts tDNewT .o (.dict k t) eNil := fun E L Γ σ H xt Q d o e q => by
  cases e
  refine fun p hp => q (.ref p) _ (same_new hp) ⟨[p], fun _ => False, ⟨p, [], rfl, rfl, .inr ⟨hk, [], upd_same, rfl⟩⟩, by simp, fun a ha => ?_, fun a h => h.elim, fun a _ h => h⟩
  have ha : a = p := by simpa using ha
  subst ha
  exact ⟨hp, by rw [upd_same]; rfl⟩

/-! ### items -/
theorem f2_atI {α : Type} {P : V → α → Prop} {vs : List V} {ds : List α} {i : Int} {d : α} (h : F2 P vs ds) (e : atI ds i = some d) : ∃ v, atI vs i = some v ∧ P v d := by
  unfold atI at e ⊢
  rw [h.length]
  obtain ⟨j, e1, e2⟩ := bind_some e
  obtain ⟨v, h1, h2⟩ := h.get e2
  exact ⟨v, by rw [e1]; exact h1, h2⟩
theorem v_ixL {t : Ty} : V2 K (rIxL K) .b (.list t) .int t atI := fun E L H v w a b c Q ra rb e q => by
  obtain ⟨p, vs, rfl, h1, h2⟩ := ra
  cases rb
  obtain ⟨x, h3, h4⟩ := f2_atI h2 e
  exact ⟨p, vs, b, x, rfl, rfl, h1.seq, h3, q x H (Same.refl H) h4⟩
theorem v_ixV {t : Ty} : V2 K (rIxT K) .b (.vtup t) .int t atI := fun E L H v w a b c Q ra rb e q => by
  obtain ⟨p, vs, rfl, h1, h2⟩ := ra
  cases rb
  obtain ⟨x, h3, h4⟩ := f2_atI h2 e
  exact ⟨p, vs, b, x, rfl, rfl, .of h1, h3, q x H (Same.refl H) h4⟩
def fIxS (x : Str) (i : Int) : Option Str := if lenOk x.length = true then (atI x.cps.toList i).map fun c => ⟨#[c]⟩ else none
theorem mem_atI {α : Type} {xs : List α} {i : Int} {x : α} (h : atI xs i = some x) : x ∈ xs := by
  obtain ⟨j, _, h2⟩ := bind_some (show (ixN xs.length i).bind (fun j => xs[j]?) = some x from h)
  exact List.mem_of_getElem? h2
theorem v_ixS {m : Em} : V2 K rIxS m .str .int .str fIxS := fun E L H v w a b c Q ra rb e q => by
  obtain ⟨rfl, hok⟩ := ra
  cases rb
  dsimp only [fIxS] at e
  split at e
  · rename_i hz
    obtain ⟨x, h1, h2⟩ := Option.map_eq_some_iff.mp e
    exact ⟨a, b, x, rfl, rfl, of_decide_eq_true hz, h1, q _ H (Same.refl H) (rep_atom rfl (by
      rw [← h2]
      refine ⟨rfl, ?_⟩
      have := mem_atI h1
      unfold PyData.strOk at hok ⊢
      rw [Array.all_eq_true'] at hok
      simpa using hok x (by simpa using this)))⟩
  · cases e
/-- the n-th item of a tuple whose items are of kinds of their own -/
inductive RIx : Ty → Ty → Type where
  | one {a : Ty} : RIx (.last a) a
  | z {a b : Ty} : RIx (.cons a b) a
  | s {a b t : Ty} : RIx b t → RIx (.cons a b) t
def RIx.ix : {b t : Ty} → RIx b t → Nat
  | _, _, .one => 0
  | _, _, .z => 0
  | _, _, .s r => r.ix + 1
def RIx.get : {b t : Ty} → RIx b t → den b → den t
  | _, _, .one, d => d
  | _, _, .z, d => d.1
  | _, _, .s r, d => r.get d.2
theorem row_get {R : Reg} : ∀ {b t : Ty} (r : RIx b t) {vs : List V} {d : den b}, (rS K H R b).2 vs d → ∃ v, vs[r.ix]? = some v ∧ (rS K H R t).1 v (r.get d)
  | _, _, .one, _, _, h => by
    obtain ⟨v, rfl, h⟩ := h
    exact ⟨v, rfl, h⟩
  | _, _, .z, _, _, h => by
    obtain ⟨v, r, rfl, h1, _⟩ := h
    exact ⟨v, rfl, h1⟩
  | _, _, .s r, _, _, h => by
    obtain ⟨v, vs, rfl, _, h2⟩ := h
    obtain ⟨x, e1, e2⟩ := row_get r h2
    exact ⟨x, by simpa [RIx.ix] using e1, e2⟩
def eProj {G : Type} {b t : Ty} (r : RIx b t) (F : G → Option (den b)) : G → Option (den t) := fun Γ => (F Γ).bind fun d => some (r.get d)
theorem rp_proj {b t : Ty} {m : Em} {ta : TE} {F : Gam ts → Option (den b)} (r : RIx b t) (n : Nat) {i : Int} (h : RP K ms ts ta m (.tup b) F) (hn : r.ix = n := by rfl) (hi : i = (n : Int) := by rfl) : RP K ms ts (tOp (rIxT K) ta (tC (.int i))) .b t (eProj r F) := fun E L Γ σ H xt Q d o e q => by
  obtain ⟨a, ea, e⟩ := bind_some e
  cases e
  subst hn
  subst hi
  refine h E L Γ σ H xt _ a o ea fun v H1 s1 r1 => ?_
  obtain ⟨p, vs, rfl, h1, h2⟩ := r1.b
  obtain ⟨x, h3, h4⟩ := row_get r h2
  exact ⟨p, vs, _, x, rfl, rfl, .of h1, atI_nat h3, q x H1 s1 h4⟩
/-- .. with the last place: -1 -/
theorem rp_projm {b t : Ty} {m : Em} {ta : TE} {F : Gam ts → Option (den b)} (r : RIx b t) (h : RP K ms ts ta m (.tup b) F) (hn : r.ix + 1 = rowLen b := by rfl) : RP K ms ts (tOp (rIxT K) ta (tUn (rU fun i => .int (-i)) (tC (.int 1)))) .b t (eProj r F) := fun E L Γ σ H xt Q d o e q => by
  obtain ⟨a, ea, e⟩ := bind_some e
  cases e
  refine h E L Γ σ H xt _ a o ea fun v H1 s1 r1 => ?_
  obtain ⟨p, vs, rfl, h1, h2⟩ := r1.b
  obtain ⟨x, h3, h4⟩ := row_get r h2
  refine ⟨1, rfl, p, vs, _, x, rfl, rfl, .of h1, ?_, q x H1 s1 h4⟩
  have hl := row_length b vs a h2
  show (ixN vs.length (-1)).bind _ = _
  have : ixN vs.length (-1) = some r.ix := by
    unfold ixN
    rw [if_neg (by decide), if_pos (by omega)]
    congr 1
    omega
  rw [this]
  exact h3

/-! ### slices -/
def RO (K : PySem.W.Frag) (ms : List Md) (ts : List Ty) (to : TO) (F : Gam ts → Option (Option Int)) : Prop :=
  ∀ (E : Ent) (L : Reg) (Γ : Gam ts) (σ : St) (H : Hp) (xt : List Addr) (Q : Option Int → Hp → Prop) (d : Option Int), Own K E L ms ts Γ σ H xt → F Γ = some d → (∀ H', Same H H' → Q d H') → to σ H Q
theorem ro_none : RO K ms ts tNoPart (eC none) := fun E L Γ σ H xt Q d o e q => by
  cases e
  exact q H (Same.refl H)
theorem ro_some {te : TE} {m : Em} {F : Gam ts → Option Int} (h : RP K ms ts te m .int F) : RO K ms ts (tPart te) (e1 (fun i => some (some i)) F) := fun E L Γ σ H xt Q d o e q => by
  obtain ⟨a, ea, e⟩ := bind_some e
  cases e
  exact h E L Γ σ H xt _ a o ea fun v H1 s1 r1 => ⟨a, r1.b, q H1 s1⟩
/-- a slice as a list -/
def cutD {α : Type} (xs : List α) (lo hi : Option Int) : List α := (xs.drop (HT.sIx xs.length 0 lo)).take (HT.sIx xs.length xs.length hi - HT.sIx xs.length 0 lo)
theorem f2_cut {α : Type} {P : V → α → Prop} {vs : List V} {ds : List α} {lo hi : Option Int} (h : F2 P vs ds) : F2 P (cutV vs lo hi) (cutD ds lo hi) := by
  unfold cutV cutD
  rw [h.length]
  exact (h.drop _).take _
abbrev fCutL {α : Type} (xs : List α) (lo hi : Option Int) : Option (List α) := some (cutD xs lo hi)
/-- xs[a:b], a new list; things without cells -/
theorem rp_sliceL {t : Ty} {m : Em} {te : TE} {tl th : TO} {F : Gam ts → Option (List (den t))} {Fl Fh : Gam ts → Option (Option Int)} (h : RP K ms ts te m (.list t) F) (hl : RO K ms ts tl Fl) (hh : RO K ms ts th Fh) (hf : t.frz = true := by rfl) :
    RP K ms ts (tSl (rSlL K) te tl th) .o (.list t) (e3 fCutL F Fl Fh) := fun E L Γ σ H xt Q d o e q => by
  obtain ⟨a, ea, e⟩ := bind_some e
  obtain ⟨lo, el, e⟩ := bind_some e
  obtain ⟨hi, eh, e⟩ := bind_some e
  cases e
  refine h E L Γ σ H xt _ a o ea fun v H1 s1 r1 => ?_
  refine hl E L Γ σ H1 xt _ lo (o.same s1) el fun H2 s2 => ?_
  refine hh E L Γ σ H2 xt _ hi ((o.same s1).same s2) eh fun H3 s3 => ?_
  have s13 := s2.trans s3
  obtain ⟨p, vs, rfl, h1, h2⟩ := (rS_mono (Cov.of_same s13 fun _ h _ => h) (Stb.of_same s13) (.list t)).1 v a r1.b
  refine ⟨p, vs, rfl, h1.seq, fun l hn => ?_⟩
  have s4 : Same H3 (upd H3 l (.lst (cutV vs lo hi))) := same_new hn
  refine q (.ref l) _ (s1.trans (s13.trans s4)) ⟨[l], fun _ => False, ⟨l, _, [], rfl, rfl, upd_same, F3.of2 (fun v d x => .inl ((rS_o t hf).1 v d x)) ((f2_cut h2).imp (rS_mono (Cov.of_same s4 fun _ h _ => h) (Stb.of_same s4) t).1)⟩, by simp, fun a ha => ?_, fun a h => h.elim, fun a _ h => h⟩
  have ha : a = l := by simpa using ha
  subst ha
  exact ⟨(s1.trans s13).free hn, by rw [upd_same]; rfl⟩
/-- len -/
def fLen {α : Type} (xs : List α) : Option Int := some xs.length
theorem rp_lenL {t : Ty} {m m' : Em} {te : TE} {F : Gam ts → Option (List (den t))} (h : RP K ms ts te m' (.list t) F) : RP K ms ts (tCB (fun xs H Q => ∃ x n, xs = [x] ∧ LenV K x H n ∧ Q (.int n) H) (tCons te tNil)) m .int (e1 fLen F) := fun E L Γ σ H xt Q d o e q => by
  obtain ⟨a, ea, e⟩ := bind_some e
  cases e
  refine h E L Γ σ H xt _ a o ea fun v H1 s1 r1 => ?_
  obtain ⟨p, vs, rfl, h1, h2⟩ := r1.b
  exact ⟨_, _, rfl, .inl ⟨vs, h1.seq, rfl⟩, q _ H1 s1 (rep_atom rfl (by rw [h2.length]; rfl))⟩
theorem rp_lenV {t : Ty} {m m' : Em} {te : TE} {F : Gam ts → Option (List (den t))} (h : RP K ms ts te m' (.vtup t) F) : RP K ms ts (tCB (fun xs H Q => ∃ x n, xs = [x] ∧ LenV K x H n ∧ Q (.int n) H) (tCons te tNil)) m .int (e1 fLen F) := fun E L Γ σ H xt Q d o e q => by
  obtain ⟨a, ea, e⟩ := bind_some e
  cases e
  refine h E L Γ σ H xt _ a o ea fun v H1 s1 r1 => ?_
  obtain ⟨p, vs, rfl, h1, h2⟩ := r1.b
  exact ⟨_, _, rfl, .inr ⟨vs, .of h1, rfl⟩, q _ H1 s1 (rep_atom rfl (by rw [h2.length]; rfl))⟩
theorem rp_lenT {b : Ty} {m m' : Em} {te : TE} {F : Gam ts → Option (den b)} (h : RP K ms ts te m' (.tup b) F) : RP K ms ts (tCB (fun xs H Q => ∃ x n, xs = [x] ∧ LenV K x H n ∧ Q (.int n) H) (tCons te tNil)) m .int (e1 (fun _ => some (rowLen b : Int)) F) := fun E L Γ σ H xt Q d o e q => by
  obtain ⟨a, ea, e⟩ := bind_some e
  cases e
  refine h E L Γ σ H xt _ a o ea fun v H1 s1 r1 => ?_
  obtain ⟨p, vs, rfl, h1, h2⟩ := r1.b
  exact ⟨_, _, rfl, .inr ⟨vs, .of h1, rfl⟩, q _ H1 s1 (rep_atom rfl (by rw [row_length b vs a h2]; rfl))⟩
def fLenS (x : Str) : Option Int := okIf (lenOk x.length) (x.length : Int)
theorem rp_lenS {m m' : Em} {te : TE} {F : Gam ts → Option Str} (h : RP K ms ts te m' .str F) : RP K ms ts (tCB (fun xs H Q => ∃ x n, xs = [x] ∧ LenV K x H n ∧ Q (.int n) H) (tCons te tNil)) m .int (e1 fLenS F) := fun E L Γ σ H xt Q d o e q => by
  obtain ⟨a, ea, e⟩ := bind_some e
  dsimp only [fLenS, okIf] at e
  split at e
  · rename_i hz
    cases e
    refine h E L Γ σ H xt _ a o ea fun v H1 s1 r1 => ?_
    cases (show v = .str a from r1.b.1)
    exact ⟨_, _, rfl, ⟨of_decide_eq_true hz, rfl⟩, q _ H1 s1 (rep_atom rfl rfl)⟩
  · cases e

/-! ### append -/
def sApp {ρ : Type} {ts : List Ty} {t : Ty} (i : Mem ts (.list t)) (F : Gam ts → Option (den t)) : Gam ts → Option (Fl (Gam ts) ρ) := fun Γ => (i.get Γ).bind fun xs => (F Γ).bind fun d => if xs.length < sizeLine then some (.nx (i.set (some (xs ++ [d])) Γ)) else none
theorem rs_app {t : Ty} (i : Mem ts (.list t)) {n : Nat} {te : TE} {F : Gam ts → Option (den t)} (h : RP K ms ts te .o t F) {mo : Md} (hm : ms[i.ix]? = some mo := by rfl) (ho : mo.own = true := by rfl) (hn : i.ix = n := by rfl) : RS K ms ts (tDrop (tBM K "list" rAppend (tVar n) (tCons te tNil))) rm ρ (sApp i F) := fun E L Γ σ H D f o e p => by
  subst hn
  obtain ⟨xs, e1, e⟩ := bind_some e
  obtain ⟨d, e2, e⟩ := bind_some e
  split at e
  · rename_i hz
    cases e
    obtain ⟨s0, f0, q1, q2, q3, q4, q5⟩ := o.focus i hm
    rw [e1] at q2
    obtain ⟨v, rfl, q2⟩ := q2
    obtain ⟨a, vs, g, rfl, rfl, hl, hk⟩ := (repM_own ho).mp q2
    refine ⟨_, q1, .inl ⟨rfl, vs, .of hl⟩, h E L Γ σ H [] _ d o e2 fun w H1 s1 r1 => ?_⟩
    obtain ⟨fd, Lr, h1, h2, h3, h4, h5⟩ := r1
    have hl1 := s1 _ _ hl
    refine ⟨a, vs, w, rfl, rfl, hl1, by rw [hk.length]; exact hz, ?_⟩
    have hnd := List.nodup_cons.mp q3
    have ga := (q4 a List.mem_cons_self).1
    have gg : ∀ b ∈ g, Good E L H b := fun b hb => (q4 b (List.mem_cons_of_mem _ hb)).1
    have na : ∀ b ∈ fd, b ≠ a := fun b hb z => by
      subst z
      have := (h3 b hb).1
      rw [hl] at this
      cases this
    have st : Stb H (upd H1 a (.lst (vs ++ [w]))) := (Stb.of_same s1).trans (Stb.upd hl1 rfl)
    have oth : ∀ b, (H b).isSome = true → b ≠ a → upd H1 a (.lst (vs ++ [w])) b = H b := fun b hb hne => by rw [upd_ne hne]; exact same_at s1 hb
    have covL : Cov H (upd H1 a (.lst (vs ++ [w]))) L (fun b => L b ∨ Lr b) := fun b q hb x => by
      refine ⟨.inl hb, ?_⟩
      rw [oth b (o.lr b hb).2 fun z => ga.nl (z ▸ hb)]
      exact x
    have cov1 : Cov H1 (upd H1 a (.lst (vs ++ [w]))) (fun b => L b ∨ Lr b) (fun b => L b ∨ Lr b) := fun b q hb x => by
      refine ⟨hb, ?_⟩
      have hne : b ≠ a := fun z => by
        subst z
        rcases hb with hb | hb
        · exact ga.nl hb
        · have := (h4 b hb).1
          rw [hl] at this
          cases this
      rw [upd_ne hne]
      exact x
    have k1 : F3 (kid t.isOwn (rS K (upd H1 a (.lst (vs ++ [w]))) (fun b => L b ∨ Lr b) t).1 (rO K (upd H1 a (.lst (vs ++ [w]))) (fun b => L b ∨ Lr b) t).1) vs xs g :=
      hk.imp fun v d g' hg x => kid_mono ((rS_mono covL st t).1 v d) ((rO_mono covL st t).1 v d g' fun b hb => oth b (gg b (hg b hb)).at_ fun z => hnd.1 (z ▸ hg b hb)) x
    have k2 : (rO K (upd H1 a (.lst (vs ++ [w]))) (fun b => L b ∨ Lr b) t).1 w d fd := (rO_mono cov1 (Stb.upd hl1 rfl) t).1 w d fd (fun b hb => upd_ne (na b hb)) h1
    have k3 := F3.append k1 (show F3 _ [w] [d] fd from ⟨fd, [], by simp, .inl k2, rfl⟩)
    have up : ∀ b, (H1 b).isSome = true → (upd H1 a (.lst (vs ++ [w])) b).isSome = true := fun b hb => by
      by_cases z : b = a
      · rw [z, upd_same]; rfl
      · rw [upd_ne z]; exact hb
    have upH : ∀ b, (H b).isSome = true → (upd H1 a (.lst (vs ++ [w])) b).isSome = true := fun b hb => up b (by rw [same_at s1 hb]; exact hb)
    have gfd : ∀ b ∈ g, b ∉ fd := fun b hb z => by
      have := (gg b hb).at_
      rw [(h3 b z).1] at this
      cases this
    have o' := q5 (upd H1 a (.lst (vs ++ [w]))) (fun b => L b ∨ Lr b) (some (xs ++ [d])) (some (.ref a)) (a :: (g ++ fd)) [] (fun b hb hnf _ => oth b hb fun z => hnf (z ▸ List.mem_cons_self)) st (fun _ h => .inl h)
      (fun b hb => hb.elim .inl fun z => .inr (.inr (.inr (h4 b z).1))) upH
      (fun b hb => hb.elim (fun z => ⟨(o.lr b z).1, upH b (o.lr b z).2⟩) fun z => ⟨.inl (o.fresh (h4 b z).1).1, up b (h4 b z).2⟩)
      ⟨.ref a, rfl, (repM_own ho).mpr ⟨a, vs ++ [w], g ++ fd, rfl, rfl, upd_same, k3⟩⟩
      (by
        rw [List.append_nil]
        refine List.nodup_cons.mpr ⟨fun z => ?_, List.nodup_append.mpr ⟨hnd.2, h2, fun b hb c hc z => gfd b hb (z ▸ hc)⟩⟩
        rcases List.mem_append.mp z with z | z
        · exact hnd.1 z
        · exact na a z rfl)
      (fun b hb => by
        have hb : b ∈ a :: (g ++ fd) := by simpa using hb
        rcases List.mem_cons.mp hb with rfl | hb
        · refine ⟨.inl List.mem_cons_self, fun z => z.elim ga.nl fun z => ?_, by rw [upd_same]; rfl⟩
          have := (h4 b z).1
          rw [hl] at this
          cases this
        · rcases List.mem_append.mp hb with hb | hb
          · refine ⟨.inl (List.mem_cons_of_mem _ hb), fun z => z.elim (gg b hb).nl fun z => ?_, upH b (gg b hb).at_⟩
            have := (gg b hb).at_
            rw [(h4 b z).1] at this
            cases this
          · exact ⟨.inr (.inr (h3 b hb).1), fun z => z.elim (o.fresh (h3 b hb).1).2.1 (h5 b hb), up b (h3 b hb).2⟩)
    have es : σ.set i.ix (some (V.ref a)) = σ := by
      refine List.ext_getElem? fun n => ?_
      by_cases hn : n = i.ix
      · subst hn
        rw [List.getElem?_set_self (List.getElem?_eq_some_iff.mp q1).1]
        exact q1.symm
      · rw [List.getElem?_set_ne (Ne.symm hn)]
    rw [es] at o'
    refine p _ σ _ o' ⟨fun _ h => .inl h, fun b q hb x => ?_, st, keepF_set0 i hm (own_hard ho) _⟩
    rw [oth b (o.lr b hb).2 fun z => ga.nl (z ▸ hb)]
    exact x
  · cases e
end
end VV

/-! VMore2: kinds, texts, lists put together, unpacking, == of any data, comprehensions. -/
namespace L2
open PySem PySem.Spec PyProof.Rows
section
variable {X : Cx}
/-- list + list, of lists that are read -/
def rCatR (K : PySem.W.Frag) : R2 := fun x y H Q => ∃ l b xs zs, x = .ref l ∧ y = .ref b ∧ SqL K H l xs ∧ SqL K H b zs ∧ xs.length + zs.length ≤ sizeLine ∧ ∀ p, H p = none → Q (.ref p) (upd H p (.lst (xs ++ zs)))
theorem op_catR : OpR X (binaryOp .Add) (rCatR X.K) := by
  intro pins s σ H x y v u Q I rx ry h
  obtain ⟨l, b, xs, zs, rfl, rfl, hH, hB, hz, q⟩ := h
  cases rx
  cases ry
  obtain ⟨its, r, pl, _⟩ := I.list hH
  obtain ⟨its2, r2, pl2, _⟩ := I.list hB
  have hl := r.length
  have hl2 := r2.length
  obtain ⟨⟨cls, dd, data, sl⟩, ho, hc, n, hd⟩ := id pl.isList
  obtain ⟨⟨cls2, dd2, data2, sl2⟩, ho2, hc2, n2, hd2⟩ := id pl2.isList
  simp only at hc hd hc2 hd2
  subst hc hd hc2 hd2
  have ea : its.toArray ++ its2.toArray = (its ++ its2).toArray := by simp
  refine concat_meets ⟨_, ho, rfl⟩ ⟨_, ho2, rfl⟩ noFill_list_add seq_list_add PySem.F.slot_list_add PySem.F.entry_list_add (PySem.F.args_list_add_2 _ _) (PyProof.Rows.list_addW l b its.toArray its2.toArray n n2 dd dd2 sl sl2 (by rw [List.size_toArray, List.size_toArray]; omega)) ⟨ho, ho2, ?_⟩
  rw [ea]
  exact ⟨.ref _, _, I.lnew (t' := s.toks) (r.append r2) (by rw [List.length_append]; omega), rfl, q _ I.fresh⟩
theorem foldRep_size {α : Type} (a : Array α) : ∀ (k : Nat) (acc : Array α), (List.foldl (fun x1 x2 => x1 ++ x2) acc (List.replicate k a)).size = acc.size + k * a.size
  | 0, acc => by simp
  | k + 1, acc => by
    rw [List.replicate_succ, List.foldl_cons, foldRep_size a k, Array.size_append, Nat.succ_mul]
    omega
/-- text * int -/
def repS (x : Str) (n : Int) : Str := if n < 1 then Str.empty else if (n == 1 || x.length == 0) = true then x else ⟨(List.replicate n.toNat x.cps).foldl (· ++ ·) #[]⟩
def rRepS : R2 := fun x y H Q => ∃ z n, x = .str z ∧ y = .int n ∧ -(2 ^ 31) < n ∧ n < 2 ^ 31 ∧ z.length * n.toNat ≤ sizeLine ∧ Q (.str (repS z n)) H
theorem op_repS : OpR X (binaryOp .Mult) rRepS := by
  intro pins s σ H x y v u Q I rx ry h
  obtain ⟨z, n, rfl, rfl, h1, h2, h3, q⟩ := h
  obtain ⟨t, rfl⟩ := rx
  obtain ⟨t', rfl⟩ := ry
  have hz : sizeLine = 16777216 := sizeLine_eq
  refine PySem.P.mul_str ?_ (fun h4 _ => ?_) (fun h4 _ => ?_) ?_
  · rw [decide_eq_false (by omega), decide_eq_false (by omega)]; rfl
  · have hn : (0 : Int) < n := by omega
    intro hc
    have h5 : (z.length : Int) * n ≤ 16777216 := by
      have : ((z.length * n.toNat : Nat) : Int) ≤ 16777216 := by omega
      rwa [Int.natCast_mul, Int.toNat_of_nonneg (by omega)] at this
    have h6 : (z.length : Int) ≤ (2 ^ 63 - 1) / n := by
      refine (Int.le_ediv_iff_mul_le hn).mpr ?_
      omega
    omega
  · unfold Builtin.Str.tooLong
    simp only [decide_eq_false_iff_not]
    omega
  · unfold repS at q
    by_cases hn : n < 1
    · rw [if_pos hn] at q ⊢
      exact ⟨by decide, ⟨.str _, H, I.tok _, ⟨_, rfl⟩, q⟩⟩
    · rw [if_neg hn] at q ⊢
      split at q
      · rename_i h4
        rw [if_pos h4]
        exact ⟨.str z, H, I, ⟨_, rfl⟩, q⟩
      · rename_i h4
        rw [if_neg h4]
        refine ⟨?_, ⟨.str _, H, I.tok _, ⟨_, rfl⟩, q⟩⟩
        show (List.foldl (fun x1 x2 => x1 ++ x2) #[] (List.replicate n.toNat z.cps)).size ≤ sizeLine
        rw [foldRep_size]
        have : z.length = z.cps.size := rfl
        rw [Nat.mul_comm, ← this]
        simpa using h3
end
end L2
namespace VV
open PySem L2
open PyProof.Rows hiding St

section
variable {K : PySem.W.Frag} {E : Ent} {ms : List Md} {ts : List Ty} {L L1 : Reg} {Γ Γ1 : Gam ts} {σ σ1 : St} {H H' H1 H2 : Hp} {xt : List Addr} {rm : Rm} {ρ : Ty}
/-! ### kinds -/
def kindOf : (t : Ty) → den t → String
  | .non, _ => "NoneType"
  | .bool, _ => "bool"
  | .int, _ => "int"
  | .str, _ => "str"
  | .any, d => match d with
    | .none => "NoneType"
    | .bool _ => "bool"
    | .int _ => "int"
    | .str _ => "str"
    | .list _ => "list"
    | .tuple _ => "tuple"
    | .dict _ => "dict"
  | .opt t, d => match d with
    | none => "NoneType"
    | some x => kindOf t x
  | .vtup _, _ => "tuple"
  | .list _, _ => "list"
  | .dict _ _, _ => "dict"
  | .own t, d => kindOf t d
  | .hl _, _ => "list"
  | .tup _, _ => "tuple"
  | .last _, _ => ""
  | .cons _ _, _ => ""
def Ty.nodict : Ty → Bool
  | .dict _ _ => false
  | .own t => t.nodict
  | .opt t => t.nodict
  | _ => true
theorem kind_ok {R : Reg} : ∀ (t : Ty) (v : V) (d : den t), t.nodict = true → (rS K H R t).1 v d → TyX K H v (.type (kindOf t d))
  | .non, _, _, _, h => by cases h; exact .base .non
  | .bool, _, _, _, h => by cases h; exact .base (.bl _)
  | .int, _, _, _, h => by cases h; exact .base (.int _)
  | .str, _, _, _, h => by cases h.1; exact .base (.str _)
  | .any, v, d, _, h => by
    cases d with
    | none => cases (show v = .non from h); exact .base .non
    | bool b => cases (show v = .bl b from h); exact .base (.bl _)
    | int i => cases (show v = .int i from h); exact .base (.int _)
    | str x => cases (show v = .str x ∧ _ from h).1; exact .base (.str _)
    | list _ => exact (show False from h).elim
    | tuple ds =>
      obtain ⟨a, vs, rfl, h1, _⟩ := (show ∃ a vs, v = .ref a ∧ H a = some (.tup vs) ∧ dvs H ds vs from h)
      exact .base (.tup h1)
    | dict _ => exact (show False from h).elim
  | .opt t, v, d, hn, h => by
    cases d with
    | none => cases (show v = .non from h); exact .base .non
    | some x => exact kind_ok t v x hn h.2
  | .vtup _, _, _, _, h => by
    obtain ⟨a, vs, rfl, h1, _⟩ := h
    exact .base (.tup h1)
  | .list _, _, _, _, h => by
    obtain ⟨a, vs, rfl, h1, _⟩ := h
    rcases h1.seq with (h1 | ⟨o, h1⟩) | ⟨o, its, n, h1, h2, _⟩
    · exact .base (.lst h1)
    · exact .base (.frz h1)
    · exact .kList h1 h2
  | .dict _ _, _, _, hn, _ => by cases hn
  | .own t, v, d, hn, h => kind_ok t v d hn h
  | .hl _, _, _, _, h => by
    obtain ⟨a, vs, rfl, h1, _⟩ := h
    rcases h1.seq with (h1 | ⟨o, h1⟩) | ⟨o, its, n, h1, h2, _⟩
    · exact .base (.lst h1)
    · exact .base (.frz h1)
    · exact .kList h1 h2
  | .tup _, _, _, _, h => by
    obtain ⟨a, vs, rfl, h1, _⟩ := h
    exact .base (.tup h1)
  | .last _, _, _, _, h => h.elim
  | .cons _ _, _, _, _, h => h.elim
/-- isinstance(x, T), T a built-in class -/
theorem rp_isi {t : Ty} {m m' : Em} {te : TE} {F : Gam ts → Option (den t)} (c : String) (g : den t → Bool) (h : RP K ms ts te m' t F) (hg : ∀ d, kitB (kindOf t d) c = some (g d)) (hn : t.nodict = true := by rfl) :
    RP K ms ts (tCB (rIsi K) (tCons te (tCons (tC (.ty c)) tNil))) m .bool (e1 (fun d => some (g d)) F) := fun E L Γ σ H xt Q d o e q => by
  obtain ⟨a, ea, e⟩ := bind_some e
  cases e
  refine h E L Γ σ H xt _ a o ea fun v H1 s1 r1 => ?_
  exact ⟨v, .ty c, .type (kindOf t a), .type c, g a, rfl, .ty c, kind_ok t v a hn r1.b, kit_ty (hg a), q _ H1 s1 (rep_atom rfl rfl)⟩

/-! ### texts -/
theorem strOk_ofString (s : String) : PyData.strOk (Str.ofString s) = true := by
  unfold PyData.strOk
  rw [Str.ofString_eq_toList]
  simp only [List.all_toArray, List.all_map, List.all_eq_true, Function.comp, decide_eq_true_eq]
  intro c _
  have := c.valid
  show c.val.toNat < 1114112
  rcases this with h | ⟨_, h⟩
  · exact Nat.lt_trans h (by decide)
  · exact h
def fStrI (i : Int) : Option Str := okIf (decide (i.natAbs.log2 < 1920)) (Str.ofString (toString i))
theorem rp_strI {m m' : Em} {te : TE} {F : Gam ts → Option Int} (h : RP K ms ts te m' .int F) : RP K ms ts (tCB (fun xs H Q => ∃ i, xs = [.int i] ∧ i.natAbs.log2 < 1920 ∧ Q (.str (toString i)) H) (tCons te tNil)) m .str (e1 fStrI F) := fun E L Γ σ H xt Q d o e q => by
  obtain ⟨a, ea, e⟩ := bind_some e
  dsimp only [fStrI, okIf] at e
  split at e
  · rename_i hz
    cases e
    refine h E L Γ σ H xt _ a o ea fun v H1 s1 r1 => ?_
    cases (show v = .int a from r1.b)
    exact ⟨a, rfl, of_decide_eq_true hz, q _ H1 s1 (rep_atom rfl ⟨rfl, strOk_ofString _⟩)⟩
  · cases e
def fUpper (a : Str) : Option Str := okIf (decide (a.length ≤ 5592405) && PyData.strOk (Txt.upper a)) (Txt.upper a)
theorem rp_upper {m m' : Em} {te : TE} {F : Gam ts → Option Str} (h : RP K ms ts te m' .str F) : RP K ms ts (tM0 (fun x xs H Q => ∃ a, x = .str a ∧ xs = [] ∧ a.length ≤ 5592405 ∧ Q (.str (Txt.upper a)) H) te) m .str (e1 fUpper F) := fun E L Γ σ H xt Q d o e q => by
  obtain ⟨a, ea, e⟩ := bind_some e
  dsimp only [fUpper, okIf] at e
  split at e
  · rename_i hz
    cases e
    rw [Bool.and_eq_true] at hz
    refine h E L Γ σ H xt _ a o ea fun v H1 s1 r1 => ?_
    cases (show v = .str a from r1.b.1)
    exact ⟨⟨a, rfl⟩, a, rfl, rfl, of_decide_eq_true hz.1, q _ H1 s1 (rep_atom rfl ⟨rfl, hz.2⟩)⟩
  · cases e
def fRepS (x : Str) (n : Int) : Option Str := okIf (decide (-(2 ^ 31) < n ∧ n < 2 ^ 31 ∧ x.length * n.toNat ≤ sizeLine) && PyData.strOk (repS x n)) (repS x n)
theorem v_repS {m : Em} : V2 K rRepS m .str .int .str fRepS := fun E L H v w a b c Q ra rb e q => by
  dsimp only [fRepS, okIf] at e
  split at e
  · rename_i hz
    cases e
    rw [Bool.and_eq_true] at hz
    have h1 := of_decide_eq_true hz.1
    exact ⟨a, b, ra.1, rb, h1.1, h1.2.1, h1.2.2, q _ H (Same.refl H) (rep_atom rfl ⟨rfl, hz.2⟩)⟩
  · cases e

/-! ### lists put together: things without cells -/
def fCatL {α : Type} (a b : List α) : Option (List α) := okIf (lenOk (a.length + b.length)) (a ++ b)
theorem rp_cat {t : Ty} {m1 m2 : Em} {ta tb : TE} {Fa Fb : Gam ts → Option (List (den t))} (ha : RP K ms ts ta m1 (.list t) Fa) (hb : RP K ms ts tb m2 (.list t) Fb) (hf : t.frz = true := by rfl) : RP K ms ts (tOp (rCatR K) ta tb) .o (.list t) (e2 fCatL Fa Fb) := fun E L Γ σ H xt Q d o e q => by
  obtain ⟨a, ea, e⟩ := bind_some e
  obtain ⟨b, eb, e⟩ := bind_some e
  dsimp only [fCatL, okIf] at e
  split at e
  · rename_i hz
    cases e
    refine ha E L Γ σ H xt _ a o ea fun v H1 s1 r1 => ?_
    refine hb E L Γ σ H1 xt _ b (o.same s1) eb fun w H2 s2 r2 => ?_
    obtain ⟨p, vs, rfl, h1, h2⟩ := (rS_mono (Cov.of_same s2 fun _ h _ => h) (Stb.of_same s2) (.list t)).1 v a r1.b
    obtain ⟨p', ws, rfl, h3, h4⟩ := r2.b
    refine ⟨p, p', vs, ws, rfl, rfl, h1.seq, h3.seq, by rw [h2.length, h4.length]; exact of_decide_eq_true hz, fun l hn => ?_⟩
    have s4 : Same H2 (upd H2 l (.lst (vs ++ ws))) := same_new hn
    refine q (.ref l) _ ((s1.trans s2).trans s4) ⟨[l], fun _ => False, ⟨l, _, [], rfl, rfl, upd_same, F3.of2 (fun v d x => .inl ((rS_o t hf).1 v d x)) ((F2.append h2 h4).imp (rS_mono (Cov.of_same s4 fun _ h _ => h) (Stb.of_same s4) t).1)⟩, by simp, fun a ha => ?_, fun a h => h.elim, fun a _ h => h⟩
    have ha : a = l := by simpa using ha
    subst ha
    exact ⟨(s1.trans s2).free hn, by rw [upd_same]; rfl⟩
  · cases e

/-! ### a, b, .. = e -/
def sAsg {G ρ α : Type} (F : G → Option α) (B : α → G → G) : G → Option (Fl G ρ) := fun Γ => (F Γ).bind fun d => some (.nx (B d Γ))
theorem rs_asg {w : Bool} {t : Ty} {te : TE} {g : TG} {F : Gam ts → Option (den t)} {B : den t → Gam ts → Gam ts} (h : RP K ms ts te (if w then .w else .l) t F) (hg : RG K ms ts g w t B) : RS K ms ts (tAsg te g) rm ρ (sAsg F B) := fun E L Γ σ H D f o e p => by
  obtain ⟨d, e1, e2⟩ := bind_some e
  cases e2
  refine h E L Γ σ H [] _ d o e1 fun v H1 s1 r1 => ?_
  obtain ⟨Lr, h1, h2⟩ := reg_rep r1
  have o1 : Own K E (fun a => L a ∨ Lr a) ms ts Γ σ H1 [] := o.temp s1 List.nodup_nil (fun a ha => by simp at ha) h2 fun a ha => by simp at ha
  have ev1 : Ev ms ts L Γ σ H (fun a => L a ∨ Lr a) Γ σ H1 := ⟨fun a h => .inl h, fun a q _ h => s1 _ _ h, Stb.of_same s1, KeepF.refl⟩
  exact hg E _ Γ σ H1 _ v d o1 h1 fun σ' o' e' => p _ σ' H1 o' (ev1.trans e')
/-- names for the items of a list -/
def bindAll {G α : Type} : List (α → G → G) → List α → G → G
  | B :: Bs, d :: ds, Γ => bindAll Bs ds (B d Γ)
  | _, _, Γ => Γ
def RGl (K : PySem.W.Frag) (ms : List Md) (ts : List Ty) (g : TGs) (w : Bool) (t : Ty) (Bs : List (den t → Gam ts → Gam ts)) : Prop :=
  ∀ (E : Ent) (L : Reg) (Γ : Gam ts) (σ : St) (H : Hp) (Q : St → Hp → Prop) (xs : List V) (d : List (den t)), Own K E L ms ts Γ σ H [] → F2 (rS K H (reg w E L) t).1 xs d → d.length = Bs.length →
    (∀ σ', Own K E L ms ts (bindAll Bs d Γ) σ' H [] → Ev ms ts L Γ σ H L (bindAll Bs d Γ) σ' H → Q σ' H) → g xs σ H Q
theorem rgl_nil {w : Bool} {t : Ty} : RGl K ms ts gNil w t [] := fun E L Γ σ H Q xs d o r hl q => by
  cases d with
  | cons _ _ => simp at hl
  | nil =>
    cases xs with
    | cons _ _ => exact r.elim
    | nil => exact ⟨rfl, q σ o (Ev.same (Same.refl H))⟩
theorem rgl_cons {w : Bool} {t : Ty} {g : TG} {gs : TGs} {B : den t → Gam ts → Gam ts} {Bs : List (den t → Gam ts → Gam ts)} (h : RG K ms ts g w t B) (h' : RGl K ms ts gs w t Bs) : RGl K ms ts (gCons g gs) w t (B :: Bs) := fun E L Γ σ H Q xs d o r hl q => by
  cases d with
  | nil => simp at hl
  | cons d ds =>
    cases xs with
    | nil => exact r.elim
    | cons v vs =>
      refine ⟨v, vs, rfl, h E L Γ σ H _ v d o r.1 fun σ' o' e' => ?_⟩
      exact h' E L (B d Γ) σ' H Q vs ds o' r.2 (by simpa using hl) fun σ2 o2 e2 => q σ2 o2 (e'.trans e2)
def sUnl {G ρ α : Type} (F : G → Option (List α)) (Bs : List (α → G → G)) : G → Option (Fl G ρ) := fun Γ => (F Γ).bind fun d => if d.length = Bs.length then some (.nx (bindAll Bs d Γ)) else none
theorem rs_unl {w : Bool} {t : Ty} {te : TE} {gs : TGs} {n : Nat} {F : Gam ts → Option (List (den t))} {Bs : List (den t → Gam ts → Gam ts)} (h : RP K ms ts te (if w then .w else .l) (.list t) F) (hg : RGl K ms ts gs w t Bs) (hn : Bs.length = n := by rfl) :
    RS K ms ts (tAsg te (gUnl K n gs)) rm ρ (sUnl F Bs) := fun E L Γ σ H D f o e p => by
  obtain ⟨d, e1, e2⟩ := bind_some e
  split at e2
  · rename_i hl
    cases e2
    refine h E L Γ σ H [] _ d o e1 fun v H1 s1 r1 => ?_
    obtain ⟨Lr, h1, h2⟩ := reg_rep r1
    obtain ⟨a, vs, rfl, h3, h4⟩ := h1
    have o1 : Own K E (fun a => L a ∨ Lr a) ms ts Γ σ H1 [] := o.temp s1 List.nodup_nil (fun a ha => by simp at ha) h2 fun a ha => by simp at ha
    have ev1 : Ev ms ts L Γ σ H (fun a => L a ∨ Lr a) Γ σ H1 := ⟨fun a h => .inl h, fun a q _ h => s1 _ _ h, Stb.of_same s1, KeepF.refl⟩
    exact ⟨a, vs, rfl, h3.seq, by rw [h4.length, hl, hn], hg E _ Γ σ H1 _ vs d o1 h4 hl fun σ' o' e' => p _ σ' H1 o' (ev1.trans e')⟩
  · cases e2

/-! ### == of any data -/
/-- data as PyData; a row of them -/
def emb : (t : Ty) → (den t → PyData) × (den t → List PyData)
  | .non => (fun _ => .none, fun _ => [])
  | .bool => (fun b => .bool b, fun _ => [])
  | .int => (fun i => .int i, fun _ => [])
  | .str => (fun x => .str x, fun _ => [])
  | .any => (fun d => d, fun _ => [])
  | .opt t => (fun d => match d with
      | none => .none
      | some x => (emb t).1 x, fun _ => [])
  | .vtup t => (fun d => .tuple (d.map (emb t).1), fun _ => [])
  | .list t => (fun d => .list (d.map (emb t).1), fun _ => [])
  | .dict _ _ => (fun _ => .dict [], fun _ => [])
  | .own t => emb t
  | .hl b => (fun d => .list ((emb b).2 d), fun _ => [])
  | .tup b => (fun d => .tuple ((emb b).2 d), fun _ => [])
  | .last a => (fun _ => .none, fun d => [(emb a).1 d])
  | .cons a b => (fun _ => .none, fun d => (emb a).1 d.1 :: (emb b).2 d.2)
/-- such data can be compared: no dicts, no open depth -/
def Ty.cmp : Ty → Bool
  | .any => false
  | .dict _ _ => false
  | .opt t => t.cmp
  | .vtup t => t.cmp
  | .list t => t.cmp
  | .own t => t.cmp
  | .hl b => b.cmp
  | .tup b => b.cmp
  | .last a => a.cmp
  | .cons a b => a.cmp && b.cmp
  | _ => true
def Ty.dep : Ty → Nat
  | .opt t => t.dep
  | .vtup t => t.dep + 1
  | .list t => t.dep + 1
  | .own t => t.dep
  | .hl b => b.dep + 1
  | .tup b => b.dep + 1
  | .last a => a.dep
  | .cons a b => max a.dep b.dep
  | _ => 0
theorem f2_dp {t : Ty} {P : V → den t → Prop} (h : ∀ v d, P v d → Dp K H v ((emb t).1 d)) : ∀ {vs : List V} {ds : List (den t)}, F2 P vs ds → DpAll K H vs (ds.map (emb t).1)
  | [], [], _ => .nil
  | v :: vs, d :: ds, q => .cons (h v d q.1) (f2_dp h q.2)
  | [], _ :: _, q => q.elim
  | _ :: _, [], q => q.elim
theorem rS_dp {R : Reg} : ∀ t : Ty, t.cmp = true → (∀ v d, (rS K H R t).1 v d → Dp K H v ((emb t).1 d)) ∧ (∀ vs d, (rS K H R t).2 vs d → DpAll K H vs ((emb t).2 d)) := by
  intro t
  induction t with
  | non => exact fun _ => ⟨fun v d h => by cases h; exact .non, fun _ _ h => h.elim⟩
  | bool => exact fun _ => ⟨fun v d h => by cases h; exact .bl _, fun _ _ h => h.elim⟩
  | int => exact fun _ => ⟨fun v d h => by cases h; exact .int _, fun _ _ h => h.elim⟩
  | str => exact fun _ => ⟨fun v d h => by cases h.1; exact .str _, fun _ _ h => h.elim⟩
  | any => exact fun q => by cases q
  | opt t ih =>
    intro q
    refine ⟨fun v d h => ?_, fun _ _ h => h.elim⟩
    cases d with
    | none => cases (show v = .non from h); exact .non
    | some x => exact (ih q).1 v x h.2
  | vtup t ih =>
    intro q
    refine ⟨fun v d h => ?_, fun _ _ h => h.elim⟩
    obtain ⟨a, vs, rfl, h1, h2⟩ := h
    exact .tup (.of h1) (f2_dp (ih q).1 h2)
  | list t ih =>
    intro q
    refine ⟨fun v d h => ?_, fun _ _ h => h.elim⟩
    obtain ⟨a, vs, rfl, h1, h2⟩ := h
    exact .lst h1.seq (f2_dp (ih q).1 h2)
  | dict k t _ ih => exact fun q => by cases q
  | own t ih => exact ih
  | hl b ih =>
    intro q
    refine ⟨fun v d h => ?_, fun _ _ h => h.elim⟩
    obtain ⟨a, vs, rfl, h1, h2⟩ := h
    exact .lst h1.seq ((ih q).2 vs d h2)
  | tup b ih =>
    intro q
    refine ⟨fun v d h => ?_, fun _ _ h => h.elim⟩
    obtain ⟨a, vs, rfl, h1, h2⟩ := h
    exact .tup (.of h1) ((ih q).2 vs d h2)
  | last a ih =>
    intro q
    refine ⟨fun _ _ h => h.elim, fun vs d h => ?_⟩
    obtain ⟨v, rfl, h⟩ := h
    exact .cons ((ih q).1 v d h) .nil
  | cons a b iha ihb =>
    intro q
    simp only [Ty.cmp, Bool.and_eq_true] at q
    refine ⟨fun _ _ h => h.elim, fun vs d h => ?_⟩
    obtain ⟨v, r, rfl, h1, h2⟩ := h
    exact .cons ((iha q.1).1 v d.1 h1) ((ihb q.2).2 r d.2 h2)
theorem canLayAll_map {t : Ty} {P : V → den t → Prop} {n : Nat} (h : ∀ v d, P v d → ((emb t).1 d).canLay0 = true ∧ ((emb t).1 d).depth ≤ n) : ∀ {vs : List V} {ds : List (den t)}, F2 P vs ds → PyData.canLayAll0 (ds.map (emb t).1) = true ∧ PyData.depthAll (ds.map (emb t).1) ≤ n
  | [], [], _ => ⟨by simp [PyData.canLayAll0], by simp [PyData.depthAll]⟩
  | v :: vs, d :: ds, q => by
    have h1 := h v d q.1
    have h2 := canLayAll_map h q.2
    simp only [List.map_cons, PyData.canLayAll0, PyData.depthAll, Bool.and_eq_true]
    exact ⟨⟨h1.1, h2.1⟩, Nat.max_le.mpr ⟨h1.2, h2.2⟩⟩
  | [], _ :: _, q => q.elim
  | _ :: _, [], q => q.elim
theorem rS_lay {R : Reg} : ∀ t : Ty, t.cmp = true → (∀ v d, (rS K H R t).1 v d → ((emb t).1 d).canLay0 = true ∧ ((emb t).1 d).depth ≤ t.dep) ∧ (∀ vs d, (rS K H R t).2 vs d → PyData.canLayAll0 ((emb t).2 d) = true ∧ PyData.depthAll ((emb t).2 d) ≤ t.dep) := by
  intro t
  induction t with
  | non => exact fun _ => ⟨fun v d h => by simp [emb, PyData.canLay0, PyData.depth], fun _ _ h => h.elim⟩
  | bool => exact fun _ => ⟨fun v d h => by simp [emb, PyData.canLay0, PyData.depth], fun _ _ h => h.elim⟩
  | int => exact fun _ => ⟨fun v d h => by simp [emb, PyData.canLay0, PyData.depth], fun _ _ h => h.elim⟩
  | str => exact fun _ => ⟨fun v d h => by simpa [emb, PyData.canLay0, PyData.depth] using h.2, fun _ _ h => h.elim⟩
  | any => exact fun q => by cases q
  | opt t ih =>
    intro q
    refine ⟨fun v d h => ?_, fun _ _ h => h.elim⟩
    cases d with
    | none => simp [emb, PyData.canLay0, PyData.depth]
    | some x => exact (ih q).1 v x h.2
  | vtup t ih =>
    intro q
    refine ⟨fun v d h => ?_, fun _ _ h => h.elim⟩
    obtain ⟨a, vs, rfl, h1, h2⟩ := h
    have := canLayAll_map (ih q).1 h2
    simp only [emb, PyData.canLay0, PyData.depth, Ty.dep]
    exact ⟨this.1, by omega⟩
  | list t ih =>
    intro q
    refine ⟨fun v d h => ?_, fun _ _ h => h.elim⟩
    obtain ⟨a, vs, rfl, h1, h2⟩ := h
    have := canLayAll_map (ih q).1 h2
    simp only [emb, PyData.canLay0, PyData.depth, Ty.dep]
    exact ⟨this.1, by omega⟩
  | dict k t _ ih => exact fun q => by cases q
  | own t ih => exact ih
  | hl b ih =>
    intro q
    refine ⟨fun v d h => ?_, fun _ _ h => h.elim⟩
    obtain ⟨a, vs, rfl, h1, h2⟩ := h
    have := (ih q).2 vs d h2
    simp only [emb, PyData.canLay0, PyData.depth, Ty.dep]
    exact ⟨this.1, by omega⟩
  | tup b ih =>
    intro q
    refine ⟨fun v d h => ?_, fun _ _ h => h.elim⟩
    obtain ⟨a, vs, rfl, h1, h2⟩ := h
    have := (ih q).2 vs d h2
    simp only [emb, PyData.canLay0, PyData.depth, Ty.dep]
    exact ⟨this.1, by omega⟩
  | last a ih =>
    intro q
    refine ⟨fun _ _ h => h.elim, fun vs d h => ?_⟩
    obtain ⟨v, rfl, h⟩ := h
    have := (ih q).1 v d h
    simp only [emb, PyData.canLayAll0, PyData.depthAll, Ty.dep, Bool.and_true]
    exact ⟨this.1, by omega⟩
  | cons a b iha ihb =>
    intro q
    simp only [Ty.cmp, Bool.and_eq_true] at q
    refine ⟨fun _ _ h => h.elim, fun vs d h => ?_⟩
    obtain ⟨v, r, rfl, h1, h2⟩ := h
    have k1 := (iha q.1).1 v d.1 h1
    have k2 := (ihb q.2).2 r d.2 h2
    simp only [emb, PyData.canLayAll0, PyData.depthAll, Ty.dep, Bool.and_eq_true]
    exact ⟨⟨k1.1, k2.1⟩, by omega⟩
theorem shaped_of {R : Reg} {t : Ty} (q : t.cmp = true) (hd : t.dep ≤ 64) {v : V} {d : den t} (h : (rS K H R t).1 v d) : SeqAt.shaped ((emb t).1 d) = true := by
  have := (rS_lay t q).1 v d h
  unfold SeqAt.shaped
  rw [this.1, Bool.true_and]
  exact decide_eq_true (by omega)
def fEqD (t : Ty) (a b : den t) : Option Bool := some (PyData.eqv ((emb t).1 a) ((emb t).1 b))
def fNeD (t : Ty) (a b : den t) : Option Bool := some (!PyData.eqv ((emb t).1 a) ((emb t).1 b))
def okCmp (t : Ty) : Bool := t.cmp && decide (t.dep ≤ 60)
theorem okCmp_of {t : Ty} (h : okCmp t = true) : t.cmp = true ∧ t.dep ≤ 60 := by
  rw [okCmp, Bool.and_eq_true] at h
  exact ⟨h.1, of_decide_eq_true h.2⟩
theorem v_eqD {m : Em} {t : Ty} (hk : okCmp t = true) : V2 K (rEqD K) m t t .bool (fEqD t) := fun E L H v w a b c Q ra rb e q => by
  cases e
  obtain ⟨k1, k2⟩ := okCmp_of hk
  exact ⟨_, _, (rS_dp t k1).1 v a ra, (rS_dp t k1).1 w b rb, shaped_of k1 (by omega) ra, shaped_of k1 (by omega) rb, q _ H (Same.refl H) (rep_atom rfl rfl)⟩
theorem v_neD {m : Em} {t : Ty} (hk : okCmp t = true) : V2 K (rNeD K) m t t .bool (fNeD t) := fun E L H v w a b c Q ra rb e q => by
  cases e
  obtain ⟨k1, k2⟩ := okCmp_of hk
  exact ⟨_, _, (rS_dp t k1).1 v a ra, (rS_dp t k1).1 w b rb, shaped_of k1 (by omega) ra, shaped_of k1 (by omega) rb, q _ H (Same.refl H) (rep_atom rfl rfl)⟩
/-- x in xs -/
def fInD (t : Ty) (a : den t) (b : List (den t)) : Option Bool := some (b.any fun z => PyData.eqv ((emb t).1 z) ((emb t).1 a))
def fNotInD (t : Ty) (a : den t) (b : List (den t)) : Option Bool := some (!b.any fun z => PyData.eqv ((emb t).1 z) ((emb t).1 a))
theorem v_inD {m : Em} {t : Ty} (hk : okCmp t = true) : V2 K (rInD K) m t (.list t) .bool (fInD t) := fun E L H v w a b c Q ra rb e q => by
  cases e
  obtain ⟨k1, k2⟩ := okCmp_of hk
  refine ⟨_, b.map (emb t).1, (rS_dp t k1).1 v a ra, (rS_dp (.list t) k1).1 w b rb, shaped_of k1 (by omega) ra, shaped_of (t := .list t) k1 (by simp only [Ty.dep]; omega) rb, q _ H (Same.refl H) (rep_atom rfl ?_)⟩
  show V.bl _ = V.bl _
  rw [List.any_map]
  rfl
theorem v_notInD {m : Em} {t : Ty} (hk : okCmp t = true) : V2 K (rNotInD K) m t (.list t) .bool (fNotInD t) := fun E L H v w a b c Q ra rb e q => by
  cases e
  obtain ⟨k1, k2⟩ := okCmp_of hk
  refine ⟨_, b.map (emb t).1, (rS_dp t k1).1 v a ra, (rS_dp (.list t) k1).1 w b rb, shaped_of k1 (by omega) ra, shaped_of (t := .list t) k1 (by simp only [Ty.dep]; omega) rb, q _ H (Same.refl H) (rep_atom rfl ?_)⟩
  show V.bl _ = V.bl _
  rw [List.any_map]
  rfl
end
end VV

/-! VMore3: list comprehensions. -/
namespace VV
open PySem L2
open PyProof.Rows hiding St

section
variable {K : PySem.W.Frag} {E : Ent} {ms : List Md} {ts : List Ty} {L L1 : Reg} {Γ Γ1 : Gam ts} {σ σ1 : St} {H H' H0 H1 H2 : Hp} {xt : List Addr} {rm : Rm} {ρ : Ty}
/-! ### rows that grow -/
theorem RepL.nil {m : Em} {t : Ty} : RepL K E L H H' m t [] [] := by
  cases m with
  | o => exact ⟨[], fun _ => False, rfl, List.nodup_nil, fun a h => by simp at h, fun a h => h.elim, fun a h => by simp at h⟩
  | l => exact ⟨fun _ => False, True.intro, fun a h => h.elim⟩
  | w => exact ⟨fun _ => False, True.intro, fun a h => h.elim⟩
  | b => exact True.intro
/-- what becomes of a row when the heap goes on: nothing that it rests on changes -/
theorem RepL.on {m : Em} {t : Ty} {vs : List V} {ds : List (den t)} (hm : (m == .b) = false) (hc : ∀ R : Reg, (∀ a, R a → E.S0 a ∨ L a ∨ (H0 a = none ∧ (H a).isSome = true)) → Cov H H' R R) (hs : Stb H H') (hn : ∀ a, H0 a = none → (H a).isSome = true → H' a = H a) (r : RepL K E L H0 H m t vs ds) : RepL K E L H0 H' m t vs ds := by
  have nw : ∀ {R : Reg}, Nw H0 H R → Nw H0 H' R := fun {R} h a ha => ⟨(h a ha).1, by rw [hn a (h a ha).1 (h a ha).2]; exact (h a ha).2⟩
  cases m with
  | o =>
    obtain ⟨f, Lr, h1, h2, h3, h4, h5⟩ := r
    have cv : Cov H H' (fun a => L a ∨ Lr a) (fun a => L a ∨ Lr a) := hc _ fun a h => h.elim (fun z => .inr (.inl z)) fun z => .inr (.inr (h4 a z))
    exact ⟨f, Lr, h1.imp fun v d g hg x => kid_mono ((rS_mono cv hs t).1 v d) ((rO_mono cv hs t).1 v d g fun a ha => hn a (h3 a (hg a ha)).1 (h3 a (hg a ha)).2) x, h2, nw h3, nw h4, h5⟩
  | l =>
    obtain ⟨Lr, h1, h2⟩ := r
    exact ⟨Lr, h1.imp fun v d x => (rS_mono (hc _ fun a h => h.elim (fun z => .inr (.inl z)) fun z => .inr (.inr (h2 a z))) hs t).1 v d x, nw h2⟩
  | w =>
    obtain ⟨Lr, h1, h2⟩ := r
    exact ⟨Lr, h1.imp fun v d x => (rS_mono (hc _ fun a h => h.elim .inl fun h => h.elim (fun z => .inr (.inl z)) fun z => .inr (.inr (h2 a z))) hs t).1 v d x, nw h2⟩
  | b => exact absurd hm (by decide)
theorem RepL.same {m : Em} {t : Ty} {vs : List V} {ds : List (den t)} (hm : (m == .b) = false) (s : Same H H') (r : RepL K E L H0 H m t vs ds) : RepL K E L H0 H' m t vs ds :=
  r.on hm (fun R _ => Cov.of_same s fun a h _ => h) (Stb.of_same s) fun a _ h => same_at s h
/-- a cell that the row does not rest on is changed -/
theorem RepL.upd {m : Em} {t : Ty} {vs : List V} {ds : List (den t)} {D : Addr} {o u : HO} (hm : (m == .b) = false) (hD : H D = some o) (mo : mutO o = true) (h0 : (H0 D).isSome = true) (hl : ¬ L D) (hS : ¬ E.S0 D) (r : RepL K E L H0 H m t vs ds) : RepL K E L H0 (upd H D u) m t vs ds := by
  refine r.on hm (fun R hR a q h e => ⟨h, ?_⟩) (Stb.upd hD mo) fun a h1 h2 => upd_ne fun z => ?_
  · rw [upd_ne fun z => ?_]
    · exact e
    · subst z
      rcases hR a h with z | z | z
      · exact hS z
      · exact hl z
      · rw [z.1] at h0
        cases h0
  · subst z
    rw [h1] at h0
    cases h0
theorem F3.snoc {α β : Type} {P : α → β → List Addr → Prop} {vs : List α} {ds : List β} {f : List Addr} {v : α} {d : β} {g : List Addr} (h : F3 P vs ds f) (q : P v d g) : F3 P (vs ++ [v]) (ds ++ [d]) (f ++ g) := F3.append h ⟨g, [], by simp, q, rfl⟩
theorem F2.snoc {α β : Type} {P : α → β → Prop} {vs : List α} {ds : List β} {v : α} {d : β} (h : F2 P vs ds) (q : P v d) : F2 P (vs ++ [v]) (ds ++ [d]) := F2.append h ⟨q, True.intro⟩
/-- one item more -/
theorem RepL.snoc {m : Em} {t : Ty} {vs : List V} {ds : List (den t)} {v : V} {d : den t} (hm : (m == .b) = false) (s : Same H H') (h0 : ∀ a, H a = none → H0 a = none) (r : RepL K E L H0 H m t vs ds) (q : Rep K E L H H' m t v d) : RepL K E L H0 H' m t (vs ++ [v]) (ds ++ [d]) := by
  have r1 := r.same hm s
  have nw : ∀ {R : Reg}, Nw H H' R → Nw H0 H' R := fun {R} h a ha => ⟨h0 a (h a ha).1, (h a ha).2⟩
  cases m with
  | o =>
    obtain ⟨f, Lr, h1, h2, h3, h4, h5⟩ := r
    obtain ⟨g, Ls, k1, k2, k3, k4, k5⟩ := q
    have cv : Cov H H' (fun a => L a ∨ Lr a) (fun a => L a ∨ (Lr a ∨ Ls a)) := Cov.of_same s fun a h _ => h.elim .inl fun z => .inr (.inl z)
    have cg : Cov H' H' (fun a => L a ∨ Ls a) (fun a => L a ∨ (Lr a ∨ Ls a)) := Cov.of_reg fun a h _ => h.elim .inl fun z => .inr (.inr z)
    refine ⟨f ++ g, fun a => Lr a ∨ Ls a, F3.snoc (h1.imp fun v d g hg x => kid_mono ((rS_mono cv (Stb.of_same s) t).1 v d) ((rO_mono cv (Stb.of_same s) t).1 v d g fun a ha => same_at s (h3 a (hg a ha)).2) x) (.inl ((rO_mono cg (Stb.refl _) t).1 v d g (fun _ _ => rfl) k1)), List.nodup_append.mpr ⟨h2, k2, fun a ha b hb z => ?_⟩, fun a ha => ?_, fun a ha => ?_, fun a ha => ?_⟩
    · subst z
      exact nw_apart h3 k3 a ha hb
    · rcases List.mem_append.mp ha with z | z
      · exact nw_on s h3 a z
      · exact nw k3 a z
    · rcases ha with z | z
      · exact nw_on s h4 a z
      · exact nw k4 a z
    · rcases List.mem_append.mp ha with z | z
      · exact fun y => y.elim (h5 a z) (nw_apart h3 k4 a z)
      · exact fun y => y.elim (fun y => nw_apart h4 k3 a y z) (k5 a z)
  | l =>
    obtain ⟨Lr, h1, h2⟩ := r1
    obtain ⟨Ls, k1, k2⟩ := q
    refine ⟨fun a => Lr a ∨ Ls a, F2.snoc (h1.imp fun v d x => (rS_mono (Cov.of_reg fun a h _ => h.elim .inl fun z => .inr (.inl z)) (Stb.refl _) t).1 v d x) ((rS_mono (Cov.of_reg fun a h _ => h.elim .inl fun z => .inr (.inr z)) (Stb.refl _) t).1 v d k1), fun a ha => ha.elim (h2 a) (nw k2 a)⟩
  | w =>
    obtain ⟨Lr, h1, h2⟩ := r1
    obtain ⟨Ls, k1, k2⟩ := q
    refine ⟨fun a => Lr a ∨ Ls a, F2.snoc (h1.imp fun v d x => (rS_mono (Cov.of_reg fun a h _ => h.elim .inl fun z => z.elim (fun z => .inr (.inl z)) fun z => .inr (.inr (.inl z))) (Stb.refl _) t).1 v d x)
      ((rS_mono (Cov.of_reg fun a h _ => h.elim .inl fun z => z.elim (fun z => .inr (.inl z)) fun z => .inr (.inr (.inr z))) (Stb.refl _) t).1 v d k1), fun a ha => ha.elim (h2 a) (nw k2 a)⟩
  | b => exact absurd hm (by decide)
/-- the new list itself -/
theorem RepL.list {m : Em} {t : Ty} {vs : List V} {ds : List (den t)} {D : Addr} {Lr : Reg} (hm : (m == .b) = false) (s : Same H H1) (nl : Nw H H1 Lr) (hD : H1 D = none) (s1 : Same H1 H') (hv : H' D = some (.lst vs)) (r : RepL K E (fun a => L a ∨ Lr a) (L2.upd H1 D (.lst [])) H' m t vs ds) : Rep K E L H H' m (.list t) (.ref D) ds := by
  have nf : ∀ {R : Reg}, Nw (L2.upd H1 D (.lst [])) H' R → Nw H H' R ∧ ¬ R D := fun {R} h => ⟨fun a ha => by
    have := (h a ha).1
    have ne : a ≠ D := fun z => by
      subst z
      rw [upd_same] at this
      cases this
    rw [upd_ne ne] at this
    exact ⟨s.free this, (h a ha).2⟩, fun z => by
    have := (h D z).1
    rw [upd_same] at this
    cases this⟩
  have nl' : Nw H H' Lr := nw_on s1 nl
  have dl : ¬ Lr D := fun z => by
    have := (nl D z).2
    rw [hD] at this
    cases this
  have dn : H D = none ∧ (H' D).isSome = true := ⟨s.free hD, by rw [hv]; rfl⟩
  have as : ∀ {Ls : Reg}, ∀ a, (L a ∨ Lr a) ∨ Ls a → L a ∨ (Lr a ∨ Ls a) := fun a h => h.elim (fun h => h.elim .inl fun z => .inr (.inl z)) fun z => .inr (.inr z)
  cases m with
  | o =>
    obtain ⟨f, Ls, h1, h2, h3, h4, h5⟩ := r
    have cv : Cov H' H' (fun a => (L a ∨ Lr a) ∨ Ls a) (fun a => L a ∨ (Lr a ∨ Ls a)) := Cov.of_reg fun a h _ => as a h
    refine ⟨D :: f, fun a => Lr a ∨ Ls a, ⟨D, vs, f, rfl, rfl, hv, h1.imp fun v d g hg x => kid_mono ((rS_mono cv (Stb.refl _) t).1 v d) ((rO_mono cv (Stb.refl _) t).1 v d g fun _ _ => rfl) x⟩, List.nodup_cons.mpr ⟨(nf h3).2, h2⟩, fun a ha => ?_, fun a ha => ha.elim (nl' a) ((nf h4).1 a), fun a ha => ?_⟩
    · rcases List.mem_cons.mp ha with rfl | ha
      · exact dn
      · exact (nf h3).1 a ha
    · rcases List.mem_cons.mp ha with rfl | ha
      · exact fun z => z.elim dl (nf h4).2
      · refine fun z => z.elim (fun z => ?_) (h5 a ha)
        have h6 := (nl a z).2
        have h7 := (h3 a ha).1
        have ne : a ≠ D := fun z => by
          subst z
          rw [upd_same] at h7
          cases h7
        rw [upd_ne ne] at h7
        rw [h7] at h6
        cases h6
  | l =>
    obtain ⟨Ls, h1, h2⟩ := r
    refine ⟨fun a => (Lr a ∨ Ls a) ∨ a = D, ⟨D, vs, rfl, .inl ⟨.inr (.inr rfl), by rw [hv]; rfl⟩, h1.imp fun v d x => (rS_mono (Cov.of_reg fun a h _ => (as a h).elim .inl fun z => .inr (.inl z)) (Stb.refl _) t).1 v d x⟩, fun a ha => ?_⟩
    rcases ha with (ha | ha) | rfl
    · exact nl' a ha
    · exact (nf h2).1 a ha
    · exact dn
  | w =>
    obtain ⟨Ls, h1, h2⟩ := r
    refine ⟨fun a => (Lr a ∨ Ls a) ∨ a = D, ⟨D, vs, rfl, .inl ⟨.inr (.inr (.inr rfl)), by rw [hv]; rfl⟩, h1.imp fun v d x => (rS_mono (Cov.of_reg fun a h _ => h.elim .inl fun h => .inr ((as a h).elim .inl fun z => .inr (.inl z))) (Stb.refl _) t).1 v d x⟩, fun a ha => ?_⟩
    rcases ha with (ha | ha) | rfl
    · exact nl' a ha
    · exact (nf h2).1 a ha
    · exact dn
  | b => exact absurd hm (by decide)

/-! ### names of the comprehension's own -/
theorem wipe_in {i : Nat} : ∀ {vs : List Nat} {σ : St}, i ∈ vs → i < σ.length → (wipe σ vs)[i]? = some none
  | v :: vs, σ, h, hl => by
    unfold wipe
    by_cases hv : v = i
    · subst hv
      rw [List.getElem?_set_self (by rw [wipe_length]; exact hl)]
    · rw [List.getElem?_set_ne hv]
      exact wipe_in ((List.mem_cons.mp h).resolve_left fun z => hv z.symm) hl
  | [], _, h, _ => by simp at h
theorem wipe_ext {vs : List Nat} {σ σ' : St} (hl : σ.length = σ'.length) (h : ∀ j, j ∉ vs → σ[j]? = σ'[j]?) : wipe σ vs = wipe σ' vs := by
  refine List.ext_getElem? fun j => ?_
  by_cases hj : j ∈ vs
  · by_cases hb : j < σ.length
    · rw [wipe_in hj hb, wipe_in hj (by omega)]
    · rw [List.getElem?_eq_none (by rw [wipe_length]; omega), List.getElem?_eq_none (by rw [wipe_length]; omega)]
  · rw [wipe_out hj, wipe_out hj]
    exact h j hj
theorem wipe_wipe (σ : St) (vs : List Nat) : wipe (wipe σ vs) vs = wipe σ vs := wipe_ext (wipe_length σ vs) fun j hj => wipe_out hj
/-- a target that stores in names of vs alone -/
def GW (g : TG) (vs : List Nat) : Prop := ∀ (x : V) (σ : St) (H : Hp) (Q : St → Hp → Prop), g x σ H Q → g x σ H fun σ' H' => wipe σ' vs = wipe σ vs ∧ Q σ' H'
def GWs (g : TGs) (vs : List Nat) : Prop := ∀ (xs : List V) (σ : St) (H : Hp) (Q : St → Hp → Prop), g xs σ H Q → g xs σ H fun σ' H' => wipe σ' vs = wipe σ vs ∧ Q σ' H'
def MonG (g : TG) : Prop := ∀ (x : V) (σ : St) (H : Hp) (Q Q' : St → Hp → Prop), (∀ σ' H', Q σ' H' → Q' σ' H') → g x σ H Q → g x σ H Q'
theorem gw_name {i : Nat} {vs : List Nat} (h : vs.contains i = true := by rfl) : GW (gName i) vs := fun x σ H Q q => by
  refine ⟨wipe_ext List.length_set fun j hj => List.getElem?_set_ne fun z => hj ?_, q⟩
  rw [← z]
  exact List.contains_iff_mem.mp h
theorem gws_nil {vs : List Nat} : GWs gNil vs := fun xs σ H Q q => ⟨q.1, rfl, q.2⟩
theorem gws_cons {g : TG} {gs : TGs} {vs : List Nat} (h : GW g vs) (hm : MonG g) (hs : GWs gs vs) : GWs (gCons g gs) vs := fun xs σ H Q q => by
  obtain ⟨v, r, rfl, q⟩ := q
  refine ⟨v, r, rfl, hm v σ H _ _ (fun σ' H' z => ?_) (h v σ H _ q)⟩
  have := hs r σ' H' Q z.2
  rw [z.1] at this
  exact this
theorem mg_name {i : Nat} : MonG (gName i) := fun _ _ _ _ _ h q => h _ _ q
theorem gw_tup {n : Nat} {gs : TGs} {vs : List Nat} (h : GWs gs vs) : GW (gTup K n gs) vs := fun x σ H Q q => by
  obtain ⟨a, xs, e, h1, h2, q⟩ := q
  exact ⟨a, xs, e, h1, h2, h xs σ H Q q⟩
def MonGs (g : TGs) : Prop := ∀ (xs : List V) (σ : St) (H : Hp) (Q Q' : St → Hp → Prop), (∀ σ' H', Q σ' H' → Q' σ' H') → g xs σ H Q → g xs σ H Q'
theorem mgs_nil : MonGs gNil := fun _ _ _ _ _ h q => ⟨q.1, h _ _ q.2⟩
theorem mgs_cons {g : TG} {gs : TGs} (h : MonG g) (hs : MonGs gs) : MonGs (gCons g gs) := fun xs σ H Q Q' hq q => by
  obtain ⟨v, r, e, q⟩ := q
  exact ⟨v, r, e, h v σ H _ _ (fun σ' H' z => hs r σ' H' Q Q' hq z) q⟩
theorem mg_tup {n : Nat} {gs : TGs} (h : MonGs gs) : MonG (gTup K n gs) := fun x σ H Q Q' hq q => by
  obtain ⟨a, xs, e, h1, h2, q⟩ := q
  exact ⟨a, xs, e, h1, h2, h xs σ H Q Q' hq q⟩
theorem rG_unset {S0 : Reg} : ∀ {ms : List Md} {ts : List Ty} {Γ : Gam ts} {σ : St} {fp : List Addr} (bs : List Bool) (v : Nat), bs[v]? = some false → rG K H S0 L ms ts (Gam.mask bs Γ) σ fp → rG K H S0 L ms ts (Gam.mask bs Γ) (σ.set v none) fp
  | [], [], _, σ, _, bs, v, hv, h => by
    obtain ⟨h1, h2⟩ := h
    subst h1
    exact ⟨rfl, h2⟩
  | m :: ms, t :: ts, Γ, s :: σ, fp, b :: bs, 0, hv, h => by
    have e : b = false := by simpa using hv
    subst e
    obtain ⟨f1, f2, rfl, h1, h2⟩ := h
    exact ⟨f1, f2, rfl, h1, h2⟩
  | m :: ms, t :: ts, Γ, s :: σ, fp, b :: bs, v + 1, hv, h => by
    obtain ⟨f1, f2, rfl, h1, h2⟩ := h
    exact ⟨f1, f2, rfl, h1, rG_unset (Γ := Γ.2) bs v (by simpa using hv) h2⟩
  | _ :: _, _ :: _, _, _ :: _, _, [], _, hv, _ => by simp at hv
  | [], _ :: _, _, _, _, _, _, _, h => h.elim
  | _ :: _, [], _, _, _, _, _, _, h => h.elim
  | _ :: _, _ :: _, _, [], _, [], _, hv, _ => by simp at hv
  | _ :: _, _ :: _, _, [], _, _ :: _, _, _, h => h.elim
theorem rG_wipe {S0 : Reg} {fp : List Addr} {bs : List Bool} : ∀ (vs : List Nat), (∀ v ∈ vs, bs[v]? = some false) → rG K H S0 L ms ts (Gam.mask bs Γ) σ fp → rG K H S0 L ms ts (Gam.mask bs Γ) (wipe σ vs) fp
  | [], _, h => h
  | v :: vs, hv, h => rG_unset bs v (hv v List.mem_cons_self) (rG_wipe vs (fun w hw => hv w (List.mem_cons_of_mem _ hw)) h)
theorem Own.wipe {bs : List Bool} {vs : List Nat} (hv : ∀ v ∈ vs, bs[v]? = some false) (o : Own K E L ms ts (Gam.mask bs Γ) σ H xt) : Own K E L ms ts (Gam.mask bs Γ) (wipe σ vs) H xt := by
  obtain ⟨fp, g, nd, gd⟩ := o.ex
  exact ⟨⟨fp, rG_wipe vs hv g, nd, gd⟩, o.fr, o.lr, o.s0, o.iod⟩

/-! ### [e for x in xs if t] -/
def lcL {G α β : Type} (bind : α → G → G) (cond : G → Option Bool) (elt : G → Option β) (Γ : G) : List α → Option (List β)
  | [] => some []
  | x :: xs => (cond (bind x Γ)).bind fun b => if b = true then (elt (bind x Γ)).bind fun y => (lcL bind cond elt Γ xs).bind fun r => some (y :: r) else lcL bind cond elt Γ xs
def eLc {G α β : Type} (src : G → Option (List α)) (bind : α → G → G) (mask : G → G) (cond : G → Option Bool) (elt : G → Option β) : G → Option (List β) := fun Γ => (src Γ).bind fun xs => (lcL bind cond elt (mask Γ) xs).bind fun r => okIf (lenOk r.length) r
def eYes {G : Type} : G → Option Bool := fun _ => some true
theorem rt_yes : RT K ms ts tYes eYes := fun E L Γ σ H xt Q c o e q => by
  cases e
  exact q H (Same.refl H)
/-- what a comprehension walks: nothing changes meanwhile -/
structure IterS (K : PySem.W.Frag) (R : Reg) (t : Ty) (J : It) (ds : List (den t)) (Z : Hp → Prop) : Prop where
  keep : ∀ H H', Same H H' → Z H → Z H'
  go : ∀ i H, Z H → i < ds.length → J.go i H
  stop : ∀ H, Z H → J.stop ds.length H
  yld : ∀ i H x H', i < ds.length → Z H → J.yld i H x H' → Same H H' ∧ ∃ d, ds[i]? = some d ∧ (rS K H' R t).1 x d
def RIS (K : PySem.W.Frag) (ms : List Md) (ts : List Ty) (wi : TI) (w : Bool) (t : Ty) (F : Gam ts → Option (List (den t))) : Prop :=
  ∀ (E : Ent) (L : Reg) (Γ : Gam ts) (σ : St) (H : Hp) (xt : List Addr) (R : It → Hp → Prop) (ds : List (den t)), Own K E L ms ts Γ σ H xt → F Γ = some ds →
    (∀ J H' Lr Z, Same H H' → Nw H H' Lr → IterS K (reg w E fun a => L a ∨ Lr a) t J ds Z → Z H' → R J H') → wi σ H R
theorem ris_of {w : Bool} {t : Ty} {wi : TI} {F : Gam ts → Option (List (den t))} (h : RI K ms ts wi w t F) : RIS K ms ts wi w t F := fun E L Γ σ H xt R ds o e q =>
  h E L Γ σ H xt R ds o e fun J H' Lr Z s n it z => q J H' Lr Z s n ⟨fun H H' s => it.keep H H' (Cov.of_same s fun _ h _ => h) (Stb.of_same s), it.go, it.stop, it.yld⟩ z
/-- a list of things without cells, owned or not -/
theorem ris_list {w : Bool} {t : Ty} {m : Em} {te : TE} {F : Gam ts → Option (List (den t))} (h : RP K ms ts te m (.list t) F) (hf : t.frz = true := by rfl) : RIS K ms ts (iList K te) w t F := fun E L Γ σ H xt R ds o e q => by
  refine h E L Γ σ H xt _ ds o e fun v H1 s1 r1 => ?_
  obtain ⟨a, vs, rfl, h1, h2⟩ := id r1.b
  refine ⟨a, rfl, ⟨vs, h1.seq⟩, q _ H1 (fun _ => False) (fun H => (rS K H (fun _ => True) (.list t)).1 (.ref a) ds) s1 (fun a h => h.elim) ⟨fun H H' s z => (rS_mono (Cov.of_same s fun _ h _ => h) (Stb.of_same s) (.list t)).1 _ _ z, iter_list.go, iter_list.stop, fun i H x H' hlt z hy => ?_⟩ r1.b⟩
  obtain ⟨s, d, hd, r⟩ := (iter_list (K := K) (R := fun _ => True) (t := t) (a := a) (ds := ds)).yld i H x H' hlt z hy
  exact ⟨s, d, hd, (rS_frz t hf).1 x d r⟩
theorem rp_hide {te : TE} {m : Em} {t : Ty} {F : Gam ts → Option (den t)} (h : RP K ms ts te m t F) : RP K ms ts te m t (hide F) := by
  rw [hide_eq]
  exact h
def okLc (m : Em) (bs : List Bool) (vs : List Nat) : Bool := !(m == .b) && vs.all fun v => bs[v]? == some false
theorem rp_lc {w : Bool} {m : Em} {t u : Ty} {wi : TI} {g : TG} {tt : TT} {te : TE} {src : Gam ts → Option (List (den t))} {B : den t → Gam ts → Gam ts} {cond : Gam ts → Option Bool} {elt : Gam ts → Option (den u)} (bs : List Bool) (vs : List Nat)
    (hi : RIS K ms ts wi w t src) (hg : RG K ms ts g w t B) (hw : GW g vs) (hc : RT K ms ts tt cond) (he : RP K ms ts te m u elt) (hk : okLc m bs vs = true := by rfl) : RP K ms ts (tLc wi g tt te vs) m (.list u) (eLc src B (Gam.mask bs) cond elt) := fun E L Γ σ H xt Q d o e q => by
  obtain ⟨xs, e1, e⟩ := bind_some e
  obtain ⟨r, e2, e⟩ := bind_some e
  simp only [okLc, Bool.and_eq_true, Bool.not_eq_true', List.all_eq_true, beq_iff_eq] at hk
  obtain ⟨hm, hv⟩ := hk
  dsimp only [okIf] at e
  split at e
  · rename_i hz
    cases e
    have hz := of_decide_eq_true hz
    have o0 := o.drop
    refine hi E L Γ σ H [] _ xs o0 e1 fun J H1 Lr Z s1 nw it z1 => fun D hD => ?_
    have o1 : Own K E (fun a => L a ∨ Lr a) ms ts (Gam.mask bs Γ) (L2.wipe σ vs) H1 [] := Own.wipe hv ((o0.temp s1 List.nodup_nil (fun a ha => by simp at ha) nw fun a ha => by simp at ha).mask bs)
    have fD := o1.fresh hD
    refine ⟨fun i k H' => k = xs.length - i ∧ i ≤ xs.length ∧ Same H1 H' ∧ ∃ acc ds rest, H' D = some (.lst acc) ∧ RepL K E (fun a => L a ∨ Lr a) (L2.upd H1 D (.lst [])) H' m u acc ds ∧ lcL B cond elt (Gam.mask bs Γ) (xs.drop i) = some rest ∧ d = ds ++ rest,
      ⟨xs.length, rfl, Nat.zero_le _, same_new hD, [], [], d, upd_same, RepL.nil, e2, rfl⟩, ?_⟩
    rintro i k H' ⟨rfl, hle, sH, acc, ds, rest, hDa, rl, e4, rfl⟩
    have z' : Z H' := it.keep H1 H' sH z1
    by_cases hlt : i < xs.length
    · refine .inr ⟨it.go i H' z' hlt, fun H'' => Same H1 H'' ∧ ∃ acc ds' rest', H'' D = some (.lst acc) ∧ RepL K E (fun a => L a ∨ Lr a) (L2.upd H1 D (.lst [])) H'' m u acc ds' ∧ lcL B cond elt (Gam.mask bs Γ) (xs.drop (i + 1)) = some rest' ∧ ds ++ rest = ds' ++ rest',
        fun H'' h => ⟨xs.length - (i + 1), by omega, rfl, hlt, h⟩, fun x H3 hy => ?_⟩
      obtain ⟨s3, dd, hd, rd⟩ := it.yld i H' x H3 hlt z' hy
      have ed : xs.drop i = dd :: xs.drop (i + 1) := by
        have hd' : xs[i] = dd := by
          have := List.getElem?_eq_getElem hlt
          rw [this] at hd
          exact Option.some.inj hd
        rw [List.drop_eq_getElem_cons hlt, hd']
      rw [ed] at e4
      obtain ⟨b, e5, e6⟩ := bind_some (show (cond (B dd (Gam.mask bs Γ))).bind _ = some rest from e4)
      have o3 := o1.same (sH.trans s3)
      have main := hw x (L2.wipe σ vs) H3 _ (hg E _ (Gam.mask bs Γ) (L2.wipe σ vs) H3 (fun σ2 H2 => tt σ2 H2 fun b H3 => if b = true then te σ2 H3 fun y H4 => ∃ acc, H4 D = some (.lst acc) ∧ acc.length < sizeLine ∧ (fun H'' => Same H1 H'' ∧ ∃ acc ds' rest', H'' D = some (.lst acc) ∧ RepL K E (fun a => L a ∨ Lr a) (L2.upd H1 D (.lst [])) H'' m u acc ds' ∧ lcL B cond elt (Gam.mask bs Γ) (xs.drop (i + 1)) = some rest' ∧ ds ++ rest = ds' ++ rest') (L2.upd H4 D (.lst (acc ++ [y]))) else (fun H'' => Same H1 H'' ∧ ∃ acc ds' rest', H'' D = some (.lst acc) ∧ RepL K E (fun a => L a ∨ Lr a) (L2.upd H1 D (.lst [])) H'' m u acc ds' ∧ lcL B cond elt (Gam.mask bs Γ) (xs.drop (i + 1)) = some rest' ∧ ds ++ rest = ds' ++ rest') H3) x dd o3 rd fun σ4 o4 ev4 => ?_)
      · rw [wipe_wipe] at main
        exact main
      · refine hc E _ _ σ4 H3 [] _ b o4 e5 fun H5 s5 => ?_
        have s35 : Same H' H5 := s3.trans s5
        cases b with
        | false =>
          rw [if_neg Bool.false_ne_true] at e6 ⊢
          exact ⟨sH.trans s35, acc, ds, rest, s35 _ _ hDa, rl.same hm s35, e6, rfl⟩
        | true =>
          rw [if_pos rfl] at e6 ⊢
          obtain ⟨y, e7, e8⟩ := bind_some e6
          obtain ⟨r', e9, e10⟩ := bind_some e8
          cases e10
          refine he E _ _ σ4 H5 [] _ y (o4.same s5) e7 fun v H6 s6 r6 => ?_
          have s36 : Same H' H6 := s35.trans s6
          have hD6 := s36 _ _ hDa
          refine ⟨acc, hD6, ?_, fun a q h => ?_, acc ++ [v], ds ++ [y], r', upd_same, ?_, e9, by simp⟩
          · have := rl.len
            simp only [List.length_append, List.length_cons] at hz
            omega
          · have ne : a ≠ D := fun z => by
              subst z
              rw [hD] at h
              cases h
            rw [upd_ne ne]
            exact (sH.trans s36) a q h
          · refine RepL.upd hm hD6 rfl (by rw [upd_same]; rfl) fD.2.1 fD.2.2 (RepL.snoc hm s6 (fun a h => ?_) (rl.same hm s35) r6)
            have ne : a ≠ D := fun z => by
              subst z
              rw [s35 _ _ hDa] at h
              cases h
            rw [upd_ne ne]
            exact (sH.trans s35).free h
    · have hi' : i = xs.length := by omega
      subst hi'
      rw [List.drop_length] at e4
      cases e4
      refine .inl ⟨it.stop H' z', q (.ref D) H' (s1.trans sH) ?_⟩
      rw [List.append_nil]
      exact rl.list hm s1 nw hD sH hDa
  · cases e
end
end VV

/-! VMore4: copies, tuples put together, stores in owned lists, enumerate, zip, reversed, signs of a text. -/
namespace VV
open PySem L2
open PyProof.Rows hiding St

section
variable {K : PySem.W.Frag} {E : Ent} {ms : List Md} {ts : List Ty} {L L1 : Reg} {Γ Γ1 : Gam ts} {σ σ1 : St} {H H' H0 H1 H2 : Hp} {xt : List Addr} {rm : Rm} {ρ : Ty}
/-! ### new lists and tuples of things without cells -/
theorem rep_newL {t : Ty} {R : Reg} {l : Addr} {vs : List V} {d : List (den t)} (hf : t.frz = true) (s : Same H H1) (hn : H1 l = none) (h : F2 (rS K H1 R t).1 vs d) : Same H (upd H1 l (.lst vs)) ∧ Rep K E L H (upd H1 l (.lst vs)) .o (.list t) (.ref l) d := by
  have s4 : Same H1 (upd H1 l (.lst vs)) := same_new hn
  refine ⟨s.trans s4, [l], fun _ => False, ⟨l, _, [], rfl, rfl, upd_same, F3.of2 (fun v d x => .inl ((rS_o t hf).1 v d x)) (h.imp (rS_mono (Cov.of_same s4 fun _ h _ => h) (Stb.of_same s4) t).1)⟩, by simp, fun a ha => ?_, fun a h => h.elim, fun a _ h => h⟩
  have ha : a = l := by simpa using ha
  subst ha
  exact ⟨s.free hn, by rw [upd_same]; rfl⟩
theorem rep_newT {t : Ty} {R : Reg} {l : Addr} {vs : List V} {d : List (den t)} (m : Em) (hf : t.frz = true) (s : Same H H1) (hn : H1 l = none) (h : F2 (rS K H1 R t).1 vs d) : Same H (upd H1 l (.tup vs)) ∧ Rep K E L H (upd H1 l (.tup vs)) m (.vtup t) (.ref l) d := by
  have s4 : Same H1 (upd H1 l (.tup vs)) := same_new hn
  exact ⟨s.trans s4, Rep.frz (t := .vtup t) hf m (R := R) ⟨l, vs, rfl, upd_same, h.imp (rS_mono (Cov.of_same s4 fun _ h _ => h) (Stb.of_same s4) t).1⟩⟩
abbrev rLen (K : PySem.W.Frag) : List V → Hp → VK → Prop := fun xs H Q => ∃ x n, xs = [x] ∧ LenV K x H n ∧ Q (.int n) H
abbrev rListOf (K : PySem.W.Frag) : List V → Hp → VK → Prop := fun xs H Q => ∃ p ys, xs = [.ref p] ∧ (SqL K H p ys ∨ SqT K H p ys) ∧ ∀ l, H l = none → Q (.ref l) (upd H l (.lst ys))
abbrev rTupOf (K : PySem.W.Frag) : List V → Hp → VK → Prop := fun xs H Q => ∃ p ys, xs = [.ref p] ∧ ((SqL K H p ys ∧ ∀ l, H l = none → Q (.ref l) (upd H l (.tup ys))) ∨ (SqT K H p ys ∧ Q (.ref p) H))
theorem rp_listL {t : Ty} {m : Em} {te : TE} {F : Gam ts → Option (List (den t))} (h : RP K ms ts te m (.list t) F) (hf : t.frz = true := by rfl) : RP K ms ts (tCB (rListOf K) (tCons te tNil)) .o (.list t) F := fun E L Γ σ H xt Q d o e q => by
  refine h E L Γ σ H xt _ d o e fun v H1 s1 r1 => ?_
  obtain ⟨p, vs, rfl, h1, h2⟩ := r1.b
  refine ⟨p, vs, rfl, .inl h1.seq, fun l hn => ?_⟩
  obtain ⟨s, r⟩ := rep_newL (E := E) (L := L) hf s1 hn h2
  exact q _ _ s r
theorem rp_listV {t : Ty} {m : Em} {te : TE} {F : Gam ts → Option (List (den t))} (h : RP K ms ts te m (.vtup t) F) (hf : t.frz = true := by rfl) : RP K ms ts (tCB (rListOf K) (tCons te tNil)) .o (.list t) F := fun E L Γ σ H xt Q d o e q => by
  refine h E L Γ σ H xt _ d o e fun v H1 s1 r1 => ?_
  obtain ⟨p, vs, rfl, h1, h2⟩ := r1.b
  refine ⟨p, vs, rfl, .inr (.of h1), fun l hn => ?_⟩
  obtain ⟨s, r⟩ := rep_newL (E := E) (L := L) hf s1 hn h2
  exact q _ _ s r
theorem rp_tupL {t : Ty} {m m' : Em} {te : TE} {F : Gam ts → Option (List (den t))} (h : RP K ms ts te m' (.list t) F) (hf : t.frz = true := by rfl) : RP K ms ts (tCB (rTupOf K) (tCons te tNil)) m (.vtup t) F := fun E L Γ σ H xt Q d o e q => by
  refine h E L Γ σ H xt _ d o e fun v H1 s1 r1 => ?_
  obtain ⟨p, vs, rfl, h1, h2⟩ := r1.b
  refine ⟨p, vs, rfl, .inl ⟨h1.seq, fun l hn => ?_⟩⟩
  obtain ⟨s, r⟩ := rep_newT (E := E) (L := L) m hf s1 hn h2
  exact q _ _ s r
theorem rp_tupV {t : Ty} {m m' : Em} {te : TE} {F : Gam ts → Option (List (den t))} (h : RP K ms ts te m' (.vtup t) F) (hf : t.frz = true := by rfl) : RP K ms ts (tCB (rTupOf K) (tCons te tNil)) m (.vtup t) F := fun E L Γ σ H xt Q d o e q => by
  refine h E L Γ σ H xt _ d o e fun v H1 s1 r1 => ?_
  obtain ⟨p, vs, rfl, h1, h2⟩ := id r1.b
  exact ⟨p, vs, rfl, .inr ⟨.of h1, q _ _ s1 (Rep.frz (t := .vtup t) hf m r1.b)⟩⟩
theorem f2_nil {α β : Type} {P : α → β → Prop} {vs : List α} {ds : List β} (h : F2 P vs ds) : vs = [] ↔ ds = [] := by
  cases vs <;> cases ds <;> first | exact h.elim | simp
theorem v_catT {m : Em} {t : Ty} (hf : t.frz = true := by rfl) : V2 K (rCatA K) m (.vtup t) (.vtup t) (.vtup t) fCatL := fun E L H v w a b c Q ra rb e q => by
  dsimp only [fCatL, okIf] at e
  split at e
  · rename_i hz
    cases e
    obtain ⟨p, vs, rfl, h1, h2⟩ := id ra
    obtain ⟨p', ws, rfl, h3, h4⟩ := id rb
    refine ⟨p, p', vs, ws, rfl, rfl, .of h1, .of h3, by rw [h2.length, h4.length]; exact of_decide_eq_true hz, fun z => ?_, fun z z' => ?_, fun z z' l hn => ?_⟩
    · have := (f2_nil h2).mp z
      subst this
      exact q _ H (Same.refl H) (Rep.frz (t := .vtup t) hf m rb)
    · have := (f2_nil h4).mp z'
      subst this
      rw [List.append_nil] at q
      exact q _ H (Same.refl H) (Rep.frz (t := .vtup t) hf m ra)
    · obtain ⟨s, r⟩ := rep_newT (E := E) (L := L) m hf (Same.refl H) hn (F2.append h2 h4)
      exact q _ _ s r
  · cases e
theorem cut_whole {α : Type} {xs : List α} {lo hi : Option Int} (h : HT.sIx xs.length 0 lo = 0 ∧ HT.sIx xs.length xs.length hi = xs.length) : cutD xs lo hi = xs := by
  unfold cutD
  rw [h.1, h.2]
  simp
theorem rp_sliceT {t : Ty} {m m' : Em} {te : TE} {tl th : TO} {F : Gam ts → Option (List (den t))} {Fl Fh : Gam ts → Option (Option Int)} (h : RP K ms ts te m (.vtup t) F) (hl : RO K ms ts tl Fl) (hh : RO K ms ts th Fh) (hf : t.frz = true := by rfl) :
    RP K ms ts (tSl (rSlA K) te tl th) m' (.vtup t) (e3 fCutL F Fl Fh) := fun E L Γ σ H xt Q d o e q => by
  obtain ⟨a, ea, e⟩ := bind_some e
  obtain ⟨lo, el, e⟩ := bind_some e
  obtain ⟨hi, eh, e⟩ := bind_some e
  cases e
  refine h E L Γ σ H xt _ a o ea fun v H1 s1 r1 => ?_
  refine hl E L Γ σ H1 xt _ lo (o.same s1) el fun H2 s2 => ?_
  refine hh E L Γ σ H2 xt _ hi ((o.same s1).same s2) eh fun H3 s3 => ?_
  have s13 := s2.trans s3
  have r3 := (rS_mono (Cov.of_same s13 fun _ h _ => h) (Stb.of_same s13) (.vtup t)).1 v a r1.b
  obtain ⟨p, vs, rfl, h1, h2⟩ := id r3
  refine ⟨p, vs, rfl, .of h1, fun z => ?_, fun z l hn => ?_⟩
  · rw [h2.length] at z
    rw [cut_whole z] at q
    exact q _ _ (s1.trans s13) (Rep.frz (t := .vtup t) hf m' r3)
  · obtain ⟨s, r⟩ := rep_newT (E := E) (L := L) m' hf (s1.trans s13) hn (f2_cut (lo := lo) (hi := hi) h2)
    exact q _ _ s r
/-- a list times an int -/
def fRepL {α : Type} (d : List α) (n : Int) : Option (List α) := okIf (decide (-(2 ^ 62) ≤ n ∧ n < 2 ^ 62 ∧ d.length * n.toNat ≤ sizeLine)) (List.replicate n.toNat d).flatten
theorem f2_rep {α β : Type} {P : α → β → Prop} {vs : List α} {ds : List β} (h : F2 P vs ds) : ∀ n, F2 P (List.replicate n vs).flatten (List.replicate n ds).flatten
  | 0 => True.intro
  | n + 1 => by
    rw [List.replicate_succ, List.replicate_succ, List.flatten_cons, List.flatten_cons]
    exact F2.append h (f2_rep h n)
theorem rp_rep {t : Ty} {m2 : Em} {ta tb : TE} {Fa : Gam ts → Option (List (den t))} {Fb : Gam ts → Option Int} (ha : RP K ms ts ta .o (.list t) Fa) (hb : RP K ms ts tb m2 .int Fb) (hf : t.frz = true := by rfl) : RP K ms ts (tOp rRep ta tb) .o (.list t) (e2 fRepL Fa Fb) := fun E L Γ σ H xt Q d o e q => by
  obtain ⟨a, ea, e⟩ := bind_some e
  obtain ⟨b, eb, e⟩ := bind_some e
  dsimp only [fRepL, okIf] at e
  split at e
  · rename_i hz
    cases e
    have hz := of_decide_eq_true hz
    refine ha E L Γ σ H xt _ a o ea fun v H1 s1 r1 => ?_
    refine hb E L Γ σ H1 xt _ b (o.same s1) eb fun w H2 s2 r2 => ?_
    obtain ⟨f, Lr, ⟨p, vs, g, rfl, rfl, h1, h2⟩, _⟩ := r1
    have h1' := s2 _ _ h1
    have h4 : F2 (rS K H2 (fun _ => True) t).1 vs a := h2.to2 fun v d g _ x => (rS_mono (R := fun _ => True) (Cov.of_same s2 fun _ h _ => h) (Stb.of_same s2) t).1 v d (x.elim (fun y => (rO_s (fun _ _ => True.intro) t).1 v d g (fun _ _ => True.intro) y) fun y => (rS_mono (Cov.of_reg fun _ _ _ => True.intro) (Stb.refl _) t).1 v d y.2.2)
    cases (show w = .int b from r2.b)
    refine ⟨p, b, vs, rfl, rfl, h1', by omega, by omega, by rw [h4.length]; exact hz.2.2, fun l hn => ?_⟩
    obtain ⟨s, r⟩ := rep_newL (E := E) (L := L) hf (s1.trans s2) hn (f2_rep h4 b.toNat)
    exact q _ _ s r
  · cases e
end
end VV

/-! VMore5: stores in owned lists; enumerate, zip, reversed, the signs of a text. -/
namespace VV
open PySem L2
open PyProof.Rows hiding St

section
variable {K : PySem.W.Frag} {E : Ent} {ms : List Md} {ts : List Ty} {L L1 : Reg} {Γ Γ1 : Gam ts} {σ σ1 : St} {H H' H0 H1 H2 : Hp} {xt : List Addr} {rm : Rm} {ρ : Ty}
/-- the items of an owned thing -/
abbrev Kid (K : PySem.W.Frag) (H : Hp) (L : Reg) (t : Ty) : V → den t → List Addr → Prop := kid t.isOwn (rS K H L t).1 (rO K H L t).1
theorem set_same {α : Type} {σ : List α} {n : Nat} {x : α} (h : σ[n]? = some x) : σ.set n x = σ := by
  refine List.ext_getElem? fun k => ?_
  by_cases hn : k = n
  · subst hn
    rw [List.getElem?_set_self (List.getElem?_eq_some_iff.mp h).1]
    exact h.symm
  · rw [List.getElem?_set_ne (Ne.symm hn)]
/-- AN OWNED LIST IS CHANGED: its items' cells are of those that were there, or new ones -/
theorem Own.lst {t : Ty} (i : Mem ts (.list t)) {xs : List (den t)} (o : Own K E L ms ts Γ σ H []) {mo : Md} (hm : ms[i.ix]? = some mo) (ho : mo.own = true) (hx : i.get Γ = some xs) :
    ∃ a vs g, σ[i.ix]? = some (some (.ref a)) ∧ H a = some (.lst vs) ∧ F3 (Kid K H L t) vs xs g ∧ (a :: g).Nodup ∧ (∀ b ∈ a :: g, Good E L H b) ∧
    ∀ (H1 : Hp) (fd : List Addr) (Lr : Reg) (vs' : List V) (ds' : List (den t)) (g' : List Addr), Same H H1 → Nw H H1 (· ∈ fd) → Nw H H1 Lr → (∀ b ∈ fd, ¬ Lr b) → F3 (Kid K H1 (fun b => L b ∨ Lr b) t) vs' ds' g' → g'.Nodup → (∀ b ∈ g', b ∈ g ∨ b ∈ fd) →
      Own K E (fun b => L b ∨ Lr b) ms ts (i.set (some ds') Γ) σ (upd H1 a (.lst vs')) [] ∧ Ev ms ts L Γ σ H (fun b => L b ∨ Lr b) (i.set (some ds') Γ) σ (upd H1 a (.lst vs')) := by
  obtain ⟨s0, f0, q1, q2, q3, q4, q5⟩ := o.focus i hm
  rw [hx] at q2
  obtain ⟨v, rfl, q2⟩ := q2
  obtain ⟨a, vs, g, rfl, rfl, hl, hk⟩ := (repM_own ho).mp q2
  have hnd := List.nodup_cons.mp q3
  have ga := (q4 a List.mem_cons_self).1
  have gg : ∀ b ∈ g, Good E L H b := fun b hb => (q4 b (List.mem_cons_of_mem _ hb)).1
  refine ⟨a, vs, g, q1, hl, hk, q3, fun b hb => (q4 b hb).1, fun H1 fd Lr vs' ds' g' s1 h3 h4 h5 k0 n0 m0 => ?_⟩
  have hl1 := s1 _ _ hl
  have na : ∀ b ∈ fd, b ≠ a := fun b hb z => by
    subst z
    have := (h3 b hb).1
    rw [hl] at this
    cases this
  have st : Stb H (upd H1 a (.lst vs')) := (Stb.of_same s1).trans (Stb.upd hl1 rfl)
  have oth : ∀ b, (H b).isSome = true → b ≠ a → upd H1 a (.lst vs') b = H b := fun b hb hne => by rw [upd_ne hne]; exact same_at s1 hb
  have cov1 : Cov H1 (upd H1 a (.lst vs')) (fun b => L b ∨ Lr b) (fun b => L b ∨ Lr b) := fun b q hb x => by
    refine ⟨hb, ?_⟩
    have hne : b ≠ a := fun z => by
      subst z
      rcases hb with hb | hb
      · exact ga.nl hb
      · have := (h4 b hb).1
        rw [hl] at this
        cases this
    rw [upd_ne hne]
    exact x
  have ga' : ∀ b ∈ g', b ≠ a := fun b hb z => by
    rcases m0 b hb with q | q
    · exact hnd.1 (z ▸ q)
    · exact na b q z
  have k1 : F3 (Kid K (upd H1 a (.lst vs')) (fun b => L b ∨ Lr b) t) vs' ds' g' :=
    k0.imp fun v d g2 hg x => kid_mono ((rS_mono cov1 (Stb.upd hl1 rfl) t).1 v d) ((rO_mono cov1 (Stb.upd hl1 rfl) t).1 v d g2 fun b hb => upd_ne (ga' b (hg b hb))) x
  have up : ∀ b, (H1 b).isSome = true → (upd H1 a (.lst vs') b).isSome = true := fun b hb => by
    by_cases z : b = a
    · rw [z, upd_same]; rfl
    · rw [upd_ne z]; exact hb
  have upH : ∀ b, (H b).isSome = true → (upd H1 a (.lst vs') b).isSome = true := fun b hb => up b (by rw [same_at s1 hb]; exact hb)
  have o' := q5 (upd H1 a (.lst vs')) (fun b => L b ∨ Lr b) (some ds') (some (.ref a)) (a :: g') [] (fun b hb hnf _ => oth b hb fun z => hnf (z ▸ List.mem_cons_self)) st (fun _ h => .inl h)
    (fun b hb => hb.elim .inl fun z => .inr (.inr (.inr (h4 b z).1))) upH
    (fun b hb => hb.elim (fun z => ⟨(o.lr b z).1, upH b (o.lr b z).2⟩) fun z => ⟨.inl (o.fresh (h4 b z).1).1, up b (h4 b z).2⟩)
    ⟨.ref a, rfl, (repM_own ho).mpr ⟨a, vs', g', rfl, rfl, upd_same, k1⟩⟩
    (by
      rw [List.append_nil]
      exact List.nodup_cons.mpr ⟨fun z => ga' a z rfl, n0⟩)
    (fun b hb => by
      have hb : b ∈ a :: g' := by simpa using hb
      rcases List.mem_cons.mp hb with rfl | hb
      · refine ⟨.inl List.mem_cons_self, fun z => z.elim ga.nl fun z => ?_, by rw [upd_same]; rfl⟩
        have := (h4 b z).1
        rw [hl] at this
        cases this
      · rcases m0 b hb with hb | hb
        · refine ⟨.inl (List.mem_cons_of_mem _ hb), fun z => z.elim (gg b hb).nl fun z => ?_, upH b (gg b hb).at_⟩
          have := (gg b hb).at_
          rw [(h4 b z).1] at this
          cases this
        · exact ⟨.inr (.inr (h3 b hb).1), fun z => z.elim (o.fresh (h3 b hb).1).2.1 (h5 b hb), up b (h3 b hb).2⟩)
  rw [set_same q1] at o'
  refine ⟨o', fun _ h => .inl h, fun b q hb x => ?_, st, keepF_set0 i hm (own_hard ho) _⟩
  rw [oth b (o.lr b hb).2 fun z => ga.nl (z ▸ hb)]
  exact x
/-- the items later -/
theorem kids_same {t : Ty} {vs : List V} {ds : List (den t)} {g : List Addr} {Lr : Reg} (s : Same H H1) (hg : ∀ b ∈ g, (H b).isSome = true) (h : F3 (Kid K H L t) vs ds g) : F3 (Kid K H1 (fun b => L b ∨ Lr b) t) vs ds g :=
  h.imp fun v d g2 hg2 x => kid_mono ((rS_mono (Cov.of_same s fun _ h _ => .inl h) (Stb.of_same s) t).1 v d) ((rO_mono (Cov.of_same s fun _ h _ => .inl h) (Stb.of_same s) t).1 v d g2 fun b hb => same_at s (hg b (hg2 b hb))) x
/-- without cells: no footprint, and any region -/
theorem kid_frz {t : Ty} (hf : t.frz = true) {R : Reg} {v : V} {d : den t} (r : (rS K H R t).1 v d) : Kid K H L t v d [] := .inl ((rS_o t hf).1 v d r)
theorem kids_frz {t : Ty} (hf : t.frz = true) {R : Reg} {vs : List V} {ds : List (den t)} (h : F2 (rS K H R t).1 vs ds) : F3 (Kid K H L t) vs ds [] := F3.of2 (fun v d x => kid_frz hf x) h
theorem kids_s {t : Ty} {vs : List V} {ds : List (den t)} {g : List Addr} (h : F3 (Kid K H L t) vs ds g) : F2 (rS K H (fun _ => True) t).1 vs ds := h.to2 fun v d g _ x => x.elim (fun y => (rO_s (fun _ _ => True.intro) t).1 v d g (fun _ _ => True.intro) y) fun y => (rS_mono (Cov.of_reg fun _ _ _ => True.intro) (Stb.refl _) t).1 v d y.2.2
theorem F2.set {α β : Type} {P : α → β → Prop} {v : α} {d : β} (q : P v d) : ∀ {vs : List α} {ds : List β} (j : Nat), F2 P vs ds → F2 P (vs.set j v) (ds.set j d)
  | [], [], _, h => h
  | _ :: _, _ :: _, 0, h => ⟨q, h.2⟩
  | _ :: _, _ :: _, j + 1, h => ⟨h.1, F2.set q j h.2⟩
  | [], _ :: _, _, h => h.elim
  | _ :: _, [], _, h => h.elim
/-- xs[k] = e, things without cells -/
def sLput {ρ : Type} {ts : List Ty} {t : Ty} (i : Mem ts (.list t)) (F : Gam ts → Option (den t)) (G : Gam ts → Option Int) : Gam ts → Option (Fl (Gam ts) ρ) := fun Γ => (i.get Γ).bind fun xs => (F Γ).bind fun d => (G Γ).bind fun k => (ixN xs.length k).bind fun j => some (.nx (i.set (some (xs.set j d)) Γ))
theorem rs_lput {t : Ty} (i : Mem ts (.list t)) {n : Nat} {m m' : Em} {te ti : TE} {F : Gam ts → Option (den t)} {G : Gam ts → Option Int} (h : RP K ms ts te m t F) (h' : RP K ms ts ti m' .int G) (hf : t.frz = true := by rfl) {mo : Md} (hm : ms[i.ix]? = some mo := by rfl) (ho : mo.own = true := by rfl) (hn : i.ix = n := by rfl) :
    RS K ms ts (tAsg te (gSub (tVar n) ti rSetL)) rm ρ (sLput i F G) := fun E L Γ σ H D f o e p => by
  subst hn
  obtain ⟨xs, e1, e⟩ := bind_some e
  obtain ⟨d, e2, e⟩ := bind_some e
  obtain ⟨k, e3, e⟩ := bind_some e
  obtain ⟨j, e4, e⟩ := bind_some e
  cases e
  obtain ⟨a, vs, g, q1, hl, hk, hnd, gd, go⟩ := o.lst i hm ho e1
  refine h E L Γ σ H [] _ d o e2 fun v H1 s1 r1 => ⟨_, q1, h' E L Γ σ H1 [] _ k (o.same s1) e3 fun w H2 s2 r2 => ?_⟩
  cases (show w = .int k from r2.b)
  have s12 := s1.trans s2
  have hv := kids_s hk
  refine ⟨a, vs, k, j, rfl, rfl, s12 _ _ hl, by rw [hv.length]; exact e4, ?_⟩
  have r3 := (rS_mono (Cov.of_same s2 fun _ h _ => h) (Stb.of_same s2) t).1 v d r1.b
  have hv2 : F2 (rS K H2 (fun _ => True) t).1 vs xs := hv.imp (rS_mono (Cov.of_same s12 fun _ h _ => h) (Stb.of_same s12) t).1
  obtain ⟨o', ev⟩ := go H2 [] (fun _ => False) (vs.set j v) (xs.set j d) [] s12 (fun a h => by simp at h) (fun a h => h.elim) (fun a h => by simp at h) (kids_frz hf (F2.set r3 j hv2)) List.nodup_nil (fun a h => by simp at h)
  exact p _ σ _ o' ev
/-- xs.clear(), xs.reverse() -/
def sLst {ρ : Type} {ts : List Ty} {t : Ty} (i : Mem ts (.list t)) (g : List (den t) → List (den t)) : Gam ts → Option (Fl (Gam ts) ρ) := fun Γ => (i.get Γ).bind fun xs => some (.nx (i.set (some (g xs)) Γ))
theorem rs_clear {t : Ty} (i : Mem ts (.list t)) {n : Nat} {mo : Md} (hm : ms[i.ix]? = some mo := by rfl) (ho : mo.own = true := by rfl) (hn : i.ix = n := by rfl) : RS K ms ts (tDrop (tBM0 K "list" rClear (tVar n))) rm ρ (sLst i fun _ => []) := fun E L Γ σ H D f o e p => by
  subst hn
  obtain ⟨xs, e1, e⟩ := bind_some e
  cases e
  obtain ⟨a, vs, g, q1, hl, hk, hnd, gd, go⟩ := o.lst i hm ho e1
  refine ⟨_, q1, .inl ⟨rfl, vs, .of hl⟩, a, vs, rfl, rfl, hl, ?_⟩
  obtain ⟨o', ev⟩ := go H [] (fun _ => False) [] [] [] (Same.refl H) (fun a h => by simp at h) (fun a h => h.elim) (fun a h => by simp at h) rfl List.nodup_nil (fun a h => by simp at h)
  exact p _ σ _ o' ev
theorem rs_reverse {t : Ty} (i : Mem ts (.list t)) {n : Nat} (hf : t.frz = true := by rfl) {mo : Md} (hm : ms[i.ix]? = some mo := by rfl) (ho : mo.own = true := by rfl) (hn : i.ix = n := by rfl) : RS K ms ts (tDrop (tBM0 K "list" rReverse (tVar n))) rm ρ (sLst i List.reverse) := fun E L Γ σ H D f o e p => by
  subst hn
  obtain ⟨xs, e1, e⟩ := bind_some e
  cases e
  obtain ⟨a, vs, g, q1, hl, hk, hnd, gd, go⟩ := o.lst i hm ho e1
  refine ⟨_, q1, .inl ⟨rfl, vs, .of hl⟩, a, vs, rfl, rfl, hl, ?_⟩
  obtain ⟨o', ev⟩ := go H [] (fun _ => False) vs.reverse xs.reverse [] (Same.refl H) (fun a h => by simp at h) (fun a h => h.elim) (fun a h => by simp at h) (kids_frz hf (F2.reverse (kids_s hk))) List.nodup_nil (fun a h => by simp at h)
  exact p _ σ _ o' ev
/-- xs.extend(e): things without cells -/
def sExt {ρ : Type} {ts : List Ty} {t : Ty} (i : Mem ts (.list t)) (F : Gam ts → Option (List (den t))) : Gam ts → Option (Fl (Gam ts) ρ) := fun Γ => (i.get Γ).bind fun xs => (F Γ).bind fun d => if lenOk (xs.length + d.length) = true then some (.nx (i.set (some (xs ++ d)) Γ)) else none
theorem rs_extend {t : Ty} (i : Mem ts (.list t)) {n : Nat} {te : TE} {F : Gam ts → Option (List (den t))} (h : RP K ms ts te .o (.list t) F) (hf : t.frz = true := by rfl) {mo : Md} (hm : ms[i.ix]? = some mo := by rfl) (ho : mo.own = true := by rfl) (hn : i.ix = n := by rfl) : RS K ms ts (tDrop (tBM K "list" rExtend (tVar n) (tCons te tNil))) rm ρ (sExt i F) := fun E L Γ σ H D f o e p => by
  subst hn
  obtain ⟨xs, e1, e⟩ := bind_some e
  obtain ⟨d, e2, e⟩ := bind_some e
  split at e
  · rename_i hz
    cases e
    obtain ⟨a, vs, g, q1, hl, hk, hnd, gd, go⟩ := o.lst i hm ho e1
    refine ⟨_, q1, .inl ⟨rfl, vs, .of hl⟩, h E L Γ σ H [] _ d o e2 fun v H1 s1 r1 => ?_⟩
    obtain ⟨fd, Lr, ⟨b, ws, gb, rfl, rfl, h1, h2⟩, _⟩ := r1
    have hv : F2 (rS K H1 (fun _ => True) t).1 vs xs := (kids_s hk).imp (rS_mono (Cov.of_same s1 fun _ h _ => h) (Stb.of_same s1) t).1
    have hw : F2 (rS K H1 (fun _ => True) t).1 ws d := kids_s h2
    refine ⟨a, b, vs, ws, rfl, rfl, s1 _ _ hl, h1, by rw [hv.length, hw.length]; exact of_decide_eq_true hz, ?_⟩
    obtain ⟨o', ev⟩ := go H1 [] (fun _ => False) (vs ++ ws) (xs ++ d) [] s1 (fun a h => by simp at h) (fun a h => h.elim) (fun a h => by simp at h) (kids_frz hf (F2.append hv hw)) List.nodup_nil (fun a h => by simp at h)
    exact p _ σ _ o' ev
  · cases e
/-- a thing without cells stays, whatever is stored -/
theorem rS_stb {t : Ty} (hf : t.frz = true) {R R' : Reg} {v : V} {d : den t} (s : Stb H H') (r : (rS K H R t).1 v d) : (rS K H' R' t).1 v d :=
  (rS_mono (R := fun _ => False) (fun a o h _ => h.elim) s t).1 v d ((rS_frz t hf).1 v d r)
/-- xs.pop(), xs.pop(0): a thing without cells; and its target -/
theorem f2_last {α β : Type} {P : α → β → Prop} {vs : List α} {ds : List β} {d : β} (h : F2 P vs ds) (e : ds.getLast? = some d) : ∃ v, vs[vs.length - 1]? = some v ∧ P v d := by
  rw [List.getLast?_eq_getElem?, ← h.length] at e
  exact h.get e
theorem f2_dropLast {α β : Type} {P : α → β → Prop} {vs : List α} {ds : List β} (h : F2 P vs ds) : F2 P vs.dropLast ds.dropLast := by
  rw [List.dropLast_eq_take, List.dropLast_eq_take, h.length]
  exact h.take _
def ePop {ts : List Ty} {t : Ty} (i : Mem ts (.list t)) : Gam ts → Option (den t × Gam ts) := fun Γ => (i.get Γ).bind fun xs => xs.getLast?.bind fun d => some (d, i.set (some xs.dropLast) Γ)
theorem re_pop {t : Ty} (i : Mem ts (.list t)) {n : Nat} {m : Em} (hf : t.frz = true := by rfl) {mo : Md} (hm : ms[i.ix]? = some mo := by rfl) (ho : mo.own = true := by rfl) (hn : i.ix = n := by rfl) : RE K ms ts (tBM0 K "list" rPop (tVar n)) .l t (ePop i) := fun E L Γ σ H Q d Γ' o e q => by
  subst hn
  obtain ⟨xs, e1, e⟩ := bind_some e
  obtain ⟨d', e2, e⟩ := bind_some e
  cases e
  obtain ⟨a, vs, g, q1, hl, hk, hnd, gd, go⟩ := o.lst i hm ho e1
  have hv := kids_s hk
  obtain ⟨y, hy, ry⟩ := f2_last hv e2
  refine ⟨_, q1, .inl ⟨rfl, vs, .of hl⟩, a, vs, y, rfl, rfl, hl, hy, ?_⟩
  obtain ⟨o', ev⟩ := go H [] (fun _ => False) vs.dropLast xs.dropLast [] (Same.refl H) (fun a h => by simp at h) (fun a h => h.elim) (fun a h => by simp at h) (kids_frz hf (f2_dropLast hv)) List.nodup_nil (fun a h => by simp at h)
  exact q y _ _ [] o' ev ⟨rfl, rS_stb hf ev.stb ry⟩
/-- a target that takes what such an expression gives -/
def sAsgE {G ρ α : Type} (F : G → Option (α × G)) (B : α → G → G) : G → Option (Fl G ρ) := fun Γ => (F Γ).bind fun d => some (.nx (B d.1 d.2))
theorem Own.noxt (o : Own K E L ms ts Γ σ H []) : Own K E L ms ts Γ σ H [] := o
theorem rs_asgE {t : Ty} {te : TE} {g : TG} {F : Gam ts → Option (den t × Gam ts)} {B : den t → Gam ts → Gam ts} (h : RE K ms ts te .l t F) (hg : RG K ms ts g false t B) : RS K ms ts (tAsg te g) rm ρ (sAsgE F B) := fun E L Γ σ H D f o e p => by
  obtain ⟨⟨d, Γ'⟩, e1, e2⟩ := bind_some e
  cases e2
  refine h E L Γ σ H _ d Γ' o e1 fun v L' H1 xt o1 ev1 r1 => ?_
  obtain ⟨rfl, r1⟩ := r1
  exact hg E L' Γ' σ H1 _ v d o1 r1 fun σ' o' e' => p L' σ' H1 o' (ev1.trans e')
theorem rs_dropE {t : Ty} {te : TE} {F : Gam ts → Option (den t × Gam ts)} (h : RE K ms ts te .l t F) : RS K ms ts (tDrop te) rm ρ (sAsgE F fun _ Γ => Γ) := fun E L Γ σ H D f o e p => by
  obtain ⟨⟨d, Γ'⟩, e1, e2⟩ := bind_some e
  cases e2
  refine h E L Γ σ H _ d Γ' o e1 fun v L' H1 xt o1 ev1 r1 => ?_
  obtain ⟨rfl, r1⟩ := r1
  exact p L' σ H1 o1 ev1

/-! ### enumerate, zip, reversed, the signs of a text -/
def enumD {α : Type} (xs : List α) : List (Int × α) := (List.range xs.length).zipWith (fun (k : Nat) x => ((k : Int), x)) xs
theorem enum_get {α : Type} {xs : List α} {i : Nat} {x : α} (h : xs[i]? = some x) : (enumD xs)[i]? = some ((i : Int), x) := by
  have hi := (List.getElem?_eq_some_iff.mp h).1
  unfold enumD
  rw [List.getElem?_zipWith, List.getElem?_range hi, h]
theorem enum_len {α : Type} (xs : List α) : (enumD xs).length = xs.length := by simp [enumD]
theorem iter_enum {R : Reg} {t : Ty} {a : Addr} {ds : List (den t)} : IterOk K R (.tup (.cons .int (.last t))) (Ite K a) (enumD ds) (fun H => (rS K H R (.list t)).1 (.ref a) ds) where
  keep := fun H H' c s h => (rS_mono c s (.list t)).1 _ _ h
  go := fun i H h hi => by
    obtain ⟨b, vs, e, h1, h2⟩ := h
    cases e
    have hl := h2.length
    rw [enum_len] at hi
    exact ⟨vs, vs[i]'(by omega), h1.seq, List.getElem?_eq_getElem _⟩
  stop := fun H h => by
    obtain ⟨b, vs, e, h1, h2⟩ := h
    cases e
    exact ⟨vs, h1.seq, by rw [enum_len]; exact Nat.le_of_eq h2.length⟩
  yld := fun i H x H' hlt h hy => by
    obtain ⟨b, vs, e, h1, h2⟩ := h
    cases e
    obtain ⟨T, y, rfl, hn, rfl, hx⟩ := hy
    obtain ⟨d, hd, r⟩ := h2.get' (hx vs h1.seq)
    have s : Same H (upd H T (.tup [.int (i : Nat), y])) := same_new hn
    exact ⟨s, _, enum_get hd, T, _, rfl, upd_same, _, _, rfl, rfl, _, rfl, (rS_mono (Cov.of_same s fun _ h _ => h) (Stb.of_same s) t).1 y d r⟩
abbrev fEnum {α : Type} (xs : List α) : Option (List (Int × α)) := some (enumD xs)
theorem ri_enum {w : Bool} {t : Ty} {te : TE} {F : Gam ts → Option (List (den t))} (h : RP K ms ts te (if w then .w else .l) (.list t) F) : RI K ms ts (iEnum K (tCons te tNil)) w (.tup (.cons .int (.last t))) (e1 fEnum F) := fun E L Γ σ H xt R ds o e q => by
  obtain ⟨d, e1, e2⟩ := bind_some e
  cases e2
  refine h E L Γ σ H xt _ d o e1 fun v H1 s1 r1 => ?_
  obtain ⟨Lr, h1, h2⟩ := reg_rep r1
  obtain ⟨a, vs, rfl, h3, h4⟩ := id h1
  exact ⟨a, vs, rfl, h3.seq, q _ H1 Lr _ s1 h2 iter_enum h1⟩
abbrev fZip {α β : Type} (xs : List α) (ys : List β) : Option (List (α × β)) := some (xs.zip ys)
theorem zip_get {α β : Type} {xs : List α} {ys : List β} {i : Nat} {x : α} {y : β} (h : xs[i]? = some x) (h' : ys[i]? = some y) : (xs.zip ys)[i]? = some (x, y) := by
  rw [List.zip, List.getElem?_zipWith, h, h']
theorem iter_zip {R : Reg} {t u : Ty} {a b : Addr} {ds : List (den t)} {es : List (den u)} : IterOk K R (.tup (.cons t (.last u))) (Itz K a b) (ds.zip es) (fun H => (rS K H R (.list t)).1 (.ref a) ds ∧ (rS K H R (.list u)).1 (.ref b) es) where
  keep := fun H H' c s h => ⟨(rS_mono c s (.list t)).1 _ _ h.1, (rS_mono c s (.list u)).1 _ _ h.2⟩
  go := fun i H h hi => by
    obtain ⟨⟨_, vs, e, h1, h2⟩, _, ws, e', h3, h4⟩ := h
    cases e
    cases e'
    have hl := h2.length
    have hl' := h4.length
    rw [List.length_zip] at hi
    exact ⟨vs, ws, vs[i]'(by omega), ws[i]'(by omega), h1.seq, h3.seq, List.getElem?_eq_getElem _, List.getElem?_eq_getElem _⟩
  stop := fun H h => by
    obtain ⟨⟨_, vs, e, h1, h2⟩, _, ws, e', h3, h4⟩ := h
    cases e
    cases e'
    have hl := h2.length
    have hl' := h4.length
    exact ⟨vs, ws, h1.seq, h3.seq, by rw [List.length_zip]; omega⟩
  yld := fun i H x H' hlt h hy => by
    obtain ⟨⟨_, vs, e, h1, h2⟩, _, ws, e', h3, h4⟩ := h
    cases e
    cases e'
    obtain ⟨T, y, z, rfl, hn, rfl, hx, hz⟩ := hy
    obtain ⟨d, hd, r⟩ := h2.get' (hx vs h1.seq)
    obtain ⟨d', hd', r'⟩ := h4.get' (hz ws h3.seq)
    have s : Same H (upd H T (.tup [y, z])) := same_new hn
    exact ⟨s, _, zip_get hd hd', T, _, rfl, upd_same, _, _, rfl, (rS_mono (Cov.of_same s fun _ h _ => h) (Stb.of_same s) t).1 y d r, _, rfl, (rS_mono (Cov.of_same s fun _ h _ => h) (Stb.of_same s) u).1 z d' r'⟩
theorem reg_on {w : Bool} {t : Ty} {v : V} {d : den t} {Lr Ls : Reg} (s : Same H H1) (r : (rS K H (reg w E fun a => L a ∨ Lr a) t).1 v d) : (rS K H1 (reg w E fun a => L a ∨ (Lr a ∨ Ls a)) t).1 v d := by
  cases w with
  | false => exact (rS_mono (Cov.of_same s fun a h _ => h.elim .inl fun z => .inr (.inl z)) (Stb.of_same s) t).1 v d r
  | true => exact (rS_mono (Cov.of_same s fun a h _ => h.elim .inl fun h => .inr (h.elim .inl fun z => .inr (.inl z))) (Stb.of_same s) t).1 v d r
theorem reg_on' {w : Bool} {t : Ty} {v : V} {d : den t} {Lr Ls : Reg} (r : (rS K H (reg w E fun a => L a ∨ Ls a) t).1 v d) : (rS K H (reg w E fun a => L a ∨ (Lr a ∨ Ls a)) t).1 v d := by
  cases w with
  | false => exact (rS_mono (Cov.of_reg fun a h _ => h.elim .inl fun z => .inr (.inr z)) (Stb.refl _) t).1 v d r
  | true => exact (rS_mono (Cov.of_reg fun a h _ => h.elim .inl fun h => .inr (h.elim .inl fun z => .inr (.inr z))) (Stb.refl _) t).1 v d r
theorem ri_zip {w : Bool} {t u : Ty} {ta tb : TE} {F : Gam ts → Option (List (den t))} {G : Gam ts → Option (List (den u))} (h : RP K ms ts ta (if w then .w else .l) (.list t) F) (h' : RP K ms ts tb (if w then .w else .l) (.list u) G) : RI K ms ts (iZip K (tCons ta (tCons tb tNil))) w (.tup (.cons t (.last u))) (e2 fZip F G) := fun E L Γ σ H xt R ds o e q => by
  obtain ⟨d, ed, e⟩ := bind_some e
  obtain ⟨d', ed', e⟩ := bind_some e
  cases e
  refine h E L Γ σ H xt _ d o ed fun v H1 s1 r1 => ?_
  refine h' E L Γ σ H1 xt _ d' (o.same s1) ed' fun v' H2 s2 r2 => ?_
  obtain ⟨Lr, h1, h2⟩ := reg_rep r1
  obtain ⟨Ls, k1, k2⟩ := reg_rep r2
  have a1 := reg_on (Ls := Ls) s2 h1
  have a2 := reg_on' (Lr := Lr) k1
  obtain ⟨a, vs, rfl, h3, h4⟩ := id a1
  obtain ⟨b, ws, rfl, h5, h6⟩ := id a2
  exact ⟨a, b, vs, ws, rfl, h3.seq, h5.seq, q _ H2 (fun a => Lr a ∨ Ls a) _ (s1.trans s2) (fun a h => h.elim (nw_on s2 h2 a) (nw_old s1 k2 a)) iter_zip ⟨a1, a2⟩⟩
/-- zip of two tuples -/
theorem iter_zipV {R : Reg} {t u : Ty} {a b : Addr} {ds : List (den t)} {es : List (den u)} : IterOk K R (.tup (.cons t (.last u))) (RZ.ItzT K a b) (ds.zip es) (fun H => (rS K H R (.vtup t)).1 (.ref a) ds ∧ (rS K H R (.vtup u)).1 (.ref b) es) where
  keep := fun H H' c s h => ⟨(rS_mono c s (.vtup t)).1 _ _ h.1, (rS_mono c s (.vtup u)).1 _ _ h.2⟩
  go := fun i H h hi => by
    obtain ⟨⟨_, vs, e, h1, h2⟩, _, ws, e', h3, h4⟩ := h
    cases e
    cases e'
    have hl := h2.length
    have hl' := h4.length
    rw [List.length_zip] at hi
    exact ⟨vs, ws, vs[i]'(by omega), ws[i]'(by omega), .of h1, .of h3, List.getElem?_eq_getElem _, List.getElem?_eq_getElem _⟩
  stop := fun H h => by
    obtain ⟨⟨_, vs, e, h1, h2⟩, _, ws, e', h3, h4⟩ := h
    cases e
    cases e'
    have hl := h2.length
    have hl' := h4.length
    exact ⟨vs, ws, .of h1, .of h3, by rw [List.length_zip]; omega⟩
  yld := fun i H x H' hlt h hy => by
    obtain ⟨⟨_, vs, e, h1, h2⟩, _, ws, e', h3, h4⟩ := h
    cases e
    cases e'
    obtain ⟨T, y, z, rfl, hn, rfl, hx, hz⟩ := hy
    obtain ⟨d, hd, r⟩ := h2.get' (hx vs (.of h1))
    obtain ⟨d', hd', r'⟩ := h4.get' (hz ws (.of h3))
    have s : Same H (upd H T (.tup [y, z])) := same_new hn
    exact ⟨s, _, zip_get hd hd', T, _, rfl, upd_same, _, _, rfl, (rS_mono (Cov.of_same s fun _ h _ => h) (Stb.of_same s) t).1 y d r, _, rfl, (rS_mono (Cov.of_same s fun _ h _ => h) (Stb.of_same s) u).1 z d' r'⟩
theorem ri_zipL {w : Bool} {t u : Ty} {ta tb : TE} {F : Gam ts → Option (List (den t))} {G : Gam ts → Option (List (den u))} (h : RP K ms ts ta (if w then .w else .l) (.list t) F) (h' : RP K ms ts tb (if w then .w else .l) (.list u) G) : RI K ms ts (RZ.iZipA K (tCons ta (tCons tb tNil))) w (.tup (.cons t (.last u))) (e2 fZip F G) := fun E L Γ σ H xt R ds o e q => by
  obtain ⟨d, ed, e⟩ := bind_some e
  obtain ⟨d', ed', e⟩ := bind_some e
  cases e
  refine h E L Γ σ H xt _ d o ed fun v H1 s1 r1 => ?_
  refine h' E L Γ σ H1 xt _ d' (o.same s1) ed' fun v' H2 s2 r2 => ?_
  obtain ⟨Lr, h1, h2⟩ := reg_rep r1
  obtain ⟨Ls, k1, k2⟩ := reg_rep r2
  have a1 := reg_on (Ls := Ls) s2 h1
  have a2 := reg_on' (Lr := Lr) k1
  obtain ⟨a, vs, rfl, h3, h4⟩ := id a1
  obtain ⟨b, ws, rfl, h5, h6⟩ := id a2
  exact ⟨a, b, vs, ws, rfl, .inl ⟨h3.seq, h5.seq, q _ H2 (fun a => Lr a ∨ Ls a) _ (s1.trans s2) (fun a h => h.elim (nw_on s2 h2 a) (nw_old s1 k2 a)) iter_zip ⟨a1, a2⟩⟩⟩
theorem ri_zipV {w : Bool} {t u : Ty} {ta tb : TE} {F : Gam ts → Option (List (den t))} {G : Gam ts → Option (List (den u))} (h : RP K ms ts ta (if w then .w else .l) (.vtup t) F) (h' : RP K ms ts tb (if w then .w else .l) (.vtup u) G) : RI K ms ts (RZ.iZipA K (tCons ta (tCons tb tNil))) w (.tup (.cons t (.last u))) (e2 fZip F G) := fun E L Γ σ H xt R ds o e q => by
  obtain ⟨d, ed, e⟩ := bind_some e
  obtain ⟨d', ed', e⟩ := bind_some e
  cases e
  refine h E L Γ σ H xt _ d o ed fun v H1 s1 r1 => ?_
  refine h' E L Γ σ H1 xt _ d' (o.same s1) ed' fun v' H2 s2 r2 => ?_
  obtain ⟨Lr, h1, h2⟩ := reg_rep r1
  obtain ⟨Ls, k1, k2⟩ := reg_rep r2
  have a1 := reg_on (Ls := Ls) s2 h1
  have a2 := reg_on' (Lr := Lr) k1
  obtain ⟨a, vs, rfl, h3, h4⟩ := id a1
  obtain ⟨b, ws, rfl, h5, h6⟩ := id a2
  exact ⟨a, b, vs, ws, rfl, .inr ⟨.of h3, .of h5, q _ H2 (fun a => Lr a ∨ Ls a) _ (s1.trans s2) (fun a h => h.elim (nw_on s2 h2 a) (nw_old s1 k2 a)) iter_zipV ⟨a1, a2⟩⟩⟩
/-- reversed of a list, of a tuple -/
theorem iter_rev {R : Reg} {t : Ty} {a : Addr} {ds : List (den t)} : IterOk K R t (Itv K a ds.length) ds.reverse (fun H => (rS K H R (.list t)).1 (.ref a) ds) where
  keep := fun H H' c s h => (rS_mono c s (.list t)).1 _ _ h
  go := fun i H h hi => by
    obtain ⟨b, vs, e, h1, h2⟩ := h
    cases e
    have hl := h2.length
    rw [List.length_reverse] at hi
    exact ⟨hi, vs, vs[ds.length - 1 - i]'(by omega), h1.seq, List.getElem?_eq_getElem _⟩
  stop := fun H h => by
    show ds.length ≤ _
    rw [List.length_reverse]
    exact Nat.le_refl _
  yld := fun i H x H' hlt h hy => by
    obtain ⟨b, vs, e, h1, h2⟩ := h
    cases e
    obtain ⟨rfl, hx⟩ := hy
    obtain ⟨d, hd, r⟩ := h2.get' (hx vs h1.seq)
    rw [List.length_reverse] at hlt
    exact ⟨Same.refl _, d, by rw [List.getElem?_reverse hlt]; exact hd, r⟩
theorem iter_revV {R : Reg} {t : Ty} {a : Addr} {ds : List (den t)} : IterOk K R t (RT.ItvT K a ds.length) ds.reverse (fun H => (rS K H R (.vtup t)).1 (.ref a) ds) where
  keep := fun H H' c s h => (rS_mono c s (.vtup t)).1 _ _ h
  go := fun i H h hi => by
    obtain ⟨b, vs, e, h1, h2⟩ := h
    cases e
    have hl := h2.length
    rw [List.length_reverse] at hi
    exact ⟨hi, vs, vs[ds.length - 1 - i]'(by omega), .of h1, List.getElem?_eq_getElem _⟩
  stop := fun H h => by
    show ds.length ≤ _
    rw [List.length_reverse]
    exact Nat.le_refl _
  yld := fun i H x H' hlt h hy => by
    obtain ⟨b, vs, e, h1, h2⟩ := h
    cases e
    obtain ⟨rfl, hx⟩ := hy
    obtain ⟨d, hd, r⟩ := h2.get' (hx vs (.of h1))
    rw [List.length_reverse] at hlt
    exact ⟨Same.refl _, d, by rw [List.getElem?_reverse hlt]; exact hd, r⟩
abbrev fRev {α : Type} (xs : List α) : Option (List α) := some xs.reverse
theorem ri_rev {w : Bool} {t : Ty} {te : TE} {F : Gam ts → Option (List (den t))} (h : RP K ms ts te (if w then .w else .l) (.list t) F) : RI K ms ts (RT.iRevA K te) w t (e1 fRev F) := fun E L Γ σ H xt R ds o e q => by
  obtain ⟨d, e1, e2⟩ := bind_some e
  cases e2
  refine h E L Γ σ H xt _ d o e1 fun v H1 s1 r1 => ?_
  obtain ⟨Lr, h1, h2⟩ := reg_rep r1
  obtain ⟨a, vs, rfl, h3, h4⟩ := id h1
  exact ⟨a, vs, rfl, .inl ⟨h3.seq, by rw [h4.length]; exact q _ H1 Lr _ s1 h2 iter_rev h1⟩⟩
theorem ri_revV {w : Bool} {t : Ty} {te : TE} {F : Gam ts → Option (List (den t))} (h : RP K ms ts te (if w then .w else .l) (.vtup t) F) : RI K ms ts (RT.iRevA K te) w t (e1 fRev F) := fun E L Γ σ H xt R ds o e q => by
  obtain ⟨d, e1, e2⟩ := bind_some e
  cases e2
  refine h E L Γ σ H xt _ d o e1 fun v H1 s1 r1 => ?_
  obtain ⟨Lr, h1, h2⟩ := reg_rep r1
  obtain ⟨a, vs, rfl, h3, h4⟩ := id h1
  exact ⟨a, vs, rfl, .inr ⟨.of h3, by rw [h4.length]; exact q _ H1 Lr _ s1 h2 iter_revV h1⟩⟩
/-- the signs of a text -/
def fSigns (x : Str) : Option (List Str) := some (x.cps.toList.map fun c => (⟨#[c]⟩ : Str))
theorem ri_str {w : Bool} {m : Em} {te : TE} {F : Gam ts → Option Str} (h : RP K ms ts te m .str F) : RI K ms ts (iStr te) w .str (e1 fSigns F) := fun E L Γ σ H xt R ds o e q => by
  obtain ⟨x, e1, e2⟩ := bind_some e
  cases e2
  refine h E L Γ σ H xt _ x o e1 fun v H1 s1 r1 => ?_
  obtain ⟨rfl, hok⟩ := r1.b
  refine ⟨x, rfl, q _ H1 (fun _ => False) (fun _ => True) s1 (fun a h => h.elim) ⟨fun _ _ _ _ h => h, fun i H _ hi => ?_, fun H _ => ?_, fun i H v H' hlt _ hy => ?_⟩ True.intro⟩
  · show i < x.cps.size
    simpa using hi
  · show x.cps.size ≤ _
    simp
  · obtain ⟨rfl, c, hc, rfl⟩ := hy
    refine ⟨Same.refl _, ⟨#[c]⟩, ?_, rfl, ?_⟩
    · rw [List.getElem?_map, Array.getElem?_toList, hc]
      rfl
    · unfold PyData.strOk at hok ⊢
      rw [Array.all_eq_true'] at hok
      simpa using hok c (Array.mem_of_getElem? hc)
end
end VV

/-! VMore6: walks over owned lists that stay meanwhile. -/
namespace VV
open PySem L2
open PyProof.Rows hiding St

section
variable {K : PySem.W.Frag} {E : Ent} {ms ms' : List Md} {ts : List Ty} {L L1 : Reg} {Γ Γ1 : Gam ts} {σ σ1 : St} {H H' H0 H1 H2 : Hp} {xt : List Addr} {rm : Rm} {ρ : Ty}
/-! ### owned names that are kept for the while -/
def okKeep : List Md → List Md → Bool
  | [], [] => true
  | m :: ms, m' :: ms' => (m == m' || (m == .o && m' == .k)) && okKeep ms ms'
  | _, _ => false
theorem rG_keep {S0 : Reg} : ∀ {ms ms' : List Md} {ts : List Ty} {Γ : Gam ts} {σ : St} {fp : List Addr}, okKeep ms ms' = true → (rG K H S0 L ms ts Γ σ fp ↔ rG K H S0 L ms' ts Γ σ fp)
  | [], [], [], _, _, _, _ => Iff.rfl
  | [], [], _ :: _, _, _, _, _ => Iff.rfl
  | m :: ms, m' :: ms', [], _, _, _, _ => Iff.rfl
  | m :: ms, m' :: ms', t :: ts, Γ, [], _, _ => Iff.rfl
  | m :: ms, m' :: ms', t :: ts, Γ, s :: σ, fp, hk => by
    simp only [okKeep, Bool.and_eq_true, Bool.or_eq_true, beq_iff_eq] at hk
    have ih : ∀ fp, rG K H S0 L ms ts Γ.2 σ fp ↔ rG K H S0 L ms' ts Γ.2 σ fp := fun fp => rG_keep hk.2
    have hs : ∀ f, slot K H S0 L m t Γ.1 s f ↔ slot K H S0 L m' t Γ.1 s f := fun f => by
      rcases hk.1 with h | ⟨h, h'⟩
      · rw [h]
      · subst h
        subst h'
        exact Iff.rfl
    constructor
    · rintro ⟨f1, f2, e, h1, h2⟩
      exact ⟨f1, f2, e, (hs f1).mp h1, (ih f2).mp h2⟩
    · rintro ⟨f1, f2, e, h1, h2⟩
      exact ⟨f1, f2, e, (hs f1).mpr h1, (ih f2).mpr h2⟩
  | [], _ :: _, _, _, _, _, hk => by simp [okKeep] at hk
  | _ :: _, [], _, _, _, _, hk => by simp [okKeep] at hk
theorem own_keep (hk : okKeep ms ms' = true) : Own K E L ms ts Γ σ H xt ↔ Own K E L ms' ts Γ σ H xt := by
  constructor
  · intro o
    obtain ⟨fp, g, r⟩ := o.ex
    exact ⟨⟨fp, (rG_keep hk).mp g, r⟩, o.fr, o.lr, o.s0, o.iod⟩
  · intro o
    obtain ⟨fp, g, r⟩ := o.ex
    exact ⟨⟨fp, (rG_keep hk).mpr g, r⟩, o.fr, o.lr, o.s0, o.iod⟩
theorem keep_get : ∀ {ms ms' : List Md} {n : Nat} {m : Md}, okKeep ms ms' = true → ms[n]? = some m → m.fixd = true → ms'[n]? = some m
  | m :: ms, m' :: ms', 0, x, hk, h, hh => by
    simp only [okKeep, Bool.and_eq_true, Bool.or_eq_true, beq_iff_eq] at hk
    have e : m = x := by simpa using h
    subst e
    rcases hk.1 with h | ⟨h, h'⟩
    · rw [h]; rfl
    · subst h
      cases hh
  | m :: ms, m' :: ms', n + 1, x, hk, h, hh => by
    simp only [okKeep, Bool.and_eq_true] at hk
    simpa using keep_get (n := n) hk.2 (by simpa using h) hh
  | [], _, _, _, _, h, _ => by simp at h
  | _ :: _, [], _, _, hk, _, _ => by simp [okKeep] at hk
theorem Ev.keeps {L' : Reg} {Γ' : Gam ts} {σ' : St} (hk : okKeep ms ms' = true) (e : Ev ms' ts L Γ σ H L' Γ' σ' H') : Ev ms ts L Γ σ H L' Γ' σ' H' := ⟨e.sub, e.cell, e.stb, fun t i m h hh => e.keep.1 t i m (keep_get hk h (hard_fixd hh)) hh, fun n m h hh => e.keep.2 n m (keep_get hk h hh) hh⟩
theorem rs_keep {st : TS} {F : Gam ts → Option (Fl (Gam ts) (den ρ))} (ms' : List Md) (h : RS K ms' ts st rm ρ F) (hk : okKeep ms ms' = true := by rfl) : RS K ms ts st rm ρ F := fun E L Γ σ H D f o e p => by
  refine h E L Γ σ H D f ((own_keep hk).mp o) e ?_
  cases f with
  | nx Γ' => exact fun L' σ' H' o' e' => p L' σ' H' ((own_keep hk).mpr o') (e'.keeps hk)
  | bk Γ' => exact fun L' σ' H' o' e' => p L' σ' H' ((own_keep hk).mpr o') (e'.keeps hk)
  | ct Γ' => exact fun L' σ' H' o' e' => p L' σ' H' ((own_keep hk).mpr o') (e'.keeps hk)
  | rt d Γ' => exact fun L' σ' H' v xt o' e' => p L' σ' H' v xt ((own_keep hk).mpr o') (e'.keeps hk)
/-- what a for walks, by what the names hold at each turn -/
structure IterG (K : PySem.W.Frag) (E : Ent) (ms : List Md) (ts : List Ty) (L : Reg) (Γ : Gam ts) (σ : St) (H1 : Hp) (R : Reg) (t : Ty) (J : It) (ds : List (den t)) (Z : Hp → Prop) : Prop where
  keep : ∀ L2 Γ2 σ2 H2, Own K E L2 ms ts Γ2 σ2 H2 [] → Ev ms ts L Γ σ H1 L2 Γ2 σ2 H2 → Z H1 → Z H2
  go : ∀ i H, Z H → i < ds.length → J.go i H
  stop : ∀ H, Z H → J.stop ds.length H
  yld : ∀ i H x H', i < ds.length → Z H → J.yld i H x H' → Same H H' ∧ ∃ d, ds[i]? = some d ∧ (rS K H' R t).1 x d
def RIG (K : PySem.W.Frag) (ms : List Md) (ts : List Ty) (wi : TI) (w : Bool) (t : Ty) (F : Gam ts → Option (List (den t))) : Prop :=
  ∀ (E : Ent) (L : Reg) (Γ : Gam ts) (σ : St) (H : Hp) (R : It → Hp → Prop) (ds : List (den t)), Own K E L ms ts Γ σ H [] → F Γ = some ds →
    (∀ J H' Lr Z, Same H H' → Nw H H' Lr → IterG K E ms ts (fun a => L a ∨ Lr a) Γ σ H' (reg w E fun a => L a ∨ Lr a) t J ds Z → Z H' → R J H') → wi σ H R
theorem Own.nw {Lr : Reg} (o : Own K E L ms ts Γ σ H []) (s : Same H H1) (n : Nw H H1 Lr) : Own K E (fun a => L a ∨ Lr a) ms ts Γ σ H1 [] := o.temp s List.nodup_nil (fun a ha => by simp at ha) n fun a ha => by simp at ha
/-- an owned list, or what is made of it by the walk: Z holds whenever the name stands for the same list -/
theorem rig_name {w : Bool} {t u : Ty} (i : Mem ts (.list t)) {J : Addr → Nat → It} {f : List (den t) → List (den u)} (hm : ms[i.ix]? = some .k := by rfl)
    (it : ∀ (R : Reg) (a : Addr) (ds : List (den t)), IterOk K R u (J a ds.length) (f ds) (fun H => (rS K H R (.list t)).1 (.ref a) ds)) (hf : u.frz = true)
    {σ : St} {E : Ent} {L : Reg} {Γ : Gam ts} {H : Hp} {R : It → Hp → Prop} {ds : List (den t)} (o : Own K E L ms ts Γ σ H []) (e : i.get Γ = some ds)
    (q : ∀ J H' Lr Z, Same H H' → Nw H H' Lr → IterG K E ms ts (fun a => L a ∨ Lr a) Γ σ H' (reg w E fun a => L a ∨ Lr a) u J (f ds) Z → Z H' → R J H') :
    ∃ a vs, σ[i.ix]? = some (some (.ref a)) ∧ SqL K H a vs ∧ vs.length = ds.length ∧ R (J a ds.length) H := by
  obtain ⟨v, fp, h1, h2, _⟩ := o.look i hm e
  have h3 := repM_b h2
  obtain ⟨a, vs, rfl, h4, h5⟩ := id h3
  have I := it (fun _ => True) a ds
  refine ⟨a, vs, h1, h4.seq, h5.length, q _ H (fun _ => False) (fun H => (rS K H (fun _ => True) (.list t)).1 (.ref a) ds) (Same.refl H) (fun a h => h.elim) ⟨fun L2 Γ2 σ2 H2 o2 ev _ => ?_, I.go, I.stop, fun k H x H' hlt z hy => ?_⟩ h3⟩
  · have k1 := ev.keep.1 _ i .k hm rfl
    have k2 := ev.keep.2 _ .k hm rfl
    obtain ⟨v', f', h6, h7, _⟩ := o2.look i hm (k1.trans e)
    rw [k2, h1] at h6
    cases h6
    exact repM_b h7
  · obtain ⟨s, d, hd, r⟩ := I.yld k H x H' hlt z hy
    exact ⟨s, d, hd, (rS_frz u hf).1 x d r⟩
theorem rig_list {w : Bool} {t : Ty} (i : Mem ts (.list t)) {n : Nat} (hf : t.frz = true := by rfl) (hm : ms[i.ix]? = some .k := by rfl) (hn : i.ix = n := by rfl) : RIG K ms ts (iList K (tVar n)) w t (eV i) := fun E L Γ σ H R ds o e q => by
  subst hn
  obtain ⟨a, vs, h1, h2, h3, h4⟩ := rig_name (J := fun a _ => Itl K a) (f := id) i hm (fun R a ds => iter_list) hf o e q
  exact ⟨_, h1, a, rfl, ⟨vs, h2⟩, h4⟩
theorem rig_enum {w : Bool} {t : Ty} (i : Mem ts (.list t)) {n : Nat} (hf : t.frz = true := by rfl) (hm : ms[i.ix]? = some .k := by rfl) (hn : i.ix = n := by rfl) : RIG K ms ts (iEnum K (tCons (tVar n) tNil)) w (.tup (.cons .int (.last t))) (e1 fEnum (eV i)) := fun E L Γ σ H R ds o e q => by
  subst hn
  obtain ⟨d, e1, e2⟩ := bind_some e
  cases e2
  obtain ⟨a, vs, h1, h2, h3, h4⟩ := rig_name (J := fun a _ => Ite K a) (f := enumD) (u := .tup (.cons .int (.last t))) i hm (fun R a ds => iter_enum) hf o e1 q
  exact ⟨_, h1, a, vs, rfl, h2, h4⟩
theorem rig_rev {w : Bool} {t : Ty} (i : Mem ts (.list t)) {n : Nat} (hf : t.frz = true := by rfl) (hm : ms[i.ix]? = some .k := by rfl) (hn : i.ix = n := by rfl) : RIG K ms ts (RT.iRevA K (tVar n)) w t (e1 fRev (eV i)) := fun E L Γ σ H R ds o e q => by
  subst hn
  obtain ⟨d, e1, e2⟩ := bind_some e
  cases e2
  obtain ⟨a, vs, h1, h2, h3, h4⟩ := rig_name (J := fun a n => Itv K a n) (f := List.reverse) i hm (fun R a ds => iter_rev) hf o e1 q
  exact ⟨_, h1, a, vs, rfl, .inl ⟨h2, by rw [h3]; exact h4⟩⟩
theorem rs_forG {w : Bool} {t : Ty} {wi : TI} {g : TG} {tb : TS} {F : Gam ts → Option (List (den t))} {B : den t → Gam ts → Gam ts} {body : Gam ts → Option (Fl (Gam ts) (den ρ))} (bs : List Bool) (hi : RIG K ms ts wi w t F) (hg : RG K ms ts g w t B) (hb : RS K ms ts tb rm ρ body)
    (hm : okMask ms bs = true := by rfl) : RS K ms ts (tFor wi g tb) rm ρ (sFor F B (Gam.mask bs) body) := fun E L Γ σ H D f o e p => by
  obtain ⟨ds, e1, e2⟩ := bind_some e
  refine hi E L Γ σ H _ ds o e1 fun J H1 Lr Z s1 nw it z1 => ?_
  have o1 : Own K E (fun a => L a ∨ Lr a) ms ts Γ σ H1 [] := o.nw s1 nw
  have ev1 : Ev ms ts L Γ σ H (fun a => L a ∨ Lr a) Γ σ H1 := ⟨fun a h => .inl h, fun a q _ h => s1 _ _ h, Stb.of_same s1, KeepF.refl⟩
  have p1 := p.later ev1
  have o1m := o1.mask bs
  refine ⟨fun i m σ' H' => m = ds.length - i ∧ i ≤ ds.length ∧ ∃ L' Γ', Own K E L' ms ts Γ' σ' H' [] ∧ Ev ms ts (fun a => L a ∨ Lr a) Γ σ H1 L' Γ' σ' H' ∧ forL B (Gam.mask bs) body (ds.drop i) Γ' = some f,
    ⟨ds.length, by simp, Nat.zero_le _, _, Gam.mask bs Γ, o1m, (Ev.same (Same.refl H1)).mask hm, by simpa using e2⟩, ?_⟩
  rintro i m σ2 H2 ⟨rfl, hle, L2, Γ2, o2, ev2, e3⟩
  have z2 : Z H2 := it.keep L2 Γ2 σ2 H2 o2 ev2 z1
  by_cases hlt : i < ds.length
  · refine .inr ⟨it.go i H2 z2 hlt, fun σ' H' => ∃ L' Γ', Own K E L' ms ts Γ' σ' H' [] ∧ Ev ms ts (fun a => L a ∨ Lr a) Γ σ H1 L' Γ' σ' H' ∧ forL B (Gam.mask bs) body (ds.drop (i + 1)) Γ' = some f, fun σ' H' h => ⟨ds.length - (i + 1), by omega, rfl, hlt, h⟩, fun x H3 hy => ?_⟩
    obtain ⟨s3, d, hd, rd⟩ := it.yld i H2 x H3 hlt z2 hy
    have ed : ds.drop i = d :: ds.drop (i + 1) := by
      have hd' : ds[i] = d := by
        have := List.getElem?_eq_getElem hlt
        rw [this] at hd
        exact Option.some.inj hd
      rw [List.drop_eq_getElem_cons hlt, hd']
    rw [ed] at e3
    obtain ⟨r, e4, e5⟩ := bind_some (show (body (B d Γ2)).bind _ = some f from e3)
    have o3 := o2.same s3
    have ev3 : Ev ms ts (fun a => L a ∨ Lr a) Γ σ H1 L2 Γ2 σ2 H3 := ev2.trans (Ev.same s3)
    refine hg E L2 Γ2 σ2 H3 _ x d o3 ((rS_mono (Cov.of_reg fun a h _ => (by
      cases w with
      | false => exact ev3.sub a h
      | true => exact h.elim .inl fun z => .inr (ev3.sub a z) : reg w E L2 a)) (Stb.refl H3) t).1 x d rd) fun σ4 o4 ev4 => ?_
    refine hb E L2 (B d Γ2) σ4 H3 _ r o4 e4 ?_
    have evb := ev3.trans ev4
    cases r with
    | nx Γ5 => exact fun L5 σ5 H5 o5 ev5 => ⟨L5, Gam.mask bs Γ5, o5.mask bs, (evb.trans ev5).mask hm, e5⟩
    | ct Γ5 => exact fun L5 σ5 H5 o5 ev5 => ⟨L5, Gam.mask bs Γ5, o5.mask bs, (evb.trans ev5).mask hm, e5⟩
    | bk Γ5 =>
      have e6 : Fl.nx (Gam.mask bs Γ5) = f := Option.some.inj e5
      subst e6
      exact fun L5 σ5 H5 o5 ev5 => p1 L5 σ5 H5 (o5.mask bs) ((evb.trans ev5).mask hm)
    | rt d5 Γ5 =>
      have e6 : Fl.rt d5 Γ5 = f := Option.some.inj e5
      subst e6
      exact fun L5 σ5 H5 v5 xt5 o5 ev5 r5 => p1 L5 σ5 H5 v5 xt5 o5 (evb.trans ev5) r5
  · have hi : i = ds.length := by omega
    subst hi
    rw [List.drop_length] at e3
    have e4 : Fl.nx Γ2 = f := Option.some.inj e3
    subst e4
    exact .inl ⟨it.stop H2 z2, p1 L2 σ2 H2 o2 ev2⟩
end
end VV

/-! VMore7: what is never reached; shifts; chains; slices of texts; dicts. -/
namespace VV
open PySem L2
open PyProof.Rows hiding St

section
variable {K : PySem.W.Frag} {E : Ent} {ms ms' : List Md} {ts : List Ty} {L L1 : Reg} {Γ Γ1 : Gam ts} {σ σ1 : St} {H H' H0 H1 H2 : Hp} {xt : List Addr} {rm : Rm} {ρ : Ty}
/-! ### never reached: the mirror has no answer there -/
def tNever : TS := fun _ _ _ => False
theorem ps_never {X : Cx} {st : Stmt} : PS X st tNever := ⟨fun _ _ _ _ _ _ h => h.elim⟩
def sNever {G ρ : Type} : G → Option (Fl G ρ) := fun _ => none
theorem rs_never : RS K ms ts tNever rm ρ sNever := fun E L Γ σ H D f o e p => by cases e

/-! ### with the object named -/
theorem pg_tupK {X : Cx} (K : PySem.W.Frag) (hK : X.K = K) {es : List Expr} {k : Nat} {pos : Pos} {t : TGs} {n : Nat} (hc : X.calm = true) (h : PGs X es t)
    (hn : (assignEach es X.env).length = n := by rfl) (hst : (assignEach es X.env).findIdx? (·.1) = none := by rfl) : PG X (.Tuple es k pos) (gTup K n t) := by
  subst hK
  exact pg_tup hc h hn hst
theorem pi_listK {X : Cx} (K : PySem.W.Frag) (hK : X.K = K) {tg l : Expr} {tl : TE} (hl : PE X l tl) : PI X tg l (iList K tl) := by
  subst hK
  exact pi_list hl
theorem pi_tupK {X : Cx} (K : PySem.W.Frag) (hK : X.K = K) {tg l : Expr} {tl : TE} (hl : PE X l tl) : PI X tg l (iTup K tl) := by
  subst hK
  exact pi_tup hl

/-! ### shifts, bits, chains -/
abbrev fShr (a b : Int) : Option Int := okIf (decide (0 ≤ b)) (a / 2 ^ b.toNat)
abbrev fAnd (a b : Int) : Option Int := some (Builtin.bitAnd a b)
theorem v_shr {m : Em} : V2 K (rI (fun _ j => 0 ≤ j) fun i j => .int (i / 2 ^ j.toNat)) m .int .int .int fShr := v2_I (k := fun _ b => decide (0 ≤ b)) fun i j h => of_decide_eq_true h
theorem v_and {m : Em} : V2 K (rI0 fun i j => .int (Builtin.bitAnd i j)) m .int .int .int fAnd := v2_I0
def eChain {G α β γ : Type} (f : α → β → Option Bool) (g : β → γ → Option Bool) (Fa : G → Option α) (Fb : G → Option β) (Fc : G → Option γ) : G → Option Bool := fun Γ => (Fa Γ).bind fun a => (Fb Γ).bind fun b => (f a b).bind fun k => if k = true then (Fc Γ).bind fun c => g b c else some false

/-! ### slices of texts -/
def fCutS (x : Str) (lo hi : Option Int) : Option Str := okIf (lenOk x.length) (cutS x lo hi)
theorem rp_sliceS {m m' : Em} {te : TE} {tl th : TO} {F : Gam ts → Option Str} {Fl Fh : Gam ts → Option (Option Int)} (h : RP K ms ts te m .str F) (hl : RO K ms ts tl Fl) (hh : RO K ms ts th Fh) :
    RP K ms ts (tSl rSlS te tl th) m' .str (e3 fCutS F Fl Fh) := fun E L Γ σ H xt Q d o e q => by
  obtain ⟨a, ea, e⟩ := bind_some e
  obtain ⟨lo, el, e⟩ := bind_some e
  obtain ⟨hi, eh, e⟩ := bind_some e
  dsimp only [fCutS, okIf] at e
  split at e
  · rename_i hz
    cases e
    refine h E L Γ σ H xt _ a o ea fun v H1 s1 r1 => ?_
    refine hl E L Γ σ H1 xt _ lo (o.same s1) el fun H2 s2 => ?_
    refine hh E L Γ σ H2 xt _ hi ((o.same s1).same s2) eh fun H3 s3 => ?_
    obtain ⟨rfl, hok⟩ := r1.b
    refine ⟨a, rfl, of_decide_eq_true hz, q _ _ (s1.trans (s2.trans s3)) (rep_atom rfl ⟨rfl, ?_⟩)⟩
    unfold PyData.strOk at hok ⊢
    unfold cutS
    rw [Array.all_eq_true'] at hok ⊢
    intro x hx
    refine hok x ?_
    have hx : x ∈ ((a.cps.toList.drop (HT.sIx a.length 0 lo)).take (HT.sIx a.length a.length hi - HT.sIx a.length 0 lo)) := by simpa using hx
    simpa using List.mem_of_mem_drop (List.mem_of_mem_take hx)
  · cases e

/-! ### dicts -/
def getBy {α β κ : Type} [DecidableEq κ] (key : α → Option κ) (d : List (α × β)) (x : α) : Option β := (d.find? fun q => decide (key q.1 = key x)).map (·.2)
def putBy {α β κ : Type} [DecidableEq κ] (key : α → Option κ) (d : List (α × β)) (x : α) (y : β) : List (α × β) := if (d.any fun q => decide (key q.1 = key x)) = true then d.map (fun q => if key q.1 = key x then (q.1, y) else q) else d ++ [(x, y)]
/-- keys that a dict may have here -/
def okRow : Ty → Bool
  | .last a => a == .int || a == .str
  | .cons a b => (a == .int || a == .str) && okRow b
  | _ => false
def okKey : Ty → Bool
  | .int => true
  | .str => true
  | .tup b => okRow b
  | .vtup t => t == .int || t == .str
  | _ => false
theorem key_atom {R : Reg} {a : Ty} (h : (a == .int || a == .str) = true) {v : V} {d : den a} (r : (rS K H R a).1 v d) : ∃ k, v = kV k ∧ keyS a d = some k := by
  cases a <;> first | cases h | skip
  · exact ⟨.inl d, r, rfl⟩
  · exact ⟨.inr d, r.1, rfl⟩
theorem key_row {R : Reg} : ∀ {b : Ty}, okRow b = true → ∀ {vs : List V} {d : den b}, (rS K H R b).2 vs d → ∃ ks : List Key, vs = ks.map kV ∧ keyRow b d = some ks
  | .last a, h, vs, d, r => by
    obtain ⟨v, rfl, r⟩ := r
    obtain ⟨k, e1, e2⟩ := key_atom (a := a) h r
    exact ⟨[k], by rw [e1]; rfl, by unfold keyRow; rw [e2]; rfl⟩
  | .cons a b, h, vs, d, r => by
    simp only [okRow, Bool.and_eq_true] at h
    obtain ⟨v, w, rfl, r1, r2⟩ := r
    obtain ⟨k, e1, e2⟩ := key_atom (a := a) h.1 r1
    obtain ⟨ks, e3, e4⟩ := key_row h.2 r2
    exact ⟨k :: ks, by rw [e1, e3]; rfl, by unfold keyRow; rw [e2, e4]; rfl⟩
  | .non, h, _, _, _ => by cases h
  | .bool, h, _, _, _ => by cases h
  | .int, h, _, _, _ => by cases h
  | .str, h, _, _, _ => by cases h
  | .any, h, _, _, _ => by cases h
  | .opt _, h, _, _, _ => by cases h
  | .vtup _, h, _, _, _ => by cases h
  | .list _, h, _, _, _ => by cases h
  | .dict _ _, h, _, _, _ => by cases h
  | .own _, h, _, _, _ => by cases h
  | .hl _, h, _, _, _ => by cases h
  | .tup _, h, _, _, _ => by cases h
theorem key_vs {R : Reg} {t : Ty} (h : (t == .int || t == .str) = true) : ∀ {vs : List V} {ds : List (den t)}, F2 (rS K H R t).1 vs ds → ∃ ks : List Key, vs = ks.map kV ∧ keyVs t ds = some ks
  | [], [], _ => ⟨[], rfl, rfl⟩
  | v :: vs, d :: ds, r => by
    obtain ⟨k, e1, e2⟩ := key_atom (a := t) h r.1
    obtain ⟨ks, e3, e4⟩ := key_vs h r.2
    exact ⟨k :: ks, by rw [e1, e3]; rfl, by unfold keyVs; rw [e2, e4]; rfl⟩
  | [], _ :: _, r => r.elim
  | _ :: _, [], r => r.elim
theorem key_of {R : Reg} {k : Ty} (h : okKey k = true) {v : V} {d : den k} (r : (rS K H R k).1 v d) : (k.tk = false ∧ ∃ x, v = kV x ∧ keyS k d = some x) ∨ (k.tk = true ∧ ∃ ks b, v = .ref b ∧ H b = some (.tup (ks.map kV)) ∧ keyT k d = some ks) := by
  cases k <;> first | cases h | skip
  · exact .inl ⟨rfl, key_atom (a := .int) rfl r⟩
  · exact .inl ⟨rfl, key_atom (a := .str) rfl r⟩
  · obtain ⟨a, vs, rfl, h1, h2⟩ := r
    obtain ⟨ks, rfl, e⟩ := key_vs (by exact h) h2
    exact .inr ⟨rfl, ks, a, rfl, h1, e⟩
  · obtain ⟨a, vs, rfl, h1, h2⟩ := r
    obtain ⟨ks, rfl, e⟩ := key_row (by exact h) h2
    exact .inr ⟨rfl, ks, a, rfl, h1, e⟩
theorem val_of {α β κ : Type} [DecidableEq κ] {key : α → Option κ} {P : V → β → Prop} {x : α} {k : κ} (hx : key x = some k) : ∀ {kvs : List (κ × V)} {d : List (α × β)}, F2 (fun p q => key q.1 = some p.1 ∧ P p.2 q.2) kvs d →
    (getBy key d x = none ∧ valV kvs k = none) ∨ ∃ v y, getBy key d x = some y ∧ valV kvs k = some v ∧ P v y
  | [], [], _ => .inl ⟨rfl, rfl⟩
  | p :: kvs, q :: d, h => by
    obtain ⟨⟨h1, h2⟩, h3⟩ := h
    by_cases e : p.1 = k
    · refine .inr ⟨p.2, q.2, ?_, valV_pos e, h2⟩
      unfold getBy
      rw [List.find?_cons_of_pos (by rw [h1, hx, e]; exact decide_eq_true rfl)]
      rfl
    · have ih := val_of hx h3
      rw [valV_neg e]
      have : getBy key (q :: d) x = getBy key d x := by
        unfold getBy
        rw [List.find?_cons_of_neg (by rw [h1, hx, decide_eq_true_eq]; exact fun z => e (Option.some.inj z))]
      rw [this]
      exact ih
  | [], _ :: _, h => h.elim
  | _ :: _, [], h => h.elim
def fGetK {k : Ty} {β : Type} (d : List (den k × β)) (x : den k) : Option β := if k.tk = true then getBy (keyT k) d x else getBy (keyS k) d x
abbrev fInK {k : Ty} {β : Type} (x : den k) (d : List (den k × β)) : Option Bool := some (fGetK d x).isSome
abbrev fNotInK {k : Ty} {β : Type} (x : den k) (d : List (den k × β)) : Option Bool := some (!(fGetK d x).isSome)
theorem rd_of_strip {a : Addr} {kvs : List (Key × V)} (h : stripD (H a) = some (.dK kvs)) : Rd H a (.dK kvs) := (strip_dK h).elim .inl .inr
theorem rd_of_stripT {a : Addr} {kvs : List (List Key × V)} (h : stripD (H a) = some (.dT kvs)) : Rd H a (.dT kvs) := (strip_dT h).elim .inl .inr
/-- what d[x] finds -/
theorem dget_of {k t : Ty} (hk : okKey k = true) {R R' : Reg} {a : Addr} {d : List (den k × den t)} {y : V} {x : den k} (h : (rS K H R (.dict k t)).1 (.ref a) d) (h' : (rS K H R' k).1 y x) :
    (fGetK d x = none ∧ DGet H a y none) ∨ ∃ v z, fGetK d x = some z ∧ DGet H a y (some v) ∧ (rS K H R t).1 v z := by
  obtain ⟨b, eb, h⟩ := h
  cases eb
  unfold fGetK
  rcases key_of hk h' with ⟨k1, key, rfl, ek⟩ | ⟨k1, ks, c, rfl, hc, ek⟩
  · rcases h with ⟨_, kvs, h1, h2⟩ | ⟨k2, _⟩
    · rw [k1, if_neg Bool.false_ne_true]
      rcases val_of ek h2 with ⟨g1, g2⟩ | ⟨v, z, g1, g2, g3⟩
      · exact .inl ⟨g1, .inl ⟨kvs, key, rd_of_strip h1.2, rfl, g2.symm⟩⟩
      · exact .inr ⟨v, z, g1, .inl ⟨kvs, key, rd_of_strip h1.2, rfl, g2.symm⟩, g3⟩
    · rw [k1] at k2
      cases k2
  · rcases h with ⟨k2, _⟩ | ⟨_, kvs, h1, h2⟩
    · rw [k1] at k2
      cases k2
    · rw [if_pos k1]
      rcases val_of ek h2 with ⟨g1, g2⟩ | ⟨v, z, g1, g2, g3⟩
      · exact .inl ⟨g1, .inr ⟨kvs, ks, c, rd_of_stripT h1.2, rfl, hc, g2.symm⟩⟩
      · exact .inr ⟨v, z, g1, .inr ⟨kvs, ks, c, rd_of_stripT h1.2, rfl, hc, g2.symm⟩, g3⟩
theorem isD_of {k t : Ty} {R : Reg} {a : Addr} {d : List (den k × den t)} (h : (rS K H R (.dict k t)).1 (.ref a) d) : IsD H a := by
  obtain ⟨b, eb, h⟩ := h
  cases eb
  rcases h with ⟨_, kvs, h1, _⟩ | ⟨_, kvs, h1, _⟩
  · exact .inl ⟨kvs, rd_of_strip h1.2⟩
  · exact .inr ⟨kvs, rd_of_stripT h1.2⟩
theorem dict_ref {k t : Ty} {R : Reg} {v : V} {d : List (den k × den t)} (h : (rS K H R (.dict k t)).1 v d) : ∃ a, v = .ref a := by
  obtain ⟨b, eb, _⟩ := h
  exact ⟨b, eb⟩
theorem rs_on {t : Ty} {v : V} {d : den t} (s : Same H H1) (r : (rS K H (fun _ => True) t).1 v d) : (rS K H1 (fun _ => True) t).1 v d := (rS_mono (Cov.of_same s fun _ h _ => h) (Stb.of_same s) t).1 v d r
theorem rp_dget {k t : Ty} {m1 m2 : Em} {td ty : TE} {F : Gam ts → Option (List (den k × den t))} {G : Gam ts → Option (den k)} (h : RP K ms ts td m1 (.dict k t) F) (h' : RP K ms ts ty m2 k G) (hk : okKey k = true := by rfl) : RP K ms ts (tDGet td ty) .b t (e2 (fGetK (k := k)) F G) := fun E L Γ σ H xt Q d o e q => by
  obtain ⟨a, ea, e⟩ := bind_some e
  obtain ⟨x, ex, e⟩ := bind_some e
  refine h E L Γ σ H xt _ a o ea fun v H1 s1 r1 => h' E L Γ σ H1 xt _ x (o.same s1) ex fun w H2 s2 r2 => ?_
  obtain ⟨p, rfl⟩ := dict_ref (k := k) (t := t) r1.b
  rcases dget_of hk (rs_on (t := .dict k t) s2 r1.b) r2.b with ⟨g1, _⟩ | ⟨v, z, g1, g2, g3⟩
  · rw [g1] at e
    cases e
  · rw [g1] at e
    cases e
    exact ⟨p, v, rfl, g2, q v H2 (s1.trans s2) g3⟩
theorem rp_din {k t : Ty} {m m1 m2 : Em} {td ty : TE} {F : Gam ts → Option (List (den k × den t))} {G : Gam ts → Option (den k)} (h' : RP K ms ts ty m2 k G) (h : RP K ms ts td m1 (.dict k t) F) (hk : okKey k = true := by rfl) : RP K ms ts (tDIn ty td) m .bool (e2 (fInK (k := k)) G F) := fun E L Γ σ H xt Q d o e q => by
  obtain ⟨x, ex, e⟩ := bind_some e
  obtain ⟨a, ea, e⟩ := bind_some e
  refine h' E L Γ σ H xt _ x o ex fun w H1 s1 r1 => h E L Γ σ H1 xt _ a (o.same s1) ea fun v H2 s2 r2 => ?_
  obtain ⟨p, rfl⟩ := dict_ref (k := k) (t := t) r2.b
  rcases dget_of hk r2.b (rs_on s2 r1.b) with ⟨g1, g2⟩ | ⟨v, z, g1, g2, g3⟩
  · rw [fInK, g1] at e
    cases e
    exact ⟨p, none, rfl, g2, q _ H2 (s1.trans s2) (rep_atom rfl rfl)⟩
  · rw [fInK, g1] at e
    cases e
    exact ⟨p, some v, rfl, g2, q _ H2 (s1.trans s2) (rep_atom rfl rfl)⟩
theorem rp_dnotin {k t : Ty} {m m1 m2 : Em} {td ty : TE} {F : Gam ts → Option (List (den k × den t))} {G : Gam ts → Option (den k)} (h' : RP K ms ts ty m2 k G) (h : RP K ms ts td m1 (.dict k t) F) (hk : okKey k = true := by rfl) : RP K ms ts (tDNotIn ty td) m .bool (e2 (fNotInK (k := k)) G F) := fun E L Γ σ H xt Q d o e q => by
  obtain ⟨x, ex, e⟩ := bind_some e
  obtain ⟨a, ea, e⟩ := bind_some e
  refine h' E L Γ σ H xt _ x o ex fun w H1 s1 r1 => h E L Γ σ H1 xt _ a (o.same s1) ea fun v H2 s2 r2 => ?_
  obtain ⟨p, rfl⟩ := dict_ref (k := k) (t := t) r2.b
  rcases dget_of hk r2.b (rs_on s2 r1.b) with ⟨g1, g2⟩ | ⟨v, z, g1, g2, g3⟩
  · rw [fNotInK, g1] at e
    cases e
    exact ⟨p, none, rfl, g2, q _ H2 (s1.trans s2) (rep_atom rfl rfl)⟩
  · rw [fNotInK, g1] at e
    cases e
    exact ⟨p, some v, rfl, g2, q _ H2 (s1.trans s2) (rep_atom rfl rfl)⟩
/-- d.get(x, y) -/
def fGet2 {k : Ty} {β : Type} (d : List (den k × β)) (x : den k) (y : β) : Option β := some ((fGetK d x).getD y)
theorem rp_dget2 {k t : Ty} {m1 m2 m3 : Em} {td ty tx : TE} {F : Gam ts → Option (List (den k × den t))} {G : Gam ts → Option (den k)} {D : Gam ts → Option (den t)} (h : RP K ms ts td m1 (.dict k t) F) (h' : RP K ms ts ty m2 k G) (h2 : RP K ms ts tx m3 t D) (hk : okKey k = true := by rfl) :
    RP K ms ts (tDGet2 td ty tx) .b t (e3 (fGet2 (k := k)) F G D) := fun E L Γ σ H xt Q d o e q => by
  obtain ⟨a, ea, e⟩ := bind_some e
  obtain ⟨x, ex, e⟩ := bind_some e
  obtain ⟨y, ey, e⟩ := bind_some e
  refine h E L Γ σ H xt _ a o ea fun v H1 s1 r1 => ?_
  obtain ⟨p, rfl⟩ := dict_ref (k := k) (t := t) r1.b
  refine ⟨p, rfl, isD_of r1.b, h' E L Γ σ H1 xt _ x (o.same s1) ex fun w H2 s2 r2 => h2 E L Γ σ H2 xt _ y ((o.same s1).same s2) ey fun u H3 s3 r3 => ?_⟩
  rcases dget_of hk (rs_on (t := .dict k t) (s2.trans s3) r1.b) (rs_on s3 r2.b) with ⟨g1, g2⟩ | ⟨v, z, g1, g2, g3⟩
  · rw [fGet2, g1] at e
    cases e
    exact ⟨none, g2, q u H3 ((s1.trans s2).trans s3) r3.b⟩
  · rw [fGet2, g1] at e
    cases e
    exact ⟨some v, g2, q v H3 ((s1.trans s2).trans s3) g3⟩
/-- d.get(x) -/
def nonN : Ty → Bool
  | .non => false
  | .opt _ => false
  | .any => false
  | .own t => nonN t
  | _ => true
theorem nonN_of {R : Reg} : ∀ {t : Ty}, nonN t = true → ∀ {v : V} {d : den t}, (rS K H R t).1 v d → v ≠ .non
  | .bool, _, v, d, r => by cases r; simp
  | .int, _, v, d, r => by cases r; simp
  | .str, _, v, d, r => by obtain ⟨rfl, _⟩ := r; simp
  | .vtup _, _, v, d, r => by obtain ⟨_, _, rfl, _⟩ := r; simp
  | .list _, _, v, d, r => by obtain ⟨_, _, rfl, _⟩ := r; simp
  | .dict _ _, _, v, d, r => by obtain ⟨_, rfl, _⟩ := r; simp
  | .own t, h, v, d, r => nonN_of (t := t) h r
  | .hl _, _, v, d, r => by obtain ⟨_, _, rfl, _⟩ := r; simp
  | .tup _, _, v, d, r => by obtain ⟨_, _, rfl, _⟩ := r; simp
  | .last _, _, v, d, r => r.elim
  | .cons _ _, _, v, d, r => r.elim
  | .non, h, _, _, _ => by cases h
  | .opt _, h, _, _, _ => by cases h
  | .any, h, _, _, _ => by cases h
abbrev fGet1 {k : Ty} {β : Type} (d : List (den k × β)) (x : den k) : Option (Option β) := some (fGetK d x)
theorem rp_dget1 {k t : Ty} {m1 m2 : Em} {td ty : TE} {F : Gam ts → Option (List (den k × den t))} {G : Gam ts → Option (den k)} (h : RP K ms ts td m1 (.dict k t) F) (h' : RP K ms ts ty m2 k G) (hk : okKey k = true := by rfl) (hn : nonN t = true := by rfl) :
    RP K ms ts (tDGet1 td ty) .b (.opt t) (e2 (fGet1 (k := k)) F G) := fun E L Γ σ H xt Q d o e q => by
  obtain ⟨a, ea, e⟩ := bind_some e
  obtain ⟨x, ex, e⟩ := bind_some e
  refine h E L Γ σ H xt _ a o ea fun v H1 s1 r1 => ?_
  obtain ⟨p, rfl⟩ := dict_ref (k := k) (t := t) r1.b
  refine ⟨p, rfl, isD_of r1.b, h' E L Γ σ H1 xt _ x (o.same s1) ex fun w H2 s2 r2 => ?_⟩
  rcases dget_of hk (rs_on (t := .dict k t) s2 r1.b) r2.b with ⟨g1, g2⟩ | ⟨v, z, g1, g2, g3⟩
  · rw [fGet1, g1] at e
    cases e
    exact ⟨none, g2, q _ H2 (s1.trans s2) rfl⟩
  · rw [fGet1, g1] at e
    cases e
    exact ⟨some v, g2, q _ H2 (s1.trans s2) ⟨nonN_of hn g3, g3⟩⟩
end
end VV

/-! VMore8: stores in owned dicts, and in lists that dicts hold. -/
namespace VV
open PySem L2
open PyProof.Rows hiding St

section
variable {K : PySem.W.Frag} {E : Ent} {ms ms' : List Md} {ts : List Ty} {L L1 : Reg} {Γ Γ1 : Gam ts} {σ σ1 : St} {H H' H0 H1 H2 : Hp} {xt : List Addr} {rm : Rm} {ρ : Ty}
/-- AN OWNED THING IS CHANGED at cells of its own -/
theorem Own.chg {t : Ty} (i : Mem ts t) {d : den t} (o : Own K E L ms ts Γ σ H []) {mo : Md} (hm : ms[i.ix]? = some mo) (ho : mo.own = true) (hx : i.get Γ = some d) :
    ∃ v f, σ[i.ix]? = some (some v) ∧ (rO K H L t).1 v d f ∧ f.Nodup ∧ (∀ b ∈ f, Good E L H b) ∧
    ∀ (H1 H2 : Hp) (fd : List Addr) (Lr : Reg) (d' : den t) (f' : List Addr), Same H H1 → Nw H H1 (· ∈ fd) → Nw H H1 Lr → (∀ b ∈ fd, ¬ Lr b) → (∀ b, (H1 b).isSome = true → b ∉ f → H2 b = H1 b) → (∀ b, (H1 b).isSome = true → (H2 b).isSome = true) → Stb H1 H2 →
      (rO K H2 (fun b => L b ∨ Lr b) t).1 v d' f' → f'.Nodup → (∀ b ∈ f', b ∈ f ∨ b ∈ fd) →
      Own K E (fun b => L b ∨ Lr b) ms ts (i.set (some d') Γ) σ H2 [] ∧ Ev ms ts L Γ σ H (fun b => L b ∨ Lr b) (i.set (some d') Γ) σ H2 := by
  obtain ⟨s0, f, q1, q2, q3, q4, q5⟩ := o.focus i hm
  rw [hx] at q2
  obtain ⟨v, rfl, hr⟩ := q2
  replace hr := (repM_own ho).mp hr
  have gg : ∀ b ∈ f, Good E L H b := fun b hb => (q4 b hb).1
  refine ⟨v, f, q1, hr, q3, gg, fun H1 H2 fd Lr d' f' s1 h3 h4 h5 oth1 up st1 k0 n0 m0 => ?_⟩
  have st : Stb H H2 := (Stb.of_same s1).trans st1
  have oth : ∀ b, (H b).isSome = true → b ∉ f → H2 b = H b := fun b hb hne => by rw [oth1 b (by rw [same_at s1 hb]; exact hb) hne]; exact same_at s1 hb
  have upH : ∀ b, (H b).isSome = true → (H2 b).isSome = true := fun b hb => up b (by rw [same_at s1 hb]; exact hb)
  have o' := q5 H2 (fun b => L b ∨ Lr b) (some d') (some v) f' [] (fun b hb hnf _ => oth b hb hnf) st (fun _ h => .inl h)
    (fun b hb => hb.elim .inl fun z => .inr (.inr (.inr (h4 b z).1))) upH
    (fun b hb => hb.elim (fun z => ⟨(o.lr b z).1, upH b (o.lr b z).2⟩) fun z => ⟨.inl (o.fresh (h4 b z).1).1, up b (h4 b z).2⟩)
    ⟨v, rfl, (repM_own ho).mpr k0⟩ (by rw [List.append_nil]; exact n0)
    (fun b hb => by
      have hb : b ∈ f' := by simpa using hb
      rcases m0 b hb with hb | hb
      · refine ⟨.inl hb, fun z => z.elim (gg b hb).nl fun z => ?_, upH b (gg b hb).at_⟩
        have := (gg b hb).at_
        rw [(h4 b z).1] at this
        cases this
      · exact ⟨.inr (.inr (h3 b hb).1), fun z => z.elim (o.fresh (h3 b hb).1).2.1 (h5 b hb), up b (h3 b hb).2⟩)
  rw [set_same q1] at o'
  refine ⟨o', fun _ h => .inl h, fun b q hb x => ?_, st, keepF_set0 i hm (own_hard ho) _⟩
  rw [oth b (o.lr b hb).2 fun z => (gg b z).nl hb]
  exact x
/-- one cell is changed -/
theorem upd_oth {a : Addr} {u : HO} {f : List Addr} (h : a ∈ f) : ∀ b, (H b).isSome = true → b ∉ f → upd H a u b = H b := fun b _ hb => upd_ne fun z => hb (z ▸ h)
theorem upd_up {a : Addr} {u : HO} : ∀ b, (H b).isSome = true → (upd H a u b).isSome = true := fun b hb => by
  by_cases z : b = a
  · rw [z, upd_same]; rfl
  · rw [upd_ne z]; exact hb
theorem cov_upd {a : Addr} {u : HO} {R : Reg} (h : ¬ R a) : Cov H (upd H a u) R R := fun b q hb x => by
  have ne : b ≠ a := fun z => by
    subst z
    exact h hb
  exact ⟨hb, by rw [upd_ne ne]; exact x⟩

/-! ### d[x] = y -/
theorem f2_put {α β κ : Type} [DecidableEq κ] {key : α → Option κ} {P : V → β → Prop} {x : α} {k : κ} {v : V} {y : β} (hx : key x = some k) (hv : P v y) {kvs : List (κ × V)} {d : List (α × β)} (h : F2 (fun p q => key q.1 = some p.1 ∧ P p.2 q.2) kvs d) :
    F2 (fun p q => key q.1 = some p.1 ∧ P p.2 q.2) (putK kvs k v) (putBy key d x y) := by
  have ha : ∀ {kvs : List (κ × V)} {d : List (α × β)}, F2 (fun p q => key q.1 = some p.1 ∧ P p.2 q.2) kvs d → (kvs.any fun kv => decide (kv.1 = k)) = (d.any fun q => decide (key q.1 = key x)) := by
    intro kvs
    induction kvs with
    | nil =>
      intro d h
      cases d with
      | nil => rfl
      | cons _ _ => exact h.elim
    | cons p kvs ih =>
      intro d h
      cases d with
      | nil => exact h.elim
      | cons q d =>
        rw [List.any_cons, List.any_cons, ih h.2, h.1.1, hx]
        congr 1
        by_cases e : p.1 = k
        · rw [decide_eq_true e, decide_eq_true (congrArg some e)]
        · rw [decide_eq_false e, decide_eq_false fun z => e (Option.some.inj z)]
  have hmap : ∀ {kvs : List (κ × V)} {d : List (α × β)}, F2 (fun p q => key q.1 = some p.1 ∧ P p.2 q.2) kvs d → F2 (fun p q => key q.1 = some p.1 ∧ P p.2 q.2) (kvs.map (fun kv => if kv.1 = k then (kv.1, v) else kv)) (d.map (fun q => if key q.1 = key x then (q.1, y) else q)) := by
    intro kvs
    induction kvs with
    | nil =>
      intro d h
      cases d with
      | nil => exact True.intro
      | cons _ _ => exact h.elim
    | cons p kvs ih =>
      intro d h
      cases d with
      | nil => exact h.elim
      | cons q d =>
        refine ⟨?_, ih h.2⟩
        show key (if key q.1 = key x then (q.1, y) else q).1 = some (if p.1 = k then (p.1, v) else p).1 ∧ P (if p.1 = k then (p.1, v) else p).2 (if key q.1 = key x then (q.1, y) else q).2
        by_cases e : p.1 = k
        · rw [if_pos e, if_pos (by rw [h.1.1, hx, e])]
          exact ⟨h.1.1, hv⟩
        · rw [if_neg e, if_neg (by rw [h.1.1, hx]; exact fun z => e (Option.some.inj z))]
          exact h.1
  unfold putK putBy
  rw [ha h]
  split
  · exact hmap h
  · exact F2.append h ⟨⟨hx, hv⟩, True.intro⟩
def fPutK {k : Ty} {β : Type} (d : List (den k × β)) (x : den k) (y : β) : List (den k × β) := if k.tk = true then putBy (keyT k) d x y else putBy (keyS k) d x y
def sPut {ρ : Type} {ts : List Ty} {k t : Ty} (i : Mem ts (.dict k t)) (F : Gam ts → Option (den t)) (G : Gam ts → Option (den k)) : Gam ts → Option (Fl (Gam ts) ρ) := fun Γ => (i.get Γ).bind fun d => (F Γ).bind fun y => (G Γ).bind fun x => if d.length < sizeLine then some (.nx (i.set (some (fPutK d x y)) Γ)) else none
/-- values without cells -/
theorem rs_dput {k t : Ty} (i : Mem ts (.dict k t)) {n : Nat} {m m' : Em} {tv ty : TE} {F : Gam ts → Option (den t)} {G : Gam ts → Option (den k)} (h : RP K ms ts tv m t F) (h' : RP K ms ts ty m' k G) (hf : t.frz = true := by rfl) (hk : okKey k = true := by rfl) {mo : Md} (hm : ms[i.ix]? = some mo := by rfl) (ho : mo.own = true := by rfl) (hn : i.ix = n := by rfl) :
    RS K ms ts (sDPut (tVar n) ty tv) rm ρ (sPut i F G) := fun E L Γ σ H D f o e p => by
  subst hn
  obtain ⟨d, e1, e⟩ := bind_some e
  obtain ⟨y, e2, e⟩ := bind_some e
  obtain ⟨x, e3, e⟩ := bind_some e
  split at e
  · rename_i hz
    cases e
    obtain ⟨v0, f0, q1, hr, hnd, gd, go⟩ := o.chg i hm ho e1
    obtain ⟨a, g, rfl, rfl, hr⟩ := hr
    have ga := gd a List.mem_cons_self
    refine h E L Γ σ H [] _ y o e2 fun v H1 s1 r1 => ⟨_, q1, h' E L Γ σ H1 [] _ x (o.same s1) e3 fun w H2 s2 r2 => ?_⟩
    have s12 := s1.trans s2
    have rv := rs_on s2 r1.b
    have fk : ∀ {p : V} {q : den t} {c : List Addr}, Kid K H L t p q c → (rS K H2 (fun _ => True) t).1 p q := fun x => rs_on s12 (x.elim (fun y => (rO_s (fun _ _ => True.intro) t).1 _ _ _ (fun _ _ => True.intro) y) fun y => (rS_mono (Cov.of_reg fun _ _ _ => True.intro) (Stb.refl _) t).1 _ _ y.2.2)
    rcases key_of hk r2.b with ⟨k1, key, rfl, ek⟩ | ⟨k1, ks, c, rfl, hc, ek⟩
    · rcases hr with ⟨_, kvs, hl, hk3⟩ | ⟨k2, _⟩
      · have h2 : F2 (fun p q => keyS k q.1 = some p.1 ∧ (rS K H2 (fun _ => True) t).1 p.2 q.2) kvs d := hk3.to2 fun p q c _ z => ⟨z.1, fk z.2⟩
        have st : Stb H2 (upd H2 a (.dK (putK kvs key v))) := Stb.upd (s12 _ _ hl) rfl
        have h3 := (f2_put (P := fun p q => (rS K H2 (fun _ => True) t).1 p q) ek rv h2).imp (P' := fun p q => keyS k q.1 = some p.1 ∧ (rS K (upd H2 a (.dK (putK kvs key v))) (fun _ => False) t).1 p.2 q.2) fun p q z => ⟨z.1, rS_stb hf st z.2⟩
        obtain ⟨o', ev⟩ := go H2 (upd H2 a (.dK (putK kvs key v))) [] (fun _ => False) (fPutK d x y) [a] s12 (fun a h => by simp at h) (fun a h => h.elim) (fun a h => by simp at h) (upd_oth List.mem_cons_self) upd_up st
          ⟨a, [], rfl, rfl, .inl ⟨k1, _, upd_same, by
            unfold fPutK
            rw [k1, if_neg Bool.false_ne_true]
            exact F3.of2 (fun p q z => ⟨z.1, kid_frz hf z.2⟩) h3⟩⟩ (by simp) (fun b hb => .inl (by
            rw [List.mem_singleton] at hb
            exact hb ▸ List.mem_cons_self))
        exact ⟨a, _, rfl, .inl ⟨kvs, key, s12 _ _ hl, rfl, by rw [h2.length]; exact hz, rfl⟩, p _ σ _ o' ev⟩
      · rw [k1] at k2
        cases k2
    · rcases hr with ⟨k2, _⟩ | ⟨_, kvs, hl, hk3⟩
      · rw [k1] at k2
        cases k2
      · have h2 : F2 (fun p q => keyT k q.1 = some p.1 ∧ (rS K H2 (fun _ => True) t).1 p.2 q.2) kvs d := hk3.to2 fun p q c _ z => ⟨z.1, fk z.2⟩
        have st : Stb H2 (upd H2 a (.dT (putK kvs ks v))) := Stb.upd (s12 _ _ hl) rfl
        have h3 := (f2_put (P := fun p q => (rS K H2 (fun _ => True) t).1 p q) ek rv h2).imp (P' := fun p q => keyT k q.1 = some p.1 ∧ (rS K (upd H2 a (.dT (putK kvs ks v))) (fun _ => False) t).1 p.2 q.2) fun p q z => ⟨z.1, rS_stb hf st z.2⟩
        obtain ⟨o', ev⟩ := go H2 (upd H2 a (.dT (putK kvs ks v))) [] (fun _ => False) (fPutK d x y) [a] s12 (fun a h => by simp at h) (fun a h => h.elim) (fun a h => by simp at h) (upd_oth List.mem_cons_self) upd_up st
          ⟨a, [], rfl, rfl, .inr ⟨k1, _, upd_same, by
            unfold fPutK
            rw [if_pos k1]
            exact F3.of2 (fun p q z => ⟨z.1, kid_frz hf z.2⟩) h3⟩⟩ (by simp) (fun b hb => .inl (by
            rw [List.mem_singleton] at hb
            exact hb ▸ List.mem_cons_self))
        exact ⟨a, _, rfl, .inr ⟨kvs, ks, c, s12 _ _ hl, rfl, hc, by rw [h2.length]; exact hz, rfl⟩, p _ σ _ o' ev⟩
  · cases e
/-! ### d[x] = y, y owned, x not there yet -/
abbrev KidD (K : PySem.W.Frag) (H : Hp) (L : Reg) {κ : Type} {α : Type} (key : α → Option κ) (t : Ty) : κ × V → α × den t → List Addr → Prop := fun p q g => key q.1 = some p.1 ∧ Kid K H L t p.2 q.2 g
theorem kid_on {t : Ty} {Lr : Reg} {v : V} {d : den t} {g : List Addr} (hc : Cov H H1 L (fun b => L b ∨ Lr b)) (hs : Stb H H1) (hg : ∀ b ∈ g, H1 b = H b) (h : Kid K H L t v d g) : Kid K H1 (fun b => L b ∨ Lr b) t v d g := kid_mono ((rS_mono hc hs t).1 v d) ((rO_mono hc hs t).1 v d g hg) h
theorem getBy_none_any {α β κ : Type} [DecidableEq κ] {key : α → Option κ} {d : List (α × β)} {x : α} (h : getBy key d x = none) : (d.any fun q => decide (key q.1 = key x)) = false := by
  unfold getBy at h
  rw [Option.map_eq_none_iff, List.find?_eq_none] at h
  rw [List.any_eq_false]
  exact h
theorem putK_new {κ : Type} [DecidableEq κ] {kvs : List (κ × V)} {k : κ} {v : V} (h : valV kvs k = none) : putK kvs k v = kvs ++ [(k, v)] := by
  unfold putK
  rw [valV_any, h]
  rfl
def sPutN {ρ : Type} {ts : List Ty} {k t : Ty} (i : Mem ts (.dict k t)) (F : Gam ts → Option (den t)) (G : Gam ts → Option (den k)) : Gam ts → Option (Fl (Gam ts) ρ) := fun Γ => (i.get Γ).bind fun d => (F Γ).bind fun y => (G Γ).bind fun x => if d.length < sizeLine ∧ (fGetK d x).isSome = false then some (.nx (i.set (some (d ++ [(x, y)])) Γ)) else none
theorem f3_val {α β κ : Type} [DecidableEq κ] {key : α → Option κ} {P : V → β → List Addr → Prop} {x : α} {k : κ} (hx : key x = some k) {kvs : List (κ × V)} {d : List (α × β)} {g : List Addr} (h : F3 (fun p q g => key q.1 = some p.1 ∧ P p.2 q.2 g) kvs d g) (hn : getBy key d x = none) : valV kvs k = none := by
  have h2 : F2 (fun p q => key q.1 = some p.1 ∧ (∃ g, P p.2 q.2 g)) kvs d := h.to2 fun p q g _ z => ⟨z.1, g, z.2⟩
  rcases val_of (P := fun v y => ∃ g, P v y g) hx h2 with z | ⟨v, y, z, _⟩
  · exact z.2
  · rw [hn] at z
    cases z
theorem rs_dputN {k t : Ty} (i : Mem ts (.dict k t)) {n : Nat} {m' : Em} {tv ty : TE} {F : Gam ts → Option (den t)} {G : Gam ts → Option (den k)} (h : RP K ms ts tv .o t F) (h' : RP K ms ts ty m' k G) (hk : okKey k = true := by rfl) {mo : Md} (hm : ms[i.ix]? = some mo := by rfl) (ho : mo.own = true := by rfl) (hn : i.ix = n := by rfl) :
    RS K ms ts (sDPut (tVar n) ty tv) rm ρ (sPutN i F G) := fun E L Γ σ H D f o e p => by
  subst hn
  obtain ⟨d, e1, e⟩ := bind_some e
  obtain ⟨y, e2, e⟩ := bind_some e
  obtain ⟨x, e3, e⟩ := bind_some e
  split at e
  · rename_i hz
    cases e
    obtain ⟨v0, f0, q1, hr, hnd, gd, go⟩ := o.chg i hm ho e1
    obtain ⟨a, g, rfl, rfl, hr⟩ := hr
    have ga := gd a List.mem_cons_self
    have hnd' := List.nodup_cons.mp hnd
    refine h E L Γ σ H [] _ y o e2 fun v H1 s1 r1 => ⟨_, q1, h' E L Γ σ H1 [] _ x (o.same s1) e3 fun w H2 s2 r2 => ?_⟩
    have s12 := s1.trans s2
    obtain ⟨fd, Lr, j1, j2, j3, j4, j5⟩ := r1
    have dn : fGetK d x = none := by
      have := hz.2
      cases hg : fGetK d x with
      | none => rfl
      | some _ => rw [hg] at this; cases this
    have aH : (H a).isSome = true := ga.at_
    have nfd : ∀ b ∈ fd, b ≠ a := fun b hb z => by
      subst z
      rw [(j3 b hb).1] at aH
      cases aH
    have nLr : ¬ Lr a := fun z => by
      rw [(j4 a z).1] at aH
      cases aH
    have gfd : ∀ b ∈ g, b ∉ fd := fun b hb z => by
      have := (gd b (List.mem_cons_of_mem _ hb)).at_
      rw [(j3 b z).1] at this
      cases this
    have fin : ∀ (u : HO), mutO u = true → Stb H2 (upd H2 a u) → (∀ {κ : Type} (key : den k → Option κ) (kvs : List (κ × V)) (kk : κ), key x = some kk → F3 (KidD K H L key t) kvs d g → F3 (KidD K (upd H2 a u) (fun b => L b ∨ Lr b) key t) (kvs ++ [(kk, v)]) (d ++ [(x, y)]) (g ++ fd)) := fun u mu st κ key kvs kk hkk h3 => by
      have cov : Cov H (upd H2 a u) L (fun b => L b ∨ Lr b) := fun b q hb z => by
        have ne : b ≠ a := fun z => ga.nl (z ▸ hb)
        refine ⟨.inl hb, ?_⟩
        rw [upd_ne ne, same_at s12 (o.lr b hb).2]
        exact z
      refine F3.append (h3.imp fun p q c hc z => ⟨z.1, kid_on cov ((Stb.of_same s12).trans st) (fun b hb => ?_) z.2⟩) ⟨fd, [], by simp, ⟨hkk, .inl ?_⟩, rfl⟩
      · have hb := hc b hb
        have ne : b ≠ a := fun z => hnd'.1 (z ▸ hb)
        rw [upd_ne ne, same_at s12 (gd b (List.mem_cons_of_mem _ hb)).at_]
      · refine (rO_mono (L := fun b => L b ∨ Lr b) (fun b q hb z => ⟨hb, ?_⟩) ((Stb.of_same s2).trans st) t).1 v y fd (fun b hb => ?_) j1
        · have ne : b ≠ a := fun z => hb.elim (fun q => ga.nl (z ▸ q)) fun q => nLr (z ▸ q)
          have bs : (H1 b).isSome = true := hb.elim (fun q => by rw [same_at s1 (o.lr b q).2]; exact (o.lr b q).2) fun q => (j4 b q).2
          rw [upd_ne ne, same_at s2 bs]
          exact z
        · rw [upd_ne (nfd b hb), same_at s2 (j3 b hb).2]
    have fin2 : ∀ (u : HO), mutO u = true → Stb H2 (upd H2 a u) → (rO K (upd H2 a u) (fun b => L b ∨ Lr b) (.dict k t)).1 (.ref a) (d ++ [(x, y)]) (a :: (g ++ fd)) → D.nx σ (upd H2 a u) := fun u mu st hrep => by
      obtain ⟨o', ev⟩ := go H2 (upd H2 a u) fd Lr (d ++ [(x, y)]) (a :: (g ++ fd)) s12 (nw_on s2 j3) (nw_on s2 j4) j5 (upd_oth List.mem_cons_self) upd_up st hrep
        (List.nodup_cons.mpr ⟨fun z => (List.mem_append.mp z).elim hnd'.1 fun z => nfd a z rfl, List.nodup_append.mpr ⟨hnd'.2, j2, fun b hb c hc z => gfd b hb (z ▸ hc)⟩⟩)
        (fun b hb => by
          rcases List.mem_cons.mp hb with z | hb
          · exact .inl (z ▸ List.mem_cons_self)
          · exact (List.mem_append.mp hb).elim (fun z => .inl (List.mem_cons_of_mem _ z)) .inr)
      exact p _ σ _ o' ev
    rcases key_of hk r2.b with ⟨k1, key, rfl, ek⟩ | ⟨k1, ks, c, rfl, hc, ek⟩
    · rcases hr with ⟨_, kvs, hl, hk3⟩ | ⟨k2, _⟩
      · unfold fGetK at dn
        rw [k1, if_neg Bool.false_ne_true] at dn
        have hv := f3_val ek hk3 dn
        have st : Stb H2 (upd H2 a (.dK (putK kvs key v))) := Stb.upd (s12 _ _ hl) rfl
        refine ⟨a, _, rfl, .inl ⟨kvs, key, s12 _ _ hl, rfl, by rw [hk3.length]; exact hz.1, rfl⟩, fin2 _ rfl st ⟨a, g ++ fd, rfl, rfl, .inl ⟨k1, _, upd_same, ?_⟩⟩⟩
        rw [putK_new hv] at st ⊢
        exact fin _ rfl st (keyS k) kvs key ek hk3
      · rw [k1] at k2
        cases k2
    · rcases hr with ⟨k2, _⟩ | ⟨_, kvs, hl, hk3⟩
      · rw [k1] at k2
        cases k2
      · unfold fGetK at dn
        rw [if_pos k1] at dn
        have hv := f3_val ek hk3 dn
        have st : Stb H2 (upd H2 a (.dT (putK kvs ks v))) := Stb.upd (s12 _ _ hl) rfl
        refine ⟨a, _, rfl, .inr ⟨kvs, ks, c, s12 _ _ hl, rfl, hc, by rw [hk3.length]; exact hz.1, rfl⟩, fin2 _ rfl st ⟨a, g ++ fd, rfl, rfl, .inr ⟨k1, _, upd_same, ?_⟩⟩⟩
        rw [putK_new hv] at st ⊢
        exact fin _ rfl st (keyT k) kvs ks ek hk3
  · cases e
end
end VV

/-! VMore9: lists that a dict holds, changed in their place. -/
namespace VV
open PySem L2
open PyProof.Rows hiding St

section
variable {K : PySem.W.Frag} {E : Ent} {ms ms' : List Md} {ts : List Ty} {L L1 : Reg} {Γ Γ1 : Gam ts} {σ σ1 : St} {H H' H0 H1 H2 : Hp} {xt : List Addr} {rm : Rm} {ρ : Ty}
def updBy {α β κ : Type} [DecidableEq κ] (key : α → Option κ) : List (α × β) → α → β → List (α × β)
  | [], _, _ => []
  | q :: d, x, z => if key q.1 = key x then (q.1, z) :: d else q :: updBy key d x z
theorem getBy_pos {α β κ : Type} [DecidableEq κ] {key : α → Option κ} {q : α × β} {d : List (α × β)} {x : α} (h : key q.1 = key x) : getBy key (q :: d) x = some q.2 := by
  unfold getBy
  rw [List.find?_cons_of_pos (by rw [decide_eq_true_eq]; exact h)]
  rfl
theorem getBy_neg {α β κ : Type} [DecidableEq κ] {key : α → Option κ} {q : α × β} {d : List (α × β)} {x : α} (h : ¬ key q.1 = key x) : getBy key (q :: d) x = getBy key d x := by
  unfold getBy
  rw [List.find?_cons_of_neg (by rw [decide_eq_true_eq]; exact h)]
theorem f3_at {α β κ : Type} [DecidableEq κ] {key : α → Option κ} {P : V → β → List Addr → Prop} {x : α} {k : κ} (hx : key x = some k) : ∀ {kvs : List (κ × V)} {d : List (α × β)} {g : List Addr} {y : β}, F3 (fun p q g => key q.1 = some p.1 ∧ P p.2 q.2 g) kvs d g → getBy key d x = some y →
    ∃ v ga gj gb, valV kvs k = some v ∧ g = ga ++ (gj ++ gb) ∧ P v y gj ∧ ∀ (P' : V → β → List Addr → Prop) (z : β) (gj' : List Addr), (∀ p q c, (∀ b ∈ c, b ∈ ga ∨ b ∈ gb) → P p q c → P' p q c) → P' v z gj' → F3 (fun p q g => key q.1 = some p.1 ∧ P' p.2 q.2 g) kvs (updBy key d x z) (ga ++ (gj' ++ gb))
  | [], [], _, _, _, h => by cases h
  | p :: kvs, q :: d, g, y, h, hy => by
    obtain ⟨f1, f2, rfl, ⟨h1, h2⟩, h3⟩ := h
    by_cases e : p.1 = k
    · have ek : key q.1 = key x := by rw [h1, hx, e]
      rw [getBy_pos ek] at hy
      cases hy
      refine ⟨p.2, [], f1, f2, valV_pos e, rfl, h2, fun P' z gj' hP hz => ?_⟩
      unfold updBy
      rw [if_pos ek]
      exact ⟨gj', f2, rfl, ⟨h1, hz⟩, h3.imp fun p q c hc w => ⟨w.1, hP _ _ c (fun b hb => .inr (hc b hb)) w.2⟩⟩
    · have ek : ¬ key q.1 = key x := by rw [h1, hx]; exact fun z => e (Option.some.inj z)
      rw [getBy_neg ek] at hy
      obtain ⟨v, ga, gj, gb, i1, rfl, i2, i3⟩ := f3_at hx h3 hy
      refine ⟨v, f1 ++ ga, gj, gb, by rw [valV_neg e]; exact i1, by rw [List.append_assoc], i2, fun P' z gj' hP hz => ?_⟩
      unfold updBy
      rw [if_neg ek]
      exact ⟨f1, ga ++ (gj' ++ gb), by rw [List.append_assoc], ⟨h1, hP _ _ f1 (fun b hb => .inl (List.mem_append_left _ hb)) h2⟩, i3 P' z gj' (fun p q c hc => hP p q c fun b hb => (hc b hb).elim (fun z => .inl (List.mem_append_right _ z)) .inr) hz⟩
  | [], _ :: _, _, _, h, _ => h.elim
  | _ :: _, [], _, _, h, _ => h.elim
/-- one list of those that a dict holds: grown by an item -/
theorem dapp_core {κ α : Type} [DecidableEq κ] {key : α → Option κ} {u : Ty} {kvs : List (κ × V)} {d : List (α × List (den u))} {g : List Addr} {x : α} {kk : κ} {xs : List (den u)} (ek : key x = some kk) (gd : ∀ b ∈ g, Good E L H b) (hnd : g.Nodup) (lr : ∀ a, L a → (H a).isSome = true)
    (h3 : F3 (KidD K H L key (.own (.list u))) kvs d g) (hg : getBy key d x = some xs) :
    ∃ c vs gc gx gy, valV kvs kk = some (.ref c) ∧ g = gx ++ ((c :: gc) ++ gy) ∧ H c = some (.lst vs) ∧ F3 (Kid K H L u) vs xs gc ∧
      ∀ (H2 : Hp) (Lr : Reg) (fd : List Addr) (w : V) (y : den u), Same H H2 → Nw H H2 (· ∈ fd) → Nw H H2 Lr → fd.Nodup → (rO K H2 (fun b => L b ∨ Lr b) u).1 w y fd →
        F3 (KidD K (upd H2 c (.lst (vs ++ [w]))) (fun b => L b ∨ Lr b) key (.own (.list u))) kvs (updBy key d x (xs ++ [y])) (gx ++ ((c :: (gc ++ fd)) ++ gy)) ∧ (gx ++ ((c :: (gc ++ fd)) ++ gy)).Nodup ∧ ∀ b ∈ gx ++ ((c :: (gc ++ fd)) ++ gy), b ∈ g ∨ b ∈ fd := by
  obtain ⟨v, gx, gj, gy, hv, rfl, hk, hF⟩ := f3_at (P := Kid K H L (.own (.list u))) ek h3 hg
  rcases hk with hk | ⟨hk, _⟩
  · obtain ⟨c, vs, gc, rfl, rfl, hc, hi⟩ := hk
    have nd1 := List.nodup_append.mp hnd
    have nd2 := List.nodup_append.mp nd1.2.1
    have nd3 := List.nodup_cons.mp nd2.1
    have gc' : Good E L H c := gd c (List.mem_append_right _ (List.mem_append_left _ List.mem_cons_self))
    have cx : ∀ b ∈ gx, b ≠ c := fun b hb z => nd1.2.2 b hb c (List.mem_append_left _ List.mem_cons_self) z
    have cy : ∀ b ∈ gy, b ≠ c := fun b hb z => nd2.2.2 c List.mem_cons_self b hb z.symm
    have cc : ∀ b ∈ gc, b ≠ c := fun b hb z => nd3.1 (z ▸ hb)
    have at_ : ∀ b ∈ gx ++ ((c :: gc) ++ gy), (H b).isSome = true := fun b hb => (gd b hb).at_
    refine ⟨c, vs, gc, gx, gy, hv, rfl, hc, hi, fun H2 Lr fd w y s hfd hLr nfd hw => ?_⟩
    have hc2 := s _ _ hc
    have st : Stb H2 (upd H2 c (.lst (vs ++ [w]))) := Stb.upd hc2 rfl
    have stH : Stb H (upd H2 c (.lst (vs ++ [w]))) := (Stb.of_same s).trans st
    have nc : ∀ b ∈ fd, b ≠ c := fun b hb z => by
      have := (hfd b hb).1
      rw [z, hc] at this
      cases this
    have nLr : ¬ Lr c := fun z => by
      have := (hLr c z).1
      rw [hc] at this
      cases this
    have cov : Cov H (upd H2 c (.lst (vs ++ [w]))) L (fun b => L b ∨ Lr b) := fun b q hb z => by
      have ne : b ≠ c := fun z => gc'.nl (z ▸ hb)
      refine ⟨.inl hb, ?_⟩
      rw [upd_ne ne, same_at s (lr b hb)]
      exact z
    have cov2 : Cov H2 (upd H2 c (.lst (vs ++ [w]))) (fun b => L b ∨ Lr b) (fun b => L b ∨ Lr b) := cov_upd fun z => z.elim gc'.nl nLr
    have foot : ∀ b, b ≠ c → (H b).isSome = true → upd H2 c (.lst (vs ++ [w])) b = H b := fun b ne hb => by rw [upd_ne ne, same_at s hb]
    have old : ∀ b ∈ fd, ∀ e ∈ gx ++ ((c :: gc) ++ gy), b ≠ e := fun b hb e he z => by
      have := at_ e he
      rw [← z, (hfd b hb).1] at this
      cases this
    refine ⟨hF (Kid K (upd H2 c (.lst (vs ++ [w]))) (fun b => L b ∨ Lr b) (.own (.list u))) (xs ++ [y]) (c :: (gc ++ fd)) (fun p q cs hcs z => kid_on cov stH (fun b hb => ?_) z) (.inl ⟨c, vs ++ [w], gc ++ fd, rfl, rfl, upd_same, F3.append (hi.imp fun p q cs hcs z => kid_on cov stH (fun b hb => ?_) z) ⟨fd, [], by simp, .inl ((rO_mono cov2 st u).1 w y fd (fun b hb => upd_ne (nc b hb)) hw), rfl⟩⟩), ?_, fun b hb => ?_⟩
    · rcases hcs b hb with h | h
      · exact foot b (cx b h) (at_ b (List.mem_append_left _ h))
      · exact foot b (cy b h) (at_ b (List.mem_append_right _ (List.mem_append_right _ h)))
    · have h := hcs b hb
      exact foot b (cc b h) (at_ b (List.mem_append_right _ (List.mem_append_left _ (List.mem_cons_of_mem _ h))))
    · refine List.nodup_append.mpr ⟨nd1.1, List.nodup_append.mpr ⟨List.nodup_cons.mpr ⟨fun z => ?_, List.nodup_append.mpr ⟨nd3.2, nfd, fun a ha b hb z => ?_⟩⟩, nd2.2.1, fun a ha b hb z => ?_⟩, fun a ha b hb z => ?_⟩
      · exact (List.mem_append.mp z).elim nd3.1 fun z => nc c z rfl
      · exact old b hb a (List.mem_append_right _ (List.mem_append_left _ (List.mem_cons_of_mem _ ha))) z.symm
      · rcases List.mem_cons.mp ha with e | ha
        · exact nd2.2.2 c List.mem_cons_self b hb (e ▸ z)
        · rcases List.mem_append.mp ha with ha | ha
          · exact nd2.2.2 a (List.mem_cons_of_mem _ ha) b hb z
          · exact old a ha b (List.mem_append_right _ (List.mem_append_right _ hb)) z
      · rcases List.mem_append.mp hb with hb | hb
        · rcases List.mem_cons.mp hb with e | hb
          · exact cx a ha (z.trans e)
          · rcases List.mem_append.mp hb with hb | hb
            · exact nd1.2.2 a ha b (List.mem_append_left _ (List.mem_cons_of_mem _ hb)) z
            · exact old b hb a (List.mem_append_left _ ha) z.symm
        · exact nd1.2.2 a ha b (List.mem_append_right _ hb) z
    · rcases List.mem_append.mp hb with hb | hb
      · exact .inl (List.mem_append_left _ hb)
      · rcases List.mem_append.mp hb with hb | hb
        · rcases List.mem_cons.mp hb with e | hb
          · exact .inl (List.mem_append_right _ (List.mem_append_left _ (e ▸ List.mem_cons_self)))
          · rcases List.mem_append.mp hb with hb | hb
            · exact .inl (List.mem_append_right _ (List.mem_append_left _ (List.mem_cons_of_mem _ hb)))
            · exact .inr hb
        · exact .inl (List.mem_append_right _ (List.mem_append_right _ hb))
  · cases hk
def fUpdK {k : Ty} {β : Type} (d : List (den k × β)) (x : den k) (y : β) : List (den k × β) := if k.tk = true then updBy (keyT k) d x y else updBy (keyS k) d x y
/-- d[x].append(y) -/
def sDApp {ρ : Type} {ts : List Ty} {k u : Ty} (i : Mem ts (.dict k (.own (.list u)))) (G : Gam ts → Option (den k)) (F : Gam ts → Option (den u)) : Gam ts → Option (Fl (Gam ts) ρ) := fun Γ => (i.get Γ).bind fun d => (G Γ).bind fun x => (fGetK (β := List (den u)) d x).bind fun xs => (F Γ).bind fun y => if xs.length < sizeLine then some (.nx (i.set (some (fUpdK (β := List (den u)) d x (xs ++ [y]))) Γ)) else none
theorem rs_dapp {k u : Ty} (i : Mem ts (.dict k (.own (.list u)))) {n : Nat} {m' : Em} {te ty : TE} {F : Gam ts → Option (den u)} {G : Gam ts → Option (den k)} (h' : RP K ms ts ty m' k G) (h : RP K ms ts te .o u F) (hk : okKey k = true := by rfl) {mo : Md} (hm : ms[i.ix]? = some mo := by rfl) (ho : mo.own = true := by rfl) (hn : i.ix = n := by rfl) :
    RS K ms ts (tDrop (tBM K "list" rAppend (tDGet (tVar n) ty) (tCons te tNil))) rm ρ (sDApp i G F) := fun E L Γ σ H D f o e p => by
  subst hn
  obtain ⟨d, e1, e⟩ := bind_some e
  obtain ⟨x, e3, e⟩ := bind_some e
  obtain ⟨xs, e4, e⟩ := bind_some e
  obtain ⟨y, e2, e⟩ := bind_some e
  split at e
  · rename_i hz
    cases e
    obtain ⟨v0, f0, q1, hr, hnd, gd, go⟩ := o.chg i hm ho e1
    obtain ⟨a, g, rfl, rfl, hr⟩ := hr
    have hnd' := List.nodup_cons.mp hnd
    have gdg : ∀ b ∈ g, Good E L H b := fun b hb => gd b (List.mem_cons_of_mem _ hb)
    have lr : ∀ a, L a → (H a).isSome = true := fun a h => (o.lr a h).2
    refine ⟨_, q1, h' E L Γ σ H [] _ x o e3 fun w' H1 s1 r1 => ?_⟩
    have core : ∀ {κ : Type} [DecidableEq κ] (key : den k → Option κ) (kvs : List (κ × V)) (kk : κ), key x = some kk → F3 (KidD K H L key (.own (.list u))) kvs d g → getBy key (β := List (den u)) d x = some xs → fUpdK (β := List (den u)) d x (xs ++ [y]) = updBy key d x (xs ++ [y]) →
        (∀ (H3 : Hp) (L3 : Reg) (g3 : List Addr) (d3 : List (den k × List (den u))), H3 a = H a → F3 (KidD K H3 L3 key (.own (.list u))) kvs d3 g3 → (rO K H3 L3 (.dict k (.own (.list u)))).1 (.ref a) d3 (a :: g3)) →
        ∃ c, valV kvs kk = some (.ref c) ∧ (tyV K "list" (.ref c) H1 ∧ tCons te tNil σ H1 fun zs H2 => rAppend (.ref c) zs H2 fun _ H3 => D.nx σ H3) := fun {κ} _ key kvs kk ek h3 hget hupd hrep => by
      obtain ⟨c, vs, gc, gx, gy, hv, eg, hc, hi, fin⟩ := dapp_core ek gdg hnd'.2 lr h3 hget
      refine ⟨c, hv, .inl ⟨rfl, vs, .of (s1 _ _ hc)⟩, h E L Γ σ H1 [] _ y (o.same s1) e2 fun w H2 s2 r2 => ?_⟩
      obtain ⟨fd, Lr, j1, j2, j3, j4, j5⟩ := r2
      have s12 := s1.trans s2
      obtain ⟨k1, k2, k3⟩ := fin H2 Lr fd w y s12 (nw_old s1 j3) (nw_old s1 j4) j2 j1
      refine ⟨c, vs, w, rfl, rfl, s12 _ _ hc, by rw [hi.length]; exact hz, ?_⟩
      have hcg : c ∈ g := by rw [eg]; exact List.mem_append_right _ (List.mem_append_left _ List.mem_cons_self)
      have hca : a ≠ c := fun z => hnd'.1 (z ▸ hcg)
      have st : Stb H2 (upd H2 c (.lst (vs ++ [w]))) := Stb.upd (s12 _ _ hc) rfl
      have aH := (gd a List.mem_cons_self).at_
      obtain ⟨o', ev⟩ := go H2 (upd H2 c (.lst (vs ++ [w]))) fd Lr (fUpdK (β := List (den u)) d x (xs ++ [y])) (a :: (gx ++ ((c :: (gc ++ fd)) ++ gy))) s12 (nw_old s1 j3) (nw_old s1 j4) j5 (upd_oth (List.mem_cons_of_mem _ hcg)) upd_up st
        (by
          rw [hupd]
          exact hrep _ _ _ _ (by rw [upd_ne hca, same_at s12 aH]) k1)
        (List.nodup_cons.mpr ⟨fun z => (k3 a z).elim hnd'.1 fun z => (by
          have := (nw_old s1 j3 a z).1
          rw [this] at aH
          cases aH), k2⟩)
        (fun b hb => by
          rcases List.mem_cons.mp hb with z | hb
          · exact .inl (z ▸ List.mem_cons_self)
          · exact (k3 b hb).elim (fun z => .inl (List.mem_cons_of_mem _ z)) .inr)
      exact p _ σ _ o' ev
    rcases key_of hk r1.b with ⟨k1, key, rfl, ek⟩ | ⟨k1, ks, b, rfl, hb, ek⟩
    · rcases hr with ⟨_, kvs, hl, hk3⟩ | ⟨k2, _⟩
      · unfold fGetK at e4
        rw [k1, if_neg Bool.false_ne_true] at e4
        obtain ⟨c, hv, hq⟩ := core (keyS k) kvs key ek hk3 e4 (by unfold fUpdK; rw [k1, if_neg Bool.false_ne_true]) fun H3 L3 g3 d3 ha h3 => ⟨a, g3, rfl, rfl, .inl ⟨k1, kvs, ha.trans hl, h3⟩⟩
        exact ⟨a, .ref c, rfl, .inl ⟨kvs, key, .inl (s1 _ _ hl), rfl, hv.symm⟩, hq⟩
      · rw [k1] at k2
        cases k2
    · rcases hr with ⟨k2, _⟩ | ⟨_, kvs, hl, hk3⟩
      · rw [k1] at k2
        cases k2
      · unfold fGetK at e4
        rw [if_pos k1] at e4
        obtain ⟨c, hv, hq⟩ := core (keyT k) kvs ks ek hk3 e4 (by unfold fUpdK; rw [if_pos k1]) fun H3 L3 g3 d3 ha h3 => ⟨a, g3, rfl, rfl, .inr ⟨k1, kvs, ha.trans hl, h3⟩⟩
        exact ⟨a, .ref c, rfl, .inr ⟨kvs, ks, b, .inl (s1 _ _ hl), rfl, hb, hv.symm⟩, hq⟩
  · cases e
theorem rp_own {te : TE} {m : Em} {t : Ty} {F : Gam ts → Option (den t)} (h : RP K ms ts te m t F) : RP K ms ts te m (.own t) F := fun E L Γ σ H xt Q d o e q => h E L Γ σ H xt Q d o e fun v H' s r => q v H' s (by cases m <;> exact r)
end
end VV

/-! VMore10: more of texts and numbers. -/
namespace VV
open PySem L2
open PyProof.Rows hiding St

section
variable {K : PySem.W.Frag} {E : Ent} {ms ms' : List Md} {ts : List Ty} {L L1 : Reg} {Γ Γ1 : Gam ts} {σ σ1 : St} {H H' H0 H1 H2 : Hp} {xt : List Addr} {rm : Rm} {ρ : Ty}
theorem f2_strs {R : Reg} : ∀ {vs : List V} {ds : List Str}, F2 (rS K H R .str).1 vs ds → vs = ds.map V.str
  | [], [], _ => rfl
  | v :: vs, d :: ds, h => by
    have h1 : v = .str d := h.1.1
    rw [h1, f2_strs h.2]
    rfl
  | [], _ :: _, h => h.elim
  | _ :: _, [], h => h.elim
theorem strs_f2 {R : Reg} : ∀ {ds : List Str}, ds.all PyData.strOk = true → F2 (rS K H R .str).1 (ds.map V.str) ds
  | [], _ => True.intro
  | d :: ds, h => by
    rw [List.all_cons, Bool.and_eq_true] at h
    exact ⟨⟨rfl, h.1⟩, strs_f2 h.2⟩
/-- a.join(xs) -/
def fJoin (a : Str) (ys : List Str) : Option Str := okIf (decide ((ys.map (·.length)).sum + ys.length * a.length ≤ 16777216) && PyData.strOk (Txt.join a ys)) (Txt.join a ys)
abbrev rJoin (K : PySem.W.Frag) : V → List V → Hp → VK → Prop := fun x xs H Q => ∃ a p, ∃ ys : List Str, x = .str a ∧ xs = [.ref p] ∧ (SqL K H p (ys.map V.str) ∨ SqT K H p (ys.map V.str)) ∧ (ys.map (·.length)).sum + ys.length * a.length ≤ 16777216 ∧ Q (.str (Txt.join a ys)) H
theorem rp_join {m m1 m2 : Em} {to te : TE} {F : Gam ts → Option Str} {G : Gam ts → Option (List Str)} (h : RP K ms ts to m1 .str F) (h' : RP K ms ts te m2 (.list .str) G) : RP K ms ts (tM1 (rJoin K) to te) m .str (e2 fJoin F G) := fun E L Γ σ H xt Q d o e q => by
  obtain ⟨a, ea, e⟩ := bind_some e
  obtain ⟨ys, ey, e⟩ := bind_some e
  dsimp only [fJoin, okIf] at e
  split at e
  · rename_i hz
    cases e
    rw [Bool.and_eq_true] at hz
    refine h E L Γ σ H xt _ a o ea fun v H1 s1 r1 => ?_
    cases (show v = .str a from r1.b.1)
    refine ⟨⟨a, rfl⟩, h' E L Γ σ H1 xt _ ys (o.same s1) ey fun w H2 s2 r2 => ?_⟩
    obtain ⟨p, vs, rfl, h1, h2⟩ := r2.b
    have := f2_strs h2
    subst this
    exact ⟨a, p, ys, rfl, rfl, .inl h1.seq, of_decide_eq_true hz.1, q _ H2 (s1.trans s2) (rep_atom rfl ⟨rfl, hz.2⟩)⟩
  · cases e
theorem pe_joinK {X : Cx} (K : PySem.W.Frag) (hK : X.K = K) {o e : Expr} {to te : TE} {apos pos : Pos} (ho : PE X o to) (he : PE X e te) (hs : starEach [e] X.env = [(false, eval e X.env)] := by rfl) (hbase : attributeBase o "join" X.env (eval o X.env) = eval o X.env := by rfl) (hline : (apos.endLine == pos.line) = true := by rfl) :
    PE X (.Call (.Attribute o "join" apos) [e] [] pos) (tM1 (rJoin K) to te) := by
  subst hK
  exact pe_join ho he hs hbase hline
/-- a.split(b) -/
def fSplit (a b : Str) : Option (List Str) := okIf ((b.length != 0) && (decide (a.length + 2 ≤ sizeLine) && (Txt.split a b).all PyData.strOk)) (Txt.split a b)
abbrev rSplit : V → List V → Hp → VK → Prop := fun x xs H Q => ∃ a b, x = .str a ∧ xs = [.str b] ∧ (b.length == 0) = false ∧ a.length + 2 ≤ sizeLine ∧ rNewStrs (Txt.split a b) H Q
theorem rp_split {m1 m2 : Em} {to te : TE} {F G : Gam ts → Option Str} (h : RP K ms ts to m1 .str F) (h' : RP K ms ts te m2 .str G) : RP K ms ts (tM1 rSplit to te) .o (.list .str) (e2 fSplit F G) := fun E L Γ σ H xt Q d o e q => by
  obtain ⟨a, ea, e⟩ := bind_some e
  obtain ⟨b, eb, e⟩ := bind_some e
  dsimp only [fSplit, okIf] at e
  split at e
  · rename_i hz
    cases e
    rw [Bool.and_eq_true, Bool.and_eq_true] at hz
    refine h E L Γ σ H xt _ a o ea fun v H1 s1 r1 => ?_
    cases (show v = .str a from r1.b.1)
    refine ⟨⟨a, rfl⟩, h' E L Γ σ H1 xt _ b (o.same s1) eb fun w H2 s2 r2 => ?_⟩
    cases (show w = .str b from r2.b.1)
    refine ⟨a, b, rfl, rfl, by simpa using hz.1, of_decide_eq_true hz.2.1, fun p hp => ?_⟩
    obtain ⟨s, r⟩ := rep_newL (K := K) (E := E) (L := L) (t := .str) (R := fun _ => True) rfl (s1.trans s2) hp (strs_f2 hz.2.2)
    exact q _ _ s r
  · cases e
/-- a.partition(b) -/
def fPartition (a b : Str) : Option (Str × Str × Str) := okIf ((b.length != 0) && (decide (a.length ≤ sizeLine) && (PyData.strOk (Txt.partition a b).1 && (PyData.strOk (Txt.partition a b).2.1 && PyData.strOk (Txt.partition a b).2.2)))) ((Txt.partition a b).1, (Txt.partition a b).2.1, (Txt.partition a b).2.2)
abbrev rPartition : V → List V → Hp → VK → Prop := fun x xs H Q => ∃ a b, x = .str a ∧ xs = [.str b] ∧ (b.length == 0) = false ∧ a.length ≤ sizeLine ∧
      ∀ p, H p = none → Q (.ref p) (upd H p (.tup [.str (Txt.partition a b).1, .str (Txt.partition a b).2.1, .str (Txt.partition a b).2.2]))
theorem rp_partition {m m1 m2 : Em} {to te : TE} {F G : Gam ts → Option Str} (h : RP K ms ts to m1 .str F) (h' : RP K ms ts te m2 .str G) : RP K ms ts (tM1 rPartition to te) m (.tup (.cons .str (.cons .str (.last .str)))) (e2 fPartition F G) := fun E L Γ σ H xt Q d o e q => by
  obtain ⟨a, ea, e⟩ := bind_some e
  obtain ⟨b, eb, e⟩ := bind_some e
  dsimp only [fPartition, okIf] at e
  split at e
  · rename_i hz
    cases e
    simp only [Bool.and_eq_true] at hz
    refine h E L Γ σ H xt _ a o ea fun v H1 s1 r1 => ?_
    cases (show v = .str a from r1.b.1)
    refine ⟨⟨a, rfl⟩, h' E L Γ σ H1 xt _ b (o.same s1) eb fun w H2 s2 r2 => ?_⟩
    cases (show w = .str b from r2.b.1)
    refine ⟨a, b, rfl, rfl, by simpa using hz.1, of_decide_eq_true hz.2.1, fun p hp => ?_⟩
    refine q _ _ ((s1.trans s2).trans (same_new hp)) (Rep.frz (R := fun _ => True) rfl m ⟨p, _, rfl, upd_same, _, _, rfl, ⟨rfl, hz.2.2.1⟩, _, _, rfl, ⟨rfl, hz.2.2.2.1⟩, _, rfl, rfl, hz.2.2.2.2⟩)
  · cases e
/-- abs, max, min, int of a truth, int of a text -/
theorem rp_abs {m m' : Em} {te : TE} {F : Gam ts → Option Int} (h : RP K ms ts te m' .int F) : RP K ms ts (tCB (fun xs H Q => ∃ i, xs = [.int i] ∧ Q (.int (if i < 0 then -i else i)) H) (tCons te tNil)) m .int (e1 (fun i => some (if i < 0 then -i else i)) F) := fun E L Γ σ H xt Q d o e q => by
  obtain ⟨a, ea, e⟩ := bind_some e
  cases e
  refine h E L Γ σ H xt _ a o ea fun v H1 s1 r1 => ?_
  cases (show v = .int a from r1.b)
  exact ⟨a, rfl, q _ H1 s1 (rep_atom rfl rfl)⟩
theorem rp_max2 {m m1 m2 : Em} {ta tb : TE} {F G : Gam ts → Option Int} (h : RP K ms ts ta m1 .int F) (h' : RP K ms ts tb m2 .int G) : RP K ms ts (tCB (fun xs H Q => ∃ i j, xs = [.int i, .int j] ∧ Q (.int (if j > i then j else i)) H) (tCons ta (tCons tb tNil))) m .int (e2 (fun i j => some (if j > i then j else i)) F G) := fun E L Γ σ H xt Q d o e q => by
  obtain ⟨a, ea, e⟩ := bind_some e
  obtain ⟨b, eb, e⟩ := bind_some e
  cases e
  refine h E L Γ σ H xt _ a o ea fun v H1 s1 r1 => h' E L Γ σ H1 xt _ b (o.same s1) eb fun w H2 s2 r2 => ?_
  cases (show v = .int a from r1.b)
  cases (show w = .int b from r2.b)
  exact ⟨a, b, rfl, q _ H2 (s1.trans s2) (rep_atom rfl rfl)⟩
theorem rp_min2 {m m1 m2 : Em} {ta tb : TE} {F G : Gam ts → Option Int} (h : RP K ms ts ta m1 .int F) (h' : RP K ms ts tb m2 .int G) : RP K ms ts (tCB (fun xs H Q => ∃ i j, xs = [.int i, .int j] ∧ Q (.int (if j < i then j else i)) H) (tCons ta (tCons tb tNil))) m .int (e2 (fun i j => some (if j < i then j else i)) F G) := fun E L Γ σ H xt Q d o e q => by
  obtain ⟨a, ea, e⟩ := bind_some e
  obtain ⟨b, eb, e⟩ := bind_some e
  cases e
  refine h E L Γ σ H xt _ a o ea fun v H1 s1 r1 => h' E L Γ σ H1 xt _ b (o.same s1) eb fun w H2 s2 r2 => ?_
  cases (show v = .int a from r1.b)
  cases (show w = .int b from r2.b)
  exact ⟨a, b, rfl, q _ H2 (s1.trans s2) (rep_atom rfl rfl)⟩
theorem rp_intB {m m' : Em} {te : TE} {F : Gam ts → Option Bool} (h : RP K ms ts te m' .bool F) : RP K ms ts (tCB (fun xs H Q => (∃ i, xs = [.int i] ∧ Q (.int i) H) ∨ ∃ k, xs = [.bl k] ∧ Q (.int (if k then 1 else 0)) H) (tCons te tNil)) m .int (e1 (fun k => some (if k = true then 1 else 0)) F) := fun E L Γ σ H xt Q d o e q => by
  obtain ⟨a, ea, e⟩ := bind_some e
  cases e
  refine h E L Γ σ H xt _ a o ea fun v H1 s1 r1 => ?_
  cases (show v = .bl a from r1.b)
  exact .inr ⟨a, rfl, q _ H1 s1 (rep_atom rfl rfl)⟩
def fIntS (a : Str) : Option Int := if a.length ≤ 640 then PySem.intText? a else none
theorem rp_intS {m m' : Em} {te : TE} {F : Gam ts → Option Str} (h : RP K ms ts te m' .str F) : RP K ms ts (tCB (fun xs H Q => ∃ a n, xs = [.str a] ∧ PySem.intText? a = some n ∧ a.length ≤ 640 ∧ Q (.int n) H) (tCons te tNil)) m .int (e1 fIntS F) := fun E L Γ σ H xt Q d o e q => by
  obtain ⟨a, ea, e⟩ := bind_some e
  unfold fIntS at e
  split at e
  · rename_i hz
    refine h E L Γ σ H xt _ a o ea fun v H1 s1 r1 => ?_
    cases (show v = .str a from r1.b.1)
    exact ⟨a, d, rfl, e, hz, q _ H1 s1 (rep_atom rfl rfl)⟩
  · cases e
end
end VV

/-! VMore11: all, any over lists of truths. -/
namespace L2
open PySem PySem.Spec PyProof.Rows
section
variable {X : Cx}
def rAllD (K : PySem.W.Frag) : List V → Hp → VK → Prop := fun xs H Q => ∃ (a : Addr) (ds : List PyData), xs = [.ref a] ∧ Dp K H (.ref a) (.list ds) ∧ PyData.plainAll ds = true ∧ (∀ x ∈ ds, x.fits63) ∧ Q (.bl (ds.all PyData.truthy)) H
def rAnyD (K : PySem.W.Frag) : List V → Hp → VK → Prop := fun xs H Q => ∃ (a : Addr) (ds : List PyData), xs = [.ref a] ∧ Dp K H (.ref a) (.list ds) ∧ PyData.plainAll ds = true ∧ (∀ x ∈ ds, x.fits63) ∧ Q (.bl (ds.any PyData.truthy)) H
theorem call_allD (hc : X.calm = true) : CallR X (.builtin "all") (rAllD X.K) := by
  intro pins s σ H xs us Q I r h
  obtain ⟨a, ds, rfl, hl, hp, hf, q⟩ := h
  cases r with
  | cons r rt =>
    cases rt
    cases r
    cases hl with
    | lst hs ha =>
      obtain ⟨its, rv, pl, hz⟩ := I.list hs
      obtain ⟨as, h4⟩ := Dp.readsAll I ds _ its ha rv
      exact PySem.W.all_list_data (I.ok.hd hc) pl.isList h4 hp hf fun h' tk hk => ⟨.bl _, H, I.kept (t' := tk) hk, rfl, q⟩
theorem call_anyD (hc : X.calm = true) : CallR X (.builtin "any") (rAnyD X.K) := by
  intro pins s σ H xs us Q I r h
  obtain ⟨a, ds, rfl, hl, hp, hf, q⟩ := h
  cases r with
  | cons r rt =>
    cases rt
    cases r
    cases hl with
    | lst hs ha =>
      obtain ⟨its, rv, pl, hz⟩ := I.list hs
      obtain ⟨as, h4⟩ := Dp.readsAll I ds _ its ha rv
      exact PySem.W.any_list_data (I.ok.hd hc) pl.isList h4 hp hf fun h' tk hk => ⟨.bl _, H, I.kept (t' := tk) hk, rfl, q⟩
end
end L2
namespace VV
open PySem L2
open PyProof.Rows hiding St
section
variable {K : PySem.W.Frag} {E : Ent} {ms ms' : List Md} {ts : List Ty} {L L1 : Reg} {Γ Γ1 : Gam ts} {σ σ1 : St} {H H' H0 H1 H2 : Hp} {xt : List Addr} {rm : Rm} {ρ : Ty}
theorem bools_ok (ds : List Bool) : PyData.plainAll (ds.map (emb .bool).1) = true ∧ (∀ x ∈ ds.map (emb .bool).1, x.fits63) ∧ (ds.map (emb .bool).1).all PyData.truthy = ds.all id ∧ (ds.map (emb .bool).1).any PyData.truthy = ds.any id := by
  refine ⟨?_, fun x hx => ?_, by rw [List.all_map]; rfl, by rw [List.any_map]; rfl⟩
  · induction ds with
    | nil => rfl
    | cons d ds ih =>
      rw [List.map_cons, PyData.plainAll, ih]
      rfl
  · obtain ⟨b, _, rfl⟩ := List.mem_map.mp hx
    exact True.intro
abbrev fAll (d : List Bool) : Option Bool := some (d.all id)
abbrev fAny (d : List Bool) : Option Bool := some (d.any id)
theorem rp_all {m m' : Em} {te : TE} {F : Gam ts → Option (List Bool)} (h : RP K ms ts te m' (.list .bool) F) : RP K ms ts (tCB (rAllD K) (tCons te tNil)) m .bool (e1 fAll F) := fun E L Γ σ H xt Q d o e q => by
  obtain ⟨a, ea, e⟩ := bind_some e
  cases e
  refine h E L Γ σ H xt _ a o ea fun v H1 s1 r1 => ?_
  have hd := (rS_dp (.list .bool) rfl).1 v a r1.b
  obtain ⟨p, vs, rfl, _⟩ := r1.b
  obtain ⟨k1, k2, k3, _⟩ := bools_ok a
  exact ⟨p, _, rfl, hd, k1, k2, by rw [k3]; exact q _ H1 s1 (rep_atom rfl rfl)⟩
theorem rp_any_ {m m' : Em} {te : TE} {F : Gam ts → Option (List Bool)} (h : RP K ms ts te m' (.list .bool) F) : RP K ms ts (tCB (rAnyD K) (tCons te tNil)) m .bool (e1 fAny F) := fun E L Γ σ H xt Q d o e q => by
  obtain ⟨a, ea, e⟩ := bind_some e
  cases e
  refine h E L Γ σ H xt _ a o ea fun v H1 s1 r1 => ?_
  have hd := (rS_dp (.list .bool) rfl).1 v a r1.b
  obtain ⟨p, vs, rfl, _⟩ := r1.b
  obtain ⟨k1, k2, _, k3⟩ := bools_ok a
  exact ⟨p, _, rfl, hd, k1, k2, by rw [k3]; exact q _ H1 s1 (rep_atom rfl rfl)⟩
end
end VV

/-! VMore12: sum, max, min of a list of ints. -/
namespace VV
open PySem L2
open PyProof.Rows hiding St
section
variable {K : PySem.W.Frag} {E : Ent} {ms ms' : List Md} {ts : List Ty} {L L1 : Reg} {Γ Γ1 : Gam ts} {σ σ1 : St} {H H' H0 H1 H2 : Hp} {xt : List Addr} {rm : Rm} {ρ : Ty}
theorem f2_intsV {R : Reg} : ∀ {vs : List V} {ds : List Int}, F2 (rS K H R .int).1 vs ds → vs = ds.map V.int
  | [], [], _ => rfl
  | v :: vs, d :: ds, h => by
    have h1 : v = .int d := h.1
    rw [h1, f2_intsV h.2]
    rfl
  | [], _ :: _, h => h.elim
  | _ :: _, [], h => h.elim
abbrev fSum (d : List Int) : Option Int := some d.sum
theorem rp_sum {m m' : Em} {te : TE} {F : Gam ts → Option (List Int)} (h : RP K ms ts te m' (.list .int) F) : RP K ms ts (tCB (rSum K) (tCons te tNil)) m .int (e1 fSum F) := fun E L Γ σ H xt Q d o e q => by
  obtain ⟨a, ea, e⟩ := bind_some e
  cases e
  refine h E L Γ σ H xt _ a o ea fun v H1 s1 r1 => ?_
  obtain ⟨p, vs, rfl, h1, h2⟩ := r1.b
  have := f2_intsV h2
  subst this
  exact ⟨p, a, rfl, h1.seq, q _ H1 s1 (rep_atom rfl rfl)⟩
def fMaxL (d : List Int) : Option Int := d.max?
def fMinL (d : List Int) : Option Int := d.min?
theorem rp_maxL {m m' : Em} {te : TE} {F : Gam ts → Option (List Int)} (h : RP K ms ts te m' (.list .int) F) : RP K ms ts (tCB (rMax K) (tCons te tNil)) m .int (e1 fMaxL F) := fun E L Γ σ H xt Q d o e q => by
  obtain ⟨a, ea, e⟩ := bind_some e
  refine h E L Γ σ H xt _ a o ea fun v H1 s1 r1 => ?_
  obtain ⟨p, vs, rfl, h1, h2⟩ := r1.b
  have := f2_intsV h2
  subst this
  have e : a.max? = some d := e
  rw [List.max?_eq_some_iff] at e
  refine ⟨p, a, rfl, h1.seq, List.length_pos_of_mem e.1, fun m' hm hmax => ?_⟩
  have : m' = d := Int.le_antisymm (e.2 m' hm) (hmax d e.1)
  subst this
  exact q _ H1 s1 (rep_atom rfl rfl)
theorem rp_minL {m m' : Em} {te : TE} {F : Gam ts → Option (List Int)} (h : RP K ms ts te m' (.list .int) F) : RP K ms ts (tCB (rMin K) (tCons te tNil)) m .int (e1 fMinL F) := fun E L Γ σ H xt Q d o e q => by
  obtain ⟨a, ea, e⟩ := bind_some e
  refine h E L Γ σ H xt _ a o ea fun v H1 s1 r1 => ?_
  obtain ⟨p, vs, rfl, h1, h2⟩ := r1.b
  have := f2_intsV h2
  subst this
  have e : a.min? = some d := e
  rw [List.min?_eq_some_iff] at e
  refine ⟨p, a, rfl, h1.seq, List.length_pos_of_mem e.1, fun m' hm hmin => ?_⟩
  have : m' = d := Int.le_antisymm (hmin d e.1) (e.2 m' hm)
  subst this
  exact q _ H1 s1 (rep_atom rfl rfl)
end
end VV

/-! VMore13: owned names lent for the while, dicts locked and walked. -/
namespace VV
open PySem L2
open PyProof.Rows hiding St
section
variable {K : PySem.W.Frag} {E : Ent} {ms ms' : List Md} {ts : List Ty} {L L1 : Reg} {Γ Γ1 : Gam ts} {σ σ1 : St} {H H' H0 H1 H2 : Hp} {xt : List Addr} {rm : Rm} {ρ : Ty}
/-! ### owned names, lent for the while (mode f) -/
/-- .w names of such a block are without cells (so none of them may lead to what is lent) -/
def okBor : List Md → List Md → List Ty → Bool
  | [], [], [] => true
  | m :: ms, m' :: ms', t :: ts => ((m == m' && (m != .w || t.frz)) || ((m == .o || m == .w) && m' == .f)) && okBor ms ms' ts
  | _, _, _ => false
/-- names of mode f are as they were -/
def KeepL : List Md → (ts : List Ty) → Gam ts → Gam ts → St → St → Prop
  | m :: ms, _ :: ts, Γ, Γ', s :: σ, s' :: σ' => (m = .f → Γ'.1 = Γ.1 ∧ s' = s) ∧ KeepL ms ts Γ.2 Γ'.2 σ σ'
  | _, _, _, _, _, _ => True
theorem keepL_of : ∀ {ms : List Md} {ts : List Ty} {Γ Γ' : Gam ts} {σ σ' : St}, KeepF ms ts Γ Γ' σ σ' → KeepL ms ts Γ Γ' σ σ'
  | m :: ms, t :: ts, Γ, Γ', s :: σ, s' :: σ', h => ⟨fun e => by
      subst e
      have h1 := h.1 t .z .f rfl rfl
      have h2 := h.2 0 .f rfl rfl
      exact ⟨h1, by simpa using h2⟩, keepL_of ⟨fun u i m' e hh => h.1 u (.s i) m' e hh, fun n m' e hh => by simpa using h.2 (n + 1) m' (by simpa using e) hh⟩⟩
  | [], [], _, _, _, _, _ => True.intro
  | [], _ :: _, _, _, _, _, _ => True.intro
  | _ :: _, [], _, _, _, _, _ => True.intro
  | _ :: _, _ :: _, _, _, [], _, _ => True.intro
  | _ :: _, _ :: _, _, _, _ :: _, [], _ => True.intro
theorem perm_mid {α : Type} {a b c d : List α} : (a ++ (b ++ (c ++ d))).Perm (a ++ c ++ (b ++ d)) := by
  rw [List.append_assoc]
  refine List.Perm.append_left a ?_
  rw [← List.append_assoc, ← List.append_assoc]
  exact List.Perm.append_right d List.perm_append_comm
theorem rG_bor : ∀ {ms ms' : List Md} {ts : List Ty} {Γ : Gam ts} {σ : St} {fp : List Addr} {S0 : Reg}, okBor ms ms' ts = true → rG K H S0 L ms ts Γ σ fp →
    ∃ fp' fb, fp.Perm (fp' ++ fb) ∧ (∀ S1 : Reg, (∀ a, S0 a → S1 a) → (∀ a ∈ fb, S1 a) → rG K H S1 L ms' ts Γ σ fp') ∧
      ∀ (H' : Hp) (L' S1 : Reg) (Γ' : Gam ts) (σ' : St) (fp2 : List Addr), Cov H H' S0 S0 → Cov H H' L L' → Stb H H' → (∀ a ∈ fb, H' a = H a) → KeepL ms' ts Γ Γ' σ σ' → rG K H' S1 L' ms' ts Γ' σ' fp2 →
        ∃ fp3, rG K H' S0 L' ms ts Γ' σ' fp3 ∧ fp3.Perm (fp2 ++ fb)
  | [], [], [], _, σ, fp, S0, _, h => by
    obtain ⟨rfl, rfl⟩ := h
    exact ⟨[], [], List.Perm.refl _, fun S1 _ _ => ⟨rfl, rfl⟩, fun H' L' S1 Γ' σ' fp2 _ _ _ _ _ g => ⟨fp2, g, by rw [List.append_nil]⟩⟩
  | m :: ms, m' :: ms', t :: ts, Γ, [], fp, S0, _, h => h.elim
  | m :: ms, m' :: ms', t :: ts, Γ, s :: σ, fp, S0, hk, h => by
    obtain ⟨f1, f2, rfl, h1, h2⟩ := h
    simp only [okBor, Bool.and_eq_true] at hk
    obtain ⟨fp', fb, hp, g1, g2⟩ := rG_bor hk.2 h2
    have tail : ∀ {S1 : Reg} {L' : Reg} {H' : Hp} {Γ' : Gam (t :: ts)} {s' : Option V} {σ' : St} {fp2 : List Addr}, rG K H' S1 L' (m' :: ms') (t :: ts) Γ' (s' :: σ') fp2 → ∃ a b, fp2 = a ++ b ∧ slot K H' S1 L' m' t Γ'.1 s' a ∧ rG K H' S1 L' ms' ts Γ'.2 σ' b := fun x => x
    by_cases hb : m = .o ∧ m' = .f
    · obtain ⟨rfl, rfl⟩ := hb
      refine ⟨fp', f1 ++ fb, ?_, fun S1 c1 c2 => ⟨[], fp', rfl, ?_, g1 S1 c1 fun a ha => c2 a (List.mem_append_right _ ha)⟩, fun H' L' S1 Γ' σ' fp2 c1 c2 c3 c4 c5 c6 => ?_⟩
      · exact (List.Perm.append_left f1 hp).trans (by
          rw [← List.append_assoc, ← List.append_assoc]
          exact List.Perm.append_right fb List.perm_append_comm)
      · cases hd : Γ.1 with
        | none => rfl
        | some d =>
          rw [hd] at h1
          obtain ⟨v, e, r⟩ := h1
          exact ⟨v, e, rfl, (rO_s (fun a h => .inr h) t).1 v d f1 (fun a ha => .inl (c2 a (List.mem_append_left _ ha))) r⟩
      · cases σ' with
        | nil => exact c6.elim
        | cons s' σ' =>
          obtain ⟨a, b, rfl, k1, k2⟩ := tail c6
          obtain ⟨e1, e2⟩ := c5.1 rfl
          obtain ⟨fp3, k3, k4⟩ := g2 H' L' S1 Γ'.2 σ' b c1 c2 c3 (fun a ha => c4 a (List.mem_append_right _ ha)) c5.2 k2
          refine ⟨f1 ++ fp3, ⟨f1, fp3, rfl, ?_, k3⟩, ?_⟩
          · rw [e1, e2]
            exact slot_mono (m := .o) c1 c2 c3 (fun a ha => c4 a (List.mem_append_left _ ha)) h1
          · have ea : a = [] := by
              cases hd : Γ'.1 with
              | none => rw [hd] at k1; exact k1
              | some d =>
                rw [hd] at k1
                obtain ⟨v, _, z, _⟩ := k1
                exact z
            subst ea
            refine (List.Perm.append_left f1 k4).trans ?_
            rw [List.nil_append, ← List.append_assoc, ← List.append_assoc]
            exact List.Perm.append_right fb List.perm_append_comm
    · by_cases hwf : m = .w ∧ m' = .f
      · obtain ⟨rfl, rfl⟩ := hwf
        have e0 : f1 = [] := by
          cases hd : Γ.1 with
          | none => rw [hd] at h1; exact h1
          | some d => rw [hd] at h1; obtain ⟨_, _, z, _⟩ := h1; exact z
        subst e0
        refine ⟨fp', fb, hp, fun S1 c1 c2 => ⟨[], fp', rfl, ?_, g1 S1 c1 c2⟩, fun H' L' S1 Γ' σ' fp2 c1 c2 c3 c4 c5 c6 => ?_⟩
        · cases hd : Γ.1 with
          | none => rfl
          | some d =>
            rw [hd] at h1
            obtain ⟨v, e, r⟩ := h1
            exact ⟨v, e, rfl, (rS_mono (Cov.of_reg fun a h _ => h.elim (fun y => .inl (c1 a y)) .inr) (Stb.refl _) t).1 _ _ r.2⟩
        · cases σ' with
          | nil => exact c6.elim
          | cons s' σ' =>
            obtain ⟨a, b, rfl, k1, k2⟩ := tail c6
            obtain ⟨e1, e2⟩ := c5.1 rfl
            obtain ⟨fp3, k3, k4⟩ := g2 H' L' S1 Γ'.2 σ' b c1 c2 c3 c4 c5.2 k2
            have ea : a = [] := by
              cases hd : Γ'.1 with
              | none => rw [hd] at k1; exact k1
              | some d => rw [hd] at k1; obtain ⟨_, _, z, _⟩ := k1; exact z
            subst ea
            refine ⟨fp3, ⟨[], fp3, rfl, ?_, k3⟩, k4⟩
            rw [e1, e2]
            exact slot_mono (m := .w) c1 c2 c3 (fun b hb => by cases hb) h1
      have hm : m = m' ∧ (m ≠ .w ∨ t.frz = true) := by
        have := hk.1
        simp only [Bool.or_eq_true, Bool.and_eq_true, beq_iff_eq, bne_iff_ne] at this
        rcases this with h | ⟨h | h, h'⟩
        · exact ⟨h.1, h.2⟩
        · exact absurd ⟨h, h'⟩ hb
        · exact absurd ⟨h, h'⟩ hwf
      obtain ⟨rfl, hw⟩ := hm
      refine ⟨f1 ++ fp', fb, ?_, fun S1 c1 c2 => ⟨f1, fp', rfl, ?_, g1 S1 c1 c2⟩, fun H' L' S1 Γ' σ' fp2 c1 c2 c3 c4 c5 c6 => ?_⟩
      · rw [List.append_assoc]
        exact List.Perm.append_left f1 hp
      · cases hd : Γ.1 with
        | none =>
          rw [hd] at h1
          exact h1
        | some d =>
          rw [hd] at h1
          obtain ⟨v, e, r⟩ := h1
          refine ⟨v, e, ?_⟩
          have up : ∀ {v : V} {d : den t}, (rS K H (fun a => S0 a ∨ L a) t).1 v d → (rS K H (fun a => S1 a ∨ L a) t).1 v d := fun z => (rS_mono (Cov.of_reg fun a h _ => h.elim (fun y => .inl (c1 a y)) .inr) (Stb.refl _) t).1 _ _ z
          cases m <;> first | exact r | exact ⟨r.1, up r.2⟩
      · cases σ' with
        | nil => exact c6.elim
        | cons s' σ' =>
          obtain ⟨a, b, rfl, k1, k2⟩ := tail c6
          obtain ⟨fp3, k3, k4⟩ := g2 H' L' S1 Γ'.2 σ' b c1 c2 c3 c4 c5.2 k2
          refine ⟨a ++ fp3, ⟨a, fp3, rfl, ?_, k3⟩, by rw [List.append_assoc]; exact List.Perm.append_left a k4⟩
          by_cases hf : m = .f
          · subst hf
            obtain ⟨e1, e2⟩ := c5.1 rfl
            rw [e1, e2]
            have z := slot_mono (m := .f) (f := f1) c1 c2 c3 (fun b hb => ?_) h1
            · have e0 : f1 = [] := by
                cases hd : Γ.1 with
                | none => rw [hd] at h1; exact h1
                | some d => rw [hd] at h1; obtain ⟨_, _, z, _⟩ := h1; exact z
              have ea : a = [] := by
                cases hd : Γ'.1 with
                | none => rw [hd] at k1; exact k1
                | some d => rw [hd] at k1; obtain ⟨_, _, z, _⟩ := k1; exact z
              rw [ea, ← e0]
              exact z
            · have e0 : f1 = [] := by
                cases hd : Γ.1 with
                | none => rw [hd] at h1; exact h1
                | some d => rw [hd] at h1; obtain ⟨_, _, z, _⟩ := h1; exact z
              rw [e0] at hb
              cases hb
          · cases hd : Γ'.1 with
            | none =>
              rw [hd] at k1
              exact k1
            | some d =>
              rw [hd] at k1
              obtain ⟨v, e, r⟩ := k1
              refine ⟨v, e, ?_⟩
              cases m with
              | o => exact r
              | l => exact r
              | k => exact r
              | r => exact r
              | f => exact absurd rfl hf
              | w => exact ⟨r.1, (rS_frz t (hw.resolve_left fun z => z rfl)).1 v d r.2⟩
  | [], [], _ :: _, _, _, _, _, hk, _ => by simp [okBor] at hk
  | [], _ :: _, _, _, _, _, _, hk, _ => by simp [okBor] at hk
  | _ :: _, [], _, _, _, _, _, hk, _ => by simp [okBor] at hk
  | _ :: _, _ :: _, [], _, _, _, _, hk, _ => by simp [okBor] at hk
/-- E while fb is lent -/
def Ent.lend (E : Ent) (H : Hp) (fb : List Addr) : Ent := ⟨fun a => if a ∈ fb then H a else E.H0 a, fun a => E.S0 a ∨ a ∈ fb, E.io.filter fun a => !decide (a ∈ fb)⟩
theorem lend_out {a : Addr} {fb : List Addr} (h : a ∉ fb) : (E.lend H fb).H0 a = E.H0 a := if_neg h
theorem lend_in {a : Addr} {fb : List Addr} (h : a ∈ fb) : (E.lend H fb).H0 a = H a := if_pos h
theorem lend_io {a : Addr} {fb : List Addr} : a ∈ (E.lend H fb).io ↔ a ∈ E.io ∧ a ∉ fb := by
  show a ∈ E.io.filter _ ↔ _
  rw [List.mem_filter]
  simp
theorem bor_get : ∀ {ms ms' : List Md} {ts : List Ty} {n : Nat} {m : Md}, okBor ms ms' ts = true → ms[n]? = some m → m.fixd = true → ms'[n]? = some m
  | m :: ms, m' :: ms', t :: ts, 0, x, hk, h, hh => by
    simp only [okBor, Bool.and_eq_true, Bool.or_eq_true, beq_iff_eq, bne_iff_ne] at hk
    have e : m = x := by simpa using h
    subst e
    rcases hk.1 with h | ⟨h | h, h'⟩
    · rw [h.1]; rfl
    · subst h
      cases hh
    · subst h
      cases hh
  | m :: ms, m' :: ms', t :: ts, n + 1, x, hk, h, hh => by
    simp only [okBor, Bool.and_eq_true] at hk
    simpa using bor_get (n := n) hk.2 (by simpa using h) hh
  | [], _, _, _, _, _, h, _ => by simp at h
  | _ :: _, [], _, _, _, hk, _, _ => by simp [okBor] at hk
  | _ :: _, _ :: _, [], _, _, hk, _, _ => by simp [okBor] at hk
theorem Ev.bor {L' : Reg} {Γ' : Gam ts} {σ' : St} (hk : okBor ms ms' ts = true) (e : Ev ms' ts L Γ σ H L' Γ' σ' H') : Ev ms ts L Γ σ H L' Γ' σ' H' :=
  ⟨e.sub, e.cell, e.stb, fun t i m h hh => e.keep.1 t i m (bor_get hk h (hard_fixd hh)) hh, fun n m h hh => e.keep.2 n m (bor_get hk h hh) hh⟩
/-- lent: owned names are shared for the while, and owned again behind it -/
theorem Own.bor (hk : okBor ms ms' ts = true) (o : Own K E L ms ts Γ σ H xt) : ∃ fb, Own K (E.lend H fb) L ms' ts Γ σ H xt ∧
    ∀ (L' : Reg) (Γ' : Gam ts) (σ' : St) (H' : Hp) (xt' : List Addr), Own K (E.lend H fb) L' ms' ts Γ' σ' H' xt' → Ev ms' ts L Γ σ H L' Γ' σ' H' → Own K E L' ms ts Γ' σ' H' xt' := by
  obtain ⟨fp, g, nd, gd⟩ := id o.ex
  obtain ⟨fp', fb, hp, g1, g2⟩ := rG_bor hk g
  have mem : ∀ a, a ∈ fp ↔ a ∈ fp' ∨ a ∈ fb := fun a => by rw [hp.mem_iff, List.mem_append]
  have gb : ∀ a ∈ fb, Good E L H a := fun a ha => gd a (List.mem_append_left _ ((mem a).mpr (.inr ha)))
  have nd2 : (fp' ++ fb).Nodup := (hp.nodup_iff).mp (List.nodup_append.mp nd).1
  have nd3 := List.nodup_append.mp nd2
  have ndx := (List.nodup_append.mp nd).2
  have apart : ∀ a ∈ fp' ++ xt, a ∉ fb := fun a ha hb => by
    rcases List.mem_append.mp ha with h | h
    · exact nd3.2.2 a h a hb rfl
    · exact ndx.2 a ((mem a).mpr (.inr hb)) a h rfl
  refine ⟨fb, ⟨⟨fp', g1 _ (fun a h => .inl h) (fun a h => .inr h), ?_, fun a ha => ?_⟩, fun a q h1 h2 => ?_, fun a h => ?_, fun a h => ?_, fun a h => o.iod a (lend_io.mp h).1⟩, fun L' Γ' σ' H' xt' o' ev => ?_⟩
  · exact List.nodup_append.mpr ⟨nd3.1, ndx.1, fun a ha b hb z => ndx.2 a ((mem a).mpr (.inl ha)) b hb z⟩
  · have hnb := apart a ha
    have ga : Good E L H a := gd a (by
      rcases List.mem_append.mp ha with h | h
      · exact List.mem_append_left _ ((mem a).mpr (.inl h))
      · exact List.mem_append_right _ h)
    exact ⟨ga.new.elim (fun z => .inl (by rw [lend_out hnb]; exact z)) fun z => .inr (lend_io.mpr ⟨z, hnb⟩), ga.nl, fun z => z.elim ga.ns hnb, ga.at_⟩
  · by_cases hb : a ∈ fb
    · rw [lend_in hb] at h1
      exact h1
    · rw [lend_out hb] at h1
      exact o.fr a q h1 fun z => h2 (lend_io.mpr ⟨z, hb⟩)
  · have hb : a ∉ fb := fun z => (gb a z).nl h
    obtain ⟨h1, h2⟩ := o.lr a h
    exact ⟨h1.elim (fun z => .inl (by rw [lend_out hb]; exact z)) fun z => .inr (lend_io.mpr ⟨z, hb⟩), h2⟩
  · rcases h with h | h
    · have hb : a ∉ fb := fun z => (gb a z).ns h
      obtain ⟨h1, h2⟩ := o.s0 a h
      exact ⟨by rw [lend_out hb]; exact h1, fun z => h2 (lend_io.mp z).1⟩
    · exact ⟨by rw [lend_in h]; exact (gb a h).at_, fun z => (lend_io.mp z).2 h⟩
  -- behind it
  have fbs : ∀ a ∈ fb, H' a = H a := fun a ha => by
    obtain ⟨q, hq⟩ := isSome_some (gb a ha).at_
    rw [hq]
    exact o'.fr a q (by rw [lend_in ha]; exact hq) fun z => (lend_io.mp z).2 ha
  have fr : ∀ a q, E.H0 a = some q → a ∉ E.io → H' a = some q := fun a q h1 h2 => by
    have hb : a ∉ fb := fun z => by
      rcases (gb a z).new with y | y
      · rw [h1] at y; cases y
      · exact h2 y
    exact o'.fr a q (by rw [lend_out hb]; exact h1) fun z => h2 (lend_io.mp z).1
  have covL : Cov H H' L L' := fun a q h x => by
    refine ⟨ev.sub a h, ?_⟩
    cases z : H a with
    | none => rw [z] at x; cases x
    | some y => rw [ev.cell a y h z, ← z]; exact x
  obtain ⟨fp2, g3, nd4, gd4⟩ := id o'.ex
  obtain ⟨fp3, g5, hp3⟩ := g2 H' L' _ Γ' σ' fp2 (o.covS fr) covL ev.stb fbs (keepL_of ev.keep) g3
  have nb2 : ∀ a ∈ fp2 ++ xt', a ∉ fb := fun a ha hb => (gd4 a ha).ns (.inr hb)
  have nd5 := List.nodup_append.mp nd4
  have mem3 : ∀ a, a ∈ fp3 ↔ a ∈ fp2 ∨ a ∈ fb := fun a => by rw [hp3.mem_iff, List.mem_append]
  have nl' : ∀ a ∈ fb, ¬ L' a := fun a ha z => by
    rcases (o'.lr a z).1 with y | y
    · rw [lend_in ha] at y
      have := (gb a ha).at_
      rw [y] at this
      cases this
    · exact (lend_io.mp y).2 ha
  refine ⟨⟨fp3, g5, ?_, fun a ha => ?_⟩, fr, fun a h => ?_, o.s0, fun a h => ?_⟩
  · refine List.nodup_append.mpr ⟨hp3.nodup_iff.mpr (List.nodup_append.mpr ⟨nd5.1, nd3.2.1, fun a ha b hb z => ?_⟩), nd5.2.1, fun a ha b hb z => ?_⟩
    · subst z
      exact nb2 a (List.mem_append_left _ ha) hb
    · subst z
      rcases (mem3 a).mp ha with h | h
      · exact nd5.2.2 a h a hb rfl
      · exact nb2 a (List.mem_append_right _ hb) h
  · have key : a ∈ fp2 ++ xt' → Good E L' H' a := fun h => by
      have ga := gd4 a h
      have hnb := nb2 a h
      exact ⟨ga.new.elim (fun z => .inl (by rw [lend_out hnb] at z; exact z)) fun z => .inr (lend_io.mp z).1, ga.nl, fun z => ga.ns (.inl z), ga.at_⟩
    rcases List.mem_append.mp ha with h | h
    · rcases (mem3 a).mp h with h | h
      · exact key (List.mem_append_left _ h)
      · exact ⟨(gb a h).new, nl' a h, (gb a h).ns, by rw [fbs a h]; exact (gb a h).at_⟩
    · exact key (List.mem_append_right _ h)
  · obtain ⟨h1, h2⟩ := o'.lr a h
    have hb : a ∉ fb := fun z => nl' a z h
    exact ⟨h1.elim (fun z => .inl (by rw [lend_out hb] at z; exact z)) fun z => .inr (lend_io.mp z).1, h2⟩
  · by_cases hb : a ∈ fb
    · rw [fbs a hb]
      exact (gb a hb).at_
    · exact o'.iod a (lend_io.mpr ⟨h, hb⟩)
theorem rs_bor {st : TS} {F : Gam ts → Option (Fl (Gam ts) (den ρ))} (ms' : List Md) (h : RS K ms' ts st rm ρ F) (hk : okBor ms ms' ts = true := by rfl) (hr : (rm != .w || ρ.frz) = true := by rfl) : RS K ms ts st rm ρ F := fun E L Γ σ H D f o e p => by
  obtain ⟨fb, o1, back⟩ := o.bor hk
  refine h (E.lend H fb) L Γ σ H D f o1 e ?_
  cases f with
  | nx Γ' => exact fun L' σ' H' o' e' => p L' σ' H' (back L' Γ' σ' H' [] o' e') (e'.bor hk)
  | bk Γ' => exact fun L' σ' H' o' e' => p L' σ' H' (back L' Γ' σ' H' [] o' e') (e'.bor hk)
  | ct Γ' => exact fun L' σ' H' o' e' => p L' σ' H' (back L' Γ' σ' H' [] o' e') (e'.bor hk)
  | rt d Γ' =>
    refine fun L' σ' H' v xt o' e' r => p L' σ' H' v xt (back L' Γ' σ' H' xt o' e') (e'.bor hk) ?_
    cases rm with
    | o => exact r
    | l => exact r
    | w =>
      have hf : ρ.frz = true := by simpa using hr
      exact ⟨r.1, (rS_frz ρ hf).1 v d r.2⟩
/-- an expression: what it gives is not of the lent cells -/
theorem rp_bor {te : TE} {m : Em} {t : Ty} {F : Gam ts → Option (den t)} (ms' : List Md) (h : RP K ms' ts te m t F) (hk : okBor ms ms' ts = true := by rfl) (hr : (m != .w || t.frz) = true := by rfl) : RP K ms ts te m t F := fun E L Γ σ H xt Q d o e q => by
  obtain ⟨fb, o1, back⟩ := o.bor hk
  refine h (E.lend H fb) L Γ σ H xt Q d o1 e fun v H' s r => q v H' s ?_
  cases m with
  | o => exact r
  | l => exact r
  | b => exact r
  | w =>
    have hf : t.frz = true := by simpa using hr
    exact Rep.frz hf .w (r.le (m' := .b) rfl)
end
end VV

/-! VMore14: dicts locked and walked. -/
namespace VV
open PySem L2
open PyProof.Rows hiding St
section
variable {K : PySem.W.Frag} {E : Ent} {ms ms' : List Md} {ts : List Ty} {L L1 : Reg} {Γ Γ1 : Gam ts} {σ σ1 : St} {H H' H0 H1 H2 : Hp} {xt : List Addr} {rm : Rm} {ρ : Ty}
/-- two heaps that differ at a alone, by a lock of the dict there -/
structure LockAt (H H2 : Hp) (a : Addr) : Prop where
  oth : ∀ b, b ≠ a → H2 b = H b
  strip : stripD (H2 a) = stripD (H a)
  isD : ∃ u, stripD (H a) = some u ∧ isDct u = true
theorem strip_isD {x : Option HO} {u : HO} (h : stripD x = some u) (hu : isDct u = true) : x = some u ∨ ∃ od, x = some (.frz od u) := by
  cases u with
  | dK kvs => exact strip_dK (H := fun _ => x) (a := 0) h
  | dT kvs => exact strip_dT (H := fun _ => x) (a := 0) h
  | _ => cases hu
theorem LockAt.symm {a : Addr} (l : LockAt H H2 a) : LockAt H2 H a := ⟨fun b h => (l.oth b h).symm, l.strip.symm, by rw [l.strip]; exact l.isD⟩
theorem LockAt.all {a : Addr} (l : LockAt H H2 a) (b : Addr) : stripD (H2 b) = stripD (H b) := by
  by_cases h : b = a
  · rw [h]; exact l.strip
  · rw [l.oth b h]
theorem LockAt.some {a : Addr} (l : LockAt H H2 a) (b : Addr) : (H2 b).isSome = (H b).isSome := by
  by_cases h : b = a
  · subst h
    obtain ⟨u, hu, _⟩ := l.isD
    have h1 := strip_some hu
    rw [← l.strip] at hu
    rw [h1, strip_some hu]
  · rw [l.oth b h]
theorem LockAt.cov {a : Addr} (l : LockAt H H2 a) (R : Reg) : Cov H H2 R R := fun b o h e => ⟨h, by rw [l.all]; exact e⟩
theorem LockAt.covU {a : Addr} (l : LockAt H H2 a) {R R' : Reg} (hR : ∀ b, R b → R' b) : Cov H H2 R R' := fun b o h e => ⟨hR b h, by rw [l.all]; exact e⟩
theorem LockAt.ne {a b : Addr} {o : HO} (l : LockAt H H2 a) (h : H b = Option.some o) (hn : ∀ u, isDct u = true → o ≠ u ∧ ∀ od, o ≠ .frz od u) : b ≠ a := fun z => by
  subst z
  obtain ⟨u, hu, hd⟩ := l.isD
  rcases strip_isD hu hd with q | ⟨od, q⟩
  · rw [h] at q; exact (hn u hd).1 (Option.some.inj q)
  · rw [h] at q; exact (hn u hd).2 od (Option.some.inj q)
theorem LockAt.stb {a : Addr} (l : LockAt H H2 a) : Stb H H2 := by
  refine ⟨fun b xs h => ?_, fun b o xs h => ?_, fun b o xs h => ?_⟩ <;>
  · rw [l.oth b (l.ne h fun u hu => ⟨fun z => (by cases u <;> first | (cases z; done) | (cases hu; done)), fun od z => (by cases u <;> first | (cases z; done) | (cases hu; done))⟩)]
    exact h
theorem lock_upd {a : Addr} {u : HO} (h : H a = Option.some u) (hu : isDct u = true) (od : Obj) : LockAt H (upd H a (.frz od u)) a :=
  ⟨fun b hb => upd_ne hb, (by rw [upd_same, h]; cases u <;> first | rfl | cases hu), ⟨u, (by rw [h]; cases u <;> first | rfl | cases hu), hu⟩⟩
theorem lock_upd' {a : Addr} {u : HO} {od : Obj} (h : H a = Option.some (.frz od u)) (hu : isDct u = true) : LockAt H (upd H a u) a :=
  ⟨fun b hb => upd_ne hb, (by rw [upd_same, h]; cases u <;> first | rfl | cases hu), ⟨u, (by rw [h]; cases u <;> first | rfl | cases hu), hu⟩⟩
/-- the entry's heap with the same lock -/
def Ent.lock (E : Ent) (H2 : Hp) (a : Addr) : Ent := ⟨fun b => if b = a ∧ (E.H0 a).isSome = true then H2 a else E.H0 b, E.S0, E.io⟩
theorem lock_out {a b : Addr} (h : b ≠ a) : (E.lock H2 a).H0 b = E.H0 b := if_neg fun z => h z.1
theorem lock_none {a b : Addr} (h : E.H0 b = none) : (E.lock H2 a).H0 b = none := by
  show (if _ then _ else _) = none
  rw [if_neg]
  · exact h
  · rintro ⟨rfl, z⟩
    rw [h] at z
    cases z
theorem lock_in {a : Addr} (h : (E.H0 a).isSome = true) : (E.lock H2 a).H0 a = H2 a := if_pos ⟨rfl, h⟩
/-- .. of a dict that is none of the owned -/
theorem Own.lock {a : Addr} (l : LockAt H H2 a) (hs : ∀ b, E.H0 b = none ∨ b = a ∨ True) (o : Own K E L ms ts Γ σ H xt) (hreg : E.S0 a ∨ L a) : Own K (E.lock H2 a) L ms ts Γ σ H2 xt := by
  obtain ⟨fp, g, nd, gd⟩ := id o.ex
  have na : ∀ b ∈ fp ++ xt, b ≠ a := fun b hb z => by
    subst z
    exact hreg.elim (gd b hb).ns (gd b hb).nl
  refine ⟨⟨fp, rG_mono (l.cov _) (l.cov _) l.stb (fun b hb => l.oth b (na b (List.mem_append_left _ hb))) g, nd, fun b hb => ?_⟩, fun b q h1 h2 => ?_, fun b h => ?_, fun b h => ?_, fun b h => by rw [l.some]; exact o.iod b h⟩
  · have ga := gd b hb
    exact ⟨ga.new.elim (fun z => .inl (lock_none z)) .inr, ga.nl, ga.ns, by rw [l.some]; exact ga.at_⟩
  · by_cases hb : b = a
    · subst hb
      by_cases hx : (E.H0 b).isSome = true
      · rw [lock_in hx] at h1
        exact h1
      · have hn : E.H0 b = none := by simpa using hx
        rw [lock_none hn] at h1
        cases h1
    · rw [lock_out hb] at h1
      rw [l.oth b hb]
      exact o.fr b q h1 h2
  · obtain ⟨h1, h2⟩ := o.lr b h
    exact ⟨h1.elim (fun z => .inl (lock_none z)) .inr, by rw [l.some]; exact h2⟩
  · obtain ⟨h1, h2⟩ := o.s0 b h
    refine ⟨?_, h2⟩
    by_cases hb : b = a
    · subst hb
      rw [lock_in h1, l.some]
      obtain ⟨q, hq⟩ := isSome_some h1
      rw [o.fr b q hq h2]
      rfl
    · rw [lock_out hb]
      exact h1
/-- .. and back: H the heap ahead, H2 the locked one, H3 behind, H4 the unlocked -/
theorem Own.unlock {a : Addr} {L' : Reg} {Γ' : Gam ts} {σ' : St} {H3 H4 : Hp} (l : LockAt H H2 a) (l' : LockAt H3 H4 a) (e4 : H4 a = H a) (o : Own K E L ms ts Γ σ H []) (hreg : E.S0 a ∨ L a) (o' : Own K (E.lock H2 a) L' ms ts Γ' σ' H3 xt) (ev : Ev ms ts L Γ σ H2 L' Γ' σ' H3) :
    Own K E L' ms ts Γ' σ' H4 xt ∧ Ev ms ts L Γ σ H L' Γ' σ' H4 := by
  obtain ⟨fp, g, nd, gd⟩ := id o'.ex
  have reg' : (E.lock H2 a).S0 a ∨ L' a := hreg.elim .inl fun z => .inr (ev.sub a z)
  have na : ∀ b ∈ fp ++ xt, b ≠ a := fun b hb z => by
    subst z
    exact reg'.elim (gd b hb).ns (gd b hb).nl
  have back : ∀ {b}, (E.lock H2 a).H0 b = none → E.H0 b = none := fun {b} h => by
    by_cases hb : b = a
    · subst hb
      by_cases hx : (E.H0 b).isSome = true
      · rw [lock_in hx] at h
        obtain ⟨u, hu, _⟩ := l.isD
        have := l.some b
        rw [h, strip_some hu] at this
        cases this
      · simpa using hx
    · rw [lock_out hb] at h
      exact h
  refine ⟨⟨⟨fp, rG_mono (S0 := E.S0) (l'.cov _) (l'.cov _) l'.stb (fun b hb => l'.oth b (na b (List.mem_append_left _ hb))) g, nd, fun b hb => ?_⟩, fun b q h1 h2 => ?_, fun b h => ?_, o.s0, fun b h => by rw [l'.some]; exact o'.iod b h⟩, ⟨ev.sub, fun b q h x => ?_, (l.stb.trans ev.stb).trans l'.stb, ev.keep⟩⟩
  · have ga := gd b hb
    exact ⟨ga.new.elim (fun z => .inl (back z)) .inr, ga.nl, ga.ns, by rw [l'.some]; exact ga.at_⟩
  · by_cases hb : b = a
    · subst hb
      rw [e4]
      exact o.fr b q h1 h2
    · rw [l'.oth b hb]
      exact o'.fr b q (by rw [lock_out hb]; exact h1) h2
  · obtain ⟨h1, h2⟩ := o'.lr b h
    exact ⟨h1.elim (fun z => .inl (back z)) .inr, by rw [l'.some]; exact h2⟩
  · by_cases hb : b = a
    · subst hb
      rw [e4]
      exact x
    · rw [l'.oth b hb]
      exact ev.cell b q h (by rw [l.oth b hb]; exact x)
/-- locked, if it isn't yet -/
def tLock2 (t : TS) : TS := fun D σ H => tLock t D σ H ∨ t D σ H
theorem ps_lock2 {X : Cx} {st : Stmt} {t : TS} (h : PS X st t) : PS X st (tLock2 t) := ⟨fun pins s σ H D I hw => hw.elim (fun q => (ps_lock h).run pins s σ H D I q) fun q => h.run pins s σ H D I q⟩
def tLockE2 (t : TE) : TE := fun σ H Q => tLockE t σ H Q ∨ t σ H Q
theorem pe_lock2 {X : Cx} {e : Expr} {t : TE} (h : PE X e t) : PE X e (tLockE2 t) := ⟨fun pins s σ H Q I hw => hw.elim (fun q => (pe_lock h).run pins s σ H Q I q) fun q => h.run pins s σ H Q I q⟩
end
end VV

/-! VMore15: walks of dicts. -/
namespace VV
open PySem L2
open PyProof.Rows hiding St
section
variable {K : PySem.W.Frag} {E : Ent} {ms ms' : List Md} {ts : List Ty} {L L1 : Reg} {Γ Γ1 : Gam ts} {σ σ1 : St} {H H' H0 H1 H2 : Hp} {xt : List Addr} {rm : Rm} {ρ : Ty}
/-- a key that is a value again -/
def sOk : (k : Ty) → den k → Bool
  | .str, x => PyData.strOk x
  | _, _ => true
def rowOk : (b : Ty) → den b → Bool
  | .last a, d => sOk a d
  | .cons a b, d => sOk a d.1 && rowOk b d.2
  | _, _ => true
def kOk : (k : Ty) → den k → Bool
  | .str, x => PyData.strOk x
  | .tup b, d => rowOk b d
  | .vtup t, d => d.all (sOk t)
  | _, _ => true
theorem atom_of {R : Reg} {a : Ty} (h : (a == .int || a == .str) = true) {d : den a} {k : Key} (e : keyS a d = some k) (q : sOk a d = true) : (rS K H R a).1 (kV k) d := by
  cases a <;> first | cases h | skip
  · cases e; rfl
  · cases e; exact ⟨rfl, q⟩
theorem opt_bind {α β : Type} {x : Option α} {f : α → Option β} {b : β} (h : (do let a ← x; f a) = some b) : ∃ a, x = some a ∧ f a = some b := bind_some h
theorem row_of {R : Reg} : ∀ {b : Ty}, okRow b = true → ∀ {d : den b} {ks : List Key}, keyRow b d = some ks → rowOk b d = true → (rS K H R b).2 (ks.map kV) d
  | .last a, h, d, ks, e, q => by
    obtain ⟨k, e1, rfl⟩ := Option.map_eq_some_iff.mp (show (keyS a d).map _ = some ks from e)
    exact ⟨kV k, rfl, atom_of h e1 q⟩
  | .cons a b, h, d, ks, e, q => by
    simp only [okRow, Bool.and_eq_true] at h
    simp only [rowOk, Bool.and_eq_true] at q
    obtain ⟨k, e1, e⟩ := opt_bind (show (do let k ← keyS a d.1; let r ← keyRow b d.2; pure (k :: r)) = some ks from e)
    obtain ⟨r, e2, e⟩ := opt_bind e
    cases e
    exact ⟨kV k, r.map kV, rfl, atom_of h.1 e1 q.1, row_of h.2 e2 q.2⟩
  | .non, h, _, _, _, _ => by cases h
  | .bool, h, _, _, _, _ => by cases h
  | .int, h, _, _, _, _ => by cases h
  | .str, h, _, _, _, _ => by cases h
  | .any, h, _, _, _, _ => by cases h
  | .opt _, h, _, _, _, _ => by cases h
  | .vtup _, h, _, _, _, _ => by cases h
  | .list _, h, _, _, _, _ => by cases h
  | .dict _ _, h, _, _, _, _ => by cases h
  | .own _, h, _, _, _, _ => by cases h
  | .hl _, h, _, _, _, _ => by cases h
  | .tup _, h, _, _, _, _ => by cases h
theorem vs_of {R : Reg} {t : Ty} (h : (t == .int || t == .str) = true) : ∀ {d : List (den t)} {ks : List Key}, keyVs t d = some ks → d.all (sOk t) = true → F2 (rS K H R t).1 (ks.map kV) d
  | [], ks, e, _ => by cases e; exact True.intro
  | d :: r, ks, e, q => by
    obtain ⟨k, e1, e⟩ := opt_bind (show (do let k ← keyS t d; let s ← keyVs t r; pure (k :: s)) = some ks from e)
    obtain ⟨s, e2, e⟩ := opt_bind e
    cases e
    simp only [List.all_cons, Bool.and_eq_true] at q
    exact ⟨atom_of h e1 q.1, vs_of h e2 q.2⟩
/-- an entry of a dict -/
theorem ent_of {R : Reg} {k t : Ty} (hk : okKey k = true) {a : Addr} {d : List (den k × den t)} {u : HO} (hu : stripD (H a) = some u) (h : (rS K H R (.dict k t)).1 (.ref a) d) :
    isDct u = true ∧ lenOf u = d.length ∧ ∀ i x y, EntOf H u i x y → ∃ q, d[i]? = some q ∧ (rS K H R t).1 y q.2 ∧ (kOk k q.1 = true → (rS K H R k).1 x q.1) := by
  obtain ⟨b, eb, h⟩ := h
  cases eb
  rcases h with ⟨k1, kvs, h1, h2⟩ | ⟨k1, kvs, h1, h2⟩
  · have e := hu.symm.trans h1.2
    cases e
    refine ⟨rfl, h2.length, fun i x y he => ?_⟩
    obtain ⟨key, g1, rfl⟩ := he
    obtain ⟨q, e1, e2, e3⟩ := h2.get' g1
    refine ⟨q, e1, e3, fun ok => ?_⟩
    cases k <;> first | (cases hk; done) | (cases k1; done) | skip
    · exact atom_of (a := .int) rfl e2 rfl
    · exact atom_of (a := .str) rfl e2 ok
  · have e := hu.symm.trans h1.2
    cases e
    refine ⟨rfl, h2.length, fun i x y he => ?_⟩
    obtain ⟨key, p, g1, rfl, g3⟩ := he
    obtain ⟨q, e1, e2, e3⟩ := h2.get' g1
    refine ⟨q, e1, e3, fun ok => ?_⟩
    cases k <;> first | (cases hk; done) | (cases k1; done) | skip
    · exact ⟨p, _, rfl, g3, vs_of (by exact hk) e2 ok⟩
    · exact ⟨p, _, rfl, g3, row_of (by exact hk) e2 ok⟩
/-- what a walk of a dict gives -/
structure DW (K : PySem.W.Frag) (k t u : Ty) (f : List (den k × den t) → Option (List (den u))) (J : Addr → Obj → HO → It) : Prop where
  ok : okKey k = true
  len : ∀ d ds, f d = some ds → ds.length = d.length
  go : ∀ i H a od v, H a = some (.frz od v) → i < lenOf v → (J a od v).go i H
  stop : ∀ H a od v, H a = some (.frz od v) → (J a od v).stop (lenOf v) H
  yld : ∀ (R : Reg) H a od v d ds i x H', H a = some (.frz od v) → (rS K H R (.dict k t)).1 (.ref a) d → f d = some ds → (J a od v).yld i H x H' → Same H H' ∧ ∃ e, ds[i]? = some e ∧ (rS K H' R u).1 x e
theorem strip_frz {od : Obj} {v : HO} {a : Addr} (h : H a = some (.frz od v)) (hv : isDct v = true) : stripD (H a) = some v := by
  rw [h]
  cases v <;> first | rfl | cases hv
theorem isDct_of {R : Reg} {k t : Ty} {a : Addr} {d : List (den k × den t)} {od : Obj} {v : HO} (h : H a = some (.frz od v)) (hr : (rS K H R (.dict k t)).1 (.ref a) d) : isDct v = true := by
  obtain ⟨b, eb, hr⟩ := hr
  cases eb
  rcases hr with ⟨_, kvs, h1, _⟩ | ⟨_, kvs, h1, _⟩
  · rcases strip_dK h1.2 with q | ⟨o, q⟩
    · rw [h] at q; cases q
    · rw [h] at q; cases q; rfl
  · rcases strip_dT h1.2 with q | ⟨o, q⟩
    · rw [h] at q; cases q
    · rw [h] at q; cases q; rfl
def fKeys (k : Ty) {β : Type} (d : List (den k × β)) : Option (List (den k)) := okIf (d.all fun q => kOk k q.1) (d.map (·.1))
def fItems (k : Ty) {β : Type} (d : List (den k × β)) : Option (List (den k × β)) := okIf (d.all fun q => kOk k q.1) d
abbrev fVals {α β : Type} (d : List (α × β)) : Option (List β) := some (d.map (·.2))
theorem okIf_some {α : Type} {c : Bool} {a b : α} (h : okIf c a = some b) : c = true ∧ a = b := by
  unfold okIf at h
  split at h
  · rename_i q; exact ⟨q, Option.some.inj h⟩
  · cases h
theorem dw_keys {k t : Ty} (hk : okKey k = true := by rfl) : DW K k t k (fKeys k) ItKeys where
  ok := hk
  len := fun d ds e => by rw [← (okIf_some e).2, List.length_map]
  go := fun i H a od v h hi => ⟨h, hi⟩
  stop := fun H a od v h => ⟨h, Nat.le_refl _⟩
  yld := fun R H a od v d ds i x H' h hr e hy => by
    obtain ⟨hd, rfl⟩ := okIf_some e
    obtain ⟨rfl, y, he⟩ := hy
    obtain ⟨_, _, h3⟩ := ent_of hk (strip_frz h (isDct_of h hr)) hr
    obtain ⟨q, e1, e2, e3⟩ := h3 i x y he
    exact ⟨Same.refl _, q.1, by rw [List.getElem?_map, e1]; rfl, e3 (List.all_eq_true.mp hd q (List.mem_of_getElem? e1))⟩
theorem dw_vals {k t : Ty} (hk : okKey k = true := by rfl) : DW K k t t fVals ItVals where
  ok := hk
  len := fun d ds e => by cases e; rw [List.length_map]
  go := fun i H a od v h hi => ⟨h, hi⟩
  stop := fun H a od v h => ⟨h, Nat.le_refl _⟩
  yld := fun R H a od v d ds i x H' h hr e hy => by
    cases e
    obtain ⟨rfl, y, he⟩ := hy
    obtain ⟨_, _, h3⟩ := ent_of hk (strip_frz h (isDct_of h hr)) hr
    obtain ⟨q, e1, e2, e3⟩ := h3 i y x he
    exact ⟨Same.refl _, q.2, by rw [List.getElem?_map, e1]; rfl, e2⟩
theorem dw_items {k t : Ty} (hk : okKey k = true := by rfl) : DW K k t (.tup (.cons k (.last t))) (fItems k) ItItems where
  ok := hk
  len := fun d ds e => by rw [← (okIf_some e).2]
  go := fun i H a od v h hi => ⟨h, hi⟩
  stop := fun H a od v h => ⟨h, Nat.le_refl _⟩
  yld := fun R H a od v d ds i x H' h hr e hy => by
    obtain ⟨hd, rfl⟩ := okIf_some e
    obtain ⟨T, y, z, he, rfl, hT, rfl⟩ := hy
    obtain ⟨_, _, h3⟩ := ent_of hk (strip_frz h (isDct_of h hr)) hr
    obtain ⟨q, e1, e2, e3⟩ := h3 i y z he
    have s : Same H (upd H T (.tup [y, z])) := same_new hT
    have mk : ∀ (t : Ty) {v : V} {d : den t}, (rS K H R t).1 v d → (rS K (upd H T (.tup [y, z])) R t).1 v d := fun t {v d} r => (rS_mono (Cov.of_same s fun _ h _ => h) (Stb.of_same s) t).1 v d r
    exact ⟨s, q, e1, T, _, rfl, upd_same, y, [z], rfl, mk k (e3 (List.all_eq_true.mp hd q (List.mem_of_getElem? e1))), z, rfl, mk t e2⟩
/-! ### a name's dict is locked -/
def LockedAt (n : Nat) (σ : St) (H : Hp) : Prop := ∃ a od u, σ[n]? = some (some (.ref a)) ∧ H a = some (.frz od u) ∧ isDct u = true
def wiL (n : Nat) (wi : TI) : TI := fun σ H R => LockedAt n σ H → wi σ H R
/-- modes of names whose cells are shared -/
def Md.shr : Md → Bool
  | .l => true
  | .w => true
  | .f => true
  | _ => false
theorem shr_reg {m : Md} (hm : m.shr = true) {t : Ty} {v : V} {d : den t} {f : List Addr} (r : repM K H E.S0 L m t v d f) : (rS K H (fun a => E.S0 a ∨ L a) t).1 v d := by
  cases m <;> first | cases hm | skip
  · exact (rS_mono (Cov.of_reg fun a h _ => .inr h) (Stb.refl H) t).1 v d r.2
  · exact r.2
  · exact r.2
theorem dict_reg {R : Reg} {k t : Ty} {a : Addr} {d : List (den k × den t)} (h : (rS K H R (.dict k t)).1 (.ref a) d) : R a ∧ ∃ u, stripD (H a) = some u ∧ isDct u = true := by
  obtain ⟨b, eb, h⟩ := h
  cases eb
  rcases h with ⟨_, kvs, h1, _⟩ | ⟨_, kvs, h1, _⟩
  · exact ⟨h1.1, _, h1.2, rfl⟩
  · exact ⟨h1.1, _, h1.2, rfl⟩
theorem rig_dct {k t u : Ty} {f : List (den k × den t) → Option (List (den u))} {J : Addr → Obj → HO → It} (hw : DW K k t u f J) (i : Mem ts (.dict k t)) {n : Nat} {m : Md} (hm : ms[i.ix]? = some m := by rfl) (hs : m.shr = true := by rfl) (hn : i.ix = n := by rfl) :
    RIG K ms ts (wiL n (iDct J (tVar n))) true u (e1 f (eV i)) := fun E L Γ σ H R ds o e q => by
  subst hn
  obtain ⟨d, e1, e2⟩ := bind_some e
  intro lk
  obtain ⟨v, fp, h1, h2, _⟩ := o.look i hm e1
  have h3 := shr_reg hs h2
  obtain ⟨a, od, v0, l1, l2, l3⟩ := lk
  rw [h1] at l1
  cases l1
  obtain ⟨ra, _⟩ := dict_reg (k := k) (t := t) h3
  have hl : ds.length = lenOf v0 := by
    obtain ⟨_, c2, _⟩ := ent_of (K := K) (k := k) (t := t) (R := fun a => E.S0 a ∨ L a) (d := d) hw.ok (strip_frz l2 l3) h3
    rw [hw.len d ds e2, c2]
  refine ⟨_, h1, a, v0, rfl, l3, .inl ⟨od, l2, q _ H (fun _ => False) (fun H' => H' a = some (.frz od v0) ∧ (rS K H' (reg true E fun b => L b ∨ False) (.dict k t)).1 (.ref a) d) (Same.refl H) (fun b h => h.elim) ⟨fun L2 Γ2 σ2 H2 o2 ev z => ?_, fun j H' z hj => hw.go j H' a od v0 z.1 (by rw [← hl]; exact hj), fun H' z => by rw [hl]; exact hw.stop H' a od v0 z.1, fun j H' x H'' hj z hy => hw.yld _ H' a od v0 d ds j x H'' z.1 z.2 e2 hy⟩ ⟨l2, ?_⟩⟩⟩
  · have h4 : H2 a = some (.frz od v0) := by
      rcases ra with ra | ra
      · obtain ⟨g1, g2⟩ := o.s0 a ra
        obtain ⟨y, hy⟩ := isSome_some g1
        have := o.fr a y hy g2
        rw [l2] at this
        cases this
        exact o2.fr a _ hy g2
      · exact ev.cell a _ (.inl ra) l2
    refine ⟨h4, (rS_mono (fun b q hb x => ?_) ev.stb (.dict k t)).1 _ _ z.2⟩
    exact ev.cov (w := true) (o.nw (Lr := fun _ => False) (Same.refl H) (fun b h => h.elim)) o2 b q hb x
  · exact (rS_mono (Cov.of_reg fun b h _ => h.elim .inl fun z => .inr (.inl z)) (Stb.refl H) (.dict k t)).1 _ _ h3
theorem ris_dct {k t u : Ty} {f : List (den k × den t) → Option (List (den u))} {J : Addr → Obj → HO → It} (hw : DW K k t u f J) (i : Mem ts (.dict k t)) {n : Nat} {m : Md} (hm : ms[i.ix]? = some m := by rfl) (hs : m.shr = true := by rfl) (hn : i.ix = n := by rfl) :
    RIS K ms ts (wiL n (iDct J (tVar n))) true u (e1 f (eV i)) := fun E L Γ σ H xt R ds o e q => by
  subst hn
  obtain ⟨d, e1, e2⟩ := bind_some e
  intro lk
  obtain ⟨v, fp, h1, h2, _⟩ := o.look i hm e1
  have h3 := shr_reg hs h2
  obtain ⟨a, od, v0, l1, l2, l3⟩ := lk
  rw [h1] at l1
  cases l1
  have hl : ds.length = lenOf v0 := by
    obtain ⟨_, c2, _⟩ := ent_of (K := K) (k := k) (t := t) (R := fun a => E.S0 a ∨ L a) (d := d) hw.ok (strip_frz l2 l3) h3
    rw [hw.len d ds e2, c2]
  refine ⟨_, h1, a, v0, rfl, l3, .inl ⟨od, l2, q _ H (fun _ => False) (fun H' => H' a = some (.frz od v0) ∧ (rS K H' (reg true E fun b => L b ∨ False) (.dict k t)).1 (.ref a) d) (Same.refl H) (fun b h => h.elim) ⟨fun H' H'' s z => ⟨s _ _ z.1, (rS_mono (Cov.of_same s fun _ h _ => h) (Stb.of_same s) (.dict k t)).1 _ _ z.2⟩, fun j H' z hj => hw.go j H' a od v0 z.1 (by rw [← hl]; exact hj), fun H' z => by rw [hl]; exact hw.stop H' a od v0 z.1, fun j H' x H'' hj z hy => hw.yld _ H' a od v0 d ds j x H'' z.1 z.2 e2 hy⟩ ⟨l2, ?_⟩⟩⟩
  exact (rS_mono (Cov.of_reg fun b h _ => h.elim .inl fun z => .inr (.inl z)) (Stb.refl H) (.dict k t)).1 _ _ h3
/-! ### a dict that an expression makes, walked -/
theorem dct_new {k t : Ty} {a : Addr} {f : List Addr} {d : List (den k × den t)} (h : (rO K H L (.dict k t)).1 (.ref a) d f) : a ∈ f ∧ ∃ u, H a = some u ∧ isDct u = true := by
  obtain ⟨b, g, eb, rfl, h⟩ := h
  cases eb
  rcases h with ⟨_, kvs, h1, _⟩ | ⟨_, kvs, h1, _⟩
  · exact ⟨List.mem_cons_self, _, h1, rfl⟩
  · exact ⟨List.mem_cons_self, _, h1, rfl⟩
theorem dct_lock {k t : Ty} {a : Addr} {u : HO} {d : List (den k × den t)} (r : Rep K E L H H1 .o (.dict k t) (.ref a) d) (s : Same H H1) (hu : isDct u = true) (h1 : H1 a = some u) (od : Obj) : Same H (upd H1 a (.frz od u)) ∧ ∃ Lr, Nw H (upd H1 a (.frz od u)) Lr ∧ Lr a ∧ (rS K (upd H1 a (.frz od u)) (fun b => L b ∨ Lr b) (.dict k t)).1 (.ref a) d := by
  obtain ⟨f, Lr, g1, g2, g3, g4, g5⟩ := r
  obtain ⟨m1, _, _, _⟩ := dct_new g1
  have hn : H a = none := (g3 a m1).1
  have l := lock_upd h1 hu od
  have up : ∀ b, (H1 b).isSome = true → (upd H1 a (.frz od u) b).isSome = true := fun b h => by rw [l.some]; exact h
  refine ⟨fun b o e => ?_, fun b => Lr b ∨ b ∈ f, fun b h => h.elim (fun z => ⟨(g4 b z).1, up b (g4 b z).2⟩) fun z => ⟨(g3 b z).1, up b (g3 b z).2⟩, .inr m1, ?_⟩
  · have ne : b ≠ a := fun z => by rw [z, hn] at e; cases e
    rw [upd_ne ne]
    exact s b o e
  · exact (rS_mono (l.cov _) l.stb (.dict k t)).1 _ _ ((rO_s (fun b h => h.elim .inl fun z => .inr (.inl z)) (.dict k t)).1 _ d f (fun b hb => .inr (.inr hb)) g1)
theorem rig_dctN {k t u : Ty} {f : List (den k × den t) → Option (List (den u))} {J : Addr → Obj → HO → It} {te : TE} {F : Gam ts → Option (List (den k × den t))} (hw : DW K k t u f J) (h : RP K ms ts te .o (.dict k t) F) :
    RIG K ms ts (iDct J te) false u (e1 f F) := fun E L Γ σ H R ds o e q => by
  obtain ⟨d, e1, e2⟩ := bind_some e
  refine h E L Γ σ H [] _ d o e1 fun v H1 s1 r1 => ?_
  obtain ⟨a, rfl⟩ := dict_ref (k := k) (t := t) r1.b
  obtain ⟨u0, hu, hd⟩ : ∃ u0, H1 a = some u0 ∧ isDct u0 = true := by
    obtain ⟨f, Lr, g1, _⟩ := id r1
    exact (dct_new g1).2
  refine ⟨a, u0, rfl, hd, .inr ⟨hu, fun od => ?_⟩⟩
  obtain ⟨s2, Lr, nw, la, rr⟩ := dct_lock r1 s1 hd hu od
  have lk : upd H1 a (.frz od u0) a = some (.frz od u0) := upd_same
  have hl : ds.length = lenOf u0 := by
    obtain ⟨_, c2, _⟩ := ent_of (K := K) (k := k) (t := t) (d := d) hw.ok (strip_frz lk hd) rr
    rw [hw.len d ds e2, c2]
  refine q _ _ Lr (fun H' => H' a = some (.frz od u0) ∧ (rS K H' (reg false E fun b => L b ∨ Lr b) (.dict k t)).1 (.ref a) d) s2 nw ⟨fun L2 Γ2 σ2 H2 o2 ev z => ⟨ev.cell a _ (.inr la) z.1, ?_⟩, fun j H' z hj => hw.go j H' a od u0 z.1 (by rw [← hl]; exact hj), fun H' z => by rw [hl]; exact hw.stop H' a od u0 z.1, fun j H' x H'' hj z hy => hw.yld _ H' a od u0 d ds j x H'' z.1 z.2 e2 hy⟩ ⟨lk, rr⟩
  exact (rS_mono (ev.cov (w := false) (o.nw s2 nw) o2) ev.stb (.dict k t)).1 _ _ z.2
theorem ris_dctN {k t u : Ty} {f : List (den k × den t) → Option (List (den u))} {J : Addr → Obj → HO → It} {te : TE} {F : Gam ts → Option (List (den k × den t))} (hw : DW K k t u f J) (h : RP K ms ts te .o (.dict k t) F) :
    RIS K ms ts (iDct J te) false u (e1 f F) := fun E L Γ σ H xt R ds o e q => by
  obtain ⟨d, e1, e2⟩ := bind_some e
  refine h E L Γ σ H xt _ d o e1 fun v H1 s1 r1 => ?_
  obtain ⟨a, rfl⟩ := dict_ref (k := k) (t := t) r1.b
  obtain ⟨u0, hu, hd⟩ : ∃ u0, H1 a = some u0 ∧ isDct u0 = true := by
    obtain ⟨f, Lr, g1, _⟩ := id r1
    exact (dct_new g1).2
  refine ⟨a, u0, rfl, hd, .inr ⟨hu, fun od => ?_⟩⟩
  obtain ⟨s2, Lr, nw, la, rr⟩ := dct_lock r1 s1 hd hu od
  have lk : upd H1 a (.frz od u0) a = some (.frz od u0) := upd_same
  have hl : ds.length = lenOf u0 := by
    obtain ⟨_, c2, _⟩ := ent_of (K := K) (k := k) (t := t) (d := d) hw.ok (strip_frz lk hd) rr
    rw [hw.len d ds e2, c2]
  exact q _ _ Lr (fun H' => H' a = some (.frz od u0) ∧ (rS K H' (reg false E fun b => L b ∨ Lr b) (.dict k t)).1 (.ref a) d) s2 nw ⟨fun H' H'' s z => ⟨s _ _ z.1, (rS_mono (Cov.of_same s fun _ h _ => h) (Stb.of_same s) (.dict k t)).1 _ _ z.2⟩, fun j H' z hj => hw.go j H' a od u0 z.1 (by rw [← hl]; exact hj), fun H' z => by rw [hl]; exact hw.stop H' a od u0 z.1, fun j H' x H'' hj z hy => hw.yld _ H' a od u0 d ds j x H'' z.1 z.2 e2 hy⟩ ⟨lk, rr⟩
/-! ### the lock around a statement, an expression -/
theorem lock_at {k t : Ty} (i : Mem ts (.dict k t)) {m : Md} {d : List (den k × den t)} (o : Own K E L ms ts Γ σ H xt) (hm : ms[i.ix]? = some m) (hs : m.shr = true) (e : i.get Γ = some d) : ∃ a, σ[i.ix]? = some (some (.ref a)) ∧ (E.S0 a ∨ L a) ∧ ∃ u, isDct u = true ∧ (H a = some u ∨ ∃ od, H a = some (.frz od u)) := by
  obtain ⟨v, fp, h1, h2, _⟩ := o.look i hm e
  have h3 := shr_reg hs h2
  obtain ⟨a, rfl⟩ := dict_ref (k := k) (t := t) h3
  obtain ⟨ra, u, hu, hd⟩ := dict_reg (k := k) (t := t) h3
  exact ⟨a, h1, ra, u, hd, strip_isD hu hd⟩
theorem RRep.lock {a : Addr} {H3 H4 : Hp} (l : LockAt H3 H4 a) {v : V} {d : den ρ} {E' : Ent} (hE : E'.S0 = E.S0) (hx : ∀ b ∈ xt, b ≠ a) (r : RRep K E' L H3 rm ρ v d xt) : RRep K E L H4 rm ρ v d xt := by
  cases rm with
  | o => exact (rO_mono (l.cov _) l.stb ρ).1 v d xt (fun b hb => l.oth b (hx b hb)) r
  | l => exact ⟨r.1, (rS_mono (l.cov _) l.stb ρ).1 v d r.2⟩
  | w => exact ⟨r.1, (rS_mono (l.covU fun b h => by rw [← hE]; exact h) l.stb ρ).1 v d r.2⟩
theorem rs_lockS {k t : Ty} {st st' : TS} {F : Gam ts → Option (Fl (Gam ts) (den ρ))} (i : Mem ts (.dict k t)) {n : Nat} {m : Md} (h : RS K ms ts st' rm ρ F) (hF : ∀ Γ f, F Γ = some f → ∃ d, i.get Γ = some d) (hc : ∀ σ H D, LockedAt n σ H → st' D σ H → st D σ H)
    (hm : ms[i.ix]? = some m := by rfl) (hs : m.shr = true := by rfl) (hn : i.ix = n := by rfl) : RS K ms ts (tLock2 st) rm ρ F := fun E L Γ σ H D f o e p => by
  subst hn
  obtain ⟨d, ed⟩ := hF Γ f e
  obtain ⟨a, h1, ra, u, hd, hu⟩ := lock_at i o hm hs ed
  rcases hu with hu | ⟨od, hu⟩
  · refine .inl ⟨a, u, hu, mut_dct hd, fun od => hc σ _ _ ⟨a, od, u, h1, upd_same, hd⟩ ?_⟩
    have l := lock_upd hu hd od
    have o2 := o.lock l (fun _ => .inr (.inr True.intro)) ra
    have fin : ∀ {L' Γ' σ' H' xt'}, Own K (E.lock (upd H a (.frz od u)) a) L' ms ts Γ' σ' H' xt' → Ev ms ts L Γ σ (upd H a (.frz od u)) L' Γ' σ' H' → H' a = some (.frz od u) ∧ Own K E L' ms ts Γ' σ' (upd H' a u) xt' ∧ Ev ms ts L Γ σ H L' Γ' σ' (upd H' a u) := fun {L' Γ' σ' H' xt'} o' ev => by
      have e3 : H' a = some (.frz od u) := by
        rcases ra with ra | ra
        · obtain ⟨g1, g2⟩ := o.s0 a ra
          exact o'.fr a _ (by rw [lock_in g1]; exact upd_same) g2
        · exact ev.cell a _ ra upd_same
      exact ⟨e3, Own.unlock l (lock_upd' e3 hd) (by rw [upd_same, hu]) o ra o' ev⟩
    refine h _ L Γ σ _ _ f o2 e ?_
    cases f with
    | nx Γ' => exact fun L' σ' H' o' ev => let ⟨a1, a2, a3⟩ := fin o' ev; ⟨a1, p L' σ' _ a2 a3⟩
    | bk Γ' => exact fun L' σ' H' o' ev => let ⟨a1, a2, a3⟩ := fin o' ev; ⟨a1, p L' σ' _ a2 a3⟩
    | ct Γ' => exact fun L' σ' H' o' ev => let ⟨a1, a2, a3⟩ := fin o' ev; ⟨a1, p L' σ' _ a2 a3⟩
    | rt d' Γ' =>
      exact fun L' σ' H' v xt' o' ev r => by
        obtain ⟨a1, a2, a3⟩ := fin o' ev
        refine ⟨a1, p L' σ' _ v xt' a2 a3 (RRep.lock (lock_upd' a1 hd) rfl (fun b hb z => ?_) r)⟩
        obtain ⟨fp, _, _, gd⟩ := a2.ex
        subst z
        exact ra.elim (gd b (List.mem_append_right _ hb)).ns fun y => (gd b (List.mem_append_right _ hb)).nl (ev.sub b y)
  · exact .inr (hc σ H D ⟨a, od, u, h1, hu, hd⟩ (h E L Γ σ H D f o e p))
theorem Rep.lock {a : Addr} {H3 H4 : Hp} {m : Em} {t : Ty} {v : V} {d : den t} {E' : Ent} (l0 : LockAt H H0 a) (l : LockAt H3 H4 a) (hE : E'.S0 = E.S0) (ra : E.S0 a ∨ L a) (hH : (H a).isSome = true) (r : Rep K E' L H0 H3 m t v d) : Rep K E L H H4 m t v d := by
  have nw : ∀ {R : Reg}, Nw H0 H3 R → Nw H H4 R := fun {R} n b hb => by
    obtain ⟨n1, n2⟩ := n b hb
    refine ⟨?_, by rw [l.some]; exact n2⟩
    have := l0.some b
    rw [n1] at this
    cases hq : H b with
    | none => rfl
    | some y => rw [hq] at this; cases this
  cases m with
  | o =>
    obtain ⟨f, Lr, h1, h2, h3, h4, h5⟩ := r
    refine ⟨f, Lr, (rO_mono (l.cov _) l.stb t).1 v d f (fun b hb => l.oth b fun z => ?_) h1, h2, nw h3, nw h4, h5⟩
    subst z
    have := (nw h3 b hb).1
    rw [this] at hH
    cases hH
  | l =>
    obtain ⟨Lr, h1, h2⟩ := r
    exact ⟨Lr, (rS_mono (l.cov _) l.stb t).1 v d h1, nw h2⟩
  | w =>
    obtain ⟨Lr, h1, h2⟩ := r
    exact ⟨Lr, (rS_mono (l.covU fun b h => by rw [← hE]; exact h) l.stb t).1 v d h1, nw h2⟩
  | b => exact (rS_mono (l.cov _) l.stb t).1 v d r
theorem rp_lockE {k t u : Ty} {m0 : Em} {te te' : TE} {F : Gam ts → Option (den u)} (i : Mem ts (.dict k t)) {n : Nat} {m : Md} (h : RP K ms ts te' m0 u F) (hF : ∀ Γ f, F Γ = some f → ∃ d, i.get Γ = some d) (hc : ∀ σ H Q, LockedAt n σ H → te' σ H Q → te σ H Q)
    (hm : ms[i.ix]? = some m := by rfl) (hs : m.shr = true := by rfl) (hn : i.ix = n := by rfl) : RP K ms ts (tLockE2 te) m0 u F := fun E L Γ σ H xt Q d o e q => by
  subst hn
  obtain ⟨d0, ed⟩ := hF Γ d e
  obtain ⟨a, h1, ra, u0, hd, hu⟩ := lock_at i o hm hs ed
  rcases hu with hu | ⟨od, hu⟩
  · refine .inl ⟨a, u0, hu, mut_dct hd, fun od => hc σ _ _ ⟨a, od, u0, h1, upd_same, hd⟩ ?_⟩
    have l := lock_upd hu hd od
    have o2 := o.lock l (fun _ => .inr (.inr True.intro)) ra
    refine h _ L Γ σ _ xt _ d o2 e fun v H' s r => ?_
    have e3 : H' a = some (.frz od u0) := s _ _ upd_same
    refine ⟨e3, q v _ (fun b o x => ?_) (Rep.lock l (lock_upd' e3 hd) rfl ra (by rw [hu]; rfl) r)⟩
    by_cases hb : b = a
    · subst hb
      rw [upd_same, ← hu]
      exact x
    · rw [upd_ne hb]
      exact s b o (by rw [upd_ne hb]; exact x)
  · exact .inr (hc σ H Q ⟨a, od, u0, h1, hu, hd⟩ (h E L Γ σ H xt Q d o e q))
theorem lcF {G α β γ : Type} {f : α → Option (List β)} {i : G → Option α} {B : β → G → G} {mask : G → G} {c : G → Option Bool} {x : G → Option γ} {Γ : G} {r : List γ} (h : eLc (e1 f i) B mask c x Γ = some r) : ∃ d, i Γ = some d := by
  obtain ⟨xs, e1, _⟩ := bind_some h
  obtain ⟨d, e2, _⟩ := bind_some e1
  exact ⟨d, e2⟩
theorem forF {G α β ρ : Type} {f : α → Option (List β)} {i : G → Option α} {B : β → G → G} {mask : G → G} {body : G → Option (Fl G ρ)} {Γ : G} {r : Fl G ρ} (h : sFor (e1 f i) B mask body Γ = some r) : ∃ d, i Γ = some d := by
  obtain ⟨xs, e1, _⟩ := bind_some h
  obtain ⟨d, e2, _⟩ := bind_some e1
  exact ⟨d, e2⟩
end
end VV

/-! VMore16: sorted, sets of ints, lists of unlike items, parts of tuples, dict displays. -/
namespace VV
open PySem L2
open PyProof.Rows hiding St
open PySem.W (dataLe AllAlike Sortable)
section
variable {K : PySem.W.Frag} {E : Ent} {ms ms' : List Md} {ts : List Ty} {L L1 : Reg} {Γ Γ1 : Gam ts} {σ σ1 : St} {H H' H0 H1 H2 : Hp} {xt : List Addr} {rm : Rm} {ρ : Ty}
/-! ### sorted -/
def isTup : PyData → Bool
  | .tuple (_ :: _) => true
  | _ => false
def isOne : PyData → Bool
  | .none => false
  | .tuple _ => false
  | _ => true
def sortB (ds : List PyData) : Bool := (ds.all fun a => ds.all fun b => PySem.W.alike a b) && ((ds.all isTup || ds.all isOne) && ds.all fun a => decide (a.depth ≤ 60))
theorem sortB_ok {β : Type} {enc : β → PyData} {bs : List β} (h : sortB (bs.map enc) = true) : SortOk enc bs := by
  simp only [sortB, Bool.and_eq_true, Bool.or_eq_true, List.all_eq_true, decide_eq_true_eq] at h
  refine ⟨h.1, ?_, fun b hb => h.2.2 _ (List.mem_map_of_mem hb)⟩
  rcases h.2.1 with q | q
  · refine .inl fun d hd => ?_
    have := q d hd
    cases d with
    | tuple xs =>
      cases xs with
      | nil => cases this
      | cons x r => exact ⟨x, r, rfl⟩
    | _ => cases this
  · refine .inr fun d hd => ?_
    have := q d hd
    cases d <;> first | (cases this; done) | exact ⟨fun z => (by cases z), fun xs z => (by cases z)⟩
def sortT (t : Ty) (d : List (den t)) : List (den t) := d.mergeSort (dataLe false (emb t).1)
def fSort (t : Ty) (d : List (den t)) : Option (List (den t)) := okIf (sortB (d.map (emb t).1)) (sortT t d)
theorem zip_left {α β : Type} {P : α → β → Prop} : ∀ {vs : List α} {ds : List β}, F2 P vs ds → (vs.zip ds).map Prod.fst = vs ∧ (vs.zip ds).map Prod.snd = ds ∧ ∀ p ∈ vs.zip ds, P p.1 p.2
  | [], [], _ => ⟨rfl, rfl, fun p h => by simp at h⟩
  | v :: vs, d :: ds, q => by
    obtain ⟨h1, h2, h3⟩ := zip_left q.2
    refine ⟨by simp [h1], by simp [h2], fun p h => ?_⟩
    rcases List.mem_cons.mp h with h | h
    · rw [h]; exact q.1
    · exact h3 p h
  | [], _ :: _, q => q.elim
  | _ :: _, [], q => q.elim
theorem f2_zip {α β : Type} {P : α → β → Prop} : ∀ {z : List (α × β)}, (∀ p ∈ z, P p.1 p.2) → F2 P (z.map Prod.fst) (z.map Prod.snd)
  | [], _ => True.intro
  | p :: z, h => ⟨h p List.mem_cons_self, f2_zip fun q hq => h q (List.mem_cons_of_mem _ hq)⟩
theorem rp_sortL {t : Ty} {m : Em} {te : TE} {F : Gam ts → Option (List (den t))} (h : RP K ms ts te m (.list t) F) (hf : t.frz = true := by rfl) (hc : t.cmp = true := by rfl) : RP K ms ts (tCB (rSortD K (Prod.fst : V × den t → V) fun p => (emb t).1 p.2) (tCons te tNil)) .o (.list t) (e1 (fSort t) F) := fun E L Γ σ H xt Q d o e q => by
  obtain ⟨a, ea, e⟩ := bind_some e
  obtain ⟨hs, rfl⟩ := okIf_some e
  refine h E L Γ σ H xt _ a o ea fun v H1 s1 r1 => ?_
  obtain ⟨p, vs, rfl, hl, h2⟩ := r1.b
  obtain ⟨z1, z2, z3⟩ := zip_left h2
  refine ⟨p, vs.zip a, rfl, by rw [z1]; exact hl.seq, ?_, sortB_ok ?_, fun p hp => ?_⟩
  · rw [z1]
    have := (rS_dp (R := fun _ => True) (.list t) hc).1 (.ref p) a ⟨p, vs, rfl, hl, h2⟩
    rw [show (vs.zip a).map (fun p => (emb t).1 p.2) = a.map (emb t).1 from by
      rw [← z2, List.map_map, z2]
      rfl]
    exact f2_dp (fun v d r => (rS_dp t hc).1 v d r) h2
  · rw [show (vs.zip a).map (fun p => (emb t).1 p.2) = a.map (emb t).1 from by
      rw [← z2, List.map_map, z2]
      rfl]
    exact hs
  · have e1 : sortT t a = ((vs.zip a).mergeSort (dataLe false fun p => (emb t).1 p.2)).map Prod.snd := by
      have := PySem.W.sort_maps (l := vs.zip a) (r := dataLe false fun p => (emb t).1 p.2) (s := dataLe false (emb t).1) Prod.snd fun _ _ _ _ => rfl
      rw [this, z2]
      rfl
    have f := f2_zip (P := (rS K H1 (fun _ => True) t).1) (z := (vs.zip a).mergeSort (dataLe false fun p => (emb t).1 p.2)) fun p hp => z3 p ((List.mergeSort_perm _ _).mem_iff.mp hp)
    rw [← e1] at f
    obtain ⟨k1, k2⟩ := rep_newL (K := K) (E := E) (L := L) (l := p) hf s1 hp f
    exact q _ _ k1 k2
theorem paired_f2 {α β : Type} {P : α → β → Prop} {vs : List α} {ds : List β} (h : Paired P vs ds) : F2 P vs ds := by
  induction h with
  | nil => exact True.intro
  | cons h _ ih => exact ⟨h, ih⟩
theorem okKey_frz : ∀ {k : Ty}, okKey k = true → k.frz = true ∧ k.cmp = true := by
  have row : ∀ b : Ty, okRow b = true → b.frz = true ∧ b.cmp = true := by
    intro b
    induction b with
    | last a _ =>
      intro h
      have h : (a == .int || a == .str) = true := h
      cases a <;> first | (cases h; done) | exact ⟨rfl, rfl⟩
    | cons a b _ ih =>
      intro h
      simp only [okRow, Bool.and_eq_true] at h
      have ha : a.frz = true ∧ a.cmp = true := by
        have h := h.1
        cases a <;> first | (cases h; done) | exact ⟨rfl, rfl⟩
      have hb := ih h.2
      simp [Ty.frz, Ty.cmp, ha, hb]
    | _ => exact fun h => by cases h
  intro k h
  cases k <;> first | (cases h; done) | exact ⟨rfl, rfl⟩ | skip
  · rename_i t
    have h : (t == .int || t == .str) = true := h
    cases t <;> first | (cases h; done) | exact ⟨rfl, rfl⟩
  · rename_i b
    exact row b h
/-- sorted(d): its keys -/
def fSortK (k : Ty) {β : Type} (d : List (den k × β)) : Option (List (den k)) := (fKeys k d).bind (fSort k)
theorem rp_sortK {k t : Ty} {m : Em} {te : TE} {F : Gam ts → Option (List (den k × den t))} (h : RP K ms ts te m (.dict k t) F) (hk : okKey k = true := by rfl) : RP K ms ts (tCB (rSortDct K fun p : den k => (emb k).1 p) (tCons te tNil)) .o (.list k) (e1 (fSortK k) F) := fun E L Γ σ H xt Q d o e q => by
  obtain ⟨a, ea, e⟩ := bind_some e
  obtain ⟨ks, ek, e⟩ := bind_some e
  obtain ⟨hks, rfl⟩ := okIf_some ek
  obtain ⟨hs, rfl⟩ := okIf_some e
  refine h E L Γ σ H xt _ a o ea fun v H1 s1 r1 => ?_
  obtain ⟨p, rfl⟩ := dict_ref (k := k) (t := t) r1.b
  obtain ⟨_, u, hu, hd⟩ := dict_reg (k := k) (t := t) r1.b
  obtain ⟨g1, g2, g3⟩ := ent_of hk hu r1.b
  obtain ⟨f1, f2⟩ := okKey_frz hk
  refine ⟨p, u, a.map (·.1), (rS K H1 (fun _ => True) k).1, rfl, strip_isD hu hd, hd, by rw [List.length_map, g2], fun i x y he => ?_, fun x b r => (rS_dp k f2).1 x b r, sortB_ok hs, fun p ws hp hn => ?_⟩
  · obtain ⟨z, z1, _, z3⟩ := g3 i x y he
    exact ⟨z.1, by rw [List.getElem?_map, z1]; rfl, z3 (List.all_eq_true.mp hks z (List.mem_of_getElem? z1))⟩
  · obtain ⟨k1, k2⟩ := rep_newL (K := K) (E := E) (L := L) (l := p) f1 s1 hn (paired_f2 hp)
    exact q _ _ k1 k2
/-! ### sorted(set(xs)) of ints -/
def sortU (d : List Int) : List Int := (d.mergeSort (fun a b => decide (a ≤ b))).eraseDups
def fSortU (d : List Int) : Option (List Int) := okIf (decide (d.length < 64)) (sortU d)
theorem lt_unique : ∀ {xs ys : List Int}, xs.Pairwise (· < ·) → ys.Pairwise (· < ·) → (∀ k, k ∈ xs ↔ k ∈ ys) → xs = ys
  | [], [], _, _, _ => rfl
  | [], y :: ys, _, _, h => absurd ((h y).mpr List.mem_cons_self) (by simp)
  | x :: xs, [], _, _, h => absurd ((h x).mp List.mem_cons_self) (by simp)
  | x :: xs, y :: ys, h1, h2, h => by
    have p1 := List.pairwise_cons.mp h1
    have p2 := List.pairwise_cons.mp h2
    have e : x = y := by
      rcases List.mem_cons.mp ((h x).mp List.mem_cons_self) with e | e
      · exact e
      · rcases List.mem_cons.mp ((h y).mpr List.mem_cons_self) with e' | e'
        · exact e'.symm
        · have a := p2.1 x e
          have b := p1.1 y e'
          omega
    subst e
    congr 1
    refine lt_unique p1.2 p2.2 fun k => ?_
    constructor
    · intro hk
      have := p1.1 k hk
      exact (List.mem_cons.mp ((h k).mp (List.mem_cons_of_mem _ hk))).resolve_left (by omega)
    · intro hk
      have := p2.1 k hk
      exact (List.mem_cons.mp ((h k).mpr (List.mem_cons_of_mem _ hk))).resolve_left (by omega)
theorem eraseDups_lt : ∀ (n : Nat) (xs : List Int), xs.length ≤ n → xs.Pairwise (· ≤ ·) → xs.eraseDups.Pairwise (· < ·)
  | _, [], _, _ => by simp
  | 0, _ :: _, hl, _ => by simp at hl
  | n + 1, x :: xs, hl, h => by
    rw [List.eraseDups_cons]
    have p := List.pairwise_cons.mp h
    have hf := List.length_filter_le (fun b => !b == x) xs
    refine List.pairwise_cons.mpr ⟨fun y hy => ?_, eraseDups_lt n _ (by simp at hl; omega) (p.2.filter _)⟩
    have hy := List.mem_eraseDups.mp hy
    obtain ⟨h1, h2⟩ := List.mem_filter.mp hy
    have := p.1 y h1
    have : y ≠ x := by simpa using h2
    omega
theorem sortU_lt (d : List Int) : (sortU d).Pairwise (· < ·) := by
  refine eraseDups_lt _ _ (Nat.le_refl _) ?_
  have := List.pairwise_mergeSort (le := fun (a b : Int) => decide (a ≤ b)) (fun a b c h1 h2 => by simp at *; omega) (fun a b => by simp; omega) d
  simpa using this
theorem sortU_mem (d : List Int) (k : Int) : k ∈ sortU d ↔ k ∈ d := by
  unfold sortU
  rw [List.mem_eraseDups]
  exact (List.mergeSort_perm _ _).mem_iff
theorem rp_sortSet {w : World} {m : Em} {te : TE} {F : Gam ts → Option (List Int)} (h : RP K ms ts te m (.list .int) F) : RP K ms ts (tCB (rSortedSet w) (tCons (tCB (rSetI K w) (tCons te tNil)) tNil)) .o (.list .int) (e1 fSortU F) := fun E L Γ σ H xt Q d o e q => by
  obtain ⟨a, ea, e⟩ := bind_some e
  obtain ⟨hs, rfl⟩ := okIf_some e
  have hs := of_decide_eq_true hs
  refine h E L Γ σ H xt _ a o ea fun v H1 s1 r1 => ?_
  obtain ⟨p, vs, rfl, hl, h2⟩ := r1.b
  have hv := f2_intsV h2
  subst hv
  refine ⟨p, a, rfl, hl.seq, by omega, fun b c hb hc => ⟨b, _, c, rfl, upd_same, by omega, fun ns r hp hm _ hr => ?_⟩⟩
  have e2 : ns = sortU a := lt_unique hp (sortU_lt a) fun k => by rw [hm, sortU_mem]; simp
  subst e2
  have s2 : Same H (upd H1 b (SetO w b (fun j => decide (j ∈ a)) c)) := s1.trans (same_new hb)
  obtain ⟨k1, k2⟩ := rep_newL (K := K) (E := E) (L := L) (t := .int) (l := r) (d := sortU a) (R := fun _ => True) rfl s2 hr (by
    have : ∀ xs : List Int, F2 (rS K (upd H1 b (SetO w b (fun j => decide (j ∈ a)) c)) (fun _ => True) .int).1 (xs.map V.int) xs := fun xs => by
      induction xs with
      | nil => exact True.intro
      | cons x r ih => exact ⟨rfl, ih⟩
    exact this _)
  exact q _ _ k1 k2
/-! ### lists of unlike items -/
theorem rp_hl {m : Em} {b : Ty} {ta : TA} {F : Gam ts → Option (den b)} (h : RA K ms ts ta m b F) (hs : rowSmall b = true := by rfl) (hm : (m == .o || m == .w) = true := by rfl) : RP K ms ts (tLst ta) m (.hl b) F := fun E L Γ σ H xt Q d o e q => by
  refine h E L Γ σ H xt _ d o e fun vs H1 s1 r1 => ⟨?_, fun l hl => ?_⟩
  · rw [r1.len]
    exact line_1000 (of_decide_eq_true hs)
  · have s2 : Same H1 (upd H1 l (.lst vs)) := same_new hl
    have nl : Nw H (upd H1 l (.lst vs)) (· = l) := fun b hb => by
      obtain rfl : b = l := hb
      exact ⟨s1.free hl, by rw [upd_same]; rfl⟩
    refine q _ _ (s1.trans s2) ?_
    cases m with
    | o =>
      obtain ⟨f, Lr, h1, h2, h3, h4, h5⟩ := r1
      have nf : l ∉ f := fun z => by
        have := (h3 l z).2
        rw [hl] at this
        cases this
      refine ⟨l :: f, Lr, ⟨l, vs, f, rfl, rfl, upd_same, (rO_mono (Cov.of_same s2 fun _ h _ => h) (Stb.of_same s2) b).2 vs d f (fun a ha => upd_ne fun z => nf (z ▸ ha)) h1⟩, List.nodup_cons.mpr ⟨nf, h2⟩, fun a ha => ?_, nw_on s2 h4, fun a ha => ?_⟩
      · rcases List.mem_cons.mp ha with rfl | ha
        · exact nl _ rfl
        · exact nw_on s2 h3 a ha
      · rcases List.mem_cons.mp ha with rfl | ha
        · intro z
          have := (h4 a z).2
          rw [hl] at this
          cases this
        · exact h5 a ha
    | w =>
      obtain ⟨Lr, h1, h2⟩ := r1
      refine ⟨fun a => Lr a ∨ a = l, ⟨l, vs, rfl, .inl ⟨.inr (.inr (.inr rfl)), by rw [upd_same]; rfl⟩, (rS_mono (Cov.of_same s2 fun a h _ => h.elim .inl fun z => z.elim (fun z => .inr (.inl z)) fun z => .inr (.inr (.inl z))) (Stb.of_same s2) b).2 vs d h1⟩, fun a ha => ?_⟩
      rcases ha with ha | ha
      · exact nw_on s2 h2 a ha
      · exact nl a ha
    | l => cases hm
    | b => cases hm
theorem rp_projH {b t : Ty} {m : Em} {ta : TE} {F : Gam ts → Option (den b)} (r : RIx b t) (n : Nat) {i : Int} (h : RP K ms ts ta m (.hl b) F) (hn : r.ix = n := by rfl) (hi : i = (n : Int) := by rfl) : RP K ms ts (tOp (rIxL K) ta (tC (.int i))) .b t (eProj r F) := fun E L Γ σ H xt Q d o e q => by
  obtain ⟨a, ea, e⟩ := bind_some e
  cases e
  refine h E L Γ σ H xt _ a o ea fun v H1 s1 r1 => ?_
  obtain ⟨p, vs, rfl, hl, h2⟩ := r1.b
  obtain ⟨w, hw, rw⟩ := row_get r h2
  subst hn
  subst hi
  exact ⟨p, vs, _, w, rfl, rfl, hl.seq, atI_nat hw, q w H1 s1 rw⟩
/-! ### parts of a tuple of unlike items, read -/
inductive RDrop : Ty → Nat → Ty → Type where
  | z {b : Ty} : RDrop b 0 b
  | s {a b c : Ty} {n : Nat} : RDrop b n c → RDrop (.cons a b) (n + 1) c
def RDrop.get : {b c : Ty} → {n : Nat} → RDrop b n c → den b → den c
  | _, _, _, .z, d => d
  | _, _, _, .s r, d => r.get d.2
theorem drop_row {R : Reg} : ∀ {b c : Ty} {n : Nat} (r : RDrop b n c) {vs : List V} {d : den b}, (rS K H R b).2 vs d → n ≤ vs.length ∧ (rS K H R c).2 (vs.drop n) (r.get d)
  | _, _, _, .z, vs, d, h => ⟨Nat.zero_le _, by rw [List.drop_zero]; exact h⟩
  | _, _, _, .s r, vs, d, h => by
    obtain ⟨v, w, rfl, _, h2⟩ := h
    obtain ⟨k1, k2⟩ := drop_row r h2
    exact ⟨by simp; omega, by rw [List.drop_succ_cons]; exact k2⟩
def eDrop {G : Type} {b c : Ty} {n : Nat} (r : RDrop b n c) (F : G → Option (den b)) : G → Option (den c) := fun Γ => (F Γ).bind fun d => some (r.get d)
theorem row_frz : ∀ {b c : Ty} {n : Nat}, RDrop b n c → b.frz = true → c.frz = true
  | _, _, _, .z, h => h
  | .cons a b, _, _, .s r, h => by
    simp only [Ty.frz, Bool.and_eq_true] at h
    exact row_frz r h.2
theorem cut_drop {α : Type} {xs : List α} {n : Nat} (h : n ≤ xs.length) : (xs.drop (HT.sIx xs.length 0 (some (n : Int)))).take (HT.sIx xs.length xs.length none - HT.sIx xs.length 0 (some (n : Int))) = xs.drop n := by
  rw [HT.sIx_nat, HT.sIx_none, Nat.min_eq_left h, List.take_of_length_le]
  rw [List.length_drop]
  exact Nat.le_refl _
theorem rp_drop {b c : Ty} {n : Nat} {m m' : Em} {te : TE} {F : Gam ts → Option (den b)} (r : RDrop b n c) (h : RP K ms ts te m (.tup b) F) (hf : b.frz = true := by rfl) (hn : (decide (0 < n)) = true := by rfl) :
    RP K ms ts (tSl (rSlA K) te (tPart (tC (.int (n : Int)))) tNoPart) m' (.tup c) (eDrop (c := c) r F : Gam ts → Option (den c)) := fun E L Γ σ H xt Q d o e q => by
  obtain ⟨a, ea, e⟩ := bind_some e
  cases e
  have hn := of_decide_eq_true hn
  refine h E L Γ σ H xt _ a o ea fun v H1 s1 r1 => ?_
  obtain ⟨p, vs, rfl, hp, h2⟩ := r1.b
  obtain ⟨k1, k2⟩ := drop_row r h2
  have hc := row_frz r hf
  refine ⟨_, rfl, p, vs, rfl, .of hp, fun z => ?_, fun _ l hl => ?_⟩
  · rw [HT.sIx_nat] at z
    have hv : vs = [] := by
      cases vs with
      | nil => rfl
      | cons x y =>
        have := z.1
        simp at this
        omega
    subst hv
    have := k1
    simp at this
    omega
  · rw [show cutV vs (some (n : Int)) none = vs.drop n from cut_drop k1]
    have s2 : Same H1 (upd H1 l (.tup (vs.drop n))) := same_new hl
    refine q _ _ (s1.trans s2) (Rep.frz (t := .tup c) (R := fun _ => True) hc m' ⟨l, _, rfl, upd_same, ?_⟩)
    exact (rS_mono (Cov.of_same s2 fun _ h _ => h) (Stb.of_same s2) c).2 _ _ k2
/-- a tuple whose items are of one kind, as such -/
inductive Hom : Ty → Ty → Type where
  | one {t : Ty} : Hom (.last t) t
  | more {t b : Ty} : Hom b t → Hom (.cons t b) t
def Hom.lst : {b t : Ty} → Hom b t → den b → List (den t)
  | _, _, .one, d => [d]
  | _, _, .more h, d => d.1 :: h.lst d.2
theorem hom_row {R : Reg} : ∀ {b t : Ty} (h : Hom b t) {vs : List V} {d : den b}, (rS K H R b).2 vs d → F2 (rS K H R t).1 vs (h.lst d)
  | _, _, .one, vs, d, r => by
    obtain ⟨v, rfl, r⟩ := r
    exact ⟨r, True.intro⟩
  | _, _, .more h, vs, d, r => by
    obtain ⟨v, w, rfl, r1, r2⟩ := r
    exact ⟨r1, hom_row h r2⟩
def eHom {G : Type} {b t : Ty} (h : Hom b t) (F : G → Option (den b)) : G → Option (List (den t)) := fun Γ => (F Γ).bind fun d => some (h.lst d)
theorem rp_hom {b t : Ty} {m m' : Em} {te : TE} {F : Gam ts → Option (den b)} (r : Hom b t) (h : RP K ms ts te m (.tup b) F) (hf : t.frz = true := by rfl) : RP K ms ts te m' (.vtup t) (eHom r F) := fun E L Γ σ H xt Q d o e q => by
  obtain ⟨a, ea, e⟩ := bind_some e
  cases e
  refine h E L Γ σ H xt _ a o ea fun v H1 s1 r1 => ?_
  obtain ⟨p, vs, rfl, hp, h2⟩ := r1.b
  exact q _ H1 s1 (Rep.frz (t := .vtup t) (R := fun _ => True) hf m' ⟨p, vs, rfl, hp, hom_row r h2⟩)
/-! ### reading a shared dict -/
theorem rp_dgetw {k t : Ty} {m : Em} {m2 : Em} {td ty : TE} {F : Gam ts → Option (List (den k × den t))} {G : Gam ts → Option (den k)} (h : RP K ms ts td m (.dict k t) F) (h' : RP K ms ts ty m2 k G) (hm : (m == .w || m == .l) = true := by rfl) (hk : okKey k = true := by rfl) : RP K ms ts (tDGet td ty) m t (e2 (fGetK (k := k)) F G) := fun E L Γ σ H xt Q d o e q => by
  obtain ⟨a, ea, e⟩ := bind_some e
  obtain ⟨x, ex, e⟩ := bind_some e
  refine h E L Γ σ H xt _ a o ea fun v H1 s1 r1 => h' E L Γ σ H1 xt _ x (o.same s1) ex fun w H2 s2 r2 => ?_
  have go : ∀ {R : Reg}, (rS K H1 R (.dict k t)).1 v a → ((∀ v, (rS K H2 R t).1 v d → Rep K E L H H2 m t v d) → ∃ a z, v = .ref a ∧ DGet H2 a w (some z) ∧ Q z H2) := fun {R} r fin => by
    obtain ⟨p, rfl⟩ := dict_ref (k := k) (t := t) r
    rcases dget_of hk ((rS_mono (Cov.of_same s2 fun _ h _ => h) (Stb.of_same s2) (.dict k t)).1 _ _ r) r2.b with ⟨g1, _⟩ | ⟨v, z, g1, g2, g3⟩
    · rw [g1] at e
      cases e
    · rw [g1] at e
      cases e
      exact ⟨p, v, rfl, g2, q v H2 (s1.trans s2) (fin v g3)⟩
  cases m with
  | w =>
    obtain ⟨Lr, h1, h2⟩ := r1
    exact go h1 fun v r => ⟨Lr, r, nw_on s2 h2⟩
  | l =>
    obtain ⟨Lr, h1, h2⟩ := r1
    exact go h1 fun v r => ⟨Lr, r, nw_on s2 h2⟩
  | o => cases hm
  | b => cases hm
theorem rp_dget2w {k t : Ty} {m : Em} {m2 : Em} {td ty tx : TE} {F : Gam ts → Option (List (den k × den t))} {G : Gam ts → Option (den k)} {D : Gam ts → Option (den t)} (h : RP K ms ts td m (.dict k t) F) (h' : RP K ms ts ty m2 k G) (hx : RP K ms ts tx m t D) (hm : (m == .w || m == .l) = true := by rfl) (hk : okKey k = true := by rfl) :
    RP K ms ts (tDGet2 td ty tx) m t (e3 (fGet2 (k := k)) F G D) := fun E L Γ σ H xt Q d o e q => by
  obtain ⟨a, ea, e⟩ := bind_some e
  obtain ⟨x, ex, e⟩ := bind_some e
  obtain ⟨y, ey, e⟩ := bind_some e
  refine h E L Γ σ H xt _ a o ea fun v H1 s1 r1 => ?_
  obtain ⟨p, rfl⟩ := dict_ref (k := k) (t := t) r1.b
  refine ⟨p, rfl, isD_of r1.b, h' E L Γ σ H1 xt _ x (o.same s1) ex fun w H2 s2 r2 => hx E L Γ σ H2 xt _ y ((o.same s1).same s2) ey fun u H3 s3 r3 => ?_⟩
  have s23 := s2.trans s3
  have r2' := rs_on s3 r2.b
  have go : ∀ {R : Reg}, (rS K H1 R (.dict k t)).1 (.ref p) a → ((∀ v, (rS K H3 R t).1 v d → Rep K E L H H3 m t v d) → (fGetK a x = none → Rep K E L H H3 m t u d) → ∃ z, DGet H3 p w z ∧ Q (z.getD u) H3) := fun {R} r fin fin2 => by
    rcases dget_of hk ((rS_mono (Cov.of_same s23 fun _ h _ => h) (Stb.of_same s23) (.dict k t)).1 _ _ r) r2' with ⟨g1, g2⟩ | ⟨v, z, g1, g2, g3⟩
    · exact ⟨none, g2, q u H3 (s1.trans s23) (fin2 g1)⟩
    · rw [fGet2, g1] at e
      cases e
      exact ⟨some v, g2, q v H3 (s1.trans s23) (fin v g3)⟩
  have r3' : fGetK a x = none → Rep K E L H H3 m t u d := fun g => by
    rw [fGet2, g] at e
    cases e
    exact r3.older (s1.trans s2)
  cases m with
  | w =>
    obtain ⟨Lr, h1, h2⟩ := r1
    exact go h1 (fun v r => ⟨Lr, r, nw_on s23 h2⟩) r3'
  | l =>
    obtain ⟨Lr, h1, h2⟩ := r1
    exact go h1 (fun v r => ⟨Lr, r, nw_on s23 h2⟩) r3'
  | o => cases hm
  | b => cases hm
/-! ### {k: v} -/
def fOne {α β : Type} (k : α) (v : β) : Option (List (α × β)) := some [(k, v)]
theorem rp_disp1 {k t : Ty} {m1 m2 : Em} {tk tv : TE} {F : Gam ts → Option (den k)} {G : Gam ts → Option (den t)} (h : RP K ms ts tk m1 k F) (h' : RP K ms ts tv m2 t G) (hf : t.frz = true := by rfl) (hk : (k == .int || k == .str) = true := by rfl) : RP K ms ts (tDisp [(tk, tv)]) .o (.dict k t) (e2 fOne F G) := fun E L Γ σ H xt Q d o e q => fun p hp => by
  obtain ⟨a, ea, e⟩ := bind_some e
  obtain ⟨b, eb, e⟩ := bind_some e
  cases e
  have s0 : Same H (upd H p (.dK [])) := same_new hp
  refine h E L Γ σ _ xt _ a (o.same s0) ea fun v H1 s1 r1 => h' E L Γ σ H1 xt _ b ((o.same s0).same s1) eb fun w H2 s2 r2 => ?_
  have at2 : H2 p = some (.dK []) := (s1.trans s2) _ _ upd_same
  obtain ⟨key, rfl, ek⟩ := key_atom hk r1.b
  have hkt : k.tk = false := by cases k <;> first | rfl | (cases hk; done)
  refine ⟨at2, [(key, w)], rfl, by simp, ?_⟩
  have st : Stb H2 (upd H2 p (.dK (mergeK [] [(key, w)]))) := Stb.upd at2 rfl
  refine q _ _ (fun b o e => ?_) ⟨[p], fun _ => False, ⟨p, [], rfl, rfl, .inl ⟨hkt, _, upd_same, [], [], rfl, ⟨ek, .inl ?_⟩, rfl⟩⟩, by simp, fun b hb => ?_, fun b h => h.elim, fun b _ h => h⟩
  · have ne : b ≠ p := fun z => by rw [z, hp] at e; cases e
    rw [upd_ne ne]
    exact (s0.trans (s1.trans s2)) b o e
  · exact (rS_o (R := fun _ => False) t hf).1 _ _ (rS_stb hf st r2.b)
  · obtain rfl : b = p := List.mem_singleton.mp hb
    exact ⟨hp, by rw [upd_same]; rfl⟩
end
end VV

/-! VMore17: a name for a thing that a dict holds, changed in place. -/
namespace VV
open PySem L2
open PyProof.Rows hiding St
section
variable {K : PySem.W.Frag} {E : Ent} {ms ms' : List Md} {ts : List Ty} {L L1 : Reg} {Γ Γ1 : Gam ts} {σ σ1 : St} {H H' H0 H1 H2 : Hp} {xt : List Addr} {rm : Rm} {ρ : Ty}
/-! ### owned names whose slots are not stored for the while (mode r) -/
def okFix : List Md → List Md → Bool
  | [], [] => true
  | m :: ms, m' :: ms' => (m == m' || (m == .o && m' == .r)) && okFix ms ms'
  | _, _ => false
theorem rG_fix : ∀ {ms ms' : List Md} {ts : List Ty} {Γ : Gam ts} {σ : St} {fp : List Addr} {S0 : Reg}, okFix ms ms' = true → (rG K H S0 L ms ts Γ σ fp ↔ rG K H S0 L ms' ts Γ σ fp)
  | [], [], [], _, _, _, _, _ => Iff.rfl
  | [], [], _ :: _, _, _, _, _, _ => Iff.rfl
  | m :: ms, m' :: ms', [], _, _, _, _, _ => Iff.rfl
  | m :: ms, m' :: ms', t :: ts, Γ, [], _, _, _ => Iff.rfl
  | m :: ms, m' :: ms', t :: ts, Γ, s :: σ, fp, S0, hk => by
    simp only [okFix, Bool.and_eq_true, Bool.or_eq_true, beq_iff_eq] at hk
    have ih : ∀ fp, rG K H S0 L ms ts Γ.2 σ fp ↔ rG K H S0 L ms' ts Γ.2 σ fp := fun fp => rG_fix hk.2
    have hs : ∀ f, slot K H S0 L m t Γ.1 s f ↔ slot K H S0 L m' t Γ.1 s f := fun f => by
      rcases hk.1 with h | ⟨h, h'⟩
      · rw [h]
      · subst h
        subst h'
        exact Iff.rfl
    constructor
    · rintro ⟨f1, f2, e, h1, h2⟩
      exact ⟨f1, f2, e, (hs f1).mp h1, (ih f2).mp h2⟩
    · rintro ⟨f1, f2, e, h1, h2⟩
      exact ⟨f1, f2, e, (hs f1).mpr h1, (ih f2).mpr h2⟩
  | [], _ :: _, _, _, _, _, _, hk => by simp [okFix] at hk
  | _ :: _, [], _, _, _, _, _, hk => by simp [okFix] at hk
theorem own_fix (hk : okFix ms ms' = true) : Own K E L ms ts Γ σ H xt ↔ Own K E L ms' ts Γ σ H xt := by
  constructor
  · intro o
    obtain ⟨fp, g, r⟩ := o.ex
    exact ⟨⟨fp, (rG_fix hk).mp g, r⟩, o.fr, o.lr, o.s0, o.iod⟩
  · intro o
    obtain ⟨fp, g, r⟩ := o.ex
    exact ⟨⟨fp, (rG_fix hk).mpr g, r⟩, o.fr, o.lr, o.s0, o.iod⟩
theorem fix_get : ∀ {ms ms' : List Md} {n : Nat} {m : Md}, okFix ms ms' = true → ms[n]? = some m → m.fixd = true → ms'[n]? = some m
  | m :: ms, m' :: ms', 0, x, hk, h, hh => by
    simp only [okFix, Bool.and_eq_true, Bool.or_eq_true, beq_iff_eq] at hk
    have e : m = x := by simpa using h
    subst e
    rcases hk.1 with h | ⟨h, h'⟩
    · rw [h]; rfl
    · subst h
      cases hh
  | m :: ms, m' :: ms', n + 1, x, hk, h, hh => by
    simp only [okFix, Bool.and_eq_true] at hk
    simpa using fix_get (n := n) hk.2 (by simpa using h) hh
  | [], _, _, _, _, h, _ => by simp at h
  | _ :: _, [], _, _, hk, _, _ => by simp [okFix] at hk
/-! ### cells that no name holds, lent -/
theorem rG_more {S0 S1 : Reg} (h : ∀ a, S0 a → S1 a) : ∀ {ms : List Md} {ts : List Ty} {Γ : Gam ts} {σ : St} {fp : List Addr}, rG K H S0 L ms ts Γ σ fp → rG K H S1 L ms ts Γ σ fp
  | [], [], _, _, _, g => g
  | m :: ms, t :: ts, Γ, s :: σ, fp, g => by
    obtain ⟨f1, f2, rfl, h1, h2⟩ := g
    refine ⟨f1, f2, rfl, ?_, rG_more h h2⟩
    cases hd : Γ.1 with
    | none => rw [hd] at h1; exact h1
    | some d =>
      rw [hd] at h1
      obtain ⟨v, e, r⟩ := h1
      refine ⟨v, e, ?_⟩
      have up : ∀ {v : V} {d : den t}, (rS K H (fun a => S0 a ∨ L a) t).1 v d → (rS K H (fun a => S1 a ∨ L a) t).1 v d := fun z => (rS_mono (Cov.of_reg fun a q _ => q.elim (fun y => .inl (h a y)) .inr) (Stb.refl _) t).1 _ _ z
      cases m <;> first | exact r | exact ⟨r.1, up r.2⟩
  | [], _ :: _, _, _, _, g => g.elim
  | _ :: _, [], _, _, _, g => g.elim
  | _ :: _, _ :: _, _, [], _, g => g.elim
theorem Own.lendX {fb : List Addr} (o : Own K E L ms ts Γ σ H (fb ++ xt)) : Own K (E.lend H fb) L ms ts Γ σ H xt := by
  obtain ⟨fp, g, nd, gd⟩ := id o.ex
  have gb : ∀ a ∈ fb, Good E L H a := fun a ha => gd a (List.mem_append_right _ (List.mem_append_left _ ha))
  have nd1 := List.nodup_append.mp nd
  have nd2 := List.nodup_append.mp nd1.2.1
  have apart : ∀ a ∈ fp ++ xt, a ∉ fb := fun a ha hb => by
    rcases List.mem_append.mp ha with h | h
    · exact nd1.2.2 a h a (List.mem_append_left _ hb) rfl
    · exact nd2.2.2 a hb a h rfl
  refine ⟨⟨fp, rG_more (fun a h => .inl h) g, List.nodup_append.mpr ⟨nd1.1, nd2.2.1, fun a ha b hb z => nd1.2.2 a ha b (List.mem_append_right _ hb) z⟩, fun a ha => ?_⟩, fun a q h1 h2 => ?_, fun a h => ?_, fun a h => ?_, fun a h => o.iod a (lend_io.mp h).1⟩
  · have hnb := apart a ha
    have ga : Good E L H a := gd a (by
      rcases List.mem_append.mp ha with h | h
      · exact List.mem_append_left _ h
      · exact List.mem_append_right _ (List.mem_append_right _ h))
    exact ⟨ga.new.elim (fun z => .inl (by rw [lend_out hnb]; exact z)) fun z => .inr (lend_io.mpr ⟨z, hnb⟩), ga.nl, fun z => z.elim ga.ns hnb, ga.at_⟩
  · by_cases hb : a ∈ fb
    · rw [lend_in hb] at h1
      exact h1
    · rw [lend_out hb] at h1
      exact o.fr a q h1 fun z => h2 (lend_io.mpr ⟨z, hb⟩)
  · have hb : a ∉ fb := fun z => (gb a z).nl h
    obtain ⟨h1, h2⟩ := o.lr a h
    exact ⟨h1.elim (fun z => .inl (by rw [lend_out hb]; exact z)) fun z => .inr (lend_io.mpr ⟨z, hb⟩), h2⟩
  · rcases h with h | h
    · have hb : a ∉ fb := fun z => (gb a z).ns h
      obtain ⟨h1, h2⟩ := o.s0 a h
      exact ⟨by rw [lend_out hb]; exact h1, fun z => h2 (lend_io.mp z).1⟩
    · exact ⟨by rw [lend_in h]; exact (gb a h).at_, fun z => (lend_io.mp z).2 h⟩
/-- names of mode w are without cells -/
def okW : List Md → List Ty → Bool
  | [], [] => true
  | m :: ms, t :: ts => (m != .w || t.frz) && okW ms ts
  | _, _ => false
theorem okW_bor : ∀ {ms : List Md} {ts : List Ty}, okW ms ts = true → okBor ms ms ts = true
  | [], [], _ => rfl
  | m :: ms, t :: ts, h => by
    simp only [okW, Bool.and_eq_true] at h
    simp only [okBor, Bool.and_eq_true, Bool.or_eq_true, beq_self_eq_true, true_and]
    exact ⟨.inl (by simpa using h.1), okW_bor h.2⟩
  | [], _ :: _, h => by simp [okW] at h
  | _ :: _, [], h => by simp [okW] at h
theorem bor_same : ∀ {ms : List Md} {ts : List Ty} {Γ : Gam ts} {σ : St} {fp : List Addr} {S0 : Reg}, okBor ms ms ts = true → rG K H S0 L ms ts Γ σ fp →
    ∀ (H' : Hp) (L' S1 : Reg) (Γ' : Gam ts) (σ' : St) (fp2 : List Addr), Cov H H' S0 S0 → Cov H H' L L' → Stb H H' → KeepL ms ts Γ Γ' σ σ' → rG K H' S1 L' ms ts Γ' σ' fp2 → rG K H' S0 L' ms ts Γ' σ' fp2
  | [], [], _, _, _, _, _, h => fun H' L' S1 Γ' σ' fp2 _ _ _ _ g => g
  | m :: ms, t :: ts, Γ, [], fp, S0, _, h => h.elim
  | m :: ms, t :: ts, Γ, s :: σ, fp, S0, hk, h => fun H' L' S1 Γ' σ' fp2 c1 c2 c3 c5 g => by
    obtain ⟨f1, f2, rfl, h1, h2⟩ := h
    simp only [okBor, Bool.and_eq_true] at hk
    have hw : m ≠ .w ∨ t.frz = true := by
      have := hk.1
      simp only [Bool.or_eq_true, Bool.and_eq_true, beq_iff_eq, bne_iff_ne] at this
      rcases this with h | ⟨h | h, h'⟩
      · exact h.2
      · exact .inl fun z => by rw [h] at z; cases z
      · exact .inl fun z => by rw [h'] at z; cases z
    cases σ' with
    | nil => exact g.elim
    | cons s' σ' =>
      obtain ⟨a, b, rfl, k1, k2⟩ := g
      refine ⟨a, b, rfl, ?_, bor_same hk.2 h2 H' L' S1 Γ'.2 σ' b c1 c2 c3 c5.2 k2⟩
      by_cases hf : m = .f
      · subst hf
        obtain ⟨e1, e2⟩ := c5.1 rfl
        have e0 : f1 = [] := by
          cases hd : Γ.1 with
          | none => rw [hd] at h1; exact h1
          | some d => rw [hd] at h1; obtain ⟨_, _, z, _⟩ := h1; exact z
        have ea : a = [] := by
          cases hd : Γ'.1 with
          | none => rw [hd] at k1; exact k1
          | some d => rw [hd] at k1; obtain ⟨_, _, z, _⟩ := k1; exact z
        rw [e1, e2, ea]
        rw [e0] at h1
        exact slot_mono (m := .f) c1 c2 c3 (fun b hb => by cases hb) h1
      · cases hd : Γ'.1 with
        | none =>
          rw [hd] at k1
          exact k1
        | some d =>
          rw [hd] at k1
          obtain ⟨v, e, r⟩ := k1
          refine ⟨v, e, ?_⟩
          cases m with
          | o => exact r
          | l => exact r
          | k => exact r
          | r => exact r
          | f => exact absurd rfl hf
          | w => exact ⟨r.1, (rS_frz t (hw.resolve_left fun z => z rfl)).1 v d r.2⟩
  | [], _ :: _, _, _, _, _, hk, _ => by simp [okBor] at hk
  | _ :: _, [], _, _, _, _, hk, _ => by simp [okBor] at hk
/-- .. and given back -/
theorem Own.unlendX {fb : List Addr} {L' : Reg} {Γ' : Gam ts} {σ' : St} {xt' : List Addr} (hk : okW ms ts = true) (o : Own K E L ms ts Γ σ H (fb ++ xt)) (o' : Own K (E.lend H fb) L' ms ts Γ' σ' H' xt') (ev : Ev ms ts L Γ σ H L' Γ' σ' H') : Own K E L' ms ts Γ' σ' H' (fb ++ xt') ∧ (∀ a ∈ fb, H' a = H a) := by
  obtain ⟨fp, g, nd, gd⟩ := id o.ex
  have gb : ∀ a ∈ fb, Good E L H a := fun a ha => gd a (List.mem_append_right _ (List.mem_append_left _ ha))
  have ndb : fb.Nodup := (List.nodup_append.mp (List.nodup_append.mp nd).2.1).1
  have fbs : ∀ a ∈ fb, H' a = H a := fun a ha => by
    obtain ⟨q, hq⟩ := isSome_some (gb a ha).at_
    rw [hq]
    exact o'.fr a q (by rw [lend_in ha]; exact hq) fun z => (lend_io.mp z).2 ha
  have fr : ∀ a q, E.H0 a = some q → a ∉ E.io → H' a = some q := fun a q h1 h2 => by
    have hb : a ∉ fb := fun z => by
      rcases (gb a z).new with y | y
      · rw [h1] at y; cases y
      · exact h2 y
    exact o'.fr a q (by rw [lend_out hb]; exact h1) fun z => h2 (lend_io.mp z).1
  have covL : Cov H H' L L' := fun a q h x => by
    refine ⟨ev.sub a h, ?_⟩
    cases z : H a with
    | none => rw [z] at x; cases x
    | some y => rw [ev.cell a y h z, ← z]; exact x
  obtain ⟨fp2, g3, nd4, gd4⟩ := id o'.ex
  have nb2 : ∀ a ∈ fp2 ++ xt', a ∉ fb := fun a ha hb => (gd4 a ha).ns (.inr hb)
  have nd5 := List.nodup_append.mp nd4
  have nl' : ∀ a ∈ fb, ¬ L' a := fun a ha z => by
    rcases (o'.lr a z).1 with y | y
    · rw [lend_in ha] at y
      have := (gb a ha).at_
      rw [y] at this
      cases this
    · exact (lend_io.mp y).2 ha
  refine ⟨⟨⟨fp2, bor_same (okW_bor hk) g H' L' _ Γ' σ' fp2 (o.covS fr) covL ev.stb (keepL_of ev.keep) g3, ?_, fun a ha => ?_⟩, fr, fun a h => ?_, o.s0, fun a h => ?_⟩, fbs⟩
  · refine List.nodup_append.mpr ⟨nd5.1, List.nodup_append.mpr ⟨ndb, nd5.2.1, fun a ha b hb z => ?_⟩, fun a ha b hb z => ?_⟩
    · subst z
      exact nb2 a (List.mem_append_right _ hb) ha
    · subst z
      rcases List.mem_append.mp hb with h | h
      · exact nb2 a (List.mem_append_left _ ha) h
      · exact nd5.2.2 a ha a h rfl
  · have key : a ∈ fp2 ++ xt' → Good E L' H' a := fun h => by
      have ga := gd4 a h
      have hnb := nb2 a h
      exact ⟨ga.new.elim (fun z => .inl (by rw [lend_out hnb] at z; exact z)) fun z => .inr (lend_io.mp z).1, ga.nl, fun z => ga.ns (.inl z), ga.at_⟩
    rcases List.mem_append.mp ha with h | h
    · exact key (List.mem_append_left _ h)
    · rcases List.mem_append.mp h with h | h
      · exact ⟨(gb a h).new, nl' a h, (gb a h).ns, by rw [fbs a h]; exact (gb a h).at_⟩
      · exact key (List.mem_append_right _ h)
  · obtain ⟨h1, h2⟩ := o'.lr a h
    have hb : a ∉ fb := fun z => nl' a z h
    exact ⟨h1.elim (fun z => .inl (by rw [lend_out hb] at z; exact z)) fun z => .inr (lend_io.mp z).1, h2⟩
  · by_cases hb : a ∈ fb
    · rw [fbs a hb]
      exact (gb a hb).at_
    · exact o'.iod a (lend_io.mpr ⟨h, hb⟩)
/-! ### x = d[k], x = d.setdefault(k, ..): x stands for the thing in d, and is changed in place -/
/-- at a, the dict, v stands at key x -/
def DAt {k : Ty} (H : Hp) (a : Addr) (x : den k) (v : V) : Prop := (k.tk = false ∧ ∃ kvs kk, H a = some (.dK kvs) ∧ keyS k x = some kk ∧ valV kvs kk = some v) ∨ (k.tk = true ∧ ∃ kvs kk, H a = some (.dT kvs) ∧ keyT k x = some kk ∧ valV kvs kk = some v)
/-- an expression that finds (or makes) it -/
def RAl (K : PySem.W.Frag) (ms : List Md) (ts : List Ty) {k t : Ty} (te : TE) (i : Mem ts (.dict k (.own t))) (G : Gam ts → Option (den k × List (den k × den t))) : Prop :=
  ∀ (E : Ent) (L : Reg) (Γ : Gam ts) (σ : St) (H : Hp) (Q : VK) (x : den k) (d : List (den k × den t)), Own K E L ms ts Γ σ H [] → G Γ = some (x, d) →
    (∀ v L' H' a, Own K E L' ms ts (i.set (some d) Γ) σ H' [] → Ev ms ts L Γ σ H L' (i.set (some d) Γ) σ H' → σ[i.ix]? = some (some (.ref a)) → DAt H' a x v → Q v H') → te σ H Q
def alEnd {ts : List Ty} {k t : Ty} {τ : Type} (i : Mem ts (.dict k (.own t))) (j : Mem ts t) (x : den k) (d : List (den k × den t)) (f : Gam ts → τ) (Γ : Gam ts) : Option τ := (j.get Γ).bind fun y => some (f (i.set (some (fUpdK (β := den t) d x y)) (j.set none Γ)))
def sAls {ρ : Type} {ts : List Ty} {k t : Ty} (i : Mem ts (.dict k (.own t))) (j : Mem ts t) (G : Gam ts → Option (den k × List (den k × den t))) (body : Gam ts → Option (Fl (Gam ts) ρ)) : Gam ts → Option (Fl (Gam ts) ρ) := fun Γ => (G Γ).bind fun q => (fGetK (β := den t) q.2 q.1).bind fun y => (body (j.set (some y) (i.set none Γ))).bind fun r => match r with
  | .nx Γ' => alEnd i j q.1 q.2 Fl.nx Γ'
  | .bk Γ' => alEnd i j q.1 q.2 Fl.bk Γ'
  | .ct Γ' => alEnd i j q.1 q.2 Fl.ct Γ'
  | .rt r Γ' => alEnd i j q.1 q.2 (Fl.rt r) Γ'
theorem set_comm_none {t u : Ty} : ∀ {ts : List Ty} (i : Mem ts t) (j : Mem ts u) (d : Option (den t)) (e : Option (den u)) (Γ : Gam ts), i.ix ≠ j.ix → i.set d (j.set e Γ) = j.set e (i.set d Γ)
  | _, .z, .z, _, _, _, h => absurd rfl h
  | _, .z, .s j, _, _, _, _ => rfl
  | _, .s i, .z, _, _, _, _ => rfl
  | _, .s i, .s j, d, e, Γ, h => by
    show (Γ.1, i.set d (j.set e Γ.2)) = (Γ.1, j.set e (i.set d Γ.2))
    rw [set_comm_none i j d e Γ.2 fun z => h (congrArg (· + 1) z)]
theorem kid_own {t : Ty} {v : V} {d : den t} {f : List Addr} (h : Kid K H L (.own t) v d f) : (rO K H L t).1 v d f := by
  rcases h with h | ⟨h, _⟩
  · exact h
  · cases h
theorem rs_als {k t : Ty} {te : TE} {st : TS} (i : Mem ts (.dict k (.own t))) (j : Mem ts t) {n : Nat} {G : Gam ts → Option (den k × List (den k × den t))} {body : Gam ts → Option (Fl (Gam ts) (den ρ))} (ms' : List Md) {mi : Md} (ha : RAl K ms ts te i G) (hb : RS K ms' ts st rm ρ body)
    (hmi : ms[i.ix]? = some mi := by rfl) (hmo : mi.own = true := by rfl) (hmj : ms[j.ix]? = some .o := by rfl) (hfi : ms'[i.ix]? = some .r := by rfl) (hfj : ms'[j.ix]? = some .r := by rfl) (hfx : okFix ms ms' = true := by rfl) (hw : okW ms' ts = true := by rfl) (hij : i.ix ≠ j.ix := by decide) (hn : j.ix = n := by rfl) (hr : (rm != .w || ρ.frz) = true := by rfl) :
    RS K ms ts (tSeq (tAsg te (gName n)) st) rm ρ (sAls i j G body) := fun E L Γ σ H D f o e p => by
  subst hn
  obtain ⟨⟨x, d⟩, e1, e⟩ := bind_some e
  obtain ⟨y, e2, e⟩ := bind_some e
  obtain ⟨r, e3, e⟩ := bind_some e
  refine ha E L Γ σ H _ x d o e1 fun v L1 H1 a o1 ev1 hσ hat => ?_
  -- the dict's cells
  obtain ⟨s0, f0, q1, q2, q3, q4, q5⟩ := o1.focus i hmi
  rw [Mem.get_set] at q2
  obtain ⟨v0, rfl, hd⟩ := q2
  replace hd := (repM_own hmo).mp hd
  rw [hσ] at q1
  cases q1
  obtain ⟨a', g, ea, rfl, hd⟩ := hd
  cases ea
  -- the thing's own cells
  have main : ∀ {κ : Type} [DecidableEq κ] {key : den k → Option κ} {kvs : List (κ × V)} {kk : κ} (mk : List (κ × V) → HO), mutO (mk kvs) = true → H1 a = some (mk kvs) → key x = some kk → valV kvs kk = some v → F3 (KidD K H1 L1 key (.own t)) kvs d g → getBy key d x = some y →
      (∀ (H3 : Hp) (L3 : Reg) (d' : List (den k × den t)) (g' : List Addr), H3 a = some (mk kvs) → F3 (KidD K H3 L3 key (.own t)) kvs d' g' → (rO K H3 L3 (.dict k (.own t))).1 (.ref a) d' (a :: g')) → (∀ z, fUpdK (β := den t) d x z = updBy key d x z) → tSeq (fun D σ H => D.nx (σ.set j.ix (some v)) H) st D σ H1 := fun {κ _ key kvs kk} mk hmu h1 h2 h3 h4 h5 hrep hupd => by
    obtain ⟨v2, ga, gj, gb, k1, rfl, k2, k3⟩ := f3_at (P := Kid K H1 L1 (.own t)) h2 h4 h5
    rw [h3] at k1
    cases k1
    have k2 := kid_own k2
    have nda := List.nodup_cons.mp q3
    have ndg := List.nodup_append.mp nda.2
    have ndj := List.nodup_append.mp ndg.2.1
    -- the dict's name without value, all cells beside
    have o2 := q5 H1 L1 none (some (.ref a)) [] ((a :: (ga ++ gb)) ++ gj) (fun b _ _ _ => rfl) (Stb.refl H1) (fun _ h => h) (fun _ h => .inl h) (fun _ h => h) (fun b h => o1.lr b h) rfl (by
      rw [List.nil_append, List.cons_append]
      refine List.nodup_cons.mpr ⟨fun z => nda.1 ?_, ?_⟩
      · simp only [List.mem_append] at z ⊢
        rcases z with (z | z) | z
        · exact .inl z
        · exact .inr (.inr z)
        · exact .inr (.inl z)
      · refine List.nodup_append.mpr ⟨List.nodup_append.mpr ⟨ndg.1, ndj.2.1, fun b hb c hc z => ndg.2.2 b hb c (List.mem_append_right _ hc) z⟩, ndj.1, fun b hb c hc z => ?_⟩
        subst z
        rcases List.mem_append.mp hb with hb | hb
        · exact ndg.2.2 b hb b (List.mem_append_left _ hc) rfl
        · exact ndj.2.2 b hc b hb rfl) (fun b hb => by
      have hm : b ∈ a :: (ga ++ (gj ++ gb)) := by
        simp only [List.nil_append, List.cons_append, List.mem_cons, List.mem_append] at hb ⊢
        rcases hb with z | (z | z) | z
        · exact .inl z
        · exact .inr (.inl z)
        · exact .inr (.inr (.inr z))
        · exact .inr (.inr (.inl z))
      exact ⟨.inl hm, (q4 b hm).1.nl, (q4 b hm).1.at_⟩)
    rw [Mem.set_set, set_same hσ] at o2
    have o3 := o2.lendX
    -- the thing at its name
    obtain ⟨s5, f5, w1, w2, w3, w4, w5⟩ := o3.focus j hmj
    have gdj : ∀ b ∈ gj, Good (E.lend H1 (a :: (ga ++ gb))) L1 H1 b := fun b hb => by
      obtain ⟨fp, _, _, gd⟩ := o3.ex
      exact gd b (List.mem_append_right _ hb)
    have o4 := w5 H1 L1 (some y) (some v) gj [] (fun b _ _ _ => rfl) (Stb.refl H1) (fun _ h => h) (fun _ h => .inl h) (fun _ h => h) (fun b h => o3.lr b h) ⟨v, rfl, k2⟩ (by rw [List.append_nil]; exact ndj.1) (fun b hb => by
      have hb : b ∈ gj := by simpa using hb
      exact ⟨.inr (.inl hb), (gdj b hb).nl, (gdj b hb).at_⟩)
    have o5 := (own_fix hfx).mp o4
    have ev5 : Ev ms ts L1 (i.set (some d) Γ) σ H1 L1 (j.set (some y) (i.set none Γ)) (σ.set j.ix (some v)) H1 := by
      refine ⟨fun _ h => h, fun _ _ _ h => h, Stb.refl H1, KeepF.trans (Γ1 := i.set none Γ) ?_ (keepF_set j hmj rfl (some y) (some v))⟩
      have := keepF_set0 (Γ := i.set (some d) Γ) (σ := σ) i hmi (own_hard hmo) none
      rw [Mem.set_set] at this
      exact this
    have hji : (σ.set j.ix (some v))[i.ix]? = some (some (.ref a)) := by
      rw [List.getElem?_set_ne (fun z => hij z.symm)]
      exact hσ
    have hjj : (σ.set j.ix (some v))[j.ix]? = some (some v) := List.getElem?_set_self (List.getElem?_eq_some_iff.mp w1).1
    -- behind the body
    have fin : ∀ {L3 : Reg} {Γ3 : Gam ts} {σ3 : St} {H3 : Hp} {xt3 : List Addr} {y3 : den t}, Own K (E.lend H1 (a :: (ga ++ gb))) L3 ms' ts Γ3 σ3 H3 xt3 → Ev ms' ts L1 (j.set (some y) (i.set none Γ)) (σ.set j.ix (some v)) H1 L3 Γ3 σ3 H3 → j.get Γ3 = some y3 →
        Own K E L3 ms ts (i.set (some (fUpdK (β := den t) d x y3)) (j.set none Γ3)) σ3 H3 xt3 ∧ Ev ms ts L Γ σ H L3 (i.set (some (fUpdK (β := den t) d x y3)) (j.set none Γ3)) σ3 H3 := fun {L3 Γ3 σ3 H3 xt3 y3} o6 ev6 ey => by
      have kj := (ev6.keep.2 j.ix .r hfj rfl).trans hjj
      have ki := (ev6.keep.2 i.ix .r hfi rfl).trans hji
      obtain ⟨s7, f7, z1, z2, z3, z4, z5⟩ := o6.focus j hfj
      rw [ey] at z2
      obtain ⟨v7, rfl, z2⟩ := z2
      rw [kj] at z1
      cases z1
      have z2 : (rO K H3 L3 t).1 v y3 f7 := z2
      have xnd : xt3.Nodup := by
        obtain ⟨fp, _, nd, _⟩ := o6.ex
        exact (List.nodup_append.mp nd).2.1
      have xgd : ∀ b ∈ xt3, Good (E.lend H1 (a :: (ga ++ gb))) L3 H3 b := fun b hb => by
        obtain ⟨fp, _, _, gd⟩ := o6.ex
        exact gd b (List.mem_append_right _ hb)
      have o8 := z5 H3 L3 none (some v) [] (f7 ++ xt3) (fun b _ _ _ => rfl) (Stb.refl H3) (fun _ h => h) (fun _ h => .inl h) (fun _ h => h) (fun b h => o6.lr b h) rfl (by
        rw [List.nil_append]
        exact List.nodup_append.mpr ⟨z3, xnd, fun b hb c hc z => (z4 b hb).2 (z ▸ hc)⟩) (fun b hb => by
        have hb : b ∈ f7 ++ xt3 := by simpa using hb
        rcases List.mem_append.mp hb with h | h
        · exact ⟨.inl h, (z4 b h).1.nl, (z4 b h).1.at_⟩
        · exact ⟨.inr (.inl h), (xgd b h).nl, (xgd b h).at_⟩)
      rw [set_same kj] at o8
      -- all is ours again
      have o2' : Own K E L1 ms' ts (j.set (some y) (i.set none Γ)) (σ.set j.ix (some v)) H1 ((a :: (ga ++ gb)) ++ []) := by
        rw [List.append_nil]
        obtain ⟨s9, f9, y1, y2, y3', y4, y5⟩ := o2.focus j hmj
        have := y5 H1 L1 (some y) (some v) gj (a :: (ga ++ gb)) (fun b _ _ _ => rfl) (Stb.refl H1) (fun _ h => h) (fun _ h => .inl h) (fun _ h => h) (fun b h => o2.lr b h) ⟨v, rfl, k2⟩ (by
          obtain ⟨fp, _, nd, _⟩ := o2.ex
          have nd := (List.nodup_append.mp nd).2.1
          have nd := List.nodup_append.mp nd
          exact List.nodup_append.mpr ⟨nd.2.1, nd.1, fun b hb c hc z => nd.2.2 c hc b hb z.symm⟩) (fun b hb => by
          obtain ⟨fp, _, _, gd⟩ := o2.ex
          have hm : b ∈ (a :: (ga ++ gb)) ++ gj := by
            rcases List.mem_append.mp hb with h | h
            · exact List.mem_append_right _ h
            · exact List.mem_append_left _ h
          have := gd b (List.mem_append_right _ hm)
          exact ⟨.inr (.inl hm), this.nl, this.at_⟩)
        exact (own_fix hfx).mp this
      have ev9 : Ev ms' ts L1 (j.set (some y) (i.set none Γ)) (σ.set j.ix (some v)) H1 L3 (j.set none Γ3) σ3 H3 :=
        ⟨ev6.sub, ev6.cell, ev6.stb, ev6.keep.trans (keepF_set0 j hfj rfl none)⟩
      obtain ⟨o9, fbs⟩ := Own.unlendX hw o2' o8 ev9
      have o10 := (own_fix hfx).mpr o9
      -- the dict has the thing again
      obtain ⟨s11, f11, u1, u2, u3, u4, u5⟩ := o10.focus i hmi
      rw [ki] at u1
      cases u1
      have hda : H3 a = some (mk kvs) := by rw [fbs a List.mem_cons_self]; exact h1
      have cov13 : Cov H1 H3 L1 L3 := fun b q hb hx => by
        refine ⟨ev6.sub b hb, ?_⟩
        cases hz : H1 b with
        | none => rw [hz] at hx; cases hx
        | some w => rw [ev6.cell b w hb hz, ← hz]; exact hx
      have hF := k3 (Kid K H3 L3 (.own t)) y3 f7 (fun p q c hc hk => kid_mono ((rS_mono cov13 ev6.stb (.own t)).1 p q) ((rO_mono cov13 ev6.stb (.own t)).1 p q c fun b hb => fbs b (by
        rcases hc b hb with h | h
        · exact List.mem_cons_of_mem _ (List.mem_append_left _ h)
        · exact List.mem_cons_of_mem _ (List.mem_append_right _ h))) hk) (.inl z2)
      have hrep3 := hrep H3 L3 _ _ hda hF
      obtain ⟨fp10, _, nd10, gd10⟩ := id o10.ex
      have nd11 := (List.nodup_append.mp nd10).2.1
      have mem10 : ∀ b, b ∈ a :: (ga ++ (f7 ++ gb)) ++ xt3 → b ∈ (a :: (ga ++ gb)) ++ (f7 ++ xt3) := fun b hb => by
        simp only [List.mem_cons, List.mem_append, List.cons_append] at hb ⊢
        rcases hb with z | (z | z | z) | z
        · exact .inl z
        · exact .inr (.inl (.inl z))
        · exact .inr (.inr (.inl z))
        · exact .inr (.inl (.inr z))
        · exact .inr (.inr (.inr z))
      have o12 := u5 H3 L3 (some (fUpdK (β := den t) d x y3)) (some (.ref a)) (a :: (ga ++ (f7 ++ gb))) xt3 (fun b _ _ _ => rfl) (Stb.refl H3) (fun _ h => h) (fun _ h => .inl h) (fun _ h => h) (fun b h => o10.lr b h) ⟨.ref a, rfl, (repM_own hmo).mpr (by rw [hupd]; exact hrep3)⟩ (by
        have e : ((a :: (ga ++ gb)) ++ (f7 ++ xt3)).Perm (a :: (ga ++ (f7 ++ gb)) ++ xt3) := by
          rw [List.cons_append, List.cons_append]
          refine List.Perm.cons a ?_
          rw [List.append_assoc, List.append_assoc, List.append_assoc]
          refine List.Perm.append_left ga ?_
          rw [← List.append_assoc, ← List.append_assoc]
          exact List.Perm.append_right xt3 List.perm_append_comm
        exact e.nodup_iff.mp nd11) (fun b hb => by
        have hm := mem10 b hb
        have := gd10 b (List.mem_append_right _ hm)
        exact ⟨.inr (.inl hm), this.nl, this.at_⟩)
      rw [set_same ki] at o12
      refine ⟨o12, ev1.trans (ev5.trans ?_)⟩
      have k4 := keepF_set0 (Γ := j.set none Γ3) (σ := σ3) i hfi rfl (some (fUpdK (β := den t) d x y3))
      have kk : KeepF ms' ts (j.set (some y) (i.set none Γ)) (i.set (some (fUpdK (β := den t) d x y3)) (j.set none Γ3)) (σ.set j.ix (some v)) σ3 := ev9.keep.trans k4
      exact ⟨ev6.sub, ev6.cell, ev6.stb, ⟨fun u z m hz hh => kk.1 u z m (fix_get hfx hz (hard_fixd hh)) hh, fun n m hz hh => kk.2 n m (fix_get hfx hz hh) hh⟩⟩
    show st D (σ.set j.ix (some v)) H1
    refine hb (E.lend H1 (a :: (ga ++ gb))) L1 _ _ H1 D r o5 e3 ?_
    cases r with
    | nx Γ3 =>
      obtain ⟨y3, ey, e⟩ := bind_some (show (j.get Γ3).bind _ = some f from e)
      cases e
      exact fun L3 σ3 H3 o6 ev6 => let ⟨a1, a2⟩ := fin o6 ev6 ey; p L3 σ3 H3 a1 a2
    | bk Γ3 =>
      obtain ⟨y3, ey, e⟩ := bind_some (show (j.get Γ3).bind _ = some f from e)
      cases e
      exact fun L3 σ3 H3 o6 ev6 => let ⟨a1, a2⟩ := fin o6 ev6 ey; p L3 σ3 H3 a1 a2
    | ct Γ3 =>
      obtain ⟨y3, ey, e⟩ := bind_some (show (j.get Γ3).bind _ = some f from e)
      cases e
      exact fun L3 σ3 H3 o6 ev6 => let ⟨a1, a2⟩ := fin o6 ev6 ey; p L3 σ3 H3 a1 a2
    | rt z Γ3 =>
      obtain ⟨y3, ey, e⟩ := bind_some (show (j.get Γ3).bind _ = some f from e)
      cases e
      refine fun L3 σ3 H3 w xt o6 ev6 rr => let ⟨a1, a2⟩ := fin o6 ev6 ey; p L3 σ3 H3 w xt a1 a2 ?_
      cases rm with
      | o => exact rr
      | l => exact rr
      | w =>
        have hf : ρ.frz = true := by simpa using hr
        exact ⟨rr.1, (rS_frz ρ hf).1 w z rr.2⟩
  rcases hd with ⟨t1, kvs, h1, h2⟩ | ⟨t1, kvs, h1, h2⟩
  · rcases hat with ⟨_, kvs', kk, g1, g2, g3⟩ | ⟨t2, _⟩
    · rw [h1] at g1
      cases g1
      refine main (key := keyS k) HO.dK rfl h1 g2 g3 h2 (by unfold fGetK at e2; rw [t1, if_neg Bool.false_ne_true] at e2; exact e2) (fun H3 L3 d' g' c1 c2 => ⟨a, g', rfl, rfl, .inl ⟨t1, kvs, c1, c2⟩⟩) fun z => by unfold fUpdK; rw [t1, if_neg Bool.false_ne_true]
    · rw [t1] at t2
      cases t2
  · rcases hat with ⟨t2, _⟩ | ⟨_, kvs', kk, g1, g2, g3⟩
    · rw [t1] at t2
      cases t2
    · rw [h1] at g1
      cases g1
      refine main (key := keyT k) HO.dT rfl h1 g2 g3 h2 (by unfold fGetK at e2; rw [if_pos t1] at e2; exact e2) (fun H3 L3 d' g' c1 c2 => ⟨a, g', rfl, rfl, .inr ⟨t1, kvs, c1, c2⟩⟩) fun z => by unfold fUpdK; rw [if_pos t1]
end
end VV

/-! VMore18: d[k] and d.setdefault(k, ..) as things to be changed. -/
namespace VV
open PySem L2
open PyProof.Rows hiding St
section
variable {K : PySem.W.Frag} {E : Ent} {ms ms' : List Md} {ts : List Ty} {L L1 : Reg} {Γ Γ1 : Gam ts} {σ σ1 : St} {H H' H0 H1 H2 : Hp} {xt : List Addr} {rm : Rm} {ρ : Ty}
theorem Mem.set_get : ∀ {ts : List Ty} {t : Ty} (i : Mem ts t) (Γ : Gam ts) {d : Option (den t)}, i.get Γ = d → i.set d Γ = Γ
  | _, _, .z, Γ, _, h => by cases h; rfl
  | _, _, .s i, Γ, _, h => by
    show (Γ.1, i.set _ Γ.2) = Γ
    rw [Mem.set_get i Γ.2 h]
/-- an owned dict, looked at -/
theorem Own.dct {k t : Ty} (i : Mem ts (.dict k t)) {d : List (den k × den t)} {mi : Md} (o : Own K E L ms ts Γ σ H []) (hm : ms[i.ix]? = some mi) (hmo : mi.own = true) (e : i.get Γ = some d) : ∃ a g, σ[i.ix]? = some (some (.ref a)) ∧
    ((k.tk = false ∧ ∃ kvs, H a = some (.dK kvs) ∧ F3 (KidD K H L (keyS k) t) kvs d g) ∨ (k.tk = true ∧ ∃ kvs, H a = some (.dT kvs) ∧ F3 (KidD K H L (keyT k) t) kvs d g)) := by
  obtain ⟨s0, f0, q1, q2, q3, q4, q5⟩ := o.focus i hm
  rw [e] at q2
  obtain ⟨v0, rfl, hd⟩ := q2
  obtain ⟨a, g, rfl, rfl, hd2⟩ := (repM_own hmo).mp hd
  exact ⟨a, g, q1, hd2⟩
theorem dat_of {k t : Ty} (hk : okKey k = true) {R : Reg} {a : Addr} {g : List Addr} {d : List (den k × den t)} {w : V} {x : den k} {y : den t} (hd : (k.tk = false ∧ ∃ kvs, H a = some (.dK kvs) ∧ F3 (KidD K H L (keyS k) t) kvs d g) ∨ (k.tk = true ∧ ∃ kvs, H a = some (.dT kvs) ∧ F3 (KidD K H L (keyT k) t) kvs d g))
    (hx : (rS K H R k).1 w x) (e : fGetK (β := den t) d x = some y) : ∃ v, DGet H a w (some v) ∧ DAt H a x v := by
  rcases key_of hk hx with ⟨k1, kk, rfl, ek⟩ | ⟨k1, ks, c, rfl, hc, ek⟩
  · rcases hd with ⟨_, kvs, h1, h2⟩ | ⟨k2, _⟩
    · unfold fGetK at e
      rw [k1, if_neg Bool.false_ne_true] at e
      obtain ⟨v, _, _, _, hv, _⟩ := f3_at (P := Kid K H L t) ek h2 e
      exact ⟨v, by rw [← hv]; exact DGet.k h1, .inl ⟨k1, kvs, kk, h1, ek, hv⟩⟩
    · rw [k1] at k2
      cases k2
  · rcases hd with ⟨k2, _⟩ | ⟨_, kvs, h1, h2⟩
    · rw [k1] at k2
      cases k2
    · unfold fGetK at e
      rw [if_pos k1] at e
      obtain ⟨v, _, _, _, hv, _⟩ := f3_at (P := Kid K H L t) ek h2 e
      exact ⟨v, by rw [← hv]; exact DGet.t h1 hc, .inr ⟨k1, kvs, ks, h1, ek, hv⟩⟩
def gGet {ts : List Ty} {k t : Ty} (i : Mem ts (.dict k (.own t))) (F : Gam ts → Option (den k)) : Gam ts → Option (den k × List (den k × den t)) := fun Γ => (F Γ).bind fun x => (i.get Γ).bind fun d => if (fGetK (β := den t) d x).isSome = true then some (x, d) else none
theorem ral_get {k t : Ty} (i : Mem ts (.dict k (.own t))) {n : Nat} {m' : Em} {ty : TE} {F : Gam ts → Option (den k)} {mi : Md} (h : RP K ms ts ty m' k F) (hk : okKey k = true := by rfl) (hm : ms[i.ix]? = some mi := by rfl) (hmo : mi.own = true := by rfl) (hn : i.ix = n := by rfl) : RAl K ms ts (tDGet (tVar n) ty) i (gGet i F) := fun E L Γ σ H Q x d o e q => by
  subst hn
  obtain ⟨x', ex, e⟩ := bind_some e
  obtain ⟨d', ed, e⟩ := bind_some e
  split at e
  · rename_i hs
    cases e
    obtain ⟨y, hy⟩ := isSome_some hs
    obtain ⟨a, g, hσ, _⟩ := o.dct i hm hmo ed
    refine ⟨_, hσ, h E L Γ σ H [] _ x o ex fun w H1 s1 r1 => ?_⟩
    have o1 := o.same s1
    obtain ⟨a', g', hσ', hd⟩ := o1.dct i hm hmo ed
    rw [hσ] at hσ'
    cases hσ'
    obtain ⟨v, h1, h2⟩ := dat_of (t := .own t) hk hd r1.b hy
    refine ⟨a, v, rfl, h1, q v L H1 a ?_ ?_ hσ h2⟩
    · rw [Mem.set_get i Γ ed]
      exact o1
    · rw [Mem.set_get i Γ ed]
      exact Ev.same s1
  · cases e
def gSetd {ts : List Ty} {k t : Ty} (i : Mem ts (.dict k (.own t))) (F : Gam ts → Option (den k)) (D : Gam ts → Option (den t)) : Gam ts → Option (den k × List (den k × den t)) := fun Γ => (i.get Γ).bind fun d => (F Γ).bind fun x => (D Γ).bind fun y => if d.length < sizeLine then some (x, if (fGetK (β := den t) d x).isSome = true then d else d ++ [(x, y)]) else none
theorem valT_new {κ : Type} [DecidableEq κ] {kvs : List (κ × V)} {k : κ} {v : V} (h : valV kvs k = none) : valV (kvs ++ [(k, v)]) k = some v := by
  induction kvs with
  | nil => exact valV_pos rfl
  | cons p r ih =>
    by_cases e : p.1 = k
    · rw [valV_pos e] at h
      cases h
    · rw [List.cons_append, valV_neg e]
      rw [valV_neg e] at h
      exact ih h
theorem ral_setd {k t : Ty} (i : Mem ts (.dict k (.own t))) {n : Nat} {m' : Em} {ty tx : TE} {F : Gam ts → Option (den k)} {D : Gam ts → Option (den t)} {mi : Md} (h : RP K ms ts ty m' k F) (hx : RP K ms ts tx .o t D) (hk : okKey k = true := by rfl) (htk : k.tk = true := by rfl) (hm : ms[i.ix]? = some mi := by rfl) (hmo : mi.own = true := by rfl) (hn : i.ix = n := by rfl) :
    RAl K ms ts (tDSetT (tVar n) ty tx) i (gSetd i F D) := fun E L Γ σ H Q x d o e q => by
  subst hn
  obtain ⟨d', ed, e⟩ := bind_some e
  obtain ⟨x', ex, e⟩ := bind_some e
  obtain ⟨y, ey, e⟩ := bind_some e
  split at e
  · rename_i hz
    have e := Option.some.inj e
    obtain ⟨rfl, rfl⟩ : x' = x ∧ (if (fGetK (β := den t) d' x').isSome = true then d' else d' ++ [(x', y)]) = d := by
      injection e with e1 e2
      exact ⟨e1, e2⟩
    obtain ⟨v0, f0, q1, hr, hnd, gd, go⟩ := o.chg i hm hmo ed
    obtain ⟨a, g, rfl, rfl, hr⟩ := hr
    rcases hr with ⟨k2, _⟩ | ⟨_, kvs, hl, hk3⟩
    · rw [htk] at k2
      cases k2
    refine ⟨_, q1, a, rfl, .inr ⟨kvs, .inl hl⟩, h E L Γ σ H [] _ x' o ex fun w H1 s1 r1 => hx E L Γ σ H1 [] _ y (o.same s1) ey fun z H2 s2 r2 => ?_⟩
    have s12 := s1.trans s2
    rcases key_of hk r1.b with ⟨k2, _⟩ | ⟨_, ks, c, rfl, hc, ek⟩
    · rw [htk] at k2
      cases k2
    have hl2 := s12 _ _ hl
    have ga := gd a List.mem_cons_self
    have hnd' := List.nodup_cons.mp hnd
    refine ⟨kvs, ks, c, hl2, rfl, s2 _ _ hc, by rw [hk3.length]; exact hz, fun v hv => ?_, fun hv => ?_⟩
    · have hs : (fGetK (β := den t) d' x').isSome = true := by
        cases hg : fGetK (β := den t) d' x' with
        | some _ => rfl
        | none =>
          have : getBy (keyT k) d' x' = none := by
            unfold fGetK at hg
            rw [if_pos htk] at hg
            exact hg
          have := f3_val (P := fun v y g => Kid K H L (.own t) v y g) ek hk3 this
          rw [hv] at this
          cases this
      rw [if_pos hs] at q
      refine q v L H2 a ?_ ?_ q1 (.inr ⟨htk, kvs, ks, hl2, ek, hv⟩)
      · rw [Mem.set_get i Γ ed]
        exact (o.same s1).same s2
      · rw [Mem.set_get i Γ ed]
        exact Ev.same s12
    · have hs : fGetK (β := den t) d' x' = none := by
        cases hg : fGetK (β := den t) d' x' with
        | none => rfl
        | some y0 =>
          unfold fGetK at hg
          rw [if_pos htk] at hg
          obtain ⟨v, _, _, _, hv2, _⟩ := f3_at (P := Kid K H L (.own t)) ek hk3 hg
          rw [hv] at hv2
          cases hv2
      have hsn : ¬ (fGetK (β := den t) d' x').isSome = true := by rw [hs]; exact Bool.false_ne_true
      rw [if_neg hsn] at q
      obtain ⟨fd, Lr, j1, j2, j3, j4, j5⟩ := r2
      have nw3 : Nw H H2 (· ∈ fd) := nw_old s1 j3
      have nw4 : Nw H H2 Lr := nw_old s1 j4
      have aH : (H a).isSome = true := ga.at_
      have nfd : ∀ b ∈ fd, b ≠ a := fun b hb z => by
        subst z
        rw [(nw3 b hb).1] at aH
        cases aH
      have nLr : ¬ Lr a := fun z => by
        rw [(nw4 a z).1] at aH
        cases aH
      have gfd : ∀ b ∈ g, b ∉ fd := fun b hb z => by
        have := (gd b (List.mem_cons_of_mem _ hb)).at_
        rw [(nw3 b z).1] at this
        cases this
      rw [putK_new hv]
      have st : Stb H2 (upd H2 a (.dT (kvs ++ [(ks, z)]))) := Stb.upd hl2 rfl
      have cov : Cov H (upd H2 a (.dT (kvs ++ [(ks, z)]))) L (fun b => L b ∨ Lr b) := fun b q hb hq => by
        have ne : b ≠ a := fun z => ga.nl (z ▸ hb)
        refine ⟨.inl hb, ?_⟩
        rw [upd_ne ne, same_at s12 (o.lr b hb).2]
        exact hq
      have f3 : F3 (KidD K (upd H2 a (.dT (kvs ++ [(ks, z)]))) (fun b => L b ∨ Lr b) (keyT k) (.own t)) (kvs ++ [(ks, z)]) (d' ++ [(x', y)]) (g ++ fd) := by
        refine F3.append (hk3.imp fun p q c hc w => ⟨w.1, kid_on cov ((Stb.of_same s12).trans st) (fun b hb => ?_) w.2⟩) ⟨fd, [], by simp, ⟨ek, .inl ?_⟩, rfl⟩
        · have hb := hc b hb
          have ne : b ≠ a := fun z => hnd'.1 (z ▸ hb)
          rw [upd_ne ne, same_at s12 (gd b (List.mem_cons_of_mem _ hb)).at_]
        · refine (rO_mono (L := fun b => L b ∨ Lr b) (fun b q hb hq => ⟨hb, ?_⟩) st t).1 z y fd (fun b hb => upd_ne (nfd b hb)) j1
          have ne : b ≠ a := fun z => hb.elim (fun q => ga.nl (z ▸ q)) fun q => nLr (z ▸ q)
          rw [upd_ne ne]
          exact hq
      obtain ⟨o', ev⟩ := go H2 (upd H2 a (.dT (kvs ++ [(ks, z)]))) fd Lr (d' ++ [(x', y)]) (a :: (g ++ fd)) s12 nw3 nw4 j5 (upd_oth List.mem_cons_self) upd_up st ⟨a, g ++ fd, rfl, rfl, .inr ⟨htk, _, upd_same, f3⟩⟩
        (List.nodup_cons.mpr ⟨fun z => (List.mem_append.mp z).elim hnd'.1 fun z => nfd a z rfl, List.nodup_append.mpr ⟨hnd'.2, j2, fun b hb c hc z => gfd b hb (z ▸ hc)⟩⟩)
        (fun b hb => by
          rcases List.mem_cons.mp hb with rfl | hb
          · exact .inl List.mem_cons_self
          · rcases List.mem_append.mp hb with hb | hb
            · exact .inl (List.mem_cons_of_mem _ hb)
            · exact .inr hb)
      exact q z _ _ a o' ev q1 (.inr ⟨htk, _, ks, upd_same, ek, valT_new hv⟩)
  · cases e
end
end VV

/-! VMore19: defs that change what is handed in at one place. -/
namespace VV
open PySem L2
open PyProof.Rows hiding St
/-- all cells of such owned data are its own -/
def Ty.pureO : Ty → Bool
  | .opt t => t.frz || (t.isOwn && t.pureO)
  | .vtup t => t.frz || (t.isOwn && t.pureO)
  | .list t => t.frz || (t.isOwn && t.pureO)
  | .dict _ t => t.frz || (t.isOwn && t.pureO)
  | .own t => t.pureO
  | .hl b => b.pureO
  | .tup b => b.pureO
  | .last a => a.frz || (a.isOwn && a.pureO)
  | .cons a b => (a.frz || (a.isOwn && a.pureO)) && b.pureO
  | _ => true
section
variable {K : PySem.W.Frag} {E : Ent} {ms ms' : List Md} {ts : List Ty} {L L1 : Reg} {Γ Γ1 : Gam ts} {σ σ1 : St} {H H' H0 H1 H2 : Hp} {xt : List Addr} {rm : Rm} {ρ : Ty}
theorem kid_pure {t : Ty} (hp : (t.frz || (t.isOwn && t.pureO)) = true) (ih : t.pureO = true → ∀ v d f, (rO K H L t).1 v d f → (rO K H L1 t).1 v d f) {v : V} {d : den t} {f : List Addr} (h : Kid K H L t v d f) : Kid K H L1 t v d f := by
  by_cases hf : t.frz = true
  · rcases h with h | ⟨_, e, h⟩
    · obtain ⟨e, r⟩ := (rO_frz (R := L1) t hf).1 v d f h
      rw [e]
      exact .inl ((rS_o t hf).1 v d r)
    · rw [e]
      exact .inl ((rS_o t hf).1 v d h)
  · have hq : t.isOwn = true ∧ t.pureO = true := by
      rw [Bool.or_eq_true, Bool.and_eq_true] at hp
      exact hp.resolve_left hf
    rcases h with h | ⟨h, _⟩
    · exact .inl (ih hq.2 v d f h)
    · rw [hq.1] at h
      cases h
theorem rO_pure : ∀ t : Ty, t.pureO = true → (∀ v d f, (rO K H L t).1 v d f → (rO K H L1 t).1 v d f) ∧ (∀ vs d f, (rO K H L t).2 vs d f → (rO K H L1 t).2 vs d f) := by
  intro t
  induction t with
  | non => exact fun _ => ⟨fun _ _ _ h => h, fun _ _ _ h => h.elim⟩
  | bool => exact fun _ => ⟨fun _ _ _ h => h, fun _ _ _ h => h.elim⟩
  | int => exact fun _ => ⟨fun _ _ _ h => h, fun _ _ _ h => h.elim⟩
  | str => exact fun _ => ⟨fun _ _ _ h => h, fun _ _ _ h => h.elim⟩
  | any => exact fun _ => ⟨fun _ _ _ h => h, fun _ _ _ h => h.elim⟩
  | opt t ih =>
    intro q
    refine ⟨fun v d f h => ?_, fun _ _ _ h => h.elim⟩
    cases d with
    | none => exact h
    | some x => exact ⟨h.1, kid_pure q (fun z => (ih z).1) h.2⟩
  | vtup t ih =>
    intro q
    refine ⟨fun v d f h => ?_, fun _ _ _ h => h.elim⟩
    obtain ⟨a, vs, e, h1, h2⟩ := h
    exact ⟨a, vs, e, h1, h2.imp fun v d g _ x => kid_pure q (fun z => (ih z).1) x⟩
  | list t ih =>
    intro q
    refine ⟨fun v d f h => ?_, fun _ _ _ h => h.elim⟩
    obtain ⟨a, vs, g, e, rfl, h1, h2⟩ := h
    exact ⟨a, vs, g, e, rfl, h1, h2.imp fun v d g _ x => kid_pure q (fun z => (ih z).1) x⟩
  | dict k t _ ih =>
    intro q
    refine ⟨fun v d f h => ?_, fun _ _ _ h => h.elim⟩
    obtain ⟨a, g, e, rfl, ⟨k1, kvs, h1, h2⟩ | ⟨k1, kvs, h1, h2⟩⟩ := h
    · exact ⟨a, g, e, rfl, .inl ⟨k1, kvs, h1, h2.imp fun p q' g _ x => ⟨x.1, kid_pure q (fun z => (ih z).1) x.2⟩⟩⟩
    · exact ⟨a, g, e, rfl, .inr ⟨k1, kvs, h1, h2.imp fun p q' g _ x => ⟨x.1, kid_pure q (fun z => (ih z).1) x.2⟩⟩⟩
  | own t ih => exact ih
  | hl b ih =>
    intro q
    refine ⟨fun v d f h => ?_, fun _ _ _ h => h.elim⟩
    obtain ⟨a, vs, g, e, rfl, h1, h2⟩ := h
    exact ⟨a, vs, g, e, rfl, h1, (ih q).2 _ _ _ h2⟩
  | tup b ih =>
    intro q
    refine ⟨fun v d f h => ?_, fun _ _ _ h => h.elim⟩
    obtain ⟨a, vs, e, h1, h2⟩ := h
    exact ⟨a, vs, e, h1, (ih q).2 _ _ _ h2⟩
  | last a ih =>
    intro q
    refine ⟨fun _ _ _ h => h.elim, fun vs d f h => ?_⟩
    obtain ⟨v, e, h⟩ := h
    exact ⟨v, e, kid_pure q (fun z => (ih z).1) h⟩
  | cons a b iha ihb =>
    intro q
    simp only [Ty.pureO, Bool.and_eq_true] at q
    refine ⟨fun _ _ _ h => h.elim, fun vs d f h => ?_⟩
    obtain ⟨v, r, f1, f2, e, rfl, h1, h2⟩ := h
    exact ⟨v, r, f1, f2, e, rfl, kid_pure q.1 (fun z => (iha z).1) h1, (ihb q.2).2 _ _ _ h2⟩
/-- a row of arguments, one of them (v) left open -/
def rHole (K : PySem.W.Frag) (H : Hp) (R : Reg) : {b t : Ty} → RIx b t → V → List V → den b → Prop
  | _, _, .one, v, vs, _ => vs = [v]
  | .cons _ b, _, .z, v, vs, d => ∃ r, vs = v :: r ∧ (rS K H R b).2 r d.2
  | .cons a _, _, .s r, v, vs, d => ∃ x w, vs = x :: w ∧ (rS K H R a).1 x d.1 ∧ rHole K H R r v w d.2
/-- what a def hands back, beside the thing that it changed -/
def RetIO (K : PySem.W.Frag) (H' : Hp) (S Lr : Reg) : Rm → (ρ : Ty) → V → den ρ → List Addr → Prop
  | .o, ρ, v, d, g => (rO K H' Lr ρ).1 v d g
  | .l, ρ, v, d, g => g = [] ∧ (rS K H' Lr ρ).1 v d
  | .w, ρ, v, d, g => g = [] ∧ (rS K H' (fun a => S a ∨ Lr a) ρ).1 v d
/-- THE PROMISE of a def that changes what is handed in at r -/
def spIO (K : PySem.W.Frag) (b : Ty) {tio : Ty} (r : RIx b tio) (rm : Rm) (ρ : Ty) (m : den b → Option (den ρ × den tio)) : Sp := fun vs H Q _ => ∃ (S : Reg) (v : V) (d : den b) (f : List Addr) (res : den ρ × den tio), (∀ a, S a → (H a).isSome = true ∧ a ∉ f) ∧ f.Nodup ∧ (∀ a ∈ f, (H a).isSome = true) ∧
  rHole K H S r v vs d ∧ (rO K H (fun _ => False) tio).1 v (r.get d) f ∧ m d = some res ∧
  ∀ v' H' f' g Lr, (∀ a o, H a = some o → a ∉ f → H' a = some o) → Stb H H' → (∀ a ∈ f, (H' a).isSome = true) → (rO K H' Lr tio).1 v res.2 f' → RetIO K H' S Lr rm ρ v' res.1 g → (f' ++ g).Nodup → (∀ a ∈ f' ++ g, (a ∈ f ∨ H a = none) ∧ ¬ Lr a ∧ (H' a).isSome = true) → (∀ a, Lr a → (a ∈ f ∨ H a = none) ∧ (H' a).isSome = true) → Q v' H'
theorem hole_len {R : Reg} : ∀ {b t : Ty} (r : RIx b t) {v : V} {vs : List V} {d : den b}, rHole K H R r v vs d → vs.length = rowLen b
  | _, _, .one, _, _, _, h => by rw [h]; rfl
  | .cons _ b, _, .z, _, _, _, hh => by
    obtain ⟨r, h, h2⟩ := hh
    have := row_length b r _ h2
    rw [h]
    simp [rowLen, this]
  | .cons _ b, _, .s r, _, _, _, hh => by
    obtain ⟨x, w, h, _, h2⟩ := hh
    have := hole_len r h2
    rw [h]
    simp [rowLen, this]
/-- the parameters: shared, but for that at n -/
def okMsIO : {b t : Ty} → RIx b t → List Ty → List Md → Bool
  | _, _, .one, ls, m :: ms => m == .r && ms.length == ls.length
  | .cons _ b, _, .z, ls, m :: ms => m == .r && okMs b ls ms
  | .cons _ _, _, .s r, ls, m :: ms => (m == .w || m == .f) && okMsIO r ls ms
  | _, _, _, _, [] => false
def ixIO : {b t : Ty} → (r : RIx b t) → (ls : List Ty) → Mem (rowTys b ++ ls) t
  | _, _, .one, _ => .z
  | .cons _ _, _, .z, _ => .z
  | .cons _ _, _, .s r, ls => .s (ixIO r ls)
theorem rG_iniIO {S0 L : Reg} : ∀ {b t : Ty} (r : RIx b t) (ls : List Ty) (ms : List Md) (v : V) (vs : List V) (d : den b) (f : List Addr), okMsIO r ls ms = true → rHole K H S0 r v vs d → (rO K H L t).1 v (r.get d) f → rG K H S0 L ms (rowTys b ++ ls) (iniG b ls d) (vs.map some ++ List.replicate ls.length none) f
  | _, _, .one, ls, m :: ms, v, vs, d, f, hk, h, ho => by
    simp only [okMsIO, Bool.and_eq_true, beq_iff_eq] at hk
    obtain ⟨rfl, hl⟩ := hk
    have h : vs = [v] := h
    subst h
    exact ⟨f, [], by simp, ⟨v, rfl, ho⟩, rG_none hl⟩
  | .cons _ b, _, .z, ls, m :: ms, v, vs, d, f, hk, h, ho => by
    simp only [okMsIO, Bool.and_eq_true, beq_iff_eq] at hk
    obtain ⟨rfl, hl⟩ := hk
    obtain ⟨w, rfl, h2⟩ := h
    exact ⟨f, [], by simp, ⟨v, rfl, ho⟩, rG_ini b ls ms w d.2 hl h2⟩
  | .cons a _, _, .s r, ls, m :: ms, v, vs, d, f, hk, h, ho => by
    simp only [okMsIO, Bool.and_eq_true, Bool.or_eq_true, beq_iff_eq] at hk
    obtain ⟨x, w, rfl, h1, h2⟩ := h
    have r' : (rS K H (fun a => S0 a ∨ L a) a).1 x d.1 := (rS_mono (Cov.of_reg fun a h _ => .inl h) (Stb.refl H) a).1 x d.1 h1
    refine ⟨[], f, by simp, ⟨x, rfl, ?_⟩, rG_iniIO r ls ms v w d.2 f hk.2 h2 ho⟩
    rcases hk.1 with rfl | rfl
    · exact ⟨rfl, r'⟩
    · exact ⟨rfl, r'⟩
  | _, _, .one, _, [], _, _, _, _, hk, _, _ => by simp [okMsIO] at hk
  | _, _, .z, _, [], _, _, _, _, hk, _, _ => by simp [okMsIO] at hk
  | _, _, .s _, _, [], _, _, _, _, hk, _, _ => by simp [okMsIO] at hk
/-- how such a def ends; fall: what it hands back at its end -/
def endIO {ts : List Ty} {tio : Ty} {ρ : Type} (i : Mem ts tio) (fall : Option ρ) : Option (Fl (Gam ts) ρ) → Option (ρ × den tio)
  | some (.rt r Γ) => (i.get Γ).map fun x => (r, x)
  | some (.nx Γ) => fall.bind fun r => (i.get Γ).map fun x => (r, x)
  | _ => none
def runIO {ρ : Type} {b tio : Ty} (r : RIx b tio) (ls : List Ty) (fall : Option ρ) (F : Gam (rowTys b ++ ls) → Option (Fl (Gam (rowTys b ++ ls)) ρ)) (d : den b) : Option (ρ × den tio) := endIO (ixIO r ls) fall (F (iniG b ls d))
theorem get_r : ∀ {b t : Ty} (r : RIx b t) (ls : List Ty) (ms : List Md), okMsIO r ls ms = true → ms[(ixIO r ls).ix]? = some .r
  | _, _, .one, ls, m :: ms, hk => by
    simp only [okMsIO, Bool.and_eq_true, beq_iff_eq] at hk
    rw [hk.1]
    rfl
  | .cons _ b, _, .z, ls, m :: ms, hk => by
    simp only [okMsIO, Bool.and_eq_true, beq_iff_eq] at hk
    rw [hk.1]
    rfl
  | .cons a _, _, .s r, ls, m :: ms, hk => by
    simp only [okMsIO, Bool.and_eq_true] at hk
    have := get_r r ls ms hk.2
    simpa [ixIO, Mem.ix] using this
  | _, _, .one, _, [], hk => by simp [okMsIO] at hk
  | _, _, .z, _, [], hk => by simp [okMsIO] at hk
  | _, _, .s _, _, [], hk => by simp [okMsIO] at hk
theorem hole_at {R : Reg} : ∀ {b t : Ty} (r : RIx b t) (ls : List Ty) {v : V} {vs : List V} {d : den b}, rHole K H R r v vs d → ∀ tl : St, (vs.map some ++ tl)[(ixIO r ls).ix]? = some (some v)
  | _, _, .one, ls, v, vs, d, h, tl => by
    have h : vs = [v] := h
    subst h
    rfl
  | .cons _ b, _, .z, ls, v, vs, d, h, tl => by
    obtain ⟨w, rfl, _⟩ := h
    rfl
  | .cons a _, _, .s r, ls, v, vs, d, h, tl => by
    obtain ⟨x, w, rfl, _, h2⟩ := h
    have := hole_at r ls h2 tl
    simpa [ixIO, Mem.ix] using this
theorem fn_okIO {P : Program} {w : World} {mg : Str → Option Value} {base : Heap} {x qual : Str} {st : Stmt} {f : Addr} {fd : FuncData} {N ps : List Str} {k : Nat} {b tio : Ty} (r : RIx b tio) (ls : List Ty) (ms : List Md) (fall : Option (den ρ)) {m : den b → Option (den ρ × den tio)} {F : Gam (rowTys b ++ ls) → Option (Fl (Gam (rowTys b ++ ls)) (den ρ))}
    (Fn : Fun K x qual st f fd) (S : FnScope N ps (defScope st)) (hps : ps.length = rowLen b) (hN : N.length = rowLen b + ls.length) (hms : okMsIO r ls ms = true) (hm : ∀ d, m d = runIO r ls fall F d) (hfall : ∀ z, fall = some z → ∀ H Sx Lr, RetIO K H Sx Lr rm ρ .non z [])
    (hbody : ∀ (cdv : Value) (A : Around) (outer : List Env) (s : Shared) (H : Hp) (E : XK), Room k (A.deeper (envOfC qual (defScope st) s.heap.objs.size f cdv)) →
      ∃ t, PSs (cxOf CX0 P w K mg base N qual (defScope st) f cdv A outer s H E).nox (defBody st) t ∧ RS K ms (rowTys b ++ ls) t rm ρ F) : FnOk P w K mg base CX0 (k + 1) f fd ps (spIO K b r rm ρ m) := by
  refine Fn.ok S (fun vs H Q E h => ?_) (fun cdv A outer s H vs Q E hr h => ?_)
  · obtain ⟨S, v, d, f, res, _, _, _, h2, _⟩ := h
    rw [hole_len r h2, hps]
  · obtain ⟨S, v, d, fc, res, c1, c2, c3, c4, c5, c6, c7⟩ := h
    obtain ⟨t, ht, hrs⟩ := hbody cdv A outer s H E hr
    refine ⟨t, ht, ?_⟩
    rw [hm d] at c6
    unfold runIO at c6
    have hl := hole_len r c4
    have es : L2.start N vs = vs.map some ++ List.replicate ls.length none := by
      unfold L2.start
      rw [hl, hN, Nat.add_sub_cancel_left]
    rw [es]
    have o : Own K ⟨H, S, fc⟩ (fun _ => False) ms (rowTys b ++ ls) (iniG b ls d) (vs.map some ++ List.replicate ls.length none) H [] :=
      ⟨⟨fc, rG_iniIO r ls ms v vs d fc hms c4 c5, by rw [List.append_nil]; exact c2, fun a ha => by
        have ha : a ∈ fc := by simpa using ha
        exact ⟨.inr ha, id, fun z => (c1 a z).2 ha, c3 a ha⟩⟩, fun a o h _ => h, fun a h => h.elim, fun a h => ⟨(c1 a h).1, (c1 a h).2⟩, fun a h => c3 a h⟩
    have hir := get_r r ls ms hms
    have h0 := hole_at r ls c4 (List.replicate ls.length none)
    -- what is left at the end
    have fin : ∀ {L' Γ' σ' H' xt v'} {z : den ρ}, Own K ⟨H, S, fc⟩ L' ms (rowTys b ++ ls) Γ' σ' H' xt → Ev ms (rowTys b ++ ls) (fun _ => False) (iniG b ls d) (vs.map some ++ List.replicate ls.length none) H L' Γ' σ' H' → RetIO K H' S L' rm ρ v' z xt → ((ixIO r ls).get Γ').map (fun y => (z, y)) = some res → Q v' H' := fun {L' Γ' σ' H' xt v' z} o' ev rr e => by
      obtain ⟨y, ey, rfl⟩ := Option.map_eq_some_iff.mp e
      obtain ⟨s1, f1, q1, q2, q3, q4, _⟩ := o'.focus (ixIO r ls) hir
      rw [ey] at q2
      obtain ⟨v1, rfl, q2⟩ := q2
      have q2 : (rO K H' L' tio).1 v1 y f1 := q2
      rw [ev.keep.2 _ .r hir rfl, h0] at q1
      cases q1
      obtain ⟨fp, _, nd, gd⟩ := o'.ex
      have gx : ∀ a ∈ xt, Good ⟨H, S, fc⟩ L' H' a := fun a ha => gd a (List.mem_append_right _ ha)
      refine c7 v' H' f1 xt L' (fun a o h1 h2 => o'.fr a o h1 h2) ev.stb (fun a ha => o'.iod a ha) q2 rr ?_ (fun a ha => ?_) fun a ha => ?_
      · exact List.nodup_append.mpr ⟨q3, (List.nodup_append.mp nd).2.1, fun a ha b hb z => (q4 a ha).2 (z ▸ hb)⟩
      · have g : Good ⟨H, S, fc⟩ L' H' a := (List.mem_append.mp ha).elim (fun h => (q4 a h).1) (gx a)
        exact ⟨g.new.elim .inr .inl, g.nl, g.at_⟩
      · obtain ⟨g1, g2⟩ := o'.lr a ha
        exact ⟨g1.elim .inr .inl, g2⟩
    cases e : F (iniG b ls d) with
    | none => rw [e] at c6; cases c6
    | some fl =>
      rw [e] at c6
      cases fl with
      | bk _ => cases c6
      | ct _ => cases c6
      | nx Γ' =>
        obtain ⟨z, ez, c6⟩ := bind_some (show fall.bind _ = some res from c6)
        exact hrs ⟨H, S, fc⟩ _ _ _ H _ _ o e fun L' σ' H' o' ev => fin o' ev (hfall z ez H' S L') c6
      | rt z Γ' =>
        refine hrs ⟨H, S, fc⟩ _ _ _ H _ _ o e fun L' σ' H' v' xt o' ev rr => fin o' ev ?_ c6
        cases rm with
        | o => exact rr
        | l => exact rr
        | w => exact rr
/-! ### calls -/
def RAIO (K : PySem.W.Frag) (ms : List Md) (ts : List Ty) (ta : TA) {b tio : Ty} (r : RIx b tio) (i : Mem ts tio) (F : Gam ts → Option (den b)) : Prop :=
  ∀ (E : Ent) (L : Reg) (Γ : Gam ts) (σ : St) (H : Hp) (xt : List Addr) (Q : List V → Hp → Prop) (d : den b), Own K E L ms ts Γ σ H xt → F Γ = some d →
    (∀ vs H' v Lr, Same H H' → Nw H H' Lr → σ[i.ix]? = some (some v) → i.get Γ = some (r.get d) → rHole K H' (fun a => E.S0 a ∨ L a ∨ Lr a) r v vs d → Q vs H') → ta σ H Q
theorem raio_one {tio : Ty} (i : Mem ts tio) {n : Nat} {mi : Md} (hm : ms[i.ix]? = some mi := by rfl) (hn : i.ix = n := by rfl) : RAIO K ms ts (tCons (tVar n) tNil) (RIx.one : RIx (.last tio) tio) i (fun Γ => i.get Γ : Gam ts → Option (den tio)) := fun E L Γ σ H xt Q d o e q => by
  subst hn
  obtain ⟨v, f, h1, _, _⟩ := o.look i hm e
  exact ⟨v, h1, q [v] H v (fun _ => False) (Same.refl H) (fun a h => h.elim) h1 e rfl⟩
theorem raio_here {tio b : Ty} (i : Mem ts tio) {n : Nat} {mi : Md} {ta : TA} {G : Gam ts → Option (den b)} (h : RA K ms ts ta .w b G) (hm : ms[i.ix]? = some mi := by rfl) (hn : i.ix = n := by rfl) : RAIO K ms ts (tCons (tVar n) ta) (RIx.z : RIx (.cons tio b) tio) i (eCons (eV i) G) := fun E L Γ σ H xt Q d o e q => by
  subst hn
  obtain ⟨x, e1, e⟩ := bind_some e
  obtain ⟨y, e2, e⟩ := bind_some e
  cases e
  obtain ⟨v, f, h1, _, _⟩ := o.look i hm e1
  refine ⟨v, h1, h E L Γ σ H xt _ y o e2 fun vs H1 s1 r1 => ?_⟩
  obtain ⟨Lr, r1, nw⟩ := r1
  exact q (v :: vs) H1 v Lr s1 nw h1 e1 ⟨vs, rfl, r1⟩
theorem raio_there {a b tio : Ty} {r : RIx b tio} {i : Mem ts tio} {te : TE} {ta : TA} {F : Gam ts → Option (den a)} {G : Gam ts → Option (den b)} (h : RP K ms ts te .w a F) (hr : RAIO K ms ts ta r i G) : RAIO K ms ts (tCons te ta) (RIx.s r : RIx (.cons a b) tio) i (eCons F G) := fun E L Γ σ H xt Q d o e q => by
  obtain ⟨x, e1, e⟩ := bind_some e
  obtain ⟨y, e2, e⟩ := bind_some e
  cases e
  refine h E L Γ σ H xt _ x o e1 fun v1 H1 s1 r1 => hr E L Γ σ H1 xt _ y (o.same s1) e2 fun vs H2 v Lr s2 nw k1 k2 k3 => ?_
  obtain ⟨Ls, r1, nw1⟩ := r1
  refine q (v1 :: vs) H2 v (fun a => Lr a ∨ Ls a) (s1.trans s2) (fun a ha => ha.elim (nw_old s1 nw a) (nw_on s2 nw1 a)) k1 k2 ⟨v1, vs, rfl, (rS_mono (Cov.of_same s2 fun a h _ => h.elim .inl fun z => .inr (z.elim .inl fun z => .inr (.inr z))) (Stb.of_same s2) a).1 _ _ r1, ?_⟩
  have up : ∀ {b t : Ty} (r : RIx b t) {vs : List V} {d : den b}, rHole K H2 (fun a => E.S0 a ∨ L a ∨ Lr a) r v vs d → rHole K H2 (fun a => E.S0 a ∨ L a ∨ (Lr a ∨ Ls a)) r v vs d := by
    have cv : Cov H2 H2 (fun a => E.S0 a ∨ L a ∨ Lr a) (fun a => E.S0 a ∨ L a ∨ (Lr a ∨ Ls a)) := Cov.of_reg fun a h _ => h.elim .inl fun z => .inr (z.elim .inl fun z => .inr (.inl z))
    intro b t r
    induction r with
    | one => exact fun h => h
    | z => exact fun ⟨w, e, h⟩ => ⟨w, e, (rS_mono cv (Stb.refl _) _).2 _ _ h⟩
    | s r ih => exact fun ⟨x, w, e, h, h2⟩ => ⟨x, w, e, (rS_mono cv (Stb.refl _) _).1 _ _ h, ih h2⟩
  exact up r k3
def eIO {ts : List Ty} {b tio : Ty} {ρ : Type} (i : Mem ts tio) (m : den b → Option (ρ × den tio)) (F : Gam ts → Option (den b)) : Gam ts → Option (ρ × Gam ts) := fun Γ => (F Γ).bind fun d => (m d).bind fun res => some (res.1, i.set (some res.2) Γ)
/-- modes of an expression that hands back as rm tells -/
theorem re_callIO {b tio : Ty} {r : RIx b tio} {i : Mem ts tio} {ta : TA} {m : den b → Option (den ρ × den tio)} {F : Gam ts → Option (den b)} {X : XK} {mi : Md} (h : RAIO K ms ts ta r i F) (hm : ms[i.ix]? = some mi := by rfl) (hmo : mi.own = true := by rfl) (hp : tio.pureO = true := by rfl) : RE K ms ts (tCall (spIO K b r rm ρ m) [] X ta) rm.em ρ (eIO i m F) := fun E L Γ σ H Q d Γ' o e q => by
  obtain ⟨a, ea, e⟩ := bind_some e
  obtain ⟨res, er, e⟩ := bind_some e
  cases e
  refine h E L Γ σ H [] _ a o ea fun vs H1 v Lr s1 nw k1 k2 k3 => ?_
  rw [List.append_nil]
  obtain ⟨s0, f, q1, q2, q3, q4, q5⟩ := o.focus i hm
  rw [k2] at q2
  obtain ⟨v1, rfl, q2⟩ := q2
  rw [k1] at q1
  cases q1
  have q2 := (repM_own hmo).mp q2
  have f1 : ∀ c ∈ f, (H1 c).isSome = true := fun c hc => by rw [same_at s1 (q4 c hc).1.at_]; exact (q4 c hc).1.at_
  have sm : ∀ c, (H c).isSome = true → (H1 c).isSome = true := fun c hc => by rw [same_at s1 hc]; exact hc
  have hS : ∀ c, (E.S0 c ∨ L c ∨ Lr c) → (H1 c).isSome = true := fun c hc => by
    rcases hc with w | w | w
    · obtain ⟨g1, g2⟩ := o.s0 c w
      obtain ⟨y, hy⟩ := isSome_some g1
      exact sm c (by rw [o.fr c y hy g2]; rfl)
    · exact sm c (o.lr c w).2
    · exact (nw c w).2
  refine ⟨fun c => E.S0 c ∨ L c ∨ Lr c, v, a, f, res, fun c hc => ⟨hS c hc, fun z => ?_⟩, q3, f1, k3, (rO_pure tio hp).1 v _ f ((rO_mono (Cov.of_same s1 fun _ h _ => h) (Stb.of_same s1) tio).1 v _ f (fun c hc => same_at s1 (q4 c hc).1.at_) q2), er, fun v' H2 f' g Ls c1 c2 c3 c4 c5 c6 c7 c8 => ?_⟩
  · rcases hc with w | w | w
    · exact (q4 c z).1.ns w
    · exact (q4 c z).1.nl w
    · have := (q4 c z).1.at_
      rw [(nw c w).1] at this
      cases this
  · have old : ∀ c, (H c).isSome = true → c ∉ f → H2 c = H c := fun c h1 h2 => by
      obtain ⟨y, hy⟩ := isSome_some h1
      rw [hy]
      exact c1 c y (s1 _ _ hy) h2
    have up : ∀ c, (H c).isSome = true → (H2 c).isSome = true := fun c h1 => by
      by_cases hc : c ∈ f
      · exact c3 c hc
      · rw [old c h1 hc]
        exact h1
    have d8 : ∀ c, (Ls c ∨ Lr c) → (c ∈ f ∨ H c = none) ∧ (H2 c).isSome = true := fun c h => h.elim (fun z => ⟨(c8 c z).1.elim .inl fun y => .inr (s1.free y), (c8 c z).2⟩) fun z => by
      have nfc : c ∉ f := fun w => by
        have := (q4 c w).1.at_
        rw [(nw c z).1] at this
        cases this
      obtain ⟨y, hy⟩ := isSome_some (nw c z).2
      exact ⟨.inr (nw c z).1, by rw [c1 c y hy nfc]; rfl⟩
    have d7 : ∀ c ∈ f' ++ g, (c ∈ f ∨ H c = none) ∧ ¬ (Ls c ∨ Lr c) ∧ (H2 c).isSome = true := fun c hc => by
      obtain ⟨d1, d2, d3⟩ := c7 c hc
      refine ⟨d1.elim .inl fun y => .inr (s1.free y), fun h => h.elim d2 fun z => ?_, d3⟩
      rcases d1 with y | y
      · have := (q4 c y).1.at_
        rw [(nw c z).1] at this
        cases this
      · have := (nw c z).2
        rw [y] at this
        cases this
    have own' : ∀ xt', (f' ++ xt').Nodup → (∀ c ∈ xt', c ∈ g) → Own K E (fun c => L c ∨ (Ls c ∨ Lr c)) ms ts (i.set (some res.2) Γ) σ H2 xt' := fun xt' nd hx => by
      have o' := q5 H2 (fun c => L c ∨ (Ls c ∨ Lr c)) (some res.2) (some v) f' xt' (fun c h1 h2 _ => old c h1 h2) ((Stb.of_same s1).trans c2) (fun _ h => .inl h) (fun c h => h.elim .inl fun z => .inr ((d8 c z).1.elim .inl fun y => .inr (.inr y))) up
        (fun c h => h.elim (fun z => ⟨(o.lr c z).1, up c (o.lr c z).2⟩) fun z => ⟨(d8 c z).1.elim (fun y => (q4 c y).1.new) fun y => .inl (o.fresh y).1, (d8 c z).2⟩)
        ⟨v, rfl, (repM_own hmo).mpr ((rO_mono (Cov.of_reg fun c h _ => .inr (.inl h)) (Stb.refl _) tio).1 v _ f' (fun _ _ => rfl) c4)⟩ nd (fun c hc => by
          have hm : c ∈ f' ++ g := by
            rcases List.mem_append.mp hc with h | h
            · exact List.mem_append_left _ h
            · exact List.mem_append_right _ (hx c h)
          obtain ⟨d1, d2, d3⟩ := d7 c hm
          refine ⟨d1.elim .inl fun y => .inr (.inr y), fun z => z.elim (fun z => ?_) d2, d3⟩
          rcases d1 with y | y
          · exact (q4 c y).1.nl z
          · have := (o.lr c z).2
            rw [y] at this
            cases this)
      rw [set_same k1] at o'
      exact o'
    have ev : Ev ms ts L Γ σ H (fun c => L c ∨ (Ls c ∨ Lr c)) (i.set (some res.2) Γ) σ H2 := ⟨fun _ h => .inl h, fun c y h1 h2 => by
      rw [old c (by rw [h2]; rfl) fun z => (q4 c z).1.nl h1]
      exact h2, (Stb.of_same s1).trans c2, keepF_set0 i hm (own_hard hmo) _⟩
    have nf := List.nodup_append.mp c6
    have nil : Own K E (fun c => L c ∨ (Ls c ∨ Lr c)) ms ts (i.set (some res.2) Γ) σ H2 [] := own' [] (by rw [List.append_nil]; exact nf.1) (fun _ h => by cases h)
    cases rm with
    | o => exact q v' _ H2 g (own' g c6 fun _ h => h) ev ((rO_mono (Cov.of_reg fun c h _ => .inr (.inl h)) (Stb.refl _) ρ).1 v' _ g (fun _ _ => rfl) c5)
    | l => exact q v' _ H2 [] nil ev ⟨rfl, (rS_mono (Cov.of_reg fun c h _ => .inr (.inl h)) (Stb.refl _) ρ).1 v' _ c5.2⟩
    | w => exact q v' _ H2 [] nil ev ⟨rfl, (rS_mono (Cov.of_reg fun c h _ => h.elim (fun z => z.elim .inl fun z => .inr (z.elim .inl fun z => .inr (.inr z))) fun z => .inr (.inr (.inl z))) (Stb.refl _) ρ).1 v' _ c5.2⟩
/-- if f(..): with such a call as its test -/
def sIfE {G ρ : Type} (c : G → Option (Bool × G)) (F F' : G → Option (Fl G ρ)) : G → Option (Fl G ρ) := fun Γ => (c Γ).bind fun b => if b.1 = true then F b.2 else F' b.2
theorem rs_ifE {te : TE} {m : Em} {t u : TS} {c : Gam ts → Option (Bool × Gam ts)} {F F' : Gam ts → Option (Fl (Gam ts) (den ρ))} (hc : RE K ms ts te m .bool c) (h : RS K ms ts t rm ρ F) (h' : RS K ms ts u rm ρ F') : RS K ms ts (tIfS (tB te) t u) rm ρ (sIfE c F F') := fun E L Γ σ H D f o e p => by
  obtain ⟨⟨b, Γ1⟩, e1, e2⟩ := bind_some e
  refine hc E L Γ σ H _ b Γ1 o e1 fun v L1 H1 xt o1 ev1 r1 => ?_
  have hv : v = .bl b := by
    cases m with
    | o => exact r1.2
    | l => exact r1.2
    | w => exact r1.2
    | b => exact r1.2
  have o2 := o1.drop
  refine ⟨b, hv, ?_⟩
  cases b with
  | true =>
    rw [if_pos rfl] at e2 ⊢
    exact h E L1 Γ1 σ H1 D f o2 e2 (p.later ev1)
  | false =>
    rw [if_neg Bool.false_ne_true] at e2 ⊢
    exact h' E L1 Γ1 σ H1 D f o2 e2 (p.later ev1)
theorem re_l {te : TE} {t : Ty} {F : Gam ts → Option (den t × Gam ts)} (h : RE K ms ts te .o t F) : RE K ms ts te .l t F := fun E L Γ σ H Q d Γ' o e q => h E L Γ σ H Q d Γ' o e fun v L' H' xt o' ev r => by
  obtain ⟨fp, g, nd, gd⟩ := id o'.ex
  have gx : ∀ a ∈ xt, Good E L' H' a := fun a ha => gd a (List.mem_append_right _ ha)
  refine q v (fun a => L' a ∨ a ∈ xt) H' [] ⟨⟨fp, rG_mono (L' := fun a => L' a ∨ a ∈ xt) (Cov.refl _ _) (Cov.of_reg fun a h _ => .inl h) (Stb.refl _) (fun _ _ => rfl) g, by rw [List.append_nil]; exact (List.nodup_append.mp nd).1, fun a ha => ?_⟩, o'.fr, fun a ha => ha.elim (o'.lr a) fun z => ⟨(gx a z).new, (gx a z).at_⟩, o'.s0, o'.iod⟩ ⟨fun a h => .inl (ev.sub a h), ev.cell, ev.stb, ev.keep⟩ ⟨rfl, (rO_s (fun a h => .inl h) t).1 v d xt (fun a h => .inr h) r⟩
  have ha : a ∈ fp := by simpa using ha
  have ga := gd a (List.mem_append_left _ ha)
  exact ⟨ga.new, fun z => z.elim ga.nl fun z => (List.nodup_append.mp nd).2.2 a ha a z rfl, ga.ns, ga.at_⟩
end
end VV

/-! VMore20: things that are moved out, perhaps None. -/
namespace VV
open PySem L2
open PyProof.Rows hiding St
section
variable {K : PySem.W.Frag} {E : Ent} {ms ms' : List Md} {ts : List Ty} {L L1 : Reg} {Γ Γ1 : Gam ts} {σ σ1 : St} {H H' H0 H1 H2 : Hp} {xt : List Addr} {rm : Rm} {ρ : Ty}
/-- an owned thing is taken out of its name -/
def eMove {ts : List Ty} {t : Ty} (i : Mem ts t) : Gam ts → Option (den t × Gam ts) := fun Γ => (i.get Γ).bind fun d => some (d, i.set none Γ)
theorem re_move {t : Ty} (i : Mem ts t) {n : Nat} (hm : ms[i.ix]? = some .o := by rfl) (hn : i.ix = n := by rfl) : RE K ms ts (tVar n) .o t (eMove i) := fun E L Γ σ H Q d Γ' o e q => by
  subst hn
  obtain ⟨d', e1, e2⟩ := bind_some e
  cases e2
  obtain ⟨v, f, h1, h2, h3⟩ := o.take i hm e1
  exact ⟨v, h1, q v L H f h3 ⟨fun _ h => h, fun _ _ _ h => h, Stb.refl H, keepF_set0 i hm rfl none⟩ h2⟩
theorem re_own {te : TE} {t : Ty} {F : Gam ts → Option (den t × Gam ts)} (h : RE K ms ts te .o t F) : RE K ms ts te .o (.own t) F := fun E L Γ σ H Q d Γ' o e q => h E L Γ σ H Q d Γ' o e q
/-- never None -/
theorem nonN_own {L : Reg} : ∀ {t : Ty}, nonN t = true → ∀ {v : V} {d : den t} {f : List Addr}, (rO K H L t).1 v d f → v ≠ .non
  | .bool, _, v, d, f, r => by rw [r.2]; simp
  | .int, _, v, d, f, r => by rw [r.2]; simp
  | .str, _, v, d, f, r => by rw [r.2.1]; simp
  | .vtup _, _, v, d, f, r => by obtain ⟨_, _, rfl, _⟩ := r; simp
  | .list _, _, v, d, f, r => by obtain ⟨_, _, _, rfl, _⟩ := r; simp
  | .dict _ _, _, v, d, f, r => by obtain ⟨_, _, rfl, _⟩ := r; simp
  | .own t, h, v, d, f, r => nonN_own (t := t) h r
  | .hl _, _, v, d, f, r => by obtain ⟨_, _, _, rfl, _⟩ := r; simp
  | .tup _, _, v, d, f, r => by obtain ⟨_, _, rfl, _⟩ := r; simp
  | .last _, _, v, d, f, r => r.elim
  | .cons _ _, _, v, d, f, r => r.elim
  | .non, h, _, _, _, _ => by cases h
  | .opt _, h, _, _, _, _ => by cases h
  | .any, h, _, _, _, _ => by cases h
def eSomeE {G α : Type} (F : G → Option (α × G)) : G → Option (Option α × G) := fun Γ => (F Γ).bind fun p => some (some p.1, p.2)
theorem re_some {te : TE} {t : Ty} {F : Gam ts → Option (den t × Gam ts)} (h : RE K ms ts te .o t F) (hn : nonN t = true := by rfl) : RE K ms ts te .o (.opt t) (eSomeE F) := fun E L Γ σ H Q d Γ' o e q => by
  obtain ⟨⟨d', Γ1⟩, e1, e2⟩ := bind_some e
  cases e2
  exact h E L Γ σ H Q d' Γ1 o e1 fun v L' H' xt o' ev r => q v L' H' xt o' ev ⟨nonN_own hn r, .inl r⟩
def sRetE {G ρ : Type} (F : G → Option (ρ × G)) : G → Option (Fl G ρ) := fun Γ => (F Γ).bind fun p => some (.rt p.1 p.2)
theorem rs_retE {te : TE} {F : Gam ts → Option (den ρ × Gam ts)} (h : RE K ms ts te .o ρ F) : RS K ms ts (tRet te) .o ρ (sRetE F) := fun E L Γ σ H D f o e p => by
  obtain ⟨⟨d, Γ1⟩, e1, e2⟩ := bind_some e
  cases e2
  exact h E L Γ σ H _ d Γ1 o e1 fun v L' H' xt o' ev r => p L' σ H' v xt o' ev r
theorem rs_retEl {te : TE} {F : Gam ts → Option (den ρ × Gam ts)} (h : RE K ms ts te .l ρ F) : RS K ms ts (tRet te) .l ρ (sRetE F) := fun E L Γ σ H D f o e p => by
  obtain ⟨⟨d, Γ1⟩, e1, e2⟩ := bind_some e
  cases e2
  exact h E L Γ σ H _ d Γ1 o e1 fun v L' H' xt o' ev r => p L' σ H' v xt o' ev r
theorem rs_retEw {te : TE} {F : Gam ts → Option (den ρ × Gam ts)} (h : RE K ms ts te .l ρ F) : RS K ms ts (tRet te) .w ρ (sRetE F) := fun E L Γ σ H D f o e p => by
  obtain ⟨⟨d, Γ1⟩, e1, e2⟩ := bind_some e
  cases e2
  exact h E L Γ σ H _ d Γ1 o e1 fun v L' H' xt o' ev r => p L' σ H' v xt o' ev ⟨r.1, (rS_mono (Cov.of_reg fun _ h _ => .inr h) (Stb.refl _) ρ).1 v d r.2⟩
/-- the same, of owned things, too -/
theorem rp_some2 {te : TE} {m : Em} {t : Ty} {F : Gam ts → Option (den t)} (h : RP K ms ts te m t F) (hs : nonN t = true := by rfl) : RP K ms ts te m (.opt t) (e1 (fun d => some (some d)) F) := fun E L Γ σ H xt Q d o e q => by
  obtain ⟨d', e1, e2⟩ := bind_some e
  cases e2
  refine h E L Γ σ H xt Q d' o e1 fun v H' s r => q v H' s ?_
  have ne : v ≠ .non := nonN_of hs r.b
  cases m with
  | b => exact ⟨ne, r⟩
  | w => exact r.elim fun Lr r => ⟨Lr, ⟨ne, r.1⟩, r.2⟩
  | l => exact r.elim fun Lr r => ⟨Lr, ⟨ne, r.1⟩, r.2⟩
  | o => exact r.elim fun f r => r.elim fun Lr r => ⟨f, Lr, ⟨ne, .inl r.1⟩, r.2⟩
/-- a thing that is not None -/
theorem rp_unopt {te : TE} {t : Ty} {m : Em} {F : Gam ts → Option (Option (den t))} (h : RP K ms ts te m (.opt t) F) : RP K ms ts te .b t (e1 (fun o => o) F) := fun E L Γ σ H xt Q d o e q => by
  obtain ⟨a, ea, e⟩ := bind_some e
  cases e
  refine h E L Γ σ H xt _ _ o ea fun v H1 s1 r1 => q v H1 s1 ?_
  exact r1.b.2
theorem rp_unoptL {te : TE} {t : Ty} {F : Gam ts → Option (Option (den t))} (h : RP K ms ts te .l (.opt t) F) : RP K ms ts te .l t (e1 (fun o => o) F) := fun E L Γ σ H xt Q d o e q => by
  obtain ⟨a, ea, e⟩ := bind_some e
  cases e
  refine h E L Γ σ H xt _ _ o ea fun v H1 s1 r1 => q v H1 s1 ?_
  obtain ⟨Lr, h1, h2⟩ := r1
  exact ⟨Lr, h1.2, h2⟩
theorem rp_unoptW {te : TE} {t : Ty} {F : Gam ts → Option (Option (den t))} (h : RP K ms ts te .w (.opt t) F) : RP K ms ts te .w t (e1 (fun o => o) F) := fun E L Γ σ H xt Q d o e q => by
  obtain ⟨a, ea, e⟩ := bind_some e
  cases e
  refine h E L Γ σ H xt _ _ o ea fun v H1 s1 r1 => q v H1 s1 ?_
  obtain ⟨Lr, h1, h2⟩ := r1
  exact ⟨Lr, h1.2, h2⟩
/-- xs.clear(), xs perhaps None -/
def sLstO {ρ : Type} {ts : List Ty} {t : Ty} (i : Mem ts (.opt (.own (.list t)))) (g : List (den t) → List (den t)) : Gam ts → Option (Fl (Gam ts) ρ) := fun Γ => (i.get Γ).bind fun (o : Option (List (den t))) => o.bind fun xs => some (.nx (i.set (some (some (g xs))) Γ))
theorem rs_clearO {t : Ty} (i : Mem ts (.opt (.own (.list t)))) {n : Nat} {mo : Md} (hm : ms[i.ix]? = some mo := by rfl) (ho : mo.own = true := by rfl) (hn : i.ix = n := by rfl) : RS K ms ts (tDrop (tBM0 K "list" rClear (tVar n))) rm ρ (sLstO i fun _ => []) := fun E L Γ σ H D f o e p => by
  subst hn
  obtain ⟨ox, e1, e⟩ := bind_some e
  obtain ⟨xs, e2, e⟩ := bind_some e
  cases e
  subst e2
  obtain ⟨v, g0, q1, hr, hnd, gd, go⟩ := o.chg i hm ho e1
  obtain ⟨hv, hr⟩ := hr
  rcases hr with hr | ⟨hr, _⟩
  · obtain ⟨a, vs, g, rfl, rfl, hl, hk⟩ := hr
    refine ⟨_, q1, .inl ⟨rfl, vs, .of hl⟩, a, vs, rfl, rfl, hl, ?_⟩
    obtain ⟨o', ev⟩ := go H (upd H a (.lst [])) [] (fun _ => False) (some []) [a] (Same.refl H) (fun a h => by simp at h) (fun a h => h.elim) (fun a h => by simp at h) (upd_oth List.mem_cons_self) upd_up (Stb.upd hl rfl) ⟨by simp, .inl ⟨a, [], [], rfl, rfl, upd_same, rfl⟩⟩ (by simp) (fun b hb => by
      rw [List.mem_singleton] at hb
      exact .inl (by rw [hb]; exact List.mem_cons_self))
    exact p _ σ _ o' ev
  · cases hr
end
end VV

/-! VMore21: chains of three, xs[::-1]. -/
namespace VV
open PySem L2
open PyProof.Rows hiding St
section
variable {K : PySem.W.Frag} {E : Ent} {ms ms' : List Md} {ts : List Ty} {L L1 : Reg} {Γ Γ1 : Gam ts} {σ σ1 : St} {H H' H0 H1 H2 : Hp} {xt : List Addr} {rm : Rm} {ρ : Ty}
def eChain3 {G α β γ δ : Type} (f : α → β → Option Bool) (g : β → γ → Option Bool) (h : γ → δ → Option Bool) (Fa : G → Option α) (Fb : G → Option β) (Fc : G → Option γ) (Fd : G → Option δ) : G → Option Bool := fun Γ => (Fa Γ).bind fun a => (Fb Γ).bind fun b => (f a b).bind fun k => if k = true then (Fc Γ).bind fun c => (g b c).bind fun k2 => if k2 = true then (Fd Γ).bind fun d => h c d else some false else some false
theorem rp_chain3 {r1 r2 r3 : R2} {m m1 m2 m3 m4 m5 m6 m7 : Em} {t1 t2 t3 t4 : Ty} {f : den t1 → den t2 → Option Bool} {g : den t2 → den t3 → Option Bool} {h : den t3 → den t4 → Option Bool} {ta tb tc td : TE} {Fa : Gam ts → Option (den t1)} {Fb : Gam ts → Option (den t2)} {Fc : Gam ts → Option (den t3)} {Fd : Gam ts → Option (den t4)}
    (v1 : V2 K r1 m4 t1 t2 .bool f) (v2 : V2 K r2 m5 t2 t3 .bool g) (v3 : V2 K r3 m6 t3 t4 .bool h) (ha : RP K ms ts ta m1 t1 Fa) (hb : RP K ms ts tb m2 t2 Fb) (hc : RP K ms ts tc m3 t3 Fc) (hd : RP K ms ts td m7 t4 Fd) : RP K ms ts (tChain3 r1 r2 r3 ta tb tc td) m .bool (eChain3 f g h Fa Fb Fc Fd) := fun E L Γ σ H xt Q d o e q => by
  obtain ⟨a, ea, e⟩ := bind_some e
  obtain ⟨b, eb, e⟩ := bind_some e
  obtain ⟨k, ek, e⟩ := bind_some e
  refine ha E L Γ σ H xt _ a o ea fun v H1 s1 q1 => hb E L Γ σ H1 xt _ b (o.same s1) eb fun w H2 s2 q2 => ?_
  refine v1 E L H2 v w a b k _ (rs_on s2 q1.b) q2.b ek fun z H3 s3 q3 => ?_
  refine ⟨k, q3.b, ?_⟩
  cases k with
  | false =>
    rw [if_neg Bool.false_ne_true] at e ⊢
    cases e
    exact q _ H3 ((s1.trans s2).trans s3) (rep_atom rfl rfl)
  | true =>
    rw [if_pos rfl] at e ⊢
    obtain ⟨c, ec, e⟩ := bind_some e
    obtain ⟨k2, ek2, e⟩ := bind_some e
    refine hc E L Γ σ H3 xt _ c (((o.same s1).same s2).same s3) ec fun x H4 s4 q4 => ?_
    refine v2 E L H4 w x b c k2 _ (rs_on (s3.trans s4) q2.b) q4.b ek2 fun z H5 s5 q5 => ?_
    refine ⟨k2, q5.b, ?_⟩
    cases k2 with
    | false =>
      rw [if_neg Bool.false_ne_true] at e ⊢
      cases e
      exact q _ H5 ((((s1.trans s2).trans s3).trans s4).trans s5) (rep_atom rfl rfl)
    | true =>
      rw [if_pos rfl] at e ⊢
      obtain ⟨d', ed, e⟩ := bind_some e
      refine hd E L Γ σ H5 xt _ d' (((((o.same s1).same s2).same s3).same s4).same s5) ed fun y H6 s6 q6 => ?_
      refine v3 E L H6 x y c d' d _ (rs_on (s5.trans s6) q4.b) q6.b e fun z H7 s7 q7 => ?_
      exact ⟨d, q7.b, q _ H7 ((((((s1.trans s2).trans s3).trans s4).trans s5).trans s6).trans s7) (rep_atom rfl rfl)⟩
/-- xs[::-1]: things without cells -/
abbrev fRevL {α : Type} (d : List α) (n : Int) : Option (List α) := okIf (decide (n = -1)) d.reverse
theorem rp_revSl {t : Ty} {m m2 : Em} {te tn : TE} {F : Gam ts → Option (List (den t))} {G : Gam ts → Option Int} (h : RP K ms ts te m (.list t) F) (h' : RP K ms ts tn m2 .int G) (hf : t.frz = true := by rfl) : RP K ms ts (tRevSl K te tn) .o (.list t) (e2 fRevL F G) := fun E L Γ σ H xt Q d o e q => by
  obtain ⟨a, ea, e⟩ := bind_some e
  obtain ⟨n, en, e⟩ := bind_some e
  obtain ⟨hn, rfl⟩ := okIf_some e
  have hn : n = -1 := of_decide_eq_true hn
  subst hn
  refine h E L Γ σ H xt _ a o ea fun v H1 s1 r1 => h' E L Γ σ H1 xt _ _ (o.same s1) en fun w H2 s2 r2 => ?_
  obtain ⟨p, vs, rfl, h1, h2⟩ := rs_on (t := .list t) s2 r1.b
  refine ⟨r2.b, p, vs, rfl, h1.seq, fun l hl => ?_⟩
  obtain ⟨k1, k2⟩ := rep_newL (K := K) (E := E) (L := L) (l := l) hf (s1.trans s2) hl (F2.reverse h2)
  exact q _ _ k1 k2
end
end VV

/-! VMore22: lists of one's own with parts that are shared. -/
namespace VV
open PySem L2
open PyProof.Rows hiding St
section
variable {K : PySem.W.Frag} {E : Ent} {ms ms' : List Md} {ts : List Ty} {L L1 : Reg} {Γ Γ1 : Gam ts} {σ σ1 : St} {H H' H0 H1 H2 : Hp} {xt : List Addr} {rm : Rm} {ρ : Ty}
theorem rl_lo {t : Ty} {ta : TA} {F : Gam ts → Option (List (den t))} (h : RL K ms ts ta .l t F) (hw : t.isOwn = false := by rfl) : RL K ms ts ta .o t F := fun E L Γ σ H xt Q d o e q => h E L Γ σ H xt Q d o e fun vs H1 s1 r1 => q vs H1 s1 (by
  obtain ⟨Lr, h1, h2⟩ := r1
  exact ⟨[], Lr, F3.of2 (fun v d r => .inr ⟨hw, rfl, r⟩) h1, List.nodup_nil, fun a ha => by simp at ha, h2, fun a ha => by simp at ha⟩)
theorem rp_unown {te : TE} {m : Em} {t : Ty} {F : Gam ts → Option (den t)} (h : RP K ms ts te m (.own t) F) : RP K ms ts te m t F := fun E L Γ σ H xt Q d o e q => h E L Γ σ H xt Q d o e fun v H' s r => q v H' s (by cases m <;> exact r)
/-- xs.append(e), e shared -/
theorem rs_appl {t : Ty} (i : Mem ts (.list t)) {n : Nat} {te : TE} {F : Gam ts → Option (den t)} (h : RP K ms ts te .l t F) (hw : t.isOwn = false := by rfl) {mo : Md} (hm : ms[i.ix]? = some mo := by rfl) (ho : mo.own = true := by rfl) (hn : i.ix = n := by rfl) : RS K ms ts (tDrop (tBM K "list" rAppend (tVar n) (tCons te tNil))) rm ρ (sApp i F) := fun E L Γ σ H D f o e p => by
  subst hn
  obtain ⟨xs, e1, e⟩ := bind_some e
  obtain ⟨d, e2, e⟩ := bind_some e
  split at e
  · rename_i hz
    cases e
    obtain ⟨a, vs, g, q1, hl, hk, hnd, gd, go⟩ := o.lst i hm ho e1
    refine ⟨_, q1, .inl ⟨rfl, vs, .of hl⟩, h E L Γ σ H [] _ d o e2 fun w H1 s1 r1 => ?_⟩
    obtain ⟨Lr, h1, h2⟩ := r1
    have hl1 := s1 _ _ hl
    refine ⟨a, vs, w, rfl, rfl, hl1, by rw [hk.length]; exact hz, ?_⟩
    have hk1 : F3 (Kid K H1 (fun b => L b ∨ Lr b) t) vs xs g := hk.imp fun v d f hf x => kid_mono ((rS_mono (Cov.of_same s1 fun a h _ => .inl h) (Stb.of_same s1) t).1 v d) ((rO_mono (Cov.of_same s1 fun a h _ => .inl h) (Stb.of_same s1) t).1 v d f fun b hb => same_at s1 (gd b (List.mem_cons_of_mem _ (hf b hb))).at_) x
    obtain ⟨o', ev⟩ := go H1 [] Lr (vs ++ [w]) (xs ++ [d]) g s1 (fun a h => by simp at h) h2 (fun a h => by simp at h) (by
      have := F3.append hk1 (show F3 (Kid K H1 (fun b => L b ∨ Lr b) t) [w] [d] [] from ⟨[], [], rfl, .inr ⟨hw, rfl, h1⟩, rfl⟩)
      rw [List.append_nil] at this
      exact this) (List.nodup_cons.mp hnd).2 (fun b hb => .inl hb)
    exact p _ σ _ o' ev
  · cases e
end
end VV

/-! VMore23: data of any depth (trees). -/
namespace VV
open PySem L2
open PyProof.Rows hiding St
section
variable {K : PySem.W.Frag} {E : Ent} {ms ms' : List Md} {ts : List Ty} {L L1 : Reg} {Γ Γ1 : Gam ts} {σ σ1 : St} {H H' H0 H1 H2 : Hp} {xt : List Addr} {rm : Rm} {ρ : Ty}
/-- such data can be compared, of any depth, too -/
def Ty.cmpA : Ty → Bool
  | .dict _ _ => false
  | .opt t => t.cmpA
  | .vtup t => t.cmpA
  | .list t => t.cmpA
  | .own t => t.cmpA
  | .hl b => b.cmpA
  | .tup b => b.cmpA
  | .last a => a.cmpA
  | .cons a b => a.cmpA && b.cmpA
  | _ => true
theorem rS_dpA {R : Reg} : ∀ t : Ty, t.cmpA = true → (∀ v d, (rS K H R t).1 v d → Dp K H v ((emb t).1 d)) ∧ (∀ vs d, (rS K H R t).2 vs d → DpAll K H vs ((emb t).2 d)) := by
  intro t
  induction t with
  | non => exact fun _ => ⟨fun v d h => by cases h; exact .non, fun _ _ h => h.elim⟩
  | bool => exact fun _ => ⟨fun v d h => by cases h; exact .bl _, fun _ _ h => h.elim⟩
  | int => exact fun _ => ⟨fun v d h => by cases h; exact .int _, fun _ _ h => h.elim⟩
  | str => exact fun _ => ⟨fun v d h => by cases h.1; exact .str _, fun _ _ h => h.elim⟩
  | any => exact fun _ => ⟨fun v d h => dv_dp d v h, fun _ _ h => h.elim⟩
  | opt t ih =>
    refine fun q => ⟨fun v d h => ?_, fun _ _ h => h.elim⟩
    cases d with
    | none => cases (show v = .non from h); exact .non
    | some x => exact (ih q).1 v x h.2
  | vtup t ih =>
    refine fun q => ⟨fun v d h => ?_, fun _ _ h => h.elim⟩
    obtain ⟨a, vs, rfl, h1, h2⟩ := h
    exact .tup (.of h1) (f2_dp (ih q).1 h2)
  | list t ih =>
    refine fun q => ⟨fun v d h => ?_, fun _ _ h => h.elim⟩
    obtain ⟨a, vs, rfl, h1, h2⟩ := h
    exact .lst h1.seq (f2_dp (ih q).1 h2)
  | dict k t _ ih => exact fun q => by cases q
  | own t ih => exact ih
  | hl b ih =>
    refine fun q => ⟨fun v d h => ?_, fun _ _ h => h.elim⟩
    obtain ⟨a, vs, rfl, h1, h2⟩ := h
    exact .lst h1.seq ((ih q).2 vs d h2)
  | tup b ih =>
    refine fun q => ⟨fun v d h => ?_, fun _ _ h => h.elim⟩
    obtain ⟨a, vs, rfl, h1, h2⟩ := h
    exact .tup (.of h1) ((ih q).2 vs d h2)
  | last a ih =>
    refine fun q => ⟨fun _ _ h => h.elim, fun vs d h => ?_⟩
    obtain ⟨v, rfl, h⟩ := h
    exact .cons ((ih q).1 v d h) .nil
  | cons a b iha ihb =>
    intro q
    simp only [Ty.cmpA, Bool.and_eq_true] at q
    refine ⟨fun _ _ h => h.elim, fun vs d h => ?_⟩
    obtain ⟨v, r, rfl, h1, h2⟩ := h
    exact .cons ((iha q.1).1 v d.1 h1) ((ihb q.2).2 r d.2 h2)
abbrev shp (d : PyData) : Bool := SeqAt.shaped d
/-- both can be laid, and one of them is not deep -/
def shp2 (d e : PyData) : Bool := d.canLay0 && e.canLay0 && decide (min d.depth e.depth ≤ 64)
theorem shp2_of {d e : PyData} (h : shp2 d e = true) : d.canLay0 = true ∧ e.canLay0 = true ∧ min d.depth e.depth ≤ 64 := by
  unfold shp2 at h
  rw [Bool.and_eq_true, Bool.and_eq_true] at h
  exact ⟨h.1.1, h.1.2, of_decide_eq_true h.2⟩
def fEqA (t : Ty) (a b : den t) : Option Bool := okIf (shp2 ((emb t).1 a) ((emb t).1 b)) (PyData.eqv ((emb t).1 a) ((emb t).1 b))
def fNeA (t : Ty) (a b : den t) : Option Bool := okIf (shp2 ((emb t).1 a) ((emb t).1 b)) (!PyData.eqv ((emb t).1 a) ((emb t).1 b))
theorem v_eqA {m : Em} {t : Ty} (hk : t.cmpA = true) : V2 K (rEqM K) m t t .bool (fEqA t) := fun E L H v w a b c Q ra rb e q => by
  obtain ⟨h1, rfl⟩ := okIf_some e
  obtain ⟨h1, h2, h3⟩ := shp2_of h1
  exact ⟨_, _, (rS_dpA t hk).1 v a ra, (rS_dpA t hk).1 w b rb, h1, h2, h3, q _ H (Same.refl H) (rep_atom rfl rfl)⟩
theorem v_neA {m : Em} {t : Ty} (hk : t.cmpA = true) : V2 K (rNeM K) m t t .bool (fNeA t) := fun E L H v w a b c Q ra rb e q => by
  obtain ⟨h1, rfl⟩ := okIf_some e
  obtain ⟨h1, h2, h3⟩ := shp2_of h1
  exact ⟨_, _, (rS_dpA t hk).1 v a ra, (rS_dpA t hk).1 w b rb, h1, h2, h3, q _ H (Same.refl H) (rep_atom rfl rfl)⟩
def fInA (t : Ty) (a : den t) (b : List (den t)) : Option Bool := okIf (shp ((emb t).1 a) && shp ((emb (.list t)).1 b)) (b.any fun z => PyData.eqv ((emb t).1 z) ((emb t).1 a))
def fNotInA (t : Ty) (a : den t) (b : List (den t)) : Option Bool := okIf (shp ((emb t).1 a) && shp ((emb (.list t)).1 b)) (!b.any fun z => PyData.eqv ((emb t).1 z) ((emb t).1 a))
theorem v_inA {m : Em} {t : Ty} (hk : t.cmpA = true) : V2 K (rInD K) m t (.list t) .bool (fInA t) := fun E L H v w a b c Q ra rb e q => by
  obtain ⟨h1, rfl⟩ := okIf_some e
  rw [Bool.and_eq_true] at h1
  refine ⟨_, b.map (emb t).1, (rS_dpA t hk).1 v a ra, (rS_dpA (.list t) hk).1 w b rb, h1.1, h1.2, q _ H (Same.refl H) (rep_atom rfl ?_)⟩
  show V.bl _ = V.bl _
  rw [List.any_map]
  rfl
theorem v_notInA {m : Em} {t : Ty} (hk : t.cmpA = true) : V2 K (rNotInD K) m t (.list t) .bool (fNotInA t) := fun E L H v w a b c Q ra rb e q => by
  obtain ⟨h1, rfl⟩ := okIf_some e
  rw [Bool.and_eq_true] at h1
  refine ⟨_, b.map (emb t).1, (rS_dpA t hk).1 v a ra, (rS_dpA (.list t) hk).1 w b rb, h1.1, h1.2, q _ H (Same.refl H) (rep_atom rfl ?_)⟩
  show V.bl _ = V.bl _
  rw [List.any_map]
  rfl
/-! ### things without cells, as data of any depth -/
theorem dvs_f2 : ∀ {ds : List PyData} {vs : List V}, dvs H ds vs ↔ F2 (fun v d => dv H d v) vs ds
  | [], [] => ⟨fun _ => True.intro, fun _ => rfl⟩
  | [], v :: vs => ⟨fun h => (by cases h), fun h => h.elim⟩
  | d :: ds, [] => ⟨fun h => (by obtain ⟨_, _, e, _⟩ := h; cases e), fun h => h.elim⟩
  | d :: ds, v :: vs => by
    constructor
    · rintro ⟨v', r, e, h1, h2⟩
      cases e
      exact ⟨h1, dvs_f2.mp h2⟩
    · rintro ⟨h1, h2⟩
      exact ⟨v, vs, rfl, h1, dvs_f2.mpr h2⟩
theorem f2_map {α β γ : Type} {P : α → γ → Prop} {f : β → γ} : ∀ {xs : List α} {ys : List β}, F2 (fun x y => P x (f y)) xs ys → F2 P xs (ys.map f)
  | [], [], _ => True.intro
  | x :: xs, y :: ys, h => ⟨h.1, f2_map h.2⟩
  | [], _ :: _, h => h.elim
  | _ :: _, [], h => h.elim
theorem rS_dv {R : Reg} : ∀ t : Ty, t.frz = true → (∀ v d, (rS K H R t).1 v d → dv H ((emb t).1 d) v) ∧ (∀ vs d, (rS K H R t).2 vs d → dvs H ((emb t).2 d) vs) := by
  intro t
  induction t with
  | non => exact fun _ => ⟨fun v d h => h, fun _ _ h => h.elim⟩
  | bool => exact fun _ => ⟨fun v d h => h, fun _ _ h => h.elim⟩
  | int => exact fun _ => ⟨fun v d h => h, fun _ _ h => h.elim⟩
  | str => exact fun _ => ⟨fun v d h => h, fun _ _ h => h.elim⟩
  | any => exact fun _ => ⟨fun v d h => h, fun _ _ h => h.elim⟩
  | opt t ih =>
    refine fun q => ⟨fun v d h => ?_, fun _ _ h => h.elim⟩
    cases d with
    | none => exact h
    | some x => exact (ih q).1 v x h.2
  | vtup t ih =>
    refine fun q => ⟨fun v d h => ?_, fun _ _ h => h.elim⟩
    obtain ⟨a, vs, rfl, h1, h2⟩ := h
    exact ⟨a, vs, rfl, h1, dvs_f2.mpr (f2_map (h2.imp (ih q).1))⟩
  | list t ih => exact fun q => by cases q
  | dict k t _ ih => exact fun q => by cases q
  | own t ih => exact fun q => by cases q
  | hl b ih => exact fun q => by cases q
  | tup b ih =>
    refine fun q => ⟨fun v d h => ?_, fun _ _ h => h.elim⟩
    obtain ⟨a, vs, rfl, h1, h2⟩ := h
    exact ⟨a, vs, rfl, h1, (ih q).2 vs d h2⟩
  | last a ih =>
    refine fun q => ⟨fun _ _ h => h.elim, fun vs d h => ?_⟩
    obtain ⟨v, rfl, h⟩ := h
    exact ⟨v, [], rfl, (ih q).1 v d h, rfl⟩
  | cons a b iha ihb =>
    intro q
    simp only [Ty.frz, Bool.and_eq_true] at q
    refine ⟨fun _ _ h => h.elim, fun vs d h => ?_⟩
    obtain ⟨v, r, rfl, h1, h2⟩ := h
    exact ⟨v, r, rfl, (iha q.1).1 v d.1 h1, (ihb q.2).2 r d.2 h2⟩
theorem rp_any {t : Ty} {m m1 : Em} {te : TE} {F : Gam ts → Option (den t)} (h : RP K ms ts te m1 t F) (hf : t.frz = true := by rfl) : RP K ms ts te m .any (e1 (fun d => some ((emb t).1 d)) F) := fun E L Γ σ H xt Q d o e q => by
  obtain ⟨a, ea, e⟩ := bind_some e
  cases e
  exact h E L Γ σ H xt Q a o ea fun v H1 s1 r1 => q v H1 s1 (rep_atom rfl ((rS_dv t hf).1 v a r1.b))
/-- data that is a whole number, a text, a tuple -/
def asI : PyData → Option Int
  | .int n => some n
  | _ => none
def asS : PyData → Option Str
  | .str x => some x
  | _ => none
def asT : PyData → Option (List PyData)
  | .tuple ds => some ds
  | _ => none
theorem rp_asI {m m1 : Em} {te : TE} {F : Gam ts → Option PyData} (h : RP K ms ts te m1 .any F) : RP K ms ts te m .int (e1 asI F) := fun E L Γ σ H xt Q d o e q => by
  obtain ⟨a, ea, e⟩ := bind_some e
  refine h E L Γ σ H xt Q a o ea fun v H1 s1 r1 => q v H1 s1 ?_
  cases a <;> first | (cases e; done) | skip
  cases e
  exact rep_atom rfl r1.b
theorem rp_asS {m m1 : Em} {te : TE} {F : Gam ts → Option PyData} (h : RP K ms ts te m1 .any F) : RP K ms ts te m .str (e1 asS F) := fun E L Γ σ H xt Q d o e q => by
  obtain ⟨a, ea, e⟩ := bind_some e
  refine h E L Γ σ H xt Q a o ea fun v H1 s1 r1 => q v H1 s1 ?_
  cases a <;> first | (cases e; done) | skip
  cases e
  exact rep_atom rfl r1.b
theorem rp_asT {m m1 : Em} {te : TE} {F : Gam ts → Option PyData} (h : RP K ms ts te m1 .any F) : RP K ms ts te m (.vtup .any) (e1 asT F) := fun E L Γ σ H xt Q d o e q => by
  obtain ⟨a, ea, e⟩ := bind_some e
  refine h E L Γ σ H xt Q a o ea fun v H1 s1 r1 => q v H1 s1 ?_
  cases a <;> first | (cases e; done) | skip
  cases e
  obtain ⟨b, vs, rfl, h1, h2⟩ := (show dv H1 (.tuple _) v from r1.b)
  exact rep_atom rfl ⟨b, vs, rfl, h1, dvs_f2.mp h2⟩
/-- a tuple of so many parts -/
inductive AllAny : Ty → Nat → Prop
  | one : AllAny (.last .any) 1
  | more {b : Ty} {n : Nat} : AllAny b n → AllAny (.cons .any b) (n + 1)
def asRow : (b : Ty) → List PyData → Option (den b)
  | .last .any, [d] => some d
  | .cons .any b, d :: ds => (asRow b ds).map fun r => (d, r)
  | _, _ => none
theorem asRow_rep {R : Reg} : ∀ {b : Ty} {ds : List PyData} {r : den b} {vs : List V}, asRow b ds = some r → F2 (fun v d => dv H d v) vs ds → (rS K H R b).2 vs r
  | .last .any, [d], r, [v], e, h => by cases e; exact ⟨v, rfl, h.1⟩
  | .cons .any b, d :: ds, r, v :: vs, e, h => by
    obtain ⟨r', e', rfl⟩ := Option.map_eq_some_iff.mp e
    exact ⟨v, vs, rfl, h.1, asRow_rep e' h.2⟩
  | .last .any, [d], r, [], e, h => h.elim
  | .last .any, [d], r, _ :: _ :: _, e, h => h.2.elim
  | .cons .any b, d :: ds, r, [], e, h => h.elim
theorem rp_asTup {b : Ty} {m m1 : Em} {te : TE} {F : Gam ts → Option PyData} (h : RP K ms ts te m1 .any F) (hf : b.frz = true := by rfl) : RP K ms ts te m (.tup b) (e1 (fun d => (asT d).bind (asRow b)) F) := fun E L Γ σ H xt Q d o e q => by
  obtain ⟨a, ea, e⟩ := bind_some e
  refine h E L Γ σ H xt Q a o ea fun v H1 s1 r1 => q v H1 s1 ?_
  obtain ⟨ds, e1, e2⟩ := bind_some e
  cases a <;> first | (cases e1; done) | skip
  cases e1
  obtain ⟨p, vs, rfl, h1, h2⟩ := (show dv H1 (.tuple _) v from r1.b)
  exact rep_atom hf ⟨p, vs, rfl, h1, asRow_rep e2 (dvs_f2.mp h2)⟩
/-- what kind of thing -/
def isA_tuple : PyData → Bool
  | .tuple _ => true
  | _ => false
def isA_list : PyData → Bool
  | .list _ => true
  | _ => false
def isA_str : PyData → Bool
  | .str _ => true
  | _ => false
def isA_bool : PyData → Bool
  | .bool _ => true
  | _ => false
def isA_int : PyData → Bool
  | .int _ => true
  | .bool _ => true
  | _ => false
theorem isA_tuple_ok (d : den .any) : kitB (kindOf .any d) "tuple" = some (isA_tuple d) := by cases d <;> (show kitB _ _ = _) <;> first | rfl | decide +kernel
theorem isA_list_ok (d : den .any) : kitB (kindOf .any d) "list" = some (isA_list d) := by cases d <;> (show kitB _ _ = _) <;> first | rfl | decide +kernel
theorem isA_str_ok (d : den .any) : kitB (kindOf .any d) "str" = some (isA_str d) := by cases d <;> (show kitB _ _ = _) <;> first | rfl | decide +kernel
theorem isA_bool_ok (d : den .any) : kitB (kindOf .any d) "bool" = some (isA_bool d) := by cases d <;> (show kitB _ _ = _) <;> first | rfl | decide +kernel
theorem isA_int_ok (d : den .any) : kitB (kindOf .any d) "int" = some (isA_int d) := by cases d <;> (show kitB _ _ = _) <;> first | rfl | decide +kernel
end
section
variable {K : PySem.W.Frag} {rm : Rm} {ρ : Ty}
/-- a def whose mirror has no answer keeps any promise -/
theorem fn_none {P : Program} {w : World} {mg : Str → Option Value} {base : Heap} {f : Addr} {fd : FuncData} {ps : List Str} {k : Nat} {b : Ty} : FnOk P w K mg base CX0 k f fd ps (spP K b rm ρ fun _ => none) :=
  ⟨fun vs H Q E h => (by obtain ⟨_, _, _, _, _, z, _⟩ := h; cases z), fun A outer s H args us vs Q E _ _ _ _ h => (by obtain ⟨_, _, _, _, _, z, _⟩ := h; cases z)⟩
theorem fn_noneIO {P : Program} {w : World} {mg : Str → Option Value} {base : Heap} {f : Addr} {fd : FuncData} {ps : List Str} {k : Nat} {b tio : Ty} {r : RIx b tio} : FnOk P w K mg base CX0 k f fd ps (spIO K b r rm ρ fun _ => none) :=
  ⟨fun vs H Q E h => (by obtain ⟨_, _, _, _, _, _, _, _, _, _, z, _⟩ := h; cases z), fun A outer s H args us vs Q E _ _ _ _ h => (by obtain ⟨_, _, _, _, _, _, _, _, _, _, z, _⟩ := h; cases z)⟩
end
end VV

/-! VMore24: effects within statements; lists of unlike items, unpacked; what is made for a call alone. -/
namespace VV
open PySem L2
open PyProof.Rows hiding St
section
variable {K : PySem.W.Frag} {E : Ent} {ms ms' : List Md} {ts : List Ty} {L L1 : Reg} {Γ Γ1 : Gam ts} {σ σ1 : St} {H H' H0 H1 H2 : Hp} {xt : List Addr} {rm : Rm} {ρ : Ty}
/-- xs.append(e), e with an effect on other names -/
def sAppE {ρ : Type} {ts : List Ty} {t : Ty} (i : Mem ts (.list t)) (F : Gam ts → Option (den t × Gam ts)) : Gam ts → Option (Fl (Gam ts) ρ) := fun Γ => (i.get Γ).bind fun _ => (F Γ).bind fun p => (i.get p.2).bind fun xs => if xs.length < sizeLine then some (.nx (i.set (some (xs ++ [p.1])) p.2)) else none
theorem rs_appE {t : Ty} (i : Mem ts (.list t)) {n : Nat} {te : TE} {F : Gam ts → Option (den t × Gam ts)} (h : RE K ms ts te .l t F) (hf : t.frz = true := by rfl) {mo : Md} (hm : ms[i.ix]? = some mo := by rfl) (ho : mo.own = true := by rfl) (hn : i.ix = n := by rfl) : RS K ms ts (tDrop (tBM K "list" rAppend (tVar n) (tCons te tNil))) rm ρ (sAppE i F) := fun E L Γ σ H D f o e p => by
  subst hn
  obtain ⟨xs0, e0, e⟩ := bind_some e
  obtain ⟨⟨d, Γ1⟩, e1, e⟩ := bind_some e
  obtain ⟨xs, e2, e⟩ := bind_some e
  split at e
  · rename_i hz
    cases e
    obtain ⟨a0, vs0, g0, q0, hl0, _⟩ := o.lst i hm ho e0
    refine ⟨_, q0, .inl ⟨rfl, vs0, .of hl0⟩, h E L Γ σ H _ d Γ1 o e1 fun v L1 H1 xt o1 ev1 r1 => ?_⟩
    obtain ⟨rfl, r1⟩ := r1
    obtain ⟨a, vs, g, q1, hl, hk, hnd, gd, go⟩ := o1.lst i hm ho e2
    rw [q0] at q1
    cases q1
    refine ⟨_, vs, v, rfl, rfl, hl, by rw [hk.length]; exact hz, ?_⟩
    obtain ⟨o', ev⟩ := go H1 [] (fun _ => False) (vs ++ [v]) (xs ++ [d]) g (Same.refl H1) (fun a h => by simp at h) (fun a h => h.elim) (fun a h => by simp at h) (by
      have k1 : F3 (Kid K H1 (fun b => L1 b ∨ False) t) vs xs g := kids_same (Same.refl H1) (fun b hb => (gd b (List.mem_cons_of_mem _ hb)).at_) hk
      have := F3.append k1 (show F3 (Kid K H1 (fun b => L1 b ∨ False) t) [v] [d] [] from ⟨[], [], rfl, kid_frz hf r1, rfl⟩)
      rw [List.append_nil] at this
      exact this) (List.nodup_cons.mp hnd).2 (fun b hb => .inl hb)
    exact p _ σ _ o' (ev1.trans ev)
  · cases e
/-- a, b, .. = a list of unlike items -/
theorem rg_hl {w : Bool} {b : Ty} {gs : TGs} {n : Nat} {B : den b → Gam ts → Gam ts} (h : RGs K ms ts gs w b B) (hn : rowLen b = n := by rfl) : RG K ms ts (gUnl K n gs) w (.hl b) B := fun E L Γ σ H Q x d o r q => by
  obtain ⟨a, vs, rfl, h1, h2⟩ := r
  exact ⟨a, vs, rfl, h1.seq, (row_length b vs d h2).trans hn, h E L Γ σ H Q vs d o h2 q⟩
theorem rg_own {w : Bool} {t : Ty} {g : TG} {B : den t → Gam ts → Gam ts} (h : RG K ms ts g w t B) : RG K ms ts g w (.own t) B := fun E L Γ σ H Q x d o r q => h E L Γ σ H Q x d o r q
/-! ### a call that changes what was made for it alone -/
def RAT (K : PySem.W.Frag) (ms : List Md) (ts : List Ty) (ta : TA) {b tio : Ty} (r : RIx b tio) (F : Gam ts → Option (den b)) : Prop :=
  ∀ (E : Ent) (L : Reg) (Γ : Gam ts) (σ : St) (H : Hp) (xt : List Addr) (Q : List V → Hp → Prop) (d : den b), Own K E L ms ts Γ σ H xt → F Γ = some d →
    (∀ vs H' v f Lr, Same H H' → Nw H H' Lr → f.Nodup → Nw H H' (· ∈ f) → (∀ a ∈ f, ¬ Lr a) → (rO K H' (fun a => L a ∨ Lr a) tio).1 v (r.get d) f → rHole K H' (fun a => E.S0 a ∨ L a ∨ Lr a) r v vs d → Q vs H') → ta σ H Q
theorem rat_one {tio : Ty} {te : TE} {F : Gam ts → Option (den tio)} (h : RP K ms ts te .o tio F) : RAT K ms ts (tCons te tNil) (RIx.one : RIx (.last tio) tio) F := fun E L Γ σ H xt Q d o e q =>
  h E L Γ σ H xt _ d o e fun v H' s r => by
    obtain ⟨f, Lr, h1, h2, h3, h4, h5⟩ := r
    exact q [v] H' v f Lr s h4 h2 h3 h5 h1 rfl
theorem rat_there {a b tio : Ty} {r : RIx b tio} {te : TE} {ta : TA} {F : Gam ts → Option (den a)} {G : Gam ts → Option (den b)} (h : RP K ms ts te .w a F) (hr : RAT K ms ts ta r G) : RAT K ms ts (tCons te ta) (RIx.s r : RIx (.cons a b) tio) (eCons F G) := fun E L Γ σ H xt Q d o e q => by
  obtain ⟨x, e1, e⟩ := bind_some e
  obtain ⟨y, e2, e⟩ := bind_some e
  cases e
  refine h E L Γ σ H xt _ x o e1 fun v1 H1 s1 r1 => hr E L Γ σ H1 xt _ y (o.same s1) e2 fun vs H2 v f Lr s2 nw nd nf df k2 k3 => ?_
  obtain ⟨Ls, r1, nw1⟩ := r1
  have apart : ∀ c ∈ f, ¬ Ls c := fun c hc hl => by
    have h1 := (nf c hc).1
    have h2 := (nw1 c hl).2
    rw [h1] at h2
    cases h2
  refine q (v1 :: vs) H2 v f (fun a => Lr a ∨ Ls a) (s1.trans s2) (fun a ha => ha.elim (nw_old s1 nw a) (nw_on s2 nw1 a)) nd (nw_old s1 nf) (fun c hc z => z.elim (df c hc) (apart c hc)) ((rO_mono (Cov.of_reg fun c h _ => h.elim .inl fun z => .inr (.inl z)) (Stb.refl _) tio).1 v _ f (fun _ _ => rfl) k2)
    ⟨v1, vs, rfl, (rS_mono (Cov.of_same s2 fun a h _ => h.elim .inl fun z => .inr (z.elim .inl fun z => .inr (.inr z))) (Stb.of_same s2) a).1 _ _ r1, ?_⟩
  have up : ∀ {b t : Ty} (r : RIx b t) {vs : List V} {d : den b}, rHole K H2 (fun a => E.S0 a ∨ L a ∨ Lr a) r v vs d → rHole K H2 (fun a => E.S0 a ∨ L a ∨ (Lr a ∨ Ls a)) r v vs d := by
    have cv : Cov H2 H2 (fun a => E.S0 a ∨ L a ∨ Lr a) (fun a => E.S0 a ∨ L a ∨ (Lr a ∨ Ls a)) := Cov.of_reg fun a h _ => h.elim .inl fun z => .inr (z.elim .inl fun z => .inr (.inl z))
    intro b t r
    induction r with
    | one => exact fun h => h
    | z => exact fun ⟨w, e, h⟩ => ⟨w, e, (rS_mono cv (Stb.refl _) _).2 _ _ h⟩
    | s r ih => exact fun ⟨x, w, e, h, h2⟩ => ⟨x, w, e, (rS_mono cv (Stb.refl _) _).1 _ _ h, ih h2⟩
  exact up r k3
theorem rp_callIOt {b tio : Ty} {r : RIx b tio} {ta : TA} {m : den b → Option (den ρ × den tio)} {F : Gam ts → Option (den b)} {X : XK} (h : RAT K ms ts ta r F) (hp : tio.pureO = true := by rfl) : RP K ms ts (tCall (spIO K b r rm ρ m) [] X ta) rm.em ρ (e1 (fun d => (m d).map (·.1)) F) := fun E L Γ σ H xt Q d o e q => by
  obtain ⟨a, ea, e⟩ := bind_some e
  obtain ⟨res, er, rfl⟩ := Option.map_eq_some_iff.mp e
  refine h E L Γ σ H xt _ a o ea fun vs H1 v f Lr s1 nw nd nf df k2 k3 => ?_
  rw [List.append_nil]
  have sm : ∀ c, (H c).isSome = true → (H1 c).isSome = true := fun c hc => by rw [same_at s1 hc]; exact hc
  have hS : ∀ c, (E.S0 c ∨ L c ∨ Lr c) → (H1 c).isSome = true ∧ c ∉ f := fun c hc => by
    have old : (H c).isSome = true → (H1 c).isSome = true ∧ c ∉ f := fun z => ⟨sm c z, fun w => by
      rw [(nf c w).1] at z
      cases z⟩
    rcases hc with w | w | w
    · obtain ⟨g1, g2⟩ := o.s0 c w
      obtain ⟨y, hy⟩ := isSome_some g1
      exact old (by rw [o.fr c y hy g2]; rfl)
    · exact old (o.lr c w).2
    · exact ⟨(nw c w).2, fun z => df c z w⟩
  refine ⟨fun c => E.S0 c ∨ L c ∨ Lr c, v, a, f, res, hS, nd, fun c hc => (nf c hc).2, k3, (rO_pure tio hp).1 v _ f k2, er, fun v' H2 f' g Ls c1 c2 c3 c4 c5 c6 c7 c8 => ?_⟩
  have s2 : Same H H2 := fun c y hy => c1 c y (s1 _ _ hy) fun z => by
    have := (nf c z).1
    rw [hy] at this
    cases this
  have fresh : ∀ c, (c ∈ f ∨ H1 c = none) → H c = none := fun c hc => hc.elim (fun z => (nf c z).1) fun z => s1.free z
  have nwL : Nw H H2 Ls := fun c hc => ⟨fresh c (c8 c hc).1, (c8 c hc).2⟩
  refine q v' H2 s2 ?_
  cases rm with
  | o => exact ⟨g, Ls, (rO_mono (Cov.of_reg fun c h _ => .inr h) (Stb.refl _) ρ).1 v' _ g (fun _ _ => rfl) c5, (List.nodup_append.mp c6).2.1, fun c hc => ⟨fresh c (c7 c (List.mem_append_right _ hc)).1, (c7 c (List.mem_append_right _ hc)).2.2⟩, nwL, fun c hc => (c7 c (List.mem_append_right _ hc)).2.1⟩
  | l => exact ⟨Ls, (rS_mono (Cov.of_reg fun c h _ => .inr h) (Stb.refl _) ρ).1 v' _ c5.2, nwL⟩
  | w => exact ⟨fun c => Lr c ∨ Ls c, (rS_mono (Cov.of_reg fun c h _ => h.elim (fun z => z.elim .inl fun z => .inr (z.elim .inl fun z => .inr (.inl z))) fun z => .inr (.inr (.inr z))) (Stb.refl _) ρ).1 v' _ c5.2, fun c hc => hc.elim (fun z => by
      obtain ⟨y, hy⟩ := isSome_some (nw c z).2
      exact ⟨(nw c z).1, by rw [c1 c y hy fun w => df c w z]; rfl⟩) (nwL c)⟩
end
end VV

/-! VMore25: owned names that are moved into what is displayed. -/
namespace VV
open PySem L2
open PyProof.Rows hiding St
section
variable {K : PySem.W.Frag} {E : Ent} {ms ms' : List Md} {ts : List Ty} {L L1 : Reg} {Γ Γ1 : Gam ts} {σ σ1 : St} {H H' H0 H1 H2 : Hp} {xt : List Addr} {rm : Rm} {ρ : Ty}
theorem Own.tempX {f : List Addr} {Lr : Reg} (o : Own K E L ms ts Γ σ H xt) (s : Same H H') (nf : f.Nodup) (hf : Nw H H' (· ∈ f)) (hl : Nw H H' Lr) (hd : ∀ a ∈ f, ¬ Lr a) : Own K E (fun a => L a ∨ Lr a) ms ts Γ σ H' (f ++ xt) := by
  have o1 := o.same s
  obtain ⟨fp, g, nd, gd⟩ := id o.ex
  obtain ⟨fp1, g1, nd1, gd1⟩ := id o1.ex
  -- the names' cells stand already
  have old : ∀ a, (H a).isSome = true → a ∉ f ∧ ¬ Lr a := fun a h => ⟨fun z => (by
    rw [(hf a z).1] at h
    cases h), fun z => (by
    rw [(hl a z).1] at h
    cases h)⟩
  obtain ⟨fq, gq, ndq, gdq⟩ : ∃ fq, rG K H' E.S0 (fun a => L a ∨ Lr a) ms ts Γ σ fq ∧ (fq ++ xt).Nodup ∧ ∀ a ∈ fq ++ xt, Good E L H a := by
    refine ⟨fp, ?_, nd, gd⟩
    exact rG_mono (o.covS fun a q h1 h2 => s _ _ (o.fr a q h1 h2)) (Cov.of_same s fun a h _ => .inl h) (Stb.of_same s) (fun a ha => same_at s (gd a (List.mem_append_left _ ha)).at_) g
  refine ⟨⟨fq, gq, ?_, fun a ha => ?_⟩, o1.fr, fun a h => ?_, o1.s0, o1.iod⟩
  · have n2 := List.nodup_append.mp ndq
    refine List.nodup_append.mpr ⟨n2.1, List.nodup_append.mpr ⟨nf, n2.2.1, fun a ha b hb z => ?_⟩, fun a ha b hb z => ?_⟩
    · subst z
      exact (old a (gdq a (List.mem_append_right _ hb)).at_).1 ha
    · subst z
      rcases List.mem_append.mp hb with hb | hb
      · exact (old a (gdq a (List.mem_append_left _ ha)).at_).1 hb
      · exact n2.2.2 a ha a hb rfl
  · have was : a ∈ fq ++ xt → Good E (fun a => L a ∨ Lr a) H' a := fun h => by
      have ga := gdq a h
      exact ⟨ga.new, fun z => z.elim ga.nl (old a ga.at_).2, ga.ns, by rw [same_at s ga.at_]; exact ga.at_⟩
    rcases List.mem_append.mp ha with h | h
    · exact was (List.mem_append_left _ h)
    · rcases List.mem_append.mp h with h | h
      · have ff := o.fresh (hf a h).1
        exact ⟨.inl ff.1, fun z => z.elim ff.2.1 (hd a h), ff.2.2, (hf a h).2⟩
      · exact was (List.mem_append_right _ h)
  · rcases h with h | h
    · exact o1.lr a h
    · exact ⟨.inl (o.fresh (hl a h).1).1, (hl a h).2⟩
theorem Own.takeX {t : Ty} (i : Mem ts t) {d : den t} (o : Own K E L ms ts Γ σ H xt) (hm : ms[i.ix]? = some .o) (hd : i.get Γ = some d) : ∃ v f, σ[i.ix]? = some (some v) ∧ (rO K H L t).1 v d f ∧ Own K E L ms ts (i.set none Γ) σ H (f ++ xt) := by
  obtain ⟨s0, f0, e1, e2, e3, e4, e5⟩ := o.focus i hm
  rw [hd] at e2
  obtain ⟨v, rfl, r⟩ := e2
  refine ⟨v, f0, e1, r, ?_⟩
  obtain ⟨fp, _, nd, gd⟩ := id o.ex
  have nx := (List.nodup_append.mp nd).2.1
  have := e5 H L none (some v) [] (f0 ++ xt) (fun a h _ _ => rfl) (Stb.refl H) (fun _ h => h) (fun _ h => .inl h) (fun _ h => h) (fun a h => o.lr a h) rfl (by
    rw [List.nil_append]
    exact List.nodup_append.mpr ⟨e3, nx, fun a ha b hb z => (e4 a ha).2 (z ▸ hb)⟩) fun a ha => by
    have ha : a ∈ f0 ++ xt := by simpa using ha
    rcases List.mem_append.mp ha with h | h
    · exact ⟨.inl h, (e4 a h).1.nl, (e4 a h).1.at_⟩
    · have ga := gd a (List.mem_append_right _ h)
      exact ⟨.inr (.inl h), ga.nl, ga.at_⟩
  rw [set_same e1] at this
  exact this
/-- a row of which some parts are owned names, taken out of them -/
def RAE (K : PySem.W.Frag) (ms : List Md) (ts : List Ty) (ta : TA) (b : Ty) (F : Gam ts → Option (den b × Gam ts)) : Prop :=
  ∀ (E : Ent) (L : Reg) (Γ : Gam ts) (σ : St) (H : Hp) (xt : List Addr) (Q : List V → Hp → Prop) (d : den b) (Γ' : Gam ts), Own K E L ms ts Γ σ H xt → F Γ = some (d, Γ') →
    (∀ vs H' L' f, Same H H' → Own K E L' ms ts Γ' σ H' (f ++ xt) → Ev ms ts L Γ σ H L' Γ' σ H' → (rO K H' L' b).2 vs d f → Q vs H') → ta σ H Q
/-- one part -/
def RPE (K : PySem.W.Frag) (ms : List Md) (ts : List Ty) (te : TE) (t : Ty) (F : Gam ts → Option (den t × Gam ts)) : Prop :=
  ∀ (E : Ent) (L : Reg) (Γ : Gam ts) (σ : St) (H : Hp) (xt : List Addr) (Q : VK) (d : den t) (Γ' : Gam ts), Own K E L ms ts Γ σ H xt → F Γ = some (d, Γ') →
    (∀ v H' L' f, Same H H' → Own K E L' ms ts Γ' σ H' (f ++ xt) → Ev ms ts L Γ σ H L' Γ' σ H' → (rO K H' L' t).1 v d f → Q v H') → te σ H Q
theorem rpe_move {t : Ty} (i : Mem ts t) {n : Nat} (hm : ms[i.ix]? = some .o := by rfl) (hn : i.ix = n := by rfl) : RPE K ms ts (tVar n) t (eMove i) := fun E L Γ σ H xt Q d Γ' o e q => by
  subst hn
  obtain ⟨d', e1, e2⟩ := bind_some e
  cases e2
  obtain ⟨v, f, h1, h2, h3⟩ := o.takeX i hm e1
  exact ⟨v, h1, q v H L f (Same.refl H) h3 ⟨fun _ h => h, fun _ _ _ h => h, Stb.refl H, keepF_set0 i hm rfl none⟩ h2⟩
theorem rpe_own {te : TE} {t : Ty} {F : Gam ts → Option (den t × Gam ts)} (h : RPE K ms ts te t F) : RPE K ms ts te (.own t) F := fun E L Γ σ H xt Q d Γ' o e q => h E L Γ σ H xt Q d Γ' o e q
def ePure {G α : Type} (F : G → Option α) : G → Option (α × G) := fun Γ => (F Γ).bind fun d => some (d, Γ)
theorem rpe_pure {te : TE} {t : Ty} {F : Gam ts → Option (den t)} (h : RP K ms ts te .o t F) : RPE K ms ts te t (ePure F) := fun E L Γ σ H xt Q d Γ' o e q => by
  obtain ⟨d', e1, e2⟩ := bind_some e
  cases e2
  refine h E L Γ σ H xt _ d o e1 fun v H1 s1 r1 => ?_
  obtain ⟨f, Lr, h1, h2, h3, h4, h5⟩ := r1
  exact q v H1 _ f s1 (o.tempX s1 h2 h3 h4 h5) ⟨fun a h => .inl h, fun a q _ h => s1 _ _ h, Stb.of_same s1, KeepF.refl⟩ h1
theorem rae_one {te : TE} {t : Ty} {F : Gam ts → Option (den t × Gam ts)} (h : RPE K ms ts te t F) : RAE K ms ts (tCons te tNil) (.last t) F := fun E L Γ σ H xt Q d Γ' o e q =>
  h E L Γ σ H xt _ d Γ' o e fun v H' L' f s o' ev r => q [v] H' L' f s o' ev ⟨v, rfl, .inl r⟩
def eConsE {G α β : Type} (F : G → Option (α × G)) (F' : G → Option (β × G)) : G → Option ((α × β) × G) := fun Γ => (F Γ).bind fun p => (F' p.2).bind fun q => some ((p.1, q.1), q.2)
theorem rae_cons {te : TE} {ta : TA} {t b : Ty} {F : Gam ts → Option (den t × Gam ts)} {G : Gam ts → Option (den b × Gam ts)} (h : RPE K ms ts te t F) (h' : RAE K ms ts ta b G) : RAE K ms ts (tCons te ta) (.cons t b) (eConsE F G) := fun E L Γ σ H xt Q d Γ' o e q => by
  obtain ⟨⟨x, Γ1⟩, e1, e⟩ := bind_some e
  obtain ⟨⟨y, Γ2⟩, e2, e⟩ := bind_some e
  cases e
  refine h E L Γ σ H xt _ x Γ1 o e1 fun v H1 L1 f1 s1 o1 ev1 r1 => h' E L1 Γ1 σ H1 (f1 ++ xt) _ y _ o1 e2 fun vs H2 L2 f2 s2 o2 ev2 r2 => ?_
  have at1 : ∀ c ∈ f1, (H1 c).isSome = true := fun c hc => by
    obtain ⟨_, _, _, gd⟩ := o1.ex
    exact (gd c (List.mem_append_right _ (List.mem_append_left _ hc))).at_
  have cov : Cov H1 H2 L1 L2 := Cov.of_same s2 fun a h _ => ev2.sub a h
  have r1' := (rO_mono cov ev2.stb t).1 v x f1 (fun c hc => same_at s2 (at1 c hc)) r1
  have o3 : Own K E L2 ms ts Γ2 σ H2 ((f1 ++ f2) ++ xt) := by
    obtain ⟨fp, g, nd, gd⟩ := id o2.ex
    have perm : (f2 ++ (f1 ++ xt)).Perm ((f1 ++ f2) ++ xt) := by
      rw [← List.append_assoc]
      exact List.Perm.append_right xt List.perm_append_comm
    refine ⟨⟨fp, g, (List.Perm.append_left fp perm).nodup_iff.mp nd, fun a ha => gd a ?_⟩, o2.fr, o2.lr, o2.s0, o2.iod⟩
    exact (List.Perm.append_left fp perm).mem_iff.mpr ha
  exact q (v :: vs) H2 L2 (f1 ++ f2) (s1.trans s2) o3 (ev1.trans ev2) ⟨v, vs, f1, f2, rfl, rfl, .inl r1', r2⟩
theorem re_tupE {b : Ty} {ta : TA} {F : Gam ts → Option (den b × Gam ts)} (h : RAE K ms ts ta b F) (hs : rowSmall b = true := by rfl) : RE K ms ts (tTup ta) .o (.tup b) F := fun E L Γ σ H Q d Γ' o e q => by
  refine h E L Γ σ H [] _ d Γ' o e fun vs H1 L1 f s1 o1 ev1 r1 => ?_
  rw [List.append_nil] at o1
  have hl := row_length b vs d ((rO_s (L := L1) (R := fun _ => True) (fun _ _ => True.intro) b).2 vs d f (fun _ _ => True.intro) r1)
  refine ⟨by rw [hl]; exact line_1000 (of_decide_eq_true hs), fun p hp => ?_⟩
  have s2 : Same H1 (upd H1 p (.tup vs)) := same_new hp
  have at1 : ∀ c ∈ f, (H1 c).isSome = true := fun c hc => by
    obtain ⟨_, _, _, gd⟩ := o1.ex
    exact (gd c (List.mem_append_right _ hc)).at_
  exact q (.ref p) L1 _ f (o1.same s2) (ev1.trans (Ev.same s2)) ⟨p, vs, rfl, upd_same, (rO_mono (Cov.of_same s2 fun _ h _ => h) (Stb.of_same s2) b).2 vs d f (fun c hc => same_at s2 (at1 c hc)) r1⟩
theorem re_hlE {b : Ty} {ta : TA} {F : Gam ts → Option (den b × Gam ts)} (h : RAE K ms ts ta b F) (hs : rowSmall b = true := by rfl) : RE K ms ts (tLst ta) .o (.hl b) F := fun E L Γ σ H Q d Γ' o e q => by
  refine h E L Γ σ H [] _ d Γ' o e fun vs H1 L1 f s1 o1 ev1 r1 => ?_
  rw [List.append_nil] at o1
  have hl := row_length b vs d ((rO_s (L := L1) (R := fun _ => True) (fun _ _ => True.intro) b).2 vs d f (fun _ _ => True.intro) r1)
  refine ⟨by rw [hl]; exact line_1000 (of_decide_eq_true hs), fun p hp => ?_⟩
  have s2 : Same H1 (upd H1 p (.lst vs)) := same_new hp
  have at1 : ∀ c ∈ f, (H1 c).isSome = true := fun c hc => by
    obtain ⟨_, _, _, gd⟩ := o1.ex
    exact (gd c (List.mem_append_right _ hc)).at_
  have pf : p ∉ f := fun z => by
    have := at1 p z
    rw [hp] at this
    cases this
  have nwp : Nw H1 (upd H1 p (.lst vs)) (· ∈ [p]) := fun c hc => by
    have hc : c = p := List.mem_singleton.mp hc
    subst hc
    exact ⟨hp, by rw [upd_same]; rfl⟩
  have o2 := o1.tempX (f := [p]) (Lr := fun _ => False) s2 (by simp) nwp (fun _ h => h.elim) (fun _ _ h => h)
  have o3 : Own K E L1 ms ts Γ' σ (upd H1 p (.lst vs)) (p :: f) := by
    have : (fun a => L1 a ∨ False) = L1 := funext fun a => propext ⟨fun z => z.elim id False.elim, .inl⟩
    rw [this] at o2
    exact o2
  exact q (.ref p) L1 _ (p :: f) o3 (ev1.trans (Ev.same s2)) ⟨p, vs, f, rfl, rfl, upd_same, (rO_mono (Cov.of_same s2 fun _ h _ => h) (Stb.of_same s2) b).2 vs d f (fun c hc => same_at s2 (at1 c hc)) r1⟩
end
end VV

/-! VMore26: list(reversed(x)). -/
namespace VV
open PySem L2
open PyProof.Rows hiding St
section
variable {K : PySem.W.Frag} {E : Ent} {ms ms' : List Md} {ts : List Ty} {L L1 : Reg} {Γ Γ1 : Gam ts} {σ σ1 : St} {H H' H0 H1 H2 : Hp} {xt : List Addr}
theorem rp_listRevV {t : Ty} {m : Em} {te : TE} {F : Gam ts → Option (List (den t))} (h : RP K ms ts te m (.vtup t) F) (hf : t.frz = true := by rfl) : RP K ms ts (tListRev K te) .o (.list t) (e1 fRev F) := fun E L Γ σ H xt Q d o e q => by
  obtain ⟨a, ea, e⟩ := bind_some e
  cases e
  refine h E L Γ σ H xt _ a o ea fun v H1 s1 r1 => ?_
  obtain ⟨p, vs, rfl, h1, h2⟩ := r1.b
  refine ⟨p, vs, rfl, .inr (.of h1), fun l hn => ?_⟩
  obtain ⟨k1, k2⟩ := rep_newL (K := K) (E := E) (L := L) (l := l) hf s1 hn (F2.reverse h2)
  exact q _ _ k1 k2
theorem rp_listRevL {t : Ty} {m : Em} {te : TE} {F : Gam ts → Option (List (den t))} (h : RP K ms ts te m (.list t) F) (hf : t.frz = true := by rfl) : RP K ms ts (tListRev K te) .o (.list t) (e1 fRev F) := fun E L Γ σ H xt Q d o e q => by
  obtain ⟨a, ea, e⟩ := bind_some e
  cases e
  refine h E L Γ σ H xt _ a o ea fun v H1 s1 r1 => ?_
  obtain ⟨p, vs, rfl, h1, h2⟩ := r1.b
  refine ⟨p, vs, rfl, .inl h1.seq, fun l hn => ?_⟩
  obtain ⟨k1, k2⟩ := rep_newL (K := K) (E := E) (L := L) (l := l) hf s1 hn (F2.reverse h2)
  exact q _ _ k1 k2
/-- d != {}, d == {} -/
abbrev fNeE {α : Type} (a b : List α) : Option Bool := okIf b.isEmpty (!a.isEmpty)
abbrev fEqE {α : Type} (a b : List α) : Option Bool := okIf b.isEmpty a.isEmpty
theorem hasK_of {k t : Ty} {R : Reg} {v : V} {d : List (den k × den t)} (hk : k.tk = false) (h : (rS K H R (.dict k t)).1 v d) : ∃ a ks, v = .ref a ∧ HasK H a ks ∧ ks.length = d.length := by
  obtain ⟨a, rfl, h⟩ := h
  rcases h with ⟨_, ks, hd, f⟩ | ⟨z, _⟩
  · exact ⟨a, ks, rfl, strip_dK hd.2, f.length⟩
  · rw [hk] at z
    cases z
theorem v_neE {m : Em} {k t : Ty} (hk : k.tk = false) : V2 K rNeE m (.dict k t) (.dict k t) .bool fNeE := fun E L H v w a b c Q ra rb e q => by
  obtain ⟨h1, rfl⟩ := okIf_some e
  obtain ⟨x, ks, rfl, hx, lx⟩ := hasK_of hk ra
  obtain ⟨y, ls, rfl, hy, ly⟩ := hasK_of hk rb
  have z : ls = [] := by
    rw [List.isEmpty_iff.mp h1] at ly
    exact List.length_eq_zero_iff.mp ly
  subst z
  refine ⟨x, y, ks, rfl, rfl, hx, hy, q _ H (Same.refl H) (rep_atom rfl ?_)⟩
  show V.bl _ = V.bl _
  cases ks <;> cases a <;> first | rfl | simp at lx
theorem v_eqE {m : Em} {k t : Ty} (hk : k.tk = false) : V2 K rEqE m (.dict k t) (.dict k t) .bool fEqE := fun E L H v w a b c Q ra rb e q => by
  obtain ⟨h1, rfl⟩ := okIf_some e
  obtain ⟨x, ks, rfl, hx, lx⟩ := hasK_of hk ra
  obtain ⟨y, ls, rfl, hy, ly⟩ := hasK_of hk rb
  have z : ls = [] := by
    rw [List.isEmpty_iff.mp h1] at ly
    exact List.length_eq_zero_iff.mp ly
  subst z
  refine ⟨x, y, ks, rfl, rfl, hx, hy, q _ H (Same.refl H) (rep_atom rfl ?_)⟩
  show V.bl _ = V.bl _
  cases ks <;> cases a <;> first | rfl | simp at lx
theorem rp_lenDK {k t : Ty} {m m' : Em} {te : TE} {F : Gam ts → Option (List (den k × den t))} (h : RP K ms ts te m' (.dict k t) F) (hk : k.tk = false := by rfl) : RP K ms ts (tCB rLenK (tCons te tNil)) m .int (e1 fLen F) := fun E L Γ σ H xt Q d o e q => by
  obtain ⟨a, ea, e⟩ := bind_some e
  cases e
  refine h E L Γ σ H xt _ a o ea fun v H1 s1 r1 => ?_
  obtain ⟨p, ks, rfl, hp, lp⟩ := hasK_of hk r1.b
  exact ⟨p, ks, rfl, hp, q _ H1 s1 (rep_atom rfl (by rw [lp]; rfl))⟩
end
end VV

/-! VMore27: expressions that change owned names on their way. -/
namespace VV
open PySem L2
open PyProof.Rows hiding St
section
variable {K : PySem.W.Frag} {E : Ent} {ms ms' : List Md} {ts : List Ty} {L L1 : Reg} {Γ Γ1 : Gam ts} {σ σ1 : St} {H H' H0 H1 H2 : Hp} {xt : List Addr} {rm : Rm} {ρ : Ty}
/-- what it gives is owned (f); the cells xt stand -/
def RX (K : PySem.W.Frag) (ms : List Md) (ts : List Ty) (te : TE) (t : Ty) (F : Gam ts → Option (den t × Gam ts)) : Prop :=
  ∀ (E : Ent) (L : Reg) (Γ : Gam ts) (σ : St) (H : Hp) (xt : List Addr) (Q : VK) (d : den t) (Γ' : Gam ts), Own K E L ms ts Γ σ H xt → F Γ = some (d, Γ') →
    (∀ v L' H' f, Own K E L' ms ts Γ' σ H' (f ++ xt) → Ev ms ts L Γ σ H L' Γ' σ H' → (∀ a ∈ xt, H' a = H a) → (rO K H' L' t).1 v d f → Q v H') → te σ H Q
/-- .. for a row -/
def RXR (K : PySem.W.Frag) (ms : List Md) (ts : List Ty) (ta : TA) (b : Ty) (F : Gam ts → Option (den b × Gam ts)) : Prop :=
  ∀ (E : Ent) (L : Reg) (Γ : Gam ts) (σ : St) (H : Hp) (xt : List Addr) (Q : List V → Hp → Prop) (d : den b) (Γ' : Gam ts), Own K E L ms ts Γ σ H xt → F Γ = some (d, Γ') →
    (∀ vs L' H' f, Own K E L' ms ts Γ' σ H' (f ++ xt) → Ev ms ts L Γ σ H L' Γ' σ H' → (∀ a ∈ xt, H' a = H a) → (rO K H' L' b).2 vs d f → Q vs H') → ta σ H Q
/-- what holds now and later, as long as the cells f stand -/
def Held (K : PySem.W.Frag) (E : Ent) (ms : List Md) (ts : List Ty) (L : Reg) (Γ : Gam ts) (σ : St) (H : Hp) (f : List Addr) (P : Hp → Prop) : Prop :=
  ∀ (L2 : Reg) (Γ2 : Gam ts) (H2 : Hp) (x2 : List Addr), Own K E L2 ms ts Γ2 σ H2 x2 → Ev ms ts L Γ σ H L2 Γ2 σ H2 → (∀ a ∈ f, H2 a = H a) → P H2
def RXh (K : PySem.W.Frag) (ms : List Md) (ts : List Ty) (te : TE) (t : Ty) (F : Gam ts → Option (den t × Gam ts)) : Prop :=
  ∀ (E : Ent) (L : Reg) (Γ : Gam ts) (σ : St) (H : Hp) (xt : List Addr) (Q : VK) (d : den t) (Γ' : Gam ts), Own K E L ms ts Γ σ H xt → F Γ = some (d, Γ') →
    (∀ v L' H' f, Own K E L' ms ts Γ' σ H' (f ++ xt) → Ev ms ts L Γ σ H L' Γ' σ H' → (∀ a ∈ xt, H' a = H a) → Held K E ms ts L' Γ' σ H' f (fun H2 => (rS K H2 (fun _ => True) t).1 v d) → Q v H') → te σ H Q
theorem ev_cov {L' : Reg} {Γ' : Gam ts} {σ' : St} (o : Own K E L ms ts Γ σ H xt) (e : Ev ms ts L Γ σ H L' Γ' σ' H') : Cov H H' L L' := fun a q h x => by
  refine ⟨e.sub a h, ?_⟩
  obtain ⟨y, hy⟩ := isSome_some (o.lr a h).2
  rw [e.cell a y h hy, ← hy]
  exact x
theorem Ev.rfl' : Ev ms ts L Γ σ H L Γ σ H := Ev.same (Same.refl H)
theorem Held.now {f : List Addr} {P : Hp → Prop} (h : Held K E ms ts L Γ σ H f P) (o : Own K E L ms ts Γ σ H xt) : P H := h L Γ H xt o Ev.rfl' fun _ _ => rfl
theorem Own.subx {xt' : List Addr} (o : Own K E L ms ts Γ σ H xt) (h : xt'.Sublist xt) : Own K E L ms ts Γ σ H xt' := by
  obtain ⟨fp, g, nd, gd⟩ := o.ex
  exact ⟨⟨fp, g, nd.sublist (List.Sublist.append (List.Sublist.refl _) h), fun a ha => gd a ((List.Sublist.append (List.Sublist.refl _) h).subset ha)⟩, o.fr, o.lr, o.s0, o.iod⟩
theorem Own.perm {xt' : List Addr} (o : Own K E L ms ts Γ σ H xt) (h : xt.Perm xt') : Own K E L ms ts Γ σ H xt' := by
  obtain ⟨fp, g, nd, gd⟩ := o.ex
  exact ⟨⟨fp, g, (List.Perm.append_left fp h).nodup_iff.mp nd, fun a ha => gd a ((List.Perm.append_left fp h).mem_iff.mpr ha)⟩, o.fr, o.lr, o.s0, o.iod⟩
theorem Own.xat (o : Own K E L ms ts Γ σ H xt) : ∀ a ∈ xt, (H a).isSome = true := fun a ha => by
  obtain ⟨_, _, _, gd⟩ := o.ex
  exact (gd a (List.mem_append_right _ ha)).at_
theorem rxh_of {te : TE} {t : Ty} {F : Gam ts → Option (den t × Gam ts)} (h : RX K ms ts te t F) : RXh K ms ts te t F := fun E L Γ σ H xt Q d Γ' o e q =>
  h E L Γ σ H xt Q d Γ' o e fun v L' H' f o1 ev1 x1 r1 => q v L' H' f o1 ev1 x1 fun L2 Γ2 H2 x2 o2 ev2 h2 =>
    (rO_s (L := L2) (R := fun _ => True) (fun _ _ => True.intro) t).1 v d f (fun _ _ => True.intro) ((rO_mono (ev_cov o1 ev2) ev2.stb t).1 v d f h2 r1)
theorem ev_same {Lr : Reg} (s : Same H H1) : Ev ms ts L Γ σ H (fun a => L a ∨ Lr a) Γ σ H1 := ⟨fun a h => .inl h, fun a q _ h => s _ _ h, Stb.of_same s, KeepF.refl⟩
/-- an expression that changes nothing -/
theorem rx_pure {te : TE} {t : Ty} {F : Gam ts → Option (den t)} (h : RP K ms ts te .o t F) : RX K ms ts te t (ePure F) := fun E L Γ σ H xt Q d Γ' o e q => by
  obtain ⟨d', e1, e2⟩ := bind_some e
  cases e2
  refine h E L Γ σ H xt _ d o e1 fun v H1 s1 r1 => ?_
  obtain ⟨f, Lr, h1, h2, h3, h4, h5⟩ := r1
  exact q v _ H1 f (o.tempX s1 h2 h3 h4 h5) (ev_same s1) (fun a ha => same_at s1 (o.xat a ha)) h1
theorem rxh_w {te : TE} {t : Ty} {F : Gam ts → Option (den t)} (h : RP K ms ts te .w t F) : RXh K ms ts te t (ePure F) := fun E L Γ σ H xt Q d Γ' o e q => by
  obtain ⟨d', e1, e2⟩ := bind_some e
  cases e2
  refine h E L Γ σ H xt _ d o e1 fun v H1 s1 r1 => ?_
  obtain ⟨Lr, h1, h2⟩ := r1
  have o1 := o.tempX (f := []) (Lr := Lr) s1 List.nodup_nil (fun a h => by simp at h) h2 (fun a h => by simp at h)
  refine q v _ H1 [] o1 (ev_same s1) (fun a ha => same_at s1 (o.xat a ha)) fun L2 Γ2 H2 x2 o2 ev2 _ => ?_
  refine (rS_mono (R := fun a => E.S0 a ∨ L a ∨ Lr a) (fun a y hr hy => ⟨True.intro, ?_⟩) ev2.stb t).1 v d h1
  rcases hr with hr | hr
  · exact (o1.covS o2.fr a y hr hy).2
  · exact (ev_cov o1 ev2 a y hr hy).2
/-- a name that is not changed now -/
theorem rxh_var {t : Ty} (i : Mem ts t) {n : Nat} {m : Md} (hm : ms[i.ix]? = some m := by rfl) (hh : m.hard = true := by rfl) (hn : i.ix = n := by rfl) : RXh K ms ts (tVar n) t (ePure (eV i)) := fun E L Γ σ H xt Q d Γ' o e q => by
  subst hn
  obtain ⟨d', e1, e2⟩ := bind_some e
  cases e2
  obtain ⟨v, f, h1, h2, _⟩ := o.look i hm e1
  refine ⟨v, h1, q v L H [] (by simpa using o) Ev.rfl' (fun _ _ => rfl) fun L2 Γ2 H2 x2 o2 ev2 _ => ?_⟩
  obtain ⟨v2, f2, k1, k2, _⟩ := o2.look i hm (show i.get Γ2 = some d by rw [ev2.keep.1 t i m hm hh]; exact e1)
  rw [h1] at k1
  cases k1
  exact repM_b k2
theorem rx_keep {te : TE} {t : Ty} {F : Gam ts → Option (den t × Gam ts)} (ms' : List Md) (h : RX K ms' ts te t F) (hk : okKeep ms ms' = true := by rfl) : RX K ms ts te t F := fun E L Γ σ H xt Q d Γ' o e q =>
  h E L Γ σ H xt Q d Γ' ((own_keep hk).mp o) e fun v L' H' f o1 ev1 x1 r1 => q v L' H' f ((own_keep hk).mpr o1) (ev1.keeps hk) x1 r1
theorem rx_own {te : TE} {t : Ty} {F : Gam ts → Option (den t × Gam ts)} (h : RX K ms ts te t F) : RX K ms ts te (.own t) F := fun E L Γ σ H xt Q d Γ' o e q => h E L Γ σ H xt Q d Γ' o e q
/-- as an expression of the older kind -/
theorem re_rx {te : TE} {t : Ty} {F : Gam ts → Option (den t × Gam ts)} (h : RX K ms ts te t F) : RE K ms ts te .o t F := fun E L Γ σ H Q d Γ' o e q =>
  h E L Γ σ H [] Q d Γ' o e fun v L' H' f o1 ev1 _ r1 => q v L' H' f (by rw [List.append_nil] at o1; exact o1) ev1 r1
/-- an operation at the end -/
theorem rx_fin {g : List Addr} {t : Ty} {v : V} {c : den t} (o : Own K E L ms ts Γ σ H (g ++ xt)) (s : Same H H1) (r : Rep K E L H H1 .o t v c) : ∃ L1 f, Own K E L1 ms ts Γ σ H1 (f ++ xt) ∧ Ev ms ts L Γ σ H L1 Γ σ H1 ∧ (∀ a ∈ xt, H1 a = H a) ∧ (rO K H1 L1 t).1 v c f := by
  obtain ⟨f, Lr, h1, h2, h3, h4, h5⟩ := r
  have o1 := o.subx (List.sublist_append_right g xt)
  exact ⟨_, f, o1.tempX s h2 h3 h4 h5, ev_same s, fun a ha => same_at s (o1.xat a ha), h1⟩
def eX2 {G α β γ : Type} (f : α → β → Option γ) (A : G → Option (α × G)) (B : G → Option (β × G)) : G → Option (γ × G) := fun Γ => (A Γ).bind fun p => (B p.2).bind fun q => (f p.1 q.1).bind fun c => some (c, q.2)
def eX1 {G α γ : Type} (f : α → Option γ) (A : G → Option (α × G)) : G → Option (γ × G) := fun Γ => (A Γ).bind fun p => (f p.1).bind fun c => some (c, p.2)
theorem rx_op {r : R2} {t1 t2 t : Ty} {f : den t1 → den t2 → Option (den t)} {ta tb : TE} {A : Gam ts → Option (den t1 × Gam ts)} {B : Gam ts → Option (den t2 × Gam ts)} (hv : V2 K r .o t1 t2 t f) (ha : RXh K ms ts ta t1 A) (hb : RXh K ms ts tb t2 B) : RX K ms ts (tOp r ta tb) t (eX2 f A B) := fun E L Γ σ H xt Q d Γ' o e q => by
  obtain ⟨⟨a, Γ1⟩, ea, e⟩ := bind_some e
  obtain ⟨⟨b, Γ2⟩, eb, e⟩ := bind_some e
  obtain ⟨c, ec, e⟩ := bind_some e
  cases e
  refine ha E L Γ σ H xt _ a Γ1 o ea fun v L1 H1 f1 o1 ev1 x1 h1 => ?_
  refine hb E L1 Γ1 σ H1 (f1 ++ xt) _ b _ o1 eb fun w L2 H2 f2 o2 ev2 x2 h2 => ?_
  have ra := h1 L2 _ H2 _ o2 ev2 fun a ha => x2 a (List.mem_append_left _ ha)
  have rb := h2.now o2
  refine hv E L2 H2 v w a b _ _ ra rb ec fun v' H3 s3 r3 => ?_
  obtain ⟨L3, f3, o3, ev3, x3, r4⟩ := rx_fin (g := f2 ++ f1) (xt := xt) (by rw [List.append_assoc]; exact o2) s3 r3
  exact q v' L3 H3 f3 o3 (ev1.trans (ev2.trans ev3)) (fun a ha => (x3 a ha).trans ((x2 a (List.mem_append_right _ ha)).trans (x1 a ha))) r4
/-- not e, e and e, e or e -/
def eXAnd {G : Type} (A B : G → Option (Bool × G)) : G → Option (Bool × G) := fun Γ => (A Γ).bind fun p => if p.1 = true then B p.2 else some (false, p.2)
def eXOr {G : Type} (A B : G → Option (Bool × G)) : G → Option (Bool × G) := fun Γ => (A Γ).bind fun p => if p.1 = true then some (true, p.2) else B p.2
theorem rO_atom {t : Ty} (hf : t.frz = true) {R : Reg} {v : V} {d : den t} (r : (rS K H R t).1 v d) : (rO K H L t).1 v d [] := (rS_o t hf).1 v d r
theorem rx_and {ta tb : TE} {A B : Gam ts → Option (Bool × Gam ts)} (ha : RXh K ms ts ta .bool A) (hb : RX K ms ts tb .bool B) : RX K ms ts (tAndV ta tb) .bool (eXAnd A B) := fun E L Γ σ H xt Q d Γ' o e q => by
  obtain ⟨⟨a, Γ1⟩, ea, e⟩ := bind_some e
  refine ha E L Γ σ H xt _ a Γ1 o ea fun v L1 H1 f1 o1 ev1 x1 h1 => ⟨a, h1.now o1, ?_⟩
  have o1' := o1.subx (List.sublist_append_right f1 xt)
  cases a with
  | true =>
    rw [if_pos rfl] at e ⊢
    exact hb E L1 Γ1 σ H1 xt _ d Γ' o1' e fun w L2 H2 f2 o2 ev2 x2 r2 => q w L2 H2 f2 o2 (ev1.trans ev2) (fun a ha => (x2 a ha).trans (x1 a ha)) r2
  | false =>
    rw [if_neg Bool.false_ne_true] at e ⊢
    cases e
    exact q _ L1 H1 [] (by simpa using o1') ev1 x1 ⟨rfl, rfl⟩
theorem rx_or {ta tb : TE} {A B : Gam ts → Option (Bool × Gam ts)} (ha : RXh K ms ts ta .bool A) (hb : RX K ms ts tb .bool B) : RX K ms ts (tOrV ta tb) .bool (eXOr A B) := fun E L Γ σ H xt Q d Γ' o e q => by
  obtain ⟨⟨a, Γ1⟩, ea, e⟩ := bind_some e
  refine ha E L Γ σ H xt _ a Γ1 o ea fun v L1 H1 f1 o1 ev1 x1 h1 => ⟨a, h1.now o1, ?_⟩
  have o1' := o1.subx (List.sublist_append_right f1 xt)
  cases a with
  | true =>
    rw [if_pos rfl] at e ⊢
    cases e
    exact q _ L1 H1 [] (by simpa using o1') ev1 x1 ⟨rfl, rfl⟩
  | false =>
    rw [if_neg Bool.false_ne_true] at e ⊢
    exact hb E L1 Γ1 σ H1 xt _ d Γ' o1' e fun w L2 H2 f2 o2 ev2 x2 r2 => q w L2 H2 f2 o2 (ev1.trans ev2) (fun a ha => (x2 a ha).trans (x1 a ha)) r2
/-! ### slices -/
def RXO (K : PySem.W.Frag) (ms : List Md) (ts : List Ty) (tl : TO) (F : Gam ts → Option (Option Int × Gam ts)) : Prop :=
  ∀ (E : Ent) (L : Reg) (Γ : Gam ts) (σ : St) (H : Hp) (xt : List Addr) (Q : Option Int → Hp → Prop) (d : Option Int) (Γ' : Gam ts), Own K E L ms ts Γ σ H xt → F Γ = some (d, Γ') →
    (∀ L' H', Own K E L' ms ts Γ' σ H' xt → Ev ms ts L Γ σ H L' Γ' σ H' → (∀ a ∈ xt, H' a = H a) → Q d H') → tl σ H Q
theorem rxo_pure {tl : TO} {F : Gam ts → Option (Option Int)} (h : RO K ms ts tl F) : RXO K ms ts tl (ePure F) := fun E L Γ σ H xt Q d Γ' o e q => by
  obtain ⟨d', e1, e2⟩ := bind_some e
  cases e2
  exact h E L Γ σ H xt _ d o e1 fun H1 s1 => q L H1 (o.same s1) (Ev.same s1) fun a ha => same_at s1 (o.xat a ha)
theorem rxo_some {te : TE} {F : Gam ts → Option (Int × Gam ts)} (h : RX K ms ts te .int F) : RXO K ms ts (tPart te) (eX1 (fun i => some (some i)) F) := fun E L Γ σ H xt Q d Γ' o e q => by
  obtain ⟨⟨a, Γ1⟩, ea, e⟩ := bind_some e
  cases e
  refine h E L Γ σ H xt _ a _ o ea fun v L1 H1 f1 o1 ev1 x1 r1 => ⟨a, r1.2, q L1 H1 (o1.subx (List.sublist_append_right f1 xt)) ev1 x1⟩
def eX3 {G α β γ δ : Type} (f : α → β → γ → Option δ) (A : G → Option (α × G)) (B : G → Option (β × G)) (C : G → Option (γ × G)) : G → Option (δ × G) := fun Γ => (A Γ).bind fun p => (B p.2).bind fun q => (C q.2).bind fun r => (f p.1 q.1 r.1).bind fun c => some (c, r.2)
theorem rx_sliceL {t : Ty} {te : TE} {tl th : TO} {F : Gam ts → Option (List (den t) × Gam ts)} {Fl Fh : Gam ts → Option (Option Int × Gam ts)} (h : RXh K ms ts te (.list t) F) (hl : RXO K ms ts tl Fl) (hh : RXO K ms ts th Fh) (hf : t.frz = true := by rfl) :
    RX K ms ts (tSl (rSlL K) te tl th) (.list t) (eX3 fCutL F Fl Fh) := fun E L Γ σ H xt Q d Γ' o e q => by
  obtain ⟨⟨a, Γ1⟩, ea, e⟩ := bind_some e
  obtain ⟨⟨lo, Γ2⟩, el, e⟩ := bind_some e
  obtain ⟨⟨hi, Γ3⟩, eh, e⟩ := bind_some e
  cases e
  refine h E L Γ σ H xt _ a Γ1 o ea fun v L1 H1 f1 o1 ev1 x1 h1 => ?_
  refine hl E L1 Γ1 σ H1 (f1 ++ xt) _ lo Γ2 o1 el fun L2 H2 o2 ev2 x2 => ?_
  refine hh E L2 Γ2 σ H2 (f1 ++ xt) _ hi _ o2 eh fun L3 H3 o3 ev3 x3 => ?_
  obtain ⟨p, vs, rfl, k1, k2⟩ := h1 L3 _ H3 _ o3 (ev2.trans ev3) fun a ha => (x3 a (List.mem_append_left _ ha)).trans (x2 a (List.mem_append_left _ ha))
  refine ⟨p, vs, rfl, k1.seq, fun l hn => ?_⟩
  have s4 : Same H3 (upd H3 l (.lst (cutV vs lo hi))) := same_new hn
  obtain ⟨L4, f4, o4, ev4, x4, r4⟩ := rx_fin (t := .list t) (g := f1) (xt := xt) (c := cutD a lo hi) (v := .ref l) o3 s4 ⟨[l], fun _ => False, ⟨l, _, [], rfl, rfl, upd_same, F3.of2 (fun v d x => .inl ((rS_o t hf).1 v d x)) ((f2_cut k2).imp (rS_mono (Cov.of_same s4 fun _ h _ => h) (Stb.of_same s4) t).1)⟩, by simp, fun a ha => (by
    have ha : a = l := by simpa using ha
    subst ha
    exact ⟨hn, by rw [upd_same]; rfl⟩), fun a h => h.elim, fun a _ h => h⟩
  exact q _ L4 _ f4 o4 (ev1.trans (ev2.trans (ev3.trans ev4))) (fun a ha => (x4 a ha).trans ((x3 a (List.mem_append_right _ ha)).trans ((x2 a (List.mem_append_right _ ha)).trans (x1 a ha)))) r4
/-! ### displays -/
def RXL (K : PySem.W.Frag) (ms : List Md) (ts : List Ty) (ta : TA) (t : Ty) (F : Gam ts → Option (List (den t) × Gam ts)) : Prop :=
  ∀ (E : Ent) (L : Reg) (Γ : Gam ts) (σ : St) (H : Hp) (xt : List Addr) (Q : List V → Hp → Prop) (d : List (den t)) (Γ' : Gam ts), Own K E L ms ts Γ σ H xt → F Γ = some (d, Γ') →
    (∀ vs L' H', Own K E L' ms ts Γ' σ H' xt → Ev ms ts L Γ σ H L' Γ' σ H' → (∀ a ∈ xt, H' a = H a) → F2 (rS K H' (fun _ => True) t).1 vs d → Q vs H') → ta σ H Q
theorem rxl_nil {t : Ty} : RXL K ms ts tNil t (ePure eNil) := fun E L Γ σ H xt Q d Γ' o e q => by
  cases e
  exact q [] L H o Ev.rfl' (fun _ _ => rfl) True.intro
def eXSnoc {G α : Type} (A : G → Option (α × G)) (B : G → Option (List α × G)) : G → Option (List α × G) := eX2 (fun a b => some (a :: b)) A B
theorem rxl_cons {t : Ty} {te : TE} {ta : TA} {A : Gam ts → Option (den t × Gam ts)} {B : Gam ts → Option (List (den t) × Gam ts)} (h : RXh K ms ts te t A) (h' : RXL K ms ts ta t B) (hf : t.frz = true := by rfl) : RXL K ms ts (tCons te ta) t (eXSnoc A B) := fun E L Γ σ H xt Q d Γ' o e q => by
  obtain ⟨⟨a, Γ1⟩, ea, e⟩ := bind_some e
  obtain ⟨⟨b, Γ2⟩, eb, e⟩ := bind_some e
  cases e
  refine h E L Γ σ H xt _ a Γ1 o ea fun v L1 H1 f1 o1 ev1 x1 h1 => ?_
  refine h' E L1 Γ1 σ H1 xt _ b _ (o1.subx (List.sublist_append_right f1 xt)) eb fun vs L2 H2 o2 ev2 x2 h2 => ?_
  exact q (v :: vs) L2 H2 o2 (ev1.trans ev2) (fun a ha => (x2 a ha).trans (x1 a ha)) ⟨rS_stb hf ev2.stb (h1.now o1), h2⟩
theorem rx_list {t : Ty} {ta : TA} {F : Gam ts → Option (List (den t) × Gam ts)} (h : RXL K ms ts ta t F) (hf : t.frz = true := by rfl) : RX K ms ts (tLst ta) (.list t) (eX1 fSmall F) := fun E L Γ σ H xt Q d Γ' o e q => by
  obtain ⟨⟨a, Γ1⟩, ea, e⟩ := bind_some e
  obtain ⟨c, ec, e⟩ := bind_some e
  cases e
  dsimp only [fSmall, okIf] at ec
  split at ec
  · rename_i hz
    cases ec
    refine h E L Γ σ H xt _ _ _ o ea fun vs L1 H1 o1 ev1 x1 r1 => ⟨by rw [r1.length]; exact line_1000 (of_decide_eq_true hz), fun p hp => ?_⟩
    have s4 : Same H1 (upd H1 p (.lst vs)) := same_new hp
    obtain ⟨L4, f4, o4, ev4, x4, r4⟩ := rx_fin (t := .list t) (g := []) (xt := xt) (c := d) (v := .ref p) (by simpa using o1) s4 ⟨[p], fun _ => False, ⟨p, vs, [], rfl, rfl, upd_same, F3.of2 (fun v d x => .inl ((rS_o t hf).1 v d x)) (r1.imp (rS_mono (Cov.of_same s4 fun _ h _ => h) (Stb.of_same s4) t).1)⟩, by simp, fun a ha => (by
      have ha : a = p := by simpa using ha
      subst ha
      exact ⟨hp, by rw [upd_same]; rfl⟩), fun a h => h.elim, fun a _ h => h⟩
    exact q _ L4 _ f4 o4 (ev1.trans ev4) (fun a ha => (x4 a ha).trans (x1 a ha)) r4
  · cases ec
theorem rxr_one {te : TE} {t : Ty} {F : Gam ts → Option (den t × Gam ts)} (h : RX K ms ts te t F) : RXR K ms ts (tCons te tNil) (.last t) F := fun E L Γ σ H xt Q d Γ' o e q =>
  h E L Γ σ H xt _ d Γ' o e fun v L' H' f o' ev x r => q [v] L' H' f o' ev x ⟨v, rfl, .inl r⟩
theorem rxr_cons {te : TE} {ta : TA} {t b : Ty} {F : Gam ts → Option (den t × Gam ts)} {G : Gam ts → Option (den b × Gam ts)} (h : RX K ms ts te t F) (h' : RXR K ms ts ta b G) : RXR K ms ts (tCons te ta) (.cons t b) (eConsE F G) := fun E L Γ σ H xt Q d Γ' o e q => by
  obtain ⟨⟨x, Γ1⟩, e1, e⟩ := bind_some e
  obtain ⟨⟨y, Γ2⟩, e2, e⟩ := bind_some e
  cases e
  refine h E L Γ σ H xt _ x Γ1 o e1 fun v L1 H1 f1 o1 ev1 x1 r1 => h' E L1 Γ1 σ H1 (f1 ++ xt) _ y _ o1 e2 fun vs L2 H2 f2 o2 ev2 x2 r2 => ?_
  have r1' := (rO_mono (ev_cov o1 ev2) ev2.stb t).1 v x f1 (fun c hc => x2 c (List.mem_append_left _ hc)) r1
  have o3 : Own K E L2 ms ts Γ2 σ H2 ((f1 ++ f2) ++ xt) := o2.perm (by
    rw [← List.append_assoc]
    exact List.Perm.append_right xt List.perm_append_comm)
  exact q (v :: vs) L2 H2 (f1 ++ f2) o3 (ev1.trans ev2) (fun a ha => (x2 a (List.mem_append_right _ ha)).trans (x1 a ha)) ⟨v, vs, f1, f2, rfl, rfl, .inl r1', r2⟩
theorem rx_tup {b : Ty} {ta : TA} {F : Gam ts → Option (den b × Gam ts)} (h : RXR K ms ts ta b F) (hs : rowSmall b = true := by rfl) : RX K ms ts (tTup ta) (.tup b) F := fun E L Γ σ H xt Q d Γ' o e q => by
  refine h E L Γ σ H xt _ d Γ' o e fun vs L1 H1 f o1 ev1 x1 r1 => ?_
  have hl := row_length b vs d ((rO_s (L := L1) (R := fun _ => True) (fun _ _ => True.intro) b).2 vs d f (fun _ _ => True.intro) r1)
  refine ⟨by rw [hl]; exact line_1000 (of_decide_eq_true hs), fun p hp => ?_⟩
  have s2 : Same H1 (upd H1 p (.tup vs)) := same_new hp
  have at1 : ∀ c ∈ f ++ xt, (H1 c).isSome = true := o1.xat
  exact q (.ref p) L1 _ f (o1.same s2) (ev1.trans (Ev.same s2)) (fun a ha => (same_at s2 (at1 a (List.mem_append_right _ ha))).trans (x1 a ha)) ⟨p, vs, rfl, upd_same, (rO_mono (Cov.of_same s2 fun _ h _ => h) (Stb.of_same s2) b).2 vs d f (fun c hc => same_at s2 (at1 c (List.mem_append_left _ hc))) r1⟩
theorem rx_hl {b : Ty} {ta : TA} {F : Gam ts → Option (den b × Gam ts)} (h : RXR K ms ts ta b F) (hs : rowSmall b = true := by rfl) : RX K ms ts (tLst ta) (.hl b) F := fun E L Γ σ H xt Q d Γ' o e q => by
  refine h E L Γ σ H xt _ d Γ' o e fun vs L1 H1 f o1 ev1 x1 r1 => ?_
  have hl := row_length b vs d ((rO_s (L := L1) (R := fun _ => True) (fun _ _ => True.intro) b).2 vs d f (fun _ _ => True.intro) r1)
  refine ⟨by rw [hl]; exact line_1000 (of_decide_eq_true hs), fun p hp => ?_⟩
  have s2 : Same H1 (upd H1 p (.lst vs)) := same_new hp
  have at1 : ∀ c ∈ f ++ xt, (H1 c).isSome = true := o1.xat
  have nwp : Nw H1 (upd H1 p (.lst vs)) (· ∈ [p]) := fun c hc => by
    have hc : c = p := List.mem_singleton.mp hc
    subst hc
    exact ⟨hp, by rw [upd_same]; rfl⟩
  have o2 := o1.tempX (f := [p]) (Lr := fun _ => False) s2 (by simp) nwp (fun _ h => h.elim) (fun _ _ h => h)
  have o3 : Own K E L1 ms ts Γ' σ (upd H1 p (.lst vs)) ((p :: f) ++ xt) := by
    have : (fun a => L1 a ∨ False) = L1 := funext fun a => propext ⟨fun z => z.elim id False.elim, .inl⟩
    rw [this] at o2
    exact o2
  exact q (.ref p) L1 _ (p :: f) o3 (ev1.trans (Ev.same s2)) (fun a ha => (same_at s2 (at1 a (List.mem_append_right _ ha))).trans (x1 a ha)) ⟨p, vs, f, rfl, rfl, upd_same, (rO_mono (Cov.of_same s2 fun _ h _ => h) (Stb.of_same s2) b).2 vs d f (fun c hc => same_at s2 (at1 c (List.mem_append_left _ hc))) r1⟩
/-! ### owned things changed, with cells beside -/
theorem Own.chgX {t : Ty} (i : Mem ts t) {d : den t} (o : Own K E L ms ts Γ σ H xt) {mo : Md} (hm : ms[i.ix]? = some mo) (ho : mo.own = true) (hx : i.get Γ = some d) :
    ∃ v f, σ[i.ix]? = some (some v) ∧ (rO K H L t).1 v d f ∧ f.Nodup ∧ (∀ b ∈ f, Good E L H b) ∧ (∀ b ∈ f, b ∉ xt) ∧
    ∀ (H2 : Hp) (d' : den t) (f' : List Addr), (∀ b, (H b).isSome = true → b ∉ f → H2 b = H b) → (∀ b, (H b).isSome = true → (H2 b).isSome = true) → Stb H H2 →
      (rO K H2 L t).1 v d' f' → f'.Nodup → (∀ b ∈ f', b ∈ f) →
      Own K E L ms ts (i.set (some d') Γ) σ H2 xt ∧ Ev ms ts L Γ σ H L (i.set (some d') Γ) σ H2 ∧ (∀ a ∈ xt, H2 a = H a) := by
  obtain ⟨s0, f, q1, q2, q3, q4, q5⟩ := o.focus i hm
  rw [hx] at q2
  obtain ⟨v, rfl, hr⟩ := q2
  replace hr := (repM_own ho).mp hr
  have gg : ∀ b ∈ f, Good E L H b := fun b hb => (q4 b hb).1
  have fx : ∀ b ∈ f, b ∉ xt := fun b hb => (q4 b hb).2
  refine ⟨v, f, q1, hr, q3, gg, fx, fun H2 d' f' oth up st k0 n0 m0 => ?_⟩
  obtain ⟨_, _, nd, gd⟩ := o.ex
  have ndx := (List.nodup_append.mp nd).2.1
  have gx : ∀ a ∈ xt, Good E L H a := fun a ha => gd a (List.mem_append_right _ ha)
  have xs : ∀ a ∈ xt, H2 a = H a := fun a ha => oth a (gx a ha).at_ fun z => fx a z ha
  have o' := q5 H2 L (some d') (some v) f' xt (fun b hb hnf _ => oth b hb hnf) st (fun _ h => h)
    (fun b hb => .inl hb) up
    (fun b hb => ⟨(o.lr b hb).1, up b (o.lr b hb).2⟩)
    ⟨v, rfl, (repM_own ho).mpr k0⟩ (List.nodup_append.mpr ⟨n0, ndx, fun a ha b hb z => fx a (m0 a ha) (z ▸ hb)⟩)
    (fun b hb => by
      rcases List.mem_append.mp hb with hb | hb
      · exact ⟨.inl (m0 b hb), (gg b (m0 b hb)).nl, up b (gg b (m0 b hb)).at_⟩
      · exact ⟨.inr (.inl hb), (gx b hb).nl, up b (gx b hb).at_⟩)
  rw [set_same q1] at o'
  refine ⟨o', ⟨fun _ h => h, fun b q hb x => ?_, st, keepF_set0 i hm (own_hard ho) _⟩, xs⟩
  rw [oth b (o.lr b hb).2 fun z => (gg b z).nl hb]
  exact x
/-- xs.pop() -/
theorem rx_pop {t : Ty} (i : Mem ts (.list t)) {n : Nat} (hf : t.frz = true := by rfl) {mo : Md} (hm : ms[i.ix]? = some mo := by rfl) (ho : mo.own = true := by rfl) (hn : i.ix = n := by rfl) : RX K ms ts (tBM0 K "list" rPop (tVar n)) t (ePop i) := fun E L Γ σ H xt Q d Γ' o e q => by
  subst hn
  obtain ⟨xs, e1, e⟩ := bind_some e
  obtain ⟨d', e2, e⟩ := bind_some e
  cases e
  obtain ⟨v, f, q1, hr, nd, gd, fx, go⟩ := o.chgX i hm ho e1
  obtain ⟨a, vs, g, rfl, rfl, hl, hk⟩ := hr
  have hv := kids_s hk
  obtain ⟨y, hy, ry⟩ := f2_last hv e2
  refine ⟨_, q1, .inl ⟨rfl, vs, .of hl⟩, a, vs, y, rfl, rfl, hl, hy, ?_⟩
  have st : Stb H (upd H a (.lst vs.dropLast)) := Stb.upd hl rfl
  obtain ⟨o', ev, xs'⟩ := go (upd H a (.lst vs.dropLast)) xs.dropLast [a] (upd_oth List.mem_cons_self) upd_up st ⟨a, _, [], rfl, rfl, upd_same, kids_frz hf ((f2_dropLast hv).imp fun v d x => rS_stb (R' := fun _ => True) hf st x)⟩ (by simp) (fun b hb => by
    have hb : b = a := by simpa using hb
    rw [hb]
    exact List.mem_cons_self)
  exact q y L _ [] o' ev xs' (rO_atom hf (rS_stb (R' := fun _ => True) hf ev.stb ry))
end
end VV

/-! VMore28: more expressions with effects: calls, lists of unlike items, comprehensions, for. -/
namespace VV
open PySem L2
open PyProof.Rows hiding St
section
variable {K : PySem.W.Frag} {E : Ent} {ms ms' : List Md} {ts : List Ty} {L L1 : Reg} {Γ Γ1 : Gam ts} {σ σ1 : St} {H H' H0 H1 H2 : Hp} {xt : List Addr} {rm : Rm} {ρ : Ty}
theorem v2_frz {r : R2} {m : Em} (m' : Em) {t1 t2 t : Ty} {f : den t1 → den t2 → Option (den t)} (h : V2 K r m t1 t2 t f) (hf : t.frz = true := by rfl) : V2 K r m' t1 t2 t f := fun E L H v w a b c Q ra rb e q =>
  h E L H v w a b c Q ra rb e fun v' H' s r => q v' H' s (Rep.frz hf m' r.b)
/-- a part of a tuple -/
def eXProj {G : Type} {b t : Ty} (r : RIx b t) (F : G → Option (den b × G)) : G → Option (den t × G) := eX1 (fun d => some (r.get d)) F
theorem rx_proj {b t : Ty} {ta : TE} {F : Gam ts → Option (den b × Gam ts)} (r : RIx b t) (n : Nat) {i : Int} (h : RXh K ms ts ta (.tup b) F) (hf : t.frz = true := by rfl) (hn : r.ix = n := by rfl) (hi : i = (n : Int) := by rfl) : RX K ms ts (tOp (rIxT K) ta (tC (.int i))) t (eXProj r F) := fun E L Γ σ H xt Q d Γ' o e q => by
  obtain ⟨⟨a, Γ1⟩, ea, e⟩ := bind_some e
  cases e
  refine h E L Γ σ H xt _ a _ o ea fun v H1' H1 f1 o1 ev1 x1 h1 => ?_
  obtain ⟨p, vs, rfl, hl, h2⟩ := h1.now o1
  obtain ⟨w, hw, rw⟩ := row_get r h2
  subst hn
  subst hi
  exact ⟨p, vs, _, w, rfl, rfl, .of hl, atI_nat hw, q w _ H1 [] (o1.subx (List.sublist_append_right f1 xt)) ev1 x1 (rO_atom hf rw)⟩
/-- list(reversed(x)) -/
theorem rx_newL {t : Ty} {f1 : List Addr} {vs : List V} {ds : List (den t)} {l : Addr} (hf : t.frz = true) (o : Own K E L ms ts Γ σ H (f1 ++ xt)) (hn : H l = none) (r : F2 (rS K H (fun _ => True) t).1 vs ds) : ∃ L1 f, Own K E L1 ms ts Γ σ (upd H l (.lst vs)) (f ++ xt) ∧ Ev ms ts L Γ σ H L1 Γ σ (upd H l (.lst vs)) ∧ (∀ a ∈ xt, upd H l (.lst vs) a = H a) ∧ (rO K (upd H l (.lst vs)) L1 (.list t)).1 (.ref l) ds f := by
  have s4 : Same H (upd H l (.lst vs)) := same_new hn
  exact rx_fin (t := .list t) (g := f1) (xt := xt) (c := ds) (v := .ref l) o s4 ⟨[l], fun _ => False, ⟨l, vs, [], rfl, rfl, upd_same, F3.of2 (fun v d x => .inl ((rS_o t hf).1 v d x)) (r.imp (rS_mono (Cov.of_same s4 fun _ h _ => h) (Stb.of_same s4) t).1)⟩, by simp, fun a ha => (by
    have ha : a = l := by simpa using ha
    subst ha
    exact ⟨hn, by rw [upd_same]; rfl⟩), fun a h => h.elim, fun a _ h => h⟩
theorem rx_listRevV {t : Ty} {te : TE} {F : Gam ts → Option (List (den t) × Gam ts)} (h : RXh K ms ts te (.vtup t) F) (hf : t.frz = true := by rfl) : RX K ms ts (tListRev K te) (.list t) (eX1 fRev F) := fun E L Γ σ H xt Q d Γ' o e q => by
  obtain ⟨⟨a, Γ1⟩, ea, e⟩ := bind_some e
  cases e
  refine h E L Γ σ H xt _ a _ o ea fun v L1 H1 f1 o1 ev1 x1 h1 => ?_
  obtain ⟨p, vs, rfl, h1, h2⟩ := h1.now o1
  refine ⟨p, vs, rfl, .inr (.of h1), fun l hn => ?_⟩
  obtain ⟨L4, f4, o4, ev4, x4, r4⟩ := rx_newL hf o1 hn (F2.reverse h2)
  exact q _ L4 _ f4 o4 (ev1.trans ev4) (fun a ha => (x4 a ha).trans (x1 a ha)) r4
theorem rx_listRevL {t : Ty} {te : TE} {F : Gam ts → Option (List (den t) × Gam ts)} (h : RXh K ms ts te (.list t) F) (hf : t.frz = true := by rfl) : RX K ms ts (tListRev K te) (.list t) (eX1 fRev F) := fun E L Γ σ H xt Q d Γ' o e q => by
  obtain ⟨⟨a, Γ1⟩, ea, e⟩ := bind_some e
  cases e
  refine h E L Γ σ H xt _ a _ o ea fun v L1 H1 f1 o1 ev1 x1 h1 => ?_
  obtain ⟨p, vs, rfl, h1, h2⟩ := h1.now o1
  refine ⟨p, vs, rfl, .inl h1.seq, fun l hn => ?_⟩
  obtain ⟨L4, f4, o4, ev4, x4, r4⟩ := rx_newL hf o1 hn (F2.reverse h2)
  exact q _ L4 _ f4 o4 (ev1.trans ev4) (fun a ha => (x4 a ha).trans (x1 a ha)) r4
/-! ### statements -/
def sSetX {ρ : Type} {ts : List Ty} {t : Ty} (i : Mem ts t) (F : Gam ts → Option (den t × Gam ts)) : Gam ts → Option (Fl (Gam ts) ρ) := fun Γ => (F Γ).bind fun p => some (.nx (i.set (some p.1) p.2))
theorem Own.storeX {t : Ty} (i : Mem ts t) {v : V} {d : den t} {f : List Addr} (o : Own K E L ms ts Γ σ H f) (hm : ms[i.ix]? = some .o) (r : (rO K H L t).1 v d f) : Own K E L ms ts (i.set (some d) Γ) (σ.set i.ix (some v)) H [] := by
  obtain ⟨s0, f0, e1, e2, e3, e4, e5⟩ := o.focus i hm
  obtain ⟨_, _, nd, gd⟩ := o.ex
  have g : ∀ a ∈ f, Good E L H a := fun a ha => gd a (List.mem_append_right _ ha)
  exact e5 H L (some d) (some v) f [] (fun _ _ _ _ => rfl) (Stb.refl H) (fun _ h => h) (fun _ h => .inl h) (fun _ h => h) (fun a h => o.lr a h) ⟨v, rfl, r⟩ (by rw [List.append_nil]; exact (List.nodup_append.mp nd).2.1) (fun a ha => by
    have ha : a ∈ f := by simpa using ha
    exact ⟨.inr (.inl ha), (g a ha).nl, (g a ha).at_⟩)
theorem rs_setX {t : Ty} (i : Mem ts t) {n : Nat} {te : TE} {F : Gam ts → Option (den t × Gam ts)} (h : RX K ms ts te t F) (hm : ms[i.ix]? = some .o := by rfl) (hn : i.ix = n := by rfl) : RS K ms ts (tAsg te (gName n)) rm ρ (sSetX i F) := fun E L Γ σ H D f o e p => by
  subst hn
  obtain ⟨⟨d, Γ1⟩, e1, e2⟩ := bind_some e
  cases e2
  refine h E L Γ σ H [] _ d Γ1 o e1 fun v L1 H1 f1 o1 ev1 _ r1 => ?_
  rw [List.append_nil] at o1
  exact p L1 _ H1 (o1.storeX i hm r1) (ev1.trans ⟨fun _ h => h, fun _ _ _ h => h, Stb.refl H1, keepF_set i hm rfl _ _⟩)
/-- a part put into a row -/
def RIx.put : {b t : Ty} → RIx b t → den b → den t → den b
  | _, _, .one, _, x => x
  | _, _, .z, d, x => (x, d.2)
  | _, _, .s r, d, x => (d.1, r.put d.2 x)
theorem kid_nil {t : Ty} (hf : t.frz = true) {v : V} {d : den t} {f : List Addr} (h : Kid K H L t v d f) : f = [] := by
  rcases h with h | ⟨_, e, _⟩
  · exact ((rO_frz (R := fun _ => True) t hf).1 v d f h).1
  · exact e
theorem row_put : ∀ {b t : Ty} (r : RIx b t) (_ : t.frz = true) {vs : List V} {d : den b} {g : List Addr} {v : V} {x : den t} {R : Reg}, (rO K H L b).2 vs d g → (rS K H R t).1 v x → (rO K H L b).2 (vs.set r.ix v) (r.put d x) g
  | _, _, .one, hf, vs, d, g, v, x, R, h, hv => by
    obtain ⟨v0, rfl, k⟩ := h
    have hg := kid_nil hf k
    subst hg
    exact ⟨v, rfl, .inl (rO_atom hf hv)⟩
  | _, _, .z, hf, vs, d, g, v, x, R, h, hv => by
    obtain ⟨v0, r, f1, f2, rfl, rfl, k, h2⟩ := h
    have hg := kid_nil hf k
    subst hg
    exact ⟨v, r, [], f2, rfl, rfl, .inl (rO_atom hf hv), h2⟩
  | _, _, .s r, hf, vs, d, g, v, x, R, h, hv => by
    obtain ⟨v0, w, f1, f2, rfl, rfl, k, h2⟩ := h
    exact ⟨v0, w.set r.ix v, f1, f2, rfl, rfl, k, row_put r hf h2 hv⟩
theorem row_at : ∀ {b t : Ty} (r : RIx b t) {vs : List V} {d : den b} {g : List Addr}, (rO K H L b).2 vs d g → ∃ v, vs[r.ix]? = some v
  | _, _, .one, vs, d, g, h => by
    obtain ⟨v0, rfl, k⟩ := h
    exact ⟨v0, rfl⟩
  | _, _, .z, vs, d, g, h => by
    obtain ⟨v0, r, f1, f2, rfl, rfl, k, h2⟩ := h
    exact ⟨v0, rfl⟩
  | _, _, .s r, vs, d, g, h => by
    obtain ⟨v0, w, f1, f2, rfl, rfl, k, h2⟩ := h
    obtain ⟨x, hx⟩ := row_at r h2
    exact ⟨x, by simpa [RIx.ix] using hx⟩
theorem row_own : ∀ {b u : Ty} (r : RIx b (.own u)) {vs : List V} {d : den b} {g : List Addr}, (rO K H L b).2 vs d g → ∃ v gx gj gy, vs[r.ix]? = some v ∧ g = gx ++ (gj ++ gy) ∧ (rO K H L u).1 v (r.get d) gj ∧
    ∀ (H2 : Hp) (d' : den u) (gj' : List Addr), Cov H H2 L L → Stb H H2 → (∀ a ∈ gx ++ gy, H2 a = H a) → (rO K H2 L u).1 v d' gj' → (rO K H2 L b).2 vs (r.put d d') (gx ++ (gj' ++ gy))
  | _, _, .one, vs, d, g, h => by
    obtain ⟨v0, rfl, k⟩ := h
    rcases k with k | ⟨k, _⟩
    · exact ⟨v0, [], g, [], rfl, by simp, k, fun H2 d' gj' _ _ _ h2 => ⟨v0, rfl, .inl (by rw [List.nil_append, List.append_nil]; exact h2)⟩⟩
    · cases k
  | _, _, .z, vs, d, g, h => by
    obtain ⟨v0, w, f1, f2, rfl, rfl, k, h2⟩ := h
    rcases k with k | ⟨k, _⟩
    · exact ⟨v0, [], f1, f2, rfl, by simp, k, fun H2 d' gj' hc hs hx h3 => ⟨v0, w, gj', f2, rfl, by simp, .inl h3, (rO_mono hc hs _).2 w d.2 f2 (fun a ha => hx a (by simpa using ha)) h2⟩⟩
    · cases k
  | .cons a b, u, .s r, vs, d, g, h => by
    obtain ⟨v0, w, f1, f2, rfl, rfl, k, h2⟩ := h
    obtain ⟨v, gx, gj, gy, h3, rfl, h4, h5⟩ := row_own r h2
    refine ⟨v, f1 ++ gx, gj, gy, by simpa [RIx.ix] using h3, by simp, h4, fun H2 d' gj' hc hs hx h6 => ⟨v0, w, f1, gx ++ (gj' ++ gy), rfl, by simp, kid_mono ((rS_mono hc hs a).1 v0 d.1) ((rO_mono hc hs a).1 v0 d.1 f1 fun c hc => hx c (List.mem_append_left _ (List.mem_append_left _ hc))) k, h5 H2 d' gj' hc hs (fun c hc => hx c ?_) h6⟩⟩
    rcases List.mem_append.mp hc with hc | hc
    · exact List.mem_append_left _ (List.mem_append_right _ hc)
    · exact List.mem_append_right _ hc
/-- x[k] = e, of a list of unlike items -/
def sHput {ρ : Type} {ts : List Ty} {b t : Ty} (i : Mem ts (.hl b)) (r : RIx b t) (F : Gam ts → Option (den t × Gam ts)) : Gam ts → Option (Fl (Gam ts) ρ) := fun Γ => (F Γ).bind fun p => (i.get p.2).bind fun d => some (.nx (i.set (some (r.put d p.1)) p.2))
theorem rs_hput {b t : Ty} (i : Mem ts (.hl b)) (r : RIx b t) {n k : Nat} {z : Int} {te : TE} {F : Gam ts → Option (den t × Gam ts)} (h : RX K ms ts te t F) (hf : t.frz = true := by rfl) {mo : Md} (hm : ms[i.ix]? = some mo := by rfl) (ho : mo.own = true := by rfl) (hn : i.ix = n := by rfl) (hk : r.ix = k := by rfl) (hz : z = (k : Int) := by rfl) : RS K ms ts (tAsg te (gSub (tVar n) (tC (.int z)) rSetL)) rm ρ (sHput i r F) := fun E L Γ σ H D f o e p => by
  subst hn
  obtain ⟨⟨x, Γ1⟩, e1, e⟩ := bind_some e
  obtain ⟨d, e2, e⟩ := bind_some e
  cases e
  refine h E L Γ σ H [] _ x Γ1 o e1 fun v L1 H1 f1 o1 ev1 _ r1 => ?_
  obtain ⟨rfl, rv⟩ := (rO_frz (R := fun _ => True) t hf).1 v x f1 r1
  have o1 : Own K E L1 ms ts Γ1 σ H1 [] := by simpa using o1
  obtain ⟨v0, f0, q1, hr, nd, gd, fx, go⟩ := o1.chgX i hm ho e2
  obtain ⟨a, vs, g, rfl, rfl, hl, hrow⟩ := hr
  obtain ⟨w, hw⟩ := row_at r hrow
  subst hk
  subst hz
  have hlt : r.ix < vs.length := (List.getElem?_eq_some_iff.mp hw).1
  refine ⟨_, q1, a, vs, _, r.ix, rfl, rfl, hl, (by unfold ixN; rw [if_pos (by omega), if_pos (by omega)]; rfl), ?_⟩
  have st : Stb H1 (upd H1 a (.lst (vs.set r.ix v))) := Stb.upd hl rfl
  have ndc := List.nodup_cons.mp nd
  have nl := (gd a List.mem_cons_self).nl
  have hrow2 := row_put r hf hrow rv
  obtain ⟨o', ev, _⟩ := go (upd H1 a (.lst (vs.set r.ix v))) (r.put d x) (a :: g) (upd_oth List.mem_cons_self) upd_up st ⟨a, _, g, rfl, rfl, upd_same, (rO_mono (cov_upd nl) st b).2 _ _ g (fun c hc => upd_ne fun z => ndc.1 (z ▸ hc)) hrow2⟩ nd (fun b hb => hb)
  exact p _ σ _ o' (ev1.trans ev)
/-- x[k].pop() -/
def ePopH {ts : List Ty} {b t : Ty} (i : Mem ts (.hl b)) (r : RIx b (.own (.list t))) : Gam ts → Option (den t × Gam ts) := fun Γ => (i.get Γ).bind fun d => (List.getLast? (r.get d : List (den t))).bind fun y => some (y, i.set (some (r.put d (List.dropLast (r.get d : List (den t))))) Γ)
theorem rx_popH {b t : Ty} (i : Mem ts (.hl b)) (r : RIx b (.own (.list t))) {n k : Nat} {z : Int} (hf : t.frz = true := by rfl) {mo : Md} (hm : ms[i.ix]? = some mo := by rfl) (ho : mo.own = true := by rfl) (hn : i.ix = n := by rfl) (hk : r.ix = k := by rfl) (hz : z = (k : Int) := by rfl) : RX K ms ts (tBM0 K "list" rPop (tOp (rIxL K) (tVar n) (tC (.int z)))) t (ePopH i r) := fun E L Γ σ H xt Q d Γ' o e q => by
  subst hn
  obtain ⟨dd, e1, e⟩ := bind_some e
  obtain ⟨y, e2, e⟩ := bind_some e
  cases e
  obtain ⟨v0, f0, q1, hr, nd, gd, fx, go⟩ := o.chgX i hm ho e1
  obtain ⟨a, vs, g, rfl, rfl, hl, hrow⟩ := hr
  obtain ⟨v, gx, gj, gy, hv, rfl, hin, fin⟩ := row_own r hrow
  obtain ⟨c, ws, gc, rfl, rfl, hc, hkids⟩ := hin
  have hs := kids_s hkids
  obtain ⟨w, hw, rw⟩ := f2_last hs e2
  subst hk
  subst hz
  refine ⟨_, q1, a, vs, _, _, rfl, rfl, .of hl, atI_nat hv, .inl ⟨rfl, ws, .of hc⟩, c, ws, w, rfl, rfl, hc, hw, ?_⟩
  have ndc := List.nodup_cons.mp nd
  have cin : c ∈ gx ++ ((c :: gc) ++ gy) := List.mem_append_right _ (List.mem_append_left _ List.mem_cons_self)
  have nac : a ≠ c := fun z => ndc.1 (z ▸ cin)
  have st : Stb H (upd H c (.lst ws.dropLast)) := Stb.upd hc rfl
  have nlc := (gd c (List.mem_cons_of_mem _ cin)).nl
  have nd1 := List.nodup_append.mp ndc.2
  have nd2 := List.nodup_append.mp nd1.2.1
  have nd3 := List.nodup_cons.mp nd2.1
  have hrow2 := fin (upd H c (.lst ws.dropLast)) (List.dropLast (r.get dd : List (den t))) [c] (cov_upd nlc) st (fun e he => upd_ne fun z => by
    subst z
    rcases List.mem_append.mp he with h | h
    · exact nd1.2.2 e h e (List.mem_append_left _ List.mem_cons_self) rfl
    · exact nd2.2.2 e List.mem_cons_self e h rfl) ⟨c, _, [], rfl, rfl, upd_same, kids_frz hf ((f2_dropLast hs).imp fun v d x => rS_stb (R' := fun _ => True) hf st x)⟩
  have sub : ∀ e ∈ gx ++ ([c] ++ gy), e ∈ gx ++ ((c :: gc) ++ gy) := fun e he => by
    rcases List.mem_append.mp he with h | h
    · exact List.mem_append_left _ h
    · rcases List.mem_append.mp h with h | h
      · exact List.mem_append_right _ (List.mem_append_left _ (by rw [List.mem_singleton.mp h]; exact List.mem_cons_self))
      · exact List.mem_append_right _ (List.mem_append_right _ h)
  obtain ⟨o', ev, xs'⟩ := go (upd H c (.lst ws.dropLast)) (r.put dd (List.dropLast (r.get dd : List (den t)))) (a :: (gx ++ ([c] ++ gy))) (upd_oth (List.mem_cons_of_mem _ cin)) upd_up st ⟨a, vs, _, rfl, rfl, by rw [upd_ne nac]; exact hl, hrow2⟩ (List.nodup_cons.mpr ⟨fun z => ndc.1 (sub a z), by
    have hsub : (gx ++ ([c] ++ gy)).Sublist (gx ++ ((c :: gc) ++ gy)) := List.Sublist.append (List.Sublist.refl _) (List.Sublist.append (by simp) (List.Sublist.refl _))
    exact ndc.2.sublist hsub⟩) (fun e he => by
    rcases List.mem_cons.mp he with h | h
    · rw [h]; exact List.mem_cons_self
    · exact List.mem_cons_of_mem _ (sub e h))
  exact q w L _ [] o' ev xs' (rO_atom hf (rS_stb (R' := fun _ => True) hf ev.stb rw))
end
end VV

/-! VMore29: list + list, calls, ranges, comprehensions with effects. -/
namespace VV
open PySem L2
open PyProof.Rows hiding St
section
variable {K : PySem.W.Frag} {E : Ent} {ms ms' : List Md} {ts : List Ty} {L L1 : Reg} {Γ Γ1 : Gam ts} {σ σ1 : St} {H H' H0 H1 H2 : Hp} {xt : List Addr} {rm : Rm} {ρ : Ty}
theorem rx_cat {t : Ty} {ta tb : TE} {A B : Gam ts → Option (List (den t) × Gam ts)} (ha : RXh K ms ts ta (.list t) A) (hb : RXh K ms ts tb (.list t) B) (hf : t.frz = true := by rfl) : RX K ms ts (tOp (rCatR K) ta tb) (.list t) (eX2 fCatL A B) := fun E L Γ σ H xt Q d Γ' o e q => by
  obtain ⟨⟨a, Γ1⟩, ea, e⟩ := bind_some e
  obtain ⟨⟨b, Γ2⟩, eb, e⟩ := bind_some e
  obtain ⟨c, ec, e⟩ := bind_some e
  cases e
  dsimp only [fCatL, okIf] at ec
  split at ec
  · rename_i hz
    cases ec
    refine ha E L Γ σ H xt _ a Γ1 o ea fun v L1 H1 f1 o1 ev1 x1 h1 => ?_
    refine hb E L1 Γ1 σ H1 (f1 ++ xt) _ b _ o1 eb fun w L2 H2 f2 o2 ev2 x2 h2 => ?_
    obtain ⟨p, vs, rfl, k1, k2⟩ := h1 L2 _ H2 _ o2 ev2 fun a ha => x2 a (List.mem_append_left _ ha)
    obtain ⟨p', ws, rfl, k3, k4⟩ := h2.now o2
    refine ⟨p, p', vs, ws, rfl, rfl, k1.seq, k3.seq, by rw [k2.length, k4.length]; exact of_decide_eq_true hz, fun l hn => ?_⟩
    obtain ⟨L4, f4, o4, ev4, x4, r4⟩ := rx_newL (f1 := f2 ++ f1) (xt := xt) hf (by rw [List.append_assoc]; exact o2) hn (F2.append k2 k4)
    exact q _ L4 _ f4 o4 (ev1.trans (ev2.trans ev4)) (fun a ha => (x4 a ha).trans ((x2 a (List.mem_append_right _ ha)).trans (x1 a ha))) r4
  · cases ec
/-! ### rows of arguments, read by the callee -/
def RXW (K : PySem.W.Frag) (ms : List Md) (ts : List Ty) (ta : TA) (b : Ty) (F : Gam ts → Option (den b × Gam ts)) : Prop :=
  ∀ (E : Ent) (L : Reg) (Γ : Gam ts) (σ : St) (H : Hp) (xt : List Addr) (Q : List V → Hp → Prop) (d : den b) (Γ' : Gam ts), Own K E L ms ts Γ σ H xt → F Γ = some (d, Γ') →
    (∀ vs L' H', Own K E L' ms ts Γ' σ H' xt → Ev ms ts L Γ σ H L' Γ' σ H' → (∀ a ∈ xt, H' a = H a) → (rS K H' (fun a => E.S0 a ∨ L' a) b).2 vs d → Q vs H') → ta σ H Q
theorem reg_onX {L2 : Reg} {Γ2 : Gam ts} {x1 x2 : List Addr} (o1 : Own K E L1 ms ts Γ1 σ H1 x1) (o2 : Own K E L2 ms ts Γ2 σ H2 x2) (ev : Ev ms ts L1 Γ1 σ H1 L2 Γ2 σ H2) : Cov H1 H2 (fun a => E.S0 a ∨ L1 a) (fun a => E.S0 a ∨ L2 a) := fun a y hr hy =>
  hr.elim (fun h => ⟨.inl h, (o1.covS o2.fr a y h hy).2⟩) fun h => ⟨.inr (ev.sub a h), (ev_cov o1 ev a y h hy).2⟩
theorem rxw_one {t : Ty} {te : TE} {F : Gam ts → Option (den t × Gam ts)} (h : RXh K ms ts te t F) (hf : t.frz = true := by rfl) : RXW K ms ts (tCons te tNil) (.last t) F := fun E L Γ σ H xt Q d Γ' o e q =>
  h E L Γ σ H xt _ d Γ' o e fun v L' H' f o1 ev1 x1 h1 => q [v] L' H' (o1.subx (List.sublist_append_right f xt)) ev1 x1 ⟨v, rfl, (rS_frz t hf).1 v d (h1.now o1)⟩
theorem rxw_onew {t : Ty} {te : TE} {F : Gam ts → Option (den t)} (h : RP K ms ts te .w t F) : RXW K ms ts (tCons te tNil) (.last t) (ePure F) := fun E L Γ σ H xt Q d Γ' o e q => by
  obtain ⟨d', e1, e2⟩ := bind_some e
  cases e2
  refine h E L Γ σ H xt _ d o e1 fun v H1 s1 r1 => ?_
  obtain ⟨Lr, h1, h2⟩ := r1
  exact q [v] _ H1 (o.tempX (f := []) (Lr := Lr) s1 List.nodup_nil (fun a h => by simp at h) h2 (fun a h => by simp at h)) (ev_same s1) (fun a ha => same_at s1 (o.xat a ha)) ⟨v, rfl, h1⟩
theorem rxw_cons {t b : Ty} {te : TE} {ta : TA} {F : Gam ts → Option (den t × Gam ts)} {G : Gam ts → Option (den b × Gam ts)} (h : RXh K ms ts te t F) (h' : RXW K ms ts ta b G) (hf : t.frz = true := by rfl) : RXW K ms ts (tCons te ta) (.cons t b) (eConsE F G) := fun E L Γ σ H xt Q d Γ' o e q => by
  obtain ⟨⟨x, Γ1⟩, e1, e⟩ := bind_some e
  obtain ⟨⟨y, Γ2⟩, e2, e⟩ := bind_some e
  cases e
  refine h E L Γ σ H xt _ x Γ1 o e1 fun v L1 H1 f o1 ev1 x1 h1 => ?_
  have o1' := o1.subx (List.sublist_append_right f xt)
  refine h' E L1 Γ1 σ H1 xt _ y _ o1' e2 fun vs L2 H2 o2 ev2 x2 r2 => ?_
  exact q (v :: vs) L2 H2 o2 (ev1.trans ev2) (fun a ha => (x2 a ha).trans (x1 a ha)) ⟨v, vs, rfl, rS_stb hf ev2.stb (h1.now o1), r2⟩
theorem rxw_consw {t b : Ty} {te : TE} {ta : TA} {F : Gam ts → Option (den t)} {G : Gam ts → Option (den b × Gam ts)} (h : RP K ms ts te .w t F) (h' : RXW K ms ts ta b G) : RXW K ms ts (tCons te ta) (.cons t b) (eConsE (ePure F) G) := fun E L Γ σ H xt Q d Γ' o e q => by
  obtain ⟨⟨x, Γ1⟩, e1, e⟩ := bind_some e
  obtain ⟨⟨y, Γ2⟩, e2, e⟩ := bind_some e
  cases e
  obtain ⟨d', e3, e4⟩ := bind_some e1
  cases e4
  refine h E L Γ σ H xt _ x o e3 fun v H1 s1 r1 => ?_
  obtain ⟨Lr, h1, h2⟩ := r1
  have o1 : Own K E (fun a => L a ∨ Lr a) ms ts Γ σ H1 xt := o.tempX (f := []) (Lr := Lr) s1 List.nodup_nil (fun a h => by simp at h) h2 (fun a h => by simp at h)
  refine h' E _ Γ σ H1 xt _ y _ o1 e2 fun vs L2 H2 o2 ev2 x2 r2 => ?_
  exact q (v :: vs) L2 H2 o2 ((ev_same s1).trans ev2) (fun a ha => (x2 a ha).trans (same_at s1 (o.xat a ha))) ⟨v, vs, rfl, (rS_mono (reg_onX o1 o2 ev2) ev2.stb t).1 v x h1, r2⟩
/-- f(d, ..): d, an owned name, is changed -/
def eIOz {ts : List Ty} {b tio : Ty} {ρ : Type} (i : Mem ts tio) (m : den tio × den b → Option (ρ × den tio)) (G : Gam ts → Option (den b × Gam ts)) : Gam ts → Option (ρ × Gam ts) := fun Γ => (i.get Γ).bind fun _ => (G Γ).bind fun p => (i.get p.2).bind fun x => (m (x, p.1)).bind fun res => some (res.1, i.set (some res.2) p.2)
theorem rx_callIOz {b tio : Ty} (i : Mem ts tio) {n : Nat} {ta : TA} {m : den (.cons tio b) → Option (den ρ × den tio)} {G : Gam ts → Option (den b × Gam ts)} {X : XK} {mi : Md} (h : RXW K ms ts ta b G) (hm : ms[i.ix]? = some mi := by rfl) (hmo : mi.own = true := by rfl) (hp : tio.pureO = true := by rfl) (hn : i.ix = n := by rfl) :
    RX K ms ts (tCall (spIO K (.cons tio b) (RIx.z : RIx (.cons tio b) tio) .o ρ m) [] X (tCons (tVar n) ta)) ρ (eIOz i m G) := fun E L Γ σ H xt Q d Γ' o e q => by
  subst hn
  obtain ⟨x0, ex0, e⟩ := bind_some e
  obtain ⟨⟨y, Γ1⟩, ey, e⟩ := bind_some e
  obtain ⟨x, ex, e⟩ := bind_some e
  obtain ⟨res, er, e⟩ := bind_some e
  cases e
  obtain ⟨v, f0, k1, _, _⟩ := o.look i hm ex0
  refine ⟨v, k1, h E L Γ σ H xt _ y Γ1 o ey fun vs L1 H1 o1 ev1 x1 r1 => ?_⟩
  show spIO K (.cons tio b) RIx.z .o ρ m ((v :: vs) ++ []) H1 Q X
  rw [List.append_nil]
  obtain ⟨s0, f, q1, q2, q3, q4, q5⟩ := o1.focus i hm
  rw [ex] at q2
  obtain ⟨v1, rfl, q2⟩ := q2
  rw [k1] at q1
  cases q1
  have q2 := (repM_own hmo).mp q2
  obtain ⟨_, _, nd0, gd0⟩ := o1.ex
  have ndx := (List.nodup_append.mp nd0).2.1
  have gx : ∀ a ∈ xt, Good E L1 H1 a := fun a ha => gd0 a (List.mem_append_right _ ha)
  have f1 : ∀ c ∈ f, (H1 c).isSome = true := fun c hc => (q4 c hc).1.at_
  have hS : ∀ c, (E.S0 c ∨ L1 c) → (H1 c).isSome = true := fun c hc => by
    rcases hc with w | w
    · obtain ⟨g1, g2⟩ := o1.s0 c w
      obtain ⟨y, hy⟩ := isSome_some g1
      rw [o1.fr c y hy g2]
      rfl
    · exact (o1.lr c w).2
  refine ⟨fun c => E.S0 c ∨ L1 c, v, (x, y), f, res, fun c hc => ⟨hS c hc, fun z => ?_⟩, q3, f1, ⟨vs, rfl, r1⟩, (rO_pure tio hp).1 v _ f q2, er, fun v' H2 f' g Ls c1 c2 c3 c4 c5 c6 c7 c8 => ?_⟩
  · rcases hc with w | w
    · exact (q4 c z).1.ns w
    · exact (q4 c z).1.nl w
  · have old : ∀ c, (H1 c).isSome = true → c ∉ f → H2 c = H1 c := fun c h1 h2 => by
      obtain ⟨y, hy⟩ := isSome_some h1
      rw [hy]
      exact c1 c y hy h2
    have up : ∀ c, (H1 c).isSome = true → (H2 c).isSome = true := fun c h1 => by
      by_cases hc : c ∈ f
      · exact c3 c hc
      · rw [old c h1 hc]
        exact h1
    have xold : ∀ a ∈ xt, H2 a = H1 a := fun a ha => old a (gx a ha).at_ fun z => (q4 a z).2 ha
    have nf := List.nodup_append.mp c6
    have gnx : ∀ a ∈ g, a ∉ xt := fun a ha hx => by
      rcases (c7 a (List.mem_append_right _ ha)).1 with z | z
      · exact (q4 a z).2 hx
      · have := (gx a hx).at_
        rw [z] at this
        cases this
    have fnx : ∀ a ∈ f', a ∉ xt := fun a ha hx => by
      rcases (c7 a (List.mem_append_left _ ha)).1 with z | z
      · exact (q4 a z).2 hx
      · have := (gx a hx).at_
        rw [z] at this
        cases this
    have o' := q5 H2 (fun c => L1 c ∨ Ls c) (some res.2) (some v) f' (g ++ xt) (fun c h1 h2 _ => old c h1 h2) c2 (fun _ h => .inl h) (fun c h => h.elim .inl fun z => .inr ((c8 c z).1.elim .inl fun y => .inr (.inr y))) up
      (fun c h => h.elim (fun z => ⟨(o1.lr c z).1, up c (o1.lr c z).2⟩) fun z => ⟨(c8 c z).1.elim (fun y => (q4 c y).1.new) fun y => .inl (o1.fresh y).1, (c8 c z).2⟩)
      ⟨v, rfl, (repM_own hmo).mpr ((rO_mono (Cov.of_reg fun c h _ => .inr h) (Stb.refl _) tio).1 v _ f' (fun _ _ => rfl) c4)⟩
      (List.nodup_append.mpr ⟨nf.1, List.nodup_append.mpr ⟨nf.2.1, ndx, fun a ha b hb z => gnx a ha (z ▸ hb)⟩, fun a ha b hb z => by
        subst z
        rcases List.mem_append.mp hb with hb | hb
        · exact nf.2.2 a ha a hb rfl
        · exact fnx a ha hb⟩)
      (fun c hc => by
        by_cases hx : c ∈ xt
        · exact ⟨.inr (.inl hx), fun z => z.elim (gx c hx).nl fun z => (by
            rcases (c8 c z).1 with y | y
            · exact (q4 c y).2 hx
            · have := (gx c hx).at_
              rw [y] at this
              cases this), up c (gx c hx).at_⟩
        · have hm' : c ∈ f' ++ g := by
            rcases List.mem_append.mp hc with h | h
            · exact List.mem_append_left _ h
            · rcases List.mem_append.mp h with h | h
              · exact List.mem_append_right _ h
              · exact absurd h hx
          obtain ⟨d1, d2, d3⟩ := c7 c hm'
          refine ⟨d1.elim .inl fun y => .inr (.inr y), fun z => z.elim (fun z => ?_) d2, d3⟩
          rcases d1 with y | y
          · exact (q4 c y).1.nl z
          · have := (o1.lr c z).2
            rw [y] at this
            cases this)
    rw [set_same k1] at o'
    have ev : Ev ms ts L1 Γ1 σ H1 (fun c => L1 c ∨ Ls c) (i.set (some res.2) Γ1) σ H2 := ⟨fun _ h => .inl h, fun c y h1 h2 => by
      rw [old c (by rw [h2]; rfl) fun z => (q4 c z).1.nl h1]
      exact h2, c2, keepF_set0 i hm (own_hard hmo) _⟩
    exact q v' _ H2 g o' (ev1.trans ev) (fun a ha => (xold a ha).trans (x1 a ha)) ((rO_mono (Cov.of_reg fun c h _ => .inr h) (Stb.refl _) ρ).1 v' _ g (fun _ _ => rfl) c5)
/-- f(d) -/
def eIO1 {ts : List Ty} {tio : Ty} {ρ : Type} (i : Mem ts tio) (m : den tio → Option (ρ × den tio)) : Gam ts → Option (ρ × Gam ts) := fun Γ => (i.get Γ).bind fun x => (m x).bind fun res => some (res.1, i.set (some res.2) Γ)
/-! ### for k in range(e) -/
theorem rng1_fix {j : Int} {w : Bool} : RIG K ms ts (fun σ H R => R (Itr 0 j.toNat) H) w .int (fun _ => some (rng 0 j)) := fun E L Γ σ H R ds o e q => by
  cases e
  have it := iter_rng (K := K) (R := reg w E fun a => L a ∨ False) (lo := 0) (hi := j)
  rw [Int.sub_zero] at it
  exact q _ H (fun _ => False) (fun _ => True) (Same.refl H) (fun a h => h.elim) ⟨fun _ _ _ _ _ _ _ => True.intro, it.go, it.stop, it.yld⟩ True.intro
def sForX {G ρ : Type} (F : G → Option (Int × G)) (B : Int → G → G) (mask : G → G) (body : G → Option (Fl G ρ)) : G → Option (Fl G ρ) := fun Γ => (F Γ).bind fun p => sFor (fun _ => fRng1 p.1) B mask body p.2
theorem rs_forXR {ta : TA} {g : TG} {tb : TS} {F : Gam ts → Option (Int × Gam ts)} {B : Int → Gam ts → Gam ts} {body : Gam ts → Option (Fl (Gam ts) (den ρ))} (bs : List Bool) (h : RXW K ms ts ta (.last .int) F) (hg : RG K ms ts g false .int B) (hb : RS K ms ts tb rm ρ body)
    (hm : okMask ms bs = true := by rfl) : RS K ms ts (tFor (iRng1 ta) g tb) rm ρ (sForX F B (Gam.mask bs) body) := fun E L Γ σ H D f o e p => by
  obtain ⟨⟨j, Γ1⟩, e1, e⟩ := bind_some e
  have e : sFor (fun _ => fRng1 j) B (Gam.mask bs) body Γ1 = some f := e
  unfold sFor fRng1 okIf at e
  obtain ⟨ds, e2, e3⟩ := bind_some e
  split at e2
  · rename_i hb'
    cases e2
    have hb' := of_decide_eq_true hb'
    refine h E L Γ σ H [] _ j Γ1 o e1 fun vs L1 H1 o1 ev1 _ r1 => ?_
    obtain ⟨v, rfl, rv⟩ := r1
    cases rv
    refine ⟨j, rfl, hb'.1, hb'.2, ?_⟩
    refine rs_forG (K := K) (ms := ms) (ts := ts) (rm := rm) (ρ := ρ) (w := false) (t := .int) (wi := fun σ H R => R (Itr 0 j.toNat) H) (F := fun _ => some (rng 0 j)) bs rng1_fix hg hb hm E L1 Γ1 σ H1 D f o1 ?_ (p.later ev1)
    exact e3
  · cases e2
/-! ### [e for k in range(e)] -/
def lcX {G β : Type} (bind : Int → G → G) (mask : G → G) (elt : G → Option (β × G)) : List Int → G → Option (List β × G)
  | [], Γ => some ([], Γ)
  | x :: xs, Γ => (elt (bind x Γ)).bind fun p => (lcX bind mask elt xs (mask p.2)).bind fun q => some (p.1 :: q.1, q.2)
def eLcX {G β : Type} (src : G → Option (Int × G)) (bind : Int → G → G) (mask : G → G) (elt : G → Option (β × G)) : G → Option (List β × G) := fun Γ => (src Γ).bind fun p => (fRng1 p.1).bind fun xs => (lcX bind mask elt xs (mask p.2)).bind fun q => if lenOk q.1.length = true then some q else none
theorem rG_ext {S0 : Reg} : ∀ {ms : List Md} {ts : List Ty} {Γ : Gam ts} {σ σ' : St} {fp : List Addr} (bs : List Bool), (∀ j : Nat, bs[j]? ≠ some false → σ'[j]? = σ[j]?) → σ'.length = σ.length → rG K H S0 L ms ts (Gam.mask bs Γ) σ fp → rG K H S0 L ms ts (Gam.mask bs Γ) σ' fp
  | ms, ts, Γ, σ, σ', fp, [], h, hl, g => by
    have : σ' = σ := List.ext_getElem? fun j => h j (by simp)
    rw [this]
    exact g
  | [], [], _, σ, σ', _, _, h, hl, g => by
    have e : σ = [] := g.1
    subst e
    have : σ' = [] := List.length_eq_zero_iff.mp (by simpa using hl)
    rw [this]
    exact g
  | m :: ms, t :: ts, Γ, s :: σ, s' :: σ', fp, b :: bs, h, hl, g => by
    obtain ⟨f1, f2, rfl, h1, h2⟩ := g
    refine ⟨f1, f2, rfl, ?_, rG_ext (Γ := Γ.2) bs (fun j hj => by simpa using h (j + 1) (by simpa using hj)) (by simpa using hl) h2⟩
    cases b with
    | false => exact h1
    | true =>
      have : s' = s := by simpa using h 0 (by simp)
      rw [this]
      exact h1
  | m :: ms, t :: ts, Γ, s :: σ, [], fp, b :: bs, h, hl, g => by simp at hl
  | [], _ :: _, _, _, _, _, _ :: _, _, _, g => g.elim
  | _ :: _, [], _, _, _, _, _ :: _, _, _, g => g.elim
  | _ :: _, _ :: _, _, [], _, _, _ :: _, _, _, g => g.elim
theorem Own.ext {bs : List Bool} {σ' : St} (h : ∀ j : Nat, bs[j]? ≠ some false → σ'[j]? = σ[j]?) (hl : σ'.length = σ.length) (o : Own K E L ms ts (Gam.mask bs Γ) σ H xt) : Own K E L ms ts (Gam.mask bs Γ) σ' H xt := by
  obtain ⟨fp, g, nd, gd⟩ := o.ex
  exact ⟨⟨fp, rG_ext bs h hl g, nd, gd⟩, o.fr, o.lr, o.s0, o.iod⟩
theorem ev_sig {L' : Reg} {Γ' : Gam ts} (e : Ev ms ts L Γ σ H L' Γ' σ H') (σ1 : St) : Ev ms ts L Γ σ1 H L' Γ' σ1 H' := ⟨e.sub, e.cell, e.stb, e.keep.1, fun _ _ _ _ => rfl⟩
/-- a name that takes a number, with cells beside -/
theorem Own.setI (i : Mem ts .int) {m : Md} {j : Int} (o : Own K E L ms ts Γ σ H xt) (hm : ms[i.ix]? = some m) (hk : m.fixd = false) : Own K E L ms ts (i.set (some j) Γ) (σ.set i.ix (some (.int j))) H xt := by
  obtain ⟨s0, f0, e1, e2, e3, e4, e5⟩ := o.focus i hm
  obtain ⟨_, _, nd, gd⟩ := o.ex
  have g : ∀ a ∈ xt, Good E L H a := fun a ha => gd a (List.mem_append_right _ ha)
  refine e5 H L (some j) (some (.int j)) [] xt (fun _ _ _ _ => rfl) (Stb.refl H) (fun _ h => h) (fun _ h => .inl h) (fun _ h => h) (fun a h => o.lr a h) ⟨.int j, rfl, ?_⟩ (by simpa using (List.nodup_append.mp nd).2.1) (fun a ha => by
    have ha : a ∈ xt := by simpa using ha
    exact ⟨.inr (.inl ha), (g a ha).nl, (g a ha).at_⟩)
  cases m <;> exact ⟨rfl, rfl⟩
theorem Own.xgood (o : Own K E L ms ts Γ σ H xt) : ∀ a ∈ xt, Good E L H a := fun a ha => by
  obtain ⟨_, _, _, gd⟩ := o.ex
  exact gd a (List.mem_append_right _ ha)
theorem fixd_hard {m : Md} (h : m.fixd = false) : m.hard = false := by cases m <;> first | rfl | cases h
/-- a cell beside is changed -/
theorem Own.updx {D : Addr} {a b : List V} (o : Own K E L ms ts Γ σ H (D :: xt)) (h : H D = some (.lst a)) : Own K E L ms ts Γ σ (upd H D (.lst b)) (D :: xt) := by
  have gD := o.xgood D List.mem_cons_self
  obtain ⟨fp, g, nd, gd⟩ := id o.ex
  have nfp : ∀ c ∈ fp, c ≠ D := fun c hc z => (List.nodup_append.mp nd).2.2 c hc D List.mem_cons_self z
  have fr : ∀ c y, E.H0 c = some y → c ∉ E.io → upd H D (.lst b) c = some y := fun c y h1 h2 => by
    rw [upd_ne fun z => ?_]
    · exact o.fr c y h1 h2
    · subst z
      rcases gD.new with z | z
      · rw [h1] at z; cases z
      · exact h2 z
  have up : ∀ c, (H c).isSome = true → (upd H D (.lst b) c).isSome = true := upd_up
  exact ⟨⟨fp, rG_mono (o.covS fr) (cov_upd gD.nl) (Stb.upd h rfl) (fun c hc => upd_ne (nfp c hc)) g, nd, fun c hc => ⟨(gd c hc).new, (gd c hc).nl, (gd c hc).ns, up c (gd c hc).at_⟩⟩, fr, fun c hc => ⟨(o.lr c hc).1, up c (o.lr c hc).2⟩, o.s0, fun c hc => up c (o.iod c hc)⟩
theorem rx_lcR {u : Ty} {ta : TA} {te : TE} {src : Gam ts → Option (Int × Gam ts)} {elt : Gam ts → Option (den u × Gam ts)} (bs : List Bool) (i : Mem ts .int) {n : Nat} {m : Md} (hs : RXW K ms ts ta (.last .int) src) (he : RX K ms ts te u elt) (hf : u.frz = true := by rfl) (hm : ms[i.ix]? = some m := by rfl) (hk : m.fixd = false := by rfl) (hn : i.ix = n := by rfl) (hb : bs[n]? = some false := by rfl) (ho : okMask ms bs = true := by rfl) :
    RX K ms ts (tLc (iRng1 ta) (gName n) tYes te [n]) (.list u) (eLcX src (bName i) (Gam.mask bs) elt) := fun E L Γ σ H xt Q d Γ' o e q => by
  subst hn
  obtain ⟨⟨j, Γ1⟩, e1, e⟩ := bind_some e
  obtain ⟨xs, e2, e⟩ := bind_some e
  obtain ⟨⟨r, Γe⟩, e3, e⟩ := bind_some e
  dsimp only at e3 e
  split at e
  · rename_i hz
    cases e
    have hz := of_decide_eq_true hz
    unfold fRng1 okIf at e2
    split at e2
    · rename_i hj
      cases e2
      have hj := of_decide_eq_true hj
      refine hs E L Γ σ H xt _ j Γ1 o e1 fun vs L1 H1 o1 ev1 x1 r1 => ?_
      obtain ⟨v, rfl, rv⟩ := r1
      cases rv
      refine ⟨j, rfl, hj.1, hj.2, fun D hD => ?_⟩
      have it := iter_rng (K := K) (R := fun _ => False) (lo := 0) (hi := j)
      rw [Int.sub_zero] at it
      have hv : ∀ v ∈ [i.ix], bs[v]? = some false := fun v hv => by rw [List.mem_singleton.mp hv]; exact hb
      have o1m : Own K E L1 ms ts (Gam.mask bs Γ1) (L2.wipe σ [i.ix]) H1 xt := Own.wipe hv (o1.mask bs)
      have sD : Same H1 (L2.upd H1 D (.lst [])) := same_new hD
      have oD : Own K E L1 ms ts (Gam.mask bs Γ1) (L2.wipe σ [i.ix]) (L2.upd H1 D (.lst [])) (D :: xt) := by
        have := o1m.tempX (f := [D]) (Lr := fun _ => False) sD (by simp) (fun a ha => by
          have ha : a = D := by simpa using ha
          subst ha
          exact ⟨hD, by rw [upd_same]; rfl⟩) (fun a h => h.elim) (fun a _ h => h)
        have e : (fun a => L1 a ∨ False) = L1 := funext fun a => propext ⟨fun z => z.elim id False.elim, .inl⟩
        rw [e] at this
        exact this
      have hlen : (rng 0 j).length = j.toNat := by rw [rng_len, Int.sub_zero]
      refine ⟨fun k mm H' => mm = (rng 0 j).length - k ∧ k ≤ (rng 0 j).length ∧ ∃ L' Γx acc ds rest, Own K E L' ms ts (Gam.mask bs Γx) (L2.wipe σ [i.ix]) H' (D :: xt) ∧ Ev ms ts L1 (Gam.mask bs Γ1) (L2.wipe σ [i.ix]) (L2.upd H1 D (.lst [])) L' (Gam.mask bs Γx) (L2.wipe σ [i.ix]) H' ∧ (∀ a ∈ xt, H' a = H1 a) ∧ H' D = some (.lst acc) ∧ F2 (rS K H' (fun _ => True) u).1 acc ds ∧ lcX (bName i) (Gam.mask bs) elt ((rng 0 j).drop k) (Gam.mask bs Γx) = some (rest, Γ') ∧ d = ds ++ rest,
        ⟨(rng 0 j).length, rfl, Nat.zero_le _, L1, Γ1, [], [], d, oD, Ev.rfl', fun a ha => same_at sD (o1.xat a ha), upd_same, True.intro, e3, rfl⟩, ?_⟩
      rintro k mm H' ⟨rfl, hle, L', Γx, acc, ds, rest, oW, evW, xW, hDa, rl, e4, rfl⟩
      by_cases hlt : k < (rng 0 j).length
      · refine .inr ⟨it.go k H' True.intro hlt, fun H'' => ∃ L' Γx acc ds' rest', Own K E L' ms ts (Gam.mask bs Γx) (L2.wipe σ [i.ix]) H'' (D :: xt) ∧ Ev ms ts L1 (Gam.mask bs Γ1) (L2.wipe σ [i.ix]) (L2.upd H1 D (.lst [])) L' (Gam.mask bs Γx) (L2.wipe σ [i.ix]) H'' ∧ (∀ a ∈ xt, H'' a = H1 a) ∧ H'' D = some (.lst acc) ∧ F2 (rS K H'' (fun _ => True) u).1 acc ds' ∧ lcX (bName i) (Gam.mask bs) elt ((rng 0 j).drop (k + 1)) (Gam.mask bs Γx) = some (rest', Γ') ∧ ds ++ rest = ds' ++ rest',
          fun H'' h => ⟨(rng 0 j).length - (k + 1), by omega, rfl, hlt, h⟩, fun x H3 hy => ?_⟩
        obtain ⟨s3, dd, hd, rd⟩ := it.yld k H' x H3 hlt True.intro hy
        have ed : (rng 0 j).drop k = dd :: (rng 0 j).drop (k + 1) := by
          have hd' : (rng 0 j)[k] = dd := by
            have := List.getElem?_eq_getElem hlt
            rw [this] at hd
            exact Option.some.inj hd
          rw [List.drop_eq_getElem_cons hlt, hd']
        rw [ed] at e4
        obtain ⟨⟨y, Γy⟩, e5, e6⟩ := bind_some (show (elt (bName i dd (Gam.mask bs Γx))).bind _ = some (rest, Γ') from e4)
        obtain ⟨⟨r', Γz⟩, e7, e8⟩ := bind_some e6
        cases e8
        cases rd
        have oW3 := oW.same s3
        have o4 := oW3.setI i (j := dd) hm hk
        have hD3 := s3 _ _ hDa
        have hwp : L2.wipe ((L2.wipe σ [i.ix]).set i.ix (some (.int dd))) [i.ix] = L2.wipe σ [i.ix] := wipe_ext (by rw [List.length_set, wipe_length]) fun k hk => by
          have hk' : k ≠ i.ix := fun z => hk (by rw [z]; exact List.mem_cons_self)
          rw [List.getElem?_set_ne fun z => hk' z.symm, wipe_out hk]
        refine ⟨by rw [hwp], ?_⟩
        have hit : i.ix < σ.length := by
          have h1 := (rG_len (Classical.choose_spec o.ex).1)
          have h2 := (List.getElem?_eq_some_iff.mp hm).1
          omega
        refine he E L' _ _ H3 (D :: xt) _ y Γy o4 e5 fun v L5 H5 f5 o5 ev5 x5 r5 => ?_
        obtain ⟨rfl, rv⟩ := (rO_frz (R := fun _ => True) u hf).1 v y f5 r5
        have o5 : Own K E L5 ms ts Γy ((L2.wipe σ [i.ix]).set i.ix (some (.int dd))) H5 (D :: xt) := o5
        have hD5 : H5 D = some (.lst acc) := (x5 D List.mem_cons_self).trans hD3
        refine ⟨acc, hD5, ?_, L5, Γy, acc ++ [v], ds ++ [y], r', ?_, ?_, ?_, upd_same, ?_, e7, by simp⟩
        · have := rl.length
          simp only [List.length_append, List.length_cons] at hz
          omega
        · have o6 : Own K E L5 ms ts (Gam.mask bs Γy) (L2.wipe σ [i.ix]) H5 (D :: xt) := Own.ext (bs := bs) (Γ := Γy) (σ := (L2.wipe σ [i.ix]).set i.ix (some (.int dd))) (fun k hk => by
            have hk' : k ≠ i.ix := fun z => hk (by rw [z]; exact hb)
            rw [List.getElem?_set_ne fun z => hk' z.symm]) (by rw [List.length_set]) (o5.mask bs)
          exact o6.updx hD5
        · have g5 := o5.xgood D List.mem_cons_self
          have e1' : Ev ms ts L' (Gam.mask bs Γx) (L2.wipe σ [i.ix]) H' L' (bName i dd (Gam.mask bs Γx)) (L2.wipe σ [i.ix]) H3 := ⟨fun _ h => h, fun a q _ h => s3 _ _ h, Stb.of_same s3, keepF_set0 i hm (fixd_hard hk) _⟩
          have e2' : Ev ms ts L5 (Gam.mask bs Γy) (L2.wipe σ [i.ix]) H5 L5 (Gam.mask bs Γy) (L2.wipe σ [i.ix]) (L2.upd H5 D (.lst (acc ++ [v]))) := ⟨fun _ h => h, fun a q h x => by
            have ne : a ≠ D := fun z => by
              subst z
              exact g5.nl h
            rw [upd_ne ne]
            exact x, Stb.upd hD5 rfl, KeepF.refl⟩
          exact evW.trans (e1'.trans (((ev_sig ev5 _).mask ho).trans e2'))
        · intro a ha
          have nd := (List.nodup_append.mp (Classical.choose_spec o5.ex).2.1).2.1
          have ne : a ≠ D := fun z => (List.nodup_cons.mp nd).1 (z ▸ ha)
          rw [upd_ne ne, x5 a (List.mem_cons_of_mem _ ha), same_at s3 (oW.xat a (List.mem_cons_of_mem _ ha)), xW a ha]
        · exact F2.append (rl.imp fun v d x => rS_stb hf (((Stb.of_same s3).trans ev5.stb).trans (Stb.upd hD5 rfl)) x) ⟨rS_stb hf (Stb.upd hD5 rfl) rv, True.intro⟩
      · have hi' : k = (rng 0 j).length := by omega
        subst hi'
        rw [List.drop_length] at e4
        have e4' : ([], Gam.mask bs Γx) = (rest, Γ') := Option.some.inj e4
        cases e4'
        refine .inl ⟨it.stop H' True.intro, ?_⟩
        have oE : Own K E L' ms ts (Gam.mask bs Γx) σ H' (D :: xt) := Own.ext (bs := bs) (Γ := Γx) (σ := L2.wipe σ [i.ix]) (fun k hk => by
          have hk' : k ∉ [i.ix] := fun z => hk (by rw [List.mem_singleton.mp z]; exact hb)
          rw [wipe_out hk']) (by rw [wipe_length]) oW
        have evE : Ev ms ts L1 Γ1 σ H1 L' (Gam.mask bs Γx) σ H' := by
          have a1 : Ev ms ts L1 Γ1 σ H1 L1 (Gam.mask bs Γ1) σ H1 := (Ev.rfl' (σ := σ)).mask ho
          have a2 : Ev ms ts L1 (Gam.mask bs Γ1) σ H1 L1 (Gam.mask bs Γ1) σ (L2.upd H1 D (.lst [])) := Ev.same sD
          exact a1.trans (a2.trans (ev_sig evW σ))
        exact q (.ref D) L' H' [D] oE (ev1.trans evE) (fun a ha => (xW a ha).trans (x1 a ha)) ⟨D, acc, [], rfl, rfl, hDa, F3.of2 (fun v d x => .inl ((rS_o u hf).1 v d x)) (by rw [List.append_nil]; exact rl)⟩
    · cases e2
  · cases e
end
end VV

/-! VMore30: shared lists of lists: put together, items. -/
namespace VV
open PySem L2
open PyProof.Rows hiding St
section
variable {K : PySem.W.Frag} {E : Ent} {ms ms' : List Md} {ts : List Ty} {L L1 : Reg} {Γ Γ1 : Gam ts} {σ σ1 : St} {H H' H0 H1 H2 : Hp} {xt : List Addr} {rm : Rm} {ρ : Ty}
theorem rp_catw {t : Ty} {ta tb : TE} {Fa Fb : Gam ts → Option (List (den t))} (ha : RP K ms ts ta .w (.list t) Fa) (hb : RP K ms ts tb .w (.list t) Fb) : RP K ms ts (tOp (rCatR K) ta tb) .w (.list t) (e2 fCatL Fa Fb) := fun E L Γ σ H xt Q d o e q => by
  obtain ⟨a, ea, e⟩ := bind_some e
  obtain ⟨b, eb, e⟩ := bind_some e
  dsimp only [fCatL, okIf] at e
  split at e
  · rename_i hz
    cases e
    refine ha E L Γ σ H xt _ a o ea fun v H1 s1 r1 => ?_
    refine hb E L Γ σ H1 xt _ b (o.same s1) eb fun w H2 s2 r2 => ?_
    obtain ⟨Lr, r1, n1⟩ := r1
    obtain ⟨Ls, r2, n2⟩ := r2
    obtain ⟨p, vs, rfl, h1, h2⟩ := (rS_mono (Cov.of_same s2 fun _ h _ => h) (Stb.of_same s2) (.list t)).1 v a r1
    obtain ⟨p', ws, rfl, h3, h4⟩ := r2
    refine ⟨p, p', vs, ws, rfl, rfl, h1.seq, h3.seq, by rw [h2.length, h4.length]; exact of_decide_eq_true hz, fun l hn => ?_⟩
    have s4 : Same H2 (upd H2 l (.lst (vs ++ ws))) := same_new hn
    refine q (.ref l) _ ((s1.trans s2).trans s4) ⟨fun a => Lr a ∨ Ls a ∨ a = l, ⟨l, _, rfl, .inl ⟨.inr (.inr (.inr (.inr rfl))), by rw [upd_same]; rfl⟩, F2.append ?_ ?_⟩, fun a ha => ?_⟩
    · exact h2.imp (rS_mono (Cov.of_same s4 fun a h _ => h.elim .inl fun z => .inr (z.elim .inl fun z => .inr (.inl z))) (Stb.of_same s4) t).1
    · exact h4.imp (rS_mono (Cov.of_same s4 fun a h _ => h.elim .inl fun z => .inr (z.elim .inl fun z => .inr (.inr (.inl z)))) (Stb.of_same s4) t).1
    · rcases ha with ha | ha | rfl
      · exact nw_on (s2.trans s4) n1 a ha
      · have := nw_on s4 n2 a ha
        exact ⟨s1.free this.1, this.2⟩
      · exact ⟨(s1.trans s2).free hn, by rw [upd_same]; rfl⟩
  · cases e
/-- an item of a shared list -/
theorem rp_ixw {t : Ty} {m m2 : Em} {ta ty : TE} {F : Gam ts → Option (List (den t))} {G : Gam ts → Option Int} (h : RP K ms ts ta m (.list t) F) (h' : RP K ms ts ty m2 .int G) (hm : (m == .w || m == .l) = true := by rfl) : RP K ms ts (tOp (rIxL K) ta ty) m t (e2 atI F G) := fun E L Γ σ H xt Q d o e q => by
  obtain ⟨a, ea, e⟩ := bind_some e
  obtain ⟨x, ex, e⟩ := bind_some e
  refine h E L Γ σ H xt _ a o ea fun v H1 s1 r1 => h' E L Γ σ H1 xt _ x (o.same s1) ex fun w H2 s2 r2 => ?_
  cases (show w = .int x from r2.b)
  have go : ∀ {R : Reg}, (rS K H1 R (.list t)).1 v a → ((∀ v, (rS K H2 R t).1 v d → Rep K E L H H2 m t v d) → rIxL K v (.int x) H2 Q) := fun {R} r fin => by
    obtain ⟨p, vs, rfl, h1, h2⟩ := (rS_mono (Cov.of_same s2 fun _ h _ => h) (Stb.of_same s2) (.list t)).1 v a r
    obtain ⟨y, h3, h4⟩ := f2_atI h2 e
    exact ⟨p, vs, x, y, rfl, rfl, h1.seq, h3, q y H2 (s1.trans s2) (fin y h4)⟩
  cases m with
  | w =>
    obtain ⟨Lr, h1, h2⟩ := r1
    exact go h1 fun v r => ⟨Lr, r, nw_on s2 h2⟩
  | l =>
    obtain ⟨Lr, h1, h2⟩ := r1
    exact go h1 fun v r => ⟨Lr, r, nw_on s2 h2⟩
  | o => cases hm
  | b => cases hm
/-! ### ranges with a step -/
def rngC (lo c : Int) (n : Nat) : List Int := (List.range n).map fun (k : Nat) => lo + (k : Int) * c
theorem rngC_get {lo c : Int} {n i : Nat} (h : i < n) : (rngC lo c n)[i]? = some (lo + (i : Int) * c) := by
  unfold rngC
  rw [List.getElem?_map, List.getElem?_range h]
  rfl
theorem rngC_len {lo c : Int} {n : Nat} : (rngC lo c n).length = n := by simp [rngC]
theorem iter_rngC {R : Reg} {lo c : Int} {n : Nat} : IterOk K R .int (Itc lo c n) (rngC lo c n) (fun _ => True) where
  keep := fun _ _ _ _ h => h
  go := fun i H _ hi => by rw [rngC_len] at hi; exact hi
  stop := fun H _ => by rw [rngC_len]; exact Nat.le_refl _
  yld := fun i H x H' hlt _ hy => by
    obtain ⟨rfl, rfl⟩ := hy
    rw [rngC_len] at hlt
    exact ⟨Same.refl _, _, rngC_get hlt, rfl⟩
def fRng3 (d : Int × Int × Int) : Option (List Int) := okIf (decide (d.2.2 ≠ 0 ∧ d.2.2.natAbs < 1073741824 ∧ PySem.Builtin.Range.small d.1 d.2.1 d.2.2 = true ∧ PySem.Builtin.Range.rangeSize d.1 d.2.1 d.2.2 = ((PySem.Builtin.Range.rangeSize d.1 d.2.1 d.2.2).toNat : Int))) (rngC d.1 d.2.2 (PySem.Builtin.Range.rangeSize d.1 d.2.1 d.2.2).toNat)
theorem ri_rng3 {w : Bool} {ta : TA} {F : Gam ts → Option (Int × Int × Int)} (h : RA K ms ts ta .b (.cons .int (.cons .int (.last .int))) F) : RI K ms ts (iRng3 ta) w .int (e1 fRng3 F) := fun E L Γ σ H xt R ds o e q => by
  obtain ⟨n, en, e⟩ := bind_some e
  obtain ⟨hb, rfl⟩ := okIf_some e
  have hb := of_decide_eq_true hb
  refine h E L Γ σ H xt _ n o en fun vs H1 s1 r1 => ?_
  obtain ⟨v, r, rfl, rv, ⟨w', r', rfl, rw', ⟨w2, rfl, rw2⟩⟩⟩ := r1
  cases rv
  cases rw'
  cases rw2
  exact ⟨n.1, n.2.1, n.2.2, _, rfl, hb, q _ H1 (fun _ => False) (fun _ => True) s1 (fun a h => h.elim) iter_rngC True.intro⟩
end
end VV

/-! VMore31: enumerate of tuples, a dict's get of data, is None of data. -/
namespace VV
open PySem L2
open PyProof.Rows hiding St
section
variable {K : PySem.W.Frag} {E : Ent} {ms ms' : List Md} {ts : List Ty} {L L1 : Reg} {Γ Γ1 : Gam ts} {σ σ1 : St} {H H' H0 H1 H2 : Hp} {xt : List Addr} {rm : Rm} {ρ : Ty}
theorem iter_enumT {R : Reg} {t : Ty} {a : Addr} {ds : List (den t)} : IterOk K R (.tup (.cons .int (.last t))) (EN.IteT K a ds.length) (enumD ds) (fun H => (rS K H R (.vtup t)).1 (.ref a) ds) where
  keep := fun H H' c s h => (rS_mono c s (.vtup t)).1 _ _ h
  go := fun i H h hi => by
    obtain ⟨b, vs, e, h1, h2⟩ := h
    cases e
    have hl := h2.length
    rw [enum_len] at hi
    exact ⟨hi, vs, vs[i]'(by omega), .of h1, List.getElem?_eq_getElem _⟩
  stop := fun H h => by
    obtain ⟨b, vs, e, h1, h2⟩ := h
    cases e
    exact ⟨by rw [enum_len]; exact Nat.le_refl _, vs, .of h1, h2.length⟩
  yld := fun i H x H' hlt h hy => by
    obtain ⟨b, vs, e, h1, h2⟩ := h
    cases e
    obtain ⟨T, y, rfl, hn, rfl, hx⟩ := hy
    obtain ⟨d, hd, r⟩ := h2.get' (hx vs (.of h1))
    have s : Same H (upd H T (.tup [.int (i : Nat), y])) := same_new hn
    exact ⟨s, _, enum_get hd, T, _, rfl, upd_same, _, _, rfl, rfl, _, rfl, (rS_mono (Cov.of_same s fun _ h _ => h) (Stb.of_same s) t).1 y d r⟩
theorem ri_enumV {w : Bool} {t : Ty} {te : TE} {F : Gam ts → Option (List (den t))} (h : RP K ms ts te (if w then .w else .l) (.vtup t) F) : RI K ms ts (EN.iEnumT K te) w (.tup (.cons .int (.last t))) (e1 fEnum F) := fun E L Γ σ H xt R ds o e q => by
  obtain ⟨d, e1, e2⟩ := bind_some e
  cases e2
  refine h E L Γ σ H xt _ d o e1 fun v H1 s1 r1 => ?_
  obtain ⟨Lr, h1, h2⟩ := reg_rep r1
  obtain ⟨a, vs, rfl, h3, h4⟩ := id h1
  have := q (EN.IteT K a d.length) H1 Lr _ s1 h2 iter_enumT h1
  rw [← h4.length] at this
  exact ⟨a, vs, rfl, .of h3, this⟩
/-! ### data that may be None -/
def fGet1A {k : Ty} (d : List (den k × PyData)) (x : den k) : Option PyData := some ((fGetK (k := k) d x).getD .none)
theorem rp_dget1A {k : Ty} {m1 m2 : Em} {td ty : TE} {F : Gam ts → Option (List (den k × den .any))} {G : Gam ts → Option (den k)} (h : RP K ms ts td m1 (.dict k .any) F) (h' : RP K ms ts ty m2 k G) (hk : okKey k = true := by rfl) :
    RP K ms ts (tDGet1 td ty) .b .any (e2 (fGet1A (k := k)) F G) := fun E L Γ σ H xt Q d o e q => by
  obtain ⟨a, ea, e⟩ := bind_some e
  obtain ⟨x, ex, e⟩ := bind_some e
  refine h E L Γ σ H xt _ a o ea fun v H1 s1 r1 => ?_
  obtain ⟨p, rfl⟩ := dict_ref (k := k) (t := .any) r1.b
  refine ⟨p, rfl, isD_of r1.b, h' E L Γ σ H1 xt _ x (o.same s1) ex fun w H2 s2 r2 => ?_⟩
  rcases dget_of hk (rs_on (t := .dict k .any) s2 r1.b) r2.b with ⟨g1, g2⟩ | ⟨v, z, g1, g2, g3⟩
  · rw [fGet1A, g1] at e
    cases e
    exact ⟨none, g2, q _ H2 (s1.trans s2) rfl⟩
  · rw [fGet1A, g1] at e
    cases e
    exact ⟨some v, g2, q _ H2 (s1.trans s2) g3⟩
def isNoneD : PyData → Bool
  | .none => true
  | _ => false
theorem dv_non {d : PyData} {v : V} (h : dv H d v) : decide (v = V.non) = isNoneD d := by
  cases d with
  | none => cases h; rfl
  | bool b => cases h; rfl
  | int i => cases h; rfl
  | str x => obtain ⟨rfl, _⟩ := h; rfl
  | list ds => exact h.elim
  | tuple ds => obtain ⟨a, vs, rfl, _⟩ := h; rfl
  | dict ds => exact h.elim
theorem v_isNA {m : Em} : V2 K (fun x y H Q => y = .non ∧ Q (.bl (decide (x = .non))) H) m .any .non .bool (fun a _ => some (isNoneD a)) := fun E L H v w a b c Q ra rb e q => by
  cases e; cases rb
  exact ⟨rfl, q _ H (Same.refl H) (rep_atom rfl (congrArg V.bl (dv_non ra)))⟩
theorem v_notNA {m : Em} : V2 K (fun x y H Q => y = .non ∧ Q (.bl (!decide (x = .non))) H) m .any .non .bool (fun a _ => some (!isNoneD a)) := fun E L H v w a b c Q ra rb e q => by
  cases e; cases rb
  exact ⟨rfl, q _ H (Same.refl H) (rep_atom rfl (by rw [dv_non ra]; rfl))⟩
theorem v_isB {m : Em} : V2 K rIsB m .bool .bool .bool fEqB := fun E L H v w a b c Q ra rb e q => by
  cases e; cases ra; cases rb
  exact ⟨a, b, rfl, rfl, q _ H (Same.refl H) (rep_atom rfl rfl)⟩
theorem v_notB {m : Em} : V2 K rNotB m .bool .bool .bool fNeB := fun E L H v w a b c Q ra rb e q => by
  cases e; cases ra; cases rb
  exact ⟨a, b, rfl, rfl, q _ H (Same.refl H) (rep_atom rfl rfl)⟩
end
end VV

/-! VMore32: parts of shared tuples; owned names that are shared from a statement on. -/
namespace VV
open PySem L2
open PyProof.Rows hiding St
section
variable {K : PySem.W.Frag} {E : Ent} {ms ms' : List Md} {ts : List Ty} {L L1 : Reg} {Γ Γ1 : Gam ts} {σ σ1 : St} {H H' H0 H1 H2 : Hp} {xt : List Addr} {rm : Rm} {ρ : Ty} {S0 : Reg}
/-- a part of a shared tuple -/
theorem rp_projw {b t : Ty} {m : Em} {ta : TE} {F : Gam ts → Option (den b)} (r : RIx b t) (n : Nat) {i : Int} (h : RP K ms ts ta m (.tup b) F) (hm : (m == .w || m == .l) = true := by rfl) (hn : r.ix = n := by rfl) (hi : i = (n : Int) := by rfl) : RP K ms ts (tOp (rIxT K) ta (tC (.int i))) m t (eProj r F) := fun E L Γ σ H xt Q d o e q => by
  obtain ⟨a, ea, e⟩ := bind_some e
  cases e
  subst hn
  subst hi
  refine h E L Γ σ H xt _ a o ea fun v H1 s1 r1 => ?_
  cases m with
  | w =>
    obtain ⟨Lr, ⟨p, vs, rfl, h1, h2⟩, h3⟩ := r1
    obtain ⟨x, k3, k4⟩ := row_get r h2
    exact ⟨p, vs, _, x, rfl, rfl, .of h1, atI_nat k3, q x H1 s1 ⟨Lr, k4, h3⟩⟩
  | l =>
    obtain ⟨Lr, ⟨p, vs, rfl, h1, h2⟩, h3⟩ := r1
    obtain ⟨x, k3, k4⟩ := row_get r h2
    exact ⟨p, vs, _, x, rfl, rfl, .of h1, atI_nat k3, q x H1 s1 ⟨Lr, k4, h3⟩⟩
  | o => cases hm
  | b => cases hm
/-! ### shared from now on -/
theorem rG_pub : ∀ {ts : List Ty} {t : Ty} (i : Mem ts t) {ms : List Md} {Γ : Gam ts} {σ : St} {fp : List Addr}, rG K H S0 L ms ts Γ σ fp → ms[i.ix]? = some .o → ∃ f fa fb, fp = fa ++ (f ++ fb) ∧ rG K H S0 (fun a => L a ∨ a ∈ f) (ms.set i.ix .l) ts Γ σ (fa ++ fb)
  | _ :: _, _, .z, m :: ms, Γ, s :: σ, fp, h, hm => by
    obtain ⟨f1, f2, rfl, h1, h2⟩ := h
    have e : m = .o := by simpa [Mem.ix] using hm
    subst e
    have h2' : rG K H S0 (fun a => L a ∨ a ∈ f1) ms _ Γ.2 σ f2 := rG_mono (Cov.refl H S0) (Cov.of_reg fun a h _ => .inl h) (Stb.refl H) (fun _ _ => rfl) h2
    refine ⟨f1, [], f2, rfl, [], f2, rfl, ?_, h2'⟩
    cases hd : Γ.1 with
    | none => exact rfl
    | some d =>
      rw [hd] at h1
      obtain ⟨v, e, r⟩ := h1
      exact ⟨v, e, rfl, (rO_s (fun a h => .inl h) _).1 v d f1 (fun a ha => .inr ha) r⟩
  | _ :: _, _, .s i, m :: ms, Γ, s :: σ, fp, h, hm => by
    obtain ⟨f1, f2, rfl, h1, h2⟩ := h
    obtain ⟨f, fa, fb, rfl, h3⟩ := rG_pub i h2 (by simpa [Mem.ix] using hm)
    refine ⟨f, f1 ++ fa, fb, by simp, f1, fa ++ fb, by simp, ?_, h3⟩
    exact slot_mono (Cov.refl H S0) (Cov.of_reg fun a h _ => .inl h) (Stb.refl H) (fun _ _ => rfl) h1
  | _ :: _, _, _, [], _, _, _, h, _ => h.elim
  | _ :: _, _, _, _ :: _, _, [], _, h, _ => h.elim
theorem rG_unpub : ∀ {ts : List Ty} {t : Ty} (i : Mem ts t) {ms : List Md} {m' : Md} {Γ : Gam ts} {σ : St} {fp : List Addr}, rG K H S0 L (ms.set i.ix m') ts Γ σ fp → ∃ fp', rG K H S0 L ms ts (i.set none Γ) σ fp' ∧ fp'.Sublist fp
  | _ :: _, _, .z, m :: ms, m', Γ, s :: σ, fp, h => by
    obtain ⟨f1, f2, rfl, h1, h2⟩ := h
    exact ⟨f2, ⟨[], f2, rfl, rfl, h2⟩, List.sublist_append_right _ _⟩
  | _ :: _, _, .s i, m :: ms, m', Γ, s :: σ, fp, h => by
    obtain ⟨f1, f2, rfl, h1, h2⟩ := h
    obtain ⟨f', h3, h4⟩ := rG_unpub i h2
    exact ⟨f1 ++ f', ⟨f1, f', rfl, h1, h3⟩, List.Sublist.append (List.Sublist.refl _) h4⟩
  | _ :: _, _, .z, [], _, _, _, _, h => h.elim
  | _ :: _, _, .s _, [], _, _, _, _, h => h.elim
  | _ :: _, _, .z, _ :: _, _, _, [], _, h => h.elim
  | _ :: _, _, .s _, _ :: _, _, _, [], _, h => h.elim
theorem Own.pub {t : Ty} (i : Mem ts t) (o : Own K E L ms ts Γ σ H xt) (hm : ms[i.ix]? = some .o) : ∃ L1 : Reg, (∀ a, L a → L1 a) ∧ Own K E L1 (ms.set i.ix .l) ts Γ σ H xt := by
  obtain ⟨fp, g, nd, gd⟩ := id o.ex
  obtain ⟨f, fa, fb, rfl, h⟩ := rG_pub i g hm
  have nd1 := List.nodup_append.mp nd
  have nd2 := List.nodup_append.mp nd1.1
  have nd3 := List.nodup_append.mp nd2.2.1
  have hf : ∀ a ∈ f, Good E L H a := fun a ha => gd a (List.mem_append_left _ (List.mem_append_right _ (List.mem_append_left _ ha)))
  have sb : ((fa ++ fb) ++ xt).Sublist ((fa ++ (f ++ fb)) ++ xt) := List.Sublist.append (List.Sublist.append (List.Sublist.refl _) (List.sublist_append_right _ _)) (List.Sublist.refl _)
  refine ⟨fun a => L a ∨ a ∈ f, fun a h => .inl h, ⟨fa ++ fb, h, nd.sublist sb, fun a ha => ?_⟩, o.fr, fun a h => ?_, o.s0, o.iod⟩
  · have q := gd a (sb.subset ha)
    refine ⟨q.new, fun z => ?_, q.ns, q.at_⟩
    rcases z with z | z
    · exact q.nl z
    · rcases List.mem_append.mp ha with w | w
      · rcases List.mem_append.mp w with w | w
        · exact nd2.2.2 a w a (List.mem_append_left _ z) rfl
        · exact nd3.2.2 a z a w rfl
      · exact nd1.2.2 a (List.mem_append_right _ (List.mem_append_left _ z)) a w rfl
  · rcases h with h | h
    · exact o.lr a h
    · exact ⟨(hf a h).new, (hf a h).at_⟩
theorem Own.unpub {t : Ty} (i : Mem ts t) {m' : Md} (o : Own K E L (ms.set i.ix m') ts Γ σ H xt) : Own K E L ms ts (i.set none Γ) σ H xt := by
  obtain ⟨fp, g, nd, gd⟩ := id o.ex
  obtain ⟨fp', h, sb⟩ := rG_unpub i g
  have sb2 : (fp' ++ xt).Sublist (fp ++ xt) := sb.append (List.Sublist.refl _)
  exact ⟨⟨fp', h, nd.sublist sb2, fun a ha => gd a (sb2.subset ha)⟩, o.fr, o.lr, o.s0, o.iod⟩
theorem Ev.unpub {t : Ty} (i : Mem ts t) {L' : Reg} {Γ' : Gam ts} {σ' : St} {H' : Hp} (hm : ms[i.ix]? = some .o) (hs : ∀ a, L a → L1 a) (e : Ev (ms.set i.ix .l) ts L1 Γ σ H L' Γ' σ' H') : Ev ms ts L Γ σ H L' (i.set none Γ') σ' H' := by
  have other : ∀ (n : Nat) (m : Md), ms[n]? = some m → m.fixd = true → (ms.set i.ix .l)[n]? = some m ∧ i.ix ≠ n := fun n m h hf => by
    have ne : i.ix ≠ n := fun z => by
      rw [← z, hm] at h
      cases h
      cases hf
    exact ⟨by rw [List.getElem?_set_ne ne]; exact h, ne⟩
  refine ⟨fun a h => e.sub a (hs a h), fun a o h q => e.cell a o (hs a h) q, e.stb, fun u j m h hh => ?_, fun n m h hf => ?_⟩
  · obtain ⟨h1, h2⟩ := other j.ix m h (hard_fixd hh)
    rw [Mem.get_set_ne i j none Γ' h2]
    exact e.keep.1 u j m h1 hh
  · exact e.keep.2 n m (other n m h hf).1 hf
def Fl.on {τ ρ : Type} (f : τ → τ) : Fl τ ρ → Fl τ ρ
  | .nx γ => .nx (f γ)
  | .bk γ => .bk (f γ)
  | .ct γ => .ct (f γ)
  | .rt r γ => .rt r (f γ)
def sPub {ρ : Type} {ts : List Ty} {t : Ty} (i : Mem ts t) (F : Gam ts → Option (Fl (Gam ts) ρ)) : Gam ts → Option (Fl (Gam ts) ρ) := fun Γ => (F Γ).bind fun f => some (f.on (i.set none))
/-- a name that is owned is shared while a statement runs, and gone behind it -/
theorem rs_pub {t : Ty} (i : Mem ts t) {st : TS} {F : Gam ts → Option (Fl (Gam ts) (den ρ))} (h : RS K ms' ts st rm ρ F) (hm : ms[i.ix]? = some .o := by rfl) (hM : ms' = ms.set i.ix .l := by rfl) : RS K ms ts st rm ρ (sPub i F) := fun E L Γ σ H D f o e p => by
  obtain ⟨f0, e1, e2⟩ := bind_some e
  cases e2
  subst hM
  obtain ⟨L1, hs, o1⟩ := o.pub i hm
  refine h E L1 Γ σ H D f0 o1 e1 ?_
  cases f0 with
  | nx Γ' => exact fun L' σ' H' o' e' => p L' σ' H' (o'.unpub i) (e'.unpub i hm hs)
  | bk Γ' => exact fun L' σ' H' o' e' => p L' σ' H' (o'.unpub i) (e'.unpub i hm hs)
  | ct Γ' => exact fun L' σ' H' o' e' => p L' σ' H' (o'.unpub i) (e'.unpub i hm hs)
  | rt d Γ' => exact fun L' σ' H' v xt o' e' r => p L' σ' H' v xt (o'.unpub i) (e'.unpub i hm hs) r
end
end VV

/-! VMore33: owned things taken apart into names. -/
namespace VV
open PySem L2
open PyProof.Rows hiding St
section
variable {K : PySem.W.Frag} {E : Ent} {ms ms' : List Md} {ts : List Ty} {L L1 : Reg} {Γ Γ1 : Gam ts} {σ σ1 : St} {H H' H0 H1 H2 : Hp} {xt : List Addr} {rm : Rm} {ρ : Ty}
/-- a target that takes a part of an owned thing -/
def RGk (K : PySem.W.Frag) (ms : List Md) (ts : List Ty) (g : TG) (t : Ty) (B : den t → Gam ts → Gam ts) : Prop :=
  ∀ (E : Ent) (L : Reg) (Γ : Gam ts) (σ : St) (H : Hp) (xt : List Addr) (Q : St → Hp → Prop) (x : V) (d : den t) (f : List Addr), Own K E L ms ts Γ σ H (f ++ xt) → Kid K H L t x d f →
    (∀ L' σ', Own K E L' ms ts (B d Γ) σ' H xt → Ev ms ts L Γ σ H L' (B d Γ) σ' H → Q σ' H) → g x σ H Q
def RGks (K : PySem.W.Frag) (ms : List Md) (ts : List Ty) (g : TGs) (b : Ty) (B : den b → Gam ts → Gam ts) : Prop :=
  ∀ (E : Ent) (L : Reg) (Γ : Gam ts) (σ : St) (H : Hp) (xt : List Addr) (Q : St → Hp → Prop) (xs : List V) (d : den b) (f : List Addr), Own K E L ms ts Γ σ H (f ++ xt) → (rO K H L b).2 xs d f →
    (∀ L' σ', Own K E L' ms ts (B d Γ) σ' H xt → Ev ms ts L Γ σ H L' (B d Γ) σ' H → Q σ' H) → g xs σ H Q
def okTk (m : Md) (t : Ty) : Bool := match m with
  | .o => t.isOwn || t.frz
  | .l => true
  | .w => true
  | _ => false
theorem rgk_raw {t : Ty} (i : Mem ts t) {m : Md} (hm : ms[i.ix]? = some m) {x : V} {d : den t} {f : List Addr} (o : Own K E L ms ts Γ σ H (f ++ xt)) (hk : m = .l ∨ m = .w ∨ m = .o) (ho : m = .o → (rO K H L t).1 x d f) (hl : m ≠ .o → (rS K H (fun a => L a ∨ a ∈ f) t).1 x d) :
    ∃ L', Own K E L' ms ts (i.set (some d) Γ) (σ.set i.ix (some x)) H xt ∧ Ev ms ts L Γ σ H L' (i.set (some d) Γ) (σ.set i.ix (some x)) H := by
  obtain ⟨s0, f0, e1, e2, e3, e4, e5⟩ := o.focus i hm
  obtain ⟨_, _, nd, gd⟩ := o.ex
  have nd2 := List.nodup_append.mp (List.nodup_append.mp nd).2.1
  have gf : ∀ a ∈ f ++ xt, Good E L H a := fun a ha => gd a (List.mem_append_right _ ha)
  have hkf : m.fixd = false := by rcases hk with h | h | h <;> (subst h; rfl)
  have kp : KeepF ms ts Γ (i.set (some d) Γ) σ (σ.set i.ix (some x)) := keepF_set i hm hkf _ _
  rcases hk with h | h | h
  · subst h
    refine ⟨fun a => L a ∨ a ∈ f, e5 H _ (some d) (some x) [] xt (fun _ _ _ _ => rfl) (Stb.refl H) (fun _ h => .inl h) (fun a h => h.elim .inl fun z => .inr (.inr (.inl (List.mem_append_left _ z)))) (fun _ h => h) (fun a h => h.elim (o.lr a) fun z => ⟨(gf a (List.mem_append_left _ z)).new, (gf a (List.mem_append_left _ z)).at_⟩) ⟨x, rfl, rfl, hl (by decide)⟩ (by simpa using nd2.2.1) (fun a ha => ?_), ⟨fun _ h => .inl h, fun _ _ _ h => h, Stb.refl H, kp⟩⟩
    have ha : a ∈ xt := by simpa using ha
    exact ⟨.inr (.inl (List.mem_append_right _ ha)), fun z => z.elim (gf a (List.mem_append_right _ ha)).nl fun z => nd2.2.2 a z a ha rfl, (gf a (List.mem_append_right _ ha)).at_⟩
  · subst h
    refine ⟨fun a => L a ∨ a ∈ f, e5 H _ (some d) (some x) [] xt (fun _ _ _ _ => rfl) (Stb.refl H) (fun _ h => .inl h) (fun a h => h.elim .inl fun z => .inr (.inr (.inl (List.mem_append_left _ z)))) (fun _ h => h) (fun a h => h.elim (o.lr a) fun z => ⟨(gf a (List.mem_append_left _ z)).new, (gf a (List.mem_append_left _ z)).at_⟩) ⟨x, rfl, rfl, (rS_mono (Cov.of_reg fun a h _ => .inr h) (Stb.refl _) t).1 x d (hl (by decide))⟩ (by simpa using nd2.2.1) (fun a ha => ?_), ⟨fun _ h => .inl h, fun _ _ _ h => h, Stb.refl H, kp⟩⟩
    have ha : a ∈ xt := by simpa using ha
    exact ⟨.inr (.inl (List.mem_append_right _ ha)), fun z => z.elim (gf a (List.mem_append_right _ ha)).nl fun z => nd2.2.2 a z a ha rfl, (gf a (List.mem_append_right _ ha)).at_⟩
  · subst h
    refine ⟨L, e5 H L (some d) (some x) f xt (fun _ _ _ _ => rfl) (Stb.refl H) (fun _ h => h) (fun a h => .inl h) (fun _ h => h) (fun a h => o.lr a h) ⟨x, rfl, ho rfl⟩ (List.nodup_append.mp nd).2.1 (fun a ha => ⟨.inr (.inl ha), (gf a ha).nl, (gf a ha).at_⟩), ⟨fun _ h => h, fun _ _ _ h => h, Stb.refl H, kp⟩⟩
theorem okTk_kinds {m : Md} {t : Ty} (h : okTk m t = true) : m = .l ∨ m = .w ∨ m = .o := by
  cases m <;> first | exact .inl rfl | exact .inr (.inl rfl) | exact .inr (.inr rfl) | exact absurd h (by simp [okTk])
theorem rgk_name {t : Ty} (i : Mem ts t) {n : Nat} {m : Md} (hm : ms[i.ix]? = some m := by rfl) (hk : okTk m t = true := by rfl) (hn : i.ix = n := by rfl) : RGk K ms ts (gName n) t (bName i) := fun E L Γ σ H xt Q x d f o r q => by
  subst hn
  have r1 : (rS K H (fun a => L a ∨ a ∈ f) t).1 x d := kid_s (L := L) (fun _ h => .inl h) (fun h => (rO_s (fun _ h => .inl h) t).1 x d f (fun _ h => .inr h) h) r
  obtain ⟨L', o', ev⟩ := rgk_raw i hm o (okTk_kinds hk) (fun e => by
    subst e
    rcases r with r | ⟨ho, hf, r⟩
    · exact r
    · have hk : (t.isOwn || t.frz) = true := hk
      rw [ho, Bool.false_or] at hk
      rw [hf]
      exact (rS_o t hk).1 x d r) (fun _ => r1)
  exact q L' _ o' ev
theorem rgk_own {t : Ty} (i : Mem ts t) {n : Nat} {m : Md} (hm : ms[i.ix]? = some m := by rfl) (hk : okTk m (.own t) = true := by rfl) (hn : i.ix = n := by rfl) : RGk K ms ts (gName n) (.own t) (bName (t := t) i) := fun E L Γ σ H xt Q x d f o r q => by
  subst hn
  have r0 : (rO K H L t).1 x d f := by
    rcases r with r | ⟨ho, _, _⟩
    · exact r
    · cases ho
  obtain ⟨L', o', ev⟩ := rgk_raw i hm o (okTk_kinds hk) (fun _ => r0) (fun _ => (rO_s (fun _ h => .inl h) t).1 x d f (fun _ h => .inr h) r0)
  exact q L' _ o' ev
theorem rgks_one {t : Ty} {g : TG} {B : den t → Gam ts → Gam ts} (h : RGk K ms ts g t B) : RGks K ms ts (gCons g gNil) (.last t) B := fun E L Γ σ H xt Q xs d f o r q => by
  obtain ⟨v, rfl, r⟩ := r
  exact ⟨v, [], rfl, h E L Γ σ H xt _ v d f o r fun L' σ' o' e' => ⟨rfl, q L' σ' o' e'⟩⟩
theorem rgks_cons {t b : Ty} {g : TG} {gs : TGs} {B : den t → Gam ts → Gam ts} {B' : den b → Gam ts → Gam ts} (h : RGk K ms ts g t B) (h' : RGks K ms ts gs b B') : RGks K ms ts (gCons g gs) (.cons t b) (bCons B B') := fun E L Γ σ H xt Q xs d f o r q => by
  obtain ⟨v, vs, f1, f2, rfl, rfl, r1, r2⟩ := r
  refine ⟨v, vs, rfl, h E L Γ σ H (f2 ++ xt) _ v d.1 f1 (by rw [← List.append_assoc]; exact o) r1 fun L' σ' o' e' => ?_⟩
  exact h' E L' (B d.1 Γ) σ' H xt Q vs d.2 f2 o' ((rO_mono (Cov.of_reg fun a h _ => e'.sub a h) (Stb.refl H) b).2 vs d.2 f2 (fun _ _ => rfl) r2) fun L2 σ2 o2 e2 => q L2 σ2 o2 (e'.trans e2)
theorem rO_len : ∀ (b : Ty) {vs : List V} {d : den b} {f : List Addr}, (rO K H L b).2 vs d f → vs.length = rowLen b
  | .last a, _, _, _, h => by
    obtain ⟨v, rfl, _⟩ := h
    rfl
  | .cons a b, _, _, _, h => by
    obtain ⟨v, r, f1, f2, rfl, _, _, h2⟩ := h
    have := rO_len b h2
    simp [rowLen, this]
  | .non, _, _, _, h => h.elim
  | .bool, _, _, _, h => h.elim
  | .int, _, _, _, h => h.elim
  | .str, _, _, _, h => h.elim
  | .any, _, _, _, h => h.elim
  | .opt _, _, _, _, h => h.elim
  | .vtup _, _, _, _, h => h.elim
  | .list _, _, _, _, h => h.elim
  | .dict _ _, _, _, _, h => h.elim
  | .own t, vs, d, f, h => rO_len t h
  | .hl _, _, _, _, h => h.elim
  | .tup _, _, _, _, h => h.elim
/-- a, b = .. of an owned list of unlike items, or an owned tuple -/
theorem rs_unhX {b : Ty} {te : TE} {gs : TGs} {n : Nat} {F : Gam ts → Option (den b × Gam ts)} {B : den b → Gam ts → Gam ts} (h : RX K ms ts te (.hl b) F) (hg : RGks K ms ts gs b B) (hn : rowLen b = n := by rfl) : RS K ms ts (tAsg te (gUnl K n gs)) rm ρ (sAsgE F B) := fun E L Γ σ H D f o e p => by
  obtain ⟨⟨d, Γ1⟩, e1, e2⟩ := bind_some e
  cases e2
  refine h E L Γ σ H [] _ d Γ1 o e1 fun v L1 H1 f1 o1 ev1 _ r1 => ?_
  obtain ⟨a, vs, g, rfl, rfl, h1, h2⟩ := r1
  refine ⟨a, vs, rfl, .inl (.inl h1), (rO_len b h2).trans hn, ?_⟩
  refine hg E L1 Γ1 σ H1 [] _ vs d g (o1.subx (by simp)) h2 fun L2 σ2 o2 ev2 => p L2 σ2 H1 o2 (ev1.trans ev2)
theorem rs_untX {b : Ty} {te : TE} {gs : TGs} {n : Nat} {F : Gam ts → Option (den b × Gam ts)} {B : den b → Gam ts → Gam ts} (h : RX K ms ts te (.tup b) F) (hg : RGks K ms ts gs b B) (hn : rowLen b = n := by rfl) : RS K ms ts (tAsg te (gTup K n gs)) rm ρ (sAsgE F B) := fun E L Γ σ H D f o e p => by
  obtain ⟨⟨d, Γ1⟩, e1, e2⟩ := bind_some e
  cases e2
  refine h E L Γ σ H [] _ d Γ1 o e1 fun v L1 H1 f1 o1 ev1 _ r1 => ?_
  obtain ⟨a, vs, rfl, h1, h2⟩ := r1
  refine ⟨a, vs, rfl, .of h1, (rO_len b h2).trans hn, ?_⟩
  refine hg E L1 Γ1 σ H1 [] _ vs d f1 o1 h2 fun L2 σ2 o2 ev2 => p L2 σ2 H1 o2 (ev1.trans ev2)
/-- a list of unlike items that is only looked at -/
theorem rp_hlb {b : Ty} {ta : TA} {F : Gam ts → Option (den b)} (h : RA K ms ts ta .b b F) (hs : rowSmall b = true := by rfl) : RP K ms ts (tLst ta) .b (.hl b) F := fun E L Γ σ H xt Q d o e q => by
  refine h E L Γ σ H xt _ d o e fun vs H1 s1 r1 => ⟨?_, fun l hl => ?_⟩
  · rw [r1.len]
    exact line_1000 (of_decide_eq_true hs)
  · have s2 : Same H1 (upd H1 l (.lst vs)) := same_new hl
    refine q _ _ (s1.trans s2) ?_
    have r1 : (rS K H1 (fun _ => True) b).2 vs d := r1
    exact ⟨l, vs, rfl, .inl ⟨True.intro, by rw [upd_same]; rfl⟩, (rS_mono (Cov.of_same s2 fun _ _ _ => True.intro) (Stb.of_same s2) b).2 vs d r1⟩
/-- a target that takes what a def hands back of what was handed in -/
theorem rs_asgEw {t : Ty} {te : TE} {g : TG} {F : Gam ts → Option (den t × Gam ts)} {B : den t → Gam ts → Gam ts} (h : RE K ms ts te .w t F) (hg : RG K ms ts g true t B) : RS K ms ts (tAsg te g) rm ρ (sAsgE F B) := fun E L Γ σ H D f o e p => by
  obtain ⟨⟨d, Γ'⟩, e1, e2⟩ := bind_some e
  cases e2
  refine h E L Γ σ H _ d Γ' o e1 fun v L' H1 xt o1 ev1 r1 => ?_
  obtain ⟨rfl, r1⟩ := r1
  exact hg E L' Γ' σ H1 _ v d o1 r1 fun σ' o' e' => p L' σ' H1 o' (ev1.trans e')
end
end VV

/-! VMore34: stores with effects, tests with effects. -/
namespace VV
open PySem L2
open PyProof.Rows hiding St
section
variable {K : PySem.W.Frag} {E : Ent} {ms ms' : List Md} {ts : List Ty} {L L1 : Reg} {Γ Γ1 : Gam ts} {σ σ1 : St} {H H' H0 H1 H2 : Hp} {xt : List Addr} {rm : Rm} {ρ : Ty}
/-- xs[i] = e, both with effects -/
def sLputX {ρ : Type} {ts : List Ty} {t : Ty} (i : Mem ts (.list t)) (F : Gam ts → Option (den t × Gam ts)) (G : Gam ts → Option (Int × Gam ts)) : Gam ts → Option (Fl (Gam ts) ρ) := fun Γ => (F Γ).bind fun p => (i.get p.2).bind fun _ => (G p.2).bind fun q => (i.get q.2).bind fun xs => (ixN xs.length q.1).bind fun j => some (.nx (i.set (some (xs.set j p.1)) q.2))
theorem rs_lputX {t : Ty} (i : Mem ts (.list t)) {n : Nat} {te ti : TE} {F : Gam ts → Option (den t × Gam ts)} {G : Gam ts → Option (Int × Gam ts)} (h : RX K ms ts te t F) (h' : RX K ms ts ti .int G) (hf : t.frz = true := by rfl) {mo : Md} (hm : ms[i.ix]? = some mo := by rfl) (ho : mo.own = true := by rfl) (hn : i.ix = n := by rfl) :
    RS K ms ts (tAsg te (gSub (tVar n) ti rSetL)) rm ρ (sLputX i F G) := fun E L Γ σ H D f o e p => by
  subst hn
  obtain ⟨⟨d, Γ1⟩, e1, e⟩ := bind_some e
  obtain ⟨xs0, e2, e⟩ := bind_some e
  obtain ⟨⟨k, Γ2⟩, e3, e⟩ := bind_some e
  obtain ⟨xs, e4, e⟩ := bind_some e
  obtain ⟨j, e5, e⟩ := bind_some e
  cases e
  refine h E L Γ σ H [] _ d Γ1 o e1 fun v L1 H1 f1 o1 ev1 _ r1 => ?_
  obtain ⟨rfl, rv⟩ := (rO_frz (R := fun _ => True) t hf).1 v d f1 r1
  have o1 : Own K E L1 ms ts Γ1 σ H1 [] := by simpa using o1
  obtain ⟨a0, vs0, g0, q0, hl0, _⟩ := o1.lst i hm ho e2
  refine ⟨_, q0, h' E L1 Γ1 σ H1 [] _ k Γ2 o1 e3 fun w L2 H2 f2 o2 ev2 _ r2 => ?_⟩
  have hw : w = .int k := r2.2
  have hf2 : f2 = [] := r2.1
  subst hf2
  subst hw
  have o2 : Own K E L2 ms ts Γ2 σ H2 [] := by simpa using o2
  obtain ⟨a, vs, g, q1, hl, hk, hnd, gd, go⟩ := o2.lst i hm ho e4
  rw [q0] at q1
  cases q1
  have hv := kids_s hk
  refine ⟨_, vs, k, j, rfl, rfl, hl, by rw [hv.length]; exact e5, ?_⟩
  have r3 : (rS K H2 (fun _ => True) t).1 v d := rS_stb hf ev2.stb rv
  have hv2 : F2 (rS K H2 (fun _ => True) t).1 vs xs := hv
  obtain ⟨o', ev⟩ := go H2 [] (fun _ => False) (vs.set j v) (xs.set j d) [] (Same.refl H2) (fun a h => by simp at h) (fun a h => h.elim) (fun a h => by simp at h) (kids_frz hf (F2.set r3 j hv2)) List.nodup_nil (fun a h => by simp at h)
  exact p _ σ _ o' ((ev1.trans ev2).trans ev)
/-- a test with effects -/
def RXT (K : PySem.W.Frag) (ms : List Md) (ts : List Ty) (tt : TT) (F : Gam ts → Option (Bool × Gam ts)) : Prop :=
  ∀ (E : Ent) (L : Reg) (Γ : Gam ts) (σ : St) (H : Hp) (Q : Bool → Hp → Prop) (c : Bool) (Γ' : Gam ts), Own K E L ms ts Γ σ H [] → F Γ = some (c, Γ') →
    (∀ L' H', Own K E L' ms ts Γ' σ H' [] → Ev ms ts L Γ σ H L' Γ' σ H' → Q c H') → tt σ H Q
theorem rxt_val {te : TE} {F : Gam ts → Option (Bool × Gam ts)} (h : RX K ms ts te .bool F) : RXT K ms ts (tB te) F := fun E L Γ σ H Q c Γ' o e q =>
  h E L Γ σ H [] _ c Γ' o e fun v L1 H1 f1 o1 ev1 _ r1 => ⟨c, r1.2, q L1 H1 (o1.subx (by simp)) ev1⟩
theorem rxt_test {te : TE} {F : Gam ts → Option (Bool × Gam ts)} (h : RX K ms ts te .bool F) : RXT K ms ts (tTest te) F := rxt_val h
theorem rxt_pure {tt : TT} {F : Gam ts → Option Bool} (h : RT K ms ts tt F) : RXT K ms ts tt (ePure F) := fun E L Γ σ H Q c Γ' o e q => by
  obtain ⟨d', e1, e2⟩ := bind_some e
  cases e2
  exact h E L Γ σ H [] _ c o e1 fun H1 s1 => q L H1 (o.same s1) (Ev.same s1)
theorem rxt_and {ta tb : TT} {A B : Gam ts → Option (Bool × Gam ts)} (ha : RXT K ms ts ta A) (hb : RXT K ms ts tb B) : RXT K ms ts (tAnd ta tb) (eXAnd A B) := fun E L Γ σ H Q c Γ' o e q => by
  obtain ⟨⟨a, Γ1⟩, ea, e⟩ := bind_some e
  refine ha E L Γ σ H _ a Γ1 o ea fun L1 H1 o1 ev1 => ?_
  cases a with
  | true => exact hb E L1 Γ1 σ H1 _ c Γ' o1 e fun L2 H2 o2 ev2 => q L2 H2 o2 (ev1.trans ev2)
  | false =>
    cases e
    exact q L1 H1 o1 ev1
theorem rxt_or {ta tb : TT} {A B : Gam ts → Option (Bool × Gam ts)} (ha : RXT K ms ts ta A) (hb : RXT K ms ts tb B) : RXT K ms ts (tOr ta tb) (eXOr A B) := fun E L Γ σ H Q c Γ' o e q => by
  obtain ⟨⟨a, Γ1⟩, ea, e⟩ := bind_some e
  refine ha E L Γ σ H _ a Γ1 o ea fun L1 H1 o1 ev1 => ?_
  cases a with
  | false => exact hb E L1 Γ1 σ H1 _ c Γ' o1 e fun L2 H2 o2 ev2 => q L2 H2 o2 (ev1.trans ev2)
  | true =>
    cases e
    exact q L1 H1 o1 ev1
def eXNot {G : Type} (A : G → Option (Bool × G)) : G → Option (Bool × G) := fun Γ => (A Γ).bind fun p => some (!p.1, p.2)
theorem rxt_not {ta : TT} {A : Gam ts → Option (Bool × Gam ts)} (ha : RXT K ms ts ta A) : RXT K ms ts (tNot ta) (eXNot A) := fun E L Γ σ H Q c Γ' o e q => by
  obtain ⟨⟨a, Γ1⟩, ea, e⟩ := bind_some e
  cases e
  exact ha E L Γ σ H _ a Γ1 o ea fun L1 H1 o1 ev1 => q L1 H1 o1 ev1
theorem rs_ifX {tt : TT} {t u : TS} {c : Gam ts → Option (Bool × Gam ts)} {F F' : Gam ts → Option (Fl (Gam ts) (den ρ))} (hc : RXT K ms ts tt c) (h : RS K ms ts t rm ρ F) (h' : RS K ms ts u rm ρ F') : RS K ms ts (tIfS tt t u) rm ρ (sIfE c F F') := fun E L Γ σ H D f o e p => by
  obtain ⟨⟨b, Γ1⟩, e1, e2⟩ := bind_some e
  refine hc E L Γ σ H _ b Γ1 o e1 fun L1 H1 o1 ev1 => ?_
  cases b with
  | true =>
    rw [if_pos rfl] at e2 ⊢
    exact h E L1 Γ1 σ H1 D f o1 e2 (p.later ev1)
  | false =>
    rw [if_neg Bool.false_ne_true] at e2 ⊢
    exact h' E L1 Γ1 σ H1 D f o1 e2 (p.later ev1)
end
end VV

/-! VPure: tools for the plain laws about mirrors. -/
namespace VV
open PySem L2

/-! ### loops -/
theorem forL_inv {G ρ α : Type} {bind : α → G → G} {mask : G → G} {body : G → Option (Fl G ρ)} (I : List α → G → Prop) : ∀ (xs pre : List α) (Γ : G), I pre Γ →
    (∀ p x q Γ, pre ++ xs = p ++ x :: q → I p Γ → ∃ Γ', (body (bind x Γ) = some (.nx Γ') ∨ body (bind x Γ) = some (.ct Γ')) ∧ I (p ++ [x]) (mask Γ')) → ∃ Γ', forL bind mask body xs Γ = some (.nx Γ') ∧ I (pre ++ xs) Γ'
  | [], pre, Γ, h, _ => ⟨Γ, rfl, by simpa using h⟩
  | x :: xs, pre, Γ, h, hs => by
    obtain ⟨Γ', e, h'⟩ := hs pre x xs Γ rfl h
    obtain ⟨Γ2, e2, h2⟩ := forL_inv I xs (pre ++ [x]) (mask Γ') h' fun p y q Γ e => hs p y q Γ (by rw [← e]; simp)
    refine ⟨Γ2, ?_, by simpa using h2⟩
    rcases e with e | e
    · rw [forL, e]; exact e2
    · rw [forL, e]; exact e2
/-- a loop whose turns are known: the state by a letter s -/
theorem forL_fold {G ρ α S : Type} {bind : α → G → G} {mask : G → G} {body : G → Option (Fl G ρ)} (st : S → G) (step : S → α → S) : ∀ (xs : List α) (s : S), (∀ s x, x ∈ xs → ∃ Γ', body (bind x (st s)) = some (.nx Γ') ∧ mask Γ' = st (step s x)) →
    forL bind mask body xs (st s) = some (.nx (st (xs.foldl step s)))
  | [], s, _ => rfl
  | x :: xs, s, h => by
    obtain ⟨Γ', e, e'⟩ := h s x List.mem_cons_self
    rw [forL, e]
    show forL bind mask body xs (mask Γ') = _
    rw [e']
    exact forL_fold st step xs (step s x) fun s y hy => h s y (List.mem_cons_of_mem _ hy)
/-- a search: a turn goes on, or hands back -/
theorem forL_find {G ρ α : Type} {bind : α → G → G} {mask : G → G} {body : G → Option (Fl G ρ)} {Γ : G} (r : α → Option ρ) : ∀ (xs : List α), (∀ x ∈ xs, (r x = none ∧ ∃ Γ', body (bind x Γ) = some (.nx Γ') ∧ mask Γ' = Γ) ∨ ∃ d Γ', r x = some d ∧ body (bind x Γ) = some (.rt d Γ')) →
    (xs.findSome? r = none → forL bind mask body xs Γ = some (.nx Γ)) ∧ ∀ d, xs.findSome? r = some d → ∃ Γ', forL bind mask body xs Γ = some (.rt d Γ')
  | [], _ => ⟨fun _ => rfl, fun d h => by simp at h⟩
  | x :: xs, h => by
    have ih := forL_find r xs fun y hy => h y (List.mem_cons_of_mem _ hy)
    rcases h x List.mem_cons_self with ⟨h1, Γ', e, e'⟩ | ⟨d, Γ', h1, e⟩
    · rw [List.findSome?_cons, h1, forL, e]
      show (_ → forL bind mask body xs (mask Γ') = _) ∧ ∀ d, _ → ∃ Γ', forL bind mask body xs (mask _) = _
      rw [e']
      exact ih
    · rw [List.findSome?_cons, h1, forL, e]
      exact ⟨fun h => by simp at h, fun d' h => ⟨Γ', by cases h; rfl⟩⟩

theorem sFor_inv {G ρ α : Type} {F : G → Option (List α)} {bind : α → G → G} {mask : G → G} {body : G → Option (Fl G ρ)} {Γ : G} {xs : List α} (I : List α → G → Prop) (hF : F Γ = some xs) (h0 : I [] (mask Γ))
    (hs : ∀ p x q Γ, xs = p ++ x :: q → I p Γ → ∃ Γ', (body (bind x Γ) = some (.nx Γ') ∨ body (bind x Γ) = some (.ct Γ')) ∧ I (p ++ [x]) (mask Γ')) : ∃ Γ', sFor F bind mask body Γ = some (.nx Γ') ∧ I xs Γ' := by
  unfold sFor
  rw [hF]
  exact forL_inv I xs [] (mask Γ) h0 hs
theorem sFor_fold {G ρ α S : Type} {F : G → Option (List α)} {bind : α → G → G} {mask : G → G} {body : G → Option (Fl G ρ)} {Γ : G} {xs : List α} (st : S → G) (step : S → α → S) (s : S) (hF : F Γ = some xs) (h0 : mask Γ = st s)
    (hs : ∀ s x, x ∈ xs → ∃ Γ', body (bind x (st s)) = some (.nx Γ') ∧ mask Γ' = st (step s x)) : sFor F bind mask body Γ = some (.nx (st (xs.foldl step s))) := by
  unfold sFor
  rw [hF]
  show forL bind mask body xs (mask Γ) = _
  rw [h0]
  exact forL_fold st step xs s hs
theorem sFor_find {G ρ α : Type} {F : G → Option (List α)} {bind : α → G → G} {mask : G → G} {body : G → Option (Fl G ρ)} {Γ Γ0 : G} {xs : List α} (r : α → Option ρ) (hF : F Γ = some xs) (h0 : mask Γ = Γ0)
    (hs : ∀ x ∈ xs, (r x = none ∧ ∃ Γ', body (bind x Γ0) = some (.nx Γ') ∧ mask Γ' = Γ0) ∨ ∃ d Γ', r x = some d ∧ body (bind x Γ0) = some (.rt d Γ')) :
    (xs.findSome? r = none → sFor F bind mask body Γ = some (.nx Γ0)) ∧ ∀ d, xs.findSome? r = some d → ∃ Γ', sFor F bind mask body Γ = some (.rt d Γ') := by
  unfold sFor
  rw [hF]
  subst h0
  exact forL_find r xs hs
/-- every turn goes on -/
theorem sFor_all {G ρ α : Type} {F : G → Option (List α)} {bind : α → G → G} {mask : G → G} {body : G → Option (Fl G ρ)} {Γ Γ0 : G} {xs : List α} (hF : F Γ = some xs) (h0 : mask Γ = Γ0)
    (hs : ∀ x ∈ xs, ∃ Γ', body (bind x Γ0) = some (.nx Γ') ∧ mask Γ' = Γ0) : sFor F bind mask body Γ = some (.nx Γ0) :=
  (sFor_find (fun _ => none) hF h0 fun x hx => .inl ⟨rfl, hs x hx⟩).1 (by
    rw [List.findSome?_eq_none_iff]
    exact fun _ _ => rfl)
theorem sSeq_nx {G ρ : Type} {F F' : G → Option (Fl G ρ)} {Γ Γ' : G} (h : F Γ = some (.nx Γ')) : sSeq F F' Γ = F' Γ' := by
  unfold sSeq
  rw [h]
  rfl
theorem sSeq_rt {G ρ : Type} {F F' : G → Option (Fl G ρ)} {Γ Γ' : G} {d : ρ} (h : F Γ = some (.rt d Γ')) : sSeq F F' Γ = some (.rt d Γ') := by
  unfold sSeq
  rw [h]
  rfl
theorem rng_split {n : Nat} {p q : List Int} {x : Int} (h : rng 0 (n : Int) = p ++ x :: q) : p.length < n ∧ x = (p.length : Int) := by
  have h1 := congrArg List.length h
  rw [rng_len] at h1
  simp only [List.length_append, List.length_cons] at h1
  have h2 : p.length < n := by omega
  have h3 := rng_get (lo := 0) (hi := (n : Int)) (i := p.length) (by omega)
  rw [h] at h3
  simp at h3
  exact ⟨h2, h3⟩
theorem fRng1_of {n : Nat} (h : n < 2 ^ 60) : fRng1 (n : Int) = some (rng 0 n) := by
  unfold fRng1 okIf
  rw [if_pos (decide_eq_true (by omega))]

/-! ### numbers -/
theorem mulOk_of {i j : Int} (a b : Nat) (ha : i.natAbs < 2 ^ a) (hb : j.natAbs < 2 ^ b) (h : a + b ≤ 999998) : mulOk i j = true := by
  refine decide_eq_true ?_
  have h1 : i.natAbs.log2 < a + 1 := PySem.Flt.log2_lt_of (Nat.succ_pos a) (Nat.lt_of_lt_of_le ha (Nat.pow_le_pow_right (by decide) (Nat.le_succ a)))
  have h2 : j.natAbs.log2 < b + 1 := PySem.Flt.log2_lt_of (Nat.succ_pos b) (Nat.lt_of_lt_of_le hb (Nat.pow_le_pow_right (by decide) (Nat.le_succ b)))
  omega
theorem divOk_of {j : Int} (b : Nat) (h : 0 < j) (hb : j.natAbs < 2 ^ b) (hb' : b ≤ 8999) : divOk j = true := by
  refine decide_eq_true ⟨h, ?_⟩
  have h2 : j.natAbs.log2 < b + 1 := PySem.Flt.log2_lt_of (Nat.succ_pos b) (Nat.lt_of_lt_of_le hb (Nat.pow_le_pow_right (by decide) (Nat.le_succ b)))
  omega
theorem abs_mul {i j : Int} {a b : Nat} (ha : i.natAbs < 2 ^ a) (hb : j.natAbs < 2 ^ b) : (i * j).natAbs < 2 ^ (a + b) := wide_lt ha hb
theorem abs_add {i j : Int} {a : Nat} (ha : i.natAbs < 2 ^ a) (hb : j.natAbs < 2 ^ a) : (i + j).natAbs < 2 ^ (a + 1) := by
  have h1 := Int.natAbs_add_le i j
  have : 2 ^ (a + 1) = 2 ^ a + 2 ^ a := by rw [Nat.pow_succ]; omega
  omega
theorem abs_le {i : Int} {a b : Nat} (h : i.natAbs < 2 ^ a) (hab : a ≤ b) : i.natAbs < 2 ^ b := Nat.lt_of_lt_of_le h (Nat.pow_le_pow_right (by decide) hab)
theorem abs_mod {i j : Int} {b : Nat} (h : 0 < j) (hb : j.natAbs < 2 ^ b) : (i % j).natAbs < 2 ^ b := by
  have h1 := Int.emod_nonneg i (Int.ne_of_gt h)
  have h2 := Int.emod_lt_of_pos i h
  omega
theorem okIf_true {α : Type} {c : Bool} {a : α} (h : c = true) : okIf c a = some a := by rw [h]; rfl

/-! ### one sign in a text -/
theorem fInS_one (x : Str) (c : Nat) : fInS ⟨#[c]⟩ x = some (decide (c ∈ x.cps.toList)) := congrArg some (StrLaws.found_one x c)


/-! ### == is equality -/
def Ty.isRow : Ty → Bool
  | .last _ => true
  | .cons _ _ => true
  | _ => false
/-- never None -/
def Ty.nn : Ty → Bool
  | .non => false
  | .opt _ => false
  | .any => false
  | .own t => !t.isRow && t.nn
  | _ => true
/-- == is equality -/
def Ty.inj : Ty → Bool
  | .any => false
  | .dict _ _ => false
  | .opt t => !t.isRow && (t.nn && t.inj)
  | .vtup t => !t.isRow && t.inj
  | .list t => !t.isRow && t.inj
  | .own t => !t.isRow && t.inj
  | .hl b => b.isRow && b.inj
  | .tup b => b.isRow && b.inj
  | .last a => !a.isRow && a.inj
  | .cons a b => !a.isRow && (a.inj && (b.isRow && b.inj))
  | _ => true
theorem nn_emb : ∀ (t : Ty), t.nn = true → t.isRow = false → ∀ a : den t, (emb t).1 a ≠ .none
  | .bool, _, _, a => by simp [emb]
  | .int, _, _, a => by simp [emb]
  | .str, _, _, a => by simp [emb]
  | .vtup _, _, _, a => by simp [emb]
  | .list _, _, _, a => by simp [emb]
  | .dict _ _, _, _, a => by simp [emb]
  | .own t, h, _, a => by
    simp only [Ty.nn, Bool.and_eq_true, Bool.not_eq_true'] at h
    exact nn_emb t h.2 h.1 a
  | .tup _, _, _, a => by simp [emb]
  | .hl _, _, _, a => by simp [emb]
  | .non, h, _, _ => by cases h
  | .opt _, h, _, _ => by cases h
  | .any, h, _, _ => by cases h
theorem eqvAll_map_iff {α : Type} {f : α → PyData} (h : ∀ a b : α, PyData.eqv (f a) (f b) = true ↔ a = b) : ∀ xs ys : List α, PyData.eqvAll (xs.map f) (ys.map f) = true ↔ xs = ys
  | [], [] => by simp [PyData.eqvAll]
  | [], _ :: _ => by simp [PyData.eqvAll]
  | _ :: _, [] => by simp [PyData.eqvAll]
  | x :: xs, y :: ys => by
    simp only [List.map_cons, PyData.eqvAll, Bool.and_eq_true, h x y, eqvAll_map_iff h xs ys, List.cons.injEq]
theorem eqv_none : ∀ {p : PyData}, p ≠ .none → PyData.eqv .none p = false ∧ PyData.eqv p .none = false := fun {p} h => by
  cases p <;> first | exact absurd rfl h | exact ⟨rfl, rfl⟩
theorem eqv_iff : ∀ t : Ty, t.inj = true → (t.isRow = false → ∀ a b : den t, PyData.eqv ((emb t).1 a) ((emb t).1 b) = true ↔ a = b) ∧ (t.isRow = true → ∀ a b : den t, PyData.eqvAll ((emb t).2 a) ((emb t).2 b) = true ↔ a = b) := by
  intro t
  induction t with
  | non => exact fun _ => ⟨fun _ a b => by simp [emb, PyData.eqv], fun h => by cases h⟩
  | bool => exact fun _ => ⟨fun _ a b => by simp [emb, PyData.eqv], fun h => by cases h⟩
  | int => exact fun _ => ⟨fun _ a b => by simp [emb, PyData.eqv], fun h => by cases h⟩
  | str => exact fun _ => ⟨fun _ a b => by simp [emb, PyData.eqv], fun h => by cases h⟩
  | any => exact fun h => by cases h
  | dict _ _ => exact fun h => by cases h
  | opt t ih =>
    intro q
    simp only [Ty.inj, Bool.and_eq_true, Bool.not_eq_true'] at q
    refine ⟨fun _ a b => ?_, fun h => by cases h⟩
    have h1 := (ih q.2.2).1 q.1
    cases a with
    | none =>
      cases b with
      | none => simp [emb, PyData.eqv]
      | some y => simp [emb, (eqv_none (nn_emb t q.2.1 q.1 y)).1]
    | some x =>
      cases b with
      | none => simp [emb, (eqv_none (nn_emb t q.2.1 q.1 x)).2]
      | some y => simpa [emb] using h1 x y
  | vtup t ih =>
    intro q
    simp only [Ty.inj, Bool.and_eq_true, Bool.not_eq_true'] at q
    exact ⟨fun _ a b => by simpa [emb, PyData.eqv] using eqvAll_map_iff ((ih q.2).1 q.1) a b, fun h => by cases h⟩
  | list t ih =>
    intro q
    simp only [Ty.inj, Bool.and_eq_true, Bool.not_eq_true'] at q
    exact ⟨fun _ a b => by simpa [emb, PyData.eqv] using eqvAll_map_iff ((ih q.2).1 q.1) a b, fun h => by cases h⟩
  | own t ih =>
    intro q
    simp only [Ty.inj, Bool.and_eq_true, Bool.not_eq_true'] at q
    exact ⟨fun _ => (ih q.2).1 q.1, fun h => by cases h⟩
  | tup b ih =>
    intro q
    simp only [Ty.inj, Bool.and_eq_true] at q
    exact ⟨fun _ a b' => by simpa [emb, PyData.eqv] using (ih q.2).2 q.1 a b', fun h => by cases h⟩
  | hl b ih =>
    intro q
    simp only [Ty.inj, Bool.and_eq_true] at q
    exact ⟨fun _ a b' => by simpa [emb, PyData.eqv] using (ih q.2).2 q.1 a b', fun h => by cases h⟩
  | last a ih =>
    intro q
    simp only [Ty.inj, Bool.and_eq_true, Bool.not_eq_true'] at q
    exact ⟨fun h => (by cases h), fun _ x y => (by simpa [emb, PyData.eqvAll] using (ih q.2).1 q.1 x y)⟩
  | cons a b iha ihb =>
    intro q
    simp only [Ty.inj, Bool.and_eq_true, Bool.not_eq_true'] at q
    refine ⟨fun h => (by cases h), fun _ x y => ?_⟩
    have h1 := (iha q.2.1).1 q.1 x.1 y.1
    have h2 := (ihb q.2.2.2).2 q.2.2.1 x.2 y.2
    simp only [emb, PyData.eqvAll, Bool.and_eq_true, h1, h2]
    exact ⟨fun h => Prod.ext h.1 h.2, fun h => by rw [h]; exact ⟨rfl, rfl⟩⟩
def okEq (t : Ty) : Bool := !t.isRow && t.inj
theorem eqv_eq {t : Ty} (h : okEq t = true) (a b : den t) : PyData.eqv ((emb t).1 a) ((emb t).1 b) = true ↔ a = b := by
  simp only [okEq, Bool.and_eq_true, Bool.not_eq_true'] at h
  exact (eqv_iff t h.2).1 h.1 a b
open Classical in
theorem fEqD_eq {t : Ty} (h : okEq t = true) (a b : den t) : fEqD t a b = some (decide (a = b)) := by
  unfold fEqD
  congr 1
  rw [Bool.eq_iff_iff, eqv_eq h, decide_eq_true_iff]
open Classical in
theorem fNeD_eq {t : Ty} (h : okEq t = true) (a b : den t) : fNeD t a b = some (!decide (a = b)) := by
  unfold fNeD
  rw [show PyData.eqv ((emb t).1 a) ((emb t).1 b) = decide (a = b) from by rw [Bool.eq_iff_iff, eqv_eq h, decide_eq_true_iff]]
open Classical in
theorem fEqD_same {t : Ty} (h : okEq t = true) (a : den t) : fEqD t a a = some true := by
  rw [fEqD_eq h, decide_eq_true rfl]
open Classical in
theorem fNeD_same {t : Ty} (h : okEq t = true) (a : den t) : fNeD t a a = some false := by
  rw [fNeD_eq h, decide_eq_true rfl]
  rfl
open Classical in
theorem fEqD_ne {t : Ty} (h : okEq t = true) {a b : den t} (hn : a ≠ b) : fEqD t a b = some false := by
  rw [fEqD_eq h, decide_eq_false hn]
open Classical in
theorem fNeD_ne {t : Ty} (h : okEq t = true) {a b : den t} (hn : a ≠ b) : fNeD t a b = some true := by
  rw [fNeD_eq h, decide_eq_false hn]
  rfl
open Classical in
theorem fInD_eq {t : Ty} (h : okEq t = true) (a : den t) (b : List (den t)) : fInD t a b = some (decide (a ∈ b)) := by
  unfold fInD
  congr 1
  rw [Bool.eq_iff_iff, List.any_eq_true, decide_eq_true_iff]
  constructor
  · rintro ⟨x, hx, e⟩
    rw [eqv_eq h] at e
    exact e ▸ hx
  · exact fun hx => ⟨a, hx, (eqv_eq h a a).mpr rfl⟩
open Classical in
theorem fNotInD_eq {t : Ty} (h : okEq t = true) (a : den t) (b : List (den t)) : fNotInD t a b = some (!decide (a ∈ b)) := by
  have := fInD_eq h a b
  unfold fInD at this
  unfold fNotInD
  rw [Option.some.inj this]
open Classical in
theorem fInD_mem {t : Ty} (h : okEq t = true) {a : den t} {b : List (den t)} (hm : a ∈ b) : fInD t a b = some true := by
  rw [fInD_eq h, decide_eq_true hm]
open Classical in
theorem fInD_not {t : Ty} (h : okEq t = true) {a : den t} {b : List (den t)} (hm : a ∉ b) : fInD t a b = some false := by
  rw [fInD_eq h, decide_eq_false hm]
open Classical in
theorem fNotInD_mem {t : Ty} (h : okEq t = true) {a : den t} {b : List (den t)} (hm : a ∈ b) : fNotInD t a b = some false := by
  rw [fNotInD_eq h, decide_eq_true hm]
  rfl
open Classical in
theorem fNotInD_not {t : Ty} (h : okEq t = true) {a : den t} {b : List (den t)} (hm : a ∉ b) : fNotInD t a b = some true := by
  rw [fNotInD_eq h, decide_eq_false hm]
  rfl
/-! ### comprehensions, slices, searches -/
theorem lcL_all {G α β : Type} {bind : α → G → G} {elt : G → Option β} {Γ : G} (f : α → β) : ∀ (xs : List α), (∀ x ∈ xs, elt (bind x Γ) = some (f x)) → lcL bind eYes elt Γ xs = some (xs.map f)
  | [], _ => rfl
  | x :: xs, h => by
    show (some true).bind _ = _
    rw [Option.bind_some, if_pos rfl, h x List.mem_cons_self, Option.bind_some, lcL_all f xs fun y hy => h y (List.mem_cons_of_mem _ hy)]
    rfl
theorem lcL_filter {G α β : Type} {bind : α → G → G} {cond : G → Option Bool} {elt : G → Option β} {Γ : G} (c : α → Bool) (f : α → β) : ∀ (xs : List α), (∀ x ∈ xs, cond (bind x Γ) = some (c x)) → (∀ x ∈ xs, c x = true → elt (bind x Γ) = some (f x)) → lcL bind cond elt Γ xs = some ((xs.filter c).map f)
  | [], _, _ => rfl
  | x :: xs, h, h' => by
    have ih := lcL_filter c f xs (fun y hy => h y (List.mem_cons_of_mem _ hy)) fun y hy => h' y (List.mem_cons_of_mem _ hy)
    show (cond (bind x Γ)).bind _ = _
    rw [h x List.mem_cons_self, Option.bind_some]
    cases hc : c x with
    | true => rw [if_pos rfl, h' x List.mem_cons_self hc, Option.bind_some, ih, List.filter_cons_of_pos hc]; rfl
    | false => rw [if_neg Bool.false_ne_true, ih, List.filter_cons_of_neg (by simp [hc])]
theorem eLc_of {G α β : Type} {src : G → Option (List α)} {bind : α → G → G} {mask : G → G} {cond : G → Option Bool} {elt : G → Option β} {Γ : G} {xs : List α} {r : List β} (h1 : src Γ = some xs) (h2 : lcL bind cond elt (mask Γ) xs = some r) (h3 : lenOk r.length = true) : eLc src bind mask cond elt Γ = some r := by
  unfold eLc
  rw [h1, Option.bind_some, h2, Option.bind_some]
  exact okIf_true h3
theorem lenOk_le {n : Nat} (h : n ≤ 100000) : lenOk n = true := by
  refine decide_eq_true ?_
  rw [sizeLine_eq]
  omega
theorem cut_len {α : Type} (xs : List α) (lo hi : Option Int) : (cutD xs lo hi).length ≤ xs.length := by
  unfold cutD
  rw [List.length_take, List.length_drop]
  omega
theorem cut_mem {α : Type} {xs : List α} {lo hi : Option Int} {x : α} (h : x ∈ cutD xs lo hi) : x ∈ xs := List.mem_of_mem_drop (List.mem_of_mem_take h)
theorem atI_of {α : Type} {xs : List α} {i : Int} (h0 : 0 ≤ i) (h1 : i < xs.length) : atI xs i = some (xs[i.toNat]'(by omega)) := by
  obtain ⟨n, rfl⟩ := Int.eq_ofNat_of_zero_le h0
  exact atI_nat (List.getElem?_eq_getElem (by omega))
theorem atI_some {α : Type} {xs : List α} {i : Int} (h0 : 0 ≤ i) (h1 : i < xs.length) : ∃ x, atI xs i = some x ∧ x ∈ xs := ⟨_, atI_of h0 h1, List.getElem_mem _⟩
theorem divOk_nat {n : Nat} (h : 0 < n) (h' : n < 2 ^ 200) : divOk (n : Int) = true := divOk_of 200 (by omega) (by simpa using h') (by decide)
end VV

/-! VPure2: tools for the plain laws: while with a measure, dicts, sorted rows. -/
namespace VV
open PySem L2
open PySem.W (dataLe)

/-! ### while -/
theorem whileN_ms {G ρ : Type} {c : G → Option Bool} {mask : G → G} {body : G → Option (Fl G ρ)} (I : G → Prop) (μ : G → Nat) (hs : ∀ Γ, I Γ → c Γ = some false ∨ (c Γ = some true ∧ ∃ Γ', (body Γ = some (.nx Γ') ∨ body Γ = some (.ct Γ')) ∧ I (mask Γ') ∧ μ (mask Γ') < μ Γ)) :
    ∀ (n : Nat) (Γ : G), I Γ → μ Γ < n → ∃ Γ', whileN c mask body n Γ = some (.nx Γ') ∧ I Γ' ∧ c Γ' = some false
  | 0, Γ, _, h => absurd h (Nat.not_lt_zero _)
  | n + 1, Γ, h, hn => by
    rcases hs Γ h with e | ⟨e, Γ', eb, h', hl⟩
    · exact ⟨Γ, by rw [whileN, e]; rfl, h, e⟩
    · obtain ⟨Γ2, e2, h2⟩ := whileN_ms I μ hs n (mask Γ') h' (by omega)
      refine ⟨Γ2, ?_, h2⟩
      rw [whileN, e]
      rcases eb with eb | eb
      · show ((body Γ).bind _) = _
        rw [eb]
        exact e2
      · show ((body Γ).bind _) = _
        rw [eb]
        exact e2
theorem sWhile_ms {G ρ : Type} {c : G → Option Bool} {mask : G → G} {body : G → Option (Fl G ρ)} {Γ : G} (I : G → Prop) (μ : G → Nat) (h0 : I (mask Γ)) (hs : ∀ Γ, I Γ → c Γ = some false ∨ (c Γ = some true ∧ ∃ Γ', (body Γ = some (.nx Γ') ∨ body Γ = some (.ct Γ')) ∧ I (mask Γ') ∧ μ (mask Γ') < μ Γ)) :
    ∃ Γ', sWhile c mask body Γ = some (.nx Γ') ∧ I Γ' ∧ c Γ' = some false := by
  obtain ⟨Γ', e, h⟩ := whileN_ms I μ hs (μ (mask Γ) + 1) (mask Γ) h0 (Nat.lt_succ_self _)
  exact ⟨Γ', sWhile_of e, h⟩

/-! ### loops, by what lives in them -/
theorem sFor_st {G ρ α S : Type} {F : G → Option (List α)} {bind : α → G → G} {mask : G → G} {body : G → Option (Fl G ρ)} {Γ : G} {xs : List α} (st : S → G) (I : List α → S → Prop) {s0 : S} (hF : F Γ = some xs) (h0 : mask Γ = st s0) (hI : I [] s0)
    (hs : ∀ p x q s, xs = p ++ x :: q → I p s → ∃ s' Γ', (body (bind x (st s)) = some (.nx Γ') ∨ body (bind x (st s)) = some (.ct Γ')) ∧ mask Γ' = st s' ∧ I (p ++ [x]) s') : ∃ s', sFor F bind mask body Γ = some (.nx (st s')) ∧ I xs s' := by
  obtain ⟨Γ', e, s', rfl, h⟩ := sFor_inv (F := F) (bind := bind) (mask := mask) (body := body) (Γ := Γ) (fun p Γ => ∃ s, Γ = st s ∧ I p s) hF ⟨s0, h0, hI⟩ fun p x q Γ he ⟨s, hs0, hI⟩ => by
    obtain ⟨s', Γ', e, h1, h2⟩ := hs p x q s he hI
    subst hs0
    exact ⟨Γ', e, s', h1, h2⟩
  exact ⟨s', e, h⟩
/-- the same, where a turn may hand back -/
theorem forL_sr {G ρ α S : Type} {bind : α → G → G} {mask : G → G} {body : G → Option (Fl G ρ)} (st : S → G) (I : List α → S → Prop) (R : ρ → Prop) : ∀ (xs pre : List α) (s : S), I pre s →
    (∀ p x q s, pre ++ xs = p ++ x :: q → I p s → (∃ s' Γ', (body (bind x (st s)) = some (.nx Γ') ∨ body (bind x (st s)) = some (.ct Γ')) ∧ mask Γ' = st s' ∧ I (p ++ [x]) s') ∨ ∃ d Γ', body (bind x (st s)) = some (.rt d Γ') ∧ R d) →
    (∃ s', forL bind mask body xs (st s) = some (.nx (st s')) ∧ I (pre ++ xs) s') ∨ ∃ d Γ', forL bind mask body xs (st s) = some (.rt d Γ') ∧ R d
  | [], pre, s, h, _ => .inl ⟨s, rfl, by simpa using h⟩
  | x :: xs, pre, s, h, hs => by
    rcases hs pre x xs s rfl h with ⟨s', Γ', e, h1, h2⟩ | ⟨d, Γ', e, h1⟩
    · have ih := forL_sr (bind := bind) (mask := mask) (body := body) st I R xs (pre ++ [x]) s' h2 fun p y q s e => hs p y q s (by rw [← e]; simp)
      have e' : forL bind mask body (x :: xs) (st s) = forL bind mask body xs (st s') := by
        rcases e with e | e
        · rw [forL, e]; show forL bind mask body xs (mask Γ') = _; rw [h1]
        · rw [forL, e]; show forL bind mask body xs (mask Γ') = _; rw [h1]
      rw [e']
      simpa using ih
    · refine .inr ⟨d, Γ', ?_, h1⟩
      rw [forL, e]
      rfl
theorem sFor_sr {G ρ α S : Type} {F : G → Option (List α)} {bind : α → G → G} {mask : G → G} {body : G → Option (Fl G ρ)} {Γ : G} {xs : List α} (st : S → G) (I : List α → S → Prop) (R : ρ → Prop) {s0 : S} (hF : F Γ = some xs) (h0 : mask Γ = st s0) (hI : I [] s0)
    (hs : ∀ p x q s, xs = p ++ x :: q → I p s → (∃ s' Γ', (body (bind x (st s)) = some (.nx Γ') ∨ body (bind x (st s)) = some (.ct Γ')) ∧ mask Γ' = st s' ∧ I (p ++ [x]) s') ∨ ∃ d Γ', body (bind x (st s)) = some (.rt d Γ') ∧ R d) :
    (∃ s', sFor F bind mask body Γ = some (.nx (st s')) ∧ I xs s') ∨ ∃ d Γ', sFor F bind mask body Γ = some (.rt d Γ') ∧ R d := by
  unfold sFor
  rw [hF]
  show (∃ s', forL bind mask body xs (mask Γ) = _ ∧ _) ∨ ∃ d Γ', forL bind mask body xs (mask Γ) = _ ∧ _
  rw [h0]
  exact forL_sr st I R xs [] s0 hI hs
/-- a while, by what lives in it -/
theorem sWhile_st {G ρ S : Type} {c : G → Option Bool} {mask : G → G} {body : G → Option (Fl G ρ)} {Γ : G} (st : S → G) (I : S → Prop) (μ : S → Nat) {s0 : S} (h0 : mask Γ = st s0) (hI : I s0)
    (hs : ∀ s, I s → c (st s) = some false ∨ (c (st s) = some true ∧ ∃ s' Γ', (body (st s) = some (.nx Γ') ∨ body (st s) = some (.ct Γ')) ∧ mask Γ' = st s' ∧ I s' ∧ μ s' < μ s)) :
    ∃ s', sWhile c mask body Γ = some (.nx (st s')) ∧ I s' ∧ c (st s') = some false := by
  have key : ∀ (n : Nat) (s : S), I s → μ s < n → ∃ s', whileN c mask body n (st s) = some (.nx (st s')) ∧ I s' ∧ c (st s') = some false := by
    intro n
    induction n with
    | zero => exact fun s _ h => absurd h (Nat.not_lt_zero _)
    | succ n ih =>
      intro s hI hn
      rcases hs s hI with e | ⟨e, s', Γ', eb, h1, h2, hl⟩
      · exact ⟨s, by rw [whileN, e]; rfl, hI, e⟩
      · obtain ⟨s2, e2, h3⟩ := ih s' h2 (by omega)
        refine ⟨s2, ?_, h3⟩
        rw [whileN, e]
        show ((body (st s)).bind _) = _
        rcases eb with eb | eb
        · rw [eb]
          show whileN c mask body n (mask Γ') = _
          rw [h1]
          exact e2
        · rw [eb]
          show whileN c mask body n (mask Γ') = _
          rw [h1]
          exact e2
  obtain ⟨s', e, h⟩ := key (μ s0 + 1) s0 hI (Nat.lt_succ_self _)
  exact ⟨s', sWhile_of (n := μ s0 + 1) (by rw [h0]; exact e), h⟩
/-! ### comprehensions of things that are only known by a law -/
theorem lcL_ex {G α β : Type} {bind : α → G → G} {elt : G → Option β} {Γ : G} (P : α → β → Prop) : ∀ (xs : List α), (∀ x ∈ xs, ∃ y, elt (bind x Γ) = some y ∧ P x y) → ∃ r, lcL bind eYes elt Γ xs = some r ∧ r.length = xs.length ∧ F2 P xs r
  | [], _ => ⟨[], rfl, rfl, True.intro⟩
  | x :: xs, h => by
    obtain ⟨y, e, hy⟩ := h x List.mem_cons_self
    obtain ⟨r, er, hl, hr⟩ := lcL_ex P xs fun z hz => h z (List.mem_cons_of_mem _ hz)
    refine ⟨y :: r, ?_, by simp [hl], hy, hr⟩
    show (some true).bind _ = _
    rw [Option.bind_some, if_pos rfl, e, Option.bind_some, er]
    rfl
theorem eLc_ex {G α β : Type} {src : G → Option (List α)} {bind : α → G → G} {mask : G → G} {elt : G → Option β} {Γ : G} {xs : List α} (P : α → β → Prop) (h1 : src Γ = some xs) (hl : xs.length ≤ 4000000) (h2 : ∀ x ∈ xs, ∃ y, elt (bind x (mask Γ)) = some y ∧ P x y) : ∃ r, eLc src bind mask eYes elt Γ = some r ∧ r.length = xs.length ∧ F2 P xs r := by
  obtain ⟨r, e, k1, k2⟩ := lcL_ex P xs h2
  refine ⟨r, eLc_of h1 e (decide_eq_true ?_), k1, k2⟩
  rw [k1, sizeLine_eq]
  omega
theorem eLc_filter {G α : Type} {src : G → Option (List α)} {bind : α → G → G} {mask : G → G} {cond : G → Option Bool} {elt : G → Option α} {Γ : G} {xs : List α} (c : α → Bool) (h1 : src Γ = some xs) (hl : xs.length ≤ 4000000) (h2 : ∀ x ∈ xs, cond (bind x (mask Γ)) = some (c x)) (h3 : ∀ x ∈ xs, c x = true → elt (bind x (mask Γ)) = some x) : eLc src bind mask cond elt Γ = some (xs.filter c) := by
  have := lcL_filter (bind := bind) (cond := cond) (elt := elt) (Γ := mask Γ) c id xs h2 h3
  rw [List.map_id] at this
  refine eLc_of h1 this (decide_eq_true ?_)
  have := List.length_filter_le c xs
  rw [sizeLine_eq]
  omega
theorem eLc_map {G α β : Type} {src : G → Option (List α)} {bind : α → G → G} {mask : G → G} {elt : G → Option β} {Γ : G} {xs : List α} (f : α → β) (h1 : src Γ = some xs) (hl : xs.length ≤ 4000000) (h2 : ∀ x ∈ xs, elt (bind x (mask Γ)) = some (f x)) : eLc src bind mask eYes elt Γ = some (xs.map f) := by
  refine eLc_of h1 (lcL_all f xs h2) (decide_eq_true ?_)
  rw [List.length_map, sizeLine_eq]
  omega
theorem F2.mem_right {α β : Type} {P : α → β → Prop} : ∀ {xs : List α} {ys : List β}, F2 P xs ys → ∀ y ∈ ys, ∃ x ∈ xs, P x y
  | [], [], _, y, h => by simp at h
  | x :: xs, z :: ys, h, y, hy => by
    rcases List.mem_cons.mp hy with e | hy
    · rw [e]; exact ⟨x, List.mem_cons_self, h.1⟩
    · obtain ⟨w, hw, hp⟩ := F2.mem_right h.2 y hy
      exact ⟨w, List.mem_cons_of_mem _ hw, hp⟩
  | [], _ :: _, h, _, _ => h.elim
  | _ :: _, [], h, _, _ => h.elim
/-! ### how many -/
theorem nodup_sub {α : Type} [DecidableEq α] : ∀ {l m : List α}, l.Nodup → (∀ x ∈ l, x ∈ m) → l.length ≤ m.length
  | [], _, _, _ => Nat.zero_le _
  | x :: l, m, nd, h => by
    have nd := List.nodup_cons.mp nd
    have hx := h x List.mem_cons_self
    have := nodup_sub (m := m.erase x) nd.2 fun y hy => (List.mem_erase_of_ne fun e => nd.1 (by rw [← e]; exact hy)).mpr (h y (List.mem_cons_of_mem _ hy))
    rw [List.length_erase_of_mem hx] at this
    have := List.length_pos_of_mem hx
    simp only [List.length_cons]
    omega
theorem nodup_map {α β : Type} {f : α → β} : ∀ {l : List α}, l.Nodup → (∀ a ∈ l, ∀ b ∈ l, f a = f b → a = b) → (l.map f).Nodup
  | [], _, _ => by simp
  | x :: l, nd, h => by
    have nd := List.nodup_cons.mp nd
    rw [List.map_cons, List.nodup_cons]
    refine ⟨fun z => ?_, nodup_map nd.2 fun a ha b hb => h a (List.mem_cons_of_mem _ ha) b (List.mem_cons_of_mem _ hb)⟩
    obtain ⟨y, hy, e⟩ := List.mem_map.mp z
    exact nd.1 (h y (List.mem_cons_of_mem _ hy) x List.mem_cons_self e ▸ hy)
theorem nodup_filter {α : Type} {p : α → Bool} {l : List α} (h : l.Nodup) : (l.filter p).Nodup := List.Pairwise.filter p h
theorem nodup_snoc {α : Type} {l : List α} {x : α} (h : l.Nodup) (hx : x ∉ l) : (l ++ [x]).Nodup :=
  List.nodup_append.mpr ⟨h, by simp, fun a ha b hb => by
    rw [List.mem_singleton] at hb
    rw [hb]
    intro e
    subst e
    exact hx ha⟩
theorem rng_nodup (lo hi : Int) : (rng lo hi).Nodup := nodup_map List.nodup_range fun a _ b _ e => by omega
theorem rng_mem {lo hi x : Int} : x ∈ rng lo hi ↔ lo ≤ x ∧ x < hi := by
  unfold rng
  rw [List.mem_map]
  constructor
  · rintro ⟨k, hk, rfl⟩
    rw [List.mem_range] at hk
    omega
  · intro h
    exact ⟨(x - lo).toNat, by rw [List.mem_range]; omega, by omega⟩
theorem nodup_ints {l : List Int} {n : Nat} (nd : l.Nodup) (h : ∀ x ∈ l, 0 ≤ x ∧ x ≤ n) : l.length ≤ n + 1 := by
  have := nodup_sub (m := rng 0 (n + 1)) nd fun x hx => rng_mem.mpr ⟨(h x hx).1, by have := (h x hx).2; omega⟩
  rw [rng_len] at this
  omega

theorem enum_split {α : Type} {xs : List α} {p q : List (Int × α)} {i : Int} {x : α} (h : enumD xs = p ++ (i, x) :: q) : i = (p.length : Int) ∧ xs[p.length]? = some x := by
  have h1 := congrArg List.length h
  rw [enum_len] at h1
  simp only [List.length_append, List.length_cons] at h1
  have h2 : p.length < xs.length := by omega
  have h3 := enum_get (xs := xs) (i := p.length) (x := xs[p.length]) (List.getElem?_eq_getElem h2)
  rw [h] at h3
  simp only [List.getElem?_append_right (Nat.le_refl _), Nat.sub_self, List.getElem?_cons_zero, Option.some.injEq, Prod.mk.injEq] at h3
  exact ⟨h3.1, by rw [List.getElem?_eq_getElem h2, h3.2]⟩
theorem enum_mem {α : Type} {xs : List α} {i : Int} {x : α} (h : (i, x) ∈ enumD xs) : atI xs i = some x ∧ 0 ≤ i ∧ i < xs.length ∧ x ∈ xs := by
  obtain ⟨p, q, e⟩ := List.append_of_mem h
  obtain ⟨rfl, h2⟩ := enum_split e
  have := (List.getElem?_eq_some_iff.mp h2).1
  exact ⟨atI_nat h2, by omega, by omega, List.mem_of_getElem? h2⟩
theorem enum_has {α : Type} {xs : List α} {x : α} (h : x ∈ xs) : ∃ i, (i, x) ∈ enumD xs := by
  obtain ⟨j, hj⟩ := List.getElem?_of_mem h
  exact ⟨_, List.mem_of_getElem? (enum_get hj)⟩
/-! ### keys of dicts -/
theorem keyS_inj {t : Ty} (h : (t == .int || t == .str) = true) {a b : den t} (e : keyS t a = keyS t b) : a = b := by
  cases t <;> first | (cases h; done) | skip
  · exact Sum.inl.inj (Option.some.inj e)
  · exact Sum.inr.inj (Option.some.inj e)
theorem keyS_some {t : Ty} (h : (t == .int || t == .str) = true) (a : den t) : ∃ k, keyS t a = some k := by
  cases t <;> first | (cases h; done) | exact ⟨_, rfl⟩
theorem keyRow_some : ∀ {b : Ty}, okRow b = true → ∀ d : den b, ∃ k, keyRow b d = some k
  | .last a, h, d => by
    obtain ⟨k, e⟩ := keyS_some (t := a) h d
    exact ⟨[k], by unfold keyRow; rw [e]; rfl⟩
  | .cons a b, h, d => by
    simp only [okRow, Bool.and_eq_true] at h
    obtain ⟨k, e⟩ := keyS_some h.1 d.1
    obtain ⟨ks, e'⟩ := keyRow_some h.2 d.2
    exact ⟨k :: ks, by unfold keyRow; rw [e, e']; rfl⟩
  | .non, h, _ => by cases h
  | .bool, h, _ => by cases h
  | .int, h, _ => by cases h
  | .str, h, _ => by cases h
  | .any, h, _ => by cases h
  | .opt _, h, _ => by cases h
  | .vtup _, h, _ => by cases h
  | .list _, h, _ => by cases h
  | .dict _ _, h, _ => by cases h
  | .own _, h, _ => by cases h
  | .hl _, h, _ => by cases h
  | .tup _, h, _ => by cases h
theorem keyRow_inj : ∀ {b : Ty}, okRow b = true → ∀ {d e : den b}, keyRow b d = keyRow b e → d = e
  | .last a, h, d, e, q => by
    obtain ⟨k, e1⟩ := keyS_some (t := a) h d
    obtain ⟨l, e2⟩ := keyS_some (t := a) h e
    unfold keyRow at q
    rw [e1, e2] at q
    refine keyS_inj (t := a) h ?_
    rw [e1, e2]
    simpa using q
  | .cons a b, h, d, e, q => by
    simp only [okRow, Bool.and_eq_true] at h
    obtain ⟨k, e1⟩ := keyS_some h.1 d.1
    obtain ⟨l, e2⟩ := keyS_some h.1 e.1
    obtain ⟨ks, e3⟩ := keyRow_some h.2 d.2
    obtain ⟨ls, e4⟩ := keyRow_some h.2 e.2
    unfold keyRow at q
    rw [e1, e2, e3, e4] at q
    have q : k :: ks = l :: ls := Option.some.inj q
    have q1 := (List.cons.inj q).1
    have q2 := (List.cons.inj q).2
    exact Prod.ext (keyS_inj h.1 (by rw [e1, e2, q1])) (keyRow_inj h.2 (by rw [e3, e4, q2]))
  | .non, h, _, _, _ => by cases h
  | .bool, h, _, _, _ => by cases h
  | .int, h, _, _, _ => by cases h
  | .str, h, _, _, _ => by cases h
  | .any, h, _, _, _ => by cases h
  | .opt _, h, _, _, _ => by cases h
  | .vtup _, h, _, _, _ => by cases h
  | .list _, h, _, _, _ => by cases h
  | .dict _ _, h, _, _, _ => by cases h
  | .own _, h, _, _, _ => by cases h
  | .hl _, h, _, _, _ => by cases h
  | .tup _, h, _, _, _ => by cases h
theorem keyVs_some {t : Ty} (h : (t == .int || t == .str) = true) : ∀ d : List (den t), ∃ k, keyVs t d = some k
  | [] => ⟨[], rfl⟩
  | x :: d => by
    obtain ⟨k, e⟩ := keyS_some h x
    obtain ⟨ks, e'⟩ := keyVs_some h d
    exact ⟨k :: ks, by unfold keyVs; rw [e, e']; rfl⟩
theorem keyVs_inj {t : Ty} (h : (t == .int || t == .str) = true) : ∀ {d e : List (den t)}, keyVs t d = keyVs t e → d = e
  | [], [], _ => rfl
  | [], y :: e, q => by
    obtain ⟨k, e1⟩ := keyS_some h y
    obtain ⟨ks, e2⟩ := keyVs_some h e
    unfold keyVs at q
    rw [e1, e2] at q
    cases q
  | x :: d, [], q => by
    obtain ⟨k, e1⟩ := keyS_some h x
    obtain ⟨ks, e2⟩ := keyVs_some h d
    unfold keyVs at q
    rw [e1, e2] at q
    cases q
  | x :: d, y :: e, q => by
    obtain ⟨k, e1⟩ := keyS_some h x
    obtain ⟨ks, e2⟩ := keyVs_some h d
    obtain ⟨l, e3⟩ := keyS_some h y
    obtain ⟨ls, e4⟩ := keyVs_some h e
    unfold keyVs at q
    rw [e1, e2, e3, e4] at q
    have q : k :: ks = l :: ls := Option.some.inj q
    have q1 := (List.cons.inj q).1
    have q2 := (List.cons.inj q).2
    rw [keyS_inj h (show keyS t x = keyS t y by rw [e1, e3, q1]), keyVs_inj h (show keyVs t d = keyVs t e by rw [e2, e4, q2])]
/-- the key of a dict: the keys are the same just where the things are -/
def keyK (k : Ty) (d : den k) : Option Key ⊕ Option (List Key) := if k.tk = true then .inr (keyT k d) else .inl (keyS k d)
theorem key_same {k : Ty} (h : okKey k = true) {a b : den k} : (k.tk = true → (keyT k a = keyT k b ↔ a = b)) ∧ (k.tk = false → (keyS k a = keyS k b ↔ a = b)) := by
  refine ⟨fun hk => ⟨fun q => ?_, fun e => by rw [e]⟩, fun hk => ⟨fun q => ?_, fun e => by rw [e]⟩⟩
  · cases k <;> first | (cases h; done) | (cases hk; done) | skip
    · rename_i t
      exact keyVs_inj (t := t) (by exact h) q
    · rename_i r
      exact keyRow_inj (b := r) (by exact h) q
  · cases k <;> first | (cases h; done) | (cases hk; done) | exact keyS_inj rfl q
section
variable {k : Ty} {β : Type} [DecidableEq (den k)]
theorem getK_eq (h : okKey k = true) (d : List (den k × β)) (x : den k) : fGetK d x = (d.find? fun q => decide (q.1 = x)).map (·.2) := by
  unfold fGetK getBy
  by_cases hk : k.tk = true
  · rw [if_pos hk]
    congr 2
    funext q
    rw [decide_eq_decide]
    exact (key_same h).1 hk
  · rw [if_neg hk]
    congr 2
    funext q
    rw [decide_eq_decide]
    exact (key_same h).2 (by simpa using hk)
theorem putK_eq (h : okKey k = true) (d : List (den k × β)) (x : den k) (y : β) : fPutK d x y = if x ∈ d.map (·.1) then d.map (fun q => if q.1 = x then (q.1, y) else q) else d ++ [(x, y)] := by
  unfold fPutK putBy
  by_cases hk : k.tk = true
  · rw [if_pos hk]
    have e1 : (d.any fun q => decide (keyT k q.1 = keyT k x)) = decide (x ∈ d.map (·.1)) := by
      rw [Bool.eq_iff_iff, List.any_eq_true, decide_eq_true_iff, List.mem_map]
      exact ⟨fun ⟨q, h1, h2⟩ => ⟨q, h1, ((key_same h).1 hk).mp (of_decide_eq_true h2)⟩, fun ⟨q, h1, h2⟩ => ⟨q, h1, decide_eq_true (((key_same h).1 hk).mpr h2)⟩⟩
    rw [e1]
    by_cases hx : x ∈ d.map (·.1)
    · rw [if_pos hx, if_pos (decide_eq_true hx)]
      refine List.map_congr_left fun q _ => ?_
      by_cases hq : q.1 = x
      · rw [if_pos hq, if_pos (((key_same h).1 hk).mpr hq)]
      · rw [if_neg hq, if_neg fun z => hq (((key_same h).1 hk).mp z)]
    · rw [if_neg hx, if_neg (by simpa using hx)]
  · have hk' : k.tk = false := by simpa using hk
    rw [if_neg hk]
    have e1 : (d.any fun q => decide (keyS k q.1 = keyS k x)) = decide (x ∈ d.map (·.1)) := by
      rw [Bool.eq_iff_iff, List.any_eq_true, decide_eq_true_iff, List.mem_map]
      exact ⟨fun ⟨q, h1, h2⟩ => ⟨q, h1, ((key_same h).2 hk').mp (of_decide_eq_true h2)⟩, fun ⟨q, h1, h2⟩ => ⟨q, h1, decide_eq_true (((key_same h).2 hk').mpr h2)⟩⟩
    rw [e1]
    by_cases hx : x ∈ d.map (·.1)
    · rw [if_pos hx, if_pos (decide_eq_true hx)]
      refine List.map_congr_left fun q _ => ?_
      by_cases hq : q.1 = x
      · rw [if_pos hq, if_pos (((key_same h).2 hk').mpr hq)]
      · rw [if_neg hq, if_neg fun z => hq (((key_same h).2 hk').mp z)]
    · rw [if_neg hx, if_neg (by simpa using hx)]
end
/-- what a dict holds under a key -/
def look {α β : Type} [DecidableEq α] (d : List (α × β)) (x : α) : Option β := (d.find? fun q => decide (q.1 = x)).map (·.2)
def lput {α β : Type} [DecidableEq α] (d : List (α × β)) (x : α) (y : β) : List (α × β) := if x ∈ d.map (·.1) then d.map (fun q => if q.1 = x then (q.1, y) else q) else d ++ [(x, y)]
section
variable {α β : Type} [DecidableEq α]
theorem look_nil (x : α) : look ([] : List (α × β)) x = none := rfl
theorem look_cons (q : α × β) (d : List (α × β)) (x : α) : look (q :: d) x = if q.1 = x then some q.2 else look d x := by
  unfold look
  by_cases h : q.1 = x
  · rw [List.find?_cons_of_pos (p := fun q : α × β => decide (q.1 = x)) (decide_eq_true h), if_pos h]; rfl
  · rw [List.find?_cons_of_neg (p := fun q : α × β => decide (q.1 = x)) (by simpa using h), if_neg h]
theorem look_some {d : List (α × β)} {x : α} {y : β} (h : look d x = some y) : (x, y) ∈ d := by
  induction d with
  | nil => cases h
  | cons q d ih =>
    rw [look_cons] at h
    split at h
    · rename_i e
      cases h
      subst e
      exact List.mem_cons_self
    · exact List.mem_cons_of_mem _ (ih h)
theorem look_isSome {d : List (α × β)} {x : α} : (look d x).isSome = decide (x ∈ d.map (·.1)) := by
  induction d with
  | nil => rfl
  | cons q d ih =>
    rw [look_cons, List.map_cons]
    by_cases e : q.1 = x
    · rw [if_pos e, decide_eq_true (by rw [e]; exact List.mem_cons_self)]; rfl
    · rw [if_neg e, ih, decide_eq_decide, List.mem_cons]
      exact ⟨.inr, fun z => z.elim (fun z => absurd z.symm e) id⟩
theorem look_is {d : List (α × β)} {x : α} : (look d x).isSome = true ↔ x ∈ d.map (·.1) := by
  rw [look_isSome, decide_eq_true_iff]
theorem look_none {d : List (α × β)} {x : α} : look d x = none ↔ x ∉ d.map (·.1) := by
  have := look_isSome (d := d) (x := x)
  rw [← Option.not_isSome_iff_eq_none, this, decide_eq_true_iff]
theorem look_mem {d : List (α × β)} (nd : (d.map (·.1)).Nodup) {x : α} {y : β} (h : (x, y) ∈ d) : look d x = some y := by
  induction d with
  | nil => cases h
  | cons q d ih =>
    rw [List.map_cons, List.nodup_cons] at nd
    rw [look_cons]
    rcases List.mem_cons.mp h with h | h
    · subst h
      rw [if_pos rfl]
    · rw [if_neg (fun e => nd.1 (by rw [e]; exact List.mem_map_of_mem h))]
      exact ih nd.2 h
theorem look_iff {d : List (α × β)} (nd : (d.map (·.1)).Nodup) {x : α} {y : β} : look d x = some y ↔ (x, y) ∈ d := ⟨look_some, look_mem nd⟩
theorem look_append {d e : List (α × β)} {x : α} : look (d ++ e) x = (look d x).or (look e x) := by
  induction d with
  | nil => rw [List.nil_append, look_nil]; rfl
  | cons q d ih =>
    rw [List.cons_append, look_cons, look_cons, ih]
    split <;> rfl
theorem lput_keys (d : List (α × β)) (x : α) (y : β) : (lput d x y).map (·.1) = if x ∈ d.map (·.1) then d.map (·.1) else d.map (·.1) ++ [x] := by
  unfold lput
  by_cases h : x ∈ d.map (·.1)
  · rw [if_pos h, if_pos h, List.map_map]
    refine List.map_congr_left fun q _ => ?_
    show (if q.1 = x then (q.1, y) else q).1 = q.1
    split <;> rfl
  · rw [if_neg h, if_neg h, List.map_append]; rfl
theorem lput_nodup {d : List (α × β)} (nd : (d.map (·.1)).Nodup) (x : α) (y : β) : ((lput d x y).map (·.1)).Nodup := by
  rw [lput_keys]
  split
  · exact nd
  · rename_i h
    exact List.nodup_append.mpr ⟨nd, by simp, fun a ha b hb => by
      rw [List.mem_singleton] at hb
      rw [hb]
      exact fun e => h (e ▸ ha)⟩
theorem look_lput (d : List (α × β)) (x : α) (y : β) (z : α) : look (lput d x y) z = if x = z then some y else look d z := by
  unfold lput
  by_cases h : x ∈ d.map (·.1)
  · rw [if_pos h]
    induction d with
    | nil => simp at h
    | cons q d ih =>
      rw [List.map_cons, look_cons, look_cons]
      by_cases e : q.1 = x
      · rw [if_pos e]
        by_cases e2 : x = z
        · rw [if_pos (e.trans e2), if_pos e2]
        · rw [if_neg (fun q' => e2 (e.symm.trans q')), if_neg e2, if_neg (fun q' => e2 (e.symm.trans q'))]
          by_cases hx : x ∈ d.map (·.1)
          · rw [ih hx, if_neg e2]
          · congr 1
            have : d.map (fun q => if q.1 = x then (q.1, y) else q) = d := by
              conv => rhs; rw [← List.map_id d]
              refine List.map_congr_left fun q hq => ?_
              rw [if_neg (fun e => hx (by rw [← e]; exact List.mem_map_of_mem hq))]
              rfl
            exact this
      · rw [if_neg e, ih (by
          rw [List.map_cons, List.mem_cons] at h
          exact h.resolve_left fun q' => e q'.symm)]
        by_cases e2 : x = z
        · rw [if_pos e2, if_pos e2, if_neg (fun q' => e (q'.trans e2.symm))]
        · rw [if_neg e2, if_neg e2]
  · rw [if_neg h, look_append, look_cons, look_nil]
    by_cases e2 : x = z
    · rw [if_pos e2, if_pos e2, look_none.mpr (by rw [← e2]; exact h)]; rfl
    · rw [if_neg e2, if_neg e2]
      cases look d z <;> rfl
end
/-- the thing under a key is exchanged -/
def lupd {α β : Type} [DecidableEq α] : List (α × β) → α → β → List (α × β)
  | [], _, _ => []
  | q :: d, x, z => if q.1 = x then (q.1, z) :: d else q :: lupd d x z
def lset {α β : Type} [DecidableEq α] (d : List (α × β)) (x : α) (y : β) : List (α × β) := if x ∈ d.map (·.1) then lupd d x y else d ++ [(x, y)]
section
variable {α β : Type} [DecidableEq α]
theorem lupd_keys (d : List (α × β)) (x : α) (y : β) : (lupd d x y).map (·.1) = d.map (·.1) := by
  induction d with
  | nil => rfl
  | cons q d ih =>
    unfold lupd
    split
    · rfl
    · rw [List.map_cons, ih, List.map_cons]
theorem look_lupd (d : List (α × β)) (x : α) (y : β) (z : α) (h : x ∈ d.map (·.1)) : look (lupd d x y) z = if x = z then some y else look d z := by
  induction d with
  | nil => simp at h
  | cons q d ih =>
    unfold lupd
    by_cases e : q.1 = x
    · rw [if_pos e, look_cons, look_cons]
      by_cases e2 : x = z
      · rw [if_pos (e.trans e2), if_pos e2]
      · rw [if_neg (fun q' => e2 (e.symm.trans q')), if_neg e2, if_neg (fun q' => e2 (e.symm.trans q'))]
    · rw [if_neg e, look_cons, look_cons, ih (by
        rw [List.map_cons, List.mem_cons] at h
        exact h.resolve_left fun q' => e q'.symm)]
      by_cases e2 : x = z
      · rw [if_pos e2, if_pos e2, if_neg (fun q' => e (q'.trans e2.symm))]
      · rw [if_neg e2, if_neg e2]
theorem lset_keys (d : List (α × β)) (x : α) (y : β) : (lset d x y).map (·.1) = if x ∈ d.map (·.1) then d.map (·.1) else d.map (·.1) ++ [x] := by
  unfold lset
  split
  · exact lupd_keys d x y
  · rw [List.map_append]; rfl
theorem lset_nodup {d : List (α × β)} (nd : (d.map (·.1)).Nodup) (x : α) (y : β) : ((lset d x y).map (·.1)).Nodup := by
  rw [lset_keys, ← lput_keys d x y]
  exact lput_nodup nd x y
theorem look_lset (d : List (α × β)) (x : α) (y : β) (z : α) : look (lset d x y) z = if x = z then some y else look d z := by
  unfold lset
  split
  · rename_i h
    exact look_lupd d x y z h
  · rename_i h
    rw [look_append, look_cons, look_nil]
    by_cases e2 : x = z
    · rw [if_pos e2, if_pos e2, look_none.mpr (by rw [← e2]; exact h)]; rfl
    · rw [if_neg e2, if_neg e2]
      cases look d z <;> rfl
end
theorem updBy_lupd {α β κ : Type} [DecidableEq κ] [DecidableEq α] {key : α → Option κ} (h : ∀ a b, key a = key b ↔ a = b) : ∀ (d : List (α × β)) (x : α) (y : β), updBy key d x y = lupd d x y
  | [], _, _ => rfl
  | q :: d, x, y => by
    unfold updBy lupd
    by_cases e : q.1 = x
    · rw [if_pos e, if_pos ((h _ _).mpr e)]
    · rw [if_neg e, if_neg fun z => e ((h _ _).mp z), updBy_lupd h d x y]
theorem updK_lupd {k : Ty} {β : Type} [DecidableEq (den k)] (h : okKey k = true) (d : List (den k × β)) (x : den k) (y : β) : fUpdK d x y = lupd d x y := by
  unfold fUpdK
  by_cases hk : k.tk = true
  · rw [if_pos hk]; exact updBy_lupd (fun a b => (key_same h).1 hk) d x y
  · rw [if_neg hk]; exact updBy_lupd (fun a b => (key_same h).2 (by simpa using hk)) d x y
theorem lt_line2 {n : Nat} (h : n ≤ 4000000) : n < sizeLine := by
  rw [sizeLine_eq]
  omega
theorem lenOk_le2 {n : Nat} (h : n ≤ 4000000) : lenOk n = true := by
  refine decide_eq_true ?_
  rw [sizeLine_eq]
  omega
theorem getK_look {k : Ty} {β : Type} [DecidableEq (den k)] (h : okKey k = true) (d : List (den k × β)) (x : den k) : fGetK d x = look d x := getK_eq h d x
theorem putK_lput {k : Ty} {β : Type} [DecidableEq (den k)] (h : okKey k = true) (d : List (den k × β)) (x : den k) (y : β) : fPutK d x y = lput d x y := putK_eq h d x y

/-! ### sorted rows -/
/-- any two such things are alike -/
def Ty.alk : Ty → Bool
  | .non => true
  | .bool => true
  | .int => true
  | .str => true
  | .vtup t => !t.isRow && t.alk
  | .list t => !t.isRow && t.alk
  | .own t => !t.isRow && t.alk
  | .tup b => b.isRow && b.alk
  | .hl b => b.isRow && b.alk
  | .last a => !a.isRow && a.alk
  | .cons a b => !a.isRow && (a.alk && (b.isRow && b.alk))
  | _ => false
theorem alike_maps {α : Type} {f : α → PyData} (h : ∀ a b : α, PySem.W.alike (f a) (f b) = true) : ∀ xs ys : List α, PySem.W.alikeAll (xs.map f) (ys.map f) = true
  | [], _ => by simp [PySem.W.alikeAll]
  | _ :: _, [] => by simp [PySem.W.alikeAll]
  | x :: xs, y :: ys => by simp [PySem.W.alikeAll, h x y, alike_maps h xs ys]
theorem alike_ty : ∀ t : Ty, t.alk = true → (t.isRow = false → ∀ a b : den t, PySem.W.alike ((emb t).1 a) ((emb t).1 b) = true) ∧ (t.isRow = true → ∀ a b : den t, PySem.W.alikeAll ((emb t).2 a) ((emb t).2 b) = true) := by
  intro t
  induction t with
  | non => exact fun _ => ⟨fun _ a b => by simp [emb, PySem.W.alike], fun h => by cases h⟩
  | bool => exact fun _ => ⟨fun _ a b => by simp [emb, PySem.W.alike], fun h => by cases h⟩
  | int => exact fun _ => ⟨fun _ a b => by simp [emb, PySem.W.alike], fun h => by cases h⟩
  | str => exact fun _ => ⟨fun _ a b => by simp [emb, PySem.W.alike], fun h => by cases h⟩
  | any => exact fun h => by cases h
  | dict _ _ => exact fun h => by cases h
  | opt t ih => exact fun h => by cases h
  | vtup t ih =>
    intro q
    simp only [Ty.alk, Bool.and_eq_true, Bool.not_eq_true'] at q
    exact ⟨fun _ a b => by simpa [emb, PySem.W.alike] using alike_maps ((ih q.2).1 q.1) a b, fun h => by cases h⟩
  | list t ih =>
    intro q
    simp only [Ty.alk, Bool.and_eq_true, Bool.not_eq_true'] at q
    exact ⟨fun _ a b => by simpa [emb, PySem.W.alike] using alike_maps ((ih q.2).1 q.1) a b, fun h => by cases h⟩
  | own t ih =>
    intro q
    simp only [Ty.alk, Bool.and_eq_true, Bool.not_eq_true'] at q
    exact ⟨fun _ => (ih q.2).1 q.1, fun h => by cases h⟩
  | tup b ih =>
    intro q
    simp only [Ty.alk, Bool.and_eq_true] at q
    exact ⟨fun _ a b' => by simpa [emb, PySem.W.alike] using (ih q.2).2 q.1 a b', fun h => by cases h⟩
  | hl b ih =>
    intro q
    simp only [Ty.alk, Bool.and_eq_true] at q
    exact ⟨fun _ a b' => by simpa [emb, PySem.W.alike] using (ih q.2).2 q.1 a b', fun h => by cases h⟩
  | last a ih =>
    intro q
    simp only [Ty.alk, Bool.and_eq_true, Bool.not_eq_true'] at q
    exact ⟨fun h => (by cases h), fun _ x y => (by simpa [emb, PySem.W.alikeAll] using (ih q.2).1 q.1 x y)⟩
  | cons a b iha ihb =>
    intro q
    simp only [Ty.alk, Bool.and_eq_true, Bool.not_eq_true'] at q
    refine ⟨fun h => (by cases h), fun _ x y => ?_⟩
    have h1 := (iha q.2.1).1 q.1 x.1 y.1
    have h2 := (ihb q.2.2.2).2 q.2.2.1 x.2 y.2
    simp only [emb, PySem.W.alikeAll, h1, h2, Bool.and_self]
theorem toks_same {x y : PyData} (h : PySem.W.alike x y = true) (e : PySem.W.keyToks x = PySem.W.keyToks y) : PyData.eqv x y = true := by
  cases q : PyData.eqv x y with
  | true => rfl
  | false =>
    exfalso
    have h1 := (PySem.W.toks_eqv x y h).2 q
    have h2 := h1 [] [.inl 0]
    have h3 := h1 [.inl 0] []
    rw [e, PySem.W.lex_pre] at h2 h3
    rw [← h3] at h2
    exact absurd h2 (by decide)
theorem le_total (t : Ty) : PySem.W.TotalLe (dataLe false (emb t).1) := PySem.W.sortLe_total _ false _
/-- such things are equal as soon as none is before the other -/
def okSort (t : Ty) : Bool := !t.isRow && (t.alk && t.inj)
theorem le_anti {t : Ty} (h : okSort t = true) {a b : den t} (h1 : dataLe false (emb t).1 a b = true) (h2 : dataLe false (emb t).1 b a = true) : a = b := by
  simp only [okSort, Bool.and_eq_true, Bool.not_eq_true'] at h
  have al := (alike_ty t h.2.1).1 h.1 a b
  refine ((eqv_iff t h.2.2).1 h.1 a b).mp (toks_same al ?_)
  rw [PySem.W.dataLe_eq] at h1 h2
  simp only [cond_false, Bool.not_eq_true'] at h1 h2
  exact PyProof.Rows.lex_total (O := PyProof.Rows.itemOrd) _ _ h2 h1
theorem sortT_perm (t : Ty) (xs : List (den t)) : (sortT t xs).Perm xs := List.mergeSort_perm _ _
theorem sortT_mem {t : Ty} {xs : List (den t)} {x : den t} : x ∈ sortT t xs ↔ x ∈ xs := (sortT_perm t xs).mem_iff
theorem sortT_len {t : Ty} {xs : List (den t)} : (sortT t xs).length = xs.length := (sortT_perm t xs).length_eq
theorem sortT_nodup {t : Ty} {xs : List (den t)} (h : xs.Nodup) : (sortT t xs).Nodup := (sortT_perm t xs).nodup_iff.mpr h
theorem sortT_eq {t : Ty} (h : okSort t = true) {xs ys : List (den t)} (p : xs.Perm ys) : sortT t xs = sortT t ys :=
  List.Perm.eq_of_pairwise (le := fun a b => dataLe false (emb t).1 a b = true) (fun a b _ _ h1 h2 => le_anti h h1 h2) (PySem.W.sort_pairwise (le_total t) xs) (PySem.W.sort_pairwise (le_total t) ys) ((sortT_perm t xs).trans (p.trans (sortT_perm t ys).symm))
theorem sortT_same {t : Ty} (h : okSort t = true) {xs ys : List (den t)} (nx : xs.Nodup) (ny : ys.Nodup) (m : ∀ x, x ∈ xs ↔ x ∈ ys) : sortT t xs = sortT t ys := sortT_eq h ((List.perm_ext_iff_of_nodup nx ny).mpr m)
/-- depth -/
theorem depth_maps {α : Type} {f : α → PyData} {n : Nat} (h : ∀ a, (f a).depth ≤ n) : ∀ xs : List α, PyData.depthAll (xs.map f) ≤ n
  | [] => by simp [PyData.depthAll]
  | x :: xs => by
    have h1 := h x
    have h2 := depth_maps h xs
    simp only [List.map_cons, PyData.depthAll]
    omega
theorem depth_ty : ∀ t : Ty, t.alk = true → (t.isRow = false → ∀ a : den t, ((emb t).1 a).depth ≤ t.dep) ∧ (t.isRow = true → ∀ a : den t, PyData.depthAll ((emb t).2 a) ≤ t.dep) := by
  intro t
  induction t with
  | non => exact fun _ => ⟨fun _ a => by simp [emb, PyData.depth], fun h => by cases h⟩
  | bool => exact fun _ => ⟨fun _ a => by simp [emb, PyData.depth], fun h => by cases h⟩
  | int => exact fun _ => ⟨fun _ a => by simp [emb, PyData.depth], fun h => by cases h⟩
  | str => exact fun _ => ⟨fun _ a => by simp [emb, PyData.depth], fun h => by cases h⟩
  | any => exact fun h => by cases h
  | dict _ _ => exact fun h => by cases h
  | opt t ih => exact fun h => by cases h
  | vtup t ih =>
    intro q
    simp only [Ty.alk, Bool.and_eq_true, Bool.not_eq_true'] at q
    refine ⟨fun _ a => ?_, fun h => by cases h⟩
    have := depth_maps ((ih q.2).1 q.1) a
    simp only [emb, PyData.depth, Ty.dep]
    omega
  | list t ih =>
    intro q
    simp only [Ty.alk, Bool.and_eq_true, Bool.not_eq_true'] at q
    refine ⟨fun _ a => ?_, fun h => by cases h⟩
    have := depth_maps ((ih q.2).1 q.1) a
    simp only [emb, PyData.depth, Ty.dep]
    omega
  | own t ih =>
    intro q
    simp only [Ty.alk, Bool.and_eq_true, Bool.not_eq_true'] at q
    exact ⟨fun _ => (ih q.2).1 q.1, fun h => by cases h⟩
  | tup b ih =>
    intro q
    simp only [Ty.alk, Bool.and_eq_true] at q
    refine ⟨fun _ a => ?_, fun h => by cases h⟩
    have := (ih q.2).2 q.1 a
    simp only [emb, PyData.depth, Ty.dep]
    omega
  | hl b ih =>
    intro q
    simp only [Ty.alk, Bool.and_eq_true] at q
    refine ⟨fun _ a => ?_, fun h => by cases h⟩
    have := (ih q.2).2 q.1 a
    simp only [emb, PyData.depth, Ty.dep]
    omega
  | last a ih =>
    intro q
    simp only [Ty.alk, Bool.and_eq_true, Bool.not_eq_true'] at q
    refine ⟨fun h => (by cases h), fun _ x => ?_⟩
    have := (ih q.2).1 q.1 x
    simp only [emb, PyData.depthAll, Ty.dep]
    omega
  | cons a b iha ihb =>
    intro q
    simp only [Ty.alk, Bool.and_eq_true, Bool.not_eq_true'] at q
    refine ⟨fun h => (by cases h), fun _ x => ?_⟩
    have h1 := (iha q.2.1).1 q.1 x.1
    have h2 := (ihb q.2.2.2).2 q.2.2.1 x.2
    simp only [emb, PyData.depthAll, Ty.dep]
    omega
/-- tuples of unlike parts, or no tuples at all -/
def Ty.sorts : Ty → Bool
  | .bool => true
  | .int => true
  | .str => true
  | .list _ => true
  | .tup b => b.isRow
  | _ => false
theorem sortB_all {t : Ty} (h : okSort t = true) (hd : t.dep ≤ 60) (h2 : (∀ x : den t, isTup ((emb t).1 x) = true) ∨ (∀ x : den t, isOne ((emb t).1 x) = true)) (d : List (den t)) : sortB (d.map (emb t).1) = true := by
  simp only [okSort, Bool.and_eq_true, Bool.not_eq_true'] at h
  unfold sortB
  rw [Bool.and_eq_true, Bool.and_eq_true, Bool.or_eq_true]
  simp only [List.all_eq_true, List.mem_map, decide_eq_true_eq]
  refine ⟨?_, ?_, ?_⟩
  · rintro _ ⟨a, _, rfl⟩ _ ⟨b, _, rfl⟩
    exact (alike_ty t h.2.1).1 h.1 a b
  · rcases h2 with q | q
    · exact .inl (by rintro _ ⟨a, _, rfl⟩; exact q a)
    · exact .inr (by rintro _ ⟨a, _, rfl⟩; exact q a)
  · rintro _ ⟨a, _, rfl⟩
    exact Nat.le_trans ((depth_ty t h.2.1).1 h.1 a) hd
theorem row_cons : ∀ {b : Ty}, b.isRow = true → ∀ d : den b, ∃ x r, (emb b).2 d = x :: r
  | .last a, _, d => ⟨_, _, rfl⟩
  | .cons a b, _, d => ⟨_, _, rfl⟩
  | .non, h, _ => by cases h
  | .bool, h, _ => by cases h
  | .int, h, _ => by cases h
  | .str, h, _ => by cases h
  | .any, h, _ => by cases h
  | .opt _, h, _ => by cases h
  | .vtup _, h, _ => by cases h
  | .list _, h, _ => by cases h
  | .dict _ _, h, _ => by cases h
  | .own _, h, _ => by cases h
  | .hl _, h, _ => by cases h
  | .tup _, h, _ => by cases h
theorem fSort_ok {t : Ty} (h : okSort t = true) (hs : t.sorts = true) (hd : t.dep ≤ 60) (d : List (den t)) : fSort t d = some (sortT t d) := by
  refine okIf_true (sortB_all h hd ?_ d)
  cases t <;> first | (cases hs; done) | skip
  · exact .inr fun x => rfl
  · exact .inr fun x => rfl
  · exact .inr fun x => rfl
  · exact .inr fun x => rfl
  · rename_i b
    refine .inl fun x => ?_
    obtain ⟨y, r, e⟩ := row_cons (b := b) hs x
    show isTup (.tuple ((emb b).2 x)) = true
    rw [e]
    rfl
/-- rows of tuples that are not empty -/
theorem fSort_vtup {t : Ty} (h : okSort (.vtup t) = true) (hd : t.dep ≤ 59) (d : List (List (den t))) (hn : ∀ x ∈ d, x ≠ []) : fSort (.vtup t) d = some (sortT (.vtup t) d) := by
  refine okIf_true ?_
  have h' := h
  simp only [okSort, Bool.and_eq_true, Bool.not_eq_true'] at h
  unfold sortB
  rw [Bool.and_eq_true, Bool.and_eq_true, Bool.or_eq_true]
  simp only [List.all_eq_true, List.mem_map, decide_eq_true_eq]
  refine ⟨?_, .inl ?_, ?_⟩
  · rintro _ ⟨a, _, rfl⟩ _ ⟨b, _, rfl⟩
    exact (alike_ty (.vtup t) h.2.1).1 h.1 a b
  · rintro _ ⟨a, ha, rfl⟩
    cases a with
    | nil => exact absurd rfl (hn _ ha)
    | cons x r => rfl
  · rintro _ ⟨a, _, rfl⟩
    exact Nat.le_trans ((depth_ty (.vtup t) h.2.1).1 h.1 a) (Nat.succ_le_succ hd)
end VV

/-! VPure3: what a mirror gives, step by step (Ok). -/
namespace VV
open PySem L2
/-- (simp does not look into what such a thing depends on) -/
structure Kp {α : Sort _} (Q : α) : Type where
/-- it gives something, and that is so -/
def Ok {α : Type} (o : Option α) (Q : α → Prop) (_ : Kp Q := ⟨⟩) : Prop := ∃ a, o = some a ∧ Q a
def Wif (c : Bool) (A B : Prop) (_ : Kp A := ⟨⟩) (_ : Kp B := ⟨⟩) : Prop := if c = true then A else B
section
variable {α β : Type}
theorem Ok_some {a : α} {Q : α → Prop} : Ok (some a) Q = Q a := propext ⟨fun ⟨_, e, h⟩ => by cases e; exact h, fun h => ⟨a, rfl, h⟩⟩
theorem Ok_none {Q : α → Prop} : Ok (none : Option α) Q = False := propext ⟨fun ⟨_, e, _⟩ => (by cases e), False.elim⟩
theorem Ok_bind {o : Option α} {f : α → Option β} {Q : β → Prop} : Ok (o.bind f) Q = Ok o fun a => Ok (f a) Q := propext ⟨fun ⟨b, e, h⟩ => by
  obtain ⟨a, e1, e2⟩ := Option.bind_eq_some_iff.mp e
  exact ⟨a, e1, b, e2, h⟩, fun ⟨a, e1, b, e2, h⟩ => ⟨b, Option.bind_eq_some_iff.mpr ⟨a, e1, e2⟩, h⟩⟩
theorem Ok_okIf {c : Bool} {a : α} {Q : α → Prop} : Ok (okIf c a) Q = (c = true ∧ Q a) := by
  unfold okIf
  cases c with
  | true => simp [Ok_some]
  | false => simp [Ok_none]
theorem Ok_guard {p : Prop} [Decidable p] {a : α} {Q : α → Prop} : Ok (if p then some a else none) Q = (p ∧ Q a) := by
  by_cases h : p
  · rw [if_pos h, Ok_some]; exact propext ⟨fun q => ⟨h, q⟩, fun q => q.2⟩
  · rw [if_neg h, Ok_none]; exact propext ⟨False.elim, fun q => h q.1⟩
theorem Ok_ite {c : Bool} {A B : Option α} {Q : α → Prop} : Ok (if c = true then A else B) Q = Wif c (Ok A Q) (Ok B Q) := by
  unfold Wif
  cases c <;> rfl
theorem Ok_map {o : Option α} {f : α → β} {Q : β → Prop} : Ok (o.map f) Q = Ok o fun a => Q (f a) := by
  cases o with
  | none => rw [Option.map_none, Ok_none, Ok_none]
  | some a => rw [Option.map_some, Ok_some, Ok_some]
theorem Wif_true {A B : Prop} : Wif true A B = A := rfl
theorem Wif_false {A B : Prop} : Wif false A B = B := rfl
theorem Wif_of {c : Bool} {A B : Prop} (h1 : c = true → A) (h2 : c = false → B) : Wif c A B := by
  cases c with
  | true => exact h1 rfl
  | false => exact h2 rfl
theorem Wif_dec {p : Prop} {i : Decidable p} {A B : Prop} (h1 : p → A) (h2 : ¬ p → B) : Wif (decide p) A B := Wif_of (fun h => h1 (of_decide_eq_true h)) fun h => h2 (of_decide_eq_false h)
theorem Wif_ndec {p : Prop} {i : Decidable p} {A B : Prop} (h1 : ¬ p → A) (h2 : p → B) : Wif (!decide p) A B := Wif_of (fun h => h1 (by simpa using h)) fun h => h2 (by simpa using h)
theorem Wif_same {c : Bool} {A : Prop} (h : A) : Wif c A A := Wif_of (fun _ => h) fun _ => h
theorem Ok.mono {o : Option α} {P Q : α → Prop} (h : Ok o P) (hq : ∀ a, P a → Q a) : Ok o Q := by
  obtain ⟨a, e, p⟩ := h
  exact ⟨a, e, hq a p⟩
theorem Ok.of {o : Option α} {a : α} {Q : α → Prop} (e : o = some a) (h : Q a) : Ok o Q := ⟨a, e, h⟩
theorem Ok.eq {o : Option α} {a : α} (h : Ok o (· = a)) : o = some a := by
  obtain ⟨b, e, rfl⟩ := h
  exact e
theorem Ok.is {o : Option α} {a : α} (h : o = some a) : Ok o (· = a) := ⟨a, h, rfl⟩
end
/-! ### loops -/
/-- how a turn ends -/
def Turn {G ρ : Type} (mask : G → G) (Q : Fl G ρ → Prop) (N : G → Prop) : Fl G ρ → Prop
  | .nx Γ => N (mask Γ)
  | .ct Γ => N (mask Γ)
  | .bk Γ => Q (.nx (mask Γ))
  | .rt d Γ => Q (.rt d Γ)
section
variable {G ρ α S : Type} {mask : G → G} {Q : Fl G ρ → Prop} {N : G → Prop} {Γ : G}
theorem Turn_nx : Turn mask Q N (.nx Γ) = N (mask Γ) := rfl
theorem Turn_ct : Turn mask Q N (.ct Γ) = N (mask Γ) := rfl
theorem Turn_bk : Turn mask Q N (.bk Γ) = Q (.nx (mask Γ)) := rfl
theorem Turn_rt {d : ρ} : Turn mask Q N (.rt d Γ) = Q (.rt d Γ) := rfl
/-- the state is s, and that is so -/
def At {G S : Type} (st : S → G) (P : S → Prop) (Γ : G) (_ : Kp st := ⟨⟩) (_ : Kp P := ⟨⟩) : Prop := ∃ s, Γ = st s ∧ P s
theorem At.mk {G S : Type} {st : S → G} {P : S → Prop} (s : S) {Γ : G} (h : Γ = st s) (hp : P s) : At st P Γ := ⟨s, h, hp⟩
theorem Ok_forL {bind : α → G → G} {body : G → Option (Fl G ρ)} (st : S → G) (I : List α → S → Prop) : ∀ (xs pre : List α) (s : S), I pre s →
    (∀ p x q s, pre ++ xs = p ++ x :: q → I p s → Ok (body (bind x (st s))) (Turn mask Q fun Γ => At st (I (p ++ [x])) Γ)) → (∀ s, I (pre ++ xs) s → Q (.nx (st s))) → Ok (forL bind mask body xs (st s)) Q
  | [], pre, s, h, _, he => ⟨_, rfl, he s (by simpa using h)⟩
  | x :: xs, pre, s, h, hs, he => by
    obtain ⟨r, e, ht⟩ := hs pre x xs s rfl h
    have ih := fun (s' : S) (h' : I (pre ++ [x]) s') => Ok_forL st I xs (pre ++ [x]) s' h' (fun p y q s e => hs p y q s (by rw [← e]; simp)) (by simpa using he)
    rw [forL, e]
    cases r with
    | nx Γ' =>
      obtain ⟨s', e', h'⟩ := ht
      show Ok (forL bind mask body xs (mask Γ')) Q
      rw [e']
      exact ih s' h'
    | ct Γ' =>
      obtain ⟨s', e', h'⟩ := ht
      show Ok (forL bind mask body xs (mask Γ')) Q
      rw [e']
      exact ih s' h'
    | bk Γ' => exact ⟨_, rfl, ht⟩
    | rt d Γ' => exact ⟨_, rfl, ht⟩
theorem Ok_sFor {bind : α → G → G} {body : G → Option (Fl G ρ)} {F : G → Option (List α)} (xs : List α) (st : S → G) (I : List α → S → Prop) (s0 : S) (hF : Ok (F Γ) (· = xs)) (h0 : mask Γ = st s0) (hI : I [] s0)
    (hs : ∀ p x q s, xs = p ++ x :: q → I p s → Ok (body (bind x (st s))) (Turn mask Q fun Γ => At st (I (p ++ [x])) Γ)) (he : ∀ s, I xs s → Q (.nx (st s))) : Ok (sFor F bind mask body Γ) Q := by
  unfold sFor
  rw [hF.eq, Option.bind_some, h0]
  exact Ok_forL st I xs [] s0 hI hs he
theorem Ok_sWhileR {c : G → Option Bool} {body : G → Option (Fl G ρ)} (st : S → G) (I : S → Prop) (r : S → S → Prop) (s0 : S) (hw : WellFounded r) (h0 : mask Γ = st s0) (hI : I s0)
    (hs : ∀ s, I s → Ok (c (st s)) fun b => Wif b (Ok (body (st s)) (Turn mask Q fun Γ => At st (fun s' => I s' ∧ r s' s) Γ)) (Q (.nx (st s)))) : Ok (sWhile c mask body Γ) Q := by
  have key : ∀ s : S, I s → ∃ n f, whileN c mask body n (st s) = some f ∧ Q f := fun s => by
    refine hw.induction (C := fun s => I s → ∃ n f, whileN c mask body n (st s) = some f ∧ Q f) s fun s ih h => ?_
    obtain ⟨b, eb, hb⟩ := hs s h
    cases b with
    | false => exact ⟨1, .nx (st s), by rw [whileN, eb]; rfl, hb⟩
    | true =>
      obtain ⟨f, ef, ht⟩ := (hb : Ok _ _)
      cases f with
      | nx Γ' =>
        obtain ⟨s', e', h', hr⟩ := ht
        obtain ⟨n, f, e2, q2⟩ := ih s' hr h'
        refine ⟨n + 1, f, ?_, q2⟩
        rw [whileN, eb]
        show ((body (st s)).bind _) = _
        rw [ef]
        show whileN c mask body n (mask Γ') = _
        rw [e', e2]
      | ct Γ' =>
        obtain ⟨s', e', h', hr⟩ := ht
        obtain ⟨n, f, e2, q2⟩ := ih s' hr h'
        refine ⟨n + 1, f, ?_, q2⟩
        rw [whileN, eb]
        show ((body (st s)).bind _) = _
        rw [ef]
        show whileN c mask body n (mask Γ') = _
        rw [e', e2]
      | bk Γ' =>
        refine ⟨1, .nx (mask Γ'), ?_, ht⟩
        rw [whileN, eb]
        show ((body (st s)).bind _) = _
        rw [ef]
        rfl
      | rt d Γ' =>
        refine ⟨1, .rt d Γ', ?_, ht⟩
        rw [whileN, eb]
        show ((body (st s)).bind _) = _
        rw [ef]
        rfl
  obtain ⟨n, f, e, q⟩ := key s0 hI
  exact ⟨f, sWhile_of (n := n) (by rw [h0]; exact e), q⟩
theorem Ok_sWhile {c : G → Option Bool} {body : G → Option (Fl G ρ)} (st : S → G) (I : S → Prop) (μ : S → Nat) (s0 : S) (h0 : mask Γ = st s0) (hI : I s0)
    (hs : ∀ s, I s → Ok (c (st s)) fun b => Wif b (Ok (body (st s)) (Turn mask Q fun Γ => At st (fun s' => I s' ∧ μ s' < μ s) Γ)) (Q (.nx (st s)))) : Ok (sWhile c mask body Γ) Q :=
  Ok_sWhileR st I (fun a b => μ a < μ b) s0 (measure μ).wf h0 hI hs
/-- for k in range(e), e with effects -/
theorem Ok_sForX {body : G → Option (Fl G ρ)} {F : G → Option (Int × G)} {bind : Int → G → G} (N : Nat) (st : S → G) (I : S → Prop) (hN : N < 2 ^ 60) (hF : Ok (F Γ) fun p => 0 ≤ p.1 ∧ p.1 ≤ N ∧ At st I (mask p.2))
    (hs : ∀ (k : Int) s, 0 ≤ k → k < N → I s → Ok (body (bind k (st s))) (Turn mask Q fun Γ => At st I Γ)) (he : ∀ s, I s → Q (.nx (st s))) : Ok (sForX F bind mask body Γ) Q := by
  obtain ⟨⟨n, Γ1⟩, e, h1, h2, s, h3, h4⟩ := hF
  obtain ⟨m, rfl⟩ := Int.eq_ofNat_of_zero_le h1
  unfold sForX
  rw [e, Option.bind_some]
  have h2 : m ≤ N := by
    have h2 : (m : Int) ≤ N := h2
    omega
  refine Ok_sFor (rng 0 (m : Int)) st (fun _ => I) s (.is (fRng1_of (by omega))) h3 h4 (fun p x q s hx hi => ?_) fun s hi => he s hi
  obtain ⟨h5, rfl⟩ := rng_split hx
  exact hs _ s (by omega) (by omega) hi
/-- the same, turn by turn -/
theorem Ok_sForX2 {body : G → Option (Fl G ρ)} {F : G → Option (Int × G)} {bind : Int → G → G} (N : Nat) (st : S → G) (I : Nat → S → Prop) (hN : N < 2 ^ 60) (hF : Ok (F Γ) fun p => 0 ≤ p.1 ∧ p.1 ≤ N ∧ At st (I 0) (mask p.2))
    (hs : ∀ (k : Nat) s, k < N → I k s → Ok (body (bind k (st s))) (Turn mask Q fun Γ => At st (I (k + 1)) Γ)) (he : ∀ k s, k ≤ N → I k s → Q (.nx (st s))) : Ok (sForX F bind mask body Γ) Q := by
  obtain ⟨⟨n, Γ1⟩, e, h1, h2, s, h3, h4⟩ := hF
  obtain ⟨m, rfl⟩ := Int.eq_ofNat_of_zero_le h1
  unfold sForX
  rw [e, Option.bind_some]
  have h2 : m ≤ N := by
    have h2 : (m : Int) ≤ N := h2
    omega
  refine Ok_sFor (rng 0 (m : Int)) st (fun p => I p.length) s (.is (fRng1_of (by omega))) h3 h4 (fun p x q s hx hi => ?_) fun s hi => he _ s (by rw [rng_len]; omega) hi
  obtain ⟨h5, rfl⟩ := rng_split hx
  rw [List.length_append]
  exact hs _ s (by omega) hi
end
/-! ### comprehensions -/
section
variable {G α β S : Type} {src : G → Option (List α)} {bind : α → G → G} {mask : G → G} {cond : G → Option Bool} {elt : G → Option β} {Γ : G} {Q : List β → Prop}
theorem Ok_eLc {xs : List α} (c : α → Bool) (f : α → β) (h1 : Ok (src Γ) (· = xs)) (hl : xs.length ≤ 4000000) (h2 : ∀ x ∈ xs, Ok (cond (bind x (mask Γ))) (· = c x)) (h3 : ∀ x ∈ xs, c x = true → Ok (elt (bind x (mask Γ))) (· = f x)) (hq : Q ((xs.filter c).map f)) : Ok (eLc src bind mask cond elt Γ) Q := by
  have := lcL_filter (bind := bind) (cond := cond) (elt := elt) (Γ := mask Γ) c f xs (fun x hx => (h2 x hx).eq) (fun x hx hc => (h3 x hx hc).eq)
  refine ⟨_, eLc_of h1.eq this (lenOk_le2 ?_), hq⟩
  have := List.length_filter_le c xs
  rw [List.length_map]
  omega
theorem Ok_eLcM {xs : List α} (f : α → β) (h1 : Ok (src Γ) (· = xs)) (hl : xs.length ≤ 4000000) (h3 : ∀ x ∈ xs, Ok (elt (bind x (mask Γ))) (· = f x)) (hq : Q (xs.map f)) : Ok (eLc src bind mask eYes elt Γ) Q :=
  ⟨_, eLc_map f h1.eq hl (fun x hx => (h3 x hx).eq), hq⟩
/-- of things that are only known by a law -/
theorem Ok_eLcP {xs : List α} (P : α → β → Prop) (h1 : Ok (src Γ) (· = xs)) (hl : xs.length ≤ 4000000) (h3 : ∀ x ∈ xs, Ok (elt (bind x (mask Γ))) (P x)) (hq : ∀ r, r.length = xs.length → F2 P xs r → Q r) : Ok (eLc src bind mask eYes elt Γ) Q := by
  obtain ⟨r, e, k1, k2⟩ := eLc_ex (src := src) (bind := bind) (mask := mask) (elt := elt) P h1.eq hl h3
  exact ⟨r, e, hq r k1 k2⟩
end
theorem Ok_eLcX {G β S : Type} {src : G → Option (Int × G)} {bind : Int → G → G} {mask : G → G} {elt : G → Option (β × G)} {Γ : G} {Q : List β × G → Prop} (N : Nat) (st : S → G) (I : S → Prop) (P : β → Prop) (hN : N ≤ 4000000) (hF : Ok (src Γ) fun p => 0 ≤ p.1 ∧ p.1 ≤ N ∧ At st I (mask p.2))
    (hs : ∀ (k : Int) s, 0 ≤ k → k < N → I s → Ok (elt (bind k (st s))) fun p => P p.1 ∧ At st I (mask p.2)) (hq : ∀ l s, (∀ x ∈ l, P x) → l.length ≤ N → I s → Q (l, st s)) : Ok (eLcX src bind mask elt Γ) Q := by
  obtain ⟨⟨n, Γ1⟩, e, h1, h2, s, h3, h4⟩ := hF
  obtain ⟨m, rfl⟩ := Int.eq_ofNat_of_zero_le h1
  have h2 : m ≤ N := by
    have h2 : (m : Int) ≤ N := h2
    omega
  have key : ∀ (xs : List Int) (s : S), (∀ x ∈ xs, 0 ≤ x ∧ x < N) → I s → ∃ l s', lcX bind mask elt xs (st s) = some (l, st s') ∧ (∀ x ∈ l, P x) ∧ l.length = xs.length ∧ I s' := by
    intro xs
    induction xs with
    | nil => exact fun s _ hi => ⟨[], s, rfl, fun x hx => by simp at hx, rfl, hi⟩
    | cons x xs ih =>
      intro s hx hi
      obtain ⟨⟨y, Γ2⟩, e2, hp, s2, h5, hi2⟩ := hs x s (hx x List.mem_cons_self).1 (hx x List.mem_cons_self).2 hi
      obtain ⟨l, s3, e3, h6, h7, h8⟩ := ih s2 (fun y hy => hx y (List.mem_cons_of_mem _ hy)) hi2
      refine ⟨y :: l, s3, ?_, fun z hz => ?_, by simp [h7], h8⟩
      · rw [lcX, e2, Option.bind_some]
        show (lcX bind mask elt xs (mask Γ2)).bind _ = _
        rw [h5, e3]
        rfl
      · rcases List.mem_cons.mp hz with rfl | hz
        · exact hp
        · exact h6 z hz
  obtain ⟨l, s', e2, h5, h6, h7⟩ := key (rng 0 (m : Int)) s (fun x hx => by have := rng_mem.mp hx; omega) h4
  rw [rng_len] at h6
  have h6 : l.length = m := by omega
  refine ⟨(l, st s'), ?_, hq l s' h5 (by omega) h7⟩
  unfold eLcX
  rw [e, Option.bind_some]
  show (fRng1 (m : Int)).bind _ = _
  rw [fRng1_of (by omega), Option.bind_some, h3, e2, Option.bind_some, if_pos (lenOk_le2 (show l.length ≤ 4000000 by omega))]
/-! ### numbers, dicts -/
theorem mem_split {α : Type} {xs : List α} {x : α} {p q : List α} (h : xs = p ++ x :: q) : x ∈ xs := by rw [h]; simp
theorem fPut_ok {k : Ty} {β : Type} [DecidableEq (den k)] (h : okKey k = true) (d : List (den k × β)) (x : den k) (y : β) : fPutK d x y = lput d x y := putK_lput h d x y
theorem fInK_eq {k : Ty} {β : Type} [DecidableEq (den k)] (h : okKey k = true) (x : den k) (d : List (den k × β)) : fInK x d = some (look d x).isSome := by
  unfold fInK
  rw [getK_look h]
theorem fNotInK_eq {k : Ty} {β : Type} [DecidableEq (den k)] (h : okKey k = true) (x : den k) (d : List (den k × β)) : fNotInK x d = some (!(look d x).isSome) := by
  unfold fNotInK
  rw [getK_look h]
end VV

/-! VPure4: what each combinator of the mirrors gives (made by a program of ours). -/
namespace VV
open PySem L2
section
theorem Ok_cong {α : Type} {o : Option α} {Q Q' : α → Prop} (h : ∀ a, Q a = Q' a) : Ok o Q = Ok o Q' := by
  have : Q = Q' := funext h
  rw [this]
local macro_rules | `(tactic| walk_at "okp") => `(tactic| repeat (first | rfl | exact Ok_some | exact Ok_ite | (rw [Ok_ite, Ok_some]; done) | (simp only [Ok_ite, Ok_some]; done) | (simp only [Ok_ite, Ok_bind, Ok_some]; done) | exact Ok_guard | (rw [Ok_bind]; refine Ok_cong fun _ => ?_)))
variable {G α β γ δ ρ : Type} {Γ : G}
theorem Ok_eC {d : α} {Q : α → Prop} : @Ok (no_index _) (eC d Γ) Q (@Kp.mk (no_index _) Q) = Q d := by
  unfold eC
  walk_at "okp"
theorem Ok_eNil {Q : List α → Prop} : @Ok (no_index _) ((eNil : G → Option (List α)) Γ) Q (@Kp.mk (no_index _) Q) = Q [] := by
  unfold eNil
  walk_at "okp"
theorem Ok_eYes {Q : Bool → Prop} : @Ok (no_index _) (eYes Γ) Q (@Kp.mk (no_index _) Q) = Q true := by
  unfold eYes
  walk_at "okp"
theorem Ok_eV {ts : List Ty} {t : Ty} {i : Mem ts t} {Γ : Gam ts} {Q : den t → Prop} : @Ok (no_index _) (eV i Γ) Q (@Kp.mk (no_index _) Q) = Ok (i.get Γ) Q := by
  unfold eV
  walk_at "okp"
theorem Ok_e1 {f : α → Option β} {A : G → Option α} {Q : β → Prop} : @Ok (no_index _) (e1 f A Γ) Q (@Kp.mk (no_index _) Q) = Ok (A Γ) fun a => Ok (f a) Q := by
  unfold e1
  walk_at "okp"
theorem Ok_e2 {f : α → β → Option γ} {A : G → Option α} {B : G → Option β} {Q : γ → Prop} : @Ok (no_index _) (e2 f A B Γ) Q (@Kp.mk (no_index _) Q) = Ok (A Γ) fun a => Ok (B Γ) fun b => Ok (f a b) Q := by
  unfold e2
  walk_at "okp"
theorem Ok_e3 {f : α → β → γ → Option δ} {A : G → Option α} {B : G → Option β} {C : G → Option γ} {Q : δ → Prop} : @Ok (no_index _) (e3 f A B C Γ) Q (@Kp.mk (no_index _) Q) = Ok (A Γ) fun a => Ok (B Γ) fun b => Ok (C Γ) fun c => Ok (f a b c) Q := by
  unfold e3
  walk_at "okp"
theorem Ok_eNot {A : G → Option Bool} {Q : Bool → Prop} : @Ok (no_index _) (eNot A Γ) Q (@Kp.mk (no_index _) Q) = Ok (A Γ) fun c => Q (!c) := by
  unfold eNot
  walk_at "okp"
theorem Ok_eAnd {A B : G → Option Bool} {Q : Bool → Prop} : @Ok (no_index _) (eAnd A B Γ) Q (@Kp.mk (no_index _) Q) = Ok (A Γ) fun c => Wif c (Ok (B Γ) Q) (Q false) := by
  unfold eAnd
  walk_at "okp"
theorem Ok_eOr {A B : G → Option Bool} {Q : Bool → Prop} : @Ok (no_index _) (eOr A B Γ) Q (@Kp.mk (no_index _) Q) = Ok (A Γ) fun c => Wif c (Q true) (Ok (B Γ) Q) := by
  unfold eOr
  walk_at "okp"
theorem Ok_eIf {c : G → Option Bool} {A B : G → Option α} {Q : α → Prop} : @Ok (no_index _) (eIf c A B Γ) Q (@Kp.mk (no_index _) Q) = Ok (c Γ) fun b => Wif b (Ok (A Γ) Q) (Ok (B Γ) Q) := by
  unfold eIf
  walk_at "okp"
theorem Ok_eCons {A : G → Option α} {B : G → Option β} {Q : α × β → Prop} : @Ok (no_index _) (eCons A B Γ) Q (@Kp.mk (no_index _) Q) = Ok (A Γ) fun a => Ok (B Γ) fun b => Q (a, b) := by
  unfold eCons
  walk_at "okp"
theorem Ok_eSnoc {A : G → Option α} {B : G → Option (List α)} {Q : List α → Prop} : @Ok (no_index _) (eSnoc A B Γ) Q (@Kp.mk (no_index _) Q) = Ok (A Γ) fun a => Ok (B Γ) fun b => Q (a :: b) := by
  unfold eSnoc
  walk_at "okp"
theorem Ok_eProj {b t : Ty} {r : RIx b t} {A : G → Option (den b)} {Q : den t → Prop} : @Ok (no_index _) (eProj r A Γ) Q (@Kp.mk (no_index _) Q) = Ok (A Γ) fun d => Q (r.get d) := by
  unfold eProj
  walk_at "okp"
theorem Ok_eChain {f : α → β → Option Bool} {g : β → γ → Option Bool} {A : G → Option α} {B : G → Option β} {C : G → Option γ} {Q : Bool → Prop} : @Ok (no_index _) (eChain f g A B C Γ) Q (@Kp.mk (no_index _) Q) = Ok (A Γ) fun a => Ok (B Γ) fun b => Ok (f a b) fun k => Wif k (Ok (C Γ) fun c => Ok (g b c) Q) (Q false) := by
  unfold eChain
  rw [Ok_bind]
  refine Ok_cong fun a => ?_
  rw [Ok_bind]
  refine Ok_cong fun b => ?_
  rw [Ok_bind]
  refine Ok_cong fun k => ?_
  cases k with
  | true => exact Ok_bind
  | false => exact Ok_some
theorem Ok_eChain3 {f : α → β → Option Bool} {g : β → γ → Option Bool} {h : γ → δ → Option Bool} {A : G → Option α} {B : G → Option β} {C : G → Option γ} {D : G → Option δ} {Q : Bool → Prop} : @Ok (no_index _) (eChain3 f g h A B C D Γ) Q (@Kp.mk (no_index _) Q) = Ok (A Γ) fun a => Ok (B Γ) fun b => Ok (f a b) fun k => Wif k (Ok (C Γ) fun c => Ok (g b c) fun k2 => Wif k2 (Ok (D Γ) fun d => Ok (h c d) Q) (Q false)) (Q false) := by
  unfold eChain3
  rw [Ok_bind]
  refine Ok_cong fun a => ?_
  rw [Ok_bind]
  refine Ok_cong fun b => ?_
  rw [Ok_bind]
  refine Ok_cong fun k => ?_
  cases k with
  | true =>
    show Ok ((C Γ).bind _) Q = Ok _ _
    rw [Ok_bind]
    refine Ok_cong fun c => ?_
    rw [Ok_bind]
    refine Ok_cong fun k => ?_
    cases k with
    | true => exact Ok_bind
    | false => exact Ok_some
  | false => exact Ok_some
theorem Ok_ePure {A : G → Option α} {Q : α × G → Prop} : @Ok (no_index _) (ePure A Γ) Q (@Kp.mk (no_index _) Q) = Ok (A Γ) fun d => Q (d, Γ) := by
  unfold ePure
  walk_at "okp"
theorem Ok_eConsE {A : G → Option (α × G)} {B : G → Option (β × G)} {Q : (α × β) × G → Prop} : @Ok (no_index _) (eConsE A B Γ) Q (@Kp.mk (no_index _) Q) = Ok (A Γ) fun p => Ok (B p.2) fun q => Q ((p.1, q.1), q.2) := by
  unfold eConsE
  walk_at "okp"
theorem Ok_eX1 {f : α → Option γ} {A : G → Option (α × G)} {Q : γ × G → Prop} : @Ok (no_index _) (eX1 f A Γ) Q (@Kp.mk (no_index _) Q) = Ok (A Γ) fun p => Ok (f p.1) fun c => Q (c, p.2) := by
  unfold eX1
  walk_at "okp"
theorem Ok_eX2 {f : α → β → Option γ} {A : G → Option (α × G)} {B : G → Option (β × G)} {Q : γ × G → Prop} : @Ok (no_index _) (eX2 f A B Γ) Q (@Kp.mk (no_index _) Q) = Ok (A Γ) fun p => Ok (B p.2) fun q => Ok (f p.1 q.1) fun c => Q (c, q.2) := by
  unfold eX2
  walk_at "okp"
theorem Ok_eX3 {f : α → β → γ → Option δ} {A : G → Option (α × G)} {B : G → Option (β × G)} {C : G → Option (γ × G)} {Q : δ × G → Prop} : @Ok (no_index _) (eX3 f A B C Γ) Q (@Kp.mk (no_index _) Q) = Ok (A Γ) fun p => Ok (B p.2) fun q => Ok (C q.2) fun r => Ok (f p.1 q.1 r.1) fun c => Q (c, r.2) := by
  unfold eX3
  walk_at "okp"
theorem Ok_eXProj {b t : Ty} {r : RIx b t} {A : G → Option (den b × G)} {Q : den t × G → Prop} : @Ok (no_index _) (eXProj r A Γ) Q (@Kp.mk (no_index _) Q) = Ok (A Γ) fun p => Q (r.get p.1, p.2) := by
  unfold eXProj eX1
  walk_at "okp"
theorem Ok_eXAnd {A B : G → Option (Bool × G)} {Q : Bool × G → Prop} : @Ok (no_index _) (eXAnd A B Γ) Q (@Kp.mk (no_index _) Q) = Ok (A Γ) fun p => Wif p.1 (Ok (B p.2) Q) (Q (false, p.2)) := by
  unfold eXAnd
  walk_at "okp"
theorem Ok_eXOr {A B : G → Option (Bool × G)} {Q : Bool × G → Prop} : @Ok (no_index _) (eXOr A B Γ) Q (@Kp.mk (no_index _) Q) = Ok (A Γ) fun p => Wif p.1 (Q (true, p.2)) (Ok (B p.2) Q) := by
  unfold eXOr
  walk_at "okp"
theorem Ok_eXNot {A : G → Option (Bool × G)} {Q : Bool × G → Prop} : @Ok (no_index _) (eXNot A Γ) Q (@Kp.mk (no_index _) Q) = Ok (A Γ) fun p => Q (!p.1, p.2) := by
  unfold eXNot
  walk_at "okp"
theorem Ok_eXSnoc {A : G → Option (α × G)} {B : G → Option (List α × G)} {Q : List α × G → Prop} : @Ok (no_index _) (eXSnoc A B Γ) Q (@Kp.mk (no_index _) Q) = Ok (A Γ) fun p => Ok (B p.2) fun q => Q (p.1 :: q.1, q.2) := by
  unfold eXSnoc eX2
  walk_at "okp"
theorem Ok_eSomeE {A : G → Option (α × G)} {Q : Option α × G → Prop} : @Ok (no_index _) (eSomeE A Γ) Q (@Kp.mk (no_index _) Q) = Ok (A Γ) fun p => Q (some p.1, p.2) := by
  unfold eSomeE
  walk_at "okp"
theorem Ok_eMove {ts : List Ty} {Γ : Gam ts} {t : Ty} {i : Mem ts t} {Q : den t × Gam ts → Prop} : @Ok (no_index _) (eMove i Γ) Q (@Kp.mk (no_index _) Q) = Ok (i.get Γ) fun d => Q (d, i.set none Γ) := by
  unfold eMove
  walk_at "okp"
theorem Ok_ePop {ts : List Ty} {Γ : Gam ts} {t : Ty} {i : Mem ts (.list t)} {Q : den t × Gam ts → Prop} : @Ok (no_index _) (ePop i Γ) Q (@Kp.mk (no_index _) Q) = Ok (i.get Γ) fun xs => Ok xs.getLast? fun d => Q (d, i.set (some xs.dropLast) Γ) := by
  unfold ePop
  walk_at "okp"
theorem Ok_ePopH {ts : List Ty} {Γ : Gam ts} {b t : Ty} {i : Mem ts (.hl b)} {r : RIx b (.own (.list t))} {Q : den t × Gam ts → Prop} : @Ok (no_index _) (ePopH i r Γ) Q (@Kp.mk (no_index _) Q) = Ok (i.get Γ) fun d => Ok (List.getLast? (r.get d : List (den t))) fun y => Q (y, i.set (some (r.put d (List.dropLast (r.get d : List (den t))))) Γ) := by
  unfold ePopH
  walk_at "okp"
theorem Ok_eIO {ts : List Ty} {Γ : Gam ts} {b tio : Ty} {ρ : Type} {i : Mem ts tio} {m : den b → Option (ρ × den tio)} {F : Gam ts → Option (den b)} {Q : ρ × Gam ts → Prop} : @Ok (no_index _) (eIO i m F Γ) Q (@Kp.mk (no_index _) Q) = Ok (F Γ) fun d => Ok (m d) fun res => Q (res.1, i.set (some res.2) Γ) := by
  unfold eIO
  walk_at "okp"
theorem Ok_eIO1 {ts : List Ty} {Γ : Gam ts} {tio : Ty} {ρ : Type} {i : Mem ts tio} {m : den tio → Option (ρ × den tio)} {Q : ρ × Gam ts → Prop} : @Ok (no_index _) (eIO1 i m Γ) Q (@Kp.mk (no_index _) Q) = Ok (i.get Γ) fun d => Ok (m d) fun res => Q (res.1, i.set (some res.2) Γ) := by
  unfold eIO1
  walk_at "okp"
theorem Ok_eIOz {ts : List Ty} {Γ : Gam ts} {b tio : Ty} {ρ : Type} {i : Mem ts tio} {m : den tio × den b → Option (ρ × den tio)} {F : Gam ts → Option (den b × Gam ts)} {Q : ρ × Gam ts → Prop} : @Ok (no_index _) (eIOz i m F Γ) Q (@Kp.mk (no_index _) Q) = Ok (i.get Γ) fun _ => Ok (F Γ) fun p => Ok (i.get p.2) fun x => Ok (m (x, p.1)) fun res => Q (res.1, i.set (some res.2) p.2) := by
  unfold eIOz
  walk_at "okp"
theorem Ok_sNext {Q : Fl G ρ → Prop} : @Ok (no_index _) ((sNext : G → Option (Fl G ρ)) Γ) Q (@Kp.mk (no_index _) Q) = Q (.nx Γ) := by
  unfold sNext
  walk_at "okp"
theorem Ok_sBreak {Q : Fl G ρ → Prop} : @Ok (no_index _) ((sBreak : G → Option (Fl G ρ)) Γ) Q (@Kp.mk (no_index _) Q) = Q (.bk Γ) := by
  unfold sBreak
  walk_at "okp"
theorem Ok_sCont {Q : Fl G ρ → Prop} : @Ok (no_index _) ((sCont : G → Option (Fl G ρ)) Γ) Q (@Kp.mk (no_index _) Q) = Q (.ct Γ) := by
  unfold sCont
  walk_at "okp"
theorem Ok_sNever {Q : Fl G ρ → Prop} : @Ok (no_index _) ((sNever : G → Option (Fl G ρ)) Γ) Q (@Kp.mk (no_index _) Q) = False := by
  unfold sNever
  exact Ok_none
theorem Ok_sIf {c : G → Option Bool} {A B : G → Option (Fl G ρ)} {Q : Fl G ρ → Prop} : @Ok (no_index _) (sIf c A B Γ) Q (@Kp.mk (no_index _) Q) = Ok (c Γ) fun b => Wif b (Ok (A Γ) Q) (Ok (B Γ) Q) := by
  unfold sIf
  walk_at "okp"
theorem Ok_sIfE {c : G → Option (Bool × G)} {A B : G → Option (Fl G ρ)} {Q : Fl G ρ → Prop} : @Ok (no_index _) (sIfE c A B Γ) Q (@Kp.mk (no_index _) Q) = Ok (c Γ) fun b => Wif b.1 (Ok (A b.2) Q) (Ok (B b.2) Q) := by
  unfold sIfE
  walk_at "okp"
theorem Ok_sRet {A : G → Option ρ} {Q : Fl G ρ → Prop} : @Ok (no_index _) (sRet A Γ) Q (@Kp.mk (no_index _) Q) = Ok (A Γ) fun d => Q (.rt d Γ) := by
  unfold sRet
  walk_at "okp"
theorem Ok_sRetE {A : G → Option (ρ × G)} {Q : Fl G ρ → Prop} : @Ok (no_index _) (sRetE A Γ) Q (@Kp.mk (no_index _) Q) = Ok (A Γ) fun p => Q (.rt p.1 p.2) := by
  unfold sRetE
  walk_at "okp"
theorem Ok_sAsg {A : G → Option α} {B : α → G → G} {Q : Fl G ρ → Prop} : @Ok (no_index _) (sAsg A B Γ) Q (@Kp.mk (no_index _) Q) = Ok (A Γ) fun d => Q (.nx (B d Γ)) := by
  unfold sAsg
  walk_at "okp"
theorem Ok_sAsgE {A : G → Option (α × G)} {B : α → G → G} {Q : Fl G ρ → Prop} : @Ok (no_index _) (sAsgE A B Γ) Q (@Kp.mk (no_index _) Q) = Ok (A Γ) fun d => Q (.nx (B d.1 d.2)) := by
  unfold sAsgE
  walk_at "okp"
theorem Ok_sDrop {A : G → Option α} {Q : Fl G ρ → Prop} : @Ok (no_index _) (sDrop A Γ) Q (@Kp.mk (no_index _) Q) = Ok (A Γ) fun _ => Q (.nx Γ) := by
  unfold sDrop
  walk_at "okp"
theorem Ok_sUnl {A : G → Option (List α)} {B : List (α → G → G)} {Q : Fl G ρ → Prop} : @Ok (no_index _) (sUnl A B Γ) Q (@Kp.mk (no_index _) Q) = Ok (A Γ) fun d => d.length = B.length ∧ Q (.nx (bindAll B d Γ)) := by
  unfold sUnl
  walk_at "okp"
theorem Ok_sRetM {ts : List Ty} {Γ : Gam ts} {t : Ty} {i : Mem ts t} {Q : Fl (Gam ts) (den t) → Prop} : @Ok (no_index _) (sRetM i Γ) Q (@Kp.mk (no_index _) Q) = Ok (i.get Γ) fun d => Q (.rt d (i.set none Γ)) := by
  unfold sRetM
  walk_at "okp"
theorem Ok_sSet {ts : List Ty} {Γ : Gam ts} {ρ : Type} {Q : Fl (Gam ts) ρ → Prop} {t : Ty} {i : Mem ts t} {A : Gam ts → Option (den t)} : @Ok (no_index _) (sSet i A Γ) Q (@Kp.mk (no_index _) Q) = Ok (A Γ) fun d => Q (.nx (i.set (some d) Γ)) := by
  unfold sSet
  walk_at "okp"
theorem Ok_sSetX {ts : List Ty} {Γ : Gam ts} {ρ : Type} {Q : Fl (Gam ts) ρ → Prop} {t : Ty} {i : Mem ts t} {A : Gam ts → Option (den t × Gam ts)} : @Ok (no_index _) (sSetX i A Γ) Q (@Kp.mk (no_index _) Q) = Ok (A Γ) fun p => Q (.nx (i.set (some p.1) p.2)) := by
  unfold sSetX
  walk_at "okp"
theorem Ok_sMove {ts : List Ty} {Γ : Gam ts} {ρ : Type} {Q : Fl (Gam ts) ρ → Prop} {t : Ty} {i j : Mem ts t} : @Ok (no_index _) (sMove i j Γ) Q (@Kp.mk (no_index _) Q) = Ok (j.get Γ) fun d => Q (.nx (i.set (some d) (j.set none Γ))) := by
  unfold sMove
  walk_at "okp"
theorem Ok_sLst {ts : List Ty} {Γ : Gam ts} {ρ : Type} {Q : Fl (Gam ts) ρ → Prop} {t : Ty} {i : Mem ts (.list t)} {g : List (den t) → List (den t)} : @Ok (no_index _) (sLst i g Γ) Q (@Kp.mk (no_index _) Q) = Ok (i.get Γ) fun xs => Q (.nx (i.set (some (g xs)) Γ)) := by
  unfold sLst
  walk_at "okp"
theorem Ok_sApp {ts : List Ty} {Γ : Gam ts} {ρ : Type} {Q : Fl (Gam ts) ρ → Prop} {t : Ty} {i : Mem ts (.list t)} {F : Gam ts → Option (den t)} : @Ok (no_index _) (sApp i F Γ) Q (@Kp.mk (no_index _) Q) = Ok (i.get Γ) fun xs => Ok (F Γ) fun d => xs.length < sizeLine ∧ Q (.nx (i.set (some (xs ++ [d])) Γ)) := by
  unfold sApp
  walk_at "okp"
theorem Ok_sAppE {ts : List Ty} {Γ : Gam ts} {ρ : Type} {Q : Fl (Gam ts) ρ → Prop} {t : Ty} {i : Mem ts (.list t)} {F : Gam ts → Option (den t × Gam ts)} : @Ok (no_index _) (sAppE i F Γ) Q (@Kp.mk (no_index _) Q) = Ok (i.get Γ) fun _ => Ok (F Γ) fun p => Ok (i.get p.2) fun xs => xs.length < sizeLine ∧ Q (.nx (i.set (some (xs ++ [p.1])) p.2)) := by
  unfold sAppE
  walk_at "okp"
theorem Ok_sExt {ts : List Ty} {Γ : Gam ts} {ρ : Type} {Q : Fl (Gam ts) ρ → Prop} {t : Ty} {i : Mem ts (.list t)} {F : Gam ts → Option (List (den t))} : @Ok (no_index _) (sExt i F Γ) Q (@Kp.mk (no_index _) Q) = Ok (i.get Γ) fun xs => Ok (F Γ) fun d => lenOk (xs.length + d.length) = true ∧ Q (.nx (i.set (some (xs ++ d)) Γ)) := by
  unfold sExt
  walk_at "okp"
theorem Ok_sLput {ts : List Ty} {Γ : Gam ts} {ρ : Type} {Q : Fl (Gam ts) ρ → Prop} {t : Ty} {i : Mem ts (.list t)} {F : Gam ts → Option (den t)} {G : Gam ts → Option Int} : @Ok (no_index _) (sLput i F G Γ) Q (@Kp.mk (no_index _) Q) = Ok (i.get Γ) fun xs => Ok (F Γ) fun d => Ok (G Γ) fun k => Ok (ixN xs.length k) fun j => Q (.nx (i.set (some (xs.set j d)) Γ)) := by
  unfold sLput
  walk_at "okp"
theorem Ok_sLputX {ts : List Ty} {Γ : Gam ts} {ρ : Type} {Q : Fl (Gam ts) ρ → Prop} {t : Ty} {i : Mem ts (.list t)} {F : Gam ts → Option (den t × Gam ts)} {G : Gam ts → Option (Int × Gam ts)} : @Ok (no_index _) (sLputX i F G Γ) Q (@Kp.mk (no_index _) Q) = Ok (F Γ) fun p => Ok (i.get p.2) fun _ => Ok (G p.2) fun q => Ok (i.get q.2) fun xs => Ok (ixN xs.length q.1) fun j => Q (.nx (i.set (some (xs.set j p.1)) q.2)) := by
  unfold sLputX
  walk_at "okp"
theorem Ok_sHput {ts : List Ty} {Γ : Gam ts} {ρ : Type} {Q : Fl (Gam ts) ρ → Prop} {b t : Ty} {i : Mem ts (.hl b)} {r : RIx b t} {F : Gam ts → Option (den t × Gam ts)} : @Ok (no_index _) (sHput i r F Γ) Q (@Kp.mk (no_index _) Q) = Ok (F Γ) fun p => Ok (i.get p.2) fun d => Q (.nx (i.set (some (r.put d p.1)) p.2)) := by
  unfold sHput
  walk_at "okp"
theorem Ok_sPut {ts : List Ty} {Γ : Gam ts} {ρ : Type} {Q : Fl (Gam ts) ρ → Prop} {k t : Ty} {i : Mem ts (.dict k t)} {F : Gam ts → Option (den t)} {G : Gam ts → Option (den k)} : @Ok (no_index _) (sPut i F G Γ) Q (@Kp.mk (no_index _) Q) = Ok (i.get Γ) fun d => Ok (F Γ) fun y => Ok (G Γ) fun x => d.length < sizeLine ∧ Q (.nx (i.set (some (fPutK d x y)) Γ)) := by
  unfold sPut
  walk_at "okp"
theorem Ok_sPutN {ts : List Ty} {Γ : Gam ts} {ρ : Type} {Q : Fl (Gam ts) ρ → Prop} {k t : Ty} {i : Mem ts (.dict k t)} {F : Gam ts → Option (den t)} {G : Gam ts → Option (den k)} : @Ok (no_index _) (sPutN i F G Γ) Q (@Kp.mk (no_index _) Q) = Ok (i.get Γ) fun d => Ok (F Γ) fun y => Ok (G Γ) fun x => (d.length < sizeLine ∧ (fGetK d x).isSome = false) ∧ Q (.nx (i.set (some (d ++ [(x, y)])) Γ)) := by
  unfold sPutN
  walk_at "okp"
theorem Ok_sDApp {ts : List Ty} {Γ : Gam ts} {ρ : Type} {Q : Fl (Gam ts) ρ → Prop} {k u : Ty} {i : Mem ts (.dict k (.own (.list u)))} {F : Gam ts → Option (den u)} {G : Gam ts → Option (den k)} : @Ok (no_index _) (sDApp i G F Γ) Q (@Kp.mk (no_index _) Q) = Ok (i.get Γ) fun d => Ok (G Γ) fun x => Ok (fGetK (β := List (den u)) d x) fun xs => Ok (F Γ) fun y => xs.length < sizeLine ∧ Q (.nx (i.set (some (fUpdK (β := List (den u)) d x (xs ++ [y]))) Γ)) := by
  unfold sDApp
  walk_at "okp"
theorem Ok_gSetd {ts : List Ty} {Γ : Gam ts} {k t : Ty} {i : Mem ts (.dict k (.own t))} {F : Gam ts → Option (den k)} {D : Gam ts → Option (den t)} {Q : den k × List (den k × den t) → Prop} : @Ok (no_index _) (gSetd i F D Γ) Q (@Kp.mk (no_index _) Q) = Ok (i.get Γ) fun d => Ok (F Γ) fun x => Ok (D Γ) fun y => d.length < sizeLine ∧ Q (x, if (fGetK (β := den t) d x).isSome = true then d else d ++ [(x, y)]) := by
  unfold gSetd
  walk_at "okp"
theorem Ok_gGet {ts : List Ty} {Γ : Gam ts} {k t : Ty} {i : Mem ts (.dict k (.own t))} {F : Gam ts → Option (den k)} {Q : den k × List (den k × den t) → Prop} : @Ok (no_index _) (gGet i F Γ) Q (@Kp.mk (no_index _) Q) = Ok (F Γ) fun x => Ok (i.get Γ) fun d => (fGetK (β := den t) d x).isSome = true ∧ Q (x, d) := by
  unfold gGet
  walk_at "okp"
/-- what stands behind a statement -/
def SeqQ {G ρ : Type} (F : G → Option (Fl G ρ)) (Q : Fl G ρ → Prop) (f : Fl G ρ) (_ : Kp F := ⟨⟩) (_ : Kp Q := ⟨⟩) : Prop := match f with
  | .nx Γ' => Ok (F Γ') Q
  | r => Q r
section
variable {F F' : G → Option (Fl G ρ)} {Q : Fl G ρ → Prop} {d : ρ}
theorem SeqQ_nx : SeqQ F Q (.nx Γ) = Ok (F Γ) Q := rfl
theorem SeqQ_bk : SeqQ F Q (.bk Γ) = Q (.bk Γ) := rfl
theorem SeqQ_ct : SeqQ F Q (.ct Γ) = Q (.ct Γ) := rfl
theorem SeqQ_rt : SeqQ F Q (.rt d Γ) = Q (.rt d Γ) := rfl
theorem Ok_sSeq : @Ok (no_index _) (sSeq F F' Γ) Q (@Kp.mk (no_index _) Q) = Ok (F Γ) fun f => SeqQ F' Q f := by
  unfold sSeq
  rw [Ok_bind]
  refine Ok_cong fun r => ?_
  cases r with
  | nx Γ' => rfl
  | bk Γ' => exact Ok_some
  | ct Γ' => exact Ok_some
  | rt d Γ' => exact Ok_some
end
/-- the end of a def -/
def EndQ {G ρ : Type} (Q : ρ → Prop) (f : Fl G ρ) (_ : Kp Q := ⟨⟩) : Prop := match f with
  | .rt d _ => Q d
  | _ => False
theorem EndQ_rt {Q : ρ → Prop} {d : ρ} : EndQ Q (.rt d Γ) = Q d := rfl
theorem EndQ_nx {Q : ρ → Prop} : EndQ Q (.nx Γ) = False := rfl
theorem Ok_endOf {Q : ρ → Prop} {o : Option (Fl G ρ)} : @Ok (no_index _) (endOf o) Q (@Kp.mk (no_index _) Q) = Ok o fun f => EndQ Q f := by
  cases o with
  | none => rw [Ok_none]; exact Ok_none
  | some f =>
    rw [Ok_some]
    cases f with
    | rt d Γ => exact Ok_some
    | nx Γ => exact Ok_none
    | bk Γ => exact Ok_none
    | ct Γ => exact Ok_none
def EndIO {ts : List Ty} {tio : Ty} {ρ : Type} (i : Mem ts tio) (fall : Option ρ) (Q : ρ × den tio → Prop) (f : Fl (Gam ts) ρ) (_ : Kp i := ⟨⟩) (_ : Kp fall := ⟨⟩) (_ : Kp Q := ⟨⟩) : Prop := match f with
  | .rt d Γ => Ok (i.get Γ) fun x => Q (d, x)
  | .nx Γ => Ok fall fun d => Ok (i.get Γ) fun x => Q (d, x)
  | _ => False
section
variable {ts : List Ty} {tio : Ty} {i : Mem ts tio} {fall : Option ρ} {Q : ρ × den tio → Prop} {Γ : Gam ts} {d : ρ}
theorem EndIO_rt : @EndIO ts tio ρ i fall Q (@Fl.rt (no_index _) (no_index _) d Γ) (@Kp.mk (no_index _) i) (@Kp.mk (no_index _) fall) (@Kp.mk (no_index _) Q) = Ok (i.get Γ) fun x => Q (d, x) := rfl
theorem EndIO_nx : @EndIO ts tio ρ i fall Q (@Fl.nx (no_index _) (no_index _) Γ) (@Kp.mk (no_index _) i) (@Kp.mk (no_index _) fall) (@Kp.mk (no_index _) Q) = Ok fall fun d => Ok (i.get Γ) fun x => Q (d, x) := rfl
theorem Ok_endIO {o : Option (Fl (Gam ts) ρ)} : @Ok (no_index _) (endIO i fall o) Q (@Kp.mk (no_index _) Q) = Ok o fun f => EndIO i fall Q f := by
  cases o with
  | none => rw [Ok_none]; exact Ok_none
  | some f =>
    rw [Ok_some]
    cases f with
    | rt d Γ => exact Ok_map
    | nx Γ =>
      show Ok (fall.bind _) Q = _
      rw [Ok_bind]
      exact Ok_cong fun _ => Ok_map
    | bk Γ => exact Ok_none
    | ct Γ => exact Ok_none
end
/-- a name that is shared for the while -/
def PubQ {ts : List Ty} {t : Ty} {ρ : Type} (i : Mem ts t) (Q : Fl (Gam ts) ρ → Prop) (f : Fl (Gam ts) ρ) (_ : Kp i := ⟨⟩) (_ : Kp Q := ⟨⟩) : Prop := Q (f.on (i.set none))
section
variable {ts : List Ty} {t : Ty} {i : Mem ts t} {Q : Fl (Gam ts) ρ → Prop} {Γ : Gam ts} {d : ρ} {F : Gam ts → Option (Fl (Gam ts) ρ)}
theorem PubQ_nx : @PubQ ts t ρ i Q (@Fl.nx (no_index _) (no_index _) Γ) (@Kp.mk (no_index _) i) (@Kp.mk (no_index _) Q) = Q (.nx (i.set none Γ)) := rfl
theorem PubQ_bk : @PubQ ts t ρ i Q (@Fl.bk (no_index _) (no_index _) Γ) (@Kp.mk (no_index _) i) (@Kp.mk (no_index _) Q) = Q (.bk (i.set none Γ)) := rfl
theorem PubQ_ct : @PubQ ts t ρ i Q (@Fl.ct (no_index _) (no_index _) Γ) (@Kp.mk (no_index _) i) (@Kp.mk (no_index _) Q) = Q (.ct (i.set none Γ)) := rfl
theorem PubQ_rt : @PubQ ts t ρ i Q (@Fl.rt (no_index _) (no_index _) d Γ) (@Kp.mk (no_index _) i) (@Kp.mk (no_index _) Q) = Q (.rt d (i.set none Γ)) := rfl
theorem Ok_sPub : @Ok (no_index _) (sPub i F Γ) Q (@Kp.mk (no_index _) Q) = Ok (F Γ) fun f => PubQ i Q f := by
  unfold sPub
  rw [Ok_bind]
  exact Ok_cong fun _ => Ok_some
end
/-- a thing in a dict, under a name of its own -/
def AlQ {ts : List Ty} {k t : Ty} {ρ : Type} (i : Mem ts (.dict k (.own t))) (j : Mem ts t) (x : den k) (d : List (den k × den t)) (Q : Fl (Gam ts) ρ → Prop) (f : Fl (Gam ts) ρ) (_ : Kp i := ⟨⟩) (_ : Kp j := ⟨⟩) (_ : Kp Q := ⟨⟩) : Prop := match f with
  | .nx Γ => Ok (alEnd i j x d Fl.nx Γ) Q
  | .bk Γ => Ok (alEnd i j x d Fl.bk Γ) Q
  | .ct Γ => Ok (alEnd i j x d Fl.ct Γ) Q
  | .rt r Γ => Ok (alEnd i j x d (Fl.rt r) Γ) Q
section
variable {ts : List Ty} {k t : Ty} {i : Mem ts (.dict k (.own t))} {j : Mem ts t} {x : den k} {d : List (den k × den t)} {Q : Fl (Gam ts) ρ → Prop} {Γ : Gam ts} {r : ρ} {F : Gam ts → Option (Fl (Gam ts) ρ)} {D : Gam ts → Option (den k × List (den k × den t))}
theorem AlQ_nx : @AlQ ts k t ρ i j x d Q (@Fl.nx (no_index _) (no_index _) Γ) (@Kp.mk (no_index _) i) (@Kp.mk (no_index _) j) (@Kp.mk (no_index _) Q) = Ok (alEnd i j x d Fl.nx Γ) Q := rfl
theorem AlQ_bk : @AlQ ts k t ρ i j x d Q (@Fl.bk (no_index _) (no_index _) Γ) (@Kp.mk (no_index _) i) (@Kp.mk (no_index _) j) (@Kp.mk (no_index _) Q) = Ok (alEnd i j x d Fl.bk Γ) Q := rfl
theorem AlQ_ct : @AlQ ts k t ρ i j x d Q (@Fl.ct (no_index _) (no_index _) Γ) (@Kp.mk (no_index _) i) (@Kp.mk (no_index _) j) (@Kp.mk (no_index _) Q) = Ok (alEnd i j x d Fl.ct Γ) Q := rfl
theorem AlQ_rt : @AlQ ts k t ρ i j x d Q (@Fl.rt (no_index _) (no_index _) r Γ) (@Kp.mk (no_index _) i) (@Kp.mk (no_index _) j) (@Kp.mk (no_index _) Q) = Ok (alEnd i j x d (Fl.rt r) Γ) Q := rfl
theorem Ok_sAls : @Ok (no_index _) (sAls i j D F Γ) Q (@Kp.mk (no_index _) Q) = Ok (D Γ) fun q => Ok (fGetK (β := den t) q.2 q.1) fun y => Ok (F (j.set (some y) (i.set none Γ))) fun f => AlQ i j q.1 q.2 Q f := by
  unfold sAls
  rw [Ok_bind]
  refine Ok_cong fun q => ?_
  rw [Ok_bind]
  refine Ok_cong fun y => ?_
  rw [Ok_bind]
  refine Ok_cong fun f => ?_
  cases f <;> rfl
end
end
end VV

namespace Law
open PySem L2 VV
def topS (i : Nat) : Stmt := PySem.Challenge.pw_readgrove_k68_rows_let_by.main.body.getD i (.Pass ⟨0, 0, 0, 0⟩)
structure Txt (K : PySem.W.Frag) (mg : Str → Option Value) : Prop where
  b_abs : mg "abs" = none
  b_all : mg "all" = none
  b_any : mg "any" = none
  b_bool : mg "bool" = none
  b_enumerate : mg "enumerate" = none
  b_isinstance : mg "isinstance" = none
  b_len : mg "len" = none
  b_list : mg "list" = none
  b_range : mg "range" = none
section
variable {P : Program} {w : World} {K : PySem.W.Frag} {mg : Str → Option Value} {base : Heap}
/-! ### _law_numbers -/
abbrev s__law_numbers : Stmt := topS 4
abbrev N__law_numbers : List Str := ["script", "numbers", "k", "cell", "number", "turn", "one"]
abbrev P__law_numbers : List Str := ["script"]
theorem sc__law_numbers : FnScope N__law_numbers P__law_numbers (defScope s__law_numbers) := ⟨rfl, rfl, rfl, by decide +kernel, rfl, by decide +kernel, by decide +kernel⟩
abbrev g__law_numbers : List Ty := [(Ty.list Ty.int), (Ty.list Ty.int), Ty.int, Ty.int, Ty.int, Ty.int, Ty.int]
abbrev M__law_numbers : List Md := [.w, .o, .w, .w, .w, .w, .w]
abbrev v__law_numbers_script : Mem g__law_numbers (Ty.list Ty.int) := .z
abbrev v__law_numbers_numbers : Mem g__law_numbers (Ty.list Ty.int) := (.s .z)
abbrev v__law_numbers_k : Mem g__law_numbers Ty.int := (.s (.s .z))
abbrev v__law_numbers_cell : Mem g__law_numbers Ty.int := (.s (.s (.s .z)))
abbrev v__law_numbers_number : Mem g__law_numbers Ty.int := (.s (.s (.s (.s .z))))
abbrev v__law_numbers_turn : Mem g__law_numbers Ty.int := (.s (.s (.s (.s (.s .z)))))
abbrev v__law_numbers_one : Mem g__law_numbers Ty.int := (.s (.s (.s (.s (.s (.s .z))))))
abbrev st__law_numbers_2 (x0_numbers : den (Ty.list Ty.int)) (x1_k : den Ty.int) (x2_number : den Ty.int) : Gam g__law_numbers := (none, some x0_numbers, some x1_k, none, some x2_number, none, none, ())
noncomputable def lb__law_numbers_2 : Gam g__law_numbers → Option (Fl (Gam g__law_numbers) (den (Ty.hl (Ty.cons (Ty.own (Ty.list Ty.int)) (Ty.last Ty.int))))) :=
  (sSeq (sSet (v__law_numbers_one) (e2 fMod (e2 fAdd (e2 fAdd (e2 fAdd (eV (t := Ty.int) (v__law_numbers_number)) (e2 fMul (eC (7879 : Int)) (eV (t := Ty.int) (v__law_numbers_k)))) (e2 fMul (eC (11 : Int)) (eV (t := Ty.int) (v__law_numbers_turn)))) (eC (1 : Int))) (eC (2305843009213693951 : Int))))
  (sSeq (sSet (v__law_numbers_one) (e2 fMod (e2 fMul (eV (t := Ty.int) (v__law_numbers_one)) (eV (t := Ty.int) (v__law_numbers_one))) (eC (2305843009213693951 : Int))))
  (sSet (v__law_numbers_number) (e2 fAdd (e2 fMul (eV (t := Ty.int) (v__law_numbers_number)) (eC (2305843009213693951 : Int))) (e2 fMod (e2 fMul (eV (t := Ty.int) (v__law_numbers_one)) (eC (3037000493 : Int))) (eC (2305843009213693951 : Int)))))))
noncomputable def lp__law_numbers_2 : Gam g__law_numbers → Option (Fl (Gam g__law_numbers) (den (Ty.hl (Ty.cons (Ty.own (Ty.list Ty.int)) (Ty.last Ty.int))))) := hide (sFor (e1 fRng1 (eC (6 : Int))) (bName (t := Ty.int) (v__law_numbers_turn)) (Gam.mask [false, true, true, false, true, false, false]) lb__law_numbers_2)
theorem lp__law_numbers_2_eq : lp__law_numbers_2 = (sFor (e1 fRng1 (eC (6 : Int))) (bName (t := Ty.int) (v__law_numbers_turn)) (Gam.mask [false, true, true, false, true, false, false]) lb__law_numbers_2) := hide_eq _
abbrev st__law_numbers_1 (x0_numbers : den (Ty.list Ty.int)) : Gam g__law_numbers := (none, some x0_numbers, none, none, none, none, none, ())
noncomputable def lb__law_numbers_1 : Gam g__law_numbers → Option (Fl (Gam g__law_numbers) (den (Ty.hl (Ty.cons (Ty.own (Ty.list Ty.int)) (Ty.last Ty.int))))) :=
  (sSeq (sSet (v__law_numbers_number) (e1 (fun i => some (if i < 0 then -i else i)) (eV (t := Ty.int) (v__law_numbers_cell))))
  (sSeq (sIf (e2 fLt (eV (t := Ty.int) (v__law_numbers_number)) (e2 fPow (eC (10 : Int)) (eC (18 : Int)))) lp__law_numbers_2 sNext)
  (sApp (v__law_numbers_numbers) (eV (t := Ty.int) (v__law_numbers_number)))))
noncomputable def lp__law_numbers_1 : Gam g__law_numbers → Option (Fl (Gam g__law_numbers) (den (Ty.hl (Ty.cons (Ty.own (Ty.list Ty.int)) (Ty.last Ty.int))))) := hide (sFor (e1 fEnum (e3 fCutL (eV (t := (Ty.list Ty.int)) (v__law_numbers_script)) (eC none) (e1 (fun i => some (some i)) (eC (63 : Int))))) (bCons (bName (t := Ty.int) (v__law_numbers_k)) (bName (t := Ty.int) (v__law_numbers_cell))) (Gam.mask [false, true, false, false, false, false, false]) lb__law_numbers_1)
theorem lp__law_numbers_1_eq : lp__law_numbers_1 = (sFor (e1 fEnum (e3 fCutL (eV (t := (Ty.list Ty.int)) (v__law_numbers_script)) (eC none) (e1 (fun i => some (some i)) (eC (63 : Int))))) (bCons (bName (t := Ty.int) (v__law_numbers_k)) (bName (t := Ty.int) (v__law_numbers_cell))) (Gam.mask [false, true, false, false, false, false, false]) lb__law_numbers_1) := hide_eq _
noncomputable def b__law_numbers : Gam g__law_numbers → Option (Fl (Gam g__law_numbers) (den (Ty.hl (Ty.cons (Ty.own (Ty.list Ty.int)) (Ty.last Ty.int))))) :=
  (sSeq (sSet (v__law_numbers_numbers) (e1 fSmall eNil))
  (sSeq lp__law_numbers_1
  (sSeq (sLst (v__law_numbers_numbers) List.reverse)
  (sRetE (eConsE (eMove (t := (Ty.list Ty.int)) (v__law_numbers_numbers)) (ePure (eC (0 : Int))))))))
noncomputable def m__law_numbers : den (Ty.last (Ty.list Ty.int)) → Option (den (Ty.hl (Ty.cons (Ty.own (Ty.list Ty.int)) (Ty.last Ty.int)))) := hide (runG (Ty.last (Ty.list Ty.int)) [(Ty.list Ty.int), Ty.int, Ty.int, Ty.int, Ty.int, Ty.int] b__law_numbers)
theorem m__law_numbers_eq (d : den (Ty.last (Ty.list Ty.int))) : m__law_numbers d = runG (Ty.last (Ty.list Ty.int)) [(Ty.list Ty.int), Ty.int, Ty.int, Ty.int, Ty.int, Ty.int] b__law_numbers d := congrFun (hide_eq _) d
theorem m__law_numbers_at (p0 : den (Ty.list Ty.int)) : m__law_numbers (p0) = endOf (b__law_numbers ((some p0, none, none, none, none, none, none, ()) : Gam g__law_numbers)) := by
  rw [m__law_numbers_eq]
  rfl
set_option maxHeartbeats 4000000 in
theorem ok__law_numbers {f : Addr} {fd : FuncData} (F : Fun K "_law_numbers" "_law_numbers" s__law_numbers f fd) (T : Txt K mg) :
    FnOk P w K mg base CX0 1 f fd P__law_numbers (spP K (Ty.last (Ty.list Ty.int)) .o (Ty.hl (Ty.cons (Ty.own (Ty.list Ty.int)) (Ty.last Ty.int))) m__law_numbers) := by
  have S := sc__law_numbers
  refine fn_ok (F := b__law_numbers) [(Ty.list Ty.int), Ty.int, Ty.int, Ty.int, Ty.int, Ty.int] M__law_numbers F S rfl rfl rfl m__law_numbers_eq (fun cdv A outer s H E hr => ?_)
  refine ⟨_, (pss_cons (ps_set (i := 1) S.nd rfl (Or.inl rfl) (pe_lst pa_nil))
  (pss_cons (ps_for PassesOwn.never rfl (pi_enum rfl T.b_enumerate (pa_cons (pe_slice (r := rSlL K) sl_list (pv 0) po_none (po_some pe_int)) pa_nil)) (pg_tupK (n := 2) K rfl rfl (pgs_cons (pg_name (i := 2) S.nd rfl (Or.inl rfl)) (pgs_cons (pg_name (i := 3) S.nd rfl (Or.inl rfl)) pgs_nil))) (pss_cons (ps_set (i := 4) S.nd rfl (Or.inl rfl) (pe_callB call_abs (by rfl) T.b_abs (by decide +kernel) (pa_cons (pv 3) pa_nil)))
  (pss_cons (ps_if (pt_cmpR op_lt (pv 4) (pe_op op_pow pe_int pe_int) (nomark _)) (pss_one (ps_for PassesOwn.never rfl (pi_range1 rfl T.b_range (pa_cons pe_int pa_nil)) (pg_name (i := 5) S.nd rfl (Or.inl rfl)) (pss_cons (ps_set (i := 6) S.nd rfl (Or.inl rfl) (pe_op op_mod (pe_op op_add (pe_op op_add (pe_op op_add (pv 4) (pe_op op_mulW pe_int (pv 2))) (pe_op op_mulW pe_int (pv 5))) pe_int) pe_int))
  (pss_cons (ps_set (i := 6) S.nd rfl (Or.inl rfl) (pe_op op_mod (pe_op op_mulW (pv 6) (pv 6)) pe_int))
  (pss_one (ps_set (i := 4) S.nd rfl (Or.inl rfl) (pe_op op_add (pe_op op_mulW (pv 4) pe_int) (pe_op op_mod (pe_op op_mulW (pv 6) pe_int) pe_int)))))))) pss_nil)
  (pss_one (ps_expr (pe_bm PySem.F.plainAttrs_list PySem.F.slot_list_append PySem.F.type_list_append mt_append (pv 1) (pa_cons (pv 4) pa_nil)))))))
  (pss_cons (ps_expr (pe_bm0 PySem.F.plainAttrs_list PySem.F.slot_list_reverse PySem.F.type_list_reverse mt_reverse (pv 1)))
  (pss_one (ps_ret (pe_lst (pa_cons (pv 1) (pa_cons pe_int pa_nil)))))))), ?_⟩
  exact (rs_seq (rs_set (ms := M__law_numbers) (m := .o) (v__law_numbers_numbers) (rp_list (t := Ty.int) rl_nil))
  (rs_seq (rs_hide (rs_for (w := false) (t := (Ty.tup (Ty.cons Ty.int (Ty.last Ty.int)))) [false, true, false, false, false, false, false] (ri_enum (w := false) (t := Ty.int) (rp_le (rp_sliceL (m := .b) (rp_le (rp_varw (ms := M__law_numbers) (v__law_numbers_script))) ro_none (ro_some (m := .b) rp_int)))) (rg_tup (rgs_cons (rg_name (ms := M__law_numbers) (v__law_numbers_k)) (rgs_one (rg_name (ms := M__law_numbers) (v__law_numbers_cell))))) (rs_seq (rs_set (ms := M__law_numbers) (m := .w) (v__law_numbers_number) (rp_abs (m' := .b) (rp_frz .b (rp_varw (ms := M__law_numbers) (v__law_numbers_cell)))))
  (rs_seq (rs_if (rt_test (rp_op (m := .b) (m1 := .b) (m2 := .b) v_lt (rp_frz .b (rp_varw (ms := M__law_numbers) (v__law_numbers_number))) (rp_op (m1 := .b) (m2 := .b) v_pow rp_int rp_int))) (rs_hide (rs_for (w := false) (t := Ty.int) [false, true, true, false, true, false, false] (ri_rng1 (w := false) (m := .b) (ra_one rp_int)) (rg_name (ms := M__law_numbers) (v__law_numbers_turn)) (rs_seq (rs_set (ms := M__law_numbers) (m := .w) (v__law_numbers_one) (rp_op (m1 := .b) (m2 := .b) v_mod (rp_op (m1 := .b) (m2 := .b) v_add (rp_op (m1 := .b) (m2 := .b) v_add (rp_op (m1 := .b) (m2 := .b) v_add (rp_frz .b (rp_varw (ms := M__law_numbers) (v__law_numbers_number))) (rp_op (m1 := .b) (m2 := .b) v_mul rp_int (rp_frz .b (rp_varw (ms := M__law_numbers) (v__law_numbers_k))))) (rp_op (m1 := .b) (m2 := .b) v_mul rp_int (rp_frz .b (rp_varw (ms := M__law_numbers) (v__law_numbers_turn))))) rp_int) rp_int))
  (rs_seq (rs_set (ms := M__law_numbers) (m := .w) (v__law_numbers_one) (rp_op (m1 := .b) (m2 := .b) v_mod (rp_op (m1 := .b) (m2 := .b) v_mul (rp_frz .b (rp_varw (ms := M__law_numbers) (v__law_numbers_one))) (rp_frz .b (rp_varw (ms := M__law_numbers) (v__law_numbers_one)))) rp_int))
  (rs_set (ms := M__law_numbers) (m := .w) (v__law_numbers_number) (rp_op (m1 := .b) (m2 := .b) v_add (rp_op (m1 := .b) (m2 := .b) v_mul (rp_frz .b (rp_varw (ms := M__law_numbers) (v__law_numbers_number))) rp_int) (rp_op (m1 := .b) (m2 := .b) v_mod (rp_op (m1 := .b) (m2 := .b) v_mul (rp_frz .b (rp_varw (ms := M__law_numbers) (v__law_numbers_one))) rp_int) rp_int))))))) rs_next)
  (rs_app (ms := M__law_numbers) (v__law_numbers_numbers) (rp_frz .o (rp_varw (ms := M__law_numbers) (v__law_numbers_number))))))))
  (rs_seq (rs_reverse (ms := M__law_numbers) (v__law_numbers_numbers))
  (rs_retE (ρ := (Ty.hl (Ty.cons (Ty.own (Ty.list Ty.int)) (Ty.last Ty.int)))) (re_hlE (b := (Ty.cons (Ty.own (Ty.list Ty.int)) (Ty.last Ty.int))) (rae_cons (rpe_own (rpe_move (ms := M__law_numbers) (v__law_numbers_numbers))) (rae_one (rpe_pure rp_int))))))))
/-! ### _law_take -/
abbrev s__law_take : Stmt := topS 5
abbrev N__law_take : List Str := ["deck", "many", "taken"]
abbrev P__law_take : List Str := ["deck", "many"]
theorem sc__law_take : FnScope N__law_take P__law_take (defScope s__law_take) := ⟨rfl, rfl, rfl, by decide +kernel, rfl, by decide +kernel, by decide +kernel⟩
abbrev g__law_take : List Ty := [(Ty.hl (Ty.cons (Ty.own (Ty.list Ty.int)) (Ty.last Ty.int))), Ty.int, Ty.int]
abbrev M__law_take : List Md := [.r, .w, .w]
abbrev v__law_take_deck : Mem g__law_take (Ty.hl (Ty.cons (Ty.own (Ty.list Ty.int)) (Ty.last Ty.int))) := .z
abbrev v__law_take_many : Mem g__law_take Ty.int := (.s .z)
abbrev v__law_take_taken : Mem g__law_take Ty.int := (.s (.s .z))
noncomputable def b__law_take : Gam g__law_take → Option (Fl (Gam g__law_take) (den Ty.int)) :=
  (sSeq (sIf (eAnd (e2 fEqI (eProj (b := (Ty.cons (Ty.own (Ty.list Ty.int)) (Ty.last Ty.int))) (t := Ty.int) (.s .one) (eV (t := (Ty.hl (Ty.cons (Ty.own (Ty.list Ty.int)) (Ty.last Ty.int)))) (v__law_take_deck))) (eC (0 : Int))) (e2 (fNeD (Ty.list Ty.int)) (eProj (b := (Ty.cons (Ty.own (Ty.list Ty.int)) (Ty.last Ty.int))) (t := (Ty.own (Ty.list Ty.int))) .z (eV (t := (Ty.hl (Ty.cons (Ty.own (Ty.list Ty.int)) (Ty.last Ty.int)))) (v__law_take_deck))) (e1 fSmall eNil))) (sHput (b := (Ty.cons (Ty.own (Ty.list Ty.int)) (Ty.last Ty.int))) (t := Ty.int) (v__law_take_deck) (.s .one) (ePopH (b := (Ty.cons (Ty.own (Ty.list Ty.int)) (Ty.last Ty.int))) (t := Ty.int) (v__law_take_deck) .z)) sNext)
  (sSeq (sSet (v__law_take_taken) (e2 fMod (eProj (b := (Ty.cons (Ty.own (Ty.list Ty.int)) (Ty.last Ty.int))) (t := Ty.int) (.s .one) (eV (t := (Ty.hl (Ty.cons (Ty.own (Ty.list Ty.int)) (Ty.last Ty.int)))) (v__law_take_deck))) (eV (t := Ty.int) (v__law_take_many))))
  (sSeq (sHput (b := (Ty.cons (Ty.own (Ty.list Ty.int)) (Ty.last Ty.int))) (t := Ty.int) (v__law_take_deck) (.s .one) (ePure (e2 fDiv (eProj (b := (Ty.cons (Ty.own (Ty.list Ty.int)) (Ty.last Ty.int))) (t := Ty.int) (.s .one) (eV (t := (Ty.hl (Ty.cons (Ty.own (Ty.list Ty.int)) (Ty.last Ty.int)))) (v__law_take_deck))) (eV (t := Ty.int) (v__law_take_many)))))
  (sRet (eV (t := Ty.int) (v__law_take_taken))))))
noncomputable def m__law_take : den (Ty.cons (Ty.hl (Ty.cons (Ty.own (Ty.list Ty.int)) (Ty.last Ty.int))) (Ty.last Ty.int)) → Option (den Ty.int × den (Ty.hl (Ty.cons (Ty.own (Ty.list Ty.int)) (Ty.last Ty.int)))) := hide (runIO (.z : RIx (Ty.cons (Ty.hl (Ty.cons (Ty.own (Ty.list Ty.int)) (Ty.last Ty.int))) (Ty.last Ty.int)) (Ty.hl (Ty.cons (Ty.own (Ty.list Ty.int)) (Ty.last Ty.int)))) [Ty.int] (none : Option (den Ty.int)) b__law_take)
theorem m__law_take_eq (d : den (Ty.cons (Ty.hl (Ty.cons (Ty.own (Ty.list Ty.int)) (Ty.last Ty.int))) (Ty.last Ty.int))) : m__law_take d = runIO (.z : RIx (Ty.cons (Ty.hl (Ty.cons (Ty.own (Ty.list Ty.int)) (Ty.last Ty.int))) (Ty.last Ty.int)) (Ty.hl (Ty.cons (Ty.own (Ty.list Ty.int)) (Ty.last Ty.int)))) [Ty.int] (none : Option (den Ty.int)) b__law_take d := congrFun (hide_eq _) d
theorem m__law_take_at (p0 : den (Ty.hl (Ty.cons (Ty.own (Ty.list Ty.int)) (Ty.last Ty.int)))) (p1 : den Ty.int) : m__law_take (p0, p1) = endIO (v__law_take_deck) (none : Option (den Ty.int)) (b__law_take ((some p0, some p1, none, ()) : Gam g__law_take)) := by
  rw [m__law_take_eq]
  rfl
set_option maxHeartbeats 4000000 in
theorem ok__law_take {f : Addr} {fd : FuncData} (F : Fun K "_law_take" "_law_take" s__law_take f fd) (T : Txt K mg) :
    FnOk P w K mg base CX0 1 f fd P__law_take (spIO K (Ty.cons (Ty.hl (Ty.cons (Ty.own (Ty.list Ty.int)) (Ty.last Ty.int))) (Ty.last Ty.int)) (.z : RIx (Ty.cons (Ty.hl (Ty.cons (Ty.own (Ty.list Ty.int)) (Ty.last Ty.int))) (Ty.last Ty.int)) (Ty.hl (Ty.cons (Ty.own (Ty.list Ty.int)) (Ty.last Ty.int)))) .o Ty.int m__law_take) := by
  have S := sc__law_take
  refine fn_okIO (ρ := Ty.int) (F := b__law_take) (.z : RIx (Ty.cons (Ty.hl (Ty.cons (Ty.own (Ty.list Ty.int)) (Ty.last Ty.int))) (Ty.last Ty.int)) (Ty.hl (Ty.cons (Ty.own (Ty.list Ty.int)) (Ty.last Ty.int)))) [Ty.int] M__law_take (none : Option (den Ty.int)) F S rfl rfl rfl m__law_take_eq (fun z hz => nomatch hz) (fun cdv A outer s H E hr => ?_)
  refine ⟨_, (pss_cons (ps_if (PW.pt (pw_and (pt_cmpR op_eq (pe_ix (r := rIxL K) ix_list (pv 0) pe_int (fun _ _ => rfl)) pe_int (nomark _)) (pw_and1 (pt_cmpR (r := rNeD K) (op_neD hr.units) (pe_ix (r := rIxL K) ix_list (pv 0) pe_int (fun _ _ => rfl)) (pe_lst pa_nil) (nomark _))))) (pss_one (ps_asg (pe_bm0 PySem.F.plainAttrs_list PySem.F.slot_list_pop PySem.F.type_list_pop mt_pop (pe_ix (r := rIxL K) ix_list (pv 0) pe_int (fun _ _ => rfl))) (pg_sub (pv 0) pe_int set_list))) pss_nil)
  (pss_cons (ps_set (i := 2) S.nd rfl (Or.inl rfl) (pe_op op_mod (pe_ix (r := rIxL K) ix_list (pv 0) pe_int (fun _ _ => rfl)) (pv 1)))
  (pss_cons (ps_asg (pe_op op_fdivW (pe_ix (r := rIxL K) ix_list (pv 0) pe_int (fun _ _ => rfl)) (pv 1)) (pg_sub (pv 0) pe_int set_list))
  (pss_one (ps_ret (pv 2)))))), ?_⟩
  exact (rs_seq (rs_if (rt_and (rt_test (rp_op (m := .b) (m1 := .b) (m2 := .b) v_eqI (rp_projH (m := .b) (b := (Ty.cons (Ty.own (Ty.list Ty.int)) (Ty.last Ty.int))) (t := Ty.int) (.s .one) 1 (rp_var (ms := M__law_take) (v__law_take_deck))) rp_int)) (rt_test (rp_op (m := .b) (m1 := .b) (m2 := .b) (v_neD (t := (Ty.list Ty.int)) (by decide)) (rp_projH (m := .b) (b := (Ty.cons (Ty.own (Ty.list Ty.int)) (Ty.last Ty.int))) (t := (Ty.own (Ty.list Ty.int))) .z 0 (rp_var (ms := M__law_take) (v__law_take_deck))) (rp_le (rp_list (t := Ty.int) rl_nil))))) (rs_hput (ms := M__law_take) (b := (Ty.cons (Ty.own (Ty.list Ty.int)) (Ty.last Ty.int))) (t := Ty.int) (v__law_take_deck) (.s .one) (k := 1) (rx_popH (ms := M__law_take) (b := (Ty.cons (Ty.own (Ty.list Ty.int)) (Ty.last Ty.int))) (t := Ty.int) (v__law_take_deck) .z (k := 0))) rs_next)
  (rs_seq (rs_set (ms := M__law_take) (m := .w) (v__law_take_taken) (rp_op (m1 := .b) (m2 := .b) v_mod (rp_projH (m := .b) (b := (Ty.cons (Ty.own (Ty.list Ty.int)) (Ty.last Ty.int))) (t := Ty.int) (.s .one) 1 (rp_var (ms := M__law_take) (v__law_take_deck))) (rp_frz .b (rp_varw (ms := M__law_take) (v__law_take_many)))))
  (rs_seq (rs_hput (ms := M__law_take) (b := (Ty.cons (Ty.own (Ty.list Ty.int)) (Ty.last Ty.int))) (t := Ty.int) (v__law_take_deck) (.s .one) (k := 1) (rx_pure (rp_op (m1 := .b) (m2 := .b) v_div (rp_projH (m := .b) (b := (Ty.cons (Ty.own (Ty.list Ty.int)) (Ty.last Ty.int))) (t := Ty.int) (.s .one) 1 (rp_var (ms := M__law_take) (v__law_take_deck))) (rp_frz .b (rp_varw (ms := M__law_take) (v__law_take_many))))))
  (rs_ret (rm := .o) (ρ := Ty.int) (rp_frz .o (rp_varw (ms := M__law_take) (v__law_take_taken)))))))
/-! ### _law_machine -/
abbrev s__law_machine : Stmt := topS 6
abbrev N__law_machine : List Str := ["deck", "many", "arrows", "k", "word", "ends"]
abbrev P__law_machine : List Str := ["deck"]
theorem sc__law_machine : FnScope N__law_machine P__law_machine (defScope s__law_machine) := ⟨rfl, rfl, rfl, by decide +kernel, rfl, by decide +kernel, by decide +kernel⟩
abbrev g__law_machine : List Ty := [(Ty.hl (Ty.cons (Ty.own (Ty.list Ty.int)) (Ty.last Ty.int))), Ty.int, (Ty.list (Ty.tup (Ty.cons Ty.int (Ty.cons Ty.str (Ty.last Ty.int))))), Ty.int, Ty.str, (Ty.list Ty.int)]
abbrev M__law_machine : List Md := [.r, .w, .o, .w, .w, .o]
abbrev v__law_machine_deck : Mem g__law_machine (Ty.hl (Ty.cons (Ty.own (Ty.list Ty.int)) (Ty.last Ty.int))) := .z
abbrev v__law_machine_many : Mem g__law_machine Ty.int := (.s .z)
abbrev v__law_machine_arrows : Mem g__law_machine (Ty.list (Ty.tup (Ty.cons Ty.int (Ty.cons Ty.str (Ty.last Ty.int))))) := (.s (.s .z))
abbrev v__law_machine_k : Mem g__law_machine Ty.int := (.s (.s (.s .z)))
abbrev v__law_machine_word : Mem g__law_machine Ty.str := (.s (.s (.s (.s .z))))
abbrev v__law_machine_ends : Mem g__law_machine (Ty.list Ty.int) := (.s (.s (.s (.s (.s .z)))))
abbrev st__law_machine_1 (x0_deck : den (Ty.hl (Ty.cons (Ty.own (Ty.list Ty.int)) (Ty.last Ty.int)))) (x1_many : den Ty.int) (x2_arrows : den (Ty.list (Ty.tup (Ty.cons Ty.int (Ty.cons Ty.str (Ty.last Ty.int)))))) : Gam g__law_machine := (some x0_deck, some x1_many, some x2_arrows, none, none, none, ())
noncomputable def lb__law_machine_1 : Gam g__law_machine → Option (Fl (Gam g__law_machine) (den (Ty.tup (Ty.cons Ty.int (Ty.cons (Ty.list (Ty.tup (Ty.cons Ty.int (Ty.cons Ty.str (Ty.last Ty.int))))) (Ty.last (Ty.list Ty.int))))))) :=
  (sSeq (sAsgE (eX2 atI (ePure (e1 fSmall (eSnoc (eC (Str.ofString "a")) (eSnoc (eC (Str.ofString "b")) (eSnoc (eC (Str.ofString "end")) eNil))))) (eIOz (b := (Ty.last Ty.int)) (tio := (Ty.hl (Ty.cons (Ty.own (Ty.list Ty.int)) (Ty.last Ty.int)))) (v__law_machine_deck) m__law_take (ePure (eC (3 : Int))))) (bName (t := Ty.str) (v__law_machine_word)))
  (sAppE (v__law_machine_arrows) (eConsE (eIOz (b := (Ty.last Ty.int)) (tio := (Ty.hl (Ty.cons (Ty.own (Ty.list Ty.int)) (Ty.last Ty.int)))) (v__law_machine_deck) m__law_take (ePure (eV (t := Ty.int) (v__law_machine_many)))) (eConsE (ePure (eV (t := Ty.str) (v__law_machine_word))) (eIOz (b := (Ty.last Ty.int)) (tio := (Ty.hl (Ty.cons (Ty.own (Ty.list Ty.int)) (Ty.last Ty.int)))) (v__law_machine_deck) m__law_take (ePure (eV (t := Ty.int) (v__law_machine_many))))))))
noncomputable def lp__law_machine_1 : Gam g__law_machine → Option (Fl (Gam g__law_machine) (den (Ty.tup (Ty.cons Ty.int (Ty.cons (Ty.list (Ty.tup (Ty.cons Ty.int (Ty.cons Ty.str (Ty.last Ty.int))))) (Ty.last (Ty.list Ty.int))))))) := hide (sForX (eIOz (b := (Ty.last Ty.int)) (tio := (Ty.hl (Ty.cons (Ty.own (Ty.list Ty.int)) (Ty.last Ty.int)))) (v__law_machine_deck) m__law_take (ePure (eC (31 : Int)))) (bName (t := Ty.int) (v__law_machine_k)) (Gam.mask [true, true, true, false, false, false]) lb__law_machine_1)
theorem lp__law_machine_1_eq : lp__law_machine_1 = (sForX (eIOz (b := (Ty.last Ty.int)) (tio := (Ty.hl (Ty.cons (Ty.own (Ty.list Ty.int)) (Ty.last Ty.int)))) (v__law_machine_deck) m__law_take (ePure (eC (31 : Int)))) (bName (t := Ty.int) (v__law_machine_k)) (Gam.mask [true, true, true, false, false, false]) lb__law_machine_1) := hide_eq _
noncomputable def b__law_machine : Gam g__law_machine → Option (Fl (Gam g__law_machine) (den (Ty.tup (Ty.cons Ty.int (Ty.cons (Ty.list (Ty.tup (Ty.cons Ty.int (Ty.cons Ty.str (Ty.last Ty.int))))) (Ty.last (Ty.list Ty.int))))))) :=
  (sSeq (sAsgE (eX2 fAdd (ePure (eC (1 : Int))) (eIOz (b := (Ty.last Ty.int)) (tio := (Ty.hl (Ty.cons (Ty.own (Ty.list Ty.int)) (Ty.last Ty.int)))) (v__law_machine_deck) m__law_take (eX2 atI (ePure (e1 fSmall (eSnoc (eC (4 : Int)) (eSnoc (eC (12 : Int)) eNil)))) (eIOz (b := (Ty.last Ty.int)) (tio := (Ty.hl (Ty.cons (Ty.own (Ty.list Ty.int)) (Ty.last Ty.int)))) (v__law_machine_deck) m__law_take (ePure (eC (2 : Int))))))) (bName (t := Ty.int) (v__law_machine_many)))
  (sSeq (sSet (v__law_machine_arrows) (e1 fSmall eNil))
  (sSeq lp__law_machine_1
  (sSeq (sSetX (v__law_machine_ends) (eLcX (eIOz (b := (Ty.last Ty.int)) (tio := (Ty.hl (Ty.cons (Ty.own (Ty.list Ty.int)) (Ty.last Ty.int)))) (v__law_machine_deck) m__law_take (ePure (eC (5 : Int)))) (bName (v__law_machine_k)) (Gam.mask [true, true, true, false, true, true]) (eIOz (b := (Ty.last Ty.int)) (tio := (Ty.hl (Ty.cons (Ty.own (Ty.list Ty.int)) (Ty.last Ty.int)))) (v__law_machine_deck) m__law_take (ePure (eV (t := Ty.int) (v__law_machine_many))))))
  (sRetE (eConsE (ePure (eV (t := Ty.int) (v__law_machine_many))) (eConsE (eX2 fCatL (ePure (eV (t := (Ty.list (Ty.tup (Ty.cons Ty.int (Ty.cons Ty.str (Ty.last Ty.int)))))) (v__law_machine_arrows))) (eX3 fCutL (ePure (eV (t := (Ty.list (Ty.tup (Ty.cons Ty.int (Ty.cons Ty.str (Ty.last Ty.int)))))) (v__law_machine_arrows))) (ePure (eC none)) (eX1 (fun i => some (some i)) (eIOz (b := (Ty.last Ty.int)) (tio := (Ty.hl (Ty.cons (Ty.own (Ty.list Ty.int)) (Ty.last Ty.int)))) (v__law_machine_deck) m__law_take (ePure (eC (2 : Int))))))) (eX2 fCatL (ePure (eV (t := (Ty.list Ty.int)) (v__law_machine_ends))) (eX3 fCutL (ePure (eV (t := (Ty.list Ty.int)) (v__law_machine_ends))) (ePure (eC none)) (eX1 (fun i => some (some i)) (eIOz (b := (Ty.last Ty.int)) (tio := (Ty.hl (Ty.cons (Ty.own (Ty.list Ty.int)) (Ty.last Ty.int)))) (v__law_machine_deck) m__law_take (ePure (eC (2 : Int))))))))))))))
noncomputable def m__law_machine : den (Ty.last (Ty.hl (Ty.cons (Ty.own (Ty.list Ty.int)) (Ty.last Ty.int)))) → Option (den (Ty.tup (Ty.cons Ty.int (Ty.cons (Ty.list (Ty.tup (Ty.cons Ty.int (Ty.cons Ty.str (Ty.last Ty.int))))) (Ty.last (Ty.list Ty.int))))) × den (Ty.hl (Ty.cons (Ty.own (Ty.list Ty.int)) (Ty.last Ty.int)))) := hide (runIO (.one : RIx (Ty.last (Ty.hl (Ty.cons (Ty.own (Ty.list Ty.int)) (Ty.last Ty.int)))) (Ty.hl (Ty.cons (Ty.own (Ty.list Ty.int)) (Ty.last Ty.int)))) [Ty.int, (Ty.list (Ty.tup (Ty.cons Ty.int (Ty.cons Ty.str (Ty.last Ty.int))))), Ty.int, Ty.str, (Ty.list Ty.int)] (none : Option (den (Ty.tup (Ty.cons Ty.int (Ty.cons (Ty.list (Ty.tup (Ty.cons Ty.int (Ty.cons Ty.str (Ty.last Ty.int))))) (Ty.last (Ty.list Ty.int))))))) b__law_machine)
theorem m__law_machine_eq (d : den (Ty.last (Ty.hl (Ty.cons (Ty.own (Ty.list Ty.int)) (Ty.last Ty.int))))) : m__law_machine d = runIO (.one : RIx (Ty.last (Ty.hl (Ty.cons (Ty.own (Ty.list Ty.int)) (Ty.last Ty.int)))) (Ty.hl (Ty.cons (Ty.own (Ty.list Ty.int)) (Ty.last Ty.int)))) [Ty.int, (Ty.list (Ty.tup (Ty.cons Ty.int (Ty.cons Ty.str (Ty.last Ty.int))))), Ty.int, Ty.str, (Ty.list Ty.int)] (none : Option (den (Ty.tup (Ty.cons Ty.int (Ty.cons (Ty.list (Ty.tup (Ty.cons Ty.int (Ty.cons Ty.str (Ty.last Ty.int))))) (Ty.last (Ty.list Ty.int))))))) b__law_machine d := congrFun (hide_eq _) d
theorem m__law_machine_at (p0 : den (Ty.hl (Ty.cons (Ty.own (Ty.list Ty.int)) (Ty.last Ty.int)))) : m__law_machine (p0) = endIO (v__law_machine_deck) (none : Option (den (Ty.tup (Ty.cons Ty.int (Ty.cons (Ty.list (Ty.tup (Ty.cons Ty.int (Ty.cons Ty.str (Ty.last Ty.int))))) (Ty.last (Ty.list Ty.int))))))) (b__law_machine ((some p0, none, none, none, none, none, ()) : Gam g__law_machine)) := by
  rw [m__law_machine_eq]
  rfl
set_option maxHeartbeats 4000000 in
theorem ok__law_machine {f : Addr} {fd : FuncData} (F : Fun K "_law_machine" "_law_machine" s__law_machine f fd) (T : Txt K mg) {f__law_take : Addr} {fd__law_take : FuncData} (D__law_take : Df K mg "_law_take" "_law_take" s__law_take P__law_take f__law_take fd__law_take) (G__law_take : FnOk P w K mg base CX0 1 f__law_take fd__law_take P__law_take (spIO K (Ty.cons (Ty.hl (Ty.cons (Ty.own (Ty.list Ty.int)) (Ty.last Ty.int))) (Ty.last Ty.int)) (.z : RIx (Ty.cons (Ty.hl (Ty.cons (Ty.own (Ty.list Ty.int)) (Ty.last Ty.int))) (Ty.last Ty.int)) (Ty.hl (Ty.cons (Ty.own (Ty.list Ty.int)) (Ty.last Ty.int)))) .o Ty.int m__law_take)) :
    FnOk P w K mg base CX0 2 f fd P__law_machine (spIO K (Ty.last (Ty.hl (Ty.cons (Ty.own (Ty.list Ty.int)) (Ty.last Ty.int)))) (.one : RIx (Ty.last (Ty.hl (Ty.cons (Ty.own (Ty.list Ty.int)) (Ty.last Ty.int)))) (Ty.hl (Ty.cons (Ty.own (Ty.list Ty.int)) (Ty.last Ty.int)))) .o (Ty.tup (Ty.cons Ty.int (Ty.cons (Ty.list (Ty.tup (Ty.cons Ty.int (Ty.cons Ty.str (Ty.last Ty.int))))) (Ty.last (Ty.list Ty.int))))) m__law_machine) := by
  have S := sc__law_machine
  refine fn_okIO (ρ := (Ty.tup (Ty.cons Ty.int (Ty.cons (Ty.list (Ty.tup (Ty.cons Ty.int (Ty.cons Ty.str (Ty.last Ty.int))))) (Ty.last (Ty.list Ty.int)))))) (F := b__law_machine) (.one : RIx (Ty.last (Ty.hl (Ty.cons (Ty.own (Ty.list Ty.int)) (Ty.last Ty.int)))) (Ty.hl (Ty.cons (Ty.own (Ty.list Ty.int)) (Ty.last Ty.int)))) [Ty.int, (Ty.list (Ty.tup (Ty.cons Ty.int (Ty.cons Ty.str (Ty.last Ty.int))))), Ty.int, Ty.str, (Ty.list Ty.int)] M__law_machine (none : Option (den (Ty.tup (Ty.cons Ty.int (Ty.cons (Ty.list (Ty.tup (Ty.cons Ty.int (Ty.cons Ty.str (Ty.last Ty.int))))) (Ty.last (Ty.list Ty.int))))))) F S rfl rfl rfl m__law_machine_eq (fun z hz => nomatch hz) (fun cdv A outer s H E hr => ?_)
  refine ⟨_, (pss_cons (ps_asg (pe_op op_add pe_int (pe_call G__law_take (hr.mono (by decide)) rfl D__law_take.gl D__law_take.fn.kp D__law_take.bi .nil pass0 (pa_cons (pv 0) (pa_cons (pe_ix (r := rIxL K) ix_list (pe_lst (pa_cons pe_int (pa_cons pe_int pa_nil))) (pe_call G__law_take (hr.mono (by decide)) rfl D__law_take.gl D__law_take.fn.kp D__law_take.bi .nil pass0 (pa_cons (pv 0) (pa_cons pe_int pa_nil))) (fun _ _ => rfl)) pa_nil)))) (pg_name (i := 1) S.nd rfl (Or.inr rfl)))
  (pss_cons (ps_set (i := 2) S.nd rfl (Or.inl rfl) (pe_lst pa_nil))
  (pss_cons (ps_for PassesOwn.never rfl (pi_range1 rfl T.b_range (pa_cons (pe_call G__law_take (hr.mono (by decide)) rfl D__law_take.gl D__law_take.fn.kp D__law_take.bi .nil pass0 (pa_cons (pv 0) (pa_cons pe_int pa_nil))) pa_nil)) (pg_name (i := 3) S.nd rfl (Or.inl rfl)) (pss_cons (ps_asg (pe_ix (r := rIxL K) ix_list (pe_lst (pa_cons pe_str (pa_cons pe_str (pa_cons pe_str pa_nil)))) (pe_call G__law_take (hr.mono (by decide)) rfl D__law_take.gl D__law_take.fn.kp D__law_take.bi .nil pass0 (pa_cons (pv 0) (pa_cons pe_int pa_nil))) (fun _ _ => rfl)) (pg_name (i := 4) S.nd rfl (Or.inl rfl)))
  (pss_one (ps_expr (pe_bm PySem.F.plainAttrs_list PySem.F.slot_list_append PySem.F.type_list_append mt_append (pv 2) (pa_cons (pe_tup (pa_cons (pe_call G__law_take (hr.mono (by decide)) rfl D__law_take.gl D__law_take.fn.kp D__law_take.bi .nil pass0 (pa_cons (pv 0) (pa_cons (pv 1) pa_nil))) (pa_cons (pv 4) (pa_cons (pe_call G__law_take (hr.mono (by decide)) rfl D__law_take.gl D__law_take.fn.kp D__law_take.bi .nil pass0 (pa_cons (pv 0) (pa_cons (pv 1) pa_nil))) pa_nil)))) pa_nil))))))
  (pss_cons (ps_setLc (own := [("k", 3)]) (i := 5) rfl S.nd rfl rfl (sw_true rfl rfl rfl (by decide +kernel)) (pi_range1 rfl T.b_range (pa_cons (pe_call G__law_take (hr.mono (by decide)) rfl D__law_take.gl D__law_take.fn.kp D__law_take.bi .nil pass0 (pa_cons (pv 0) (pa_cons pe_int pa_nil))) pa_nil)) (blkOk_by (N := N__law_machine) (sc := defScope s__law_machine) (by decide +kernel)) (fun _ _ _ _ _ => (pg_name (i := 3) S.nd rfl (Or.inl rfl))) (fun _ _ _ _ _ => pts_nil) (fun _ _ _ _ _ => (pe_call G__law_take (hr.mono (by decide)) rfl D__law_take.gl D__law_take.fn.kp D__law_take.bi .nil pass0 (pa_cons (pv 0) (pa_cons (pv 1) pa_nil)))))
  (pss_one (ps_ret (pe_tup (pa_cons (pv 1) (pa_cons (pe_op (r := rCatR K) op_catR (pv 2) (pe_slice (r := rSlL K) sl_list (pv 2) po_none (po_some (pe_call G__law_take (hr.mono (by decide)) rfl D__law_take.gl D__law_take.fn.kp D__law_take.bi .nil pass0 (pa_cons (pv 0) (pa_cons pe_int pa_nil)))))) (pa_cons (pe_op (r := rCatR K) op_catR (pv 5) (pe_slice (r := rSlL K) sl_list (pv 5) po_none (po_some (pe_call G__law_take (hr.mono (by decide)) rfl D__law_take.gl D__law_take.fn.kp D__law_take.bi .nil pass0 (pa_cons (pv 0) (pa_cons pe_int pa_nil)))))) pa_nil)))))))))), ?_⟩
  exact (rs_seq (rs_asgE (t := Ty.int) (re_l (re_rx (rx_op v_add (rxh_of (rx_pure rp_int)) (rxh_of (rx_callIOz (ms := M__law_machine) (ρ := Ty.int) (m := m__law_take) (v__law_machine_deck) (rxw_one (rxh_of (rx_op (v2_frz .o (v_ixL (t := Ty.int))) (rxh_w (rp_le (rp_list (t := Ty.int) (rl_cons rp_int (rl_cons rp_int rl_nil))))) (rxh_of (rx_callIOz (ms := M__law_machine) (ρ := Ty.int) (m := m__law_take) (v__law_machine_deck) (rxw_one (rxh_of (rx_pure rp_int))))))))))))) (rg_name (ms := M__law_machine) (v__law_machine_many)))
  (rs_seq (rs_set (ms := M__law_machine) (m := .o) (v__law_machine_arrows) (rp_list (t := (Ty.tup (Ty.cons Ty.int (Ty.cons Ty.str (Ty.last Ty.int))))) rl_nil))
  (rs_seq (rs_hide (rs_forXR [true, true, true, false, false, false] (rxw_one (rxh_of (rx_callIOz (ms := M__law_machine) (ρ := Ty.int) (m := m__law_take) (v__law_machine_deck) (rxw_one (rxh_of (rx_pure rp_int)))))) (rg_name (ms := M__law_machine) (v__law_machine_k)) (rs_seq (rs_asgE (t := Ty.str) (re_l (re_rx (rx_op (v2_frz .o (v_ixL (t := Ty.str))) (rxh_w (rp_le (rp_list (t := Ty.str) (rl_cons (rp_str) (rl_cons (rp_str) (rl_cons (rp_str) rl_nil)))))) (rxh_of (rx_callIOz (ms := M__law_machine) (ρ := Ty.int) (m := m__law_take) (v__law_machine_deck) (rxw_one (rxh_of (rx_pure rp_int)))))))) (rg_name (ms := M__law_machine) (v__law_machine_word)))
  (rs_appE (ms := M__law_machine) (t := (Ty.tup (Ty.cons Ty.int (Ty.cons Ty.str (Ty.last Ty.int))))) (v__law_machine_arrows) (re_l (re_rx (rx_tup (b := (Ty.cons Ty.int (Ty.cons Ty.str (Ty.last Ty.int)))) (rxr_cons (rx_callIOz (ms := M__law_machine) (ρ := Ty.int) (m := m__law_take) (v__law_machine_deck) (rxw_one (rxh_of (rx_pure (rp_frz .o (rp_varw (ms := M__law_machine) (v__law_machine_many))))))) (rxr_cons (rx_pure (rp_frz .o (rp_varw (ms := M__law_machine) (v__law_machine_word)))) (rxr_one (rx_callIOz (ms := M__law_machine) (ρ := Ty.int) (m := m__law_take) (v__law_machine_deck) (rxw_one (rxh_of (rx_pure (rp_frz .o (rp_varw (ms := M__law_machine) (v__law_machine_many)))))))))))))))))
  (rs_seq (rs_setX (ms := M__law_machine) (v__law_machine_ends) (rx_lcR (ms := M__law_machine) (u := Ty.int) [true, true, true, false, true, true] (v__law_machine_k) (rxw_one (rxh_of (rx_callIOz (ms := M__law_machine) (ρ := Ty.int) (m := m__law_take) (v__law_machine_deck) (rxw_one (rxh_of (rx_pure rp_int)))))) (rx_callIOz (ms := M__law_machine) (ρ := Ty.int) (m := m__law_take) (v__law_machine_deck) (rxw_one (rxh_of (rx_pure (rp_frz .o (rp_varw (ms := M__law_machine) (v__law_machine_many)))))))))
  (rs_retE (ρ := (Ty.tup (Ty.cons Ty.int (Ty.cons (Ty.list (Ty.tup (Ty.cons Ty.int (Ty.cons Ty.str (Ty.last Ty.int))))) (Ty.last (Ty.list Ty.int)))))) (re_rx (rx_keep [.r, .w, .k, .w, .w, .k] (rx_tup (b := (Ty.cons Ty.int (Ty.cons (Ty.list (Ty.tup (Ty.cons Ty.int (Ty.cons Ty.str (Ty.last Ty.int))))) (Ty.last (Ty.list Ty.int))))) (rxr_cons (rx_pure (rp_frz .o (rp_varw (ms := [.r, .w, .k, .w, .w, .k]) (v__law_machine_many)))) (rxr_cons (rx_cat (rxh_var (ms := [.r, .w, .k, .w, .w, .k]) (v__law_machine_arrows)) (rxh_of (rx_sliceL (t := (Ty.tup (Ty.cons Ty.int (Ty.cons Ty.str (Ty.last Ty.int))))) (rxh_var (ms := [.r, .w, .k, .w, .w, .k]) (v__law_machine_arrows)) (rxo_pure ro_none) (rxo_some (rx_callIOz (ms := [.r, .w, .k, .w, .w, .k]) (ρ := Ty.int) (m := m__law_take) (v__law_machine_deck) (rxw_one (rxh_of (rx_pure rp_int)))))))) (rxr_one (rx_cat (rxh_var (ms := [.r, .w, .k, .w, .w, .k]) (v__law_machine_ends)) (rxh_of (rx_sliceL (t := Ty.int) (rxh_var (ms := [.r, .w, .k, .w, .w, .k]) (v__law_machine_ends)) (rxo_pure ro_none) (rxo_some (rx_callIOz (ms := [.r, .w, .k, .w, .w, .k]) (ρ := Ty.int) (m := m__law_take) (v__law_machine_deck) (rxw_one (rxh_of (rx_pure rp_int)))))))))))))))))))
/-! ### _law_made -/
abbrev s__law_made : Stmt := topS 7
abbrev N__law_made : List Str := ["deck", "machine", "row", "rooms", "k", "some", "arrow"]
abbrev P__law_made : List Str := ["deck", "machine"]
theorem sc__law_made : FnScope N__law_made P__law_made (defScope s__law_made) := ⟨rfl, rfl, rfl, by decide +kernel, rfl, by decide +kernel, by decide +kernel⟩
abbrev g__law_made : List Ty := [(Ty.hl (Ty.cons (Ty.own (Ty.list Ty.int)) (Ty.last Ty.int))), (Ty.tup (Ty.cons Ty.int (Ty.cons (Ty.list (Ty.tup (Ty.cons Ty.int (Ty.cons Ty.str (Ty.last Ty.int))))) (Ty.last (Ty.list Ty.int))))), (Ty.list Ty.str), (Ty.list Ty.int), Ty.int, (Ty.list (Ty.tup (Ty.cons Ty.int (Ty.cons Ty.str (Ty.last Ty.int))))), (Ty.tup (Ty.cons Ty.int (Ty.cons Ty.str (Ty.last Ty.int))))]
abbrev M__law_made : List Md := [.r, .w, .o, .o, .w, .l, .w]
abbrev v__law_made_deck : Mem g__law_made (Ty.hl (Ty.cons (Ty.own (Ty.list Ty.int)) (Ty.last Ty.int))) := .z
abbrev v__law_made_machine : Mem g__law_made (Ty.tup (Ty.cons Ty.int (Ty.cons (Ty.list (Ty.tup (Ty.cons Ty.int (Ty.cons Ty.str (Ty.last Ty.int))))) (Ty.last (Ty.list Ty.int))))) := (.s .z)
abbrev v__law_made_row : Mem g__law_made (Ty.list Ty.str) := (.s (.s .z))
abbrev v__law_made_rooms : Mem g__law_made (Ty.list Ty.int) := (.s (.s (.s .z)))
abbrev v__law_made_k : Mem g__law_made Ty.int := (.s (.s (.s (.s .z))))
abbrev v__law_made_some : Mem g__law_made (Ty.list (Ty.tup (Ty.cons Ty.int (Ty.cons Ty.str (Ty.last Ty.int))))) := (.s (.s (.s (.s (.s .z)))))
abbrev v__law_made_arrow : Mem g__law_made (Ty.tup (Ty.cons Ty.int (Ty.cons Ty.str (Ty.last Ty.int)))) := (.s (.s (.s (.s (.s (.s .z))))))
noncomputable def lc__law_made_1 : Gam g__law_made → Option (List (den (Ty.tup (Ty.cons Ty.int (Ty.cons Ty.str (Ty.last Ty.int)))))) := hide (eLc (eProj (b := (Ty.cons Ty.int (Ty.cons (Ty.list (Ty.tup (Ty.cons Ty.int (Ty.cons Ty.str (Ty.last Ty.int))))) (Ty.last (Ty.list Ty.int))))) (t := (Ty.list (Ty.tup (Ty.cons Ty.int (Ty.cons Ty.str (Ty.last Ty.int)))))) (.s .z) (eV (t := (Ty.tup (Ty.cons Ty.int (Ty.cons (Ty.list (Ty.tup (Ty.cons Ty.int (Ty.cons Ty.str (Ty.last Ty.int))))) (Ty.last (Ty.list Ty.int)))))) (v__law_made_machine))) (bName (t := (Ty.tup (Ty.cons Ty.int (Ty.cons Ty.str (Ty.last Ty.int))))) (v__law_made_arrow)) (Gam.mask [true, true, true, true, true, true, false]) (e2 fEqI (eProj (b := (Ty.cons Ty.int (Ty.cons Ty.str (Ty.last Ty.int)))) (t := Ty.int) .z (eV (t := (Ty.tup (Ty.cons Ty.int (Ty.cons Ty.str (Ty.last Ty.int))))) (v__law_made_arrow))) (e2 atI (eV (t := (Ty.list Ty.int)) (v__law_made_rooms)) (e1 (fun a => some (-a)) (eC (1 : Int))))) (eV (t := (Ty.tup (Ty.cons Ty.int (Ty.cons Ty.str (Ty.last Ty.int))))) (v__law_made_arrow)))
theorem lc__law_made_1_eq : lc__law_made_1 = (eLc (eProj (b := (Ty.cons Ty.int (Ty.cons (Ty.list (Ty.tup (Ty.cons Ty.int (Ty.cons Ty.str (Ty.last Ty.int))))) (Ty.last (Ty.list Ty.int))))) (t := (Ty.list (Ty.tup (Ty.cons Ty.int (Ty.cons Ty.str (Ty.last Ty.int)))))) (.s .z) (eV (t := (Ty.tup (Ty.cons Ty.int (Ty.cons (Ty.list (Ty.tup (Ty.cons Ty.int (Ty.cons Ty.str (Ty.last Ty.int))))) (Ty.last (Ty.list Ty.int)))))) (v__law_made_machine))) (bName (t := (Ty.tup (Ty.cons Ty.int (Ty.cons Ty.str (Ty.last Ty.int))))) (v__law_made_arrow)) (Gam.mask [true, true, true, true, true, true, false]) (e2 fEqI (eProj (b := (Ty.cons Ty.int (Ty.cons Ty.str (Ty.last Ty.int)))) (t := Ty.int) .z (eV (t := (Ty.tup (Ty.cons Ty.int (Ty.cons Ty.str (Ty.last Ty.int))))) (v__law_made_arrow))) (e2 atI (eV (t := (Ty.list Ty.int)) (v__law_made_rooms)) (e1 (fun a => some (-a)) (eC (1 : Int))))) (eV (t := (Ty.tup (Ty.cons Ty.int (Ty.cons Ty.str (Ty.last Ty.int))))) (v__law_made_arrow))) := hide_eq _
abbrev st__law_made_1 (x0_deck : den (Ty.hl (Ty.cons (Ty.own (Ty.list Ty.int)) (Ty.last Ty.int)))) (x1_machine : den (Ty.tup (Ty.cons Ty.int (Ty.cons (Ty.list (Ty.tup (Ty.cons Ty.int (Ty.cons Ty.str (Ty.last Ty.int))))) (Ty.last (Ty.list Ty.int)))))) (x2_row : den (Ty.list Ty.str)) (x3_rooms : den (Ty.list Ty.int)) : Gam g__law_made := (some x0_deck, some x1_machine, some x2_row, some x3_rooms, none, none, none, ())
noncomputable def lb__law_made_1 : Gam g__law_made → Option (Fl (Gam g__law_made) (den (Ty.hl (Ty.cons (Ty.own (Ty.list Ty.str)) (Ty.last (Ty.own (Ty.list Ty.int))))))) :=
  (sSeq (sSet (v__law_made_some) lc__law_made_1)
  (sIf (e2 (fNeD (Ty.list (Ty.tup (Ty.cons Ty.int (Ty.cons Ty.str (Ty.last Ty.int)))))) (eV (t := (Ty.list (Ty.tup (Ty.cons Ty.int (Ty.cons Ty.str (Ty.last Ty.int)))))) (v__law_made_some)) (e1 fSmall eNil)) (sSeq (sAsgE (eX2 atI (ePure (eV (t := (Ty.list (Ty.tup (Ty.cons Ty.int (Ty.cons Ty.str (Ty.last Ty.int)))))) (v__law_made_some))) (eIOz (b := (Ty.last Ty.int)) (tio := (Ty.hl (Ty.cons (Ty.own (Ty.list Ty.int)) (Ty.last Ty.int)))) (v__law_made_deck) m__law_take (ePure (e1 fLen (eV (t := (Ty.list (Ty.tup (Ty.cons Ty.int (Ty.cons Ty.str (Ty.last Ty.int)))))) (v__law_made_some)))))) (bName (t := (Ty.tup (Ty.cons Ty.int (Ty.cons Ty.str (Ty.last Ty.int))))) (v__law_made_arrow)))
  (sSeq (sApp (v__law_made_row) (eProj (b := (Ty.cons Ty.int (Ty.cons Ty.str (Ty.last Ty.int)))) (t := Ty.str) (.s .z) (eV (t := (Ty.tup (Ty.cons Ty.int (Ty.cons Ty.str (Ty.last Ty.int))))) (v__law_made_arrow))))
  (sApp (v__law_made_rooms) (eProj (b := (Ty.cons Ty.int (Ty.cons Ty.str (Ty.last Ty.int)))) (t := Ty.int) (.s (.s .one)) (eV (t := (Ty.tup (Ty.cons Ty.int (Ty.cons Ty.str (Ty.last Ty.int))))) (v__law_made_arrow)))))) sNext))
noncomputable def lp__law_made_1 : Gam g__law_made → Option (Fl (Gam g__law_made) (den (Ty.hl (Ty.cons (Ty.own (Ty.list Ty.str)) (Ty.last (Ty.own (Ty.list Ty.int))))))) := hide (sForX (eIOz (b := (Ty.last Ty.int)) (tio := (Ty.hl (Ty.cons (Ty.own (Ty.list Ty.int)) (Ty.last Ty.int)))) (v__law_made_deck) m__law_take (ePure (eC (10 : Int)))) (bName (t := Ty.int) (v__law_made_k)) (Gam.mask [true, true, true, true, false, false, false]) lb__law_made_1)
theorem lp__law_made_1_eq : lp__law_made_1 = (sForX (eIOz (b := (Ty.last Ty.int)) (tio := (Ty.hl (Ty.cons (Ty.own (Ty.list Ty.int)) (Ty.last Ty.int)))) (v__law_made_deck) m__law_take (ePure (eC (10 : Int)))) (bName (t := Ty.int) (v__law_made_k)) (Gam.mask [true, true, true, true, false, false, false]) lb__law_made_1) := hide_eq _
noncomputable def b__law_made : Gam g__law_made → Option (Fl (Gam g__law_made) (den (Ty.hl (Ty.cons (Ty.own (Ty.list Ty.str)) (Ty.last (Ty.own (Ty.list Ty.int))))))) :=
  (sSeq (sSet (v__law_made_row) (e1 fSmall eNil))
  (sSeq (sSet (v__law_made_rooms) (e1 fSmall (eSnoc (eC (0 : Int)) eNil)))
  (sSeq lp__law_made_1
  (sRetE (eConsE (eMove (t := (Ty.list Ty.str)) (v__law_made_row)) (eMove (t := (Ty.list Ty.int)) (v__law_made_rooms)))))))
noncomputable def m__law_made : den (Ty.cons (Ty.hl (Ty.cons (Ty.own (Ty.list Ty.int)) (Ty.last Ty.int))) (Ty.last (Ty.tup (Ty.cons Ty.int (Ty.cons (Ty.list (Ty.tup (Ty.cons Ty.int (Ty.cons Ty.str (Ty.last Ty.int))))) (Ty.last (Ty.list Ty.int))))))) → Option (den (Ty.hl (Ty.cons (Ty.own (Ty.list Ty.str)) (Ty.last (Ty.own (Ty.list Ty.int))))) × den (Ty.hl (Ty.cons (Ty.own (Ty.list Ty.int)) (Ty.last Ty.int)))) := hide (runIO (.z : RIx (Ty.cons (Ty.hl (Ty.cons (Ty.own (Ty.list Ty.int)) (Ty.last Ty.int))) (Ty.last (Ty.tup (Ty.cons Ty.int (Ty.cons (Ty.list (Ty.tup (Ty.cons Ty.int (Ty.cons Ty.str (Ty.last Ty.int))))) (Ty.last (Ty.list Ty.int))))))) (Ty.hl (Ty.cons (Ty.own (Ty.list Ty.int)) (Ty.last Ty.int)))) [(Ty.list Ty.str), (Ty.list Ty.int), Ty.int, (Ty.list (Ty.tup (Ty.cons Ty.int (Ty.cons Ty.str (Ty.last Ty.int))))), (Ty.tup (Ty.cons Ty.int (Ty.cons Ty.str (Ty.last Ty.int))))] (none : Option (den (Ty.hl (Ty.cons (Ty.own (Ty.list Ty.str)) (Ty.last (Ty.own (Ty.list Ty.int))))))) b__law_made)
theorem m__law_made_eq (d : den (Ty.cons (Ty.hl (Ty.cons (Ty.own (Ty.list Ty.int)) (Ty.last Ty.int))) (Ty.last (Ty.tup (Ty.cons Ty.int (Ty.cons (Ty.list (Ty.tup (Ty.cons Ty.int (Ty.cons Ty.str (Ty.last Ty.int))))) (Ty.last (Ty.list Ty.int)))))))) : m__law_made d = runIO (.z : RIx (Ty.cons (Ty.hl (Ty.cons (Ty.own (Ty.list Ty.int)) (Ty.last Ty.int))) (Ty.last (Ty.tup (Ty.cons Ty.int (Ty.cons (Ty.list (Ty.tup (Ty.cons Ty.int (Ty.cons Ty.str (Ty.last Ty.int))))) (Ty.last (Ty.list Ty.int))))))) (Ty.hl (Ty.cons (Ty.own (Ty.list Ty.int)) (Ty.last Ty.int)))) [(Ty.list Ty.str), (Ty.list Ty.int), Ty.int, (Ty.list (Ty.tup (Ty.cons Ty.int (Ty.cons Ty.str (Ty.last Ty.int))))), (Ty.tup (Ty.cons Ty.int (Ty.cons Ty.str (Ty.last Ty.int))))] (none : Option (den (Ty.hl (Ty.cons (Ty.own (Ty.list Ty.str)) (Ty.last (Ty.own (Ty.list Ty.int))))))) b__law_made d := congrFun (hide_eq _) d
theorem m__law_made_at (p0 : den (Ty.hl (Ty.cons (Ty.own (Ty.list Ty.int)) (Ty.last Ty.int)))) (p1 : den (Ty.tup (Ty.cons Ty.int (Ty.cons (Ty.list (Ty.tup (Ty.cons Ty.int (Ty.cons Ty.str (Ty.last Ty.int))))) (Ty.last (Ty.list Ty.int)))))) : m__law_made (p0, p1) = endIO (v__law_made_deck) (none : Option (den (Ty.hl (Ty.cons (Ty.own (Ty.list Ty.str)) (Ty.last (Ty.own (Ty.list Ty.int))))))) (b__law_made ((some p0, some p1, none, none, none, none, none, ()) : Gam g__law_made)) := by
  rw [m__law_made_eq]
  rfl
set_option maxHeartbeats 4000000 in
theorem ok__law_made {f : Addr} {fd : FuncData} (F : Fun K "_law_made" "_law_made" s__law_made f fd) (T : Txt K mg) {f__law_take : Addr} {fd__law_take : FuncData} (D__law_take : Df K mg "_law_take" "_law_take" s__law_take P__law_take f__law_take fd__law_take) (G__law_take : FnOk P w K mg base CX0 1 f__law_take fd__law_take P__law_take (spIO K (Ty.cons (Ty.hl (Ty.cons (Ty.own (Ty.list Ty.int)) (Ty.last Ty.int))) (Ty.last Ty.int)) (.z : RIx (Ty.cons (Ty.hl (Ty.cons (Ty.own (Ty.list Ty.int)) (Ty.last Ty.int))) (Ty.last Ty.int)) (Ty.hl (Ty.cons (Ty.own (Ty.list Ty.int)) (Ty.last Ty.int)))) .o Ty.int m__law_take)) :
    FnOk P w K mg base CX0 2 f fd P__law_made (spIO K (Ty.cons (Ty.hl (Ty.cons (Ty.own (Ty.list Ty.int)) (Ty.last Ty.int))) (Ty.last (Ty.tup (Ty.cons Ty.int (Ty.cons (Ty.list (Ty.tup (Ty.cons Ty.int (Ty.cons Ty.str (Ty.last Ty.int))))) (Ty.last (Ty.list Ty.int))))))) (.z : RIx (Ty.cons (Ty.hl (Ty.cons (Ty.own (Ty.list Ty.int)) (Ty.last Ty.int))) (Ty.last (Ty.tup (Ty.cons Ty.int (Ty.cons (Ty.list (Ty.tup (Ty.cons Ty.int (Ty.cons Ty.str (Ty.last Ty.int))))) (Ty.last (Ty.list Ty.int))))))) (Ty.hl (Ty.cons (Ty.own (Ty.list Ty.int)) (Ty.last Ty.int)))) .o (Ty.hl (Ty.cons (Ty.own (Ty.list Ty.str)) (Ty.last (Ty.own (Ty.list Ty.int))))) m__law_made) := by
  have S := sc__law_made
  refine fn_okIO (ρ := (Ty.hl (Ty.cons (Ty.own (Ty.list Ty.str)) (Ty.last (Ty.own (Ty.list Ty.int)))))) (F := b__law_made) (.z : RIx (Ty.cons (Ty.hl (Ty.cons (Ty.own (Ty.list Ty.int)) (Ty.last Ty.int))) (Ty.last (Ty.tup (Ty.cons Ty.int (Ty.cons (Ty.list (Ty.tup (Ty.cons Ty.int (Ty.cons Ty.str (Ty.last Ty.int))))) (Ty.last (Ty.list Ty.int))))))) (Ty.hl (Ty.cons (Ty.own (Ty.list Ty.int)) (Ty.last Ty.int)))) [(Ty.list Ty.str), (Ty.list Ty.int), Ty.int, (Ty.list (Ty.tup (Ty.cons Ty.int (Ty.cons Ty.str (Ty.last Ty.int))))), (Ty.tup (Ty.cons Ty.int (Ty.cons Ty.str (Ty.last Ty.int))))] M__law_made (none : Option (den (Ty.hl (Ty.cons (Ty.own (Ty.list Ty.str)) (Ty.last (Ty.own (Ty.list Ty.int))))))) F S rfl rfl rfl m__law_made_eq (fun z hz => nomatch hz) (fun cdv A outer s H E hr => ?_)
  refine ⟨_, (pss_cons (ps_set (i := 2) S.nd rfl (Or.inl rfl) (pe_lst pa_nil))
  (pss_cons (ps_set (i := 3) S.nd rfl (Or.inr rfl) (pe_lst (pa_cons pe_int pa_nil)))
  (pss_cons (ps_for PassesOwn.never rfl (pi_range1 rfl T.b_range (pa_cons (pe_call G__law_take (hr.mono (by decide)) rfl D__law_take.gl D__law_take.fn.kp D__law_take.bi .nil pass0 (pa_cons (pv 0) (pa_cons pe_int pa_nil))) pa_nil)) (pg_name (i := 4) S.nd rfl (Or.inl rfl)) (pss_cons (ps_setLc (own := [("arrow", 6)]) (i := 5) rfl S.nd rfl rfl (sw_true rfl rfl rfl (by decide +kernel)) (pi_listK K rfl (pe_ix (r := rIxT K) ix_tup (pv 1) pe_int (fun _ _ => rfl))) (blkOk_by (N := N__law_made) (sc := defScope s__law_made) (by decide +kernel)) (fun _ _ _ _ _ => (pg_name (i := 6) S.nd rfl (Or.inl rfl))) (fun _ _ _ _ _ => (pts_one (pt_cmpR op_eq (pe_ix (r := rIxT K) ix_tup (pv 6) pe_int (fun _ _ => rfl)) (pe_ix (r := rIxL K) ix_list (pv 3) (pe_un un_neg pe_int) (fun _ _ => rfl)) (nomark _)))) (fun _ _ _ _ _ => (pv 6)))
  (pss_one (ps_if (pt_cmpR (r := rNeD K) (op_neD hr.units) (pv 5) (pe_lst pa_nil) (nomark _)) (pss_cons (ps_asg (pe_ix (r := rIxL K) ix_list (pv 5) (pe_call G__law_take (hr.mono (by decide)) rfl D__law_take.gl D__law_take.fn.kp D__law_take.bi .nil pass0 (pa_cons (pv 0) (pa_cons (pe_callB (r := VV.rLen K) call_len (by rfl) T.b_len (by decide +kernel) (pa_cons (pv 5) pa_nil)) pa_nil))) (fun _ _ => rfl)) (pg_name (i := 6) S.nd rfl (Or.inl rfl)))
  (pss_cons (ps_expr (pe_bm PySem.F.plainAttrs_list PySem.F.slot_list_append PySem.F.type_list_append mt_append (pv 2) (pa_cons (pe_ix (r := rIxT K) ix_tup (pv 6) pe_int (fun _ _ => rfl)) pa_nil)))
  (pss_one (ps_expr (pe_bm PySem.F.plainAttrs_list PySem.F.slot_list_append PySem.F.type_list_append mt_append (pv 3) (pa_cons (pe_ix (r := rIxT K) ix_tup (pv 6) pe_int (fun _ _ => rfl)) pa_nil)))))) pss_nil))))
  (pss_one (ps_ret (pe_lst (pa_cons (pv 2) (pa_cons (pv 3) pa_nil)))))))), ?_⟩
  exact (rs_seq (rs_set (ms := M__law_made) (m := .o) (v__law_made_row) (rp_list (t := Ty.str) rl_nil))
  (rs_seq (rs_set (ms := M__law_made) (m := .o) (v__law_made_rooms) (rp_list (t := Ty.int) (rl_cons rp_int rl_nil)))
  (rs_seq (rs_hide (rs_forXR [true, true, true, true, false, false, false] (rxw_one (rxh_of (rx_callIOz (ms := M__law_made) (ρ := Ty.int) (m := m__law_take) (v__law_made_deck) (rxw_one (rxh_of (rx_pure rp_int)))))) (rg_name (ms := M__law_made) (v__law_made_k)) (rs_seq (rs_set (ms := M__law_made) (m := .l) (v__law_made_some) (rp_le (rp_hide (rp_lc (w := true) (m := .o) (t := (Ty.tup (Ty.cons Ty.int (Ty.cons Ty.str (Ty.last Ty.int))))) (u := (Ty.tup (Ty.cons Ty.int (Ty.cons Ty.str (Ty.last Ty.int))))) [true, true, true, true, true, true, false] [6] (ris_of (ri_list (w := true) (t := (Ty.tup (Ty.cons Ty.int (Ty.cons Ty.str (Ty.last Ty.int))))) (rp_projw (m := .w) (b := (Ty.cons Ty.int (Ty.cons (Ty.list (Ty.tup (Ty.cons Ty.int (Ty.cons Ty.str (Ty.last Ty.int))))) (Ty.last (Ty.list Ty.int))))) (t := (Ty.list (Ty.tup (Ty.cons Ty.int (Ty.cons Ty.str (Ty.last Ty.int)))))) (.s .z) 1 (rp_varw (ms := M__law_made) (v__law_made_machine))))) (rg_name (ms := M__law_made) (v__law_made_arrow)) gw_name (rt_test (rp_op (m := .b) (m1 := .b) (m2 := .b) v_eqI (rp_proj (m := .b) (b := (Ty.cons Ty.int (Ty.cons Ty.str (Ty.last Ty.int)))) (t := Ty.int) .z 0 (rp_frz .b (rp_varw (ms := M__law_made) (v__law_made_arrow)))) (rp_op (m1 := .b) (m2 := .b) (v_ixL (t := Ty.int)) (rp_var (ms := M__law_made) (v__law_made_rooms)) (rp_neg (m1 := .b) rp_int)))) (rp_frz .o (rp_varw (ms := M__law_made) (v__law_made_arrow)))))))
  (rs_if (rt_test (rp_op (m := .b) (m1 := .b) (m2 := .b) (v_neD (t := (Ty.list (Ty.tup (Ty.cons Ty.int (Ty.cons Ty.str (Ty.last Ty.int)))))) (by decide)) (rp_le (rp_varl (ms := M__law_made) (v__law_made_some))) (rp_le (rp_list (t := (Ty.tup (Ty.cons Ty.int (Ty.cons Ty.str (Ty.last Ty.int))))) rl_nil)))) (rs_seq (rs_asgE (t := (Ty.tup (Ty.cons Ty.int (Ty.cons Ty.str (Ty.last Ty.int))))) (re_l (re_rx (rx_op (v2_frz .o (v_ixL (t := (Ty.tup (Ty.cons Ty.int (Ty.cons Ty.str (Ty.last Ty.int))))))) (rxh_w (rp_le (rp_varl (ms := M__law_made) (v__law_made_some)))) (rxh_of (rx_callIOz (ms := M__law_made) (ρ := Ty.int) (m := m__law_take) (v__law_made_deck) (rxw_one (rxh_of (rx_pure (rp_lenL (m' := .b) (rp_le (rp_varl (ms := M__law_made) (v__law_made_some)))))))))))) (rg_name (ms := M__law_made) (v__law_made_arrow)))
  (rs_seq (rs_app (ms := M__law_made) (v__law_made_row) (rp_frz .o (rp_proj (m := .b) (b := (Ty.cons Ty.int (Ty.cons Ty.str (Ty.last Ty.int)))) (t := Ty.str) (.s .z) 1 (rp_frz .b (rp_varw (ms := M__law_made) (v__law_made_arrow))))))
  (rs_app (ms := M__law_made) (v__law_made_rooms) (rp_frz .o (rp_proj (m := .b) (b := (Ty.cons Ty.int (Ty.cons Ty.str (Ty.last Ty.int)))) (t := Ty.int) (.s (.s .one)) 2 (rp_frz .b (rp_varw (ms := M__law_made) (v__law_made_arrow)))))))) rs_next))))
  (rs_retE (ρ := (Ty.hl (Ty.cons (Ty.own (Ty.list Ty.str)) (Ty.last (Ty.own (Ty.list Ty.int)))))) (re_hlE (b := (Ty.cons (Ty.own (Ty.list Ty.str)) (Ty.last (Ty.own (Ty.list Ty.int))))) (rae_cons (rpe_own (rpe_move (ms := M__law_made) (v__law_made_row))) (rae_one (rpe_own (rpe_move (ms := M__law_made) (v__law_made_rooms))))))))))
/-! ### _law_spoilt -/
abbrev s__law_spoilt : Stmt := topS 10
abbrev N__law_spoilt : List Str := ["deck", "machine", "walk", "way", "at"]
abbrev P__law_spoilt : List Str := ["deck", "machine", "walk"]
theorem sc__law_spoilt : FnScope N__law_spoilt P__law_spoilt (defScope s__law_spoilt) := ⟨rfl, rfl, rfl, by decide +kernel, rfl, by decide +kernel, by decide +kernel⟩
abbrev g__law_spoilt : List Ty := [(Ty.hl (Ty.cons (Ty.own (Ty.list Ty.int)) (Ty.last Ty.int))), (Ty.tup (Ty.cons Ty.int (Ty.cons (Ty.list (Ty.tup (Ty.cons Ty.int (Ty.cons Ty.str (Ty.last Ty.int))))) (Ty.last (Ty.list Ty.int))))), (Ty.list Ty.int), Ty.int, Ty.int]
abbrev M__law_spoilt : List Md := [.r, .w, .w, .w, .w]
abbrev v__law_spoilt_deck : Mem g__law_spoilt (Ty.hl (Ty.cons (Ty.own (Ty.list Ty.int)) (Ty.last Ty.int))) := .z
abbrev v__law_spoilt_machine : Mem g__law_spoilt (Ty.tup (Ty.cons Ty.int (Ty.cons (Ty.list (Ty.tup (Ty.cons Ty.int (Ty.cons Ty.str (Ty.last Ty.int))))) (Ty.last (Ty.list Ty.int))))) := (.s .z)
abbrev v__law_spoilt_walk : Mem g__law_spoilt (Ty.list Ty.int) := (.s (.s .z))
abbrev v__law_spoilt_way : Mem g__law_spoilt Ty.int := (.s (.s (.s .z)))
abbrev v__law_spoilt_at : Mem g__law_spoilt Ty.int := (.s (.s (.s (.s .z))))
noncomputable def b__law_spoilt : Gam g__law_spoilt → Option (Fl (Gam g__law_spoilt) (den (Ty.list Ty.int))) :=
  (sSeq (sAsgE (eIO (b := (Ty.cons (Ty.hl (Ty.cons (Ty.own (Ty.list Ty.int)) (Ty.last Ty.int))) (Ty.last Ty.int))) (tio := (Ty.hl (Ty.cons (Ty.own (Ty.list Ty.int)) (Ty.last Ty.int)))) (v__law_spoilt_deck) m__law_take (eCons (eV (t := (Ty.hl (Ty.cons (Ty.own (Ty.list Ty.int)) (Ty.last Ty.int)))) (v__law_spoilt_deck)) (eC (9 : Int)))) (bName (t := Ty.int) (v__law_spoilt_way)))
  (sSeq (sAsgE (eIO (b := (Ty.cons (Ty.hl (Ty.cons (Ty.own (Ty.list Ty.int)) (Ty.last Ty.int))) (Ty.last Ty.int))) (tio := (Ty.hl (Ty.cons (Ty.own (Ty.list Ty.int)) (Ty.last Ty.int)))) (v__law_spoilt_deck) m__law_take (eCons (eV (t := (Ty.hl (Ty.cons (Ty.own (Ty.list Ty.int)) (Ty.last Ty.int)))) (v__law_spoilt_deck)) (e1 fLen (eV (t := (Ty.list Ty.int)) (v__law_spoilt_walk))))) (bName (t := Ty.int) (v__law_spoilt_at)))
  (sSeq (sIf (e2 fEqI (eV (t := Ty.int) (v__law_spoilt_way)) (eC (8 : Int))) (sRetE (eX2 fCatL (eX2 fCatL (ePure (e3 fCutL (eV (t := (Ty.list Ty.int)) (v__law_spoilt_walk)) (eC none) (e1 (fun i => some (some i)) (eV (t := Ty.int) (v__law_spoilt_at))))) (eX1 fSmall (eXSnoc (eX2 atI (ePure (e1 fSmall (eSnoc (e1 (fun a => some (-a)) (eC (1 : Int))) (eSnoc (eProj (b := (Ty.cons Ty.int (Ty.cons (Ty.list (Ty.tup (Ty.cons Ty.int (Ty.cons Ty.str (Ty.last Ty.int))))) (Ty.last (Ty.list Ty.int))))) (t := Ty.int) .z (eV (t := (Ty.tup (Ty.cons Ty.int (Ty.cons (Ty.list (Ty.tup (Ty.cons Ty.int (Ty.cons Ty.str (Ty.last Ty.int))))) (Ty.last (Ty.list Ty.int)))))) (v__law_spoilt_machine))) eNil)))) (eIOz (b := (Ty.last Ty.int)) (tio := (Ty.hl (Ty.cons (Ty.own (Ty.list Ty.int)) (Ty.last Ty.int)))) (v__law_spoilt_deck) m__law_take (ePure (eC (2 : Int))))) (ePure eNil)))) (ePure (e3 fCutL (eV (t := (Ty.list Ty.int)) (v__law_spoilt_walk)) (e1 (fun i => some (some i)) (e2 fAdd (eV (t := Ty.int) (v__law_spoilt_at)) (eC (1 : Int)))) (eC none))))) sNext)
  (sSeq (sIf (e2 fEqI (eV (t := Ty.int) (v__law_spoilt_way)) (eC (0 : Int))) (sRet (e2 fCatL (e3 fCutL (eV (t := (Ty.list Ty.int)) (v__law_spoilt_walk)) (eC none) (e1 (fun i => some (some i)) (eV (t := Ty.int) (v__law_spoilt_at)))) (e3 fCutL (eV (t := (Ty.list Ty.int)) (v__law_spoilt_walk)) (e1 (fun i => some (some i)) (e2 fAdd (eV (t := Ty.int) (v__law_spoilt_at)) (eC (1 : Int)))) (eC none)))) sNext)
  (sSeq (sIf (e2 fEqI (eV (t := Ty.int) (v__law_spoilt_way)) (eC (1 : Int))) (sRetE (eX2 fCatL (eX2 fCatL (ePure (e3 fCutL (eV (t := (Ty.list Ty.int)) (v__law_spoilt_walk)) (eC none) (e1 (fun i => some (some i)) (eV (t := Ty.int) (v__law_spoilt_at))))) (eX1 fSmall (eXSnoc (eIOz (b := (Ty.last Ty.int)) (tio := (Ty.hl (Ty.cons (Ty.own (Ty.list Ty.int)) (Ty.last Ty.int)))) (v__law_spoilt_deck) m__law_take (ePure (eProj (b := (Ty.cons Ty.int (Ty.cons (Ty.list (Ty.tup (Ty.cons Ty.int (Ty.cons Ty.str (Ty.last Ty.int))))) (Ty.last (Ty.list Ty.int))))) (t := Ty.int) .z (eV (t := (Ty.tup (Ty.cons Ty.int (Ty.cons (Ty.list (Ty.tup (Ty.cons Ty.int (Ty.cons Ty.str (Ty.last Ty.int))))) (Ty.last (Ty.list Ty.int)))))) (v__law_spoilt_machine))))) (ePure eNil)))) (ePure (e3 fCutL (eV (t := (Ty.list Ty.int)) (v__law_spoilt_walk)) (e1 (fun i => some (some i)) (e2 fAdd (eV (t := Ty.int) (v__law_spoilt_at)) (eC (1 : Int)))) (eC none))))) sNext)
  (sSeq (sIf (e2 fEqI (eV (t := Ty.int) (v__law_spoilt_way)) (eC (2 : Int))) (sRetE (eX2 fCatL (ePure (eV (t := (Ty.list Ty.int)) (v__law_spoilt_walk))) (eX1 fSmall (eXSnoc (eIOz (b := (Ty.last Ty.int)) (tio := (Ty.hl (Ty.cons (Ty.own (Ty.list Ty.int)) (Ty.last Ty.int)))) (v__law_spoilt_deck) m__law_take (ePure (eProj (b := (Ty.cons Ty.int (Ty.cons (Ty.list (Ty.tup (Ty.cons Ty.int (Ty.cons Ty.str (Ty.last Ty.int))))) (Ty.last (Ty.list Ty.int))))) (t := Ty.int) .z (eV (t := (Ty.tup (Ty.cons Ty.int (Ty.cons (Ty.list (Ty.tup (Ty.cons Ty.int (Ty.cons Ty.str (Ty.last Ty.int))))) (Ty.last (Ty.list Ty.int)))))) (v__law_spoilt_machine))))) (ePure eNil))))) sNext)
  (sSeq (sIf (e2 fEqI (eV (t := Ty.int) (v__law_spoilt_way)) (eC (3 : Int))) (sRetE (eX2 fCatL (eX2 fCatL (ePure (e3 fCutL (eV (t := (Ty.list Ty.int)) (v__law_spoilt_walk)) (eC none) (e1 (fun i => some (some i)) (eV (t := Ty.int) (v__law_spoilt_at))))) (eX1 fSmall (eXSnoc (eIOz (b := (Ty.last Ty.int)) (tio := (Ty.hl (Ty.cons (Ty.own (Ty.list Ty.int)) (Ty.last Ty.int)))) (v__law_spoilt_deck) m__law_take (ePure (eProj (b := (Ty.cons Ty.int (Ty.cons (Ty.list (Ty.tup (Ty.cons Ty.int (Ty.cons Ty.str (Ty.last Ty.int))))) (Ty.last (Ty.list Ty.int))))) (t := Ty.int) .z (eV (t := (Ty.tup (Ty.cons Ty.int (Ty.cons (Ty.list (Ty.tup (Ty.cons Ty.int (Ty.cons Ty.str (Ty.last Ty.int))))) (Ty.last (Ty.list Ty.int)))))) (v__law_spoilt_machine))))) (ePure eNil)))) (ePure (e3 fCutL (eV (t := (Ty.list Ty.int)) (v__law_spoilt_walk)) (e1 (fun i => some (some i)) (eV (t := Ty.int) (v__law_spoilt_at))) (eC none))))) sNext)
  (sRet (eV (t := (Ty.list Ty.int)) (v__law_spoilt_walk))))))))))
noncomputable def m__law_spoilt : den (Ty.cons (Ty.hl (Ty.cons (Ty.own (Ty.list Ty.int)) (Ty.last Ty.int))) (Ty.cons (Ty.tup (Ty.cons Ty.int (Ty.cons (Ty.list (Ty.tup (Ty.cons Ty.int (Ty.cons Ty.str (Ty.last Ty.int))))) (Ty.last (Ty.list Ty.int))))) (Ty.last (Ty.list Ty.int)))) → Option (den (Ty.list Ty.int) × den (Ty.hl (Ty.cons (Ty.own (Ty.list Ty.int)) (Ty.last Ty.int)))) := hide (runIO (.z : RIx (Ty.cons (Ty.hl (Ty.cons (Ty.own (Ty.list Ty.int)) (Ty.last Ty.int))) (Ty.cons (Ty.tup (Ty.cons Ty.int (Ty.cons (Ty.list (Ty.tup (Ty.cons Ty.int (Ty.cons Ty.str (Ty.last Ty.int))))) (Ty.last (Ty.list Ty.int))))) (Ty.last (Ty.list Ty.int)))) (Ty.hl (Ty.cons (Ty.own (Ty.list Ty.int)) (Ty.last Ty.int)))) [Ty.int, Ty.int] (none : Option (den (Ty.list Ty.int))) b__law_spoilt)
theorem m__law_spoilt_eq (d : den (Ty.cons (Ty.hl (Ty.cons (Ty.own (Ty.list Ty.int)) (Ty.last Ty.int))) (Ty.cons (Ty.tup (Ty.cons Ty.int (Ty.cons (Ty.list (Ty.tup (Ty.cons Ty.int (Ty.cons Ty.str (Ty.last Ty.int))))) (Ty.last (Ty.list Ty.int))))) (Ty.last (Ty.list Ty.int))))) : m__law_spoilt d = runIO (.z : RIx (Ty.cons (Ty.hl (Ty.cons (Ty.own (Ty.list Ty.int)) (Ty.last Ty.int))) (Ty.cons (Ty.tup (Ty.cons Ty.int (Ty.cons (Ty.list (Ty.tup (Ty.cons Ty.int (Ty.cons Ty.str (Ty.last Ty.int))))) (Ty.last (Ty.list Ty.int))))) (Ty.last (Ty.list Ty.int)))) (Ty.hl (Ty.cons (Ty.own (Ty.list Ty.int)) (Ty.last Ty.int)))) [Ty.int, Ty.int] (none : Option (den (Ty.list Ty.int))) b__law_spoilt d := congrFun (hide_eq _) d
theorem m__law_spoilt_at (p0 : den (Ty.hl (Ty.cons (Ty.own (Ty.list Ty.int)) (Ty.last Ty.int)))) (p1 : den (Ty.tup (Ty.cons Ty.int (Ty.cons (Ty.list (Ty.tup (Ty.cons Ty.int (Ty.cons Ty.str (Ty.last Ty.int))))) (Ty.last (Ty.list Ty.int)))))) (p2 : den (Ty.list Ty.int)) : m__law_spoilt (p0, p1, p2) = endIO (v__law_spoilt_deck) (none : Option (den (Ty.list Ty.int))) (b__law_spoilt ((some p0, some p1, some p2, none, none, ()) : Gam g__law_spoilt)) := by
  rw [m__law_spoilt_eq]
  rfl
set_option maxHeartbeats 4000000 in
theorem ok__law_spoilt {f : Addr} {fd : FuncData} (F : Fun K "_law_spoilt" "_law_spoilt" s__law_spoilt f fd) (T : Txt K mg) {f__law_take : Addr} {fd__law_take : FuncData} (D__law_take : Df K mg "_law_take" "_law_take" s__law_take P__law_take f__law_take fd__law_take) (G__law_take : FnOk P w K mg base CX0 1 f__law_take fd__law_take P__law_take (spIO K (Ty.cons (Ty.hl (Ty.cons (Ty.own (Ty.list Ty.int)) (Ty.last Ty.int))) (Ty.last Ty.int)) (.z : RIx (Ty.cons (Ty.hl (Ty.cons (Ty.own (Ty.list Ty.int)) (Ty.last Ty.int))) (Ty.last Ty.int)) (Ty.hl (Ty.cons (Ty.own (Ty.list Ty.int)) (Ty.last Ty.int)))) .o Ty.int m__law_take)) :
    FnOk P w K mg base CX0 2 f fd P__law_spoilt (spIO K (Ty.cons (Ty.hl (Ty.cons (Ty.own (Ty.list Ty.int)) (Ty.last Ty.int))) (Ty.cons (Ty.tup (Ty.cons Ty.int (Ty.cons (Ty.list (Ty.tup (Ty.cons Ty.int (Ty.cons Ty.str (Ty.last Ty.int))))) (Ty.last (Ty.list Ty.int))))) (Ty.last (Ty.list Ty.int)))) (.z : RIx (Ty.cons (Ty.hl (Ty.cons (Ty.own (Ty.list Ty.int)) (Ty.last Ty.int))) (Ty.cons (Ty.tup (Ty.cons Ty.int (Ty.cons (Ty.list (Ty.tup (Ty.cons Ty.int (Ty.cons Ty.str (Ty.last Ty.int))))) (Ty.last (Ty.list Ty.int))))) (Ty.last (Ty.list Ty.int)))) (Ty.hl (Ty.cons (Ty.own (Ty.list Ty.int)) (Ty.last Ty.int)))) .w (Ty.list Ty.int) m__law_spoilt) := by
  have S := sc__law_spoilt
  refine fn_okIO (ρ := (Ty.list Ty.int)) (F := b__law_spoilt) (.z : RIx (Ty.cons (Ty.hl (Ty.cons (Ty.own (Ty.list Ty.int)) (Ty.last Ty.int))) (Ty.cons (Ty.tup (Ty.cons Ty.int (Ty.cons (Ty.list (Ty.tup (Ty.cons Ty.int (Ty.cons Ty.str (Ty.last Ty.int))))) (Ty.last (Ty.list Ty.int))))) (Ty.last (Ty.list Ty.int)))) (Ty.hl (Ty.cons (Ty.own (Ty.list Ty.int)) (Ty.last Ty.int)))) [Ty.int, Ty.int] M__law_spoilt (none : Option (den (Ty.list Ty.int))) F S rfl rfl rfl m__law_spoilt_eq (fun z hz => nomatch hz) (fun cdv A outer s H E hr => ?_)
  refine ⟨_, (pss_cons (ps_asg (pe_call G__law_take (hr.mono (by decide)) rfl D__law_take.gl D__law_take.fn.kp D__law_take.bi .nil pass0 (pa_cons (pv 0) (pa_cons pe_int pa_nil))) (pg_name (i := 3) S.nd rfl (Or.inl rfl)))
  (pss_cons (ps_asg (pe_call G__law_take (hr.mono (by decide)) rfl D__law_take.gl D__law_take.fn.kp D__law_take.bi .nil pass0 (pa_cons (pv 0) (pa_cons (pe_callB (r := VV.rLen K) call_len (by rfl) T.b_len (by decide +kernel) (pa_cons (pv 2) pa_nil)) pa_nil))) (pg_name (i := 4) S.nd rfl (Or.inl rfl)))
  (pss_cons (ps_if (pt_cmpR op_eq (pv 3) pe_int (nomark _)) (pss_one (ps_ret (pe_op (r := rCatR K) op_catR (pe_op (r := rCatR K) op_catR (pe_slice (r := rSlL K) sl_list (pv 2) po_none (po_some (pv 4))) (pe_lst (pa_cons (pe_ix (r := rIxL K) ix_list (pe_lst (pa_cons (pe_un un_neg pe_int) (pa_cons (pe_ix (r := rIxT K) ix_tup (pv 1) pe_int (fun _ _ => rfl)) pa_nil))) (pe_call G__law_take (hr.mono (by decide)) rfl D__law_take.gl D__law_take.fn.kp D__law_take.bi .nil pass0 (pa_cons (pv 0) (pa_cons pe_int pa_nil))) (fun _ _ => rfl)) pa_nil))) (pe_slice (r := rSlL K) sl_list (pv 2) (po_some (pe_op op_add (pv 4) pe_int)) po_none)))) pss_nil)
  (pss_cons (ps_if (pt_cmpR op_eq (pv 3) pe_int (nomark _)) (pss_one (ps_ret (pe_op (r := rCatR K) op_catR (pe_slice (r := rSlL K) sl_list (pv 2) po_none (po_some (pv 4))) (pe_slice (r := rSlL K) sl_list (pv 2) (po_some (pe_op op_add (pv 4) pe_int)) po_none)))) pss_nil)
  (pss_cons (ps_if (pt_cmpR op_eq (pv 3) pe_int (nomark _)) (pss_one (ps_ret (pe_op (r := rCatR K) op_catR (pe_op (r := rCatR K) op_catR (pe_slice (r := rSlL K) sl_list (pv 2) po_none (po_some (pv 4))) (pe_lst (pa_cons (pe_call G__law_take (hr.mono (by decide)) rfl D__law_take.gl D__law_take.fn.kp D__law_take.bi .nil pass0 (pa_cons (pv 0) (pa_cons (pe_ix (r := rIxT K) ix_tup (pv 1) pe_int (fun _ _ => rfl)) pa_nil))) pa_nil))) (pe_slice (r := rSlL K) sl_list (pv 2) (po_some (pe_op op_add (pv 4) pe_int)) po_none)))) pss_nil)
  (pss_cons (ps_if (pt_cmpR op_eq (pv 3) pe_int (nomark _)) (pss_one (ps_ret (pe_op (r := rCatR K) op_catR (pv 2) (pe_lst (pa_cons (pe_call G__law_take (hr.mono (by decide)) rfl D__law_take.gl D__law_take.fn.kp D__law_take.bi .nil pass0 (pa_cons (pv 0) (pa_cons (pe_ix (r := rIxT K) ix_tup (pv 1) pe_int (fun _ _ => rfl)) pa_nil))) pa_nil))))) pss_nil)
  (pss_cons (ps_if (pt_cmpR op_eq (pv 3) pe_int (nomark _)) (pss_one (ps_ret (pe_op (r := rCatR K) op_catR (pe_op (r := rCatR K) op_catR (pe_slice (r := rSlL K) sl_list (pv 2) po_none (po_some (pv 4))) (pe_lst (pa_cons (pe_call G__law_take (hr.mono (by decide)) rfl D__law_take.gl D__law_take.fn.kp D__law_take.bi .nil pass0 (pa_cons (pv 0) (pa_cons (pe_ix (r := rIxT K) ix_tup (pv 1) pe_int (fun _ _ => rfl)) pa_nil))) pa_nil))) (pe_slice (r := rSlL K) sl_list (pv 2) (po_some (pv 4)) po_none)))) pss_nil)
  (pss_one (ps_ret (pv 2)))))))))), ?_⟩
  exact (rs_seq (rs_asgE (t := Ty.int) (re_l (re_callIO (ms := M__law_spoilt) (rm := .o) (ρ := Ty.int) (m := m__law_take) (i := (v__law_spoilt_deck)) (r := (.z : RIx (Ty.cons (Ty.hl (Ty.cons (Ty.own (Ty.list Ty.int)) (Ty.last Ty.int))) (Ty.last Ty.int)) (Ty.hl (Ty.cons (Ty.own (Ty.list Ty.int)) (Ty.last Ty.int))))) (raio_here (ms := M__law_spoilt) (v__law_spoilt_deck) (ra_one rp_int)))) (rg_name (ms := M__law_spoilt) (v__law_spoilt_way)))
  (rs_seq (rs_asgE (t := Ty.int) (re_l (re_callIO (ms := M__law_spoilt) (rm := .o) (ρ := Ty.int) (m := m__law_take) (i := (v__law_spoilt_deck)) (r := (.z : RIx (Ty.cons (Ty.hl (Ty.cons (Ty.own (Ty.list Ty.int)) (Ty.last Ty.int))) (Ty.last Ty.int)) (Ty.hl (Ty.cons (Ty.own (Ty.list Ty.int)) (Ty.last Ty.int))))) (raio_here (ms := M__law_spoilt) (v__law_spoilt_deck) (ra_one (rp_lenL (m' := .b) (rp_le (rp_varw (ms := M__law_spoilt) (v__law_spoilt_walk)))))))) (rg_name (ms := M__law_spoilt) (v__law_spoilt_at)))
  (rs_seq (rs_if (rt_test (rp_op (m := .b) (m1 := .b) (m2 := .b) v_eqI (rp_frz .b (rp_varw (ms := M__law_spoilt) (v__law_spoilt_way))) rp_int)) (rs_retEw (ρ := (Ty.list Ty.int)) (re_l (re_rx (rx_cat (rxh_of (rx_cat (rxh_w (rp_le (rp_sliceL (m := .b) (rp_le (rp_varw (ms := M__law_spoilt) (v__law_spoilt_walk))) ro_none (ro_some (m := .b) (rp_frz .b (rp_varw (ms := M__law_spoilt) (v__law_spoilt_at))))))) (rxh_of (rx_list (t := Ty.int) (rxl_cons (rxh_of (rx_op (v2_frz .o (v_ixL (t := Ty.int))) (rxh_w (rp_le (rp_list (t := Ty.int) (rl_cons (rp_neg (m1 := .b) rp_int) (rl_cons (rp_frz .o (rp_proj (m := .b) (b := (Ty.cons Ty.int (Ty.cons (Ty.list (Ty.tup (Ty.cons Ty.int (Ty.cons Ty.str (Ty.last Ty.int))))) (Ty.last (Ty.list Ty.int))))) (t := Ty.int) .z 0 (rp_le (rp_varw (ms := M__law_spoilt) (v__law_spoilt_machine))))) rl_nil))))) (rxh_of (rx_callIOz (ms := M__law_spoilt) (ρ := Ty.int) (m := m__law_take) (v__law_spoilt_deck) (rxw_one (rxh_of (rx_pure rp_int))))))) rxl_nil))))) (rxh_w (rp_le (rp_sliceL (m := .b) (rp_le (rp_varw (ms := M__law_spoilt) (v__law_spoilt_walk))) (ro_some (m := .b) (rp_op (m1 := .b) (m2 := .b) v_add (rp_frz .b (rp_varw (ms := M__law_spoilt) (v__law_spoilt_at))) rp_int)) ro_none))))))) rs_next)
  (rs_seq (rs_if (rt_test (rp_op (m := .b) (m1 := .b) (m2 := .b) v_eqI (rp_frz .b (rp_varw (ms := M__law_spoilt) (v__law_spoilt_way))) rp_int)) (rs_ret (rm := .w) (ρ := (Ty.list Ty.int)) (rp_le (rp_cat (m1 := .b) (m2 := .b) (rp_le (rp_sliceL (m := .b) (rp_le (rp_varw (ms := M__law_spoilt) (v__law_spoilt_walk))) ro_none (ro_some (m := .b) (rp_frz .b (rp_varw (ms := M__law_spoilt) (v__law_spoilt_at)))))) (rp_le (rp_sliceL (m := .b) (rp_le (rp_varw (ms := M__law_spoilt) (v__law_spoilt_walk))) (ro_some (m := .b) (rp_op (m1 := .b) (m2 := .b) v_add (rp_frz .b (rp_varw (ms := M__law_spoilt) (v__law_spoilt_at))) rp_int)) ro_none))))) rs_next)
  (rs_seq (rs_if (rt_test (rp_op (m := .b) (m1 := .b) (m2 := .b) v_eqI (rp_frz .b (rp_varw (ms := M__law_spoilt) (v__law_spoilt_way))) rp_int)) (rs_retEw (ρ := (Ty.list Ty.int)) (re_l (re_rx (rx_cat (rxh_of (rx_cat (rxh_w (rp_le (rp_sliceL (m := .b) (rp_le (rp_varw (ms := M__law_spoilt) (v__law_spoilt_walk))) ro_none (ro_some (m := .b) (rp_frz .b (rp_varw (ms := M__law_spoilt) (v__law_spoilt_at))))))) (rxh_of (rx_list (t := Ty.int) (rxl_cons (rxh_of (rx_callIOz (ms := M__law_spoilt) (ρ := Ty.int) (m := m__law_take) (v__law_spoilt_deck) (rxw_one (rxh_of (rx_pure (rp_frz .o (rp_proj (m := .b) (b := (Ty.cons Ty.int (Ty.cons (Ty.list (Ty.tup (Ty.cons Ty.int (Ty.cons Ty.str (Ty.last Ty.int))))) (Ty.last (Ty.list Ty.int))))) (t := Ty.int) .z 0 (rp_le (rp_varw (ms := M__law_spoilt) (v__law_spoilt_machine)))))))))) rxl_nil))))) (rxh_w (rp_le (rp_sliceL (m := .b) (rp_le (rp_varw (ms := M__law_spoilt) (v__law_spoilt_walk))) (ro_some (m := .b) (rp_op (m1 := .b) (m2 := .b) v_add (rp_frz .b (rp_varw (ms := M__law_spoilt) (v__law_spoilt_at))) rp_int)) ro_none))))))) rs_next)
  (rs_seq (rs_if (rt_test (rp_op (m := .b) (m1 := .b) (m2 := .b) v_eqI (rp_frz .b (rp_varw (ms := M__law_spoilt) (v__law_spoilt_way))) rp_int)) (rs_retEw (ρ := (Ty.list Ty.int)) (re_l (re_rx (rx_cat (rxh_w (rp_varw (ms := M__law_spoilt) (v__law_spoilt_walk))) (rxh_of (rx_list (t := Ty.int) (rxl_cons (rxh_of (rx_callIOz (ms := M__law_spoilt) (ρ := Ty.int) (m := m__law_take) (v__law_spoilt_deck) (rxw_one (rxh_of (rx_pure (rp_frz .o (rp_proj (m := .b) (b := (Ty.cons Ty.int (Ty.cons (Ty.list (Ty.tup (Ty.cons Ty.int (Ty.cons Ty.str (Ty.last Ty.int))))) (Ty.last (Ty.list Ty.int))))) (t := Ty.int) .z 0 (rp_le (rp_varw (ms := M__law_spoilt) (v__law_spoilt_machine)))))))))) rxl_nil))))))) rs_next)
  (rs_seq (rs_if (rt_test (rp_op (m := .b) (m1 := .b) (m2 := .b) v_eqI (rp_frz .b (rp_varw (ms := M__law_spoilt) (v__law_spoilt_way))) rp_int)) (rs_retEw (ρ := (Ty.list Ty.int)) (re_l (re_rx (rx_cat (rxh_of (rx_cat (rxh_w (rp_le (rp_sliceL (m := .b) (rp_le (rp_varw (ms := M__law_spoilt) (v__law_spoilt_walk))) ro_none (ro_some (m := .b) (rp_frz .b (rp_varw (ms := M__law_spoilt) (v__law_spoilt_at))))))) (rxh_of (rx_list (t := Ty.int) (rxl_cons (rxh_of (rx_callIOz (ms := M__law_spoilt) (ρ := Ty.int) (m := m__law_take) (v__law_spoilt_deck) (rxw_one (rxh_of (rx_pure (rp_frz .o (rp_proj (m := .b) (b := (Ty.cons Ty.int (Ty.cons (Ty.list (Ty.tup (Ty.cons Ty.int (Ty.cons Ty.str (Ty.last Ty.int))))) (Ty.last (Ty.list Ty.int))))) (t := Ty.int) .z 0 (rp_le (rp_varw (ms := M__law_spoilt) (v__law_spoilt_machine)))))))))) rxl_nil))))) (rxh_w (rp_le (rp_sliceL (m := .b) (rp_le (rp_varw (ms := M__law_spoilt) (v__law_spoilt_walk))) (ro_some (m := .b) (rp_frz .b (rp_varw (ms := M__law_spoilt) (v__law_spoilt_at)))) ro_none))))))) rs_next)
  (rs_ret (rm := .w) (ρ := (Ty.list Ty.int)) (rp_varw (ms := M__law_spoilt) (v__law_spoilt_walk))))))))))
/-! ### lets -/
abbrev s_lets : Stmt := topS 1
abbrev N_lets : List Str := ["machine", "row", "many", "arrows", "ends", "here", "word", "there", "room", "told", "goal", "end"]
abbrev P_lets : List Str := ["machine", "row"]
theorem sc_lets : FnScope N_lets P_lets (defScope s_lets) := ⟨rfl, rfl, rfl, by decide +kernel, rfl, by decide +kernel, by decide +kernel⟩
abbrev g_lets : List Ty := [(Ty.tup (Ty.cons Ty.int (Ty.cons (Ty.list (Ty.tup (Ty.cons Ty.int (Ty.cons Ty.str (Ty.last Ty.int))))) (Ty.last (Ty.list Ty.int))))), (Ty.list Ty.str), Ty.int, (Ty.list (Ty.tup (Ty.cons Ty.int (Ty.cons Ty.str (Ty.last Ty.int))))), (Ty.list Ty.int), (Ty.dict Ty.int Ty.bool), Ty.str, (Ty.dict Ty.int Ty.bool), Ty.int, Ty.str, Ty.int, Ty.int]
abbrev M_lets : List Md := [.w, .w, .w, .w, .w, .l, .w, .o, .w, .w, .w, .w]
abbrev v_lets_machine : Mem g_lets (Ty.tup (Ty.cons Ty.int (Ty.cons (Ty.list (Ty.tup (Ty.cons Ty.int (Ty.cons Ty.str (Ty.last Ty.int))))) (Ty.last (Ty.list Ty.int))))) := .z
abbrev v_lets_row : Mem g_lets (Ty.list Ty.str) := (.s .z)
abbrev v_lets_many : Mem g_lets Ty.int := (.s (.s .z))
abbrev v_lets_arrows : Mem g_lets (Ty.list (Ty.tup (Ty.cons Ty.int (Ty.cons Ty.str (Ty.last Ty.int))))) := (.s (.s (.s .z)))
abbrev v_lets_ends : Mem g_lets (Ty.list Ty.int) := (.s (.s (.s (.s .z))))
abbrev v_lets_here : Mem g_lets (Ty.dict Ty.int Ty.bool) := (.s (.s (.s (.s (.s .z)))))
abbrev v_lets_word : Mem g_lets Ty.str := (.s (.s (.s (.s (.s (.s .z))))))
abbrev v_lets_there : Mem g_lets (Ty.dict Ty.int Ty.bool) := (.s (.s (.s (.s (.s (.s (.s .z)))))))
abbrev v_lets_room : Mem g_lets Ty.int := (.s (.s (.s (.s (.s (.s (.s (.s .z))))))))
abbrev v_lets_told : Mem g_lets Ty.str := (.s (.s (.s (.s (.s (.s (.s (.s (.s .z)))))))))
abbrev v_lets_goal : Mem g_lets Ty.int := (.s (.s (.s (.s (.s (.s (.s (.s (.s (.s .z))))))))))
abbrev v_lets_end : Mem g_lets Ty.int := (.s (.s (.s (.s (.s (.s (.s (.s (.s (.s (.s .z)))))))))))
noncomputable def lc_lets_1 : Gam g_lets → Option (List (den Ty.bool)) := hide (eLc (eV (t := (Ty.list Ty.int)) (v_lets_ends)) (bName (t := Ty.int) (v_lets_end)) (Gam.mask [true, true, true, true, true, true, true, true, true, true, true, false]) eYes (e2 (fInK (k := Ty.int) (β := den Ty.bool)) (eV (t := Ty.int) (v_lets_end)) (eV (t := (Ty.dict Ty.int Ty.bool)) (v_lets_here))))
theorem lc_lets_1_eq : lc_lets_1 = (eLc (eV (t := (Ty.list Ty.int)) (v_lets_ends)) (bName (t := Ty.int) (v_lets_end)) (Gam.mask [true, true, true, true, true, true, true, true, true, true, true, false]) eYes (e2 (fInK (k := Ty.int) (β := den Ty.bool)) (eV (t := Ty.int) (v_lets_end)) (eV (t := (Ty.dict Ty.int Ty.bool)) (v_lets_here)))) := hide_eq _
abbrev st_lets_2 (x0_arrows : den (Ty.list (Ty.tup (Ty.cons Ty.int (Ty.cons Ty.str (Ty.last Ty.int)))))) (x1_ends : den (Ty.list Ty.int)) (x2_here : den (Ty.dict Ty.int Ty.bool)) (x3_word : den Ty.str) (x4_there : den (Ty.dict Ty.int Ty.bool)) : Gam g_lets := (none, none, none, some x0_arrows, some x1_ends, some x2_here, some x3_word, some x4_there, none, none, none, none, ())
noncomputable def lb_lets_2 : Gam g_lets → Option (Fl (Gam g_lets) (den Ty.bool)) :=
  (sIf (eAnd (e2 (fInK (k := Ty.int) (β := den Ty.bool)) (eV (t := Ty.int) (v_lets_room)) (eV (t := (Ty.dict Ty.int Ty.bool)) (v_lets_here))) (e2 fEqS (eV (t := Ty.str) (v_lets_told)) (eV (t := Ty.str) (v_lets_word)))) (sPut (k := Ty.int) (t := Ty.bool) (v_lets_there) (eC true) (eV (t := Ty.int) (v_lets_goal))) sNext)
noncomputable def lp_lets_2 : Gam g_lets → Option (Fl (Gam g_lets) (den Ty.bool)) := hide (sFor (eV (t := (Ty.list (Ty.tup (Ty.cons Ty.int (Ty.cons Ty.str (Ty.last Ty.int)))))) (v_lets_arrows)) (bCons (bName (t := Ty.int) (v_lets_room)) (bCons (bName (t := Ty.str) (v_lets_told)) (bName (t := Ty.int) (v_lets_goal)))) (Gam.mask [false, false, false, true, true, true, true, true, false, false, false, false]) lb_lets_2)
theorem lp_lets_2_eq : lp_lets_2 = (sFor (eV (t := (Ty.list (Ty.tup (Ty.cons Ty.int (Ty.cons Ty.str (Ty.last Ty.int)))))) (v_lets_arrows)) (bCons (bName (t := Ty.int) (v_lets_room)) (bCons (bName (t := Ty.str) (v_lets_told)) (bName (t := Ty.int) (v_lets_goal)))) (Gam.mask [false, false, false, true, true, true, true, true, false, false, false, false]) lb_lets_2) := hide_eq _
abbrev st_lets_1 (x0_arrows : den (Ty.list (Ty.tup (Ty.cons Ty.int (Ty.cons Ty.str (Ty.last Ty.int)))))) (x1_ends : den (Ty.list Ty.int)) (x2_here : den (Ty.dict Ty.int Ty.bool)) : Gam g_lets := (none, none, none, some x0_arrows, some x1_ends, some x2_here, none, none, none, none, none, none, ())
noncomputable def lb_lets_1 : Gam g_lets → Option (Fl (Gam g_lets) (den Ty.bool)) :=
  (sSeq (sSet (v_lets_there) eNil)
  (sSeq lp_lets_2
  (sMove (v_lets_here) (v_lets_there))))
noncomputable def lp_lets_1 : Gam g_lets → Option (Fl (Gam g_lets) (den Ty.bool)) := hide (sFor (eV (t := (Ty.list Ty.str)) (v_lets_row)) (bName (t := Ty.str) (v_lets_word)) (Gam.mask [false, false, false, true, true, true, false, false, false, false, false, false]) lb_lets_1)
theorem lp_lets_1_eq : lp_lets_1 = (sFor (eV (t := (Ty.list Ty.str)) (v_lets_row)) (bName (t := Ty.str) (v_lets_word)) (Gam.mask [false, false, false, true, true, true, false, false, false, false, false, false]) lb_lets_1) := hide_eq _
noncomputable def b_lets : Gam g_lets → Option (Fl (Gam g_lets) (den Ty.bool)) :=
  (sSeq (sAsg (eV (t := (Ty.tup (Ty.cons Ty.int (Ty.cons (Ty.list (Ty.tup (Ty.cons Ty.int (Ty.cons Ty.str (Ty.last Ty.int))))) (Ty.last (Ty.list Ty.int)))))) (v_lets_machine)) (bCons (bName (t := Ty.int) (v_lets_many)) (bCons (bName (t := (Ty.list (Ty.tup (Ty.cons Ty.int (Ty.cons Ty.str (Ty.last Ty.int)))))) (v_lets_arrows)) (bName (t := (Ty.list Ty.int)) (v_lets_ends)))))
  (sSeq (sSet (v_lets_here) (e2 (fOne (α := den Ty.int) (β := den Ty.bool)) (eC (0 : Int)) (eC true)))
  (sSeq lp_lets_1
  (sRet (e1 fAny lc_lets_1)))))
noncomputable def m_lets : den (Ty.cons (Ty.tup (Ty.cons Ty.int (Ty.cons (Ty.list (Ty.tup (Ty.cons Ty.int (Ty.cons Ty.str (Ty.last Ty.int))))) (Ty.last (Ty.list Ty.int))))) (Ty.last (Ty.list Ty.str))) → Option (den Ty.bool) := hide (runG (Ty.cons (Ty.tup (Ty.cons Ty.int (Ty.cons (Ty.list (Ty.tup (Ty.cons Ty.int (Ty.cons Ty.str (Ty.last Ty.int))))) (Ty.last (Ty.list Ty.int))))) (Ty.last (Ty.list Ty.str))) [Ty.int, (Ty.list (Ty.tup (Ty.cons Ty.int (Ty.cons Ty.str (Ty.last Ty.int))))), (Ty.list Ty.int), (Ty.dict Ty.int Ty.bool), Ty.str, (Ty.dict Ty.int Ty.bool), Ty.int, Ty.str, Ty.int, Ty.int] b_lets)
theorem m_lets_eq (d : den (Ty.cons (Ty.tup (Ty.cons Ty.int (Ty.cons (Ty.list (Ty.tup (Ty.cons Ty.int (Ty.cons Ty.str (Ty.last Ty.int))))) (Ty.last (Ty.list Ty.int))))) (Ty.last (Ty.list Ty.str)))) : m_lets d = runG (Ty.cons (Ty.tup (Ty.cons Ty.int (Ty.cons (Ty.list (Ty.tup (Ty.cons Ty.int (Ty.cons Ty.str (Ty.last Ty.int))))) (Ty.last (Ty.list Ty.int))))) (Ty.last (Ty.list Ty.str))) [Ty.int, (Ty.list (Ty.tup (Ty.cons Ty.int (Ty.cons Ty.str (Ty.last Ty.int))))), (Ty.list Ty.int), (Ty.dict Ty.int Ty.bool), Ty.str, (Ty.dict Ty.int Ty.bool), Ty.int, Ty.str, Ty.int, Ty.int] b_lets d := congrFun (hide_eq _) d
theorem m_lets_at (p0 : den (Ty.tup (Ty.cons Ty.int (Ty.cons (Ty.list (Ty.tup (Ty.cons Ty.int (Ty.cons Ty.str (Ty.last Ty.int))))) (Ty.last (Ty.list Ty.int)))))) (p1 : den (Ty.list Ty.str)) : m_lets (p0, p1) = endOf (b_lets ((some p0, some p1, none, none, none, none, none, none, none, none, none, none, ()) : Gam g_lets)) := by
  rw [m_lets_eq]
  rfl
set_option maxHeartbeats 4000000 in
theorem ok_lets {f : Addr} {fd : FuncData} (F : Fun K "lets" "lets" s_lets f fd) (T : Txt K mg) :
    FnOk P w K mg base CX0 1 f fd P_lets (spP K (Ty.cons (Ty.tup (Ty.cons Ty.int (Ty.cons (Ty.list (Ty.tup (Ty.cons Ty.int (Ty.cons Ty.str (Ty.last Ty.int))))) (Ty.last (Ty.list Ty.int))))) (Ty.last (Ty.list Ty.str))) .o Ty.bool m_lets) := by
  have S := sc_lets
  refine fn_ok (F := b_lets) [Ty.int, (Ty.list (Ty.tup (Ty.cons Ty.int (Ty.cons Ty.str (Ty.last Ty.int))))), (Ty.list Ty.int), (Ty.dict Ty.int Ty.bool), Ty.str, (Ty.dict Ty.int Ty.bool), Ty.int, Ty.str, Ty.int, Ty.int] M_lets F S rfl rfl rfl m_lets_eq (fun cdv A outer s H E hr => ?_)
  refine ⟨_, (pss_cons (ps_asg (pv 0) (pg_tupK (n := 3) K rfl rfl (pgs_cons (pg_name (i := 2) S.nd rfl (Or.inl rfl)) (pgs_cons (pg_name (i := 3) S.nd rfl (Or.inl rfl)) (pgs_cons (pg_name (i := 4) S.nd rfl (Or.inl rfl)) pgs_nil)))))
  (pss_cons (ps_set (i := 5) S.nd rfl (Or.inr rfl) (pe_disp (pps_cons pe_int pe_bl pps_nil) rfl rfl (fun h => nomatch h) (by decide)))
  (pss_cons (ps_for PassesOwn.never rfl (pi_listK K rfl (pv 1)) (pg_name (i := 6) S.nd rfl (Or.inl rfl)) (pss_cons (ps_set (i := 7) S.nd rfl (Or.inl rfl) pe_dnewK)
  (pss_cons (ps_for PassesOwn.never rfl (pi_listK K rfl (pv 3)) (pg_tupK (n := 3) K rfl rfl (pgs_cons (pg_name (i := 8) S.nd rfl (Or.inl rfl)) (pgs_cons (pg_name (i := 9) S.nd rfl (Or.inl rfl)) (pgs_cons (pg_name (i := 10) S.nd rfl (Or.inl rfl)) pgs_nil)))) (pss_one (ps_if (PW.pt (pw_and (pt_cmp (pc_din (hu_of hr) (pv 8) (pv 5)) (by rfl)) (pw_and1 (pt_cmpR op_eq (pv 9) (pv 6) (nomark _))))) (pss_one (ps_dput (hu_of hr) (pv 7) (pv 10) pe_bl rfl)) pss_nil)))
  (pss_one (ps_set (i := 5) S.nd rfl (Or.inr rfl) (pv 7))))))
  (pss_one (ps_ret (pe_callB (r := rAnyD K) (call_anyD rfl) (by rfl) T.b_any (by decide +kernel) (pa_cons (pe_lc (own := [("end", 11)]) rfl S.nd (pi_listK K rfl (pv 4)) (blkOk_by (N := N_lets) (sc := defScope s_lets) (by decide +kernel)) (fun _ _ _ _ _ => (pg_name (i := 11) S.nd rfl (Or.inl rfl))) (fun _ _ _ _ _ => pts_nil) (fun _ _ _ _ _ => (pe_cmp (pc_din (hu_of hr) (pv 11) (pv 5)) (by rfl)))) pa_nil))))))), ?_⟩
  exact (rs_seq (rs_asg (w := true) (t := (Ty.tup (Ty.cons Ty.int (Ty.cons (Ty.list (Ty.tup (Ty.cons Ty.int (Ty.cons Ty.str (Ty.last Ty.int))))) (Ty.last (Ty.list Ty.int)))))) (rp_varw (ms := M_lets) (v_lets_machine)) (rg_tup (rgs_cons (rg_name (ms := M_lets) (v_lets_many)) (rgs_cons (rg_name (ms := M_lets) (v_lets_arrows)) (rgs_one (rg_name (ms := M_lets) (v_lets_ends)))))))
  (rs_seq (rs_set (ms := M_lets) (m := .l) (v_lets_here) (rp_le (rp_disp1 (m1 := .b) (m2 := .b) (k := Ty.int) (t := Ty.bool) rp_int rp_bool)))
  (rs_seq (rs_hide (rs_for (w := true) (t := Ty.str) [false, false, false, true, true, true, false, false, false, false, false, false] (ri_list (w := true) (t := Ty.str) (rp_varw (ms := M_lets) (v_lets_row))) (rg_name (ms := M_lets) (v_lets_word)) (rs_seq (rs_set (ms := M_lets) (m := .o) (v_lets_there) (rp_dnewK (k := Ty.int) (t := Ty.bool)))
  (rs_seq (rs_hide (rs_for (w := true) (t := (Ty.tup (Ty.cons Ty.int (Ty.cons Ty.str (Ty.last Ty.int))))) [false, false, false, true, true, true, true, true, false, false, false, false] (ri_list (w := true) (t := (Ty.tup (Ty.cons Ty.int (Ty.cons Ty.str (Ty.last Ty.int))))) (rp_varw (ms := M_lets) (v_lets_arrows))) (rg_tup (rgs_cons (rg_name (ms := M_lets) (v_lets_room)) (rgs_cons (rg_name (ms := M_lets) (v_lets_told)) (rgs_one (rg_name (ms := M_lets) (v_lets_goal)))))) (rs_if (rt_and (rt_test (rp_din (m := .b) (m1 := .b) (m2 := .b) (k := Ty.int) (t := Ty.bool) (rp_frz .b (rp_varw (ms := M_lets) (v_lets_room))) (rp_le (rp_varl (ms := M_lets) (v_lets_here))))) (rt_test (rp_op (m := .b) (m1 := .b) (m2 := .b) v_eqS (rp_frz .b (rp_varw (ms := M_lets) (v_lets_told))) (rp_frz .b (rp_varw (ms := M_lets) (v_lets_word)))))) (rs_dput (ms := M_lets) (m := .b) (m' := .b) (k := Ty.int) (t := Ty.bool) (v_lets_there) rp_bool (rp_frz .b (rp_varw (ms := M_lets) (v_lets_goal)))) rs_next)))
  (rs_move (ms := M_lets) (v_lets_here) (v_lets_there))))))
  (rs_ret (rm := .o) (ρ := Ty.bool) (rp_any_ (m' := .b) (rp_le (rp_hide (rp_lc (w := true) (m := .o) (t := Ty.int) (u := Ty.bool) [true, true, true, true, true, true, true, true, true, true, true, false] [11] (ris_of (ri_list (w := true) (t := Ty.int) (rp_varw (ms := M_lets) (v_lets_ends)))) (rg_name (ms := M_lets) (v_lets_end)) gw_name rt_yes (rp_din (m1 := .b) (m2 := .b) (k := Ty.int) (t := Ty.bool) (rp_frz .b (rp_varw (ms := M_lets) (v_lets_end))) (rp_le (rp_varl (ms := M_lets) (v_lets_here))))))))))))
/-! ### is_walk -/
abbrev s_is_walk : Stmt := topS 2
abbrev N_is_walk : List Str := ["machine", "row", "walk", "many", "arrows", "ends", "k", "word"]
abbrev P_is_walk : List Str := ["machine", "row", "walk"]
theorem sc_is_walk : FnScope N_is_walk P_is_walk (defScope s_is_walk) := ⟨rfl, rfl, rfl, by decide +kernel, rfl, by decide +kernel, by decide +kernel⟩
abbrev g_is_walk : List Ty := [(Ty.tup (Ty.cons Ty.int (Ty.cons (Ty.list (Ty.tup (Ty.cons Ty.int (Ty.cons Ty.str (Ty.last Ty.int))))) (Ty.last (Ty.list Ty.int))))), (Ty.list Ty.str), (Ty.list Ty.int), Ty.int, (Ty.list (Ty.tup (Ty.cons Ty.int (Ty.cons Ty.str (Ty.last Ty.int))))), (Ty.list Ty.int), Ty.int, Ty.str]
abbrev M_is_walk : List Md := [.w, .w, .w, .w, .w, .w, .w, .w]
abbrev v_is_walk_machine : Mem g_is_walk (Ty.tup (Ty.cons Ty.int (Ty.cons (Ty.list (Ty.tup (Ty.cons Ty.int (Ty.cons Ty.str (Ty.last Ty.int))))) (Ty.last (Ty.list Ty.int))))) := .z
abbrev v_is_walk_row : Mem g_is_walk (Ty.list Ty.str) := (.s .z)
abbrev v_is_walk_walk : Mem g_is_walk (Ty.list Ty.int) := (.s (.s .z))
abbrev v_is_walk_many : Mem g_is_walk Ty.int := (.s (.s (.s .z)))
abbrev v_is_walk_arrows : Mem g_is_walk (Ty.list (Ty.tup (Ty.cons Ty.int (Ty.cons Ty.str (Ty.last Ty.int))))) := (.s (.s (.s (.s .z))))
abbrev v_is_walk_ends : Mem g_is_walk (Ty.list Ty.int) := (.s (.s (.s (.s (.s .z)))))
abbrev v_is_walk_k : Mem g_is_walk Ty.int := (.s (.s (.s (.s (.s (.s .z))))))
abbrev v_is_walk_word : Mem g_is_walk Ty.str := (.s (.s (.s (.s (.s (.s (.s .z)))))))
noncomputable def lc_is_walk_1 : Gam g_is_walk → Option (List (den Ty.bool)) := hide (eLc (e1 fEnum (eV (t := (Ty.list Ty.str)) (v_is_walk_row))) (bCons (bName (t := Ty.int) (v_is_walk_k)) (bName (t := Ty.str) (v_is_walk_word))) (Gam.mask [true, true, true, true, true, true, false, false]) eYes (e2 (fInD (Ty.tup (Ty.cons Ty.int (Ty.cons Ty.str (Ty.last Ty.int))))) (eCons (e2 atI (eV (t := (Ty.list Ty.int)) (v_is_walk_walk)) (eV (t := Ty.int) (v_is_walk_k))) (eCons (eV (t := Ty.str) (v_is_walk_word)) (e2 atI (eV (t := (Ty.list Ty.int)) (v_is_walk_walk)) (e2 fAdd (eV (t := Ty.int) (v_is_walk_k)) (eC (1 : Int)))))) (eV (t := (Ty.list (Ty.tup (Ty.cons Ty.int (Ty.cons Ty.str (Ty.last Ty.int)))))) (v_is_walk_arrows))))
theorem lc_is_walk_1_eq : lc_is_walk_1 = (eLc (e1 fEnum (eV (t := (Ty.list Ty.str)) (v_is_walk_row))) (bCons (bName (t := Ty.int) (v_is_walk_k)) (bName (t := Ty.str) (v_is_walk_word))) (Gam.mask [true, true, true, true, true, true, false, false]) eYes (e2 (fInD (Ty.tup (Ty.cons Ty.int (Ty.cons Ty.str (Ty.last Ty.int))))) (eCons (e2 atI (eV (t := (Ty.list Ty.int)) (v_is_walk_walk)) (eV (t := Ty.int) (v_is_walk_k))) (eCons (eV (t := Ty.str) (v_is_walk_word)) (e2 atI (eV (t := (Ty.list Ty.int)) (v_is_walk_walk)) (e2 fAdd (eV (t := Ty.int) (v_is_walk_k)) (eC (1 : Int)))))) (eV (t := (Ty.list (Ty.tup (Ty.cons Ty.int (Ty.cons Ty.str (Ty.last Ty.int)))))) (v_is_walk_arrows)))) := hide_eq _
noncomputable def b_is_walk : Gam g_is_walk → Option (Fl (Gam g_is_walk) (den Ty.bool)) :=
  (sSeq (sAsg (eV (t := (Ty.tup (Ty.cons Ty.int (Ty.cons (Ty.list (Ty.tup (Ty.cons Ty.int (Ty.cons Ty.str (Ty.last Ty.int))))) (Ty.last (Ty.list Ty.int)))))) (v_is_walk_machine)) (bCons (bName (t := Ty.int) (v_is_walk_many)) (bCons (bName (t := (Ty.list (Ty.tup (Ty.cons Ty.int (Ty.cons Ty.str (Ty.last Ty.int)))))) (v_is_walk_arrows)) (bName (t := (Ty.list Ty.int)) (v_is_walk_ends)))))
  (sSeq (sIf (eOr (e2 fNeI (e1 fLen (eV (t := (Ty.list Ty.int)) (v_is_walk_walk))) (e2 fAdd (e1 fLen (eV (t := (Ty.list Ty.str)) (v_is_walk_row))) (eC (1 : Int)))) (eOr (e2 fNeI (e2 atI (eV (t := (Ty.list Ty.int)) (v_is_walk_walk)) (eC (0 : Int))) (eC (0 : Int))) (e2 (fNotInD Ty.int) (e2 atI (eV (t := (Ty.list Ty.int)) (v_is_walk_walk)) (e1 (fun a => some (-a)) (eC (1 : Int)))) (eV (t := (Ty.list Ty.int)) (v_is_walk_ends))))) (sRet (eC false)) sNext)
  (sRet (e1 fAll lc_is_walk_1))))
noncomputable def m_is_walk : den (Ty.cons (Ty.tup (Ty.cons Ty.int (Ty.cons (Ty.list (Ty.tup (Ty.cons Ty.int (Ty.cons Ty.str (Ty.last Ty.int))))) (Ty.last (Ty.list Ty.int))))) (Ty.cons (Ty.list Ty.str) (Ty.last (Ty.list Ty.int)))) → Option (den Ty.bool) := hide (runG (Ty.cons (Ty.tup (Ty.cons Ty.int (Ty.cons (Ty.list (Ty.tup (Ty.cons Ty.int (Ty.cons Ty.str (Ty.last Ty.int))))) (Ty.last (Ty.list Ty.int))))) (Ty.cons (Ty.list Ty.str) (Ty.last (Ty.list Ty.int)))) [Ty.int, (Ty.list (Ty.tup (Ty.cons Ty.int (Ty.cons Ty.str (Ty.last Ty.int))))), (Ty.list Ty.int), Ty.int, Ty.str] b_is_walk)
theorem m_is_walk_eq (d : den (Ty.cons (Ty.tup (Ty.cons Ty.int (Ty.cons (Ty.list (Ty.tup (Ty.cons Ty.int (Ty.cons Ty.str (Ty.last Ty.int))))) (Ty.last (Ty.list Ty.int))))) (Ty.cons (Ty.list Ty.str) (Ty.last (Ty.list Ty.int))))) : m_is_walk d = runG (Ty.cons (Ty.tup (Ty.cons Ty.int (Ty.cons (Ty.list (Ty.tup (Ty.cons Ty.int (Ty.cons Ty.str (Ty.last Ty.int))))) (Ty.last (Ty.list Ty.int))))) (Ty.cons (Ty.list Ty.str) (Ty.last (Ty.list Ty.int)))) [Ty.int, (Ty.list (Ty.tup (Ty.cons Ty.int (Ty.cons Ty.str (Ty.last Ty.int))))), (Ty.list Ty.int), Ty.int, Ty.str] b_is_walk d := congrFun (hide_eq _) d
theorem m_is_walk_at (p0 : den (Ty.tup (Ty.cons Ty.int (Ty.cons (Ty.list (Ty.tup (Ty.cons Ty.int (Ty.cons Ty.str (Ty.last Ty.int))))) (Ty.last (Ty.list Ty.int)))))) (p1 : den (Ty.list Ty.str)) (p2 : den (Ty.list Ty.int)) : m_is_walk (p0, p1, p2) = endOf (b_is_walk ((some p0, some p1, some p2, none, none, none, none, none, ()) : Gam g_is_walk)) := by
  rw [m_is_walk_eq]
  rfl
set_option maxHeartbeats 4000000 in
theorem ok_is_walk {f : Addr} {fd : FuncData} (F : Fun K "is_walk" "is_walk" s_is_walk f fd) (T : Txt K mg) :
    FnOk P w K mg base CX0 1 f fd P_is_walk (spP K (Ty.cons (Ty.tup (Ty.cons Ty.int (Ty.cons (Ty.list (Ty.tup (Ty.cons Ty.int (Ty.cons Ty.str (Ty.last Ty.int))))) (Ty.last (Ty.list Ty.int))))) (Ty.cons (Ty.list Ty.str) (Ty.last (Ty.list Ty.int)))) .o Ty.bool m_is_walk) := by
  have S := sc_is_walk
  refine fn_ok (F := b_is_walk) [Ty.int, (Ty.list (Ty.tup (Ty.cons Ty.int (Ty.cons Ty.str (Ty.last Ty.int))))), (Ty.list Ty.int), Ty.int, Ty.str] M_is_walk F S rfl rfl rfl m_is_walk_eq (fun cdv A outer s H E hr => ?_)
  refine ⟨_, (pss_cons (ps_asg (pv 0) (pg_tupK (n := 3) K rfl rfl (pgs_cons (pg_name (i := 3) S.nd rfl (Or.inl rfl)) (pgs_cons (pg_name (i := 4) S.nd rfl (Or.inr rfl)) (pgs_cons (pg_name (i := 5) S.nd rfl (Or.inl rfl)) pgs_nil)))))
  (pss_cons (ps_if (PW.pt (pw_or (pt_cmpR op_ne (pe_callB (r := VV.rLen K) call_len (by rfl) T.b_len (by decide +kernel) (pa_cons (pv 2) pa_nil)) (pe_op op_add (pe_callB (r := VV.rLen K) call_len (by rfl) T.b_len (by decide +kernel) (pa_cons (pv 1) pa_nil)) pe_int) (nomark _)) (pw_or (pt_cmpR op_ne (pe_ix (r := rIxL K) ix_list (pv 2) pe_int (fun _ _ => rfl)) pe_int (nomark _)) (pw_or1 (pt_cmpR (r := rNotInD K) (op_notInD (hu65 hr)) (pe_ix (r := rIxL K) ix_list (pv 2) (pe_un un_neg pe_int) (fun _ _ => rfl)) (pv 5) (by rfl)))))) (pss_one (ps_ret pe_bl)) pss_nil)
  (pss_one (ps_ret (pe_callB (r := rAllD K) (call_allD rfl) (by rfl) T.b_all (by decide +kernel) (pa_cons (pe_lc (own := [("k", 6), ("word", 7)]) rfl S.nd (pi_enum rfl T.b_enumerate (pa_cons (pv 1) pa_nil)) (blkOk_by (N := N_is_walk) (sc := defScope s_is_walk) (by decide +kernel)) (fun _ _ _ _ _ => (pg_tupK (n := 2) K rfl rfl (pgs_cons (pg_name (i := 6) S.nd rfl (Or.inl rfl)) (pgs_cons (pg_name (i := 7) S.nd rfl (Or.inl rfl)) pgs_nil)))) (fun _ _ _ _ _ => pts_nil) (fun _ _ _ _ _ => (pe_cmpR (r := rInD K) (op_inD (hu65 hr)) (pe_tup (pa_cons (pe_ix (r := rIxL K) ix_list (pv 2) (pv 6) (fun _ _ => rfl)) (pa_cons (pv 7) (pa_cons (pe_ix (r := rIxL K) ix_list (pv 2) (pe_op op_add (pv 6) pe_int) (fun _ _ => rfl)) pa_nil)))) (pv 4) (by rfl)))) pa_nil)))))), ?_⟩
  exact (rs_seq (rs_asg (w := true) (t := (Ty.tup (Ty.cons Ty.int (Ty.cons (Ty.list (Ty.tup (Ty.cons Ty.int (Ty.cons Ty.str (Ty.last Ty.int))))) (Ty.last (Ty.list Ty.int)))))) (rp_varw (ms := M_is_walk) (v_is_walk_machine)) (rg_tup (rgs_cons (rg_name (ms := M_is_walk) (v_is_walk_many)) (rgs_cons (rg_name (ms := M_is_walk) (v_is_walk_arrows)) (rgs_one (rg_name (ms := M_is_walk) (v_is_walk_ends)))))))
  (rs_seq (rs_if (rt_or (rt_test (rp_op (m := .b) (m1 := .b) (m2 := .b) v_neI (rp_lenL (m' := .b) (rp_le (rp_varw (ms := M_is_walk) (v_is_walk_walk)))) (rp_op (m1 := .b) (m2 := .b) v_add (rp_lenL (m' := .b) (rp_le (rp_varw (ms := M_is_walk) (v_is_walk_row)))) rp_int))) (rt_or (rt_test (rp_op (m := .b) (m1 := .b) (m2 := .b) v_neI (rp_op (m1 := .b) (m2 := .b) (v_ixL (t := Ty.int)) (rp_le (rp_varw (ms := M_is_walk) (v_is_walk_walk))) rp_int) rp_int)) (rt_test (rp_op (m := .b) (m1 := .b) (m2 := .b) (v_notInD (t := Ty.int) (by decide)) (rp_op (m1 := .b) (m2 := .b) (v_ixL (t := Ty.int)) (rp_le (rp_varw (ms := M_is_walk) (v_is_walk_walk))) (rp_neg (m1 := .b) rp_int)) (rp_le (rp_varw (ms := M_is_walk) (v_is_walk_ends))))))) (rs_ret (rm := .o) (ρ := Ty.bool) rp_bool) rs_next)
  (rs_ret (rm := .o) (ρ := Ty.bool) (rp_all (m' := .b) (rp_le (rp_hide (rp_lc (w := true) (m := .o) (t := (Ty.tup (Ty.cons Ty.int (Ty.last Ty.str)))) (u := Ty.bool) [true, true, true, true, true, true, false, false] [6, 7] (ris_of (ri_enum (w := true) (t := Ty.str) (rp_varw (ms := M_is_walk) (v_is_walk_row)))) (rg_tup (rgs_cons (rg_name (ms := M_is_walk) (v_is_walk_k)) (rgs_one (rg_name (ms := M_is_walk) (v_is_walk_word))))) (gw_tup (gws_cons gw_name mg_name (gws_cons gw_name mg_name gws_nil))) rt_yes (rp_op (m1 := .b) (m2 := .b) (v_inD (t := (Ty.tup (Ty.cons Ty.int (Ty.cons Ty.str (Ty.last Ty.int))))) (by decide)) (rp_frz .b (rp_tup (ra_cons (rp_frz .o (rp_op (m1 := .b) (m2 := .b) (v_ixL (t := Ty.int)) (rp_le (rp_varw (ms := M_is_walk) (v_is_walk_walk))) (rp_frz .b (rp_varw (ms := M_is_walk) (v_is_walk_k))))) (ra_cons (rp_frz .o (rp_varw (ms := M_is_walk) (v_is_walk_word))) (ra_one (rp_frz .o (rp_op (m1 := .b) (m2 := .b) (v_ixL (t := Ty.int)) (rp_le (rp_varw (ms := M_is_walk) (v_is_walk_walk))) (rp_op (m1 := .b) (m2 := .b) v_add (rp_frz .b (rp_varw (ms := M_is_walk) (v_is_walk_k))) rp_int)))))))) (rp_le (rp_varw (ms := M_is_walk) (v_is_walk_arrows)))))))))))
/-! ### _law_lets -/
abbrev s__law_lets : Stmt := topS 8
abbrev N__law_lets : List Str := ["machine", "row", "rooms", "word", "arrow", "room"]
abbrev P__law_lets : List Str := ["machine", "row"]
theorem sc__law_lets : FnScope N__law_lets P__law_lets (defScope s__law_lets) := ⟨rfl, rfl, rfl, by decide +kernel, rfl, by decide +kernel, by decide +kernel⟩
abbrev g__law_lets : List Ty := [(Ty.tup (Ty.cons Ty.int (Ty.cons (Ty.list (Ty.tup (Ty.cons Ty.int (Ty.cons Ty.str (Ty.last Ty.int))))) (Ty.last (Ty.list Ty.int))))), (Ty.list Ty.str), (Ty.list Ty.int), Ty.str, (Ty.tup (Ty.cons Ty.int (Ty.cons Ty.str (Ty.last Ty.int)))), Ty.int]
abbrev M__law_lets : List Md := [.w, .w, .l, .w, .w, .w]
abbrev v__law_lets_machine : Mem g__law_lets (Ty.tup (Ty.cons Ty.int (Ty.cons (Ty.list (Ty.tup (Ty.cons Ty.int (Ty.cons Ty.str (Ty.last Ty.int))))) (Ty.last (Ty.list Ty.int))))) := .z
abbrev v__law_lets_row : Mem g__law_lets (Ty.list Ty.str) := (.s .z)
abbrev v__law_lets_rooms : Mem g__law_lets (Ty.list Ty.int) := (.s (.s .z))
abbrev v__law_lets_word : Mem g__law_lets Ty.str := (.s (.s (.s .z)))
abbrev v__law_lets_arrow : Mem g__law_lets (Ty.tup (Ty.cons Ty.int (Ty.cons Ty.str (Ty.last Ty.int)))) := (.s (.s (.s (.s .z))))
abbrev v__law_lets_room : Mem g__law_lets Ty.int := (.s (.s (.s (.s (.s .z)))))
noncomputable def lc__law_lets_1 : Gam g__law_lets → Option (List (den Ty.int)) := hide (eLc (eProj (b := (Ty.cons Ty.int (Ty.cons (Ty.list (Ty.tup (Ty.cons Ty.int (Ty.cons Ty.str (Ty.last Ty.int))))) (Ty.last (Ty.list Ty.int))))) (t := (Ty.list (Ty.tup (Ty.cons Ty.int (Ty.cons Ty.str (Ty.last Ty.int)))))) (.s .z) (eV (t := (Ty.tup (Ty.cons Ty.int (Ty.cons (Ty.list (Ty.tup (Ty.cons Ty.int (Ty.cons Ty.str (Ty.last Ty.int))))) (Ty.last (Ty.list Ty.int)))))) (v__law_lets_machine))) (bName (t := (Ty.tup (Ty.cons Ty.int (Ty.cons Ty.str (Ty.last Ty.int))))) (v__law_lets_arrow)) (Gam.mask [true, true, true, true, false, true]) (eAnd (e2 (fInD Ty.int) (eProj (b := (Ty.cons Ty.int (Ty.cons Ty.str (Ty.last Ty.int)))) (t := Ty.int) .z (eV (t := (Ty.tup (Ty.cons Ty.int (Ty.cons Ty.str (Ty.last Ty.int))))) (v__law_lets_arrow))) (eV (t := (Ty.list Ty.int)) (v__law_lets_rooms))) (e2 fEqS (eProj (b := (Ty.cons Ty.int (Ty.cons Ty.str (Ty.last Ty.int)))) (t := Ty.str) (.s .z) (eV (t := (Ty.tup (Ty.cons Ty.int (Ty.cons Ty.str (Ty.last Ty.int))))) (v__law_lets_arrow))) (eV (t := Ty.str) (v__law_lets_word)))) (eProj (b := (Ty.cons Ty.int (Ty.cons Ty.str (Ty.last Ty.int)))) (t := Ty.int) (.s (.s .one)) (eV (t := (Ty.tup (Ty.cons Ty.int (Ty.cons Ty.str (Ty.last Ty.int))))) (v__law_lets_arrow))))
theorem lc__law_lets_1_eq : lc__law_lets_1 = (eLc (eProj (b := (Ty.cons Ty.int (Ty.cons (Ty.list (Ty.tup (Ty.cons Ty.int (Ty.cons Ty.str (Ty.last Ty.int))))) (Ty.last (Ty.list Ty.int))))) (t := (Ty.list (Ty.tup (Ty.cons Ty.int (Ty.cons Ty.str (Ty.last Ty.int)))))) (.s .z) (eV (t := (Ty.tup (Ty.cons Ty.int (Ty.cons (Ty.list (Ty.tup (Ty.cons Ty.int (Ty.cons Ty.str (Ty.last Ty.int))))) (Ty.last (Ty.list Ty.int)))))) (v__law_lets_machine))) (bName (t := (Ty.tup (Ty.cons Ty.int (Ty.cons Ty.str (Ty.last Ty.int))))) (v__law_lets_arrow)) (Gam.mask [true, true, true, true, false, true]) (eAnd (e2 (fInD Ty.int) (eProj (b := (Ty.cons Ty.int (Ty.cons Ty.str (Ty.last Ty.int)))) (t := Ty.int) .z (eV (t := (Ty.tup (Ty.cons Ty.int (Ty.cons Ty.str (Ty.last Ty.int))))) (v__law_lets_arrow))) (eV (t := (Ty.list Ty.int)) (v__law_lets_rooms))) (e2 fEqS (eProj (b := (Ty.cons Ty.int (Ty.cons Ty.str (Ty.last Ty.int)))) (t := Ty.str) (.s .z) (eV (t := (Ty.tup (Ty.cons Ty.int (Ty.cons Ty.str (Ty.last Ty.int))))) (v__law_lets_arrow))) (eV (t := Ty.str) (v__law_lets_word)))) (eProj (b := (Ty.cons Ty.int (Ty.cons Ty.str (Ty.last Ty.int)))) (t := Ty.int) (.s (.s .one)) (eV (t := (Ty.tup (Ty.cons Ty.int (Ty.cons Ty.str (Ty.last Ty.int))))) (v__law_lets_arrow)))) := hide_eq _
noncomputable def lc__law_lets_2 : Gam g__law_lets → Option (List (den Ty.int)) := hide (eLc (eV (t := (Ty.list Ty.int)) (v__law_lets_rooms)) (bName (t := Ty.int) (v__law_lets_room)) (Gam.mask [true, true, true, true, true, false]) (e2 (fInD Ty.int) (eV (t := Ty.int) (v__law_lets_room)) (eProj (b := (Ty.cons Ty.int (Ty.cons (Ty.list (Ty.tup (Ty.cons Ty.int (Ty.cons Ty.str (Ty.last Ty.int))))) (Ty.last (Ty.list Ty.int))))) (t := (Ty.list Ty.int)) (.s (.s .one)) (eV (t := (Ty.tup (Ty.cons Ty.int (Ty.cons (Ty.list (Ty.tup (Ty.cons Ty.int (Ty.cons Ty.str (Ty.last Ty.int))))) (Ty.last (Ty.list Ty.int)))))) (v__law_lets_machine)))) (eV (t := Ty.int) (v__law_lets_room)))
theorem lc__law_lets_2_eq : lc__law_lets_2 = (eLc (eV (t := (Ty.list Ty.int)) (v__law_lets_rooms)) (bName (t := Ty.int) (v__law_lets_room)) (Gam.mask [true, true, true, true, true, false]) (e2 (fInD Ty.int) (eV (t := Ty.int) (v__law_lets_room)) (eProj (b := (Ty.cons Ty.int (Ty.cons (Ty.list (Ty.tup (Ty.cons Ty.int (Ty.cons Ty.str (Ty.last Ty.int))))) (Ty.last (Ty.list Ty.int))))) (t := (Ty.list Ty.int)) (.s (.s .one)) (eV (t := (Ty.tup (Ty.cons Ty.int (Ty.cons (Ty.list (Ty.tup (Ty.cons Ty.int (Ty.cons Ty.str (Ty.last Ty.int))))) (Ty.last (Ty.list Ty.int)))))) (v__law_lets_machine)))) (eV (t := Ty.int) (v__law_lets_room))) := hide_eq _
abbrev st__law_lets_1 (x0_machine : den (Ty.tup (Ty.cons Ty.int (Ty.cons (Ty.list (Ty.tup (Ty.cons Ty.int (Ty.cons Ty.str (Ty.last Ty.int))))) (Ty.last (Ty.list Ty.int)))))) (x1_rooms : den (Ty.list Ty.int)) : Gam g__law_lets := (some x0_machine, none, some x1_rooms, none, none, none, ())
noncomputable def lb__law_lets_1 : Gam g__law_lets → Option (Fl (Gam g__law_lets) (den Ty.bool)) :=
  (sSet (v__law_lets_rooms) lc__law_lets_1)
noncomputable def lp__law_lets_1 : Gam g__law_lets → Option (Fl (Gam g__law_lets) (den Ty.bool)) := hide (sFor (eV (t := (Ty.list Ty.str)) (v__law_lets_row)) (bName (t := Ty.str) (v__law_lets_word)) (Gam.mask [true, false, true, false, false, false]) lb__law_lets_1)
theorem lp__law_lets_1_eq : lp__law_lets_1 = (sFor (eV (t := (Ty.list Ty.str)) (v__law_lets_row)) (bName (t := Ty.str) (v__law_lets_word)) (Gam.mask [true, false, true, false, false, false]) lb__law_lets_1) := hide_eq _
noncomputable def b__law_lets : Gam g__law_lets → Option (Fl (Gam g__law_lets) (den Ty.bool)) :=
  (sSeq (sSet (v__law_lets_rooms) (e1 fSmall (eSnoc (eC (0 : Int)) eNil)))
  (sSeq lp__law_lets_1
  (sRet (e2 (fNeD (Ty.list Ty.int)) lc__law_lets_2 (e1 fSmall eNil)))))
noncomputable def m__law_lets : den (Ty.cons (Ty.tup (Ty.cons Ty.int (Ty.cons (Ty.list (Ty.tup (Ty.cons Ty.int (Ty.cons Ty.str (Ty.last Ty.int))))) (Ty.last (Ty.list Ty.int))))) (Ty.last (Ty.list Ty.str))) → Option (den Ty.bool) := hide (runG (Ty.cons (Ty.tup (Ty.cons Ty.int (Ty.cons (Ty.list (Ty.tup (Ty.cons Ty.int (Ty.cons Ty.str (Ty.last Ty.int))))) (Ty.last (Ty.list Ty.int))))) (Ty.last (Ty.list Ty.str))) [(Ty.list Ty.int), Ty.str, (Ty.tup (Ty.cons Ty.int (Ty.cons Ty.str (Ty.last Ty.int)))), Ty.int] b__law_lets)
theorem m__law_lets_eq (d : den (Ty.cons (Ty.tup (Ty.cons Ty.int (Ty.cons (Ty.list (Ty.tup (Ty.cons Ty.int (Ty.cons Ty.str (Ty.last Ty.int))))) (Ty.last (Ty.list Ty.int))))) (Ty.last (Ty.list Ty.str)))) : m__law_lets d = runG (Ty.cons (Ty.tup (Ty.cons Ty.int (Ty.cons (Ty.list (Ty.tup (Ty.cons Ty.int (Ty.cons Ty.str (Ty.last Ty.int))))) (Ty.last (Ty.list Ty.int))))) (Ty.last (Ty.list Ty.str))) [(Ty.list Ty.int), Ty.str, (Ty.tup (Ty.cons Ty.int (Ty.cons Ty.str (Ty.last Ty.int)))), Ty.int] b__law_lets d := congrFun (hide_eq _) d
theorem m__law_lets_at (p0 : den (Ty.tup (Ty.cons Ty.int (Ty.cons (Ty.list (Ty.tup (Ty.cons Ty.int (Ty.cons Ty.str (Ty.last Ty.int))))) (Ty.last (Ty.list Ty.int)))))) (p1 : den (Ty.list Ty.str)) : m__law_lets (p0, p1) = endOf (b__law_lets ((some p0, some p1, none, none, none, none, ()) : Gam g__law_lets)) := by
  rw [m__law_lets_eq]
  rfl
set_option maxHeartbeats 4000000 in
theorem ok__law_lets {f : Addr} {fd : FuncData} (F : Fun K "_law_lets" "_law_lets" s__law_lets f fd) (T : Txt K mg) :
    FnOk P w K mg base CX0 1 f fd P__law_lets (spP K (Ty.cons (Ty.tup (Ty.cons Ty.int (Ty.cons (Ty.list (Ty.tup (Ty.cons Ty.int (Ty.cons Ty.str (Ty.last Ty.int))))) (Ty.last (Ty.list Ty.int))))) (Ty.last (Ty.list Ty.str))) .o Ty.bool m__law_lets) := by
  have S := sc__law_lets
  refine fn_ok (F := b__law_lets) [(Ty.list Ty.int), Ty.str, (Ty.tup (Ty.cons Ty.int (Ty.cons Ty.str (Ty.last Ty.int)))), Ty.int] M__law_lets F S rfl rfl rfl m__law_lets_eq (fun cdv A outer s H E hr => ?_)
  refine ⟨_, (pss_cons (ps_set (i := 2) S.nd rfl (Or.inr rfl) (pe_lst (pa_cons pe_int pa_nil)))
  (pss_cons (ps_for PassesOwn.never rfl (pi_listK K rfl (pv 1)) (pg_name (i := 3) S.nd rfl (Or.inr rfl)) (pss_one (ps_set (i := 2) S.nd rfl (Or.inr rfl) (pe_lc (own := [("arrow", 4)]) rfl S.nd (pi_listK K rfl (pe_ix (r := rIxT K) ix_tup (pv 0) pe_int (fun _ _ => rfl))) (blkOk_by (N := N__law_lets) (sc := defScope s__law_lets) (by decide +kernel)) (fun _ _ _ _ _ => (pg_name (i := 4) S.nd rfl (Or.inl rfl))) (fun _ _ _ _ _ => (pts_one (PW.pt (pw_and (pt_cmpR (r := rInD K) (op_inD (hu65 hr)) (pe_ix (r := rIxT K) ix_tup (pv 4) pe_int (fun _ _ => rfl)) (pv 2) (by rfl)) (pw_and1 (pt_cmpR op_eq (pe_ix (r := rIxT K) ix_tup (pv 4) pe_int (fun _ _ => rfl)) (pv 3) (nomark _))))))) (fun _ _ _ _ _ => (pe_ix (r := rIxT K) ix_tup (pv 4) pe_int (fun _ _ => rfl)))))))
  (pss_one (ps_ret (pe_cmpR (r := rNeD K) (op_neD hr.units) (pe_lc (own := [("room", 5)]) rfl S.nd (pi_listK K rfl (pv 2)) (blkOk_by (N := N__law_lets) (sc := defScope s__law_lets) (by decide +kernel)) (fun _ _ _ _ _ => (pg_name (i := 5) S.nd rfl (Or.inl rfl))) (fun _ _ _ _ _ => (pts_one (pt_cmpR (r := rInD K) (op_inD (hu65 hr)) (pv 5) (pe_ix (r := rIxT K) ix_tup (pv 0) pe_int (fun _ _ => rfl)) (by rfl)))) (fun _ _ _ _ _ => (pv 5))) (pe_lst pa_nil) (nomark _)))))), ?_⟩
  exact (rs_seq (rs_set (ms := M__law_lets) (m := .l) (v__law_lets_rooms) (rp_le (rp_list (t := Ty.int) (rl_cons rp_int rl_nil))))
  (rs_seq (rs_hide (rs_for (w := true) (t := Ty.str) [true, false, true, false, false, false] (ri_list (w := true) (t := Ty.str) (rp_varw (ms := M__law_lets) (v__law_lets_row))) (rg_name (ms := M__law_lets) (v__law_lets_word)) (rs_set (ms := M__law_lets) (m := .l) (v__law_lets_rooms) (rp_le (rp_hide (rp_lc (w := true) (m := .o) (t := (Ty.tup (Ty.cons Ty.int (Ty.cons Ty.str (Ty.last Ty.int))))) (u := Ty.int) [true, true, true, true, false, true] [4] (ris_of (ri_list (w := true) (t := (Ty.tup (Ty.cons Ty.int (Ty.cons Ty.str (Ty.last Ty.int))))) (rp_projw (m := .w) (b := (Ty.cons Ty.int (Ty.cons (Ty.list (Ty.tup (Ty.cons Ty.int (Ty.cons Ty.str (Ty.last Ty.int))))) (Ty.last (Ty.list Ty.int))))) (t := (Ty.list (Ty.tup (Ty.cons Ty.int (Ty.cons Ty.str (Ty.last Ty.int)))))) (.s .z) 1 (rp_varw (ms := M__law_lets) (v__law_lets_machine))))) (rg_name (ms := M__law_lets) (v__law_lets_arrow)) gw_name (rt_and (rt_test (rp_op (m := .b) (m1 := .b) (m2 := .b) (v_inD (t := Ty.int) (by decide)) (rp_proj (m := .b) (b := (Ty.cons Ty.int (Ty.cons Ty.str (Ty.last Ty.int)))) (t := Ty.int) .z 0 (rp_frz .b (rp_varw (ms := M__law_lets) (v__law_lets_arrow)))) (rp_le (rp_varl (ms := M__law_lets) (v__law_lets_rooms))))) (rt_test (rp_op (m := .b) (m1 := .b) (m2 := .b) v_eqS (rp_proj (m := .b) (b := (Ty.cons Ty.int (Ty.cons Ty.str (Ty.last Ty.int)))) (t := Ty.str) (.s .z) 1 (rp_frz .b (rp_varw (ms := M__law_lets) (v__law_lets_arrow)))) (rp_frz .b (rp_varw (ms := M__law_lets) (v__law_lets_word)))))) (rp_frz .o (rp_proj (m := .b) (b := (Ty.cons Ty.int (Ty.cons Ty.str (Ty.last Ty.int)))) (t := Ty.int) (.s (.s .one)) 2 (rp_frz .b (rp_varw (ms := M__law_lets) (v__law_lets_arrow)))))))))))
  (rs_ret (rm := .o) (ρ := Ty.bool) (rp_op (m1 := .b) (m2 := .b) (v_neD (t := (Ty.list Ty.int)) (by decide)) (rp_le (rp_hide (rp_lc (w := false) (m := .o) (t := Ty.int) (u := Ty.int) [true, true, true, true, true, false] [5] (ris_of (ri_list (w := false) (t := Ty.int) (rp_varl (ms := M__law_lets) (v__law_lets_rooms)))) (rg_name (ms := M__law_lets) (v__law_lets_room)) gw_name (rt_test (rp_op (m := .b) (m1 := .b) (m2 := .b) (v_inD (t := Ty.int) (by decide)) (rp_frz .b (rp_varw (ms := M__law_lets) (v__law_lets_room))) (rp_le (rp_projw (m := .w) (b := (Ty.cons Ty.int (Ty.cons (Ty.list (Ty.tup (Ty.cons Ty.int (Ty.cons Ty.str (Ty.last Ty.int))))) (Ty.last (Ty.list Ty.int))))) (t := (Ty.list Ty.int)) (.s (.s .one)) 2 (rp_varw (ms := M__law_lets) (v__law_lets_machine)))))) (rp_frz .o (rp_varw (ms := M__law_lets) (v__law_lets_room)))))) (rp_le (rp_list (t := Ty.int) rl_nil))))))
/-! ### _law_walks -/
abbrev s__law_walks : Stmt := topS 9
abbrev N__law_walks : List Str := ["machine", "row", "walk", "k"]
abbrev P__law_walks : List Str := ["machine", "row", "walk"]
theorem sc__law_walks : FnScope N__law_walks P__law_walks (defScope s__law_walks) := ⟨rfl, rfl, rfl, by decide +kernel, rfl, by decide +kernel, by decide +kernel⟩
abbrev g__law_walks : List Ty := [(Ty.tup (Ty.cons Ty.int (Ty.cons (Ty.list (Ty.tup (Ty.cons Ty.int (Ty.cons Ty.str (Ty.last Ty.int))))) (Ty.last (Ty.list Ty.int))))), (Ty.list Ty.str), (Ty.list Ty.int), Ty.int]
abbrev M__law_walks : List Md := [.w, .w, .w, .w]
abbrev v__law_walks_machine : Mem g__law_walks (Ty.tup (Ty.cons Ty.int (Ty.cons (Ty.list (Ty.tup (Ty.cons Ty.int (Ty.cons Ty.str (Ty.last Ty.int))))) (Ty.last (Ty.list Ty.int))))) := .z
abbrev v__law_walks_row : Mem g__law_walks (Ty.list Ty.str) := (.s .z)
abbrev v__law_walks_walk : Mem g__law_walks (Ty.list Ty.int) := (.s (.s .z))
abbrev v__law_walks_k : Mem g__law_walks Ty.int := (.s (.s (.s .z)))
abbrev st__law_walks_1 (x0_machine : den (Ty.tup (Ty.cons Ty.int (Ty.cons (Ty.list (Ty.tup (Ty.cons Ty.int (Ty.cons Ty.str (Ty.last Ty.int))))) (Ty.last (Ty.list Ty.int)))))) (x1_row : den (Ty.list Ty.str)) (x2_walk : den (Ty.list Ty.int)) : Gam g__law_walks := (some x0_machine, some x1_row, some x2_walk, none, ())
noncomputable def lb__law_walks_1 : Gam g__law_walks → Option (Fl (Gam g__law_walks) (den Ty.bool)) :=
  (sIf (e2 (fNotInD (Ty.tup (Ty.cons Ty.int (Ty.cons Ty.str (Ty.last Ty.int))))) (eCons (e2 atI (eV (t := (Ty.list Ty.int)) (v__law_walks_walk)) (eV (t := Ty.int) (v__law_walks_k))) (eCons (e2 atI (eV (t := (Ty.list Ty.str)) (v__law_walks_row)) (eV (t := Ty.int) (v__law_walks_k))) (e2 atI (eV (t := (Ty.list Ty.int)) (v__law_walks_walk)) (e2 fAdd (eV (t := Ty.int) (v__law_walks_k)) (eC (1 : Int)))))) (eProj (b := (Ty.cons Ty.int (Ty.cons (Ty.list (Ty.tup (Ty.cons Ty.int (Ty.cons Ty.str (Ty.last Ty.int))))) (Ty.last (Ty.list Ty.int))))) (t := (Ty.list (Ty.tup (Ty.cons Ty.int (Ty.cons Ty.str (Ty.last Ty.int)))))) (.s .z) (eV (t := (Ty.tup (Ty.cons Ty.int (Ty.cons (Ty.list (Ty.tup (Ty.cons Ty.int (Ty.cons Ty.str (Ty.last Ty.int))))) (Ty.last (Ty.list Ty.int)))))) (v__law_walks_machine)))) (sRet (eC false)) sNext)
noncomputable def lp__law_walks_1 : Gam g__law_walks → Option (Fl (Gam g__law_walks) (den Ty.bool)) := hide (sFor (e1 fRng1 (e1 fLen (eV (t := (Ty.list Ty.str)) (v__law_walks_row)))) (bName (t := Ty.int) (v__law_walks_k)) (Gam.mask [true, true, true, false]) lb__law_walks_1)
theorem lp__law_walks_1_eq : lp__law_walks_1 = (sFor (e1 fRng1 (e1 fLen (eV (t := (Ty.list Ty.str)) (v__law_walks_row)))) (bName (t := Ty.int) (v__law_walks_k)) (Gam.mask [true, true, true, false]) lb__law_walks_1) := hide_eq _
noncomputable def b__law_walks : Gam g__law_walks → Option (Fl (Gam g__law_walks) (den Ty.bool)) :=
  (sSeq (sIf (eOr (e2 fNeI (e1 fLen (eV (t := (Ty.list Ty.int)) (v__law_walks_walk))) (e2 fAdd (e1 fLen (eV (t := (Ty.list Ty.str)) (v__law_walks_row))) (eC (1 : Int)))) (eOr (e2 fNeI (e2 atI (eV (t := (Ty.list Ty.int)) (v__law_walks_walk)) (eC (0 : Int))) (eC (0 : Int))) (e2 (fNotInD Ty.int) (e2 atI (eV (t := (Ty.list Ty.int)) (v__law_walks_walk)) (e1 (fun a => some (-a)) (eC (1 : Int)))) (eProj (b := (Ty.cons Ty.int (Ty.cons (Ty.list (Ty.tup (Ty.cons Ty.int (Ty.cons Ty.str (Ty.last Ty.int))))) (Ty.last (Ty.list Ty.int))))) (t := (Ty.list Ty.int)) (.s (.s .one)) (eV (t := (Ty.tup (Ty.cons Ty.int (Ty.cons (Ty.list (Ty.tup (Ty.cons Ty.int (Ty.cons Ty.str (Ty.last Ty.int))))) (Ty.last (Ty.list Ty.int)))))) (v__law_walks_machine)))))) (sRet (eC false)) sNext)
  (sSeq lp__law_walks_1
  (sRet (eC true))))
noncomputable def m__law_walks : den (Ty.cons (Ty.tup (Ty.cons Ty.int (Ty.cons (Ty.list (Ty.tup (Ty.cons Ty.int (Ty.cons Ty.str (Ty.last Ty.int))))) (Ty.last (Ty.list Ty.int))))) (Ty.cons (Ty.list Ty.str) (Ty.last (Ty.list Ty.int)))) → Option (den Ty.bool) := hide (runG (Ty.cons (Ty.tup (Ty.cons Ty.int (Ty.cons (Ty.list (Ty.tup (Ty.cons Ty.int (Ty.cons Ty.str (Ty.last Ty.int))))) (Ty.last (Ty.list Ty.int))))) (Ty.cons (Ty.list Ty.str) (Ty.last (Ty.list Ty.int)))) [Ty.int] b__law_walks)
theorem m__law_walks_eq (d : den (Ty.cons (Ty.tup (Ty.cons Ty.int (Ty.cons (Ty.list (Ty.tup (Ty.cons Ty.int (Ty.cons Ty.str (Ty.last Ty.int))))) (Ty.last (Ty.list Ty.int))))) (Ty.cons (Ty.list Ty.str) (Ty.last (Ty.list Ty.int))))) : m__law_walks d = runG (Ty.cons (Ty.tup (Ty.cons Ty.int (Ty.cons (Ty.list (Ty.tup (Ty.cons Ty.int (Ty.cons Ty.str (Ty.last Ty.int))))) (Ty.last (Ty.list Ty.int))))) (Ty.cons (Ty.list Ty.str) (Ty.last (Ty.list Ty.int)))) [Ty.int] b__law_walks d := congrFun (hide_eq _) d
theorem m__law_walks_at (p0 : den (Ty.tup (Ty.cons Ty.int (Ty.cons (Ty.list (Ty.tup (Ty.cons Ty.int (Ty.cons Ty.str (Ty.last Ty.int))))) (Ty.last (Ty.list Ty.int)))))) (p1 : den (Ty.list Ty.str)) (p2 : den (Ty.list Ty.int)) : m__law_walks (p0, p1, p2) = endOf (b__law_walks ((some p0, some p1, some p2, none, ()) : Gam g__law_walks)) := by
  rw [m__law_walks_eq]
  rfl
set_option maxHeartbeats 4000000 in
theorem ok__law_walks {f : Addr} {fd : FuncData} (F : Fun K "_law_walks" "_law_walks" s__law_walks f fd) (T : Txt K mg) :
    FnOk P w K mg base CX0 1 f fd P__law_walks (spP K (Ty.cons (Ty.tup (Ty.cons Ty.int (Ty.cons (Ty.list (Ty.tup (Ty.cons Ty.int (Ty.cons Ty.str (Ty.last Ty.int))))) (Ty.last (Ty.list Ty.int))))) (Ty.cons (Ty.list Ty.str) (Ty.last (Ty.list Ty.int)))) .o Ty.bool m__law_walks) := by
  have S := sc__law_walks
  refine fn_ok (F := b__law_walks) [Ty.int] M__law_walks F S rfl rfl rfl m__law_walks_eq (fun cdv A outer s H E hr => ?_)
  refine ⟨_, (pss_cons (ps_if (PW.pt (pw_or (pt_cmpR op_ne (pe_callB (r := VV.rLen K) call_len (by rfl) T.b_len (by decide +kernel) (pa_cons (pv 2) pa_nil)) (pe_op op_add (pe_callB (r := VV.rLen K) call_len (by rfl) T.b_len (by decide +kernel) (pa_cons (pv 1) pa_nil)) pe_int) (nomark _)) (pw_or (pt_cmpR op_ne (pe_ix (r := rIxL K) ix_list (pv 2) pe_int (fun _ _ => rfl)) pe_int (nomark _)) (pw_or1 (pt_cmpR (r := rNotInD K) (op_notInD (hu65 hr)) (pe_ix (r := rIxL K) ix_list (pv 2) (pe_un un_neg pe_int) (fun _ _ => rfl)) (pe_ix (r := rIxT K) ix_tup (pv 0) pe_int (fun _ _ => rfl)) (by rfl)))))) (pss_one (ps_ret pe_bl)) pss_nil)
  (pss_cons (ps_for PassesOwn.never rfl (pi_range1 rfl T.b_range (pa_cons (pe_callB (r := VV.rLen K) call_len (by rfl) T.b_len (by decide +kernel) (pa_cons (pv 1) pa_nil)) pa_nil)) (pg_name (i := 3) S.nd rfl (Or.inl rfl)) (pss_one (ps_if (pt_cmpR (r := rNotInD K) (op_notInD (hu65 hr)) (pe_tup (pa_cons (pe_ix (r := rIxL K) ix_list (pv 2) (pv 3) (fun _ _ => rfl)) (pa_cons (pe_ix (r := rIxL K) ix_list (pv 1) (pv 3) (fun _ _ => rfl)) (pa_cons (pe_ix (r := rIxL K) ix_list (pv 2) (pe_op op_add (pv 3) pe_int) (fun _ _ => rfl)) pa_nil)))) (pe_ix (r := rIxT K) ix_tup (pv 0) pe_int (fun _ _ => rfl)) (by rfl)) (pss_one (ps_ret pe_bl)) pss_nil)))
  (pss_one (ps_ret pe_bl)))), ?_⟩
  exact (rs_seq (rs_if (rt_or (rt_test (rp_op (m := .b) (m1 := .b) (m2 := .b) v_neI (rp_lenL (m' := .b) (rp_le (rp_varw (ms := M__law_walks) (v__law_walks_walk)))) (rp_op (m1 := .b) (m2 := .b) v_add (rp_lenL (m' := .b) (rp_le (rp_varw (ms := M__law_walks) (v__law_walks_row)))) rp_int))) (rt_or (rt_test (rp_op (m := .b) (m1 := .b) (m2 := .b) v_neI (rp_op (m1 := .b) (m2 := .b) (v_ixL (t := Ty.int)) (rp_le (rp_varw (ms := M__law_walks) (v__law_walks_walk))) rp_int) rp_int)) (rt_test (rp_op (m := .b) (m1 := .b) (m2 := .b) (v_notInD (t := Ty.int) (by decide)) (rp_op (m1 := .b) (m2 := .b) (v_ixL (t := Ty.int)) (rp_le (rp_varw (ms := M__law_walks) (v__law_walks_walk))) (rp_neg (m1 := .b) rp_int)) (rp_le (rp_projw (m := .w) (b := (Ty.cons Ty.int (Ty.cons (Ty.list (Ty.tup (Ty.cons Ty.int (Ty.cons Ty.str (Ty.last Ty.int))))) (Ty.last (Ty.list Ty.int))))) (t := (Ty.list Ty.int)) (.s (.s .one)) 2 (rp_varw (ms := M__law_walks) (v__law_walks_machine)))))))) (rs_ret (rm := .o) (ρ := Ty.bool) rp_bool) rs_next)
  (rs_seq (rs_hide (rs_for (w := false) (t := Ty.int) [true, true, true, false] (ri_rng1 (w := false) (m := .b) (ra_one (rp_lenL (m' := .b) (rp_le (rp_varw (ms := M__law_walks) (v__law_walks_row)))))) (rg_name (ms := M__law_walks) (v__law_walks_k)) (rs_if (rt_test (rp_op (m := .b) (m1 := .b) (m2 := .b) (v_notInD (t := (Ty.tup (Ty.cons Ty.int (Ty.cons Ty.str (Ty.last Ty.int))))) (by decide)) (rp_frz .b (rp_tup (ra_cons (rp_frz .o (rp_op (m1 := .b) (m2 := .b) (v_ixL (t := Ty.int)) (rp_le (rp_varw (ms := M__law_walks) (v__law_walks_walk))) (rp_frz .b (rp_varw (ms := M__law_walks) (v__law_walks_k))))) (ra_cons (rp_frz .o (rp_op (m1 := .b) (m2 := .b) (v_ixL (t := Ty.str)) (rp_le (rp_varw (ms := M__law_walks) (v__law_walks_row))) (rp_frz .b (rp_varw (ms := M__law_walks) (v__law_walks_k))))) (ra_one (rp_frz .o (rp_op (m1 := .b) (m2 := .b) (v_ixL (t := Ty.int)) (rp_le (rp_varw (ms := M__law_walks) (v__law_walks_walk))) (rp_op (m1 := .b) (m2 := .b) v_add (rp_frz .b (rp_varw (ms := M__law_walks) (v__law_walks_k))) rp_int)))))))) (rp_le (rp_projw (m := .w) (b := (Ty.cons Ty.int (Ty.cons (Ty.list (Ty.tup (Ty.cons Ty.int (Ty.cons Ty.str (Ty.last Ty.int))))) (Ty.last (Ty.list Ty.int))))) (t := (Ty.list (Ty.tup (Ty.cons Ty.int (Ty.cons Ty.str (Ty.last Ty.int)))))) (.s .z) 1 (rp_varw (ms := M__law_walks) (v__law_walks_machine)))))) (rs_ret (rm := .o) (ρ := Ty.bool) rp_bool) rs_next)))
  (rs_ret (rm := .o) (ρ := Ty.bool) rp_bool)))
/-! ### law -/
abbrev s_law : Stmt := topS 11
abbrev N_law : List Str := ["script", "deck", "machine", "handed", "k", "row", "walk", "given", "let", "walks"]
abbrev P_law : List Str := ["script"]
theorem sc_law : FnScope N_law P_law (defScope s_law) := ⟨rfl, rfl, rfl, by decide +kernel, rfl, by decide +kernel, by decide +kernel⟩
abbrev g_law : List Ty := [(Ty.list Ty.int), (Ty.hl (Ty.cons (Ty.own (Ty.list Ty.int)) (Ty.last Ty.int))), (Ty.tup (Ty.cons Ty.int (Ty.cons (Ty.list (Ty.tup (Ty.cons Ty.int (Ty.cons Ty.str (Ty.last Ty.int))))) (Ty.last (Ty.list Ty.int))))), (Ty.tup (Ty.cons Ty.int (Ty.cons (Ty.list (Ty.tup (Ty.cons Ty.int (Ty.cons Ty.str (Ty.last Ty.int))))) (Ty.last (Ty.list Ty.int))))), Ty.int, (Ty.list Ty.str), (Ty.list Ty.int), (Ty.hl (Ty.cons (Ty.own (Ty.list Ty.str)) (Ty.last (Ty.own (Ty.list Ty.int))))), Ty.bool, Ty.bool]
abbrev M_law : List Md := [.w, .o, .l, .l, .w, .o, .w, .l, .w, .w]
abbrev v_law_script : Mem g_law (Ty.list Ty.int) := .z
abbrev v_law_deck : Mem g_law (Ty.hl (Ty.cons (Ty.own (Ty.list Ty.int)) (Ty.last Ty.int))) := (.s .z)
abbrev v_law_machine : Mem g_law (Ty.tup (Ty.cons Ty.int (Ty.cons (Ty.list (Ty.tup (Ty.cons Ty.int (Ty.cons Ty.str (Ty.last Ty.int))))) (Ty.last (Ty.list Ty.int))))) := (.s (.s .z))
abbrev v_law_handed : Mem g_law (Ty.tup (Ty.cons Ty.int (Ty.cons (Ty.list (Ty.tup (Ty.cons Ty.int (Ty.cons Ty.str (Ty.last Ty.int))))) (Ty.last (Ty.list Ty.int))))) := (.s (.s (.s .z)))
abbrev v_law_k : Mem g_law Ty.int := (.s (.s (.s (.s .z))))
abbrev v_law_row : Mem g_law (Ty.list Ty.str) := (.s (.s (.s (.s (.s .z)))))
abbrev v_law_walk : Mem g_law (Ty.list Ty.int) := (.s (.s (.s (.s (.s (.s .z))))))
abbrev v_law_given : Mem g_law (Ty.hl (Ty.cons (Ty.own (Ty.list Ty.str)) (Ty.last (Ty.own (Ty.list Ty.int))))) := (.s (.s (.s (.s (.s (.s (.s .z)))))))
abbrev v_law_let : Mem g_law Ty.bool := (.s (.s (.s (.s (.s (.s (.s (.s .z))))))))
abbrev v_law_walks : Mem g_law Ty.bool := (.s (.s (.s (.s (.s (.s (.s (.s (.s .z)))))))))
abbrev st_law_1 (x0_deck : den (Ty.hl (Ty.cons (Ty.own (Ty.list Ty.int)) (Ty.last Ty.int)))) (x1_machine : den (Ty.tup (Ty.cons Ty.int (Ty.cons (Ty.list (Ty.tup (Ty.cons Ty.int (Ty.cons Ty.str (Ty.last Ty.int))))) (Ty.last (Ty.list Ty.int)))))) (x2_handed : den (Ty.tup (Ty.cons Ty.int (Ty.cons (Ty.list (Ty.tup (Ty.cons Ty.int (Ty.cons Ty.str (Ty.last Ty.int))))) (Ty.last (Ty.list Ty.int)))))) : Gam g_law := (none, some x0_deck, some x1_machine, some x2_handed, none, none, none, none, none, none, ())
noncomputable def lb_law_1 : Gam g_law → Option (Fl (Gam g_law) (den Ty.bool)) :=
  (sSeq (sAsgE (eIOz (b := (Ty.last (Ty.tup (Ty.cons Ty.int (Ty.cons (Ty.list (Ty.tup (Ty.cons Ty.int (Ty.cons Ty.str (Ty.last Ty.int))))) (Ty.last (Ty.list Ty.int))))))) (tio := (Ty.hl (Ty.cons (Ty.own (Ty.list Ty.int)) (Ty.last Ty.int)))) (v_law_deck) m__law_made (ePure (eV (t := (Ty.tup (Ty.cons Ty.int (Ty.cons (Ty.list (Ty.tup (Ty.cons Ty.int (Ty.cons Ty.str (Ty.last Ty.int))))) (Ty.last (Ty.list Ty.int)))))) (v_law_machine)))) (bCons (bName (t := (Ty.list Ty.str)) (v_law_row)) (bName (t := (Ty.list Ty.int)) (v_law_walk))))
  (sSeq (sIfE (eXAnd (eX2 fEqI (eIOz (b := (Ty.last Ty.int)) (tio := (Ty.hl (Ty.cons (Ty.own (Ty.list Ty.int)) (Ty.last Ty.int)))) (v_law_deck) m__law_take (ePure (eC (4 : Int)))) (ePure (eC (0 : Int)))) (ePure (e2 (fNeD (Ty.list Ty.str)) (eV (t := (Ty.list Ty.str)) (v_law_row)) (e1 fSmall eNil)))) (sLputX (t := Ty.str) (v_law_row) (eX2 atI (ePure (e1 fSmall (eSnoc (eC (Str.ofString "a")) (eSnoc (eC (Str.ofString "b")) (eSnoc (eC (Str.ofString "end")) (eSnoc (eC (Str.ofString "x")) eNil)))))) (eIOz (b := (Ty.last Ty.int)) (tio := (Ty.hl (Ty.cons (Ty.own (Ty.list Ty.int)) (Ty.last Ty.int)))) (v_law_deck) m__law_take (ePure (eC (4 : Int))))) (eIOz (b := (Ty.last Ty.int)) (tio := (Ty.hl (Ty.cons (Ty.own (Ty.list Ty.int)) (Ty.last Ty.int)))) (v_law_deck) m__law_take (ePure (e1 fLen (eV (t := (Ty.list Ty.str)) (v_law_row)))))) sNext)
  (sSeq (sAsgE (eIO (b := (Ty.cons (Ty.hl (Ty.cons (Ty.own (Ty.list Ty.int)) (Ty.last Ty.int))) (Ty.cons (Ty.tup (Ty.cons Ty.int (Ty.cons (Ty.list (Ty.tup (Ty.cons Ty.int (Ty.cons Ty.str (Ty.last Ty.int))))) (Ty.last (Ty.list Ty.int))))) (Ty.last (Ty.list Ty.int))))) (tio := (Ty.hl (Ty.cons (Ty.own (Ty.list Ty.int)) (Ty.last Ty.int)))) (v_law_deck) m__law_spoilt (eCons (eV (t := (Ty.hl (Ty.cons (Ty.own (Ty.list Ty.int)) (Ty.last Ty.int)))) (v_law_deck)) (eCons (eV (t := (Ty.tup (Ty.cons Ty.int (Ty.cons (Ty.list (Ty.tup (Ty.cons Ty.int (Ty.cons Ty.str (Ty.last Ty.int))))) (Ty.last (Ty.list Ty.int)))))) (v_law_machine)) (eV (t := (Ty.list Ty.int)) (v_law_walk))))) (bName (t := (Ty.list Ty.int)) (v_law_walk)))
  (sSeq (sSet (v_law_given) (eCons (eV (t := (Ty.list Ty.str)) (v_law_row)) (eV (t := (Ty.list Ty.int)) (v_law_walk))))
  (sSeq (sSet (v_law_let) (e1 m_lets (eCons (eV (t := (Ty.tup (Ty.cons Ty.int (Ty.cons (Ty.list (Ty.tup (Ty.cons Ty.int (Ty.cons Ty.str (Ty.last Ty.int))))) (Ty.last (Ty.list Ty.int)))))) (v_law_handed)) (eProj (b := (Ty.cons (Ty.own (Ty.list Ty.str)) (Ty.last (Ty.own (Ty.list Ty.int))))) (t := (Ty.own (Ty.list Ty.str))) .z (eV (t := (Ty.hl (Ty.cons (Ty.own (Ty.list Ty.str)) (Ty.last (Ty.own (Ty.list Ty.int)))))) (v_law_given))))))
  (sSeq (sSet (v_law_walks) (e1 m_is_walk (eCons (eV (t := (Ty.tup (Ty.cons Ty.int (Ty.cons (Ty.list (Ty.tup (Ty.cons Ty.int (Ty.cons Ty.str (Ty.last Ty.int))))) (Ty.last (Ty.list Ty.int)))))) (v_law_handed)) (eCons (eProj (b := (Ty.cons (Ty.own (Ty.list Ty.str)) (Ty.last (Ty.own (Ty.list Ty.int))))) (t := (Ty.own (Ty.list Ty.str))) .z (eV (t := (Ty.hl (Ty.cons (Ty.own (Ty.list Ty.str)) (Ty.last (Ty.own (Ty.list Ty.int)))))) (v_law_given))) (eProj (b := (Ty.cons (Ty.own (Ty.list Ty.str)) (Ty.last (Ty.own (Ty.list Ty.int))))) (t := (Ty.own (Ty.list Ty.int))) (.s .one) (eV (t := (Ty.hl (Ty.cons (Ty.own (Ty.list Ty.str)) (Ty.last (Ty.own (Ty.list Ty.int)))))) (v_law_given)))))))
  (sSeq (sIf (eOr (eNot (e1 (fun d => some ((fun _ => true) d)) (eV (t := Ty.bool) (v_law_let)))) (e2 fNeB (eV (t := Ty.bool) (v_law_let)) (e1 m__law_lets (eCons (eV (t := (Ty.tup (Ty.cons Ty.int (Ty.cons (Ty.list (Ty.tup (Ty.cons Ty.int (Ty.cons Ty.str (Ty.last Ty.int))))) (Ty.last (Ty.list Ty.int)))))) (v_law_machine)) (eV (t := (Ty.list Ty.str)) (v_law_row)))))) (sRet (eC false)) sNext)
  (sSeq (sIf (eOr (eNot (e1 (fun d => some ((fun _ => true) d)) (eV (t := Ty.bool) (v_law_walks)))) (e2 fNeB (eV (t := Ty.bool) (v_law_walks)) (e1 m__law_walks (eCons (eV (t := (Ty.tup (Ty.cons Ty.int (Ty.cons (Ty.list (Ty.tup (Ty.cons Ty.int (Ty.cons Ty.str (Ty.last Ty.int))))) (Ty.last (Ty.list Ty.int)))))) (v_law_machine)) (eCons (eV (t := (Ty.list Ty.str)) (v_law_row)) (eV (t := (Ty.list Ty.int)) (v_law_walk))))))) (sRet (eC false)) sNext)
  (sIf (eOr (e2 (fNeD (Ty.hl (Ty.cons (Ty.own (Ty.list Ty.str)) (Ty.last (Ty.own (Ty.list Ty.int)))))) (eV (t := (Ty.hl (Ty.cons (Ty.own (Ty.list Ty.str)) (Ty.last (Ty.own (Ty.list Ty.int)))))) (v_law_given)) (eCons (eV (t := (Ty.list Ty.str)) (v_law_row)) (eV (t := (Ty.list Ty.int)) (v_law_walk)))) (e2 (fNeD (Ty.tup (Ty.cons Ty.int (Ty.cons (Ty.list (Ty.tup (Ty.cons Ty.int (Ty.cons Ty.str (Ty.last Ty.int))))) (Ty.last (Ty.list Ty.int)))))) (eV (t := (Ty.tup (Ty.cons Ty.int (Ty.cons (Ty.list (Ty.tup (Ty.cons Ty.int (Ty.cons Ty.str (Ty.last Ty.int))))) (Ty.last (Ty.list Ty.int)))))) (v_law_handed)) (eV (t := (Ty.tup (Ty.cons Ty.int (Ty.cons (Ty.list (Ty.tup (Ty.cons Ty.int (Ty.cons Ty.str (Ty.last Ty.int))))) (Ty.last (Ty.list Ty.int)))))) (v_law_machine)))) (sRet (eC false)) sNext)))))))))
noncomputable def lp_law_1 : Gam g_law → Option (Fl (Gam g_law) (den Ty.bool)) := hide (sFor (e1 fRng1 (eC (8 : Int))) (bName (t := Ty.int) (v_law_k)) (Gam.mask [false, true, true, true, false, false, false, false, false, false]) lb_law_1)
theorem lp_law_1_eq : lp_law_1 = (sFor (e1 fRng1 (eC (8 : Int))) (bName (t := Ty.int) (v_law_k)) (Gam.mask [false, true, true, true, false, false, false, false, false, false]) lb_law_1) := hide_eq _
noncomputable def b_law : Gam g_law → Option (Fl (Gam g_law) (den Ty.bool)) :=
  (sSeq (sSet (v_law_deck) (e1 m__law_numbers (eV (t := (Ty.list Ty.int)) (v_law_script))))
  (sSeq (sAsgE (eIO (b := (Ty.last (Ty.hl (Ty.cons (Ty.own (Ty.list Ty.int)) (Ty.last Ty.int))))) (tio := (Ty.hl (Ty.cons (Ty.own (Ty.list Ty.int)) (Ty.last Ty.int)))) (v_law_deck) m__law_machine (eV (t := (Ty.hl (Ty.cons (Ty.own (Ty.list Ty.int)) (Ty.last Ty.int)))) (v_law_deck))) (bName (t := (Ty.tup (Ty.cons Ty.int (Ty.cons (Ty.list (Ty.tup (Ty.cons Ty.int (Ty.cons Ty.str (Ty.last Ty.int))))) (Ty.last (Ty.list Ty.int)))))) (v_law_machine)))
  (sSeq (sSet (v_law_handed) (eCons (eProj (b := (Ty.cons Ty.int (Ty.cons (Ty.list (Ty.tup (Ty.cons Ty.int (Ty.cons Ty.str (Ty.last Ty.int))))) (Ty.last (Ty.list Ty.int))))) (t := Ty.int) .z (eV (t := (Ty.tup (Ty.cons Ty.int (Ty.cons (Ty.list (Ty.tup (Ty.cons Ty.int (Ty.cons Ty.str (Ty.last Ty.int))))) (Ty.last (Ty.list Ty.int)))))) (v_law_machine))) (eCons (eProj (b := (Ty.cons Ty.int (Ty.cons (Ty.list (Ty.tup (Ty.cons Ty.int (Ty.cons Ty.str (Ty.last Ty.int))))) (Ty.last (Ty.list Ty.int))))) (t := (Ty.list (Ty.tup (Ty.cons Ty.int (Ty.cons Ty.str (Ty.last Ty.int)))))) (.s .z) (eV (t := (Ty.tup (Ty.cons Ty.int (Ty.cons (Ty.list (Ty.tup (Ty.cons Ty.int (Ty.cons Ty.str (Ty.last Ty.int))))) (Ty.last (Ty.list Ty.int)))))) (v_law_machine))) (eProj (b := (Ty.cons Ty.int (Ty.cons (Ty.list (Ty.tup (Ty.cons Ty.int (Ty.cons Ty.str (Ty.last Ty.int))))) (Ty.last (Ty.list Ty.int))))) (t := (Ty.list Ty.int)) (.s (.s .one)) (eV (t := (Ty.tup (Ty.cons Ty.int (Ty.cons (Ty.list (Ty.tup (Ty.cons Ty.int (Ty.cons Ty.str (Ty.last Ty.int))))) (Ty.last (Ty.list Ty.int)))))) (v_law_machine))))))
  (sSeq lp_law_1
  (sRet (e2 fEqB (e1 m_is_walk (eCons (eV (t := (Ty.tup (Ty.cons Ty.int (Ty.cons (Ty.list (Ty.tup (Ty.cons Ty.int (Ty.cons Ty.str (Ty.last Ty.int))))) (Ty.last (Ty.list Ty.int)))))) (v_law_machine)) (eCons (e1 fSmall eNil) (e1 fSmall eNil)))) (eC false)))))))
noncomputable def m_law : den (Ty.last (Ty.list Ty.int)) → Option (den Ty.bool) := hide (runG (Ty.last (Ty.list Ty.int)) [(Ty.hl (Ty.cons (Ty.own (Ty.list Ty.int)) (Ty.last Ty.int))), (Ty.tup (Ty.cons Ty.int (Ty.cons (Ty.list (Ty.tup (Ty.cons Ty.int (Ty.cons Ty.str (Ty.last Ty.int))))) (Ty.last (Ty.list Ty.int))))), (Ty.tup (Ty.cons Ty.int (Ty.cons (Ty.list (Ty.tup (Ty.cons Ty.int (Ty.cons Ty.str (Ty.last Ty.int))))) (Ty.last (Ty.list Ty.int))))), Ty.int, (Ty.list Ty.str), (Ty.list Ty.int), (Ty.hl (Ty.cons (Ty.own (Ty.list Ty.str)) (Ty.last (Ty.own (Ty.list Ty.int))))), Ty.bool, Ty.bool] b_law)
theorem m_law_eq (d : den (Ty.last (Ty.list Ty.int))) : m_law d = runG (Ty.last (Ty.list Ty.int)) [(Ty.hl (Ty.cons (Ty.own (Ty.list Ty.int)) (Ty.last Ty.int))), (Ty.tup (Ty.cons Ty.int (Ty.cons (Ty.list (Ty.tup (Ty.cons Ty.int (Ty.cons Ty.str (Ty.last Ty.int))))) (Ty.last (Ty.list Ty.int))))), (Ty.tup (Ty.cons Ty.int (Ty.cons (Ty.list (Ty.tup (Ty.cons Ty.int (Ty.cons Ty.str (Ty.last Ty.int))))) (Ty.last (Ty.list Ty.int))))), Ty.int, (Ty.list Ty.str), (Ty.list Ty.int), (Ty.hl (Ty.cons (Ty.own (Ty.list Ty.str)) (Ty.last (Ty.own (Ty.list Ty.int))))), Ty.bool, Ty.bool] b_law d := congrFun (hide_eq _) d
theorem m_law_at (p0 : den (Ty.list Ty.int)) : m_law (p0) = endOf (b_law ((some p0, none, none, none, none, none, none, none, none, none, ()) : Gam g_law)) := by
  rw [m_law_eq]
  rfl
set_option maxHeartbeats 4000000 in
theorem ok_law {f : Addr} {fd : FuncData} (F : Fun K "law" "law" s_law f fd) (T : Txt K mg) {f__law_numbers : Addr} {fd__law_numbers : FuncData} (D__law_numbers : Df K mg "_law_numbers" "_law_numbers" s__law_numbers P__law_numbers f__law_numbers fd__law_numbers) (G__law_numbers : FnOk P w K mg base CX0 1 f__law_numbers fd__law_numbers P__law_numbers (spP K (Ty.last (Ty.list Ty.int)) .o (Ty.hl (Ty.cons (Ty.own (Ty.list Ty.int)) (Ty.last Ty.int))) m__law_numbers)) {f__law_machine : Addr} {fd__law_machine : FuncData} (D__law_machine : Df K mg "_law_machine" "_law_machine" s__law_machine P__law_machine f__law_machine fd__law_machine) (G__law_machine : FnOk P w K mg base CX0 2 f__law_machine fd__law_machine P__law_machine (spIO K (Ty.last (Ty.hl (Ty.cons (Ty.own (Ty.list Ty.int)) (Ty.last Ty.int)))) (.one : RIx (Ty.last (Ty.hl (Ty.cons (Ty.own (Ty.list Ty.int)) (Ty.last Ty.int)))) (Ty.hl (Ty.cons (Ty.own (Ty.list Ty.int)) (Ty.last Ty.int)))) .o (Ty.tup (Ty.cons Ty.int (Ty.cons (Ty.list (Ty.tup (Ty.cons Ty.int (Ty.cons Ty.str (Ty.last Ty.int))))) (Ty.last (Ty.list Ty.int))))) m__law_machine)) {f__law_made : Addr} {fd__law_made : FuncData} (D__law_made : Df K mg "_law_made" "_law_made" s__law_made P__law_made f__law_made fd__law_made) (G__law_made : FnOk P w K mg base CX0 2 f__law_made fd__law_made P__law_made (spIO K (Ty.cons (Ty.hl (Ty.cons (Ty.own (Ty.list Ty.int)) (Ty.last Ty.int))) (Ty.last (Ty.tup (Ty.cons Ty.int (Ty.cons (Ty.list (Ty.tup (Ty.cons Ty.int (Ty.cons Ty.str (Ty.last Ty.int))))) (Ty.last (Ty.list Ty.int))))))) (.z : RIx (Ty.cons (Ty.hl (Ty.cons (Ty.own (Ty.list Ty.int)) (Ty.last Ty.int))) (Ty.last (Ty.tup (Ty.cons Ty.int (Ty.cons (Ty.list (Ty.tup (Ty.cons Ty.int (Ty.cons Ty.str (Ty.last Ty.int))))) (Ty.last (Ty.list Ty.int))))))) (Ty.hl (Ty.cons (Ty.own (Ty.list Ty.int)) (Ty.last Ty.int)))) .o (Ty.hl (Ty.cons (Ty.own (Ty.list Ty.str)) (Ty.last (Ty.own (Ty.list Ty.int))))) m__law_made)) {f__law_take : Addr} {fd__law_take : FuncData} (D__law_take : Df K mg "_law_take" "_law_take" s__law_take P__law_take f__law_take fd__law_take) (G__law_take : FnOk P w K mg base CX0 1 f__law_take fd__law_take P__law_take (spIO K (Ty.cons (Ty.hl (Ty.cons (Ty.own (Ty.list Ty.int)) (Ty.last Ty.int))) (Ty.last Ty.int)) (.z : RIx (Ty.cons (Ty.hl (Ty.cons (Ty.own (Ty.list Ty.int)) (Ty.last Ty.int))) (Ty.last Ty.int)) (Ty.hl (Ty.cons (Ty.own (Ty.list Ty.int)) (Ty.last Ty.int)))) .o Ty.int m__law_take)) {f__law_spoilt : Addr} {fd__law_spoilt : FuncData} (D__law_spoilt : Df K mg "_law_spoilt" "_law_spoilt" s__law_spoilt P__law_spoilt f__law_spoilt fd__law_spoilt) (G__law_spoilt : FnOk P w K mg base CX0 2 f__law_spoilt fd__law_spoilt P__law_spoilt (spIO K (Ty.cons (Ty.hl (Ty.cons (Ty.own (Ty.list Ty.int)) (Ty.last Ty.int))) (Ty.cons (Ty.tup (Ty.cons Ty.int (Ty.cons (Ty.list (Ty.tup (Ty.cons Ty.int (Ty.cons Ty.str (Ty.last Ty.int))))) (Ty.last (Ty.list Ty.int))))) (Ty.last (Ty.list Ty.int)))) (.z : RIx (Ty.cons (Ty.hl (Ty.cons (Ty.own (Ty.list Ty.int)) (Ty.last Ty.int))) (Ty.cons (Ty.tup (Ty.cons Ty.int (Ty.cons (Ty.list (Ty.tup (Ty.cons Ty.int (Ty.cons Ty.str (Ty.last Ty.int))))) (Ty.last (Ty.list Ty.int))))) (Ty.last (Ty.list Ty.int)))) (Ty.hl (Ty.cons (Ty.own (Ty.list Ty.int)) (Ty.last Ty.int)))) .w (Ty.list Ty.int) m__law_spoilt)) {f_lets : Addr} {fd_lets : FuncData} (D_lets : Df K mg "lets" "lets" s_lets P_lets f_lets fd_lets) (G_lets : FnOk P w K mg base CX0 1 f_lets fd_lets P_lets (spP K (Ty.cons (Ty.tup (Ty.cons Ty.int (Ty.cons (Ty.list (Ty.tup (Ty.cons Ty.int (Ty.cons Ty.str (Ty.last Ty.int))))) (Ty.last (Ty.list Ty.int))))) (Ty.last (Ty.list Ty.str))) .o Ty.bool m_lets)) {f_is_walk : Addr} {fd_is_walk : FuncData} (D_is_walk : Df K mg "is_walk" "is_walk" s_is_walk P_is_walk f_is_walk fd_is_walk) (G_is_walk : FnOk P w K mg base CX0 1 f_is_walk fd_is_walk P_is_walk (spP K (Ty.cons (Ty.tup (Ty.cons Ty.int (Ty.cons (Ty.list (Ty.tup (Ty.cons Ty.int (Ty.cons Ty.str (Ty.last Ty.int))))) (Ty.last (Ty.list Ty.int))))) (Ty.cons (Ty.list Ty.str) (Ty.last (Ty.list Ty.int)))) .o Ty.bool m_is_walk)) {f__law_lets : Addr} {fd__law_lets : FuncData} (D__law_lets : Df K mg "_law_lets" "_law_lets" s__law_lets P__law_lets f__law_lets fd__law_lets) (G__law_lets : FnOk P w K mg base CX0 1 f__law_lets fd__law_lets P__law_lets (spP K (Ty.cons (Ty.tup (Ty.cons Ty.int (Ty.cons (Ty.list (Ty.tup (Ty.cons Ty.int (Ty.cons Ty.str (Ty.last Ty.int))))) (Ty.last (Ty.list Ty.int))))) (Ty.last (Ty.list Ty.str))) .o Ty.bool m__law_lets)) {f__law_walks : Addr} {fd__law_walks : FuncData} (D__law_walks : Df K mg "_law_walks" "_law_walks" s__law_walks P__law_walks f__law_walks fd__law_walks) (G__law_walks : FnOk P w K mg base CX0 1 f__law_walks fd__law_walks P__law_walks (spP K (Ty.cons (Ty.tup (Ty.cons Ty.int (Ty.cons (Ty.list (Ty.tup (Ty.cons Ty.int (Ty.cons Ty.str (Ty.last Ty.int))))) (Ty.last (Ty.list Ty.int))))) (Ty.cons (Ty.list Ty.str) (Ty.last (Ty.list Ty.int)))) .o Ty.bool m__law_walks)) :
    FnOk P w K mg base CX0 3 f fd P_law (spP K (Ty.last (Ty.list Ty.int)) .o Ty.bool m_law) := by
  have S := sc_law
  refine fn_ok (F := b_law) [(Ty.hl (Ty.cons (Ty.own (Ty.list Ty.int)) (Ty.last Ty.int))), (Ty.tup (Ty.cons Ty.int (Ty.cons (Ty.list (Ty.tup (Ty.cons Ty.int (Ty.cons Ty.str (Ty.last Ty.int))))) (Ty.last (Ty.list Ty.int))))), (Ty.tup (Ty.cons Ty.int (Ty.cons (Ty.list (Ty.tup (Ty.cons Ty.int (Ty.cons Ty.str (Ty.last Ty.int))))) (Ty.last (Ty.list Ty.int))))), Ty.int, (Ty.list Ty.str), (Ty.list Ty.int), (Ty.hl (Ty.cons (Ty.own (Ty.list Ty.str)) (Ty.last (Ty.own (Ty.list Ty.int))))), Ty.bool, Ty.bool] M_law F S rfl rfl rfl m_law_eq (fun cdv A outer s H E hr => ?_)
  refine ⟨_, (pss_cons (ps_set (i := 1) S.nd rfl (Or.inl rfl) (pe_call G__law_numbers (hr.mono (by decide)) rfl D__law_numbers.gl D__law_numbers.fn.kp D__law_numbers.bi .nil pass0 (pa_cons (pv 0) pa_nil)))
  (pss_cons (ps_asg (pe_call G__law_machine (hr.mono (by decide)) rfl D__law_machine.gl D__law_machine.fn.kp D__law_machine.bi .nil pass0 (pa_cons (pv 1) pa_nil)) (pg_name (i := 2) S.nd rfl (Or.inl rfl)))
  (pss_cons (ps_set (i := 3) S.nd rfl (Or.inl rfl) (pe_tup (pa_cons (pe_ix (r := rIxT K) ix_tup (pv 2) pe_int (fun _ _ => rfl)) (pa_cons (pe_callTy (r := rListOf K) call_list_of (by rfl) T.b_list (by decide +kernel) (pa_cons (pe_ix (r := rIxT K) ix_tup (pv 2) pe_int (fun _ _ => rfl)) pa_nil)) (pa_cons (pe_callTy (r := rListOf K) call_list_of (by rfl) T.b_list (by decide +kernel) (pa_cons (pe_ix (r := rIxT K) ix_tup (pv 2) pe_int (fun _ _ => rfl)) pa_nil)) pa_nil)))))
  (pss_cons (ps_for PassesOwn.never rfl (pi_range1 rfl T.b_range (pa_cons pe_int pa_nil)) (pg_name (i := 4) S.nd rfl (Or.inl rfl)) (pss_cons (ps_asg (pe_call G__law_made (hr.mono (by decide)) rfl D__law_made.gl D__law_made.fn.kp D__law_made.bi .nil pass0 (pa_cons (pv 1) (pa_cons (pv 2) pa_nil))) (pg_unl rfl (pgs_cons (pg_name (i := 5) S.nd rfl (Or.inl rfl)) (pgs_cons (pg_name (i := 6) S.nd rfl (Or.inl rfl)) pgs_nil))))
  (pss_cons (ps_if (PW.pt (pw_and (pt_cmpR op_eq (pe_call G__law_take (hr.mono (by decide)) rfl D__law_take.gl D__law_take.fn.kp D__law_take.bi .nil pass0 (pa_cons (pv 1) (pa_cons pe_int pa_nil))) pe_int (nomark _)) (pw_and1 (pt_cmpR (r := rNeD K) (op_neD hr.units) (pv 5) (pe_lst pa_nil) (nomark _))))) (pss_one (ps_asg (pe_ix (r := rIxL K) ix_list (pe_lst (pa_cons pe_str (pa_cons pe_str (pa_cons pe_str (pa_cons pe_str pa_nil))))) (pe_call G__law_take (hr.mono (by decide)) rfl D__law_take.gl D__law_take.fn.kp D__law_take.bi .nil pass0 (pa_cons (pv 1) (pa_cons pe_int pa_nil))) (fun _ _ => rfl)) (pg_sub (pv 5) (pe_call G__law_take (hr.mono (by decide)) rfl D__law_take.gl D__law_take.fn.kp D__law_take.bi .nil pass0 (pa_cons (pv 1) (pa_cons (pe_callB (r := VV.rLen K) call_len (by rfl) T.b_len (by decide +kernel) (pa_cons (pv 5) pa_nil)) pa_nil))) set_list))) pss_nil)
  (pss_cons (ps_asg (pe_call G__law_spoilt (hr.mono (by decide)) rfl D__law_spoilt.gl D__law_spoilt.fn.kp D__law_spoilt.bi .nil pass0 (pa_cons (pv 1) (pa_cons (pv 2) (pa_cons (pv 6) pa_nil)))) (pg_name (i := 6) S.nd rfl (Or.inl rfl)))
  (pss_cons (ps_set (i := 7) S.nd rfl (Or.inl rfl) (pe_lst (pa_cons (pe_callTy (r := rListOf K) call_list_of (by rfl) T.b_list (by decide +kernel) (pa_cons (pv 5) pa_nil)) (pa_cons (pe_callTy (r := rListOf K) call_list_of (by rfl) T.b_list (by decide +kernel) (pa_cons (pv 6) pa_nil)) pa_nil))))
  (pss_cons (ps_set (i := 8) S.nd rfl (Or.inl rfl) (pe_call G_lets (hr.mono (by decide)) rfl D_lets.gl D_lets.fn.kp D_lets.bi .nil pass0 (pa_cons (pv 3) (pa_cons (pe_ix (r := rIxL K) ix_list (pv 7) pe_int (fun _ _ => rfl)) pa_nil))))
  (pss_cons (ps_set (i := 9) S.nd rfl (Or.inl rfl) (pe_call G_is_walk (hr.mono (by decide)) rfl D_is_walk.gl D_is_walk.fn.kp D_is_walk.bi .nil pass0 (pa_cons (pv 3) (pa_cons (pe_ix (r := rIxL K) ix_list (pv 7) pe_int (fun _ _ => rfl)) (pa_cons (pe_ix (r := rIxL K) ix_list (pv 7) pe_int (fun _ _ => rfl)) pa_nil)))))
  (pss_cons (ps_if (PW.pt (pw_or (pt_not (pt_val (pe_callB (r := rIsi K) call_isi (by rfl) T.b_isinstance (by decide +kernel) (pa_cons (pv 8) (pa_cons (pe_bltn (v := .ty "bool") (by rfl) T.b_bool (by decide +kernel) rfl) pa_nil))))) (pw_or1 (pt_cmpR op_ne (pv 8) (pe_call G__law_lets (hr.mono (by decide)) rfl D__law_lets.gl D__law_lets.fn.kp D__law_lets.bi .nil pass0 (pa_cons (pv 2) (pa_cons (pv 5) pa_nil))) (nomark _))))) (pss_one (ps_ret pe_bl)) pss_nil)
  (pss_cons (ps_if (PW.pt (pw_or (pt_not (pt_val (pe_callB (r := rIsi K) call_isi (by rfl) T.b_isinstance (by decide +kernel) (pa_cons (pv 9) (pa_cons (pe_bltn (v := .ty "bool") (by rfl) T.b_bool (by decide +kernel) rfl) pa_nil))))) (pw_or1 (pt_cmpR op_ne (pv 9) (pe_call G__law_walks (hr.mono (by decide)) rfl D__law_walks.gl D__law_walks.fn.kp D__law_walks.bi .nil pass0 (pa_cons (pv 2) (pa_cons (pv 5) (pa_cons (pv 6) pa_nil)))) (nomark _))))) (pss_one (ps_ret pe_bl)) pss_nil)
  (pss_one (ps_if (PW.pt (pw_or (pt_cmpR (r := rNeD K) (op_neD hr.units) (pv 7) (pe_lst (pa_cons (pv 5) (pa_cons (pv 6) pa_nil))) (nomark _)) (pw_or1 (pt_cmpR (r := rNeD K) (op_neD hr.units) (pv 3) (pv 2) (nomark _))))) (pss_one (ps_ret pe_bl)) pss_nil)))))))))))
  (pss_one (ps_ret (pe_cmpR (r := rIsB) op_isB (pe_call G_is_walk (hr.mono (by decide)) rfl D_is_walk.gl D_is_walk.fn.kp D_is_walk.bi .nil pass0 (pa_cons (pv 2) (pa_cons (pe_lst pa_nil) (pa_cons (pe_lst pa_nil) pa_nil)))) pe_bl (nomark _)))))))), ?_⟩
  exact (rs_seq (rs_set (ms := M_law) (m := .o) (v_law_deck) (rp_call (mA := .b) (rm := .o) (ρ := (Ty.hl (Ty.cons (Ty.own (Ty.list Ty.int)) (Ty.last Ty.int)))) (m := m__law_numbers) rfl (ra_one (rp_le (rp_varw (ms := M_law) (v_law_script))))))
  (rs_seq (rs_asgE (t := (Ty.tup (Ty.cons Ty.int (Ty.cons (Ty.list (Ty.tup (Ty.cons Ty.int (Ty.cons Ty.str (Ty.last Ty.int))))) (Ty.last (Ty.list Ty.int)))))) (re_l (re_callIO (ms := M_law) (rm := .o) (ρ := (Ty.tup (Ty.cons Ty.int (Ty.cons (Ty.list (Ty.tup (Ty.cons Ty.int (Ty.cons Ty.str (Ty.last Ty.int))))) (Ty.last (Ty.list Ty.int)))))) (m := m__law_machine) (i := (v_law_deck)) (r := (.one : RIx (Ty.last (Ty.hl (Ty.cons (Ty.own (Ty.list Ty.int)) (Ty.last Ty.int)))) (Ty.hl (Ty.cons (Ty.own (Ty.list Ty.int)) (Ty.last Ty.int))))) (raio_one (ms := M_law) (v_law_deck)))) (rg_name (ms := M_law) (v_law_machine)))
  (rs_seq (rs_set (ms := M_law) (m := .l) (v_law_handed) (rp_le (rp_tup (ra_cons (rp_frz .o (rp_proj (m := .b) (b := (Ty.cons Ty.int (Ty.cons (Ty.list (Ty.tup (Ty.cons Ty.int (Ty.cons Ty.str (Ty.last Ty.int))))) (Ty.last (Ty.list Ty.int))))) (t := Ty.int) .z 0 (rp_le (rp_varl (ms := M_law) (v_law_machine))))) (ra_cons (rp_listL (m := .b) (t := (Ty.tup (Ty.cons Ty.int (Ty.cons Ty.str (Ty.last Ty.int))))) (rp_le (rp_projw (m := .l) (b := (Ty.cons Ty.int (Ty.cons (Ty.list (Ty.tup (Ty.cons Ty.int (Ty.cons Ty.str (Ty.last Ty.int))))) (Ty.last (Ty.list Ty.int))))) (t := (Ty.list (Ty.tup (Ty.cons Ty.int (Ty.cons Ty.str (Ty.last Ty.int)))))) (.s .z) 1 (rp_varl (ms := M_law) (v_law_machine))))) (ra_one (rp_listL (m := .b) (t := Ty.int) (rp_le (rp_projw (m := .l) (b := (Ty.cons Ty.int (Ty.cons (Ty.list (Ty.tup (Ty.cons Ty.int (Ty.cons Ty.str (Ty.last Ty.int))))) (Ty.last (Ty.list Ty.int))))) (t := (Ty.list Ty.int)) (.s (.s .one)) 2 (rp_varl (ms := M_law) (v_law_machine)))))))))))
  (rs_seq (rs_hide (rs_for (w := false) (t := Ty.int) [false, true, true, true, false, false, false, false, false, false] (ri_rng1 (w := false) (m := .b) (ra_one rp_int)) (rg_name (ms := M_law) (v_law_k)) (rs_seq (rs_unhX (b := (Ty.cons (Ty.own (Ty.list Ty.str)) (Ty.last (Ty.own (Ty.list Ty.int))))) (rx_callIOz (ms := M_law) (ρ := (Ty.hl (Ty.cons (Ty.own (Ty.list Ty.str)) (Ty.last (Ty.own (Ty.list Ty.int)))))) (m := m__law_made) (v_law_deck) (rxw_onew (rp_le (rp_varl (ms := M_law) (v_law_machine))))) (rgks_cons (rgk_own (ms := M_law) (v_law_row)) (rgks_one (rgk_own (ms := M_law) (v_law_walk)))))
  (rs_seq (rs_ifX (rxt_and (rxt_test (rx_op v_eqI (rxh_of (rx_callIOz (ms := M_law) (ρ := Ty.int) (m := m__law_take) (v_law_deck) (rxw_one (rxh_of (rx_pure rp_int))))) (rxh_of (rx_pure rp_int)))) (rxt_pure (rt_test (rp_op (m := .b) (m1 := .b) (m2 := .b) (v_neD (t := (Ty.list Ty.str)) (by decide)) (rp_var (ms := M_law) (v_law_row)) (rp_le (rp_list (t := Ty.str) rl_nil)))))) (rs_lputX (ms := M_law) (t := Ty.str) (v_law_row) (rx_op (v2_frz .o (v_ixL (t := Ty.str))) (rxh_w (rp_le (rp_list (t := Ty.str) (rl_cons (rp_str) (rl_cons (rp_str) (rl_cons (rp_str) (rl_cons (rp_str) rl_nil))))))) (rxh_of (rx_callIOz (ms := M_law) (ρ := Ty.int) (m := m__law_take) (v_law_deck) (rxw_one (rxh_of (rx_pure rp_int)))))) (rx_callIOz (ms := M_law) (ρ := Ty.int) (m := m__law_take) (v_law_deck) (rxw_one (rxh_of (rx_pure (rp_lenL (m' := .b) (rp_var (ms := M_law) (v_law_row)))))))) rs_next)
  (rs_seq (rs_asgEw (t := (Ty.list Ty.int)) (re_callIO (ms := M_law) (rm := .w) (ρ := (Ty.list Ty.int)) (m := m__law_spoilt) (i := (v_law_deck)) (r := (.z : RIx (Ty.cons (Ty.hl (Ty.cons (Ty.own (Ty.list Ty.int)) (Ty.last Ty.int))) (Ty.cons (Ty.tup (Ty.cons Ty.int (Ty.cons (Ty.list (Ty.tup (Ty.cons Ty.int (Ty.cons Ty.str (Ty.last Ty.int))))) (Ty.last (Ty.list Ty.int))))) (Ty.last (Ty.list Ty.int)))) (Ty.hl (Ty.cons (Ty.own (Ty.list Ty.int)) (Ty.last Ty.int))))) (raio_here (ms := M_law) (v_law_deck) (ra_cons (rp_le (rp_varl (ms := M_law) (v_law_machine))) (ra_one (rp_varw (ms := M_law) (v_law_walk)))))) (rg_name (ms := M_law) (v_law_walk)))
  (rs_seq (rs_set (ms := M_law) (m := .l) (v_law_given) (rp_le (rp_hl (m := .o) (b := (Ty.cons (Ty.own (Ty.list Ty.str)) (Ty.last (Ty.own (Ty.list Ty.int))))) (ra_cons (rp_own (rp_listL (m := .b) (t := Ty.str) (rp_var (ms := M_law) (v_law_row)))) (ra_one (rp_own (rp_listL (m := .b) (t := Ty.int) (rp_le (rp_varw (ms := M_law) (v_law_walk))))))))))
  (rs_seq (rs_set (ms := M_law) (m := .w) (v_law_let) (rp_frz .w (rp_call (mA := .b) (rm := .o) (ρ := Ty.bool) (m := m_lets) rfl (ra_cons (rp_le (rp_varl (ms := M_law) (v_law_handed))) (ra_one (rp_projH (m := .b) (b := (Ty.cons (Ty.own (Ty.list Ty.str)) (Ty.last (Ty.own (Ty.list Ty.int))))) (t := (Ty.own (Ty.list Ty.str))) .z 0 (rp_le (rp_varl (ms := M_law) (v_law_given)))))))))
  (rs_seq (rs_set (ms := M_law) (m := .w) (v_law_walks) (rp_frz .w (rp_call (mA := .b) (rm := .o) (ρ := Ty.bool) (m := m_is_walk) rfl (ra_cons (rp_le (rp_varl (ms := M_law) (v_law_handed))) (ra_cons (rp_projH (m := .b) (b := (Ty.cons (Ty.own (Ty.list Ty.str)) (Ty.last (Ty.own (Ty.list Ty.int))))) (t := (Ty.own (Ty.list Ty.str))) .z 0 (rp_le (rp_varl (ms := M_law) (v_law_given)))) (ra_one (rp_projH (m := .b) (b := (Ty.cons (Ty.own (Ty.list Ty.str)) (Ty.last (Ty.own (Ty.list Ty.int))))) (t := (Ty.own (Ty.list Ty.int))) (.s .one) 1 (rp_le (rp_varl (ms := M_law) (v_law_given))))))))))
  (rs_seq (rs_if (rt_or (rt_not (rt_val (m := .b) (rp_isi (t := Ty.bool) (m' := .b) "bool" (fun _ => true) (rp_frz .b (rp_varw (ms := M_law) (v_law_let))) (fun d => by show kitB "bool" "bool" = _; decide +kernel)))) (rt_test (rp_op (m := .b) (m1 := .b) (m2 := .b) v_neB (rp_frz .b (rp_varw (ms := M_law) (v_law_let))) (rp_frz .b (rp_call (mA := .b) (rm := .o) (ρ := Ty.bool) (m := m__law_lets) rfl (ra_cons (rp_le (rp_varl (ms := M_law) (v_law_machine))) (ra_one (rp_var (ms := M_law) (v_law_row))))))))) (rs_ret (rm := .o) (ρ := Ty.bool) rp_bool) rs_next)
  (rs_seq (rs_if (rt_or (rt_not (rt_val (m := .b) (rp_isi (t := Ty.bool) (m' := .b) "bool" (fun _ => true) (rp_frz .b (rp_varw (ms := M_law) (v_law_walks))) (fun d => by show kitB "bool" "bool" = _; decide +kernel)))) (rt_test (rp_op (m := .b) (m1 := .b) (m2 := .b) v_neB (rp_frz .b (rp_varw (ms := M_law) (v_law_walks))) (rp_frz .b (rp_call (mA := .b) (rm := .o) (ρ := Ty.bool) (m := m__law_walks) rfl (ra_cons (rp_le (rp_varl (ms := M_law) (v_law_machine))) (ra_cons (rp_var (ms := M_law) (v_law_row)) (ra_one (rp_le (rp_varw (ms := M_law) (v_law_walk))))))))))) (rs_ret (rm := .o) (ρ := Ty.bool) rp_bool) rs_next)
  (rs_if (rt_or (rt_test (rp_op (m := .b) (m1 := .b) (m2 := .b) (v_neD (t := (Ty.hl (Ty.cons (Ty.own (Ty.list Ty.str)) (Ty.last (Ty.own (Ty.list Ty.int)))))) (by decide)) (rp_le (rp_varl (ms := M_law) (v_law_given))) (rp_hlb (b := (Ty.cons (Ty.own (Ty.list Ty.str)) (Ty.last (Ty.own (Ty.list Ty.int))))) (ra_cons (rp_own (rp_var (ms := M_law) (v_law_row))) (ra_one (rp_own (rp_le (rp_varw (ms := M_law) (v_law_walk))))))))) (rt_test (rp_op (m := .b) (m1 := .b) (m2 := .b) (v_neD (t := (Ty.tup (Ty.cons Ty.int (Ty.cons (Ty.list (Ty.tup (Ty.cons Ty.int (Ty.cons Ty.str (Ty.last Ty.int))))) (Ty.last (Ty.list Ty.int)))))) (by decide)) (rp_le (rp_varl (ms := M_law) (v_law_handed))) (rp_le (rp_varl (ms := M_law) (v_law_machine)))))) (rs_ret (rm := .o) (ρ := Ty.bool) rp_bool) rs_next)))))))))))
  (rs_ret (rm := .o) (ρ := Ty.bool) (rp_op (m1 := .b) (m2 := .b) v_isB (rp_frz .b (rp_call (mA := .b) (rm := .o) (ρ := Ty.bool) (m := m_is_walk) rfl (ra_cons (rp_le (rp_varl (ms := M_law) (v_law_machine))) (ra_cons (rp_le (rp_list (t := Ty.str) rl_nil)) (ra_one (rp_le (rp_list (t := Ty.int) rl_nil))))))) rp_bool))))))
end
/-! ### the end -/
theorem all_mk {l : PySem.W.OpenLaw} {w : World} {K : PySem.W.Frag} {h : Heap} {mg : Str → Option Value} {fa : Addr} (X : K.In h) (G : h.Ns mainGlobals mg) (hfa : mg "law" = some (.ref fa))
    {f0 : Addr} {od0 an0 : Option Addr} {sl0 : Array (Option Value)} {oc0 kV0 dc0 pm0 cd0 ct0 : Value}
    {f1 : Addr} {od1 an1 : Option Addr} {sl1 : Array (Option Value)} {oc1 kV1 dc1 pm1 cd1 ct1 : Value}
    {f2 : Addr} {od2 an2 : Option Addr} {sl2 : Array (Option Value)} {oc2 kV2 dc2 pm2 cd2 ct2 : Value}
    {f3 : Addr} {od3 an3 : Option Addr} {sl3 : Array (Option Value)} {oc3 kV3 dc3 pm3 cd3 ct3 : Value}
    {f4 : Addr} {od4 an4 : Option Addr} {sl4 : Array (Option Value)} {oc4 kV4 dc4 pm4 cd4 ct4 : Value}
    {f5 : Addr} {od5 an5 : Option Addr} {sl5 : Array (Option Value)} {oc5 kV5 dc5 pm5 cd5 ct5 : Value}
    {f6 : Addr} {od6 an6 : Option Addr} {sl6 : Array (Option Value)} {oc6 kV6 dc6 pm6 cd6 ct6 : Value}
    {f7 : Addr} {od7 an7 : Option Addr} {sl7 : Array (Option Value)} {oc7 kV7 dc7 pm7 cd7 ct7 : Value}
    {f8 : Addr} {od8 an8 : Option Addr} {sl8 : Array (Option Value)} {oc8 kV8 dc8 pm8 cd8 ct8 : Value}
    {f9 : Addr} {od9 an9 : Option Addr} {sl9 : Array (Option Value)} {oc9 kV9 dc9 pm9 cd9 ct9 : Value}
    (a0 : PySem.W.nsIn K mainGlobals "_law_numbers" = some (some (.ref f0))) (l0 : K.lookup f0 = some ⟨oc0, od0, .func (PySem.W.fnOf "_law_numbers" "_law_numbers" (defArgs s__law_numbers) (defBody s__law_numbers) (defScope s__law_numbers) .none kV0 dc0 pm0 an0 cd0 ct0), sl0⟩) (c0 : PySem.W.codeIn K cd0 "_law_numbers" = true) (k0 : PySem.W.keepIn K (.ref f0) = true)
    (a1 : PySem.W.nsIn K mainGlobals "_law_take" = some (some (.ref f1))) (l1 : K.lookup f1 = some ⟨oc1, od1, .func (PySem.W.fnOf "_law_take" "_law_take" (defArgs s__law_take) (defBody s__law_take) (defScope s__law_take) .none kV1 dc1 pm1 an1 cd1 ct1), sl1⟩) (c1 : PySem.W.codeIn K cd1 "_law_take" = true) (k1 : PySem.W.keepIn K (.ref f1) = true)
    (a2 : PySem.W.nsIn K mainGlobals "_law_machine" = some (some (.ref f2))) (l2 : K.lookup f2 = some ⟨oc2, od2, .func (PySem.W.fnOf "_law_machine" "_law_machine" (defArgs s__law_machine) (defBody s__law_machine) (defScope s__law_machine) .none kV2 dc2 pm2 an2 cd2 ct2), sl2⟩) (c2 : PySem.W.codeIn K cd2 "_law_machine" = true) (k2 : PySem.W.keepIn K (.ref f2) = true)
    (a3 : PySem.W.nsIn K mainGlobals "_law_made" = some (some (.ref f3))) (l3 : K.lookup f3 = some ⟨oc3, od3, .func (PySem.W.fnOf "_law_made" "_law_made" (defArgs s__law_made) (defBody s__law_made) (defScope s__law_made) .none kV3 dc3 pm3 an3 cd3 ct3), sl3⟩) (c3 : PySem.W.codeIn K cd3 "_law_made" = true) (k3 : PySem.W.keepIn K (.ref f3) = true)
    (a4 : PySem.W.nsIn K mainGlobals "_law_spoilt" = some (some (.ref f4))) (l4 : K.lookup f4 = some ⟨oc4, od4, .func (PySem.W.fnOf "_law_spoilt" "_law_spoilt" (defArgs s__law_spoilt) (defBody s__law_spoilt) (defScope s__law_spoilt) .none kV4 dc4 pm4 an4 cd4 ct4), sl4⟩) (c4 : PySem.W.codeIn K cd4 "_law_spoilt" = true) (k4 : PySem.W.keepIn K (.ref f4) = true)
    (a5 : PySem.W.nsIn K mainGlobals "lets" = some (some (.ref f5))) (l5 : K.lookup f5 = some ⟨oc5, od5, .func (PySem.W.fnOf "lets" "lets" (defArgs s_lets) (defBody s_lets) (defScope s_lets) .none kV5 dc5 pm5 an5 cd5 ct5), sl5⟩) (c5 : PySem.W.codeIn K cd5 "lets" = true) (k5 : PySem.W.keepIn K (.ref f5) = true)
    (a6 : PySem.W.nsIn K mainGlobals "is_walk" = some (some (.ref f6))) (l6 : K.lookup f6 = some ⟨oc6, od6, .func (PySem.W.fnOf "is_walk" "is_walk" (defArgs s_is_walk) (defBody s_is_walk) (defScope s_is_walk) .none kV6 dc6 pm6 an6 cd6 ct6), sl6⟩) (c6 : PySem.W.codeIn K cd6 "is_walk" = true) (k6 : PySem.W.keepIn K (.ref f6) = true)
    (a7 : PySem.W.nsIn K mainGlobals "_law_lets" = some (some (.ref f7))) (l7 : K.lookup f7 = some ⟨oc7, od7, .func (PySem.W.fnOf "_law_lets" "_law_lets" (defArgs s__law_lets) (defBody s__law_lets) (defScope s__law_lets) .none kV7 dc7 pm7 an7 cd7 ct7), sl7⟩) (c7 : PySem.W.codeIn K cd7 "_law_lets" = true) (k7 : PySem.W.keepIn K (.ref f7) = true)
    (a8 : PySem.W.nsIn K mainGlobals "_law_walks" = some (some (.ref f8))) (l8 : K.lookup f8 = some ⟨oc8, od8, .func (PySem.W.fnOf "_law_walks" "_law_walks" (defArgs s__law_walks) (defBody s__law_walks) (defScope s__law_walks) .none kV8 dc8 pm8 an8 cd8 ct8), sl8⟩) (c8 : PySem.W.codeIn K cd8 "_law_walks" = true) (k8 : PySem.W.keepIn K (.ref f8) = true)
    (a9 : PySem.W.nsIn K mainGlobals "law" = some (some (.ref f9))) (l9 : K.lookup f9 = some ⟨oc9, od9, .func (PySem.W.fnOf "law" "law" (defArgs s_law) (defBody s_law) (defScope s_law) .none kV9 dc9 pm9 an9 cd9 ct9), sl9⟩) (c9 : PySem.W.codeIn K cd9 "law" = true) (k9 : PySem.W.keepIn K (.ref f9) = true)
    (b_abs : PySem.W.nsIn K mainGlobals "abs" = some none)
    (b_all : PySem.W.nsIn K mainGlobals "all" = some none)
    (b_any : PySem.W.nsIn K mainGlobals "any" = some none)
    (b_bool : PySem.W.nsIn K mainGlobals "bool" = some none)
    (b_enumerate : PySem.W.nsIn K mainGlobals "enumerate" = some none)
    (b_isinstance : PySem.W.nsIn K mainGlobals "isinstance" = some none)
    (b_len : PySem.W.nsIn K mainGlobals "len" = some none)
    (b_list : PySem.W.nsIn K mainGlobals "list" = some none)
    (b_range : PySem.W.nsIn K mainGlobals "range" = some none)
    : ∃ fd : FuncData, (∀ (s : Shared) (v : Value), BindsTo s fd ⟨[v], []⟩ [("script", v)]) ∧ ∀ base : Heap, K.In base → base.Ns mainGlobals mg → FnOk l.prog w K mg base CX0 3 fa fd P_law (spP K (.last (.list .int)) .o .bool m_law) := by
  have e := hfa.symm.trans (PySem.W.mg_of X G a9)
  cases e
  have T : Txt K mg := ⟨PySem.W.mg_none_of X G b_abs, PySem.W.mg_none_of X G b_all, PySem.W.mg_none_of X G b_any, PySem.W.mg_none_of X G b_bool, PySem.W.mg_none_of X G b_enumerate, PySem.W.mg_none_of X G b_isinstance, PySem.W.mg_none_of X G b_len, PySem.W.mg_none_of X G b_list, PySem.W.mg_none_of X G b_range⟩
  have F0 := fun_mk (x := "_law_numbers") (qual := "_law_numbers") (st := s__law_numbers) l0 c0 k0
  have b0 := F0.binds (ps := P__law_numbers) fun _ _ _ _ _ _ us hl => match us, hl with | [_], _ => rfl
  have D0 : Df K mg "_law_numbers" "_law_numbers" s__law_numbers P__law_numbers f0 _ := ⟨F0, PySem.W.mg_of X G a0, b0⟩
  have F1 := fun_mk (x := "_law_take") (qual := "_law_take") (st := s__law_take) l1 c1 k1
  have b1 := F1.binds (ps := P__law_take) fun _ _ _ _ _ _ us hl => match us, hl with | [_, _], _ => rfl
  have D1 : Df K mg "_law_take" "_law_take" s__law_take P__law_take f1 _ := ⟨F1, PySem.W.mg_of X G a1, b1⟩
  have F2 := fun_mk (x := "_law_machine") (qual := "_law_machine") (st := s__law_machine) l2 c2 k2
  have b2 := F2.binds (ps := P__law_machine) fun _ _ _ _ _ _ us hl => match us, hl with | [_], _ => rfl
  have D2 : Df K mg "_law_machine" "_law_machine" s__law_machine P__law_machine f2 _ := ⟨F2, PySem.W.mg_of X G a2, b2⟩
  have F3 := fun_mk (x := "_law_made") (qual := "_law_made") (st := s__law_made) l3 c3 k3
  have b3 := F3.binds (ps := P__law_made) fun _ _ _ _ _ _ us hl => match us, hl with | [_, _], _ => rfl
  have D3 : Df K mg "_law_made" "_law_made" s__law_made P__law_made f3 _ := ⟨F3, PySem.W.mg_of X G a3, b3⟩
  have F4 := fun_mk (x := "_law_spoilt") (qual := "_law_spoilt") (st := s__law_spoilt) l4 c4 k4
  have b4 := F4.binds (ps := P__law_spoilt) fun _ _ _ _ _ _ us hl => match us, hl with | [_, _, _], _ => rfl
  have D4 : Df K mg "_law_spoilt" "_law_spoilt" s__law_spoilt P__law_spoilt f4 _ := ⟨F4, PySem.W.mg_of X G a4, b4⟩
  have F5 := fun_mk (x := "lets") (qual := "lets") (st := s_lets) l5 c5 k5
  have b5 := F5.binds (ps := P_lets) fun _ _ _ _ _ _ us hl => match us, hl with | [_, _], _ => rfl
  have D5 : Df K mg "lets" "lets" s_lets P_lets f5 _ := ⟨F5, PySem.W.mg_of X G a5, b5⟩
  have F6 := fun_mk (x := "is_walk") (qual := "is_walk") (st := s_is_walk) l6 c6 k6
  have b6 := F6.binds (ps := P_is_walk) fun _ _ _ _ _ _ us hl => match us, hl with | [_, _, _], _ => rfl
  have D6 : Df K mg "is_walk" "is_walk" s_is_walk P_is_walk f6 _ := ⟨F6, PySem.W.mg_of X G a6, b6⟩
  have F7 := fun_mk (x := "_law_lets") (qual := "_law_lets") (st := s__law_lets) l7 c7 k7
  have b7 := F7.binds (ps := P__law_lets) fun _ _ _ _ _ _ us hl => match us, hl with | [_, _], _ => rfl
  have D7 : Df K mg "_law_lets" "_law_lets" s__law_lets P__law_lets f7 _ := ⟨F7, PySem.W.mg_of X G a7, b7⟩
  have F8 := fun_mk (x := "_law_walks") (qual := "_law_walks") (st := s__law_walks) l8 c8 k8
  have b8 := F8.binds (ps := P__law_walks) fun _ _ _ _ _ _ us hl => match us, hl with | [_, _, _], _ => rfl
  have D8 : Df K mg "_law_walks" "_law_walks" s__law_walks P__law_walks f8 _ := ⟨F8, PySem.W.mg_of X G a8, b8⟩
  have F9 := fun_mk (x := "law") (qual := "law") (st := s_law) l9 c9 k9
  have b9 := F9.binds (ps := P_law) fun _ _ _ _ _ _ us hl => match us, hl with | [_], _ => rfl
  refine ⟨PySem.W.fnOf "law" "law" (defArgs s_law) (defBody s_law) (defScope s_law) .none kV9 dc9 pm9 an9 cd9 ct9, fun s v => .of_eq rfl, fun base _ _ => ?_⟩
  have G0 := ok__law_numbers (P := l.prog) (w := w) (base := base) F0 T 
  have G1 := ok__law_take (P := l.prog) (w := w) (base := base) F1 T 
  have G2 := ok__law_machine (P := l.prog) (w := w) (base := base) F2 T D1 G1
  have G3 := ok__law_made (P := l.prog) (w := w) (base := base) F3 T D1 G1
  have G4 := ok__law_spoilt (P := l.prog) (w := w) (base := base) F4 T D1 G1
  have G5 := ok_lets (P := l.prog) (w := w) (base := base) F5 T 
  have G6 := ok_is_walk (P := l.prog) (w := w) (base := base) F6 T 
  have G7 := ok__law_lets (P := l.prog) (w := w) (base := base) F7 T 
  have G8 := ok__law_walks (P := l.prog) (w := w) (base := base) F8 T 
  exact ok_law F9 T D0 G0 D2 G2 D3 G3 D1 G1 D4 G4 D5 G5 D6 G6 D7 G7 D8 G8
theorem walk {l : PySem.W.OpenLaw} {q : Program} {loose : List Str} {XP : (Str → Option Value) → Heap → Prop} {YP : World → Heap → Prop} {d : DefRec} {K : Params → PySem.W.Frag} (hlaw : ∀ ns : List Int, ns.length ≤ 63 → m_law ns = some true) (hn : l.most = some 63) (hdf : d.params.defaults = [])
    (hY : ∀ (w : World) (h : Heap), YP w h → (K w.params).In h)
    (F : ∀ (w : World) (mg : Str → Option Value) (fa : Addr) (h : Heap), (K w.params).In h → h.Ns mainGlobals mg → mg d.name = some (.ref fa) →
      ∃ fd : FuncData, (∀ (s : Shared) (u : Value), BindsTo s fd ⟨[u], []⟩ [("script", u)]) ∧ ∀ base : Heap, (K w.params).In base → base.Ns mainGlobals mg → FnOk l.prog w (K w.params) mg base CX0 3 fa fd ["script"] (spP (K w.params) (.last (.list .int)) .o .bool m_law)) :
    PySem.W.WalkO q loose XP YP l.row.toRowW d [] (fun f vs => PySem.call f vs) :=
  L2.walk_of (n := 63) (k := 3) (x := "script") (CX := fun _ => CX0) (sp := fun w => spP (K w.params) (.last (.list .int)) .o .bool m_law) hn (by decide) hdf ⟨rfl, by decide, by decide⟩ hY F (fun _ _ a ns hl _ hS => law_sp hlaw hl hS) fun _ _ _ _ _ z => z
end Law

namespace Law
open PySem L2 VV
local macro_rules | `(tactic| walk_at "run") => `(tactic| simp (config := {implicitDefEqProofs := false}) only [Gam.mask, reduceIte, runG, iniG, noneG, sNext, sSeq, sSet, sLst, sLput, sExt, sAsgE, ePop, sPut, sPutN, sDApp, sIf, sRet, sRetM, sMove, sApp, sAsg, sUnl, bCons, eNot, bindAll, bName, bCons, e1, e2, e3, eV, fAll, fAny, fSum, eYes, eChain, fShr, fAnd, eC, eNil, eCons, eSnoc, eAnd, eOr, eNot, eIf, eProj, RIx.get, Mem.get, Mem.set, Option.bind_some, Option.bind_none, okIf, fAdd, fSub, fMul, fDiv, fMod, fPow, fLt, fLe, fGt, fGe, fEqI, fNeI, fEqS, fNeS, fEqB, fNeB, fLen, fSmall, fCutL, endOf, if_true, if_false, Bool.false_eq_true, true_and, and_true, Option.isSome_none, Option.isSome_some, decide_true, decide_false, List.length_nil, List.length_cons, Nat.zero_le, Bool.not_true, Bool.not_false])
local macro_rules | `(tactic| walk_at "go") => `(tactic| simp (config := {implicitDefEqProofs := false}) only [Gam.mask, reduceIte, runG, iniG, noneG, sNext, sSeq, sSet, sLst, sLput, sExt, sAsgE, ePop, sPut, sPutN, sDApp, sIf, sRet, sRetM, sMove, sApp, sAsg, sUnl, bCons, eNot, bindAll, bName, bCons, e1, e2, e3, eV, fAll, fAny, fSum, eYes, eChain, fShr, fAnd, eC, eNil, eCons, eSnoc, eAnd, eOr, eNot, eIf, eProj, RIx.get, Mem.get, Mem.set, Option.bind_some, Option.bind_none, okIf, fAdd, fSub, fMul, fDiv, fMod, fPow, fLt, fLe, fGt, fGe, fEqI, fNeI, fEqS, fNeS, fEqB, fNeB, fLen, fSmall, fCutL, endOf, if_true, if_false, Bool.false_eq_true, true_and, and_true, Option.isSome_none, Option.isSome_some, decide_true, decide_false, List.length_nil, List.length_cons, Nat.zero_le, Bool.not_true, Bool.not_false, List.length_nil, Nat.zero_add, Nat.reduceAdd, Nat.reduceLeDiff, Int.reduceLT, Int.reduceLE, Int.reduceEq, Nat.reduceEqDiff, Int.reduceNeg, *])
local macro_rules | `(tactic| walk_at "w") => `(tactic| simp (config := {implicitDefEqProofs := false, dsimp := false}) only [↓Ok_eC, ↓Ok_eNil, ↓Ok_eYes, ↓Ok_eV, ↓Ok_e1, ↓Ok_e2, ↓Ok_e3, ↓Ok_eNot, ↓Ok_eAnd, ↓Ok_eOr, ↓Ok_eIf, ↓Ok_eCons, ↓Ok_eSnoc, ↓Ok_eProj, ↓Ok_eChain, ↓Ok_eChain3, ↓Ok_ePure, ↓Ok_eConsE, ↓Ok_eX1, ↓Ok_eX2, ↓Ok_eX3, ↓Ok_eXProj, ↓Ok_eXAnd, ↓Ok_eXOr, ↓Ok_eXNot, ↓Ok_eXSnoc, ↓Ok_eSomeE, ↓Ok_eMove, ↓Ok_ePop, ↓Ok_ePopH, ↓Ok_eIO, ↓Ok_eIO1, ↓Ok_eIOz, ↓Ok_sNext, ↓Ok_sBreak, ↓Ok_sCont, ↓Ok_sNever, ↓Ok_sIf, ↓Ok_sIfE, ↓Ok_sRet, ↓Ok_sRetE, ↓Ok_sAsg, ↓Ok_sAsgE, ↓Ok_sDrop, ↓Ok_sUnl, ↓Ok_sRetM, ↓Ok_sSet, ↓Ok_sSetX, ↓Ok_sMove, ↓Ok_sLst, ↓Ok_sApp, ↓Ok_sAppE, ↓Ok_sExt, ↓Ok_sLput, ↓Ok_sLputX, ↓Ok_sHput, ↓Ok_sPut, ↓Ok_sPutN, ↓Ok_sDApp, ↓Ok_gSetd, ↓Ok_gGet, ↓Ok_sSeq, ↓Ok_endOf, ↓Ok_endIO, ↓Ok_sPub, ↓Ok_sAls, Ok_some, Ok_none, Ok_bind, Ok_okIf, Ok_guard, Ok_ite, Ok_map, Wif_true, Wif_false, Turn_nx, Turn_ct, Turn_bk, Turn_rt, SeqQ_nx, SeqQ_bk, SeqQ_ct, SeqQ_rt, EndQ_rt, EndQ_nx, EndIO_rt, EndIO_nx, PubQ_nx, PubQ_bk, PubQ_ct, PubQ_rt, AlQ_nx, AlQ_bk, AlQ_ct, AlQ_rt, alEnd, RIx.put, RIx.get, Gam.mask, reduceIte, bCons, bName, bindAll, Mem.get, Mem.set, fAdd, fSub, fMul, fDiv, fMod, fPow, fShr, fAnd, fLt, fLe, fGt, fGe, fEqI, fNeI, fEqS, fNeS, fEqB, fNeB, fLen, fSmall, fCutL, fCatL, fAll, fAny, fSum, fOne, if_true, if_false, Bool.false_eq_true, true_and, and_true, eq_self, Option.isSome_none, Option.isSome_some, Option.isNone_none, Option.isNone_some, decide_true, decide_false, List.length_nil, List.length_cons, Nat.zero_le, Bool.not_true, Bool.not_false, Bool.true_and, Bool.false_and, Bool.and_true, Bool.and_false, Bool.true_or, Bool.false_or, Nat.zero_add, Nat.reduceAdd, Nat.reduceLeDiff])
local macro_rules | `(tactic| walk_at "ws") => `(tactic| simp (config := {implicitDefEqProofs := false, dsimp := false}) only [↓Ok_eC, ↓Ok_eNil, ↓Ok_eYes, ↓Ok_eV, ↓Ok_e1, ↓Ok_e2, ↓Ok_e3, ↓Ok_eNot, ↓Ok_eAnd, ↓Ok_eOr, ↓Ok_eIf, ↓Ok_eCons, ↓Ok_eSnoc, ↓Ok_eProj, ↓Ok_eChain, ↓Ok_eChain3, ↓Ok_ePure, ↓Ok_eConsE, ↓Ok_eX1, ↓Ok_eX2, ↓Ok_eX3, ↓Ok_eXProj, ↓Ok_eXAnd, ↓Ok_eXOr, ↓Ok_eXNot, ↓Ok_eXSnoc, ↓Ok_eSomeE, ↓Ok_eMove, ↓Ok_ePop, ↓Ok_ePopH, ↓Ok_eIO, ↓Ok_eIO1, ↓Ok_eIOz, ↓Ok_sNext, ↓Ok_sBreak, ↓Ok_sCont, ↓Ok_sNever, ↓Ok_sIf, ↓Ok_sIfE, ↓Ok_sRet, ↓Ok_sRetE, ↓Ok_sAsg, ↓Ok_sAsgE, ↓Ok_sDrop, ↓Ok_sUnl, ↓Ok_sRetM, ↓Ok_sSet, ↓Ok_sSetX, ↓Ok_sMove, ↓Ok_sLst, ↓Ok_sApp, ↓Ok_sAppE, ↓Ok_sExt, ↓Ok_sLput, ↓Ok_sLputX, ↓Ok_sHput, ↓Ok_sPut, ↓Ok_sPutN, ↓Ok_sDApp, ↓Ok_gSetd, ↓Ok_gGet, ↓Ok_sSeq, ↓Ok_endOf, ↓Ok_endIO, ↓Ok_sPub, ↓Ok_sAls, Ok_some, Ok_none, Ok_bind, Ok_okIf, Ok_guard, Ok_ite, Ok_map, Wif_true, Wif_false, Turn_nx, Turn_ct, Turn_bk, Turn_rt, SeqQ_nx, SeqQ_bk, SeqQ_ct, SeqQ_rt, EndQ_rt, EndQ_nx, EndIO_rt, EndIO_nx, PubQ_nx, PubQ_bk, PubQ_ct, PubQ_rt, AlQ_nx, AlQ_bk, AlQ_ct, AlQ_rt, alEnd, RIx.put, RIx.get, Gam.mask, reduceIte, bCons, bName, bindAll, Mem.get, Mem.set, fAdd, fSub, fMul, fDiv, fMod, fPow, fShr, fAnd, fLt, fLe, fGt, fGe, fEqI, fNeI, fEqS, fNeS, fEqB, fNeB, fLen, fSmall, fCutL, fCatL, fAll, fAny, fSum, fOne, if_true, if_false, Bool.false_eq_true, true_and, and_true, eq_self, Option.isSome_none, Option.isSome_some, Option.isNone_none, Option.isNone_some, decide_true, decide_false, List.length_nil, List.length_cons, Nat.zero_le, Bool.not_true, Bool.not_false, Bool.true_and, Bool.false_and, Bool.and_true, Bool.and_false, Bool.true_or, Bool.false_or, Nat.zero_add, Nat.reduceAdd, Nat.reduceLeDiff, *])
/-! ### a deck of numbers -/
theorem take_ok (deck : List Int × Int) (many : Int) (h : 0 < many) (hd : divOk many = true) : Ok (m__law_take (deck, many)) fun r => 0 ≤ r.1 ∧ r.1 < many := by
  have fin : ∀ (d : Int), 0 ≤ d % many ∧ d % many < many := fun d => ⟨Int.emod_nonneg _ (by omega), Int.emod_lt_of_pos _ h⟩
  obtain ⟨xs, k⟩ := deck
  rw [m__law_take_at]
  unfold b__law_take
  rw [Ok_endIO, Ok_sSeq]
  refine Ok.mono (P := fun f => ∃ d : List Int × Int, f = .nx (some d, some many, none, ())) ?_ ?_
  · walk_at "w"
    refine Wif_dec (fun hk => ?_) fun hk => ?_
    · by_cases hx : xs = []
      · subst hx
        walk_at "w"
        rw [fNeD_same (t := .list .int) rfl]
        walk_at "w"
        exact ⟨_, rfl⟩
      · walk_at "w"
        rw [fNeD_ne (t := .list .int) rfl hx]
        walk_at "w"
        rw [List.getLast?_eq_some_getLast hx]
        walk_at "w"
        exact ⟨_, rfl⟩
    · walk_at "w"
      exact ⟨_, rfl⟩
  · rintro _ ⟨d, rfl⟩
    walk_at "w"
    exact ⟨decide_eq_true h, hd, fin d.2⟩
theorem take_n (deck : List Int × Int) (n : Nat) (h : 0 < n) (h' : n ≤ 10 ^ 60) : Ok (m__law_take (deck, (n : Int))) fun r => 0 ≤ r.1 ∧ r.1 < n :=
  take_ok deck n (by omega) (divOk_nat h (Nat.lt_of_le_of_lt h' (by decide)))
theorem deck_ok (xs : List Int) : Ok (m__law_numbers xs) fun _ => True := by
  rw [m__law_numbers_at]
  unfold b__law_numbers
  walk_at "w"
  rw [lp__law_numbers_1_eq]
  obtain ⟨n, hn⟩ : ∃ n, n = (cutD xs none (some 63)).length := ⟨_, rfl⟩
  have hn63 : n ≤ 63 := by
    rw [hn]
    unfold cutD
    rw [List.length_take]
    have : HT.sIx xs.length xs.length (some 63) ≤ 63 := by
      unfold HT.sIx
      simp
      omega
    omega
  refine Ok_sFor (enumD (cutD xs none (some 63))) (fun ns => st__law_numbers_1 ns) (fun p ns => ns.length = p.length) [] (by walk_at "w") rfl rfl (fun p x q ns hx hI => ?_) fun ns _ => ?_
  · obtain ⟨k, cell⟩ := x
    obtain ⟨rfl, hc⟩ := enum_split hx
    have hl := congrArg List.length hx
    rw [enum_len] at hl
    simp only [List.length_append, List.length_cons] at hl
    unfold lb__law_numbers_1
    walk_at "w"
    have hns : ns.length < sizeLine := lt_line2 (by omega)
    have end1 : ∀ z : Int, List.length (ns ++ [z]) = List.length (p ++ [((p.length : Int), cell)]) := fun z => by
      rw [List.length_append, List.length_append, hI]
      rfl
    refine ⟨by decide +kernel, ?_⟩
    obtain ⟨m, hm⟩ : ∃ m : Int, m = if cell < 0 then -cell else cell := ⟨_, rfl⟩
    rw [← hm]
    refine Wif_dec (fun hk => ?_) fun hk => ?_
    · have hm0 : m.natAbs < 2 ^ 60 := by
        have e18 : (10 : Int) ^ Int.toNat 18 = 1000000000000000000 := by decide +kernel
        rw [e18] at hk
        have habs : ∀ c : Int, 0 ≤ (if c < 0 then -c else c) := fun c => by split <;> omega
        have : 0 ≤ m := by rw [hm]; exact habs cell
        omega
      rw [lp__law_numbers_2_eq]
      refine Ok_sFor (rng 0 6) (fun m => st__law_numbers_2 ns (p.length : Int) m) (fun t m => m.natAbs < 2 ^ (60 + 62 * t.length)) m (by walk_at "w"; exact .is (fRng1_of (n := 6) (by decide))) rfl hm0 (fun t y u m he hI2 => ?_) fun m2 _ => ?_
      · obtain ⟨ht, rfl⟩ := rng_split (n := 6) he
        unfold lb__law_numbers_2
        walk_at "w"
        have M0 : divOk 2305843009213693951 = true := by decide +kernel
        have fM : ∀ i : Int, (i % 2305843009213693951).natAbs < 2 ^ 61 := fun i => abs_mod (by decide) (by decide)
        refine ⟨mulOk_of 13 10 (by decide) (by omega) (by decide), mulOk_of 4 4 (by decide) (by omega) (by decide), by decide, mulOk_of 61 61 (fM _) (fM _) (by decide), by decide, mulOk_of (60 + 62 * t.length) 61 hI2 (by decide) (by omega), mulOk_of 61 32 (fM _) (by decide) (by decide), by decide, ?_⟩
        refine ⟨_, rfl, ?_⟩
        rw [List.length_append]
        have h1 : (m * 2305843009213693951).natAbs < 2 ^ ((60 + 62 * t.length) + 61) := abs_mul hI2 (by decide)
        refine abs_le (abs_add h1 (abs_le (fM _) (by omega))) ?_
        simp only [List.length_singleton]
        omega
      · walk_at "w"
        exact ⟨hns, ⟨_, rfl, end1 _⟩⟩
    · walk_at "w"
      exact ⟨hns, ⟨_, rfl, end1 _⟩⟩
  · walk_at "w"
/-! ### drawn machines -/
abbrev Arr := Int × Str × Int
abbrev Mach := Int × List Arr × List Int
structure MachOk (m : Mach) : Prop where
  many : 1 ≤ m.1 ∧ m.1 ≤ 12
  arrows : m.2.1.length ≤ 31
  ends : m.2.2.length ≤ 6
theorem take_q {Q : Int × (List Int × Int) → Prop} (deck : List Int × Int) (n : Int) (h : 0 < n) (h' : n ≤ 10 ^ 60) (hq : ∀ (a : Int) (d : List Int × Int), 0 ≤ a → a < n → Q (a, d)) : Ok (m__law_take (deck, n)) Q := by
  obtain ⟨k, rfl⟩ := Int.eq_ofNat_of_zero_le (Int.le_of_lt h)
  exact (take_n deck k (by omega) (by
    have : ((10 ^ 60 : Nat) : Int) = 10 ^ 60 := by decide +kernel
    omega)).mono fun r hr => hq r.1 r.2 hr.1 hr.2
theorem of_two {α : Type} {x y : α} {P : α → Prop} {a : Int} (h1 : 0 ≤ a) (h2 : a < 2) (hx : P x) (hy : P y) : ∃ z, atI [x, y] a = some z ∧ P z := by
  rcases (show a = 0 ∨ a = 1 by omega) with rfl | rfl
  · exact ⟨x, rfl, hx⟩
  · exact ⟨y, rfl, hy⟩
theorem of_list {α : Type} {xs : List α} {P : α → Prop} {a : Int} (h1 : 0 ≤ a) (h2 : a < xs.length) (h : ∀ x ∈ xs, P x) : ∃ z, atI xs a = some z ∧ P z := by
  obtain ⟨z, e, hz⟩ := atI_some h1 h2
  exact ⟨z, e, h z hz⟩
theorem cat_len {α : Type} (xs : List α) (n : Option Int) : (xs ++ cutD xs none n).length ≤ 2 * xs.length := by
  rw [List.length_append]
  have := cut_len xs none n
  omega
theorem cut_small {α : Type} (xs : List α) {n : Int} (h : n < 2) (h0 : 0 ≤ n) : (cutD xs none (some n)).length ≤ 1 := by
  unfold cutD
  rw [List.length_take]
  have : HT.sIx xs.length xs.length (some n) ≤ 1 := by
    unfold HT.sIx
    simp only []
    split <;> omega
  omega
theorem machine_ok (deck : List Int × Int) : Ok (m__law_machine deck) fun r => MachOk r.1 := by
  rw [m__law_machine_at]
  unfold b__law_machine
  walk_at "w"
  refine take_q _ 2 (by decide) (by decide) fun a d1 ha1 ha2 => ?_
  obtain ⟨top, ht, ht2⟩ := of_two (x := (4 : Int)) (y := 12) (P := fun t => 1 ≤ t ∧ t ≤ 12) ha1 ha2 (by omega) (by omega)
  rw [ht]
  walk_at "w"
  refine take_q _ top (by omega) (by omega) fun b d2 hb1 hb2 => ?_
  walk_at "w"
  obtain ⟨many, hm⟩ : ∃ m : Int, m = 1 + b := ⟨_, rfl⟩
  rw [← hm]
  rw [lp__law_machine_1_eq]
  refine Ok_sForX2 30 (fun s : (List Int × Int) × List Arr => st__law_machine_1 s.1 many s.2) (fun k s => s.2.length = k) (by decide) ?_ (fun k s hk hI => ?_) fun k s hk hI => ?_
  · walk_at "w"
    refine take_q _ 31 (by decide) (by decide) fun c d3 hc1 hc2 => ?_
    exact ⟨hc1, by show c ≤ 30; omega, ⟨(d3, []), rfl, rfl⟩⟩
  · obtain ⟨d, arrows⟩ := s
    have hI : arrows.length = k := hI
    unfold lb__law_machine_1
    walk_at "w"
    refine take_q _ 3 (by decide) (by decide) fun c d3 hc1 hc2 => ?_
    obtain ⟨w, hw, _⟩ := of_list (xs := [Str.ofString "a", Str.ofString "b", Str.ofString "end"]) (P := fun _ => True) hc1 hc2 fun _ _ => trivial
    rw [hw]
    walk_at "w"
    refine take_q _ many (by omega) (by omega) fun e1 d4 _ _ => ?_
    walk_at "w"
    refine take_q _ many (by omega) (by omega) fun e2 d5 _ _ => ?_
    walk_at "w"
    refine ⟨lt_line2 (by show arrows.length ≤ _; omega), ⟨(d5, _), rfl, ?_⟩⟩
    show List.length (arrows ++ _) = k + 1
    simp [hI]
  · obtain ⟨d, arrows⟩ := s
    have hI : arrows.length = k := hI
    walk_at "w"
    refine Ok_eLcX 4 (fun s : List Int × Int => ((some s, some many, some arrows, none, none, none, ()) : Gam g__law_machine)) (fun _ => True) (fun _ => True) (by decide) ?_ (fun j s _ _ _ => ?_) fun ends s _ he _ => ?_
    · walk_at "w"
      refine take_q _ 5 (by decide) (by decide) fun c d3 hc1 hc2 => ?_
      exact ⟨hc1, by show c ≤ 4; omega, ⟨d3, rfl, trivial⟩⟩
    · walk_at "w"
      refine take_q _ many (by omega) (by omega) fun e1 d4 _ _ => ?_
      exact ⟨trivial, ⟨d4, rfl, trivial⟩⟩
    · walk_at "w"
      refine take_q _ 2 (by decide) (by decide) fun c d3 hc1 hc2 => ?_
      walk_at "w"
      have h1 := cut_small arrows hc2 hc1
      refine ⟨lenOk_le (by omega), take_q _ 2 (by decide) (by decide) fun c2 d4 hc3 hc4 => ?_⟩
      have h2 := cut_small ends hc4 hc3
      walk_at "w"
      refine ⟨lenOk_le (by omega), ⟨show 1 ≤ many ∧ many ≤ 12 by omega, ?_, ?_⟩⟩
      · show (arrows ++ _).length ≤ 31
        rw [List.length_append]
        omega
      · show (ends ++ _).length ≤ 6
        rw [List.length_append]
        omega
/-! ### rows let by -/
/-- the rooms behind some words -/
def stepR (arrows : List Arr) (rooms : List Int) (w : Str) : List Int := (arrows.filter fun a => decide (a.1 ∈ rooms) && decide (a.2.1 = w)).map (·.2.2)
def roomsR (arrows : List Arr) (row : List Str) : List Int := row.foldl (stepR arrows) [0]
open Classical in
noncomputable def letB (m : Mach) (row : List Str) : Bool := decide (∃ r ∈ roomsR m.2.1 row, r ∈ m.2.2)
theorem rooms_snoc (arrows : List Arr) (p : List Str) (w : Str) : roomsR arrows (p ++ [w]) = stepR arrows (roomsR arrows p) w := by
  unfold roomsR
  rw [List.foldl_append]
  rfl
theorem step_len (arrows : List Arr) (rooms : List Int) (w : Str) : (stepR arrows rooms w).length ≤ arrows.length := by
  unfold stepR
  rw [List.length_map]
  exact List.length_filter_le _ _
theorem rooms_len (arrows : List Arr) (row : List Str) : (roomsR arrows row).length ≤ arrows.length + 1 := by
  rcases List.eq_nil_or_concat row with rfl | ⟨p, w, rfl⟩
  · simp [roomsR]
  · rw [List.concat_eq_append, rooms_snoc]
    have := step_len arrows (roomsR arrows p) w
    omega
theorem lawlets_ok (m : Mach) (row : List Str) (hm : m.2.1.length ≤ 1000000) : Ok (m__law_lets (m, row)) (· = letB m row) := by
  have hIn : ∀ (a : Int) (l : List Int), fInD .int a l = some (decide (a ∈ l)) := fun a l => by rw [fInD_eq (t := .int) rfl]; congr
  rw [m__law_lets_at]
  unfold b__law_lets
  walk_at "w"
  rw [lp__law_lets_1_eq]
  refine Ok_sFor row (fun rooms => st__law_lets_1 m rooms) (fun p rooms => rooms = roomsR m.2.1 p) [0] ?_ rfl rfl (fun p w q rooms he hI => ?_) fun rooms hI => ?_
  · walk_at "w"
  · unfold lb__law_lets_1
    walk_at "w"
    rw [lc__law_lets_1_eq]
    refine Ok_eLc (xs := m.2.1) (fun a => decide (a.1 ∈ rooms) && decide (a.2.1 = w)) (·.2.2) (by walk_at "w") (by omega) (fun a ha => ?_) (fun a ha _ => ?_) ?_
    · walk_at "w"
      rw [hIn]
      walk_at "w"
      by_cases h : a.1 ∈ rooms
      · rw [decide_eq_true h]; walk_at "w"; rfl
      · rw [decide_eq_false h]; walk_at "w"
    · walk_at "w"
    · walk_at "w"
      refine ⟨_, rfl, ?_⟩
      rw [rooms_snoc, ← hI]
      rfl
  · walk_at "w"
    rw [lc__law_lets_2_eq]
    have hl := rooms_len m.2.1 row
    refine Ok_eLc (xs := rooms) (fun r => decide (r ∈ m.2.2)) id (by walk_at "w") (by rw [hI]; omega) (fun a ha => ?_) (fun a ha _ => by walk_at "w"; rfl) ?_
    · walk_at "w"
      rw [hIn]
      walk_at "w"
    · walk_at "w"
      rw [List.map_id]
      unfold letB
      rw [← hI]
      by_cases h : ∃ r ∈ rooms, r ∈ m.2.2
      · rw [decide_eq_true h]
        obtain ⟨r, h1, h2⟩ := h
        rw [fNeD_ne (t := .list .int) rfl]
        · walk_at "w"
        · intro z
          have : r ∈ rooms.filter fun r => decide (r ∈ m.2.2) := List.mem_filter.mpr ⟨h1, decide_eq_true h2⟩
          rw [z] at this
          cases this
      · rw [decide_eq_false h]
        have e : rooms.filter (fun r => decide (r ∈ m.2.2)) = [] := by
          rw [List.filter_eq_nil_iff]
          exact fun r hr hd => h ⟨r, hr, of_decide_eq_true hd⟩
        rw [e, fNeD_same (t := .list .int) rfl]
        walk_at "w"
theorem lets_ok (m : Mach) (row : List Str) (hm : m.2.1.length ≤ 1000000) (he : m.2.2.length ≤ 1000000) : Ok (m_lets (m, row)) (· = letB m row) := by
  obtain ⟨many, arrows, ends⟩ := m
  have hm : arrows.length ≤ 1000000 := hm
  have he : ends.length ≤ 1000000 := he
  rw [m_lets_at]
  unfold b_lets
  walk_at "w"
  rw [lp_lets_1_eq]
  refine Ok_sFor row (fun here => st_lets_1 arrows ends here) (fun p here => (∀ r, r ∈ here.map (·.1) ↔ r ∈ roomsR arrows p) ∧ here.length ≤ arrows.length + 1) [(0, true)] (by walk_at "w") rfl ⟨fun r => Iff.rfl, by simp⟩ (fun p w q here hx hI => ?_) fun here hI => ?_
  · unfold lb_lets_1
    walk_at "w"
    rw [lp_lets_2_eq]
    refine Ok_sFor arrows (fun there => st_lets_2 arrows ends here w there) (fun p2 there => (∀ r, r ∈ there.map (·.1) ↔ r ∈ stepR p2 (roomsR arrows p) w) ∧ there.length ≤ p2.length) [] (by walk_at "w") rfl ⟨fun r => Iff.rfl, by simp⟩ (fun p2 a q2 there hx2 hI2 => ?_) fun there hI2 => ?_
    · obtain ⟨room, told, goal⟩ := a
      have hl2 := congrArg List.length hx2
      simp only [List.length_append, List.length_cons] at hl2
      unfold lb_lets_2
      walk_at "w"
      rw [getK_look (k := .int) rfl]
      have hs : ∀ r, r ∈ stepR (p2 ++ [(room, told, goal)]) (roomsR arrows p) w ↔ r ∈ stepR p2 (roomsR arrows p) w ∨ ((room ∈ roomsR arrows p ∧ told = w) ∧ r = goal) := fun r => by
        unfold stepR
        rw [List.filter_append, List.map_append, List.mem_append]
        by_cases hc : room ∈ roomsR arrows p ∧ told = w
        · rw [List.filter_cons_of_pos (by simp [hc])]
          simp [hc]
        · rw [List.filter_cons_of_neg (by simpa using hc)]
          simp [hc]
      rw [look_isSome]
      refine Wif_dec (fun h1 => ?_) fun h1 => ?_
      · walk_at "w"
        refine Wif_dec (fun h2 => ?_) fun h2 => ?_
        · walk_at "w"
          refine ⟨lt_line2 (by show there.length ≤ _; omega), ⟨_, rfl, fun r => ?_, ?_⟩⟩
          · rw [fPut_ok (k := .int) rfl, lput_keys, hs]
            have h3 : room ∈ roomsR arrows p ∧ told = w := ⟨(hI.1 room).mp h1, h2⟩
            split
            · rename_i h4
              rw [hI2.1]
              exact ⟨.inl, fun z => z.elim id fun z => by rw [z.2]; exact (hI2.1 goal).mp h4⟩
            · rw [List.mem_append, hI2.1, List.mem_singleton]
              exact ⟨fun z => z.elim .inl fun z => .inr ⟨h3, z⟩, fun z => z.elim .inl fun z => .inr z.2⟩
          · rw [fPut_ok (k := .int) rfl, ← List.length_map (f := (·.1)), lput_keys, List.length_append]
            split
            · rw [List.length_map]; omega
            · rw [List.length_append, List.length_map]
              simp only [List.length_singleton]
              omega
        · walk_at "w"
          exact ⟨_, rfl, fun r => by rw [hI2.1, hs]; exact ⟨.inl, fun z => z.elim id fun z => absurd z.1.2 h2⟩, by rw [List.length_append]; omega⟩
      · walk_at "w"
        exact ⟨_, rfl, fun r => by rw [hI2.1, hs]; exact ⟨.inl, fun z => z.elim id fun z => absurd ((hI.1 room).mpr z.1.1) h1⟩, by rw [List.length_append]; omega⟩
    · walk_at "w"
      exact ⟨_, rfl, fun r => by rw [hI2.1, rooms_snoc], by omega⟩
  · walk_at "w"
    rw [lc_lets_1_eq]
    refine Ok_eLcM (xs := ends) (fun e => (look here e).isSome) (by walk_at "w") (by show ends.length ≤ _; omega) (fun e _ => ?_) ?_
    · walk_at "w"
      rw [getK_look (k := .int) rfl]
    · walk_at "w"
      unfold letB
      rw [Bool.eq_iff_iff, List.any_map, List.any_eq_true, decide_eq_true_iff]
      constructor
      · rintro ⟨e, h1, h2⟩
        exact ⟨e, (hI.1 e).mp (look_is.mp h2), h1⟩
      · rintro ⟨r, h1, h2⟩
        exact ⟨r, h2, look_is.mpr ((hI.1 r).mpr h1)⟩
/-! ### walks -/
def WalkP (m : Mach) (row : List Str) (walk : List Int) : Prop :=
  walk.length = row.length + 1 ∧ walk[0]? = some 0 ∧ (∃ e, walk[row.length]? = some e ∧ e ∈ m.2.2) ∧ ∀ k : Nat, ∀ a w b, walk[k]? = some a → row[k]? = some w → walk[k + 1]? = some b → (a, w, b) ∈ m.2.1
open Classical in
noncomputable def walkB (m : Mach) (row : List Str) (walk : List Int) : Bool := decide (WalkP m row walk)
theorem atI_of_get {α : Type} {xs : List α} {n : Nat} {x : α} (h : xs[n]? = some x) : atI xs (n : Int) = some x := atI_nat h
theorem atI_last {α : Type} {xs : List α} {n : Nat} {x : α} (hl : xs.length = n + 1) (h : xs[n]? = some x) : atI xs (-1) = some x := by
  unfold atI ixN
  rw [if_neg (by decide), if_pos (by omega), Option.bind_some]
  rw [show (-1 + (xs.length : Int)).toNat = n by omega]
  exact h
open Classical in
theorem walkB_false {m : Mach} {row : List Str} {walk : List Int} (h : ¬ WalkP m row walk) : walkB m row walk = false := by
  unfold walkB
  exact decide_eq_false h
open Classical in
theorem walkB_iff {m : Mach} {row : List Str} {walk : List Int} : walkB m row walk = true ↔ WalkP m row walk := by
  unfold walkB
  exact decide_eq_true_iff
/-- the head of both -/
theorem head_ok (m : Mach) (row : List Str) (walk : List Int) {Q : Bool → Prop} (hl : walk.length = row.length + 1) : ∃ a e, walk[0]? = some a ∧ walk[row.length]? = some e := by
  exact ⟨walk[0]'(by omega), walk[row.length]'(by omega), List.getElem?_eq_getElem _, List.getElem?_eq_getElem _⟩
theorem iswalk_ok (m : Mach) (row : List Str) (walk : List Int) (hr : row.length ≤ 1000000) : Ok (m_is_walk (m, row, walk)) (· = walkB m row walk) := by
  have hIn : ∀ (a : Int) (l : List Int), fNotInD .int a l = some (!decide (a ∈ l)) := fun a l => by rw [fNotInD_eq (t := .int) rfl]; congr
  obtain ⟨many, arrows, ends⟩ := m
  rw [m_is_walk_at]
  unfold b_is_walk
  walk_at "w"
  refine Wif_ndec (fun h1 => ?_) fun h1 => ?_
  · walk_at "w"
    exact (walkB_false fun z => h1 (by rw [z.1]; rfl)).symm
  · walk_at "w"
    have hl : walk.length = row.length + 1 := by
      have h1 : (walk.length : Int) = (row.length : Int) + 1 := h1
      omega
    obtain ⟨a, e, h2, h3⟩ := head_ok (Q := fun _ => True) (many, arrows, ends) row walk hl
    rw [show atI walk 0 = some a from atI_of_get (n := 0) h2]
    walk_at "w"
    refine Wif_ndec (fun h4 => ?_) fun h4 => ?_
    · walk_at "w"
      exact (walkB_false fun z => h4 (by
        have := z.2.1
        rw [h2] at this
        exact Option.some.inj this)).symm
    · walk_at "w"
      rw [atI_last hl h3]
      walk_at "w"
      rw [hIn]
      walk_at "w"
      refine Wif_ndec (fun h5 => ?_) fun h5 => ?_
      · walk_at "w"
        refine (walkB_false fun z => h5 ?_).symm
        obtain ⟨e2, h6, h7⟩ := z.2.2.1
        rw [h3] at h6
        cases h6
        exact h7
      · walk_at "w"
        rw [lc_is_walk_1_eq]
        have hat : ∀ k : Nat, k < row.length → ∃ a w b, walk[k]? = some a ∧ row[k]? = some w ∧ walk[k + 1]? = some b := fun k hk =>
          ⟨walk[k]'(by omega), row[k], walk[k + 1]'(by omega), List.getElem?_eq_getElem _, List.getElem?_eq_getElem _, List.getElem?_eq_getElem _⟩
        have hT : ∀ (x : Arr) (l : List Arr), fInD (.tup (.cons .int (.cons .str (.last .int)))) x l = some (decide (x ∈ l)) := fun x l => by rw [fInD_eq (t := .tup (.cons .int (.cons .str (.last .int)))) rfl]; congr
        refine Ok_eLcP (xs := enumD row) (fun x b => b = true ↔ ∀ a w b, walk[x.1.toNat]? = some a → row[x.1.toNat]? = some w → walk[x.1.toNat + 1]? = some b → (a, w, b) ∈ arrows) (by walk_at "w") (by rw [enum_len]; omega) (fun x hx => ?_) fun r _ hf => ?_
        · obtain ⟨k, w⟩ := x
          obtain ⟨h6, h7, h8, _⟩ := enum_mem hx
          obtain ⟨k, rfl⟩ := Int.eq_ofNat_of_zero_le h7
          obtain ⟨a, w2, b, q1, q2, q3⟩ := hat k (by omega)
          rw [atI_of_get q2] at h6
          have h6 : w2 = w := Option.some.inj h6
          subst h6
          walk_at "w"
          rw [atI_of_get q1]
          walk_at "w"
          rw [show atI walk ((k : Int) + 1) = some b from atI_of_get (n := k + 1) q3]
          walk_at "w"
          rw [hT]
          walk_at "w"
          rw [decide_eq_true_iff, Int.toNat_natCast]
          constructor
          · intro h a' w3 b' z1 z2 z3
            rw [q1] at z1
            rw [q2] at z2
            rw [q3] at z3
            cases z1
            cases z2
            cases z3
            exact h
          · exact fun h => h a _ b q1 q2 q3
        · walk_at "w"
          rw [Bool.eq_iff_iff, List.all_eq_true]
          rw [walkB_iff]
          constructor
          · intro h
            refine ⟨hl, by rw [h2]; exact congrArg some h4, ⟨e, h3, h5⟩, fun k a w b z1 z2 z3 => ?_⟩
            obtain ⟨y, hy, hp⟩ := hf.get' (enum_get z2)
            have := hp.mp (h y (List.mem_of_getElem? hy))
            exact this a w b z1 z2 z3
          · intro h y hy
            obtain ⟨x, hx, hp⟩ := hf.mem_right y hy
            exact hp.mpr fun a w b z1 z2 z3 => h.2.2.2 _ a w b z1 z2 z3
/-! ### the law -/
theorem lawwalk_ok (m : Mach) (row : List Str) (walk : List Int) (hr : row.length ≤ 1000000) : Ok (m__law_walks (m, row, walk)) (· = walkB m row walk) := by
  have hIn : ∀ (a : Int) (l : List Int), fNotInD .int a l = some (!decide (a ∈ l)) := fun a l => by rw [fNotInD_eq (t := .int) rfl]; congr
  have hT : ∀ (x : Arr) (l : List Arr), fNotInD (.tup (.cons .int (.cons .str (.last .int)))) x l = some (!decide (x ∈ l)) := fun x l => by rw [fNotInD_eq (t := .tup (.cons .int (.cons .str (.last .int)))) rfl]; congr
  obtain ⟨many, arrows, ends⟩ := m
  rw [m__law_walks_at]
  unfold b__law_walks
  walk_at "w"
  refine Wif_ndec (fun h1 => ?_) fun h1 => ?_
  · walk_at "w"
    exact (walkB_false fun z => h1 (by rw [z.1]; rfl)).symm
  · walk_at "w"
    have hl : walk.length = row.length + 1 := by
      have h1 : (walk.length : Int) = (row.length : Int) + 1 := h1
      omega
    obtain ⟨a, e, h2, h3⟩ := head_ok (Q := fun _ => True) (many, arrows, ends) row walk hl
    rw [show atI walk 0 = some a from atI_of_get (n := 0) h2]
    walk_at "w"
    refine Wif_ndec (fun h4 => ?_) fun h4 => ?_
    · walk_at "w"
      exact (walkB_false fun z => h4 (by
        have := z.2.1
        rw [h2] at this
        exact Option.some.inj this)).symm
    · walk_at "w"
      rw [atI_last hl h3]
      walk_at "w"
      rw [hIn]
      walk_at "w"
      refine Wif_ndec (fun h5 => ?_) fun h5 => ?_
      · walk_at "w"
        refine (walkB_false fun z => h5 ?_).symm
        obtain ⟨e2, h6, h7⟩ := z.2.2.1
        rw [h3] at h6
        cases h6
        exact h7
      · walk_at "w"
        rw [lp__law_walks_1_eq]
        have hat : ∀ k : Nat, k < row.length → ∃ a w b, walk[k]? = some a ∧ row[k]? = some w ∧ walk[k + 1]? = some b := fun k hk =>
          ⟨walk[k]'(by omega), row[k], walk[k + 1]'(by omega), List.getElem?_eq_getElem _, List.getElem?_eq_getElem _, List.getElem?_eq_getElem _⟩
        refine Ok_sFor (rng 0 row.length) (fun _ : Unit => st__law_walks_1 (many, arrows, ends) row walk) (fun p _ => ∀ k : Nat, k < p.length → ∀ a w b, walk[k]? = some a → row[k]? = some w → walk[k + 1]? = some b → (a, w, b) ∈ arrows) () (by walk_at "w"; exact .is (fRng1_of (by omega))) rfl (fun k hk => absurd hk (Nat.not_lt_zero _)) (fun p x q s hx hI => ?_) fun s hI => ?_
        · obtain ⟨hp, rfl⟩ := rng_split hx
          obtain ⟨a, w, b, q1, q2, q3⟩ := hat p.length hp
          unfold lb__law_walks_1
          walk_at "w"
          rw [atI_of_get q1]
          walk_at "w"
          rw [atI_of_get q2]
          walk_at "w"
          rw [show atI walk ((p.length : Int) + 1) = some b from atI_of_get (n := p.length + 1) q3]
          walk_at "w"
          rw [hT]
          walk_at "w"
          refine Wif_ndec (fun h => ?_) fun h => ?_
          · walk_at "w"
            exact (walkB_false fun z => h (z.2.2.2 _ a w b q1 q2 q3)).symm
          · walk_at "w"
            refine ⟨(), rfl, fun k hk a' w' b' z1 z2 z3 => ?_⟩
            rw [List.length_append, List.length_singleton] at hk
            by_cases hkp : k < p.length
            · exact hI k hkp a' w' b' z1 z2 z3
            · have e1 : k = p.length := by omega
              subst e1
              rw [q1] at z1
              rw [q2] at z2
              rw [q3] at z3
              cases z1
              cases z2
              cases z3
              exact h
        · walk_at "w"
          refine (walkB_iff.mpr ⟨hl, by rw [h2]; exact congrArg some h4, ⟨e, h3, h5⟩, fun k a w b z1 z2 z3 => ?_⟩).symm
          have := (List.getElem?_eq_some_iff.mp z2).1
          exact hI k (by rw [rng_len]; omega) a w b z1 z2 z3
theorem getLast_atI {xs : List Int} (h : xs ≠ []) : ∃ x, atI xs (-1) = some x := by
  have hp := List.length_pos_iff.mpr h
  obtain ⟨n, hn⟩ : ∃ n, xs.length = n + 1 := ⟨xs.length - 1, by omega⟩
  exact ⟨_, atI_last hn (List.getElem?_eq_getElem (by omega))⟩
theorem made_ok (deck : List Int × Int) (m : Mach) (hm : MachOk m) : Ok (m__law_made (deck, m)) fun r => r.1.1.length ≤ 9 ∧ 1 ≤ r.1.2.length ∧ r.1.2.length ≤ 10 := by
  rw [m__law_made_at]
  unfold b__law_made
  walk_at "w"
  rw [lp__law_made_1_eq]
  refine Ok_sForX2 9 (fun s : (List Int × Int) × List Str × List Int => st__law_made_1 s.1 m s.2.1 s.2.2) (fun k s => s.2.1.length ≤ k ∧ s.2.2.length ≤ k + 1 ∧ s.2.2 ≠ []) (by decide) ?_ (fun k s hk hI => ?_) fun k s hk hI => ?_
  · walk_at "w"
    refine take_q _ 10 (by decide) (by decide) fun c d3 hc1 hc2 => ?_
    exact ⟨hc1, by show c ≤ 9; omega, ⟨(d3, [], [0]), rfl, by simp⟩⟩
  · obtain ⟨d, row, rooms⟩ := s
    have hI1 : row.length ≤ k := hI.1
    have hI2 : rooms.length ≤ k + 1 := hI.2.1
    have hI3 : rooms ≠ [] := hI.2.2
    obtain ⟨last, hlast⟩ := getLast_atI hI3
    unfold lb__law_made_1
    walk_at "w"
    rw [lc__law_made_1_eq]
    have ha := hm.arrows
    refine Ok_eLc (xs := m.2.1) (fun a => decide (a.1 = last)) id (by walk_at "w") (by omega) (fun a _ => ?_) (fun a _ _ => by walk_at "w"; rfl) ?_
    · walk_at "w"
      rw [hlast]
      walk_at "w"
      rfl
    · rw [List.map_id]
      obtain ⟨some_, hsome⟩ : ∃ l, l = m.2.1.filter fun a => decide (a.1 = last) := ⟨_, rfl⟩
      rw [← hsome]
      have hsl : some_.length ≤ 31 := by
        rw [hsome]
        exact Nat.le_trans (List.length_filter_le _ _) ha
      walk_at "w"
      by_cases hz : some_ = []
      · rw [hz, fNeD_same (t := .list (.tup (.cons .int (.cons .str (.last .int))))) rfl]
        walk_at "w"
        exact ⟨(d, row, rooms), rfl, by show row.length ≤ k + 1; omega, by show rooms.length ≤ k + 2; omega, hI3⟩
      · rw [fNeD_ne (t := .list (.tup (.cons .int (.cons .str (.last .int))))) rfl hz]
        walk_at "w"
        have hpos := List.length_pos_iff.mpr hz
        refine take_q _ _ (by show 0 < (some_.length : Int); omega) (by show (some_.length : Int) ≤ _; omega) fun c d3 hc1 hc2 => ?_
        obtain ⟨x, hx, _⟩ := of_list (xs := some_) (P := fun _ => True) hc1 hc2 fun _ _ => trivial
        rw [hx]
        walk_at "w"
        refine ⟨lt_line2 (by show row.length ≤ _; omega), lt_line2 (by show rooms.length ≤ _; omega), ⟨(d3, row ++ [x.2.1], rooms ++ [x.2.2]), rfl, ?_, ?_, by simp⟩⟩
        · show (row ++ [x.2.1]).length ≤ k + 1
          simp; omega
        · show (rooms ++ [x.2.2]).length ≤ k + 1 + 1
          simp; omega
  · obtain ⟨d, row, rooms⟩ := s
    have hI1 : row.length ≤ k := hI.1
    have hI2 : rooms.length ≤ k + 1 := hI.2.1
    have hI3 := List.length_pos_iff.mpr (show rooms ≠ [] from hI.2.2)
    walk_at "w"
    exact ⟨by show row.length ≤ 9; omega, by show 1 ≤ rooms.length; omega, by show rooms.length ≤ 10; omega⟩
theorem spoilt_ok (deck : List Int × Int) (m : Mach) (hm : MachOk m) (walk : List Int) (h1 : 1 ≤ walk.length) (h2 : walk.length ≤ 10) : Ok (m__law_spoilt (deck, m, walk)) fun _ => True := by
  have hmany := hm.many
  rw [m__law_spoilt_at]
  unfold b__law_spoilt
  walk_at "w"
  refine take_q _ 9 (by decide) (by decide) fun way d1 hw1 hw2 => ?_
  walk_at "w"
  refine take_q _ _ (by show 0 < (walk.length : Int); omega) (by show (walk.length : Int) ≤ _; omega) fun at_ d2 ha1 ha2 => ?_
  have c1 : (cutD walk none (some at_)).length ≤ 10 := Nat.le_trans (cut_len _ _ _) h2
  have c2 : (cutD walk (some (at_ + 1)) none).length ≤ 10 := Nat.le_trans (cut_len _ _ _) h2
  have c3 : (cutD walk (some at_) none).length ≤ 10 := Nat.le_trans (cut_len _ _ _) h2
  walk_at "w"
  refine Wif_dec (fun _ => ?_) fun _ => ?_
  · walk_at "w"
    refine take_q _ 2 (by decide) (by decide) fun c d3 hc1 hc2 => ?_
    obtain ⟨x, hx, _⟩ := of_list (xs := [(-1 : Int), m.1]) (P := fun _ => True) hc1 hc2 fun _ _ => trivial
    rw [hx]
    walk_at "w"
    exact ⟨lenOk_le (by omega), lenOk_le (by simp; omega)⟩
  · walk_at "w"
    refine Wif_dec (fun _ => ?_) fun _ => ?_
    · walk_at "w"
      exact lenOk_le (by omega)
    · walk_at "w"
      refine Wif_dec (fun _ => ?_) fun _ => ?_
      · walk_at "w"
        refine take_q _ m.1 (by omega) (by omega) fun c d3 hc1 hc2 => ?_
        walk_at "w"
        exact ⟨lenOk_le (by omega), lenOk_le (by simp; omega)⟩
      · walk_at "w"
        refine Wif_dec (fun _ => ?_) fun _ => ?_
        · walk_at "w"
          refine take_q _ m.1 (by omega) (by omega) fun c d3 hc1 hc2 => ?_
          walk_at "w"
          exact lenOk_le (by omega)
        · walk_at "w"
          refine Wif_dec (fun _ => ?_) fun _ => ?_
          · walk_at "w"
            refine take_q _ m.1 (by omega) (by omega) fun c d3 hc1 hc2 => ?_
            walk_at "w"
            exact ⟨lenOk_le (by omega), lenOk_le (by simp; omega)⟩
          · walk_at "w"
theorem law_true (script : List Int) (hs : script.length ≤ 63) : m_law script = some true := by
  refine Ok.eq ?_
  rw [m_law_at]
  unfold b_law
  walk_at "w"
  refine (deck_ok script).mono fun deck _ => ?_
  walk_at "w"
  refine (machine_ok deck).mono fun r hm => ?_
  obtain ⟨m, d1⟩ := r
  have hm : MachOk m := hm
  have ha := hm.arrows
  have he := hm.ends
  walk_at "w"
  rw [lp_law_1_eq]
  refine Ok_sFor (rng 0 8) (fun s : List Int × Int => st_law_1 s m m) (fun _ _ => True) d1 (by walk_at "w"; exact .is (fRng1_of (n := 8) (by decide))) rfl trivial (fun p x q d _ _ => ?_) fun d _ => ?_
  · unfold lb_law_1
    walk_at "w"
    refine (made_ok d m hm).mono fun r hr => ?_
    obtain ⟨⟨row, walk⟩, d2⟩ := r
    have h1 : row.length ≤ 9 := hr.1
    have h2 : 1 ≤ walk.length := hr.2.1
    have h3 : walk.length ≤ 10 := hr.2.2
    show Ok (sSeq _ _ ((none, some d2, some m, some m, some x, some row, some walk, none, none, none, ()) : Gam g_law)) _
    rw [Ok_sSeq]
    refine Ok.mono (P := fun f => ∃ (d' : List Int × Int) (row' : List Str), f = .nx ((none, some d', some m, some m, some x, some row', some walk, none, none, none, ()) : Gam g_law) ∧ row'.length ≤ 9) ?_ ?_
    · walk_at "w"
      refine take_q _ 4 (by decide) (by decide) fun c d3 hc1 hc2 => ?_
      walk_at "w"
      refine Wif_dec (fun _ => ?_) fun _ => ?_
      · walk_at "w"
        by_cases hz : row = []
        · rw [hz, fNeD_same (t := .list .str) rfl]
          walk_at "w"
          exact ⟨d3, [], rfl, by simp⟩
        · rw [fNeD_ne (t := .list .str) rfl hz]
          walk_at "w"
          have hpos := List.length_pos_iff.mpr hz
          refine take_q _ 4 (by decide) (by decide) fun c2 d4 hc3 hc4 => ?_
          obtain ⟨w, hw, _⟩ := of_list (xs := [Str.ofString "a", Str.ofString "b", Str.ofString "end", Str.ofString "x"]) (P := fun _ => True) hc3 hc4 fun _ _ => trivial
          rw [hw]
          walk_at "w"
          refine take_q _ _ (by show 0 < (List.length row : Int); omega) (by show (List.length row : Int) ≤ _; omega) fun c3 d5 hc5 hc6 => ?_
          walk_at "w"
          refine .of (a := c3.toNat) ?_ ?_
          · show ixN (List.length row) c3 = _
            unfold ixN
            rw [if_pos hc5, if_pos hc6]
          · walk_at "w"
            exact ⟨d5, _, rfl, by show (List.set row c3.toNat w).length ≤ 9; rw [List.length_set]; exact h1⟩
      · walk_at "w"
        exact ⟨d3, row, rfl, h1⟩
    · rintro _ ⟨d3, row', rfl, h4⟩
      walk_at "w"
      refine (spoilt_ok d3 m hm walk h2 h3).mono fun r _ => ?_
      obtain ⟨walk', d4⟩ := r
      walk_at "w"
      refine (lets_ok m row' (by omega) (by omega)).mono fun b hb => ?_
      subst hb
      walk_at "w"
      refine (iswalk_ok m row' walk' (by omega)).mono fun b hb => ?_
      subst hb
      walk_at "w"
      refine (lawlets_ok m row' (by omega)).mono fun b hb => ?_
      subst hb
      walk_at "w"
      refine (lawwalk_ok m row' walk' (by omega)).mono fun b hb => ?_
      subst hb
      walk_at "w"
      rw [fNeD_same (t := .hl (.cons (.own (.list .str)) (.last (.own (.list .int))))) rfl]
      walk_at "w"
      rw [fNeD_same (t := .tup (.cons .int (.cons (.list (.tup (.cons .int (.cons .str (.last .int))))) (.last (.list .int))))) rfl]
      walk_at "w"
      exact ⟨_, rfl, trivial⟩
  · walk_at "w"
    refine (iswalk_ok m [] [] (by simp)).mono fun b hb => ?_
    subst hb
    rw [walkB_false fun z => by have := z.1; simp at this]
    walk_at "w"
end Law

open PySem PySem.W PyProof.Rows
set_option maxRecDepth 100000 in
set_option maxHeartbeats 0 in
theorem PySem.Challenge.cw_readgrove_k68_rows_let_by_holds : PySem.Challenge.rw_readgrove_k68_rows_let_by.Holds := by
  w_on; o_law; k_head; (case hw => w_witness2)
  k_fill
  refine Law.walk (l := PySem.Challenge.rw_readgrove_k68_rows_let_by) Law.law_true rfl rfl (fun w h Y => PySem.W.kIn_of Y) ?F
  case F =>
    intro w mg fa h KX G hmg
    refine' Law.all_mk KX G hmg ?a0 ?l0 ?c0 ?k0 ?a1 ?l1 ?c1 ?k1 ?a2 ?l2 ?c2 ?k2 ?a3 ?l3 ?c3 ?k3 ?a4 ?l4 ?c4 ?k4 ?a5 ?l5 ?c5 ?k5 ?a6 ?l6 ?c6 ?k6 ?a7 ?l7 ?c7 ?k7 ?a8 ?l8 ?c8 ?k8 ?a9 ?l9 ?c9 ?k9 ?b_abs ?b_all ?b_any ?b_bool ?b_enumerate ?b_isinstance ?b_len ?b_list ?b_range
    (case a0 => k_is)
    (case l0 => k_is)
    (case c0 => k_is)
    (case k0 => k_is)
    (case a1 => k_is)
    (case l1 => k_is)
    (case c1 => k_is)
    (case k1 => k_is)
    (case a2 => k_is)
    (case l2 => k_is)
    (case c2 => k_is)
    (case k2 => k_is)
    (case a3 => k_is)
    (case l3 => k_is)
    (case c3 => k_is)
    (case k3 => k_is)
    (case a4 => k_is)
    (case l4 => k_is)
    (case c4 => k_is)
    (case k4 => k_is)
    (case a5 => k_is)
    (case l5 => k_is)
    (case c5 => k_is)
    (case k5 => k_is)
    (case a6 => k_is)
    (case l6 => k_is)
    (case c6 => k_is)
    (case k6 => k_is)
    (case a7 => k_is)
    (case l7 => k_is)
    (case c7 => k_is)
    (case k7 => k_is)
    (case a8 => k_is)
    (case l8 => k_is)
    (case c8 => k_is)
    (case k8 => k_is)
    (case a9 => k_is)
    (case l9 => k_is)
    (case c9 => k_is)
    (case k9 => k_is)
    (case b_abs => k_is)
    (case b_all => k_is)
    (case b_any => k_is)
    (case b_bool => k_is)
    (case b_enumerate => k_is)
    (case b_isinstance => k_is)
    (case b_len => k_is)
    (case b_list => k_is)
    (case b_range => k_is)
