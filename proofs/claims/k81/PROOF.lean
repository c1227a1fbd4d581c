import PyProof.Rows.All
import Wide.All
import OpenK.AllK
import Wide.FinOn
import HandS.ForMost
import HandS.Exc
import HandS.ExcOwn
import HandS.WordsExc
import HandS.ExcIs
import KE.KeyNested
import KE.SortData
import KE.SortLaws
import KE.KDictCopyH
import KE.KDictSum
import KE.KDictWalk
import HandS.SetKeys
import HandS.SetFor
import HandS.Strs
import KE.KRevSl
import PyProof.ListNew
import KE.KRevIter
import HandS.RevTup
import HandS.Rev
import HandS.DictComp
import HandS.WordsDict
import PyProof.EqAt
import PyProof.NeData
import PyProof.EqLayable
import PyProof.Rows.EqDataRows
import HandS.Iter
import KE.GoesEnum
import KE.GoesNew
import KE.KDictPairs
import HandS.Dict
import HandS.List
import PyProof.AutoSeq1
import KE.LtData
import HandS.Deep
import KE.DataMinMax
import KE.DataFind
import PyProof.P3Eq
import PyProof.Rows.CallKwBuiltin
import HandS.TryMany
import HandS.ExcValue
import KE.KTryMore
import HandS.DictTup
import HandS.DictEq
import PyProof.DictMoreH
import HandS.More
import HandS.WideBits
import HandS.Conv
import PyProof.ListRange
import PyProof.LongRange
import HandS.Zip
import HandS.MapObj
import KE.KDictZip
import PyProof.ZipIter
import KE.GoesComp
import KE.GoesRaise
import HandS.Wide
import HandS.IsInst
import HandS.NoneIn
import HandS.TupLen
import HandS.TupAny
import KE.DataAny
import HandS.Codes
import PySem.Challenge.RW_readgrove_k81_no_grammars
set_option Elab.async false
set_option linter.all false
set_option maxRecDepth 100000
namespace VV
structure KW where
  K : PySem.W.Frag
  P : PySem.Program
  w : PySem.World
instance : CoeOut KW PySem.W.Frag := ⟨KW.K⟩
open PySem L2
inductive Ty where
  | non | bool | int | str | any | exn
  | alt (a b : Ty) | opt (t : Ty) | vtup (t : Ty) | list (t : Ty) | dict (k v : Ty) | own (t : Ty)
  | hl (b : Ty) | ins (C : Addr) (ks : List Str) (b : Ty) | tup (b : Ty) | last (a : Ty) | cons (a b : Ty)
  deriving DecidableEq
@[reducible] def den : Ty → Type
  | .non => Unit
  | .bool => Bool
  | .int => Int
  | .str => Str
  | .any => PyData
  | .exn => Str
  | .alt a b => Sum (den a) (den b)
  | .opt t => Option (den t)
  | .vtup t => List (den t)
  | .list t => List (den t)
  | .dict k v => List (den k × den v)
  | .own t => den t
  | .hl b => den b
  | .ins _ _ b => den b
  | .tup b => den b
  | .last a => den a
  | .cons a b => den a × den b
def Ty.frz : Ty → Bool
  | .non => true
  | .bool => true
  | .int => true
  | .str => true
  | .any => true
  | .exn => true
  | .alt a b => a.frz && b.frz
  | .opt t => t.frz
  | .vtup t => t.frz
  | .list _ => false
  | .dict _ _ => false
  | .own _ => false
  | .hl _ => false
  | .ins _ _ _ => false
  | .tup b => b.frz
  | .last a => a.frz
  | .cons a b => a.frz && b.frz
def Ty.isOwn : Ty → Bool
  | .own _ => true
  | _ => false
def clsNm (C : Addr) : Str := if C = 0 then "Making" else "Desk"
def nkRows : (b : Ty) → den b → Option (List (Str × List Str))
  | .list (.tup (.cons .str (.last (.vtup .str)))), d => some d
  | _, _ => none
def nkOf (q : Str × List Str) : NestedKey := .tup [.text q.1, .tup (q.2.map .text)]
def nkHO (w : World) (a : Addr) (xs : List ((Str × List Str) × Addr)) : HO := .ext fun h => (a == sysModules) = false ∧ ∃ (o : Obj) (es : Array DictEntry) (ep : Nat), h.get? a = some o ∧ o.ExactDict ∧ o.data = .dict es ep ∧ es.toList = xs.map fun x => (⟨(nkOf x.1).hash w, .ref x.2, .bool true⟩ : DictEntry)
def NkAt (H : Hp) (q : Str × List Str) (b : Addr) : Prop := ∃ c, H b = some (.tup [.str q.1, .ref c]) ∧ H c = some (.tup (q.2.map .str))
mutual
def dv (H : Hp) : PyData → V → Prop
  | .none, v => v = .non
  | .bool b, v => v = .bl b
  | .int i, v => v = .int i
  | .str x, v => v = .str x ∧ PyData.strOk x = true
  | .list _, _ => False
  | .tuple ds, v => ∃ a vs, v = .ref a ∧ H a = some (.tup vs) ∧ dvs H ds vs
  | .dict _, _ => False
def dvs (H : Hp) : List PyData → List V → Prop
  | [], vs => vs = []
  | d :: ds, vs => ∃ v r, vs = v :: r ∧ dv H d v ∧ dvs H ds r
end
def keyS : (k : Ty) → den k → Option Key
  | .int, i => some (.inl i)
  | .str, x => some (.inr x)
  | _, _ => none
def keyRow : (b : Ty) → den b → Option (List Key)
  | .last a, d => (keyS a d).map fun k => [k]
  | .cons a b, d => do
    let k ← keyS a d.1
    let r ← keyRow b d.2
    pure (k :: r)
  | _, _ => none
def keyVs (t : Ty) : List (den t) → Option (List Key)
  | [] => some []
  | d :: r => do
    let k ← keyS t d
    let s ← keyVs t r
    pure (k :: s)
def keyT : (k : Ty) → den k → Option (List Key)
  | .tup b, d => keyRow b d
  | .vtup t, d => keyVs t d
  | _, _ => none
def Ty.tk : Ty → Bool
  | .tup _ => true
  | .vtup _ => true
  | _ => false
def F2 {α β : Type} (P : α → β → Prop) : List α → List β → Prop
  | [], [] => True
  | v :: vs, d :: ds => P v d ∧ F2 P vs ds
  | _, _ => False
def F3 {α β : Type} (P : α → β → List Addr → Prop) : List α → List β → List Addr → Prop
  | [], [], f => f = []
  | v :: vs, d :: ds, f => ∃ f1 f2, f = f1 ++ f2 ∧ P v d f1 ∧ F3 P vs ds f2
  | _, _, _ => False
theorem F2.imp {α β : Type} {P P' : α → β → Prop} (h : ∀ v d, P v d → P' v d) : ∀ {vs : List α} {ds : List β}, F2 P vs ds → F2 P' vs ds
  | [], [], q => q
  | v :: vs, d :: ds, q => ⟨h v d q.1, F2.imp h q.2⟩
  | [], _ :: _, q => q.elim
  | _ :: _, [], q => q.elim
theorem F2.length {α β : Type} {P : α → β → Prop} : ∀ {vs : List α} {ds : List β}, F2 P vs ds → vs.length = ds.length
  | [], [], _ => rfl
  | _ :: vs, _ :: ds, q => by
    have := F2.length (P := P) q.2
    simp [this]
  | [], _ :: _, q => q.elim
  | _ :: _, [], q => q.elim
theorem F2.append {α β : Type} {P : α → β → Prop} : ∀ {vs : List α} {ds : List β} {ws : List α} {es : List β}, F2 P vs ds → F2 P ws es → F2 P (vs ++ ws) (ds ++ es)
  | [], [], _, _, _, q => q
  | _ :: _, _ :: _, _, _, p, q => ⟨p.1, F2.append p.2 q⟩
  | [], _ :: _, _, _, p, _ => p.elim
  | _ :: _, [], _, _, p, _ => p.elim
theorem F2.get {α β : Type} {P : α → β → Prop} : ∀ {vs : List α} {ds : List β} {i : Nat} {d : β}, F2 P vs ds → ds[i]? = some d → ∃ v, vs[i]? = some v ∧ P v d
  | v :: vs, e :: ds, 0, d, q, h => by
    simp at h
    subst h
    exact ⟨v, rfl, q.1⟩
  | v :: vs, e :: ds, i + 1, d, q, h => by
    obtain ⟨w, h1, h2⟩ := F2.get (i := i) (d := d) q.2 (by simpa using h)
    exact ⟨w, by simpa using h1, h2⟩
  | [], [], _, _, _, h => by simp at h
  | [], _ :: _, _, _, q, _ => q.elim
  | _ :: _, [], _, _, q, _ => q.elim
theorem F2.get' {α β : Type} {P : α → β → Prop} : ∀ {vs : List α} {ds : List β} {i : Nat} {v : α}, F2 P vs ds → vs[i]? = some v → ∃ d, ds[i]? = some d ∧ P v d
  | v :: vs, e :: ds, 0, d, q, h => by
    simp at h
    subst h
    exact ⟨e, rfl, q.1⟩
  | v :: vs, e :: ds, i + 1, d, q, h => by
    obtain ⟨w, h1, h2⟩ := F2.get' (i := i) (v := d) q.2 (by simpa using h)
    exact ⟨w, by simpa using h1, h2⟩
  | [], [], _, _, _, h => by simp at h
  | [], _ :: _, _, _, q, _ => q.elim
  | _ :: _, [], _, _, q, _ => q.elim
theorem F2.take {α β : Type} {P : α → β → Prop} : ∀ {vs : List α} {ds : List β} (n : Nat), F2 P vs ds → F2 P (vs.take n) (ds.take n)
  | _, _, 0, _ => by simp [F2]
  | [], [], _ + 1, _ => by simp [F2]
  | v :: vs, d :: ds, n + 1, q => ⟨q.1, F2.take n q.2⟩
  | [], _ :: _, _, q => q.elim
  | _ :: _, [], _, q => q.elim
theorem F2.drop {α β : Type} {P : α → β → Prop} : ∀ {vs : List α} {ds : List β} (n : Nat), F2 P vs ds → F2 P (vs.drop n) (ds.drop n)
  | _, _, 0, q => by simpa using q
  | [], [], _ + 1, _ => by simp [F2]
  | v :: vs, d :: ds, n + 1, q => by simpa using F2.drop n q.2
  | [], _ :: _, _, q => q.elim
  | _ :: _, [], _, q => q.elim
theorem F2.reverse {α β : Type} {P : α → β → Prop} : ∀ {vs : List α} {ds : List β}, F2 P vs ds → F2 P vs.reverse ds.reverse
  | [], [], q => q
  | v :: vs, d :: ds, q => by
    simp only [List.reverse_cons]
    exact F2.append (F2.reverse q.2) ⟨q.1, trivial⟩
  | [], _ :: _, q => q.elim
  | _ :: _, [], q => q.elim
theorem F3.imp {α β : Type} {P P' : α → β → List Addr → Prop} : ∀ {vs : List α} {ds : List β} {f : List Addr}, (∀ v d g, (∀ a ∈ g, a ∈ f) → P v d g → P' v d g) → F3 P vs ds f → F3 P' vs ds f
  | [], [], _, _, q => q
  | v :: vs, d :: ds, f, h, q => by
    obtain ⟨f1, f2, rfl, p, r⟩ := q
    exact ⟨f1, f2, rfl, h v d f1 (fun a ha => List.mem_append_left _ ha) p, F3.imp (fun v d g hg x => h v d g (fun a ha => List.mem_append_right _ (hg a ha)) x) r⟩
  | [], _ :: _, _, _, q => q.elim
  | _ :: _, [], _, _, q => q.elim
theorem F3.to2 {α β : Type} {P : α → β → List Addr → Prop} {P' : α → β → Prop} : ∀ {vs : List α} {ds : List β} {f : List Addr}, (∀ v d g, (∀ a ∈ g, a ∈ f) → P v d g → P' v d) → F3 P vs ds f → F2 P' vs ds
  | [], [], _, _, _ => True.intro
  | v :: vs, d :: ds, f, h, q => by
    obtain ⟨f1, f2, rfl, p, r⟩ := q
    exact ⟨h v d f1 (fun a ha => List.mem_append_left _ ha) p, F3.to2 (fun v d g hg x => h v d g (fun a ha => List.mem_append_right _ (hg a ha)) x) r⟩
  | [], _ :: _, _, _, q => q.elim
  | _ :: _, [], _, _, q => q.elim
theorem F3.of2 {α β : Type} {P : α → β → List Addr → Prop} {P' : α → β → Prop} (h : ∀ v d, P' v d → P v d []) : ∀ {vs : List α} {ds : List β}, F2 P' vs ds → F3 P vs ds []
  | [], [], _ => rfl
  | v :: vs, d :: ds, q => ⟨[], [], rfl, h v d q.1, F3.of2 h q.2⟩
  | [], _ :: _, q => q.elim
  | _ :: _, [], q => q.elim
theorem F3.append {α β : Type} {P : α → β → List Addr → Prop} : ∀ {vs : List α} {ds : List β} {f : List Addr} {ws : List α} {es : List β} {g : List Addr}, F3 P vs ds f → F3 P ws es g → F3 P (vs ++ ws) (ds ++ es) (f ++ g)
  | [], [], _, _, _, _, p, q => by
    have p : _ = _ := p
    subst p
    exact q
  | v :: vs, d :: ds, _, _, _, _, p, q => by
    obtain ⟨f1, f2, rfl, p, r⟩ := p
    exact ⟨f1, f2 ++ _, by rw [List.append_assoc], p, F3.append r q⟩
  | [], _ :: _, _, _, _, _, p, _ => p.elim
  | _ :: _, [], _, _, _, _, p, _ => p.elim
theorem F3.length {α β : Type} {P : α → β → List Addr → Prop} : ∀ {vs : List α} {ds : List β} {f : List Addr}, F3 P vs ds f → vs.length = ds.length
  | [], [], _, _ => rfl
  | _ :: vs, _ :: ds, _, q => by
    obtain ⟨f1, f2, rfl, p, r⟩ := q
    have := F3.length r
    simp [this]
  | [], _ :: _, _, q => q.elim
  | _ :: _, [], _, q => q.elim
def ExK (cls : Value) (a : Addr) : HO := .ext fun h => ∃ (oe : Obj) (vs : Array Value), h.get? a = some oe ∧ Zc cls none oe ∧ oe.data = .fields vs
def NstD (w : World) (H : Hp) (a : Addr) (ks : List (Str × List Str)) : Prop :=
  ks.length ≤ sizeLine ∧ ks.Nodup ∧ (∀ C, H a ≠ some (ExK C a)) ∧ ((ks = [] ∧ H a = some (.dK [])) ∨ ∃ xs, xs.map (·.1) = ks ∧ (∀ x ∈ xs, NkAt H x.1 x.2) ∧ H a = some (nkHO w a xs))
def ClsN (K : PySem.W.Frag) (d : Str) (C : Addr) : Prop := PySem.W.nsIn K PySem.mainGlobals d = some (some (.ref C))
theorem ClsN.inj {K : PySem.W.Frag} {d : Str} {C C' : Addr} (h : ClsN K d C) (h' : ClsN K d C') : C = C' := by
  unfold ClsN at h h'
  rw [h] at h'
  cases h'
  rfl
abbrev Reg := Addr → Prop
structure Stb (H H' : Hp) : Prop where
  tup : ∀ a xs, H a = some (.tup xs) → H' a = some (.tup xs)
  frl : ∀ a o xs, H a = some (.frz o (.lst xs)) → H' a = some (.frz o (.lst xs))
  frt : ∀ a o xs, H a = some (.frz o (.tup xs)) → H' a = some (.frz o (.tup xs))
  ext : ∀ a C, H a = some (ExK C a) → H' a = some (ExK C a)
theorem Stb.refl (H : Hp) : Stb H H := ⟨fun _ _ h => h, fun _ _ _ h => h, fun _ _ _ h => h, fun _ _ h => h⟩
theorem Stb.trans {H H1 H2 : Hp} (a : Stb H H1) (b : Stb H1 H2) : Stb H H2 := ⟨fun c x h => b.tup c x (a.tup c x h), fun c o x h => b.frl c o x (a.frl c o x h), fun c o x h => b.frt c o x (a.frt c o x h), fun c φ h => b.ext c φ (a.ext c φ h)⟩
theorem Stb.of_same {H H' : Hp} (s : Same H H') : Stb H H' := ⟨fun _ _ h => s _ _ h, fun _ _ _ h => s _ _ h, fun _ _ _ h => s _ _ h, fun _ _ h => s _ _ h⟩
def mutO : HO → Bool
  | .tup _ => false
  | .ext _ => false
  | .frz _ _ => false
  | _ => true
theorem Stb.upd {H : Hp} {a : Addr} {o u : HO} (h : H a = some o) (m : mutO o = true) : Stb H (upd H a u) := by
  refine ⟨fun b xs e => ?_, fun b q xs e => ?_, fun b q xs e => ?_, fun b φ e => ?_⟩ <;>
  · by_cases hb : b = a
    · subst hb
      rw [h] at e
      rw [Option.some.inj e] at m
      cases m
    · rw [upd_ne hb]
      exact e
theorem NkAt.stb {H H' : Hp} {q : Str × List Str} {b : Addr} (s : Stb H H') (h : NkAt H q b) : NkAt H' q b := by
  obtain ⟨c, h1, h2⟩ := h
  exact ⟨c, s.tup _ _ h1, s.tup _ _ h2⟩
theorem NstD.stb {w : World} {H H' : Hp} {a : Addr} {ks : List (Str × List Str)} (s : Stb H H') (e : H' a = H a) (h : NstD w H a ks) : NstD w H' a ks := by
  obtain ⟨h1, h2, h3, h4⟩ := h
  refine ⟨h1, h2, by rw [e]; exact h3, ?_⟩
  rw [e]
  rcases h4 with h4 | ⟨xs, k1, k2, k3⟩
  · exact .inl h4
  · exact .inr ⟨xs, k1, fun x hx => (k2 x hx).stb s, k3⟩
theorem NstD.upd {w : World} {H : Hp} {a : Addr} {ks : List (Str × List Str)} {u : HO} (h : NstD w H a ks) : Stb H (upd H a u) := by
  obtain ⟨_, _, h3, h4⟩ := h
  have nt : ∀ xs, H a ≠ some (.tup xs) := fun xs z => by
    rcases h4 with ⟨_, e⟩ | ⟨_, _, _, e⟩ <;> rw [z] at e <;> cases e
  have nf : ∀ o v, H a ≠ some (.frz o v) := fun o v z => by
    rcases h4 with ⟨_, e⟩ | ⟨_, _, _, e⟩ <;> rw [z] at e <;> cases e
  refine ⟨fun b xs e => ?_, fun b q xs e => ?_, fun b q xs e => ?_, fun b C e => ?_⟩
  · rw [upd_ne (fun z => nt xs (by subst z; exact e) : b ≠ a)]; exact e
  · rw [upd_ne (fun z => nf _ _ (by subst z; exact e) : b ≠ a)]; exact e
  · rw [upd_ne (fun z => nf _ _ (by subst z; exact e) : b ≠ a)]; exact e
  · rw [upd_ne (fun z => h3 C (by subst z; exact e) : b ≠ a)]; exact e
def stripD : Option HO → Option HO
  | some (.frz _ (.dK k)) => some (.dK k)
  | some (.frz _ (.dT k)) => some (.dT k)
  | o => o
theorem strip_lst {H : Hp} {a : Addr} {vs : List V} (h : stripD (H a) = some (.lst vs)) : H a = some (.lst vs) := by
  unfold stripD at h
  split at h <;> first | exact h | cases h
theorem strip_dK {H : Hp} {a : Addr} {k : List (Key × V)} (h : stripD (H a) = some (.dK k)) : H a = some (.dK k) ∨ ∃ o, H a = some (.frz o (.dK k)) := by
  unfold stripD at h
  split at h
  · rename_i e; cases h; exact .inr ⟨_, e⟩
  · cases h
  · exact .inl h
theorem strip_dT {H : Hp} {a : Addr} {k : List (List Key × V)} (h : stripD (H a) = some (.dT k)) : H a = some (.dT k) ∨ ∃ o, H a = some (.frz o (.dT k)) := by
  unfold stripD at h
  split at h
  · cases h
  · rename_i e; cases h; exact .inr ⟨_, e⟩
  · exact .inl h
theorem strip_of {H : Hp} {a : Addr} {o : HO} (h : H a = some o) (m : mutO o = true) : stripD (H a) = some o := by
  rw [h]
  cases o <;> first | rfl | cases m
theorem strip_some {x : Option HO} {o : HO} (h : stripD x = some o) : x.isSome = true := by
  cases x with
  | none => cases h
  | some y => rfl
theorem same_new {H : Hp} {a : Addr} {o : HO} (h : H a = none) : Same H (L2.upd H a o) := fun b q e => by
  rw [upd_ne (ne_of_none e h)]
  exact e
def LstR (K : PySem.W.Frag) (H : Hp) (R : Reg) (a : Addr) (vs : List V) : Prop :=
  (R a ∧ stripD (H a) = some (.lst vs)) ∨ (∃ o, H a = some (.frz o (.lst vs))) ∨
    ∃ (o : Obj) (its : Array Value) (n : Nat), K.lookup a = some o ∧ o.cls = .type "list" ∧ o.dict = none ∧ o.data = .seq its n ∧ its.size ≤ sizeLine ∧ Vals vs its.toList
section
variable (K : KW) (H : Hp)
def DicK (R : Reg) (a : Addr) (kvs : List (Key × V)) : Prop := R a ∧ stripD (H a) = some (.dK kvs)
def DicT (R : Reg) (a : Addr) (kvs : List (List Key × V)) : Prop := R a ∧ stripD (H a) = some (.dT kvs)
def rS (R : Reg) : (t : Ty) → (V → den t → Prop) × (List V → den t → Prop)
  | .non => (fun v _ => v = .non, fun _ _ => False)
  | .bool => (fun v d => v = .bl d, fun _ _ => False)
  | .int => (fun v d => v = .int d, fun _ _ => False)
  | .str => (fun v d => v = .str d ∧ PyData.strOk d = true, fun _ _ => False)
  | .any => (fun v d => dv H d v, fun _ _ => False)
  | .exn => (fun v d => ∃ a C, v = .ref a ∧ H a = some (ExK (.ref C) a) ∧ ClsN K d C, fun _ _ => False)
  | .alt a b => (fun v d => match d with
      | .inl x => (rS R a).1 v x
      | .inr y => (rS R b).1 v y, fun _ _ => False)
  | .opt t => (fun v d => match d with
      | none => v = .non
      | some x => v ≠ .non ∧ (rS R t).1 v x, fun _ _ => False)
  | .vtup t => (fun v d => ∃ a vs, v = .ref a ∧ H a = some (.tup vs) ∧ F2 (rS R t).1 vs d, fun _ _ => False)
  | .list t => (fun v d => ∃ a vs, v = .ref a ∧ LstR K H R a vs ∧ F2 (rS R t).1 vs d, fun _ _ => False)
  | .dict k t => (fun v d => ∃ a, v = .ref a ∧
      ((k.tk = false ∧ ∃ kvs, DicK H R a kvs ∧ F2 (fun p q => keyS k q.1 = some p.1 ∧ (rS R t).1 p.2 q.2) kvs d) ∨
       (k.tk = true ∧ ∃ kvs, DicT H R a kvs ∧ F2 (fun p q => keyT k q.1 = some p.1 ∧ (rS R t).1 p.2 q.2) kvs d)), fun _ _ => False)
  | .own t => rS R t
  | .hl b => (fun v d => ∃ a vs, v = .ref a ∧ LstR K H R a vs ∧ (rS R b).2 vs d, fun _ _ => False)
  | .ins _ _ _ => (fun v _ => ∃ a, v = .ref a, fun _ _ => False)
  | .tup b => (fun v d => ∃ a vs, v = .ref a ∧ H a = some (.tup vs) ∧ (rS R b).2 vs d, fun _ _ => False)
  | .last a => (fun _ _ => False, fun vs d => ∃ v, vs = [v] ∧ (rS R a).1 v d)
  | .cons a b => (fun _ _ => False, fun vs d => ∃ v r, vs = v :: r ∧ (rS R a).1 v d.1 ∧ (rS R b).2 r d.2)
def kid {α : Type} (own : Bool) (s : V → α → Prop) (o : V → α → List Addr → Prop) : V → α → List Addr → Prop := fun v d f => o v d f ∨ (own = false ∧ f = [] ∧ s v d)
def rO (L : Reg) : (t : Ty) → (V → den t → List Addr → Prop) × (List V → den t → List Addr → Prop)
  | .non => (fun v _ f => f = [] ∧ v = .non, fun _ _ _ => False)
  | .bool => (fun v d f => f = [] ∧ v = .bl d, fun _ _ _ => False)
  | .int => (fun v d f => f = [] ∧ v = .int d, fun _ _ _ => False)
  | .str => (fun v d f => f = [] ∧ v = .str d ∧ PyData.strOk d = true, fun _ _ _ => False)
  | .any => (fun v d f => f = [] ∧ dv H d v, fun _ _ _ => False)
  | .exn => (fun v d f => f = [] ∧ ∃ a C, v = .ref a ∧ H a = some (ExK (.ref C) a) ∧ ClsN K d C, fun _ _ _ => False)
  | .alt a b => (fun v d f => match d with
      | .inl x => (rO L a).1 v x f
      | .inr y => (rO L b).1 v y f, fun _ _ _ => False)
  | .opt t => (fun v d f => match d with
      | none => f = [] ∧ v = .non
      | some x => v ≠ .non ∧ kid t.isOwn (rS K H L t).1 (rO L t).1 v x f, fun _ _ _ => False)
  | .vtup t => (fun v d f => ∃ a vs, v = .ref a ∧ H a = some (.tup vs) ∧ F3 (kid t.isOwn (rS K H L t).1 (rO L t).1) vs d f, fun _ _ _ => False)
  | .list t => (fun v d f => ∃ a vs g, v = .ref a ∧ f = a :: g ∧ H a = some (.lst vs) ∧ F3 (kid t.isOwn (rS K H L t).1 (rO L t).1) vs d g, fun _ _ _ => False)
  | .dict k t => (fun v d f => ∃ a g, v = .ref a ∧ f = a :: g ∧
      ((k.tk = false ∧ ∃ kvs, H a = some (.dK kvs) ∧ F3 (fun p q g => keyS k q.1 = some p.1 ∧ kid t.isOwn (rS K H L t).1 (rO L t).1 p.2 q.2 g) kvs d g) ∨
       (k.tk = true ∧ ∃ kvs, H a = some (.dT kvs) ∧ F3 (fun p q g => keyT k q.1 = some p.1 ∧ kid t.isOwn (rS K H L t).1 (rO L t).1 p.2 q.2 g) kvs d g)), fun _ _ _ => False)
  | .own t => rO L t
  | .hl b => (fun v d f => ∃ a vs g, v = .ref a ∧ f = a :: g ∧ H a = some (.lst vs) ∧ (rO L b).2 vs d g, fun _ _ _ => False)
  | .ins C ks b => (fun v d f => (ks = [] ∧ ∃ a qs, v = .ref a ∧ f = [a] ∧ nkRows b d = some qs ∧ NstD K.w H a qs) ∨
      (ks ≠ [] ∧ ∃ C' a dx fs g, v = .ref a ∧ f = a :: dx :: g ∧ ClsN K (clsNm C) C' ∧ H a = some (.ins C' dx fs) ∧ H dx = some (.own a) ∧ fs.map (·.1) = ks ∧ (rO L b).2 (fs.map (·.2)) d g), fun _ _ _ => False)
  | .tup b => (fun v d f => ∃ a vs, v = .ref a ∧ H a = some (.tup vs) ∧ (rO L b).2 vs d f, fun _ _ _ => False)
  | .last a => (fun _ _ _ => False, fun vs d f => ∃ v, vs = [v] ∧ kid a.isOwn (rS K H L a).1 (rO L a).1 v d f)
  | .cons a b => (fun _ _ _ => False, fun vs d f => ∃ v r f1 f2, vs = v :: r ∧ f = f1 ++ f2 ∧ kid a.isOwn (rS K H L a).1 (rO L a).1 v d.1 f1 ∧ (rO L b).2 r d.2 f2)
end
section
variable {K : KW} {H H' : Hp} {R R' L L' : Reg}
mutual
theorem dv_mono (s : Stb H H') : ∀ (d : PyData) (v : V), dv H d v → dv H' d v
  | .none, _, h => h
  | .bool _, _, h => h
  | .int _, _, h => h
  | .str _, _, h => h
  | .list _, _, h => h.elim
  | .tuple ds, _, h => by
    obtain ⟨a, vs, e, h1, h2⟩ := h
    exact ⟨a, vs, e, s.tup _ _ h1, dvs_mono s ds vs h2⟩
  | .dict _, _, h => h.elim
theorem dvs_mono (s : Stb H H') : ∀ (ds : List PyData) (vs : List V), dvs H ds vs → dvs H' ds vs
  | [], _, h => h
  | d :: ds, _, h => by
    obtain ⟨v, r, e, h1, h2⟩ := h
    exact ⟨v, r, e, dv_mono s d v h1, dvs_mono s ds r h2⟩
end
mutual
theorem dv_dp : ∀ (d : PyData) (v : V), dv H d v → Dp K H v d
  | .none, _, h => by cases h; exact .non
  | .bool _, _, h => by cases h; exact .bl _
  | .int _, _, h => by cases h; exact .int _
  | .str _, _, h => by obtain ⟨rfl, _⟩ := h; exact .str _
  | .list _, _, h => h.elim
  | .tuple ds, _, h => by
    obtain ⟨a, vs, rfl, h1, h2⟩ := h
    exact .tup (.of h1) (dvs_dp ds vs h2)
  | .dict _, _, h => h.elim
theorem dvs_dp : ∀ (ds : List PyData) (vs : List V), dvs H ds vs → DpAll K H vs ds
  | [], _, h => by cases h; exact .nil
  | d :: ds, _, h => by
    obtain ⟨v, r, rfl, h1, h2⟩ := h
    exact .cons (dv_dp d v h1) (dvs_dp ds r h2)
end
def Cov (H H' : Hp) (R R' : Reg) : Prop := ∀ a o, R a → stripD (H a) = some o → R' a ∧ stripD (H' a) = some o
theorem Cov.refl (H : Hp) (R : Reg) : Cov H H R R := fun _ _ h e => ⟨h, e⟩
theorem Cov.of_same (s : Same H H') (h : ∀ a, R a → (H a).isSome = true → R' a) : Cov H H' R R' := fun a o hr e => by
  refine ⟨h a hr (strip_some e), ?_⟩
  cases q : H a with
  | none => rw [q] at e; cases e
  | some x => rw [s _ _ q, ← q]; exact e
theorem Cov.of_reg (h : ∀ a, R a → (H a).isSome = true → R' a) : Cov H H R R' := Cov.of_same (Same.refl H) h
theorem LstR.mono {a : Addr} {vs : List V} (hc : Cov H H' R R') (hs : Stb H H') (h : LstR K H R a vs) : LstR K H' R' a vs := by
  rcases h with ⟨h1, h2⟩ | ⟨o, h⟩ | h
  · exact .inl (hc _ _ h1 h2)
  · exact .inr (.inl ⟨o, hs.frl _ _ _ h⟩)
  · exact .inr (.inr h)
theorem LstR.seq {a : Addr} {vs : List V} (h : LstR K H R a vs) : SqL K H a vs := by
  rcases h with ⟨h1, h2⟩ | ⟨o, h⟩ | h
  · exact .inl (.inl (strip_lst h2))
  · exact .inl (.inr ⟨o, h⟩)
  · exact .inr h
theorem LstR.of_seq {a : Addr} {vs : List V} (h : SqL K H a vs) : LstR K H (fun a => (H a).isSome = true) a vs := by
  rcases h with (h | ⟨o, h⟩) | h
  · exact .inl ⟨by show (H a).isSome = true; rw [h]; rfl, by rw [h]; rfl⟩
  · exact .inr (.inl ⟨o, h⟩)
  · exact .inr (.inr h)
theorem DicK.mono {a : Addr} {kvs : List (Key × V)} (hc : Cov H H' R R') (h : DicK H R a kvs) : DicK H' R' a kvs := hc _ _ h.1 h.2
theorem DicT.mono {a : Addr} {kvs : List (List Key × V)} (hc : Cov H H' R R') (h : DicT H R a kvs) : DicT H' R' a kvs := hc _ _ h.1 h.2
theorem rS_mono (hc : Cov H H' R R') (hs : Stb H H') : ∀ t : Ty,
    (∀ v d, (rS K H R t).1 v d → (rS K H' R' t).1 v d) ∧ (∀ vs d, (rS K H R t).2 vs d → (rS K H' R' t).2 vs d) := by
  intro t
  induction t with
  | non => exact ⟨fun _ _ h => h, fun _ _ h => h⟩
  | bool => exact ⟨fun _ _ h => h, fun _ _ h => h⟩
  | int => exact ⟨fun _ _ h => h, fun _ _ h => h⟩
  | str => exact ⟨fun _ _ h => h, fun _ _ h => h⟩
  | any => exact ⟨fun v d h => dv_mono hs d v h, fun _ _ h => h⟩
  | exn => exact ⟨fun v d ⟨a, C, e, h, c⟩ => ⟨a, C, e, hs.ext _ _ h, c⟩, fun _ _ h => h⟩
  | alt a b iha ihb =>
    refine ⟨fun v d h => ?_, fun _ _ h => h⟩
    cases d with
    | inl x => exact iha.1 v x h
    | inr x => exact ihb.1 v x h
  | opt t ih =>
    refine ⟨fun v d h => ?_, fun _ _ h => h⟩
    cases d with
    | none => exact h
    | some x => exact ⟨h.1, ih.1 v x h.2⟩
  | vtup t ih =>
    refine ⟨fun v d h => ?_, fun _ _ h => h⟩
    obtain ⟨a, vs, e, h1, h2⟩ := h
    exact ⟨a, vs, e, hs.tup _ _ h1, h2.imp ih.1⟩
  | list t ih =>
    refine ⟨fun v d h => ?_, fun _ _ h => h⟩
    obtain ⟨a, vs, e, h1, h2⟩ := h
    exact ⟨a, vs, e, h1.mono hc hs, h2.imp ih.1⟩
  | dict k t _ ih =>
    refine ⟨fun v d h => ?_, fun _ _ h => h⟩
    obtain ⟨a, e, ⟨k1, kvs, h1, h2⟩ | ⟨k1, kvs, h1, h2⟩⟩ := h
    · exact ⟨a, e, .inl ⟨k1, kvs, h1.mono hc, h2.imp fun p q x => ⟨x.1, ih.1 _ _ x.2⟩⟩⟩
    · exact ⟨a, e, .inr ⟨k1, kvs, h1.mono hc, h2.imp fun p q x => ⟨x.1, ih.1 _ _ x.2⟩⟩⟩
  | own t ih => exact ih
  | hl b ih =>
    refine ⟨fun v d h => ?_, fun _ _ h => h⟩
    obtain ⟨a, vs, e, h1, h2⟩ := h
    exact ⟨a, vs, e, h1.mono hc hs, ih.2 _ _ h2⟩
  | ins C ks b ih => exact ⟨fun v d h => h, fun _ _ h => h⟩
  | tup b ih =>
    refine ⟨fun v d h => ?_, fun _ _ h => h⟩
    obtain ⟨a, vs, e, h1, h2⟩ := h
    exact ⟨a, vs, e, hs.tup _ _ h1, ih.2 _ _ h2⟩
  | last a ih =>
    refine ⟨fun _ _ h => h, fun vs d h => ?_⟩
    obtain ⟨v, e, h⟩ := h
    exact ⟨v, e, ih.1 _ _ h⟩
  | cons a b iha ihb =>
    refine ⟨fun _ _ h => h, fun vs d h => ?_⟩
    obtain ⟨v, r, e, h1, h2⟩ := h
    exact ⟨v, r, e, iha.1 _ _ h1, ihb.2 _ _ h2⟩
theorem kid_mono {α : Type} {own : Bool} {s s' : V → α → Prop} {o o' : V → α → List Addr → Prop} {f : List Addr} {v : V} {d : α} (h1 : s v d → s' v d) (h2 : o v d f → o' v d f) (h : kid own s o v d f) : kid own s' o' v d f := by
  rcases h with h | ⟨h3, h4, h⟩
  · exact .inl (h2 h)
  · exact .inr ⟨h3, h4, h1 h⟩
theorem rO_mono (hc : Cov H H' L L') (hs : Stb H H') : ∀ t : Ty,
    (∀ v d f, (∀ a ∈ f, H' a = H a) → (rO K H L t).1 v d f → (rO K H' L' t).1 v d f) ∧ (∀ vs d f, (∀ a ∈ f, H' a = H a) → (rO K H L t).2 vs d f → (rO K H' L' t).2 vs d f) := by
  intro t
  have sm : ∀ t v d, (rS K H L t).1 v d → (rS K H' L' t).1 v d := fun t => (rS_mono hc hs t).1
  induction t with
  | non => exact ⟨fun _ _ _ _ h => h, fun _ _ _ _ h => h⟩
  | bool => exact ⟨fun _ _ _ _ h => h, fun _ _ _ _ h => h⟩
  | int => exact ⟨fun _ _ _ _ h => h, fun _ _ _ _ h => h⟩
  | str => exact ⟨fun _ _ _ _ h => h, fun _ _ _ _ h => h⟩
  | any => exact ⟨fun v d f _ h => ⟨h.1, dv_mono hs d v h.2⟩, fun _ _ _ _ h => h⟩
  | exn => exact ⟨fun v d f _ ⟨z, a, C, e, h, c⟩ => ⟨z, a, C, e, hs.ext _ _ h, c⟩, fun _ _ _ _ h => h⟩
  | alt a b iha ihb =>
    refine ⟨fun v d f hf h => ?_, fun _ _ _ _ h => h⟩
    cases d with
    | inl x => exact iha.1 v x f hf h
    | inr x => exact ihb.1 v x f hf h
  | opt t ih =>
    refine ⟨fun v d f hf h => ?_, fun _ _ _ _ h => h⟩
    cases d with
    | none => exact h
    | some x => exact ⟨h.1, kid_mono (sm t v x) (ih.1 v x f hf) h.2⟩
  | vtup t ih =>
    refine ⟨fun v d f hf h => ?_, fun _ _ _ _ h => h⟩
    obtain ⟨a, vs, e, h1, h2⟩ := h
    exact ⟨a, vs, e, hs.tup _ _ h1, h2.imp fun v d g hg x => kid_mono (sm t v d) (ih.1 v d g fun a ha => hf a (hg a ha)) x⟩
  | list t ih =>
    refine ⟨fun v d f hf h => ?_, fun _ _ _ _ h => h⟩
    obtain ⟨a, vs, g, e, rfl, h1, h2⟩ := h
    exact ⟨a, vs, g, e, rfl, (hf a List.mem_cons_self).trans h1, h2.imp fun v d g' hg x => kid_mono (sm t v d) (ih.1 v d g' fun a ha => hf a (List.mem_cons_of_mem _ (hg a ha))) x⟩
  | dict k t _ ih =>
    refine ⟨fun v d f hf h => ?_, fun _ _ _ _ h => h⟩
    obtain ⟨a, g, e, rfl, ⟨k1, kvs, h1, h2⟩ | ⟨k1, kvs, h1, h2⟩⟩ := h
    · exact ⟨a, g, e, rfl, .inl ⟨k1, kvs, (hf a List.mem_cons_self).trans h1, h2.imp fun p q g' hg x => ⟨x.1, kid_mono (sm t _ _) (ih.1 _ _ g' fun a ha => hf a (List.mem_cons_of_mem _ (hg a ha))) x.2⟩⟩⟩
    · exact ⟨a, g, e, rfl, .inr ⟨k1, kvs, (hf a List.mem_cons_self).trans h1, h2.imp fun p q g' hg x => ⟨x.1, kid_mono (sm t _ _) (ih.1 _ _ g' fun a ha => hf a (List.mem_cons_of_mem _ (hg a ha))) x.2⟩⟩⟩
  | own t ih => exact ih
  | hl b ih =>
    refine ⟨fun v d f hf h => ?_, fun _ _ _ _ h => h⟩
    obtain ⟨a, vs, g, e, rfl, h1, h2⟩ := h
    exact ⟨a, vs, g, e, rfl, (hf a List.mem_cons_self).trans h1, ih.2 _ _ _ (fun a ha => hf a (List.mem_cons_of_mem _ ha)) h2⟩
  | ins C ks b ih =>
    refine ⟨fun v d f hf h => ?_, fun _ _ _ _ h => h⟩
    rcases h with ⟨hk, a, qs, e, rfl, h1, h2⟩ | ⟨hk, C', a, dx, fs, g, e, rfl, h0, h1, h2, h3, h4⟩
    · exact .inl ⟨hk, a, qs, e, rfl, h1, h2.stb hs (hf a List.mem_cons_self)⟩
    · exact .inr ⟨hk, C', a, dx, fs, g, e, rfl, h0, (hf a List.mem_cons_self).trans h1, (hf dx (List.mem_cons_of_mem _ List.mem_cons_self)).trans h2, h3, ih.2 _ _ _ (fun a ha => hf a (List.mem_cons_of_mem _ (List.mem_cons_of_mem _ ha))) h4⟩
  | tup b ih =>
    refine ⟨fun v d f hf h => ?_, fun _ _ _ _ h => h⟩
    obtain ⟨a, vs, e, h1, h2⟩ := h
    exact ⟨a, vs, e, hs.tup _ _ h1, ih.2 _ _ _ hf h2⟩
  | last a ih =>
    refine ⟨fun _ _ _ _ h => h, fun vs d f hf h => ?_⟩
    obtain ⟨v, e, h⟩ := h
    exact ⟨v, e, kid_mono (sm a v d) (ih.1 v d f hf) h⟩
  | cons a b iha ihb =>
    refine ⟨fun _ _ _ _ h => h, fun vs d f hf h => ?_⟩
    obtain ⟨v, r, f1, f2, e, rfl, h1, h2⟩ := h
    exact ⟨v, r, f1, f2, e, rfl, kid_mono (sm a v d.1) (iha.1 v d.1 f1 fun a ha => hf a (List.mem_append_left _ ha)) h1, ihb.2 _ _ _ (fun a ha => hf a (List.mem_append_right _ ha)) h2⟩
theorem kid_s {t : Ty} {f : List Addr} {v : V} {d : den t} (hL : ∀ a, L a → R a) (h2 : (rO K H L t).1 v d f → (rS K H R t).1 v d) (h : kid t.isOwn (rS K H L t).1 (rO K H L t).1 v d f) : (rS K H R t).1 v d := by
  rcases h with h | ⟨_, _, h⟩
  · exact h2 h
  · exact (rS_mono (Cov.of_reg fun a h _ => hL a h) (Stb.refl H) t).1 v d h
theorem rO_s (hL : ∀ a, L a → R a) : ∀ t : Ty,
    (∀ v d f, (∀ a ∈ f, R a) → (rO K H L t).1 v d f → (rS K H R t).1 v d) ∧ (∀ vs d f, (∀ a ∈ f, R a) → (rO K H L t).2 vs d f → (rS K H R t).2 vs d) := by
  intro t
  induction t with
  | non => exact ⟨fun _ _ _ _ h => h.2, fun _ _ _ _ h => h⟩
  | bool => exact ⟨fun _ _ _ _ h => h.2, fun _ _ _ _ h => h⟩
  | int => exact ⟨fun _ _ _ _ h => h.2, fun _ _ _ _ h => h⟩
  | str => exact ⟨fun _ _ _ _ h => h.2, fun _ _ _ _ h => h⟩
  | any => exact ⟨fun v d f _ h => h.2, fun _ _ _ _ h => h⟩
  | exn => exact ⟨fun v d f _ h => h.2, fun _ _ _ _ h => h⟩
  | alt a b iha ihb =>
    refine ⟨fun v d f hf h => ?_, fun _ _ _ _ h => h⟩
    cases d with
    | inl x => exact iha.1 v x f hf h
    | inr x => exact ihb.1 v x f hf h
  | opt t ih =>
    refine ⟨fun v d f hf h => ?_, fun _ _ _ _ h => h⟩
    cases d with
    | none => exact h.2
    | some x => exact ⟨h.1, kid_s hL (ih.1 v x f hf) h.2⟩
  | vtup t ih =>
    refine ⟨fun v d f hf h => ?_, fun _ _ _ _ h => h⟩
    obtain ⟨a, vs, e, h1, h2⟩ := h
    exact ⟨a, vs, e, h1, h2.to2 fun v d g hg x => kid_s hL (ih.1 v d g fun a ha => hf a (hg a ha)) x⟩
  | list t ih =>
    refine ⟨fun v d f hf h => ?_, fun _ _ _ _ h => h⟩
    obtain ⟨a, vs, g, e, rfl, h1, h2⟩ := h
    exact ⟨a, vs, e, .inl ⟨hf a List.mem_cons_self, strip_of h1 rfl⟩, h2.to2 fun v d g' hg x => kid_s hL (ih.1 v d g' fun a ha => hf a (List.mem_cons_of_mem _ (hg a ha))) x⟩
  | dict k t _ ih =>
    refine ⟨fun v d f hf h => ?_, fun _ _ _ _ h => h⟩
    obtain ⟨a, g, e, rfl, ⟨k1, kvs, h1, h2⟩ | ⟨k1, kvs, h1, h2⟩⟩ := h
    · exact ⟨a, e, .inl ⟨k1, kvs, ⟨hf a List.mem_cons_self, strip_of h1 rfl⟩, h2.to2 fun p q g' hg x => ⟨x.1, kid_s hL (ih.1 _ _ g' fun a ha => hf a (List.mem_cons_of_mem _ (hg a ha))) x.2⟩⟩⟩
    · exact ⟨a, e, .inr ⟨k1, kvs, ⟨hf a List.mem_cons_self, strip_of h1 rfl⟩, h2.to2 fun p q g' hg x => ⟨x.1, kid_s hL (ih.1 _ _ g' fun a ha => hf a (List.mem_cons_of_mem _ (hg a ha))) x.2⟩⟩⟩
  | own t ih => exact ih
  | hl b ih =>
    refine ⟨fun v d f hf h => ?_, fun _ _ _ _ h => h⟩
    obtain ⟨a, vs, g, e, rfl, h1, h2⟩ := h
    exact ⟨a, vs, e, .inl ⟨hf a List.mem_cons_self, strip_of h1 rfl⟩, ih.2 _ _ _ (fun a ha => hf a (List.mem_cons_of_mem _ ha)) h2⟩
  | ins C ks b ih =>
    refine ⟨fun v d f hf h => ?_, fun _ _ _ _ h => h⟩
    rcases h with ⟨_, a, _, e, _⟩ | ⟨_, _, a, _, _, _, e, _⟩
    · exact ⟨a, e⟩
    · exact ⟨a, e⟩
  | tup b ih =>
    refine ⟨fun v d f hf h => ?_, fun _ _ _ _ h => h⟩
    obtain ⟨a, vs, e, h1, h2⟩ := h
    exact ⟨a, vs, e, h1, ih.2 _ _ _ hf h2⟩
  | last a ih =>
    refine ⟨fun _ _ _ _ h => h, fun vs d f hf h => ?_⟩
    obtain ⟨v, e, h⟩ := h
    exact ⟨v, e, kid_s hL (ih.1 v d f hf) h⟩
  | cons a b iha ihb =>
    refine ⟨fun _ _ _ _ h => h, fun vs d f hf h => ?_⟩
    obtain ⟨v, r, f1, f2, e, rfl, h1, h2⟩ := h
    exact ⟨v, r, e, kid_s hL (iha.1 v d.1 f1 fun a ha => hf a (List.mem_append_left _ ha)) h1, ihb.2 _ _ _ (fun a ha => hf a (List.mem_append_right _ ha)) h2⟩
theorem rS_frz : ∀ t : Ty, t.frz = true → (∀ v d, (rS K H R t).1 v d → (rS K H R' t).1 v d) ∧ (∀ vs d, (rS K H R t).2 vs d → (rS K H R' t).2 vs d) := by
  intro t
  induction t with
  | non => exact fun _ => ⟨fun _ _ h => h, fun _ _ h => h⟩
  | bool => exact fun _ => ⟨fun _ _ h => h, fun _ _ h => h⟩
  | int => exact fun _ => ⟨fun _ _ h => h, fun _ _ h => h⟩
  | str => exact fun _ => ⟨fun _ _ h => h, fun _ _ h => h⟩
  | any => exact fun _ => ⟨fun _ _ h => h, fun _ _ h => h⟩
  | exn => exact fun _ => ⟨fun _ _ h => h, fun _ _ h => h⟩
  | alt a b iha ihb =>
    intro q
    simp only [Ty.frz, Bool.and_eq_true] at q
    refine ⟨fun v d h => ?_, fun _ _ h => h⟩
    cases d with
    | inl x => exact (iha q.1).1 v x h
    | inr x => exact (ihb q.2).1 v x h
  | opt t ih =>
    intro q
    refine ⟨fun v d h => ?_, fun _ _ h => h⟩
    cases d with
    | none => exact h
    | some x => exact ⟨h.1, (ih q).1 v x h.2⟩
  | vtup t ih =>
    intro q
    refine ⟨fun v d h => ?_, fun _ _ h => h⟩
    obtain ⟨a, vs, e, h1, h2⟩ := h
    exact ⟨a, vs, e, h1, h2.imp (ih q).1⟩
  | list t ih => exact fun q => absurd q (by simp [Ty.frz])
  | dict k t _ ih => exact fun q => absurd q (by simp [Ty.frz])
  | own t ih => exact fun q => absurd q (by simp [Ty.frz])
  | hl b ih => exact fun q => absurd q (by simp [Ty.frz])
  | ins C ks b ih => exact fun q => absurd q (by simp [Ty.frz])
  | tup b ih =>
    intro q
    refine ⟨fun v d h => ?_, fun _ _ h => h⟩
    obtain ⟨a, vs, e, h1, h2⟩ := h
    exact ⟨a, vs, e, h1, (ih q).2 _ _ h2⟩
  | last a ih =>
    intro q
    refine ⟨fun _ _ h => h, fun vs d h => ?_⟩
    obtain ⟨v, e, h⟩ := h
    exact ⟨v, e, (ih q).1 _ _ h⟩
  | cons a b iha ihb =>
    intro q
    simp only [Ty.frz, Bool.and_eq_true] at q
    refine ⟨fun _ _ h => h, fun vs d h => ?_⟩
    obtain ⟨v, r, e, h1, h2⟩ := h
    exact ⟨v, r, e, (iha q.1).1 _ _ h1, (ihb q.2).2 _ _ h2⟩
theorem rS_o : ∀ t : Ty, t.frz = true → (∀ v d, (rS K H R t).1 v d → (rO K H L t).1 v d []) ∧ (∀ vs d, (rS K H R t).2 vs d → (rO K H L t).2 vs d []) := by
  intro t
  induction t with
  | non => exact fun _ => ⟨fun _ _ h => ⟨rfl, h⟩, fun _ _ h => h⟩
  | bool => exact fun _ => ⟨fun _ _ h => ⟨rfl, h⟩, fun _ _ h => h⟩
  | int => exact fun _ => ⟨fun _ _ h => ⟨rfl, h⟩, fun _ _ h => h⟩
  | str => exact fun _ => ⟨fun _ _ h => ⟨rfl, h⟩, fun _ _ h => h⟩
  | any => exact fun _ => ⟨fun _ _ h => ⟨rfl, h⟩, fun _ _ h => h⟩
  | exn => exact fun _ => ⟨fun _ _ h => ⟨rfl, h⟩, fun _ _ h => h⟩
  | alt a b iha ihb =>
    intro q
    simp only [Ty.frz, Bool.and_eq_true] at q
    refine ⟨fun v d h => ?_, fun _ _ h => h⟩
    cases d with
    | inl x => exact (iha q.1).1 v x h
    | inr x => exact (ihb q.2).1 v x h
  | opt t ih =>
    intro q
    refine ⟨fun v d h => ?_, fun _ _ h => h⟩
    cases d with
    | none => exact ⟨rfl, h⟩
    | some x => exact ⟨h.1, .inl ((ih q).1 v x h.2)⟩
  | vtup t ih =>
    intro q
    refine ⟨fun v d h => ?_, fun _ _ h => h⟩
    obtain ⟨a, vs, e, h1, h2⟩ := h
    exact ⟨a, vs, e, h1, F3.of2 (fun v d x => .inl ((ih q).1 v d x)) h2⟩
  | list t ih => exact fun q => absurd q (by simp [Ty.frz])
  | dict k t _ ih => exact fun q => absurd q (by simp [Ty.frz])
  | own t ih => exact fun q => absurd q (by simp [Ty.frz])
  | hl b ih => exact fun q => absurd q (by simp [Ty.frz])
  | ins C ks b ih => exact fun q => absurd q (by simp [Ty.frz])
  | tup b ih =>
    intro q
    refine ⟨fun v d h => ?_, fun _ _ h => h⟩
    obtain ⟨a, vs, e, h1, h2⟩ := h
    exact ⟨a, vs, e, h1, (ih q).2 _ _ h2⟩
  | last a ih =>
    intro q
    refine ⟨fun _ _ h => h, fun vs d h => ?_⟩
    obtain ⟨v, e, h⟩ := h
    exact ⟨v, e, .inl ((ih q).1 _ _ h)⟩
  | cons a b iha ihb =>
    intro q
    simp only [Ty.frz, Bool.and_eq_true] at q
    refine ⟨fun _ _ h => h, fun vs d h => ?_⟩
    obtain ⟨v, r, e, h1, h2⟩ := h
    exact ⟨v, r, [], [], e, rfl, .inl ((iha q.1).1 _ _ h1), (ihb q.2).2 _ _ h2⟩
end
end VV
namespace L2
open PySem PySem.Spec PySem.W PyProof.Rows
section
variable {X : Cx}
structure SortOk {β : Type} (enc : β → PyData) (bs : List β) : Prop where
  al : AllAlike (bs.map enc)
  so : Sortable (bs.map enc)
  dep : ∀ b ∈ bs, (enc b).depth ≤ 60
variable {pins : List (Addr × Obj)} {σ : St} {H : Hp} {s : Shared}
end
end L2
namespace L2
open PySem PySem.Spec PySem.W PyProof.Rows
def isDct : HO → Bool
  | .dK _ => true
  | .dT _ => true
  | _ => false
def lenOf : HO → Nat
  | .dK kvs => kvs.length
  | .dT kvs => kvs.length
  | _ => 0
section
variable {X : Cx} {pins : List (Addr × Obj)} {σ : St} {H : Hp} {s : Shared} {d : Addr} {u : HO}
end
section
variable {P : Program} {w : World} {K : PySem.W.Frag} {tg : Expr} {d : Addr} {od : Obj} {u : HO} {ep : Nat}
end
section
variable {X : Cx} {tg e : Expr} {td : TE} {apos cpos : Pos} {pins : List (Addr × Obj)} {σ : St} {s : Shared}
end
section
variable {X : Cx} {pins : List (Addr × Obj)} {σ : St} {H : Hp} {s : Shared} {d : Addr} {u : HO}
end
end L2
namespace L2
open PySem PySem.Spec PySem.W PyProof.Rows
section
variable {X : Cx} {o e f : Expr} {td ty tx : TE} {apos cpos : Pos}
end
section
variable {P : Program} {w : World} {A : Around} {E : Value → Shared → Prop} {s : Shared}
end
section
variable {X : Cx}
end
end L2
namespace L2
open PySem PySem.Spec PySem.W PyProof.Rows
section
variable {X : Cx} {a b c d e : Expr} {ta tb tc td te : TE} {pos p2 : Pos}
end
end L2
set_option maxHeartbeats 1000000
namespace RT
open PySem PySem.Spec PyProof.Rows
section
variable {prog : Program} {w : World} {A : Around} {E : Value → Shared → Prop} {s : Shared}
end
structure Drains (prog : Program) (w : World) (T : String) (I : Addr) (fp : List Addr) (n : Nat) (P : Nat → Value → Prop) (Z : Nat → Heap → Prop) : Prop where
  cls : ∀ i h, Z i h → ∃ o, h.get? I = some o ∧ o.cls = .type T
  nl : (Value.type T == Value.type "list") = false
  nt : (Value.type T == Value.type "tuple") = false
  hint : ∀ (A : Around) (E : Value → Shared → Prop) (s : Shared) (Q : Bool → Shared → Prop), Z 0 s.heap → (∀ k tk, Q k { s with toks := tk }) → wpAny (model prog w) A (Builtin.List.listLengthHint (.ref I)) Q E s
  walk : ∀ A : Around, A.handled = none → Walks prog w A I fp [I] n P Z
section
variable {prog : Program} {w : World} {A : Around} {E : Value → Shared → Prop} {s : Shared} {T : String} {I : Addr} {fp : List Addr} {n : Nat} {P : Nat → Value → Prop} {Z : Nat → Heap → Prop}
end
end RT
namespace L2
open PySem PySem.Spec PySem.W PyProof.Rows RT
section
variable {X : Cx}
def HasK (H : Hp) (a : Addr) (ks : List (Key × V)) : Prop := H a = some (.dK ks) ∨ ∃ o, H a = some (.frz o (.dK ks))
theorem HasK.ok {pins : List (Addr × Obj)} {σ : St} {H : Hp} {s : Shared} {a : Addr} {ks : List (Key × V)} (I : Inv X pins σ H s) (h : HasK H a ks) : (a == sysModules) = false ∧ ∃ va, KV ks va ∧ s.heap.DictOf (mixKind X.prog X.w) a va := by
  rcases h with h | ⟨o, h⟩
  · obtain ⟨_, y, va, r, d⟩ := (show ObjOk X.prog X.w H s.heap a (.dK ks) from I.hok a _ h)
    exact ⟨y, va, r, d⟩
  · obtain ⟨_, _, y, va, r, d⟩ := (show ObjOk X.prog X.w H s.heap a (.frz o (.dK ks)) from I.hok a _ h)
    exact ⟨y, va, r, d⟩
end
end L2
namespace L2
open PySem PySem.SeqAt
section
variable {X : Cx}
end
end L2
set_option maxHeartbeats 1000000
namespace EN
open PySem PySem.Spec PySem.W PyProof.Rows L2
end EN
namespace L2
open PySem PySem.Spec PyProof.Rows
section
variable {X : Cx}
structure PairT (K : PySem.W.Frag) (H : Hp) (p : Addr) (q : Addr × List Key × V) : Prop where
  tup : SqT K H p [.ref q.1, q.2.2]
  key : H q.1 = some (.tup (q.2.1.map kV))
end
end L2
namespace L2
open PySem PySem.Spec PyProof.Rows
section
variable {X : Cx}
end
end L2
namespace PySem
open AutoSeq1
end PySem
namespace L2
open PySem PySem.Spec PyProof.Rows
section
variable {X : Cx}
end
end L2
namespace L2
open PySem PySem.SeqAt
section
variable {X : Cx}
end
end L2
namespace L2
open PySem PySem.Spec PySem.W PyProof.Rows
section
variable {X : Cx}
end
end L2
set_option maxHeartbeats 1000000
namespace RT
open PySem PySem.Spec PyProof.Rows
section
variable {prog : Program} {w : World} {A : Around} {E : Value → Shared → Prop} {s : Shared} {I : Addr} {fp : List Addr} {n : Nat} {P : Nat → Value → Prop} {Z : Nat → Heap → Prop}
end
end RT
namespace L2
open PySem PySem.Spec PySem.W PyProof.Rows RT
section
variable {X : Cx}
end
end L2
namespace L2
open PySem PySem.Spec PySem.W PyProof.Rows
section
variable {X : Cx} {x : Str} {p pos : Pos} {e : Expr} {es : List Expr} {kws : List Keyword} {ks : List Str} {t tk : TA} {id : String} {r : List V → List V → Hp → VK → Prop}
end
end L2
set_option maxHeartbeats 1000000
namespace L2
open PySem PySem.Spec PyProof.Rows VV
section
variable {X : Cx} {pins : List (Addr × Obj)} {σ : St} {H : Hp} {sI s s' : Shared} {B : Heap} {a : Addr} {o : HO}
theorem exK_ok {P : Program} {w : World} {h : Heap} {cls : Value} {oe : Obj} {vs : Array Value} (e : h.get? a = some oe) (z : Zc cls none oe) (d : oe.data = .fields vs) : ObjOk P w H h a (ExK cls a) :=
  ⟨⟨oe, vs, e, z, d⟩, ⟨oe, e⟩, fun _ _ ⟨o, v, q, r⟩ k => ⟨o, v, k o q, r⟩⟩
theorem Inv.landedX (I : Inv X pins σ H sI) (nb : ∀ b o, sI.heap.get? b = some o → b ∉ frs X.stack → B.get? b = some o) (st : B.StaysIn s'.heap) (up : sI.heap.UpToSlots s'.heap) (os : s'.os = sI.os) (ag : AllBare s'.gens)
    (ha : sI.heap.get? a = none) (na : H a = none) (new : ObjOk X.prog X.w (upd H a o) s'.heap a o) : Inv X pins σ (upd H a o) s' := by
  have nf : ∀ b ∈ frs X.stack, ∀ o, sI.heap.get? b = some o → ∃ sl, s'.heap.get? b = some { o with slots := sl } := fun b hb o e => by
    obtain ⟨_, o', e', hd⟩ := I.stack.mem hb
    rw [e] at e'; cases e'
    exact up b o e hd
  have J := I.call (ch := []) (h' := s'.heap) (g' := s'.gens) (t' := s'.toks) (d' := s'.drawn) (H' := upd H a o)
    ⟨fun b o e _ hb _ => st b o (nb b o e hb), fun b o e _ hb _ => nf b hb o e, fun b o' e n _ => by rw [upd_ne (fun z => by rw [z, ha] at e; cases e)]; exact n, fun b o e _ => by
      by_cases hb : b ∈ frs X.stack
      · obtain ⟨sl, q⟩ := nf b hb o e
        exact ⟨_, q⟩
      · exact ⟨o, st b o (nb b o e hb)⟩, fun b xs e => by rw [upd_ne (ne_of_none e na)]; exact e, fun b _ _ e => by rw [upd_ne (ne_of_none e na)]; exact e, fun b ps e => ⟨#[], by rw [upd_ne (ne_of_none e na), e]; simp⟩⟩
    (HOk.laidN (I.inGround nb) st na new) ag (fun _ z => nomatch z)
  obtain ⟨a1, a2, a3, a4, a5⟩ := s'
  have e5 : a5 = sI.os := os
  subst e5
  exact J
theorem Inv.suite0 (I : Inv X pins σ H s) (b : Addr) : Inv (X.suite b (X.pn ++ pins)) [] σ H s :=
  ⟨I.ok.suite _ _, I.os, I.bare, I.base, I.loc, I.cell, I.free, I.freeC, fun p hp => I.pin p (by rw [List.append_nil] at hp; exact hp), I.hok, I.len⟩
theorem Inv.unsuite0 {b : Addr} {pn' : List (Addr × Obj)} (I : Inv (X.suite b (X.pn ++ pins)) pn' σ H s) (ok : X.Ok) : Inv X pins σ H s :=
  ⟨ok, I.os, I.bare, I.base, I.loc, I.cell, I.free, I.freeC, fun p hp => I.pin p (List.mem_append_left _ hp), I.hok, I.len⟩
end
theorem flyZ_keeps {B h h' : Heap} {l : List Env} {e : Addr} {Z : Obj → Prop} (R : HandSPX.FlyingZ B l e Z h) (k : ∀ b o, h.get? b = some o → h'.get? b = some o) : HandSPX.FlyingZ B l e Z h' := by
  obtain ⟨f1, f2, f3, oe, vs, T, oT, ts, he, hz, hd, h1, hn, hne, hT, hdT, h3⟩ := R
  exact ⟨fun b o q => k b o (f1 b o q), f2, f3.of_keeps fun b o q _ => ⟨o, k b o q, rfl⟩, oe, vs, T, oT, ts, k _ _ he, hz, hd, h1, hn, hne, k _ _ hT, hdT, h3⟩
def none5 (K : PySem.W.Frag) (cls : Value) (cs : List Value) : Prop := ∀ c ∈ cs, PySem.W.exmOne K cls c = some false
theorem exm_tup5 {M : Model} {K : PySem.W.Frag} {c1 c2 c3 c4 c5 cls : Value} {tp e : Addr} {h : Heap} (X : K.In h) (LT : PySem.W.Looks M h (typeOf (.ref e)) cls) (hp : h.get? tp = some { cls := .type "tuple", data := .seq [c1, c2, c3, c4, c5].toArray })
    (hx : none5 K cls [c1, c2, c3, c4, c5]) : PySem.W.Looks M h (excMatches (.ref e) (.ref tp)) false := by
  intro A Q E s k₀ q
  obtain ⟨hh, g, d, tk, os⟩ := s
  have k : ∀ b o, h.get? b = some o → hh.get? b = some o := k₀
  have LT0 : PySem.W.Looks M h (isInstance (.ref tp) (.type "tuple")) true := ((PySem.W.Looks.ld hp).andThen .now).andThen (PySem.W.Looks.of_pure isSubtype_tuple_tuple)
  obtain ⟨e1, S1⟩ := PySem.W.exm_cls (M := M) X (hx c1 (by simp))
  obtain ⟨e2, S2⟩ := PySem.W.exm_cls (M := M) X (hx c2 (by simp))
  obtain ⟨e3, S3⟩ := PySem.W.exm_cls (M := M) X (hx c3 (by simp))
  obtain ⟨e4, S4⟩ := PySem.W.exm_cls (M := M) X (hx c4 (by simp))
  obtain ⟨e5, S5⟩ := PySem.W.exm_cls (M := M) X (hx c5 (by simp))
  have e1 := e1.keeps k
  have S1 := S1.keeps k
  have e2 := e2.keeps k
  have S2 := S2.keeps k
  have e3 := e3.keeps k
  have S3 := S3.keeps k
  have e4 := e4.keeps k
  have S4 := S4.keeps k
  have e5 := e5.keeps k
  have S5 := S5.keeps k
  have LT := LT.keeps k
  have LT0 := LT0.keeps k
  have hp' := k _ _ hp
  unfold excMatches
  refine wpAny_bind (LT0.at ?_)
  dsimp only
  rw [if_pos rfl]
  first
    | refine wpAny_bind (wpAny_seqItems hp' rfl ?_)
    | refine wpAny_bind (wpAny_bind (wpAny_seqItems hp' rfl (wpAny_pure ?_)))
  dsimp only [Option.getD_some, Option.getD]
  repeat (first | simp only [List.forIn_cons, List.forIn_nil, Bool.not_true, Bool.false_eq_true, if_false, if_true] | lk)
  exact q
inductive Cla where
  | mk (c : Value) (i : Option Nat) (ts : TS)
  | none5 (cs : List Value)
def offD (D : Ends) : Option Nat → Ends
  | none => D
  | some i => { nx := fun σ' H' => D.nx (σ'.set i none) H', rt := D.rt, bk := fun σ' H' => D.bk (σ'.set i none) H', ct := fun σ' H' => D.ct (σ'.set i none) H' }
def onS (σ : St) (a : Addr) : Option Nat → St
  | none => σ
  | some i => σ.set i (some (.ref a))
def wKeep (K : PySem.W.Frag) (Wout : WX) (D : Ends) : List Cla → WX
  | [] => Wout
  | .mk c i ts :: r => fun cls d σ H => ∃ b, PySem.W.exmOne K cls c = some b ∧ (b = true → d = none ∧ ∀ a, H a = none → ts (offD D i) (onS σ a i) (upd H a (ExK cls a))) ∧ (b = false → wKeep K Wout D r cls d σ H)
  | .none5 cs :: r => fun cls d σ H => none5 K cls cs ∧ wKeep K Wout D r cls d σ H
inductive ClsOk (X : Cx) : List ExceptHandler → List Cla → Prop
  | nil : ClsOk X [] []
  | one {x : Str} {c : Value} {ts : TS} {b₀ : Stmt} {suite : List Stmt} {np pos' : Pos} {hds : List ExceptHandler} {l : List Cla} (hc : Names X x c)
      (hsu : ∀ (a : Addr) (pn : List (Addr × Obj)), PSs (X.suite a pn) (b₀ :: suite) ts) (r : ClsOk X hds l) :
      ClsOk X (.ExceptHandler (some (.Name x np)) none (b₀ :: suite) pos' :: hds) (.mk c none ts :: l)
  | as_ {x n : Str} {c : Value} {i : Nat} {ts : TS} {b₀ : Stmt} {suite : List Stmt} {np pos' : Pos} {hds : List ExceptHandler} {l : List Cla} (hc : Names X x c) (hi : X.N[i]? = some n) (hln : X.env.kindOf n = some .local)
      (hsu : ∀ (a : Addr) (pn : List (Addr × Obj)), PSs (X.suite a pn) (b₀ :: suite) ts) (r : ClsOk X hds l) :
      ClsOk X (.ExceptHandler (some (.Name x np)) (some n) (b₀ :: suite) pos' :: hds) (.mk c (some i) ts :: l)
  | tup5 {x1 x2 x3 x4 x5 : Str} {c1 c2 c3 c4 c5 : Value} {nm : Option Str} {b₀ : Stmt} {suite : List Stmt} {p1 p2 p3 p4 p5 tpos pos' : Pos} {kk : Nat} {hds : List ExceptHandler} {l : List Cla} (h1 : Names X x1 c1) (h2 : Names X x2 c2) (h3 : Names X x3 c3) (h4 : Names X x4 c4) (h5 : Names X x5 c5) (r : ClsOk X hds l) :
      ClsOk X (.ExceptHandler (some (.Tuple [.Name x1 p1, .Name x2 p2, .Name x3 p3, .Name x4 p4, .Name x5 p5] kk tpos)) nm (b₀ :: suite) pos' :: hds) (.none5 [c1, c2, c3, c4, c5] :: l)
section
variable {X : Cx} {body : List Stmt} {h₀ : ExceptHandler} {hds : List ExceptHandler} {l : List Cla} {pos : Pos} {tb : WX → TS} {Wout : WX}
theorem ps_try_keep (hs : X.stack = X.env :: X.outer) (hf : X.env.frame = some X.env.locals) (hN : X.N.Nodup) (tk : Takes X Wout)
    (hb : ∀ (W : WX) (pn : List (Addr × Obj)) (xe : Value → Shared → Prop), Takes (X.tr pn xe) W → PassesOwn (model X.prog X.w) X.A X.env xe → PSs (X.tr pn xe) body (tb W))
    (hh : ClsOk X (h₀ :: hds) l) : PS X (.Try body (h₀ :: hds) [] [] pos) (fun D σ H => tb (wKeep X.K Wout D l) D σ H) := by
  refine ⟨fun pins s σ H D I h => ?_⟩
  have ok := I.ok
  have hfr : X.A.frames = some (X.env :: X.outer) := by rw [ok.frames, hs]
  refine wpAny_Try_except ?_
  refine wpAny_mono ((hb (wKeep X.K Wout D l) (X.pn ++ pins) (fun e s₁ => wpAny (model X.prog X.w) X.A (noteFrame e X.env) (fun _ s₂ => wpAny (model X.prog X.w) X.A (setFlight e none) (fun _ s₃ =>
    wpAny (model X.prog X.w) X.A (handleBy e X.env (h₀ :: hds)) (SP X pins D) X.xe s₃) X.xe s₂) X.xe s₁) (fun u s' xx => ?_) PassesOwn.looking).run [] s σ H D (I.toTry _) h) (fun f s1 hsp => ?_) (fun e s1 he => he)
  · -- the catch
    obtain ⟨a, B, sI, pins', σ', H', cls, d, rfl, J', nb, up, sky, na, os, ag, w⟩ := xx
    have J : Inv X pins σ' H' sI := J'.ofTry ok
    have sky' : Sky B (X.env :: X.outer) a (Zc cls d) X.env.locals s'.heap := by rw [← hs]; exact sky
    show wpAny (model X.prog X.w) X.A (noteFrame (.ref a) X.env) _ _ _
    refine Sky.land Zc.steady hfr hf sky' fun h3' fl3' up3' => ?_
    have go : ∀ {hds' : List ExceptHandler} {l' : List Cla}, ClsOk X hds' l' → wKeep X.K Wout D l' cls d σ' H' → ∀ h3 : Heap, HandSPX.FlyingZ B (X.env :: X.outer) a (Zc cls d) h3 → s'.heap.UpToSlots h3 →
        wpAny (model X.prog X.w) X.A (handleBy (.ref a) X.env hds') (SP X pins D) X.xe { s' with heap := h3 } := by
      intro hds' l' hk
      induction hk with
      | nil =>
        intro w h3 fl3 up3
        have J3 : Inv X pins σ' H' { s' with heap := h3 } := J.landed nb fl3.1 (up.trans up3) os ag
        obtain ⟨oe3, vs3, he3, hz3, hd3⟩ := fl3.there
        have notFr : ∀ {h : Heap} {o : Obj} {vs : Array Value}, h.FunFrames B (X.env :: X.outer) → h.get? a = some o → o.data = .fields vs → a ∉ frs (X.env :: X.outer) := fun {h o vs} ff e dd hm => by
          obtain ⟨_, o', e', hnf⟩ := ff.mem hm
          rw [e] at e'; cases e'
          exact hnf _ dd
        have nfr := notFr fl3.2.2.1 he3 hd3
        have nL : a ≠ X.env.locals := fun z => nfr (List.mem_filterMap.mpr ⟨X.env, List.mem_cons_self, by rw [hf, z]⟩)
        have nF : a ∉ X.fs := fun hm => by
          obtain ⟨e, he, q⟩ := List.mem_filterMap.mp hm
          exact nfr (List.mem_filterMap.mpr ⟨e, List.mem_cons_of_mem _ he, q⟩)
        have hsa : sI.heap.get? a = none := by
          cases q : sI.heap.get? a with
          | none => rfl
          | some o =>
            have z := nb a o q (by rw [hs]; exact nfr)
            rw [fl3.2.1] at z
            cases z
        have S3 := J3.suite he3 hd3 na nL nF
        refine wpAny_handleBy_nil ?_
        obtain ⟨k1, k2, k3, oe, vs, T, oT, ts', he, hz, hd, h1, hr⟩ := id fl3
        unfold PySem.passOn
        refine wpAny_bind (wpAny_field he hd h1 ?_)
        rw [if_neg (show ¬ ((Value.ref T == Value.none) = true) from by simp)]
        have fin : wpAny (model X.prog X.w) X.A (setFlight (.ref a) X.env.frame) (fun _ s4 => wpAny (model X.prog X.w) X.A (throw (.ref a) : Sem Flow) (SP X pins D) X.xe s4) X.xe { s' with heap := h3 } := by
          rw [hf]
          refine HandSPX.setFlight_upZ fl3 fun h4 hh4 up4 => wpAny_throw (tk _ _ ?_)
          exact ⟨a, B, sI, pins, σ', H', cls, d, rfl, J, nb, (up.trans up3).trans up4, .inr (.inr (by rw [hs]; exact hh4)), na, os, ag, w⟩
        first
          | exact wpAny_bind (wpAny_pure (wpAny_bind fin))
          | exact wpAny_bind fin
      | @one x c ts b₀ suite np pos' hds2 l2 hc hsu r ih =>
        intro w h3 fl3 up3
        have J3 : Inv X pins σ' H' { s' with heap := h3 } := J.landed nb fl3.1 (up.trans up3) os ag
        obtain ⟨oe3, vs3, he3, hz3, hd3⟩ := fl3.there
        have notFr : ∀ {h : Heap} {o : Obj} {vs : Array Value}, h.FunFrames B (X.env :: X.outer) → h.get? a = some o → o.data = .fields vs → a ∉ frs (X.env :: X.outer) := fun {h o vs} ff e dd hm => by
          obtain ⟨_, o', e', hnf⟩ := ff.mem hm
          rw [e] at e'; cases e'
          exact hnf _ dd
        have nfr := notFr fl3.2.2.1 he3 hd3
        have nL : a ≠ X.env.locals := fun z => nfr (List.mem_filterMap.mpr ⟨X.env, List.mem_cons_self, by rw [hf, z]⟩)
        have nF : a ∉ X.fs := fun hm => by
          obtain ⟨e, he, q⟩ := List.mem_filterMap.mp hm
          exact nfr (List.mem_filterMap.mpr ⟨e, List.mem_cons_of_mem _ he, q⟩)
        have hsa : sI.heap.get? a = none := by
          cases q : sI.heap.get? a with
          | none => rfl
          | some o =>
            have z := nb a o q (by rw [hs]; exact nfr)
            rw [fl3.2.1] at z
            cases z
        have S3 := J3.suite he3 hd3 na nL nF
        obtain ⟨b, hb1, hyes, hno⟩ := w
        refine wpAny_handleBy_cons (codeAny_handlers_test ?_) (by intro q; cases q)
        have LT : PySem.W.Looks (model X.prog X.w) h3 (typeOf (.ref a)) cls := fun A Q E s k q => wpAny_typeOf_ref (k _ _ he3) (by rw [hz3.1]; exact q)
        have LM := PySem.W.exm_one (M := model X.prog X.w) (J3.kIn) LT hb1
        have test : ∀ {Q : Value → Shared → Prop} {E : Value → Shared → Prop}, Q c { s' with heap := h3 } → wpAny (model X.prog X.w) (X.A.mark (some (.ref a))) (eval (.Name x np) X.env) Q E { s' with heap := h3 } := fun {Q E} q => by
          obtain ⟨hg, hdbg, hm | ⟨hm, hv, hnn⟩⟩ := hc
          · exact ld_glob (X := X.suite a ((a, oe3) :: (X.pn ++ pins))) S3 hg hm q hdbg
          · exact ld_blt (X := X.suite a ((a, oe3) :: (X.pn ++ pins))) S3 hg hm hv q hnn hdbg
        refine test (LM.here ?_)
        cases b with
        | true =>
          refine codeAny_handlers_suite ?_
          refine HandSPX.lands_againZ fl3 fun h4 fl4 up4 => ?_
          obtain ⟨dn, hyes2⟩ := hyes rfl
          cases dn
          obtain ⟨oe4, vs4, he4, hz4, hd4⟩ := fl4.there
          have J4 : Inv X pins σ' (upd H' a (ExK cls a)) { s' with heap := h4 } := J.landedX nb fl4.1 ((up.trans up3).trans up4) os ag hsa na (exK_ok he4 hz4 hd4)
          refine wpAny_mono ((hsu a (X.pn ++ pins)).run [] _ _ _ _ (J4.suite0 a) (hyes2 a na)) (fun f s6 hsp => ?_) (fun _ _ z => False.elim z)
          cases f with
          | next =>
            obtain ⟨σ6, H6, S6, q6⟩ := hsp
            exact ⟨_, _, S6.unsuite0 ok, q6⟩
          | brk =>
            obtain ⟨σ6, H6, S6, q6⟩ := hsp
            exact ⟨_, _, S6.unsuite0 ok, q6⟩
          | cont =>
            obtain ⟨σ6, H6, S6, q6⟩ := hsp
            exact ⟨_, _, S6.unsuite0 ok, q6⟩
          | ret u =>
            obtain ⟨v6, σ6, H6, S6, r6, q6⟩ := hsp
            exact ⟨_, _, _, S6.unsuite0 ok, r6, q6⟩
        | false =>
          show wpAny _ X.A (handleBy (.ref a) X.env hds2) _ _ _
          exact ih (hno rfl) h3 fl3 up3
      | @as_ x n c i ts b₀ suite np pos' hds2 l2 hc hi hln hsu r ih =>
        intro w h3 fl3 up3
        have J3 : Inv X pins σ' H' { s' with heap := h3 } := J.landed nb fl3.1 (up.trans up3) os ag
        obtain ⟨oe3, vs3, he3, hz3, hd3⟩ := fl3.there
        have notFr : ∀ {h : Heap} {o : Obj} {vs : Array Value}, h.FunFrames B (X.env :: X.outer) → h.get? a = some o → o.data = .fields vs → a ∉ frs (X.env :: X.outer) := fun {h o vs} ff e dd hm => by
          obtain ⟨_, o', e', hnf⟩ := ff.mem hm
          rw [e] at e'; cases e'
          exact hnf _ dd
        have nfr := notFr fl3.2.2.1 he3 hd3
        have nL : a ≠ X.env.locals := fun z => nfr (List.mem_filterMap.mpr ⟨X.env, List.mem_cons_self, by rw [hf, z]⟩)
        have nF : a ∉ X.fs := fun hm => by
          obtain ⟨e, he, q⟩ := List.mem_filterMap.mp hm
          exact nfr (List.mem_filterMap.mpr ⟨e, List.mem_cons_of_mem _ he, q⟩)
        have hsa : sI.heap.get? a = none := by
          cases q : sI.heap.get? a with
          | none => rfl
          | some o =>
            have z := nb a o q (by rw [hs]; exact nfr)
            rw [fl3.2.1] at z
            cases z
        have S3 := J3.suite he3 hd3 na nL nF
        obtain ⟨b, hb1, hyes, hno⟩ := w
        have hloc : Loc X.env.scope n := .inl hln
        refine wpAny_handleBy_cons (codeAny_handlers_test ?_) (by intro q; cases q)
        have LT : PySem.W.Looks (model X.prog X.w) h3 (typeOf (.ref a)) cls := fun A Q E s k q => wpAny_typeOf_ref (k _ _ he3) (by rw [hz3.1]; exact q)
        have LM := PySem.W.exm_one (M := model X.prog X.w) (J3.kIn) LT hb1
        have test : ∀ {Q : Value → Shared → Prop} {E : Value → Shared → Prop}, Q c { s' with heap := h3 } → wpAny (model X.prog X.w) (X.A.mark (some (.ref a))) (eval (.Name x np) X.env) Q E { s' with heap := h3 } := fun {Q E} q => by
          obtain ⟨hg, hdbg, hm | ⟨hm, hv, hnn⟩⟩ := hc
          · exact ld_glob (X := X.suite a ((a, oe3) :: (X.pn ++ pins))) S3 hg hm q hdbg
          · exact ld_blt (X := X.suite a ((a, oe3) :: (X.pn ++ pins))) S3 hg hm hv q hnn hdbg
        refine test (LM.here ?_)
        cases b with
        | true =>
          refine codeAny_handlers_suite_as ?_
          refine HandSPX.lands_againZ fl3 fun h4 fl4 up4 => ?_
          obtain ⟨dn, hyes2⟩ := hyes rfl
          cases dn
          obtain ⟨oe4, vs4, he4, hz4, hd4⟩ := fl4.there
          have J4 : Inv X pins σ' (upd H' a (ExK cls a)) { s' with heap := h4 } := J.landedX nb fl4.1 ((up.trans up3).trans up4) os ag hsa na (exK_ok he4 hz4 hd4)
          refine store_ok (X := X.suite a (X.pn ++ pins)) (v := .ref a) (J4.suite0 a) hN hi hloc rfl (fun s5 S5 => ?_) (.inr hln)
          refine wpAny_mono ((hsu a (X.pn ++ pins)).run [] s5 _ _ _ S5 (hyes2 a na)) (fun f s6 hsp => ?_) (fun _ _ z => False.elim z)
          have end_ : ∀ {σ6 : St} {H6 : Hp} {Q : Shared → Prop}, Inv (X.suite a (X.pn ++ pins)) [] σ6 H6 s6 → (∀ s7, Inv X pins (σ6.set i none) H6 s7 → Q s7) →
              wpAny (model X.prog X.w) X.A (do bindName X.env n .none; unbindBehindTheSuite X.env n pos') (fun _ s7 => Q s7) X.xe s6 := fun {σ6 H6 Q} S6 hq => gone_ok (S6.unsuite0 ok) hN hi hln hq
          cases f with
          | next =>
            obtain ⟨σ6, H6, S6, q6⟩ := hsp
            exact end_ S6 fun s7 J7 => ⟨_, _, J7, q6⟩
          | brk =>
            obtain ⟨σ6, H6, S6, q6⟩ := hsp
            exact end_ S6 fun s7 J7 => ⟨_, _, J7, q6⟩
          | cont =>
            obtain ⟨σ6, H6, S6, q6⟩ := hsp
            exact end_ S6 fun s7 J7 => ⟨_, _, J7, q6⟩
          | ret u =>
            obtain ⟨v6, σ6, H6, S6, r6, q6⟩ := hsp
            exact end_ S6 fun s7 J7 => ⟨_, _, _, J7, r6, q6⟩
        | false =>
          show wpAny _ X.A (handleBy (.ref a) X.env hds2) _ _ _
          exact ih (hno rfl) h3 fl3 up3
      | @tup5 x1 x2 x3 x4 x5 c1 c2 c3 c4 c5 nm b₀ suite p1 p2 p3 p4 p5 tpos pos' kk hds2 l2 hc1 hc2 hc3 hc4 hc5 r ih =>
        intro w h3 fl3 up3
        have J3 : Inv X pins σ' H' { s' with heap := h3 } := J.landed nb fl3.1 (up.trans up3) os ag
        obtain ⟨oe3, vs3, he3, hz3, hd3⟩ := fl3.there
        have notFr : ∀ {h : Heap} {o : Obj} {vs : Array Value}, h.FunFrames B (X.env :: X.outer) → h.get? a = some o → o.data = .fields vs → a ∉ frs (X.env :: X.outer) := fun {h o vs} ff e dd hm => by
          obtain ⟨_, o', e', hnf⟩ := ff.mem hm
          rw [e] at e'; cases e'
          exact hnf _ dd
        have nfr := notFr fl3.2.2.1 he3 hd3
        have nL : a ≠ X.env.locals := fun z => nfr (List.mem_filterMap.mpr ⟨X.env, List.mem_cons_self, by rw [hf, z]⟩)
        have nF : a ∉ X.fs := fun hm => by
          obtain ⟨e, he, q⟩ := List.mem_filterMap.mp hm
          exact nfr (List.mem_filterMap.mpr ⟨e, List.mem_cons_of_mem _ he, q⟩)
        have hsa : sI.heap.get? a = none := by
          cases q : sI.heap.get? a with
          | none => rfl
          | some o =>
            have z := nb a o q (by rw [hs]; exact nfr)
            rw [fl3.2.1] at z
            cases z
        have S3 := J3.suite he3 hd3 na nL nF
        obtain ⟨hb1, hno⟩ := w
        refine wpAny_handleBy_cons (codeAny_handlers_test ?_) (by intro q; cases q)
        have LT : PySem.W.Looks (model X.prog X.w) h3 (typeOf (.ref a)) cls := fun A Q E s k q => wpAny_typeOf_ref (k _ _ he3) (by rw [hz3.1]; exact q)
        have test : ∀ {x : Str} {np : Pos} {c : Value} (hc : Names X x c) {Q : Value → Shared → Prop} {E : Value → Shared → Prop}, Q c { s' with heap := h3 } → wpAny (model X.prog X.w) (X.A.mark (some (.ref a))) (eval (.Name x np) X.env) Q E { s' with heap := h3 } := fun {x np c} hc {Q E} q => by
          obtain ⟨hg, hdbg, hm | ⟨hm, hv, hnn⟩⟩ := hc
          · exact ld_glob (X := X.suite a ((a, oe3) :: (X.pn ++ pins))) S3 hg hm q hdbg
          · exact ld_blt (X := X.suite a ((a, oe3) :: (X.pn ++ pins))) S3 hg hm hv q hnn hdbg
        refine wpAny_Tuple ?_
        refine wpAny_items_cons (test hc1 ?_)
        refine wpAny_items_cons (test hc2 ?_)
        refine wpAny_items_cons (test hc3 ?_)
        refine wpAny_items_cons (test hc4 ?_)
        refine wpAny_items_cons (test hc5 ?_)
        refine wpAny_items_nil ⟨by size_fits, ?_⟩
        have kp : ∀ q o, h3.get? q = some o → (h3.push { cls := .type "tuple", data := .seq [c1, c2, c3, c4, c5].toArray }).get? q = some o := fun _ _ z => Heap.get?_push_of_some _ z
        refine (exm_tup5 (J3.kIn.keeps kp) (LT.keeps kp) (Heap.get?_push_size h3 rfl) hb1).here ?_
        show wpAny _ X.A (handleBy (.ref a) X.env hds2) _ _ _
        exact ih hno _ (flyZ_keeps fl3 kp) (up3.trans (Heap.UpToSlots.of_keeps kp))
    exact go hh w h3' fl3' up3'
  · cases f with
    | next =>
      obtain ⟨σ', H', J', q⟩ := hsp
      exact wpAny_execs_nil ⟨σ', H', J'.ofTry ok, q⟩
    | brk =>
      obtain ⟨σ', H', J', q⟩ := hsp
      exact ⟨σ', H', J'.ofTry ok, q⟩
    | cont =>
      obtain ⟨σ', H', J', q⟩ := hsp
      exact ⟨σ', H', J'.ofTry ok, q⟩
    | ret u =>
      obtain ⟨v, σ', H', J', r, q⟩ := hsp
      exact ⟨v, σ', H', J'.ofTry ok, r, q⟩
end
end L2
namespace L2
open PySem PySem.Spec PyProof.Rows
section
variable {X : Cx}
section
variable {prog : Program} {w : World} {A : Around} {E : Value → Shared → Prop} {s : Shared}
end
end
end L2
namespace PySem
open AutoSeq1 (wpAny_loadPart')
section
variable {prg : Program} {w : World} {A : Around} {E : Value → Shared → Prop} {s : Shared}
end
end PySem
namespace VV
open PySem L2
open PySem.Spec
open PyProof.Rows hiding St
section
variable {X : Cx} {e : Expr} {te : St → Hp → (Int → Int → Hp → Prop) → Prop}
end
end VV
namespace VV
open PySem PySem.Spec PyProof.Rows L2
section
variable {P : Program} {w : World} {H : Hp} {h : Heap}
end
section
variable {X : Cx}
end
end VV
namespace PySem
theorem nA {a b : Nat} (h : a ≠ b) : @Ne Addr a b := h
def ZipSt (h : Heap) (I l1 l2 k : Nat) : Prop :=
  ((IsZip h (I + 4) (I + 2) (I + 3) .none ∧ ∃ a b, IsPair h (I + 3) a b) ∨ ∃ (T : Addr) (f : Bool) (oT : Obj), IsZipHeld h (I + 4) (I + 2) (I + 3) T f ∧ h.get? T = some oT) ∧
  IsPair h (I + 2) (.ref I) (.ref (I + 1)) ∧ h.IsListIter I l1 k ∧ h.IsListIter (I + 1) l2 k
theorem ZipSt.keep {h h' : Heap} {I l1 l2 k S : Nat} (st : ZipSt h I l1 l2 k) (hS : I + 4 < S) (kp : ∀ b o, b ≠ S → h.get? b = some o → h'.get? b = some o) (he : ∃ o, h'.get? S = some o) : ZipSt h' I l1 l2 k := by
  obtain ⟨st, h2, h3, h4⟩ := st
  refine ⟨?_, kp (I + 2) _ (nA (by omega)) h2, h3.at fun o e => kp I _ (nA (by omega)) e, h4.at fun o e => kp (I + 1) _ (nA (by omega)) e⟩
  rcases st with ⟨a, x, y, b⟩ | ⟨T, f, oT, a, b⟩
  · exact .inl ⟨kp (I + 4) _ (nA (by omega)) a, x, y, kp (I + 3) _ (nA (by omega)) b⟩
  · by_cases e : T = S
    · obtain ⟨o, ho⟩ := he
      exact .inr ⟨T, f, o, kp (I + 4) _ (nA (by omega)) a, by rw [e]; exact ho⟩
    · exact .inr ⟨T, f, oT, kp (I + 4) _ (nA (by omega)) a, kp _ _ e b⟩
structure MadeZ (xs ys : Array Value) (lo : Addr) (h : Heap) (as : List Addr) : Prop where
  rise : as.Pairwise (· < ·)
  above : ∀ a ∈ as, lo < a
  pairs : ∀ (j : Nat) (a : Addr), as[j]? = some a → ∃ x y, xs[j]? = some x ∧ ys[j]? = some y ∧ h.get? a = some { cls := .type "tuple", data := .seq #[x, y] }
theorem MadeZ.there {xs ys : Array Value} {lo : Addr} {h : Heap} {as : List Addr} (g : MadeZ xs ys lo h as) {a : Addr} (ha : a ∈ as) : a < h.objs.size := by
  obtain ⟨j, hj⟩ := List.mem_iff_getElem?.mp ha
  obtain ⟨_, _, _, _, e⟩ := g.pairs j a hj
  exact Heap.lt_size e
section
variable {prog : Program} {w : World} {A : Around} {E : Value → Shared → Prop} {s : Shared} {I l1 l2 : Nat} {xs ys : Array Value}
end
end PySem
namespace VV
open PySem L2
open PySem.Spec
open PyProof.Rows hiding St
section
variable {X : Cx} {e e2 : Expr} {ta : TA}
end
end VV
namespace L2
open PySem PySem.Spec PyProof.Rows
abbrev Cx.blkX (X : Cx) (s : Shared) (H : Hp) (scope : Scope) (ce : Env) (fp : List Addr) : Cx := (X.blk s H scope ce fp).tr [] (notedBy (model X.prog X.w) X.A ce (CompFails (model X.prog X.w) X.A X.xe ce))
section
variable {X : Cx} {pins : List (Addr × Obj)} {σ : St} {H : Hp} {s s' : Shared} {W : WX}
theorem Inv.blkX {s0 : Shared} {H0 : Hp} {scope : Scope} {ce : Env} {fp : List Addr} (I : Inv (X.blk s0 H0 scope ce fp) pins σ H s) : Inv (X.blkX s0 H0 scope ce fp) pins σ H s :=
  ⟨I.ok.toTry _ _, I.os, I.bare, I.base, I.loc, I.cell, I.free, I.freeC, I.pin, I.hok, I.len⟩
theorem frames_off {h B : Heap} : ∀ {l : List Env}, h.FunFrames B l → ∀ L ∈ frs l, B.get? L = none
  | [], _, L, hL => by cases hL
  | env :: l, x, L, hL => by
    obtain ⟨_, ⟨L', o, hf, hn, _⟩, hr⟩ := x
    obtain ⟨e, he, q⟩ := List.mem_filterMap.mp hL
    rcases List.mem_cons.mp he with rfl | he
    · rw [hf] at q
      cases q
      exact hn
    · exact frames_off hr L (List.mem_filterMap.mpr ⟨e, he, q⟩)
theorem fly_of_call {E : XK} {u : Value} (I : Inv X pins σ H s) (c : CX X.prog X.w X.stack H s E u s') : ∃ (a : Addr) (B : Heap) (sI : Shared) (H' : Hp) (cls : Value) (d : Option Addr), u = .ref a ∧ Inv X pins σ H' sI ∧ (∀ b o, sI.heap.get? b = some o → b ∉ frs X.stack → B.get? b = some o) ∧ sI.heap.UpToSlots s'.heap ∧ HandSPX.FlyingZ B X.stack a (Zc cls d) s'.heap ∧ H' a = none ∧ s'.os = sI.os ∧ AllBare s'.gens ∧ E cls d H' := by
  obtain ⟨a, B, H', cls, d, rfl, fl, hok, ub, na, os, ag, hE⟩ := c
  obtain ⟨G, g1, g2⟩ := restrict s'.heap fun b => (B.get? b).isSome || decide (b ∈ frs X.stack)
  have stay : B.StaysIn s'.heap := fl.1
  have inB : ∀ b o, B.get? b = some o → G.get? b = some o := fun b o e => by
    rw [g1 b (by simp [e])]; exact stay b o e
  have inF : ∀ b, b ∈ frs X.stack → G.get? b = s'.heap.get? b := fun b hb => g1 b (by simp [hb])
  have of : ∀ b o, G.get? b = some o → s'.heap.get? b = some o ∧ ((B.get? b).isSome = true ∨ b ∈ frs X.stack) := fun b o e => by
    cases q : ((B.get? b).isSome || decide (b ∈ frs X.stack)) with
    | false => rw [g2 b q] at e; cases e
    | true => rw [g1 b q] at e; exact ⟨e, by simpa [Bool.or_eq_true] using q⟩
  refine ⟨a, B, { s with heap := G, gens := s'.gens, drawn := s'.drawn, toks := s'.toks }, H', cls, d, rfl, ?_, fun b o e hb => ?_, Heap.UpToSlots.of_keeps (fun b o e => (of b o e).1), fl, na, os, ag, hE⟩
  · refine I.call (ch := []) ⟨(fun b o e n hb _ => inB b o (ub.keep b o e n hb)), (fun b o e n hb _ => ?_), (fun b o e n _ => ub.free b o e n), (fun b o e _ => ?_), ub.tups, ub.frzs, ub.tbls⟩ (hok.kept inB) ag (fun _ z => nomatch z)
    · obtain ⟨sl, q⟩ := ub.slot b o e hb
      exact ⟨sl, (inF b hb).trans q⟩
    · by_cases hb : b ∈ frs X.stack
      · obtain ⟨sl, q⟩ := ub.slot b o e hb
        exact ⟨_, (inF b hb).trans q⟩
      · obtain ⟨o', q⟩ := ub.there b o e hb
        exact ⟨o', inB b o' q⟩
  · obtain ⟨e', h⟩ := of b o e
    rcases h with h | h
    · obtain ⟨o', q⟩ := Option.isSome_iff_exists.mp h
      have z := stay b o' q
      rw [e'] at z
      cases z
      exact q
    · exact absurd h hb
theorem blk_pass (hs : X.stack = X.env :: X.outer) (hf : X.env.frame = some X.env.locals) (tk : Takes X W) (hW : ∀ c d σ τ H, W c d σ H → W c d τ H) {s3 : Shared} {H3 : Hp} {scope : Scope} {ce : Env} {fp : List Addr} (I3 : Inv X pins σ H3 s3) (hcl : ce.locals = s3.heap.objs.size) (hcf : ce.frame = X.env.frame) (f3 : ∀ b ∈ fp, FpOk X pins H3 b ∧ b < s3.heap.objs.size) (τ : St) : PassesAt (L2.CX X.prog X.w) (X.blkX s3 H3 scope ce fp) τ (WE W τ) := by
  intro pins' H5 s5 u s6 I5 c
  obtain ⟨a, B, sI, H', cls, d, rfl, I6, nb, up, fl, na, os, ag, w⟩ := fly_of_call I5 c
  have fl : HandSPX.FlyingZ B (X.env :: X.outer) a (Zc cls d) s6.heap := hs ▸ fl
  have nb : ∀ b o, sI.heap.get? b = some o → b ∉ frs X.stack → B.get? b = some o := nb
  have hfr : X.A.frames = some (X.env :: X.outer) := by rw [I3.ok.frames, hs]
  have nC : H' s3.heap.objs.size = none := by
    have z : H' ce.locals = none := I6.free
    rwa [hcl] at z
  have I7 : Inv X pins σ H' sI := I3.call' (ch := fp) I6.os I6.base I6.hok I6.bare fun b hb => ⟨(f3 b hb).1.2.2.2.1, (f3 b hb).1.2.1, (f3 b hb).1.2.2.2.2.1, (f3 b hb).1.2.2.2.2.2⟩
  obtain ⟨p0, p1, p2, p3, p4, p5⟩ := I3.fpOk (H' := H') (Nat.le_refl _) nC
  show wpAny (model X.prog X.w) X.A (noteFrame (.ref a) ce) _ _ s6
  rw [noteFrame_env _ hcf]
  refine HandSPX.looks_onZ Zc.steady hfr hf fl fun h1 hd1 up1 => ?_
  obtain ⟨m, hn, _⟩ := I6.loc
  have hn : sI.heap.Ns ce.locals m := hn
  have hn1 : h1.Ns ce.locals m := (hn.upToSlots up).upToSlots up1
  refine ⟨m, hn1, fun h2 m2 hn2 hs2 => ?_⟩
  have e2 : ∀ b, b ≠ ce.locals → h2.get? b = h1.get? b := fun b hb => hs2.2 b hb
  obtain ⟨b1, b0, ff1, oe, vs, T, oT, ts, he, hz, hd, hv1, hnT, hTe, hT, hdT, hv3⟩ := hd1
  obtain ⟨oL, es, ep, hoL, hdL, _⟩ := hn1
  have aC : a ≠ ce.locals := fun q => by
    rw [q, hoL] at he
    cases he
    rw [hdL] at hd
    cases hd
  have tC : T ≠ ce.locals := fun q => by
    rw [q, hoL] at hT
    cases hT
    rw [hdL] at hdT
    cases hdT
  obtain ⟨B1, hB1⟩ : ∃ B1, B1 = PySem.W.hideAll B [ce.locals] := ⟨_, rfl⟩
  have bC : B1.get? ce.locals = none := by rw [hB1]; exact PySem.W.hideAll_none _ List.mem_cons_self
  have ofB : ∀ b o, B1.get? b = some o → b ≠ ce.locals ∧ B.get? b = some o := fun b o e => ⟨fun q => (by rw [q, bC] at e; cases e), by rw [hB1] at e; exact PySem.W.of_hideAll _ e⟩
  have noB : ∀ b, B.get? b = none → B1.get? b = none := fun b e => by
    cases q : B1.get? b with
    | none => rfl
    | some o =>
      have := (ofB b o q).2
      rw [e] at this
      cases this
  have held : HandSPX.HeldZ B1 (X.env :: X.outer) a (Zc cls d) X.env.locals h2 := ⟨fun b o e => (e2 b (ofB b o e).1).trans (b1 b o (ofB b o e).2), noB a b0, funFrames_none (Heap.FunFrames.sameBut hs2 hn2 ff1) (fun L hL => noB L (frames_off ff1 L hL)), oe, vs, T, oT, ts, (e2 a aC).trans he, hz, hd, hv1, noB T hnT, hTe, (e2 T tC).trans hT, hdT, hv3⟩
  unfold PySem.passOn
  refine wpAny_bind (wpAny_field ((e2 a aC).trans he) hd hv1 ?_)
  rw [if_neg (show ¬ ((Value.ref T == Value.none) = true) from by simp)]
  rw [hcf, hf]
  refine wpAny_bind (HandSPX.setFlight_onZ held fun h3 held3 up3 => wpAny_throw ?_)
  obtain ⟨G, hG⟩ : ∃ G, G = PySem.W.hideAll sI.heap [ce.locals] := ⟨_, rfl⟩
  have gC : G.get? ce.locals = none := by rw [hG]; exact PySem.W.hideAll_none _ List.mem_cons_self
  have ofG : ∀ b o, G.get? b = some o → b ≠ ce.locals ∧ sI.heap.get? b = some o := fun b o e => ⟨fun q => (by rw [q, gC] at e; cases e), by rw [hG] at e; exact PySem.W.of_hideAll _ e⟩
  have toG : ∀ b o, b ≠ ce.locals → sI.heap.get? b = some o → G.get? b = some o := fun b o hb e => by
    rw [hG]
    exact PySem.W.hideAll_get _ e (by simpa using hb)
  have I8 : Inv X pins σ H' { sI with heap := G, toks := sI.toks } := I7.turned (it := s3.heap.objs.size) (fun b o hb e => toG b o (by rw [hcl]; exact hb) e) p0 p1 p3 p4 p5
  refine tk (.ref a) _ ⟨a, B1, _, pins, σ, H', cls, d, rfl, I8, fun b o e hb => ?_, fun b o e hnf => ?_, .inr (.inr ?_), na, os, ag, hW _ _ _ _ _ w⟩
  · obtain ⟨q1, q2⟩ := ofG b o e
    rw [hB1]
    exact PySem.W.hideAll_get _ (nb b o q2 hb) (by simpa using q1)
  · obtain ⟨q1, q2⟩ := ofG b o e
    obtain ⟨sl, r1⟩ := up b o q2 hnf
    obtain ⟨sl2, r2⟩ := up1 b _ r1 hnf
    obtain ⟨sl3, r3⟩ := up3 b _ ((e2 b q1).trans r2) hnf
    exact ⟨sl3, r3⟩
  · rw [hs]
    exact held3
theorem lcX_core {Q : VK} {elt tg iter : Expr} {ifs : List Expr} {scope : Scope} {own : List (Str × Nat)} {pos pos' : Pos} {wi : TI} {g : TG} {tt : TT} {te : TE} {use : Option (Value → Sem Unit)} {Qf : Value → Shared → Prop}
    (hc : X.calm = true) (hN : X.N.Nodup) (hst : X.stack = X.env :: X.outer) (hfr : X.env.frame = some X.env.locals) (tk : Takes X W) (hW : ∀ c d σ τ H, W c d σ H → W c d τ H) (I : Inv X pins σ H s) (hi : PI X tg iter wi) (ok : BlkOk X.N X.env.scope scope own)
    (hg : ∀ (s1 : Shared) (H1 : Hp) (C : Addr) (cl : List (Str × Addr)) (fp : List Addr), PG (X.blkX s1 H1 scope (compEnvC scope cl C X.env) fp) tg g)
    (ht : ∀ (s1 : Shared) (H1 : Hp) (C : Addr) (cl : List (Str × Addr)) (fp : List Addr), PTs (X.blkX s1 H1 scope (compEnvC scope cl C X.env) fp) ifs tt)
    (he : ∀ (s1 : Shared) (H1 : Hp) (C : Addr) (cl : List (Str × Addr)) (fp : List Addr), (∀ τ, PassesAt (L2.CX X.prog X.w) (X.blkX s1 H1 scope (compEnvC scope cl C X.env) fp) τ (WE W τ)) → PE (X.blkX s1 H1 scope (compEnvC scope cl C X.env) fp) elt te)
    (hs : ∀ x, foldedSetIterable iter X.env x = pure x) (h : tLc wi g tt te (own.map (·.2)) σ H Q)
    (hRR : ∀ D ce s' m H', Inv X pins σ H' s' → Q (.ref D) H' → s'.heap.Ns ce.locals m → FpOk X pins H' ce.locals → compEnds (model X.prog X.w) X.A X.xe use Qf (.ref D) ce (.ok .next) s') :
    wpAny (model X.prog X.w) X.A (comprehension (.ListComp elt [⟨tg, iter, ifs, 0⟩] scope pos) scope X.env pos' (newList []) false (eval iter X.env) use) Qf X.xe s := by
  have has : ∀ y ∈ scope.names, y.2 = .free → ∃ c, X.env.cells.lookup y.1 = some c := fun y hy e => (ok.free y hy e).elim (fun k => I.ok.has _ (.inl k)) fun k => I.ok.has _ (.inr k)
  refine comprehension_at (use := use) rfl hs (closure_ok has) ok.kind (fun y hy e => by rw [ok.uniq y hy, e]) (thn (hi.run pins s σ H _ I h) fun xv s1 hx => thn hx fun itv s2 hit => ?_)
  obtain ⟨it, fp, tn, J, H2, rfl, I2, T, st2, f2, q⟩ := hit
  refine wpAny_newObj_type (newEnv_comp ?_) (by show 0 ≤ sizeLine; decide)
  obtain ⟨D, hD⟩ : ∃ D, D = s2.heap.objs.size := ⟨_, rfl⟩
  obtain ⟨Wm, ⟨m0, w0⟩, turn⟩ := q D (I2.hok.fresh (Nat.le_of_eq hD.symm))
  obtain ⟨s3, hs3⟩ : ∃ s3 : Shared, s3 = { s2 with heap := s2.heap.push { cls := .type "list", data := .seq ([] : List Value).toArray } } := ⟨_, rfl⟩
  have e3 : s3.heap = s2.heap.push { cls := .type "list", data := .seq ([] : List Value).toArray } := by rw [hs3]
  obtain ⟨H3, hH3⟩ : ∃ H3, H3 = upd H2 D (.lst []) := ⟨_, rfl⟩
  have I3 : Inv X pins σ H3 s3 := by
    rw [hs3, hH3]
    refine I2.laid (t' := s2.toks) (fun b o e => Heap.get?_push_of_some _ e) (Nat.le_of_eq hD.symm) ⟨Nat.zero_le _, [], 0, .nil, ?_⟩
    rw [hD]
    exact Heap.get?_push_size _ rfl
  have below : ∀ b ∈ fp, b < s2.heap.objs.size := fun b hb => by
    obtain ⟨o, e, _⟩ := T.obj _ _ st2 b hb
    exact Heap.lt_size e
  have f3 : ∀ b ∈ fp, FpOk X pins H3 b ∧ b < s3.heap.objs.size := fun b hb => by
    have lt := below b hb
    refine ⟨⟨?_, (f2 b hb).2⟩, ?_⟩
    · rw [hH3, upd_ne (by rw [hD]; exact Nat.ne_of_lt lt)]
      exact (f2 b hb).1
    · rw [e3, Heap.size_push]
      exact Nat.lt_succ_of_lt lt
  have st3 : tn 0 s3.heap := T.keep _ _ _ st2 fun b _ o e => by
    rw [e3]
    exact Heap.get?_push_of_some _ e
  have I4 := (block_start I3 ok hN f3).blkX
  have pg := hg s3 H3 s3.heap.objs.size (cellsFrom (s3.heap.objs.size + 1) scope.names (cloFrom X.env.cells scope.names [])) fp
  have pt := ht s3 H3 s3.heap.objs.size (cellsFrom (s3.heap.objs.size + 1) scope.names (cloFrom X.env.cells scope.names [])) fp
  have pe := he s3 H3 s3.heap.objs.size (cellsFrom (s3.heap.objs.size + 1) scope.names (cloFrom X.env.cells scope.names [])) fp (blk_pass hst hfr tk hW I3 rfl rfl f3)
  rw [← hH3] at w0
  rw [← hD, ← hs3]
  show codeAny _ _ (.compStart (.ListComp elt [⟨tg, iter, ifs, 0⟩] scope pos) 0 (.ref it) (.ref D) (compEnvC scope (cellsFrom (s3.heap.objs.size + 1) scope.names (cloFrom X.env.cells scope.names [])) s3.heap.objs.size X.env)) (compEnds (model X.prog X.w) X.A X.xe use Qf (.ref D) (compEnvC scope (cellsFrom (s3.heap.objs.size + 1) scope.names (cloFrom X.env.cells scope.names [])) s3.heap.objs.size X.env)) { s3 with heap := pushCells (s3.heap.push { cls := .type "dict", data := .dict #[] }) scope.names }
  have nfp : ∀ b ∈ fp, H3 b = none := fun b hb => (f3 b hb).1.1
  have cL : (compEnvC scope (cellsFrom (s3.heap.objs.size + 1) scope.names (cloFrom X.env.cells scope.names [])) s3.heap.objs.size X.env).locals = s3.heap.objs.size := rfl
  generalize hce : compEnvC scope (cellsFrom (s3.heap.objs.size + 1) scope.names (cloFrom X.env.cells scope.names [])) s3.heap.objs.size X.env = ce at I4 pg pt pe cL ⊢
  generalize hs4 : ({ s3 with heap := pushCells (s3.heap.push { cls := .type "dict", data := .dict #[] }) scope.names } : Shared) = s4 at I4 ⊢
  have st4 : tn 0 s4.heap := T.keep _ _ _ st3 fun b _ o e => by
    rw [← hs4]
    exact pushCells_keeps _ _ _ _ (Heap.get?_push_of_some _ e)
  have errs : (fun e s' => compEnds (model X.prog X.w) X.A X.xe use Qf (.ref D) ce (.error e) s') = CompFails (model X.prog X.w) X.A X.xe ce := by
    funext e s'
    cases use <;> rfl
  have still : ∀ {σ' : St} {H' : Hp} {s' : Shared}, Inv (X.blkX s3 H3 scope ce fp) [] σ' H' s' → (∀ b ∈ fp, H' b = none) → ∀ b ∈ fp, FpOk (X.blkX s3 H3 scope ce fp) [] H' b := fun I' hn b hb =>
    ⟨hn b hb, (I'.ok.exf b hb).1, I'.ok.exfs b hb, .inl hb, (fun x c e => (I'.ok.exf b hb).2 x c e), fun p hp => absurd (show p ∈ ([] : List (Addr × Obj)) ++ [] from hp) (by simp)⟩
  have loop : codeAny (model X.prog X.w) X.A (.compLoop (.ListComp elt [⟨tg, iter, ifs, 0⟩] scope pos) 0 (.ref it) (.ref D) ce) (compEnds (model X.prog X.w) X.A X.xe use Qf (.ref D) ce) s4 := by
    refine compLoop_any (fun n t => ∃ i H', Inv (X.blkX s3 H3 scope ce fp) [] (wipe σ (own.map (·.2))) H' t ∧ tn i t.heap ∧ (∀ b ∈ fp, H' b = none) ∧ Wm i n H') ?_ m0 ⟨0, H3, I4, st4, nfp, w0⟩
    rintro n s5 ⟨i, H5, I5, st5, n5, w5⟩
    rw [errs]
    rcases turn i n H5 w5 with ⟨stop, qq⟩ | ⟨go, Nx, hNx, step⟩
    · refine thnF (T.done (X.blkX s3 H3 scope ce fp) rfl rfl rfl hc i [] s5 _ H5 (fun _ _ => False) I5 (still I5 n5) st5 stop) fun r s6 ⟨hr, I6⟩ => ?_
      subst hr
      have I7 : Inv X pins σ H5 s6 := I3.call' (ch := fp) I6.os I6.base I6.hok I6.bare fun b hb => ⟨(f3 b hb).1.2.2.2.1, (f3 b hb).1.2.1, (f3 b hb).1.2.2.2.2.1, (f3 b hb).1.2.2.2.2.2⟩
      have nC : H5 s3.heap.objs.size = none := by
        have z : H5 ce.locals = none := I6.free
        rwa [cL] at z
      obtain ⟨m, hn, _⟩ := I6.loc
      have hn : s6.heap.Ns ce.locals m := hn
      exact hRR D ce s6 m H5 I7 qq hn (by rw [cL]; exact I3.fpOk (Nat.le_refl _) nC)
    · refine thnF (T.item (X.blkX s3 H3 scope ce fp) rfl rfl rfl hc i [] s5 _ H5 (fun _ _ => False) I5 (still I5 n5) st5 go) fun r s6 ⟨u, hr, h6⟩ => ?_
      subst hr
      refine thnF h6 fun _ s7 ⟨x, H7, I7, r7, y7, st7, n7⟩ => ?_
      have I7' := I7.pinned (still I7 n7) (T.obj _ _ st7)
      refine thn (pg.run _ s7 _ H7 x u _ I7' r7 (step x H7 y7)) fun _ s8 ⟨σ8, H8, I8, hw8, q8⟩ => ?_
      refine thn (pt.run _ s8 σ8 H8 _ I8 q8) fun b s9 ⟨H9, I9, q9⟩ => ?_
      have fin : ∀ {t : Shared} {H' : Hp}, Inv (X.blkX s3 H3 scope ce fp) ([] ++ pinsAt fp s7.heap) σ8 H' t → Nx H' → ∃ m, m < n ∧ ∃ i H', Inv (X.blkX s3 H3 scope ce fp) [] (wipe σ (own.map (·.2))) H' t ∧ tn i t.heap ∧ (∀ b ∈ fp, H' b = none) ∧ Wm i m H' := fun {t H'} I' nx => by
        obtain ⟨m', hm, w'⟩ := hNx H' nx
        have pin' : ∀ b ∈ fp, ∀ o, s7.heap.get? b = some o → t.heap.get? b = some o ∧ H' b = none := fun b hb o e => ⟨(I'.pin (b, o) (List.mem_append_right _ (List.mem_append_right _ (mem_pinsAt hb e)))).1, (I'.pin (b, o) (List.mem_append_right _ (List.mem_append_right _ (mem_pinsAt hb e)))).2.1⟩
        refine ⟨m', hm, i + 1, H', (I'.unpinned (pins := [])).weak (by rw [← hw8, wipe_length]) (fun j v e => by rw [← hw8] at e; exact (wipe_some e).1), T.keep _ _ _ st7 (fun b hb o e => (pin' b hb o e).1), fun b hb => ?_, w'⟩
        obtain ⟨o, e, _⟩ := T.obj _ _ st7 b hb
        exact (pin' b hb o e).2
      cases b with
      | false =>
        simp only [Bool.false_eq_true, if_false] at q9 ⊢
        exact fin I9 q9
      | true =>
        simp only [if_true] at q9 ⊢
        refine thn (pe.run _ s9 σ8 H9 _ I9 q9) fun z s10 ⟨yv, H10, I10, r10, acc, hD10, hz10, nx⟩ => ?_
        exact app_ok (X := X.blkX s3 H3 scope ce fp) I10 hD10 hz10 r10 fun s11 I11 => fin I11 nx
  exact codeAny_compStart_list loop (T.self X.A 0 _ _ _ st4 loop)
theorem pe_lcX {elt tg iter : Expr} {ifs : List Expr} {scope : Scope} {own : List (Str × Nat)} {pos : Pos} {wi : TI} {g : TG} {tt : TT} {te : TE} (hc : X.calm = true) (hN : X.N.Nodup) (hst : X.stack = X.env :: X.outer) (hfr : X.env.frame = some X.env.locals) (tk : Takes X W) (hW : ∀ c d σ τ H, W c d σ H → W c d τ H) (hi : PI X tg iter wi) (ok : BlkOk X.N X.env.scope scope own)
    (hg : ∀ (s1 : Shared) (H1 : Hp) (C : Addr) (cl : List (Str × Addr)) (fp : List Addr), PG (X.blkX s1 H1 scope (compEnvC scope cl C X.env) fp) tg g)
    (ht : ∀ (s1 : Shared) (H1 : Hp) (C : Addr) (cl : List (Str × Addr)) (fp : List Addr), PTs (X.blkX s1 H1 scope (compEnvC scope cl C X.env) fp) ifs tt)
    (he : ∀ (s1 : Shared) (H1 : Hp) (C : Addr) (cl : List (Str × Addr)) (fp : List Addr), (∀ τ, PassesAt (L2.CX X.prog X.w) (X.blkX s1 H1 scope (compEnvC scope cl C X.env) fp) τ (WE W τ)) → PE (X.blkX s1 H1 scope (compEnvC scope cl C X.env) fp) elt te)
    (hs : ∀ x, foldedSetIterable iter X.env x = pure x := by intro _; rfl) : PE X (.ListComp elt [⟨tg, iter, ifs, 0⟩] scope pos) (tLc wi g tt te (own.map (·.2))) := by
  refine ⟨fun pins s σ H Q I h => ?_⟩
  rw [eval_ListComp]
  refine lcX_core hc hN hst hfr tk hW I hi ok hg ht he hs h fun D ce s' m H' I' q hn f => ⟨m, hn, fun h'' sb => ?_⟩
  obtain ⟨f0, f1, f2, f3, f4, f5⟩ := f
  exact ⟨.ref D, H', I'.turned (t' := s'.toks) (fun b o hb e => (sb.2 b hb).trans e) f0 f1 f3 f4 f5, rfl, q⟩
def tCallF (f1 f2 : Addr) (sp1 sp2 : Sp) (tf : TE) (t : TA) : TE := fun σ H Q => tf σ H fun v H1 => (v = .ref f1 ∧ t σ H1 fun vs H2 => sp1 (vs ++ []) H2 Q fun _ _ _ => False) ∨ (v = .ref f2 ∧ t σ H1 fun vs H2 => sp2 (vs ++ []) H2 Q fun _ _ _ => False)
theorem pe_callF2 {k1 k2 : Nat} {f1 f2 : Addr} {d1 d2 : FuncData} {ps1 ps2 : List Str} {sp1 sp2 : Sp} {fe e : Expr} {es : List Expr} {tf : TE} {t : TA} {pos : Pos} (F1 : FnOk X.prog X.w X.K X.mg X.base (fun _ _ _ _ _ _ => False) k1 f1 d1 ps1 sp1) (F2 : FnOk X.prog X.w X.K X.mg X.base (fun _ _ _ _ _ _ => False) k2 f2 d2 ps2 sp2) (r1 : Room k1 X.A) (r2 : Room k2 X.A)
    (hk1 : PySem.W.keepIn X.K (.ref f1) = true) (hk2 : PySem.W.keepIn X.K (.ref f2) = true) (hb1 : Binds X.K d1 ps1 []) (hb2 : Binds X.K d2 ps2 []) (hf : PE X fe tf) (ha : PA X (e :: es) t)
    (heq : eval (.Call fe (e :: es) [] pos) X.env = (do callWith pos (← eval fe X.env) [] (backTo pos (starEach (e :: es) X.env)) (backToKw pos (keywordEach [] X.env))) := by rfl)
    (he : starEach (e :: es) X.env = (false, eval e X.env) :: starEach es X.env := by rfl) (hpl : (backTo pos (starEach es X.env)).any (·.1) = false := by rfl) : PE X (.Call fe (e :: es) [] pos) (tCallF f1 f2 sp1 sp2 tf t) := by
  refine ⟨fun pins s σ H Q I h => ?_⟩
  rw [heq]
  refine wpAny_bind (thn (hf.run pins s σ H _ I h) fun u s1 ⟨v, H1, I1, rv, q⟩ => ?_)
  rcases q with ⟨rfl, q⟩ | ⟨rfl, q⟩
  · cases rv
    refine PySem.W.callWith_K (h₀ := X.base) I1.ok.mod.kin hk1 (thn (ha.run pos pins s1 σ H1 _ I1 q) fun us s2 ⟨vs, H2, I2, rr, q2⟩ => ⟨I2.kIn, ?_⟩) he hpl
    exact run_fn F1 r1 hb1 .nil (fun _ _ _ _ _ _ _ z => z.elim) I2 rr q2
  · cases rv
    refine PySem.W.callWith_K (h₀ := X.base) I1.ok.mod.kin hk2 (thn (ha.run pos pins s1 σ H1 _ I1 q) fun us s2 ⟨vs, H2, I2, rr, q2⟩ => ⟨I2.kIn, ?_⟩) he hpl
    exact run_fn F2 r2 hb2 .nil (fun _ _ _ _ _ _ _ z => z.elim) I2 rr q2
end
end L2
namespace VV
open PySem L2
@[reducible] def Gam : List Ty → Type
  | [] => Unit
  | t :: ts => Option (den t) × Gam ts
inductive Mem : List Ty → Ty → Type where
  | z {t : Ty} {ts : List Ty} : Mem (t :: ts) t
  | s {u t : Ty} {ts : List Ty} : Mem ts t → Mem (u :: ts) t
def Mem.ix : {ts : List Ty} → {t : Ty} → Mem ts t → Nat
  | _, _, .z => 0
  | _, _, .s i => i.ix + 1
def Mem.get : {ts : List Ty} → {t : Ty} → Mem ts t → Gam ts → Option (den t)
  | _, _, .z, Γ => Γ.1
  | _, _, .s i, Γ => i.get Γ.2
def Mem.set : {ts : List Ty} → {t : Ty} → Mem ts t → Option (den t) → Gam ts → Gam ts
  | _, _, .z, d, Γ => (d, Γ.2)
  | _, _, .s i, d, Γ => (Γ.1, i.set d Γ.2)
def Gam.mask : {ts : List Ty} → List Bool → Gam ts → Gam ts
  | [], _, _ => ()
  | _ :: _, [], Γ => Γ
  | _ :: _, b :: bs, Γ => (if b then Γ.1 else none, Gam.mask bs Γ.2)
theorem Mem.set_set : ∀ {ts : List Ty} {t : Ty} (i : Mem ts t) (d e : Option (den t)) (Γ : Gam ts), i.set d (i.set e Γ) = i.set d Γ
  | _, _, .z, _, _, _ => rfl
  | _, _, .s i, d, e, Γ => by
    show (Γ.1, i.set d (i.set e Γ.2)) = (Γ.1, i.set d Γ.2)
    rw [Mem.set_set i]
theorem Mem.get_set : ∀ {ts : List Ty} {t : Ty} (i : Mem ts t) (d : Option (den t)) (Γ : Gam ts), i.get (i.set d Γ) = d
  | _, _, .z, _, _ => rfl
  | _, _, .s i, d, Γ => Mem.get_set i d Γ.2
theorem Mem.get_set_ne : ∀ {ts : List Ty} {t u : Ty} (i : Mem ts t) (j : Mem ts u) (d : Option (den t)) (Γ : Gam ts), i.ix ≠ j.ix → j.get (i.set d Γ) = j.get Γ
  | _, _, _, .z, .z, _, _, h => absurd rfl h
  | _, _, _, .z, .s j, _, _, _ => rfl
  | _, _, _, .s i, .z, _, _, _ => rfl
  | _, _, _, .s i, .s j, d, Γ, h => Mem.get_set_ne i j d Γ.2 fun e => h (congrArg (· + 1) e)
inductive Md where
  | o | l | w | f | k | r
  deriving DecidableEq
def Md.hard : Md → Bool
  | .f => true
  | .k => true
  | _ => false
def Md.fixd : Md → Bool
  | .f => true
  | .k => true
  | .r => true
  | _ => false
def Md.own : Md → Bool
  | .o => true
  | .r => true
  | _ => false
section
variable (K : KW) (H : Hp) (S0 L : Reg)
def repM : Md → (t : Ty) → V → den t → List Addr → Prop
  | .o, t, v, d, f => (rO K H L t).1 v d f
  | .l, t, v, d, f => f = [] ∧ (rS K H L t).1 v d
  | .w, t, v, d, f => f = [] ∧ (rS K H (fun a => S0 a ∨ L a) t).1 v d
  | .f, t, v, d, f => f = [] ∧ (rS K H (fun a => S0 a ∨ L a) t).1 v d
  | .k, t, v, d, f => (rO K H L t).1 v d f
  | .r, t, v, d, f => (rO K H L t).1 v d f
def slot (m : Md) (t : Ty) : Option (den t) → Option V → List Addr → Prop
  | none, _, f => f = []
  | some d, s, f => ∃ v, s = some v ∧ repM K H S0 L m t v d f
def rG : List Md → (ts : List Ty) → Gam ts → St → List Addr → Prop
  | [], [], _, σ, fp => σ = [] ∧ fp = []
  | m :: ms, t :: ts, Γ, s :: σ, fp => ∃ f1 f2, fp = f1 ++ f2 ∧ slot K H S0 L m t Γ.1 s f1 ∧ rG ms ts Γ.2 σ f2
  | _, _, _, _, _ => False
end
section
variable {K : KW} {H H' : Hp} {S0 L L' : Reg}
theorem repM_mono {m : Md} {t : Ty} {v : V} {d : den t} {f : List Addr} (hS : Cov H H' S0 S0) (hL : Cov H H' L L') (hs : Stb H H') (hf : ∀ a ∈ f, H' a = H a) (h : repM K H S0 L m t v d f) : repM K H' S0 L' m t v d f := by
  have hw : Cov H H' (fun a => S0 a ∨ L a) (fun a => S0 a ∨ L' a) := fun a o hr e => by
    rcases hr with hr | hr
    · exact ⟨.inl (hS a o hr e).1, (hS a o hr e).2⟩
    · exact ⟨.inr (hL a o hr e).1, (hL a o hr e).2⟩
  cases m with
  | o => exact (rO_mono hL hs t).1 v d f hf h
  | k => exact (rO_mono hL hs t).1 v d f hf h
  | r => exact (rO_mono hL hs t).1 v d f hf h
  | l => exact ⟨h.1, (rS_mono hL hs t).1 v d h.2⟩
  | w => exact ⟨h.1, (rS_mono hw hs t).1 v d h.2⟩
  | f => exact ⟨h.1, (rS_mono hw hs t).1 v d h.2⟩
theorem slot_mono {m : Md} {t : Ty} {d : Option (den t)} {s : Option V} {f : List Addr} (hS : Cov H H' S0 S0) (hL : Cov H H' L L') (hs : Stb H H') (hf : ∀ a ∈ f, H' a = H a) (h : slot K H S0 L m t d s f) : slot K H' S0 L' m t d s f := by
  cases d with
  | none => exact h
  | some d =>
    obtain ⟨v, e, h⟩ := h
    exact ⟨v, e, repM_mono hS hL hs hf h⟩
theorem rG_mono (hS : Cov H H' S0 S0) (hL : Cov H H' L L') (hs : Stb H H') : ∀ {ms : List Md} {ts : List Ty} {Γ : Gam ts} {σ : St} {fp : List Addr}, (∀ a ∈ fp, H' a = H a) → rG K H S0 L ms ts Γ σ fp → rG K H' S0 L' ms ts Γ σ fp
  | [], [], _, _, _, _, h => h
  | m :: ms, t :: ts, Γ, s :: σ, fp, hf, h => by
    obtain ⟨f1, f2, rfl, h1, h2⟩ := h
    exact ⟨f1, f2, rfl, slot_mono hS hL hs (fun a ha => hf a (List.mem_append_left _ ha)) h1, rG_mono hS hL hs (fun a ha => hf a (List.mem_append_right _ ha)) h2⟩
  | [], _ :: _, _, _, _, _, h => h.elim
  | _ :: _, [], _, _, _, _, h => h.elim
  | _ :: _, _ :: _, _, [], _, _, h => h.elim
theorem rG_focus : ∀ {ts : List Ty} {t : Ty} (i : Mem ts t) {ms : List Md} {m : Md} {Γ : Gam ts} {σ : St} {fp : List Addr}, rG K H S0 L ms ts Γ σ fp → ms[i.ix]? = some m →
    ∃ s f fa fb, σ[i.ix]? = some s ∧ slot K H S0 L m t (i.get Γ) s f ∧ fp = fa ++ (f ++ fb) ∧ ∀ d' s' f', slot K H S0 L m t d' s' f' → rG K H S0 L ms ts (i.set d' Γ) (σ.set i.ix s') (fa ++ (f' ++ fb))
  | _ :: _, _, .z, m :: ms, m', Γ, s :: σ, fp, h, hm => by
    obtain ⟨f1, f2, rfl, h1, h2⟩ := h
    have e : m = m' := by simpa [Mem.ix] using hm
    subst e
    exact ⟨s, f1, [], f2, rfl, h1, rfl, fun d' s' f' q => ⟨f', f2, rfl, q, h2⟩⟩
  | _ :: _, _, .s i, m :: ms, m', Γ, s :: σ, fp, h, hm => by
    obtain ⟨f1, f2, rfl, h1, h2⟩ := h
    obtain ⟨s', f, fa, fb, e1, e2, rfl, e3⟩ := rG_focus i h2 (by simpa [Mem.ix] using hm)
    refine ⟨s', f, f1 ++ fa, fb, by simpa [Mem.ix] using e1, e2, by simp, fun d' s'' f' q => ⟨f1, fa ++ (f' ++ fb), by simp, h1, ?_⟩⟩
    exact e3 d' s'' f' q
  | _ :: _, _, _, [], _, _, _, _, h, _ => h.elim
  | _ :: _, _, _, _ :: _, _, _, [], _, h, _ => h.elim
theorem rG_mask : ∀ {ms : List Md} {ts : List Ty} {Γ : Gam ts} {σ : St} {fp : List Addr} (bs : List Bool), rG K H S0 L ms ts Γ σ fp → ∃ fp', rG K H S0 L ms ts (Gam.mask bs Γ) σ fp' ∧ fp'.Sublist fp
  | [], [], _, _, _, _, h => ⟨_, h, List.Sublist.refl _⟩
  | m :: ms, t :: ts, Γ, s :: σ, fp, [], h => ⟨fp, h, List.Sublist.refl _⟩
  | m :: ms, t :: ts, Γ, s :: σ, fp, b :: bs, h => by
    obtain ⟨f1, f2, rfl, h1, h2⟩ := h
    obtain ⟨f2', h3, h4⟩ := rG_mask bs h2
    cases b with
    | true => exact ⟨f1 ++ f2', ⟨f1, f2', rfl, h1, h3⟩, List.Sublist.append (List.Sublist.refl _) h4⟩
    | false => exact ⟨f2', ⟨[], f2', rfl, rfl, h3⟩, h4.trans (List.sublist_append_right _ _)⟩
  | [], _ :: _, _, _, _, _, h => h.elim
  | _ :: _, [], _, _, _, _, h => h.elim
  | _ :: _, _ :: _, _, [], _, _, h => h.elim
end
structure Ent where
  H0 : Hp
  S0 : Reg
  io : List Addr
structure Good (E : Ent) (L : Reg) (H : Hp) (a : Addr) : Prop where
  new : E.H0 a = none ∨ a ∈ E.io
  nl : ¬ L a
  ns : ¬ E.S0 a
  at_ : (H a).isSome = true
structure Own (K : KW) (E : Ent) (L : Reg) (ms : List Md) (ts : List Ty) (Γ : Gam ts) (σ : St) (H : Hp) (xt : List Addr) : Prop where
  ex : ∃ fp, rG K H E.S0 L ms ts Γ σ fp ∧ (fp ++ xt).Nodup ∧ ∀ a ∈ fp ++ xt, Good E L H a
  fr : ∀ a o, E.H0 a = some o → a ∉ E.io → H a = some o
  lr : ∀ a, L a → (E.H0 a = none ∨ a ∈ E.io) ∧ (H a).isSome = true
  s0 : ∀ a, E.S0 a → (E.H0 a).isSome = true ∧ a ∉ E.io
  iod : ∀ a ∈ E.io, (H a).isSome = true
section
variable {K : KW} {E : Ent} {L L' : Reg} {ms : List Md} {ts : List Ty} {Γ : Gam ts} {σ : St} {H H' : Hp} {xt : List Addr}
theorem isSome_some {α : Type} {x : Option α} (h : x.isSome = true) : ∃ y, x = some y := Option.isSome_iff_exists.mp h
theorem same_at {a : Addr} (s : Same H H') (h : (H a).isSome = true) : H' a = H a := by
  obtain ⟨o, e⟩ := isSome_some h
  rw [e]
  exact s _ _ e
theorem Own.covS (o : Own K E L ms ts Γ σ H xt) (fr : ∀ a o, E.H0 a = some o → a ∉ E.io → H' a = some o) : Cov H H' E.S0 E.S0 := fun a q hr e => by
  obtain ⟨h1, h2⟩ := o.s0 a hr
  obtain ⟨y, hy⟩ := isSome_some h1
  refine ⟨hr, ?_⟩
  rw [fr a y hy h2, ← o.fr a y hy h2]
  exact e
theorem Own.same (o : Own K E L ms ts Γ σ H xt) (s : Same H H') : Own K E L ms ts Γ σ H' xt := by
  obtain ⟨fp, g, nd, gd⟩ := o.ex
  have fr : ∀ a q, E.H0 a = some q → a ∉ E.io → H' a = some q := fun a q h1 h2 => s _ _ (o.fr a q h1 h2)
  refine ⟨⟨fp, rG_mono (o.covS fr) (Cov.of_same s fun a h _ => h) (Stb.of_same s) (fun a ha => same_at s (gd a (List.mem_append_left _ ha)).at_) g, nd, fun a ha => ?_⟩, fr, fun a h => ?_, o.s0, fun a h => ?_⟩
  · obtain ⟨h1, h2, h3, h4⟩ := gd a ha
    exact ⟨h1, h2, h3, by rw [same_at s h4]; exact h4⟩
  · obtain ⟨h1, h2⟩ := o.lr a h
    exact ⟨h1, by rw [same_at s h2]; exact h2⟩
  · rw [same_at s (o.iod a h)]
    exact o.iod a h
theorem Own.drop (o : Own K E L ms ts Γ σ H xt) : Own K E L ms ts Γ σ H [] := by
  obtain ⟨fp, g, nd, gd⟩ := o.ex
  refine ⟨⟨fp, g, ?_, fun a ha => gd a (List.mem_append_left _ (by simpa using ha))⟩, o.fr, o.lr, o.s0, o.iod⟩
  rw [List.append_nil]
  exact (List.nodup_append.mp nd).1
theorem Own.mask (o : Own K E L ms ts Γ σ H xt) (bs : List Bool) : Own K E L ms ts (Gam.mask bs Γ) σ H xt := by
  obtain ⟨fp, g, nd, gd⟩ := o.ex
  obtain ⟨fp', g', sb⟩ := rG_mask bs g
  refine ⟨⟨fp', g', nd.sublist (sb.append (List.Sublist.refl _)), fun a ha => gd a ?_⟩, o.fr, o.lr, o.s0, o.iod⟩
  rcases List.mem_append.mp ha with h | h
  · exact List.mem_append_left _ (sb.subset h)
  · exact List.mem_append_right _ h
theorem Own.fresh (o : Own K E L ms ts Γ σ H xt) {a : Addr} (h : H a = none) : E.H0 a = none ∧ ¬ L a ∧ ¬ E.S0 a := by
  refine ⟨?_, fun q => ?_, fun q => ?_⟩
  · cases e : E.H0 a with
    | none => rfl
    | some y =>
      by_cases hi : a ∈ E.io
      · have := o.iod a hi
        rw [h] at this
        cases this
      · rw [o.fr a y e hi] at h
        cases h
  · have := (o.lr a q).2
    rw [h] at this
    cases this
  · obtain ⟨h1, h2⟩ := o.s0 a q
    obtain ⟨y, e⟩ := isSome_some h1
    rw [o.fr a y e h2] at h
    cases h
theorem Own.focus {t : Ty} (i : Mem ts t) {m : Md} (o : Own K E L ms ts Γ σ H xt) (hm : ms[i.ix]? = some m) :
    ∃ s f, σ[i.ix]? = some s ∧ slot K H E.S0 L m t (i.get Γ) s f ∧ f.Nodup ∧ (∀ a ∈ f, Good E L H a ∧ a ∉ xt) ∧
    ∀ (H' : Hp) (L' : Reg) (d' : Option (den t)) (s' : Option V) (f' xt' : List Addr), (∀ a, (H a).isSome = true → a ∉ f → a ∉ xt → H' a = H a) → Stb H H' → (∀ a, L a → L' a) → (∀ a, L' a → L a ∨ a ∈ f ∨ a ∈ xt ∨ H a = none) →
      (∀ a, (H a).isSome = true → (H' a).isSome = true) → (∀ a, L' a → (E.H0 a = none ∨ a ∈ E.io) ∧ (H' a).isSome = true) → slot K H' E.S0 L' m t d' s' f' → (f' ++ xt').Nodup → (∀ a ∈ f' ++ xt', (a ∈ f ∨ a ∈ xt ∨ H a = none) ∧ ¬ L' a ∧ (H' a).isSome = true) →
      Own K E L' ms ts (i.set d' Γ) (σ.set i.ix s') H' xt' := by
  obtain ⟨fp, g, nd, gd⟩ := id o.ex
  obtain ⟨s, f, fa, fb, e1, e2, rfl, e3⟩ := rG_focus i g hm
  have nd1 := List.nodup_append.mp nd
  have nd2 := List.nodup_append.mp nd1.1
  have nd3 := List.nodup_append.mp nd2.2.1
  have fxt : ∀ a ∈ f, a ∉ xt := fun a ha hx => nd1.2.2 a (List.mem_append_right _ (List.mem_append_left _ ha)) a hx rfl
  refine ⟨s, f, e1, e2, nd3.1, fun a ha => ⟨gd a (List.mem_append_left _ (List.mem_append_right _ (List.mem_append_left _ ha))), fxt a ha⟩, fun H' L' d' s' f' xt' c1 c2 c3 c4 c9 c5 c6 c7 c8 => ?_⟩
  have fr : ∀ a q, E.H0 a = some q → a ∉ E.io → H' a = some q := fun a q h1 h2 => by
    have h3 := o.fr a q h1 h2
    have nf : ∀ a', a' = a → Good E L H a' → False := fun a' e z => by
      subst e
      rcases z.new with z | z
      · rw [h1] at z; cases z
      · exact h2 z
    rw [c1 a (by rw [h3]; rfl) (fun z => nf a rfl (gd a (List.mem_append_left _ (List.mem_append_right _ (List.mem_append_left _ z))))) (fun z => nf a rfl (gd a (List.mem_append_right _ z)))]
    exact h3
  -- the other names' cells
  have oth : ∀ a, a ∈ fa ∨ a ∈ fb → a ∈ fa ++ (f ++ fb) ∧ a ∉ f ∧ a ∉ xt := fun a h => by
    rcases h with h | h
    · exact ⟨List.mem_append_left _ h, fun z => nd2.2.2 a h a (List.mem_append_left _ z) rfl, fun z => nd1.2.2 a (List.mem_append_left _ h) a z rfl⟩
    · exact ⟨List.mem_append_right _ (List.mem_append_right _ h), fun z => nd3.2.2 a z a h rfl, fun z => nd1.2.2 a (List.mem_append_right _ (List.mem_append_right _ h)) a z rfl⟩
  have othg : ∀ a, a ∈ fa ∨ a ∈ fb → Good E L H a := fun a h => gd a (List.mem_append_left _ (oth a h).1)
  have othc : ∀ a, a ∈ fa ∨ a ∈ fb → H' a = H a := fun a h => c1 a (othg a h).at_ (oth a h).2.1 (oth a h).2.2
  have covL : Cov H H' L L' := fun a q h e => by
    refine ⟨c3 a h, ?_⟩
    have h2 := (o.lr a h).2
    rw [c1 a h2 (fun z => (gd a (List.mem_append_left _ (List.mem_append_right _ (List.mem_append_left _ z)))).nl h) (fun z => (gd a (List.mem_append_right _ z)).nl h)]
    exact e
  have g0 := e3 none s [] rfl
  have g1 : rG K H' E.S0 L' ms ts (i.set none Γ) (σ.set i.ix s) (fa ++ ([] ++ fb)) := rG_mono (o.covS fr) covL c2 (fun a ha => othc a (by
    rcases List.mem_append.mp ha with h | h
    · exact .inl h
    · exact .inr (by simpa using h))) g0
  obtain ⟨s2, f2, fa2, fb2, q1, q2, q3, q4⟩ := rG_focus i g1 hm
  rw [Mem.get_set] at q2
  have q2 : f2 = [] := q2
  subst q2
  have g2 := q4 d' s' f' c6
  rw [Mem.set_set, List.set_set] at g2
  have e4 : fa2 ++ fb2 = fa ++ fb := by simpa using q3.symm
  have mem4 : ∀ a, a ∈ fa2 ∨ a ∈ fb2 → a ∈ fa ∨ a ∈ fb := fun a h => by
    have : a ∈ fa2 ++ fb2 := List.mem_append.mpr h
    rw [e4] at this
    exact List.mem_append.mp this
  have ndo : (fa2 ++ fb2).Nodup := by
    rw [e4]
    exact List.nodup_append.mpr ⟨nd2.1, nd3.2.1, fun a ha b hb => nd2.2.2 a ha b (List.mem_append_right _ hb)⟩
  have ndo2 := List.nodup_append.mp ndo
  have apart : ∀ a, a ∈ fa2 ∨ a ∈ fb2 → a ∉ f' ++ xt' := fun a h z => by
    have h' := mem4 a h
    rcases (c8 a z).1 with q | q | q
    · exact (oth a h').2.1 q
    · exact (oth a h').2.2 q
    · have := (othg a h').at_
      rw [q] at this
      cases this
  have c7' := List.nodup_append.mp c7
  refine ⟨⟨_, g2, ?_, fun a ha => ?_⟩, fr, c5, o.s0, fun a h => c9 a (o.iod a h)⟩
  · rw [List.append_assoc, List.append_assoc]
    refine List.nodup_append.mpr ⟨ndo2.1, List.nodup_append.mpr ⟨c7'.1, List.nodup_append.mpr ⟨ndo2.2.1, c7'.2.1, fun a ha b hb e => ?_⟩, fun a ha b hb e => ?_⟩, fun a ha b hb e => ?_⟩
    · subst e; exact apart a (.inr ha) (List.mem_append_right _ hb)
    · subst e
      rcases List.mem_append.mp hb with z | z
      · exact apart a (.inr z) (List.mem_append_left _ ha)
      · exact c7'.2.2 a ha a z rfl
    · subst e
      rcases List.mem_append.mp hb with z | z
      · exact apart a (.inl ha) (List.mem_append_left _ z)
      · rcases List.mem_append.mp z with z | z
        · exact ndo2.2.2 a ha a z rfl
        · exact apart a (.inl ha) (List.mem_append_right _ z)
  · have cases' : (a ∈ fa2 ∨ a ∈ fb2) ∨ a ∈ f' ++ xt' := by
      simp only [List.mem_append] at ha ⊢
      rcases ha with (h | h | h) | h
      · exact .inl (.inl h)
      · exact .inr (.inl h)
      · exact .inl (.inr h)
      · exact .inr (.inr h)
    rcases cases' with h | h
    · have h' := mem4 a h
      have gg := othg a h'
      refine ⟨gg.new, fun z => ?_, gg.ns, by rw [othc a h']; exact gg.at_⟩
      rcases c4 a z with q | q | q | q
      · exact gg.nl q
      · exact (oth a h').2.1 q
      · exact (oth a h').2.2 q
      · have := gg.at_
        rw [q] at this
        cases this
    · obtain ⟨q1, q2, q3⟩ := c8 a h
      rcases q1 with q | q | q
      · have gg := gd a (List.mem_append_left _ (List.mem_append_right _ (List.mem_append_left _ q)))
        exact ⟨gg.new, q2, gg.ns, q3⟩
      · have gg := gd a (List.mem_append_right _ q)
        exact ⟨gg.new, q2, gg.ns, q3⟩
      · have ff := o.fresh q
        exact ⟨.inl ff.1, q2, ff.2.2, q3⟩
end
inductive Em where
  | o | l | w | b
  deriving DecidableEq
def Nw (H H' : Hp) (R : Reg) : Prop := ∀ a, R a → H a = none ∧ (H' a).isSome = true
section
variable (K : KW) (E : Ent) (L : Reg) (H H' : Hp)
def Rep : Em → (t : Ty) → V → den t → Prop
  | .o, t, v, d => ∃ f Lr, (rO K H' (fun a => L a ∨ Lr a) t).1 v d f ∧ f.Nodup ∧ Nw H H' (· ∈ f) ∧ Nw H H' Lr ∧ ∀ a ∈ f, ¬ Lr a
  | .l, t, v, d => ∃ Lr, (rS K H' (fun a => L a ∨ Lr a) t).1 v d ∧ Nw H H' Lr
  | .w, t, v, d => ∃ Lr, (rS K H' (fun a => E.S0 a ∨ L a ∨ Lr a) t).1 v d ∧ Nw H H' Lr
  | .b, t, v, d => (rS K H' (fun _ => True) t).1 v d
def Rep2 : Em → (t : Ty) → List V → den t → Prop
  | .o, t, v, d => ∃ f Lr, (rO K H' (fun a => L a ∨ Lr a) t).2 v d f ∧ f.Nodup ∧ Nw H H' (· ∈ f) ∧ Nw H H' Lr ∧ ∀ a ∈ f, ¬ Lr a
  | .l, t, v, d => ∃ Lr, (rS K H' (fun a => L a ∨ Lr a) t).2 v d ∧ Nw H H' Lr
  | .w, t, v, d => ∃ Lr, (rS K H' (fun a => E.S0 a ∨ L a ∨ Lr a) t).2 v d ∧ Nw H H' Lr
  | .b, t, v, d => (rS K H' (fun _ => True) t).2 v d
end
def Em.le : Em → Em → Bool
  | .o, _ => true
  | .l, .o => false
  | .l, _ => true
  | .w, .w => true
  | .w, .b => true
  | .b, .b => true
  | _, _ => false
section
variable {K : KW} {E : Ent} {L L' : Reg} {H H1 H2 : Hp}
theorem Rep.le {m m' : Em} (h : m.le m' = true) {t : Ty} {v : V} {d : den t} (r : Rep K E L H H1 m t v d) : Rep K E L H H1 m' t v d := by
  have ol : Rep K E L H H1 .o t v d → Rep K E L H H1 .l t v d := fun ⟨f, Lr, h1, h2, h3, h4, h5⟩ =>
    ⟨fun a => Lr a ∨ a ∈ f, (rO_s (fun a h => by rcases h with h | h; exact .inl h; exact .inr (.inl h)) t).1 v d f (fun a ha => .inr (.inr ha)) h1, fun a ha => by rcases ha with q | q; exact h4 a q; exact h3 a q⟩
  have lw : Rep K E L H H1 .l t v d → Rep K E L H H1 .w t v d := fun ⟨Lr, h1, h2⟩ => ⟨Lr, (rS_mono (Cov.of_reg fun a h _ => .inr h) (Stb.refl _) t).1 v d h1, h2⟩
  have wb : Rep K E L H H1 .w t v d → Rep K E L H H1 .b t v d := fun ⟨Lr, h1, h2⟩ => (rS_mono (Cov.of_reg fun a h _ => True.intro) (Stb.refl _) t).1 v d h1
  cases m <;> cases m' <;> first | exact r | exact absurd h (by decide) | exact ol r | exact lw r | exact wb r | exact lw (ol r) | exact wb (lw r) | exact wb (lw (ol r))
theorem Rep.frz {t : Ty} (q : t.frz = true) (m : Em) {R : Reg} {v : V} {d : den t} (r : (rS K H1 R t).1 v d) : Rep K E L H H1 m t v d := by
  cases m with
  | o => exact ⟨[], fun _ => False, (rS_o t q).1 v d r, List.nodup_nil, fun a h => by simp at h, fun a h => h.elim, fun a h => by simp at h⟩
  | l => exact ⟨fun _ => False, (rS_frz t q).1 v d r, fun a h => h.elim⟩
  | w => exact ⟨fun _ => False, (rS_frz t q).1 v d r, fun a h => h.elim⟩
  | b => exact (rS_frz t q).1 v d r
theorem Rep.same {m : Em} {t : Ty} {v : V} {d : den t} (s : Same H1 H2) (r : Rep K E L H H1 m t v d) : Rep K E L H H2 m t v d := by
  have nw : ∀ {R : Reg}, Nw H H1 R → Nw H H2 R := fun {R} h a ha => ⟨(h a ha).1, by rw [same_at s (h a ha).2]; exact (h a ha).2⟩
  cases m with
  | o =>
    obtain ⟨f, Lr, h1, h2, h3, h4, h5⟩ := r
    exact ⟨f, Lr, (rO_mono (Cov.of_same s fun a h _ => h) (Stb.of_same s) t).1 v d f (fun a ha => same_at s (h3 a ha).2) h1, h2, nw h3, nw h4, h5⟩
  | l =>
    obtain ⟨Lr, h1, h2⟩ := r
    exact ⟨Lr, (rS_mono (Cov.of_same s fun a h _ => h) (Stb.of_same s) t).1 v d h1, nw h2⟩
  | w =>
    obtain ⟨Lr, h1, h2⟩ := r
    exact ⟨Lr, (rS_mono (Cov.of_same s fun a h _ => h) (Stb.of_same s) t).1 v d h1, nw h2⟩
  | b => exact (rS_mono (Cov.of_same s fun a h _ => h) (Stb.of_same s) t).1 v d r
theorem Rep.older {m : Em} {t : Ty} {v : V} {d : den t} (s : Same H H1) (r : Rep K E L H1 H2 m t v d) : Rep K E L H H2 m t v d := by
  have nw : ∀ {R : Reg}, Nw H1 H2 R → Nw H H2 R := fun {R} h a ha => ⟨s.free (h a ha).1, (h a ha).2⟩
  cases m with
  | o =>
    obtain ⟨f, Lr, h1, h2, h3, h4, h5⟩ := r
    exact ⟨f, Lr, h1, h2, nw h3, nw h4, h5⟩
  | l =>
    obtain ⟨Lr, h1, h2⟩ := r
    exact ⟨Lr, h1, nw h2⟩
  | w =>
    obtain ⟨Lr, h1, h2⟩ := r
    exact ⟨Lr, h1, nw h2⟩
  | b => exact r
end
section
variable (K : KW) (ms : List Md) (ts : List Ty)
def RP (te : TE) (m : Em) (t : Ty) (F : Gam ts → Option (den t)) : Prop :=
  ∀ (E : Ent) (L : Reg) (Γ : Gam ts) (σ : St) (H : Hp) (xt : List Addr) (Q : VK) (d : den t), Own K E L ms ts Γ σ H xt → F Γ = some d → (∀ v H', Same H H' → Rep K E L H H' m t v d → Q v H') → te σ H Q
def RA (ta : TA) (m : Em) (b : Ty) (F : Gam ts → Option (den b)) : Prop :=
  ∀ (E : Ent) (L : Reg) (Γ : Gam ts) (σ : St) (H : Hp) (xt : List Addr) (Q : List V → Hp → Prop) (d : den b), Own K E L ms ts Γ σ H xt → F Γ = some d → (∀ vs H', Same H H' → Rep2 K E L H H' m b vs d → Q vs H') → ta σ H Q
def RT (tt : TT) (F : Gam ts → Option Bool) : Prop :=
  ∀ (E : Ent) (L : Reg) (Γ : Gam ts) (σ : St) (H : Hp) (xt : List Addr) (Q : Bool → Hp → Prop) (c : Bool), Own K E L ms ts Γ σ H xt → F Γ = some c → (∀ H', Same H H' → Q c H') → tt σ H Q
end
inductive Fl (τ ρ : Type) where
  | nx (γ : τ) | bk (γ : τ) | ct (γ : τ) | rt (r : ρ) (γ : τ)
def KeepF (ms : List Md) (ts : List Ty) (Γ Γ' : Gam ts) (σ σ' : St) : Prop := (∀ (t : Ty) (i : Mem ts t) (m : Md), ms[i.ix]? = some m → m.hard = true → i.get Γ' = i.get Γ) ∧ ∀ (n : Nat) (m : Md), ms[n]? = some m → m.fixd = true → σ'[n]? = σ[n]?
theorem KeepF.refl {ms : List Md} {ts : List Ty} {Γ : Gam ts} {σ : St} : KeepF ms ts Γ Γ σ σ := ⟨fun _ _ _ _ _ => rfl, fun _ _ _ _ => rfl⟩
theorem KeepF.trans {ms : List Md} {ts : List Ty} {Γ Γ1 Γ2 : Gam ts} {σ σ1 σ2 : St} (a : KeepF ms ts Γ Γ1 σ σ1) (b : KeepF ms ts Γ1 Γ2 σ1 σ2) : KeepF ms ts Γ Γ2 σ σ2 := ⟨fun t i m h hh => (b.1 t i m h hh).trans (a.1 t i m h hh), fun n m h hh => (b.2 n m h hh).trans (a.2 n m h hh)⟩
theorem hard_fixd {m : Md} (h : m.hard = true) : m.fixd = true := by cases m <;> first | rfl | cases h
structure Ev (ms : List Md) (ts : List Ty) (L : Reg) (Γ : Gam ts) (σ : St) (H : Hp) (L' : Reg) (Γ' : Gam ts) (σ' : St) (H' : Hp) : Prop where
  sub : ∀ a, L a → L' a
  cell : ∀ a o, L a → H a = some o → H' a = some o
  stb : Stb H H'
  keep : KeepF ms ts Γ Γ' σ σ'
theorem Ev.trans {ms : List Md} {ts : List Ty} {L L1 L2 : Reg} {Γ Γ1 Γ2 : Gam ts} {σ σ1 σ2 : St} {H H1 H2 : Hp} (a : Ev ms ts L Γ σ H L1 Γ1 σ1 H1) (b : Ev ms ts L1 Γ1 σ1 H1 L2 Γ2 σ2 H2) : Ev ms ts L Γ σ H L2 Γ2 σ2 H2 :=
  ⟨fun c h => b.sub c (a.sub c h), fun c o h e => b.cell c o (a.sub c h) (a.cell c o h e), a.stb.trans b.stb, a.keep.trans b.keep⟩
theorem Ev.same {ms : List Md} {ts : List Ty} {L : Reg} {Γ : Gam ts} {σ : St} {H H' : Hp} (s : Same H H') : Ev ms ts L Γ σ H L Γ σ H' :=
  ⟨fun _ h => h, fun _ _ _ e => s _ _ e, Stb.of_same s, KeepF.refl⟩
inductive Rm where
  | o | l | w
  | x (W : WX) (m : Rm)
def Rm.tag : Rm → Nat
  | .o => 0
  | .l => 1
  | .w => 2
  | .x _ m => m.tag
instance : BEq Rm := ⟨fun a b => a.tag == b.tag⟩
def Rm.plain : Rm → Bool
  | .x _ _ => false
  | _ => true
abbrev excT (ρ : Ty) : Ty := .cons .str (.last (.opt ρ))
section
variable (K : KW) (E : Ent)
def RRep0 (L : Reg) (H' : Hp) : Rm → (ρ : Ty) → V → den ρ → List Addr → Prop
  | .x _ _, _, _, _, _ => False
  | .o, ρ, v, d, xt => (rO K H' L ρ).1 v d xt
  | .l, ρ, v, d, xt => xt = [] ∧ (rS K H' L ρ).1 v d
  | .w, ρ, v, d, xt => xt = [] ∧ (rS K H' (fun a => E.S0 a ∨ L a) ρ).1 v d
def RRep (L : Reg) (H' : Hp) : Rm → (ρ : Ty) → V → den ρ → List Addr → Prop
  | .x _ m, .cons .str (.last (.opt t)), v, d, xt => (match d.2 with
    | none => xt = []
    | some r => RRep0 K E L H' m t v r xt)
  | m, ρ, v, d, xt => RRep0 K E L H' m ρ v d xt
def wN (W : WX) (nm : Str) (σ : St) (H : Hp) : Prop := ∀ C, ClsN K nm C → W (.ref C) none σ H
def RDel : Rm → (ρ : Ty) → den ρ → VK → V → St → Hp → Prop
  | .x W _, .cons .str (.last (.opt _)), d, Q, v, σ, H => (match d.2 with
    | none => wN K W d.1 σ H
    | some _ => Q v H)
  | _, _, _, Q, v, _, H => Q v H
theorem RDel_plain {rm : Rm} (h : rm.plain = true) {ρ : Ty} {d : den ρ} {Q : VK} {v : V} {σ : St} {H : Hp} : RDel K rm ρ d Q v σ H ↔ Q v H := by
  cases rm <;> first | exact Iff.rfl | cases h
def Post (ms : List Md) (ts : List Ty) (rm : Rm) (ρ : Ty) (L : Reg) (Γ : Gam ts) (σ : St) (H : Hp) (D : Ends) : Fl (Gam ts) (den ρ) → Prop
  | .nx Γ' => ∀ L' σ' H', Own K E L' ms ts Γ' σ' H' [] → Ev ms ts L Γ σ H L' Γ' σ' H' → D.nx σ' H'
  | .bk Γ' => ∀ L' σ' H', Own K E L' ms ts Γ' σ' H' [] → Ev ms ts L Γ σ H L' Γ' σ' H' → D.bk σ' H'
  | .ct Γ' => ∀ L' σ' H', Own K E L' ms ts Γ' σ' H' [] → Ev ms ts L Γ σ H L' Γ' σ' H' → D.ct σ' H'
  | .rt d Γ' => ∀ L' σ' H' v xt, Own K E L' ms ts Γ' σ' H' xt → Ev ms ts L Γ σ H L' Γ' σ' H' → RRep K E L' H' rm ρ v d xt → RDel K rm ρ d D.rt v σ' H'
end
def RS (K : KW) (ms : List Md) (ts : List Ty) (st : TS) (rm : Rm) (ρ : Ty) (F : Gam ts → Option (Fl (Gam ts) (den ρ))) : Prop :=
  ∀ (E : Ent) (L : Reg) (Γ : Gam ts) (σ : St) (H : Hp) (D : Ends) (f : Fl (Gam ts) (den ρ)), Own K E L ms ts Γ σ H [] → F Γ = some f → Post K E ms ts rm ρ L Γ σ H D f → st D σ H
def RE (K : KW) (ms : List Md) (ts : List Ty) (te : TE) (m : Em) (t : Ty) (F : Gam ts → Option (den t × Gam ts)) : Prop :=
  ∀ (E : Ent) (L : Reg) (Γ : Gam ts) (σ : St) (H : Hp) (Q : VK) (d : den t) (Γ' : Gam ts), Own K E L ms ts Γ σ H [] → F Γ = some (d, Γ') →
    (∀ v L' H' xt, Own K E L' ms ts Γ' σ H' xt → Ev ms ts L Γ σ H L' Γ' σ H' → (match m with
      | .o => (rO K H' L' t).1 v d xt
      | .l => xt = [] ∧ (rS K H' L' t).1 v d
      | .w => xt = [] ∧ (rS K H' (fun a => E.S0 a ∨ L' a) t).1 v d
      | .b => xt = [] ∧ (rS K H' (fun _ => True) t).1 v d) → Q v H') → te σ H Q
end VV
namespace VV
open PySem L2
def eC {G α : Type} (d : α) : G → Option α := fun _ => some d
def eV {ts : List Ty} {t : Ty} (i : Mem ts t) : Gam ts → Option (den t) := fun Γ => i.get Γ
def e1 {G α β : Type} (f : α → Option β) (Fa : G → Option α) : G → Option β := fun Γ => (Fa Γ).bind f
def e2 {G α β γ : Type} (f : α → β → Option γ) (Fa : G → Option α) (Fb : G → Option β) : G → Option γ := fun Γ => (Fa Γ).bind fun a => (Fb Γ).bind fun b => f a b
def e3 {G α β γ δ : Type} (f : α → β → γ → Option δ) (Fa : G → Option α) (Fb : G → Option β) (Fc : G → Option γ) : G → Option δ := fun Γ => (Fa Γ).bind fun a => (Fb Γ).bind fun b => (Fc Γ).bind fun c => f a b c
def eIf {G α : Type} (Fc : G → Option Bool) (Fa Fb : G → Option α) : G → Option α := fun Γ => (Fc Γ).bind fun c => if c = true then Fa Γ else Fb Γ
def eAnd {G : Type} (Fa Fb : G → Option Bool) : G → Option Bool := fun Γ => (Fa Γ).bind fun c => if c = true then Fb Γ else some false
def eOr {G : Type} (Fa Fb : G → Option Bool) : G → Option Bool := fun Γ => (Fa Γ).bind fun c => if c = true then some true else Fb Γ
def eNot {G : Type} (Fa : G → Option Bool) : G → Option Bool := fun Γ => (Fa Γ).bind fun c => some (!c)
def eCons {G α β : Type} (Fa : G → Option α) (Fb : G → Option β) : G → Option (α × β) := fun Γ => (Fa Γ).bind fun a => (Fb Γ).bind fun b => some (a, b)
def eNil {G α : Type} : G → Option (List α) := fun _ => some []
def eSnoc {G α : Type} (Fa : G → Option α) (Fb : G → Option (List α)) : G → Option (List α) := fun Γ => (Fa Γ).bind fun a => (Fb Γ).bind fun b => some (a :: b)
def okIf {α : Type} (c : Bool) (a : α) : Option α := if c then some a else none
section
variable {K : KW} {ms : List Md} {ts : List Ty} {E : Ent} {L : Reg} {Γ : Gam ts} {σ : St} {H H' : Hp} {xt : List Addr}
theorem bind_some {α β : Type} {x : Option α} {f : α → Option β} {b : β} (h : x.bind f = some b) : ∃ a, x = some a ∧ f a = some b := by
  cases x with
  | none => cases h
  | some a => exact ⟨a, rfl, h⟩
theorem rp_le {te : TE} {m m' : Em} {t : Ty} {F : Gam ts → Option (den t)} (h : RP K ms ts te m t F) (hl : m.le m' = true := by rfl) : RP K ms ts te m' t F :=
  fun E L Γ σ H xt Q d o e q => h E L Γ σ H xt Q d o e fun v H' s r => q v H' s (r.le hl)
theorem rp_frz {te : TE} {m : Em} (m' : Em) {t : Ty} {F : Gam ts → Option (den t)} (h : RP K ms ts te m t F) (hf : t.frz = true := by rfl) : RP K ms ts te m' t F :=
  fun E L Γ σ H xt Q d o e q => h E L Γ σ H xt Q d o e fun v H' s r => q v H' s (Rep.frz hf m' (r.le (m' := .b) (by cases m <;> rfl)))
theorem Rep.b {m : Em} {t : Ty} {v : V} {d : den t} {H1 : Hp} (r : Rep K E L H H1 m t v d) : (rS K H1 (fun _ => True) t).1 v d := r.le (m' := .b) (by cases m <;> rfl)
theorem Own.look {t : Ty} (i : Mem ts t) {m : Md} {d : den t} (o : Own K E L ms ts Γ σ H xt) (hm : ms[i.ix]? = some m) (hd : i.get Γ = some d) : ∃ v f, σ[i.ix]? = some (some v) ∧ repM K H E.S0 L m t v d f ∧ ∀ a ∈ f, Good E L H a := by
  obtain ⟨s, f, e1, e2, _, e4, _⟩ := o.focus i hm
  rw [hd] at e2
  obtain ⟨v, rfl, r⟩ := e2
  exact ⟨v, f, e1, r, fun a ha => (e4 a ha).1⟩
theorem repM_b {m : Md} {t : Ty} {v : V} {d : den t} {f : List Addr} {S0 : Reg} (h : repM K H S0 L m t v d f) : (rS K H (fun _ => True) t).1 v d := by
  cases m with
  | o => exact (rO_s (fun _ _ => True.intro) t).1 v d f (fun _ _ => True.intro) h
  | k => exact (rO_s (fun _ _ => True.intro) t).1 v d f (fun _ _ => True.intro) h
  | r => exact (rO_s (fun _ _ => True.intro) t).1 v d f (fun _ _ => True.intro) h
  | l => exact (rS_mono (Cov.of_reg fun _ _ _ => True.intro) (Stb.refl H) t).1 v d h.2
  | w => exact (rS_mono (Cov.of_reg fun _ _ _ => True.intro) (Stb.refl H) t).1 v d h.2
  | f => exact (rS_mono (Cov.of_reg fun _ _ _ => True.intro) (Stb.refl H) t).1 v d h.2
theorem rp_var {t : Ty} (i : Mem ts t) {n : Nat} {m : Md} (hm : ms[i.ix]? = some m := by rfl) (hn : i.ix = n := by rfl) : RP K ms ts (tVar n) .b t (eV i) := fun E L Γ σ H xt Q d o e q => by
  subst hn
  obtain ⟨v, f, h1, h2, _⟩ := o.look i hm e
  exact ⟨v, h1, q v H (Same.refl H) (repM_b h2)⟩
theorem rp_varw {t : Ty} (i : Mem ts t) {n : Nat} {m : Md} (hm : ms[i.ix]? = some m := by rfl) (hk : (m == .w || m == .f || m == .l) = true := by rfl) (hn : i.ix = n := by rfl) : RP K ms ts (tVar n) .w t (eV i) := fun E L Γ σ H xt Q d o e q => by
  subst hn
  obtain ⟨v, f, h1, h2, _⟩ := o.look i hm e
  have wk : ∀ {R : Reg}, (∀ a, R a → E.S0 a ∨ L a) → (rS K H R t).1 v d → Rep K E L H H .w t v d := fun hR r =>
    ⟨fun _ => False, (rS_mono (Cov.of_reg fun a h _ => (hR a h).elim .inl fun z => .inr (.inl z)) (Stb.refl H) t).1 v d r, fun _ h => h.elim⟩
  refine ⟨v, h1, q v H (Same.refl H) ?_⟩
  cases m with
  | o => exact absurd hk (by decide)
  | k => exact absurd hk (by decide)
  | r => exact absurd hk (by decide)
  | l => exact wk (fun a h => .inr h) h2.2
  | w => exact wk (fun a h => h) h2.2
  | f => exact wk (fun a h => h) h2.2
theorem rp_varl {t : Ty} (i : Mem ts t) {n : Nat} (hm : ms[i.ix]? = some .l := by rfl) (hn : i.ix = n := by rfl) : RP K ms ts (tVar n) .l t (eV i) := fun E L Γ σ H xt Q d o e q => by
  subst hn
  obtain ⟨v, f, h1, h2, _⟩ := o.look i hm e
  exact ⟨v, h1, q v H (Same.refl H) ⟨fun _ => False, (rS_mono (Cov.of_reg fun a h _ => .inl h) (Stb.refl H) t).1 v d h2.2, fun _ h => h.elim⟩⟩
theorem rep_atom {m : Em} {t : Ty} {v : V} {d : den t} (hf : t.frz = true) (h : (rS K H' (fun _ => True) t).1 v d) : Rep K E L H H' m t v d := Rep.frz hf m h
theorem rp_const {m : Em} {t : Ty} {v : V} {d : den t} (hf : t.frz = true) (h : ∀ H, (rS K H (fun _ => True) t).1 v d) : RP K ms ts (tC v) m t (eC d) := fun E L Γ σ H xt Q d' o e q => by
  cases e
  exact q v H (Same.refl H) (rep_atom hf (h H))
theorem rp_int {m : Em} {i : Int} : RP K ms ts (tC (.int i)) m .int (eC i) := rp_const rfl fun _ => rfl
theorem rp_bool {m : Em} {b : Bool} : RP K ms ts (tC (.bl b)) m .bool (eC b) := rp_const rfl fun _ => rfl
theorem rp_str {m : Em} {x : Str} (h : PyData.strOk x = true := by decide +kernel) : RP K ms ts (tC (.str x)) m .str (eC x) := rp_const rfl fun _ => ⟨rfl, h⟩
theorem rp_non {m : Em} : RP K ms ts (tC .non) m .non (eC ()) := rp_const rfl fun _ => rfl
theorem rp_noneO {m : Em} {t : Ty} : RP K ms ts (tC .non) m (.opt t) (eC none) := fun E L Γ σ H xt Q d' o e q => by
  cases e
  refine q .non H (Same.refl H) ?_
  cases m with
  | o => exact ⟨[], fun _ => False, ⟨rfl, rfl⟩, List.nodup_nil, fun a h => by simp at h, fun a h => h.elim, fun a h => by simp at h⟩
  | l => exact ⟨fun _ => False, rfl, fun a h => h.elim⟩
  | w => exact ⟨fun _ => False, rfl, fun a h => h.elim⟩
  | b => exact rfl
def Ty.solid : Ty → Bool
  | .alt _ _ => false
  | .non => false
  | .any => false
  | .opt _ => false
  | .own _ => false
  | _ => true
theorem rS_solid {R : Reg} {t : Ty} (h : t.solid = true) {v : V} {d : den t} (r : (rS K H R t).1 v d) : v ≠ .non := by
  cases t with
  | bool => rintro rfl; cases r
  | int => rintro rfl; cases r
  | str => rintro rfl; cases r.1
  | exn => obtain ⟨a, C, rfl, _⟩ := r; exact fun z => by cases z
  | vtup t => obtain ⟨a, _, rfl, _⟩ := r; exact fun z => by cases z
  | list t => obtain ⟨a, _, rfl, _⟩ := r; exact fun z => by cases z
  | hl b => obtain ⟨a, _, rfl, _⟩ := r; exact fun z => by cases z
  | ins C ks b => obtain ⟨a, rfl⟩ := r; exact fun z => by cases z
  | dict k t => obtain ⟨a, rfl, _⟩ := r; exact fun z => by cases z
  | tup b => obtain ⟨a, _, rfl, _⟩ := r; exact fun z => by cases z
  | last a => exact r.elim
  | cons a b => exact r.elim
  | _ => cases h
theorem rp_some {te : TE} {m : Em} {t : Ty} {F : Gam ts → Option (den t)} (h : RP K ms ts te m t F) (hs : t.solid = true := by rfl) : RP K ms ts te m (.opt t) (e1 (fun d => some (some d)) F) := fun E L Γ σ H xt Q d o e q => by
  obtain ⟨d', e1, e2⟩ := bind_some e
  cases e2
  refine h E L Γ σ H xt Q d' o e1 fun v H' s r => q v H' s ?_
  have ne : v ≠ .non := rS_solid hs r.b
  cases m with
  | o =>
    obtain ⟨f, Lr, h1, h2, h3⟩ := r
    exact ⟨f, Lr, ⟨ne, .inl h1⟩, h2, h3⟩
  | l =>
    obtain ⟨Lr, h1, h2⟩ := r
    exact ⟨Lr, ⟨ne, h1⟩, h2⟩
  | w =>
    obtain ⟨Lr, h1, h2⟩ := r
    exact ⟨Lr, ⟨ne, h1⟩, h2⟩
  | b => exact ⟨ne, r⟩
def V2 (K : KW) (r : R2) (m : Em) (t1 t2 t : Ty) (f : den t1 → den t2 → Option (den t)) : Prop :=
  ∀ (E : Ent) (L : Reg) (H : Hp) (v w : V) (a : den t1) (b : den t2) (c : den t) (Q : VK), (rS K H (fun _ => True) t1).1 v a → (rS K H (fun _ => True) t2).1 w b → f a b = some c → (∀ v' H', Same H H' → Rep K E L H H' m t v' c → Q v' H') → r v w H Q
theorem rp_op {r : R2} {m m1 m2 : Em} {t1 t2 t : Ty} {f : den t1 → den t2 → Option (den t)} {ta tb : TE} {Fa : Gam ts → Option (den t1)} {Fb : Gam ts → Option (den t2)} (hv : V2 K r m t1 t2 t f) (ha : RP K ms ts ta m1 t1 Fa) (hb : RP K ms ts tb m2 t2 Fb) :
    RP K ms ts (tOp r ta tb) m t (e2 f Fa Fb) := fun E L Γ σ H xt Q d o e q => by
  obtain ⟨a, ea, e⟩ := bind_some e
  obtain ⟨b, eb, e⟩ := bind_some e
  refine ha E L Γ σ H xt _ a o ea fun v H1 s1 r1 => ?_
  refine hb E L Γ σ H1 xt _ b (o.same s1) eb fun w H2 s2 r2 => ?_
  refine hv E L H2 v w a b d Q ((rS_mono (Cov.of_same s2 fun _ h _ => h) (Stb.of_same s2) t1).1 v a r1.b) r2.b e fun v' H3 s3 r3 => ?_
  exact q v' H3 ((s1.trans s2).trans s3) (r3.older (s1.trans s2))
theorem v2_I0 {m : Em} {g : Int → Int → Int} : V2 K (rI0 fun i j => .int (g i j)) m .int .int .int (fun a b => some (g a b)) := fun E L H v w a b c Q ra rb e q => by
  cases e
  exact ⟨a, b, ra, rb, q _ H (Same.refl H) (rep_atom rfl rfl)⟩
theorem v2_I {m : Em} {C : Int → Int → Prop} {k : Int → Int → Bool} (hk : ∀ i j, k i j = true → C i j) {g : Int → Int → Int} : V2 K (rI C fun i j => .int (g i j)) m .int .int .int (fun a b => okIf (k a b) (g a b)) := fun E L H v w a b c Q ra rb e q => by
  dsimp only [okIf] at e
  split at e
  · rename_i h
    cases e
    exact ⟨a, b, ra, rb, hk a b h, q _ H (Same.refl H) (rep_atom rfl rfl)⟩
  · cases e
theorem v2_B0 {m : Em} {g : Int → Int → Bool} : V2 K (rI0 fun i j => .bl (g i j)) m .int .int .bool (fun a b => some (g a b)) := fun E L H v w a b c Q ra rb e q => by
  cases e
  exact ⟨a, b, ra, rb, q _ H (Same.refl H) (rep_atom rfl rfl)⟩
abbrev fAdd (a b : Int) : Option Int := some (a + b)
abbrev fSub (a b : Int) : Option Int := some (a - b)
def mulOk (a b : Int) : Bool := decide (a.natAbs.log2 + b.natAbs.log2 < 1000000)
def divOk (b : Int) : Bool := decide (0 < b ∧ b.natAbs.log2 < 9000)
abbrev fMul (a b : Int) : Option Int := okIf (mulOk a b) (a * b)
abbrev fDiv (a b : Int) : Option Int := okIf (divOk b) (a / b)
abbrev fMod (a b : Int) : Option Int := okIf (decide (0 < b)) (a % b)
def powOk (a b : Int) : Bool := decide (0 ≤ b ∧ b ≤ 1000000 ∧ a.natAbs < 2 ^ 64)
abbrev fPow (a b : Int) : Option Int := okIf (powOk a b) (a ^ b.toNat)
theorem v_add {m : Em} : V2 K (rI0 fun i j => .int (i + j)) m .int .int .int fAdd := v2_I0
theorem v_mul {m : Em} : V2 K (rI CMulW fun i j => .int (i * j)) m .int .int .int fMul := v2_I fun i j h => by have h := of_decide_eq_true h; exact h
theorem v_div {m : Em} : V2 K (rI CDivW fun i j => .int (i / j)) m .int .int .int fDiv := v2_I (k := fun _ b => divOk b) fun i j h => by have h := of_decide_eq_true h; exact h
theorem v_mod {m : Em} : V2 K (rI (fun _ j => 0 < j) fun i j => .int (i % j)) m .int .int .int fMod := v2_I (k := fun _ b => decide (0 < b)) fun i j h => of_decide_eq_true h
theorem v_pow {m : Em} : V2 K (rI CPow fun i j => .int (i ^ j.toNat)) m .int .int .int fPow := v2_I fun i j h => by have h := of_decide_eq_true h; exact h
abbrev fLt (a b : Int) : Option Bool := some (decide (a < b))
abbrev fLe (a b : Int) : Option Bool := some (decide (a ≤ b))
abbrev fGt (a b : Int) : Option Bool := some (decide (b < a))
abbrev fGe (a b : Int) : Option Bool := some (decide (b ≤ a))
theorem v_lt {m : Em} : V2 K (rI0 fun i j => .bl (decide (i < j))) m .int .int .bool fLt := v2_B0
theorem v_le {m : Em} : V2 K (rI0 fun i j => .bl (decide (i ≤ j))) m .int .int .bool fLe := v2_B0
theorem v_gt {m : Em} : V2 K (rI0 fun i j => .bl (decide (j < i))) m .int .int .bool fGt := v2_B0
abbrev fEqI (a b : Int) : Option Bool := some (decide (a = b))
abbrev fNeI (a b : Int) : Option Bool := some (!decide (a = b))
abbrev fEqS (a b : Str) : Option Bool := some (decide (a = b))
abbrev fNeS (a b : Str) : Option Bool := some (!decide (a = b))
abbrev fEqB (a b : Bool) : Option Bool := some (decide (a = b))
abbrev fNeB (a b : Bool) : Option Bool := some (!decide (a = b))
theorem v_eqI {m : Em} : V2 K rEq m .int .int .bool fEqI := fun E L H v w a b c Q ra rb e q => by
  cases e; cases ra; cases rb
  refine ⟨rfl, q _ H (Same.refl H) (rep_atom rfl ?_)⟩
  show V.bl _ = V.bl _
  simp
theorem v_eqS {m : Em} : V2 K rEq m .str .str .bool fEqS := fun E L H v w a b c Q ra rb e q => by
  obtain ⟨rfl, _⟩ := ra; obtain ⟨rfl, _⟩ := rb; cases e
  refine ⟨rfl, q _ H (Same.refl H) (rep_atom rfl ?_)⟩
  show V.bl _ = V.bl _
  simp
theorem v_neS {m : Em} : V2 K rNe m .str .str .bool fNeS := fun E L H v w a b c Q ra rb e q => by
  obtain ⟨rfl, _⟩ := ra; obtain ⟨rfl, _⟩ := rb; cases e
  refine ⟨rfl, q _ H (Same.refl H) (rep_atom rfl ?_)⟩
  show V.bl _ = V.bl _
  simp
theorem v_isN {m : Em} {t : Ty} : V2 K (fun x y H Q => y = .non ∧ Q (.bl (decide (x = .non))) H) m (.opt t) .non .bool (fun a _ => some a.isNone) := fun E L H v w a b c Q ra rb e q => by
  cases e; cases rb
  refine ⟨rfl, q _ H (Same.refl H) (rep_atom rfl ?_)⟩
  show V.bl _ = V.bl _
  cases a with
  | none => cases (show v = .non from ra); rfl
  | some x => simp [(show v ≠ .non ∧ _ from ra).1]
def lenOk (n : Nat) : Bool := decide (n ≤ sizeLine)
def fCat (a b : Str) : Option Str := okIf (lenOk (a.length + b.length)) (a ++ b)
theorem strOk_append {a b : Str} (h : PyData.strOk a = true) (h' : PyData.strOk b = true) : PyData.strOk (a ++ b) = true := by
  unfold PyData.strOk at *
  show (a.cps ++ b.cps).all _ = true
  rw [Array.all_append, h, h']
  rfl
theorem v_cat {m : Em} : V2 K (fun x y H Q => ∃ i j, x = .str i ∧ y = .str j ∧ i.length + j.length ≤ sizeLine ∧ Q (.str (i ++ j)) H) m .str .str .str fCat := fun E L H v w a b c Q ra rb e q => by
  unfold fCat okIf at e
  split at e
  · rename_i h
    cases e
    exact ⟨a, b, ra.1, rb.1, of_decide_eq_true h, q _ H (Same.refl H) (rep_atom rfl ⟨rfl, strOk_append ra.2 rb.2⟩)⟩
  · cases e
def fInS (a b : Str) : Option Bool := some (!(Builtin.Str.occurrences b a 0 b.length 1).isEmpty)
def fNotInS (a b : Str) : Option Bool := some (!(!(Builtin.Str.occurrences b a 0 b.length 1).isEmpty))
theorem v_inS {m : Em} : V2 K (fun x y H Q => ∃ i j, x = .str i ∧ y = .str j ∧ Q (.bl (!(Builtin.Str.occurrences j i 0 j.length 1).isEmpty)) H) m .str .str .bool fInS := fun E L H v w a b c Q ra rb e q => by
  cases e
  exact ⟨a, b, ra.1, rb.1, q _ H (Same.refl H) (rep_atom rfl rfl)⟩
theorem v_notInS {m : Em} : V2 K (fun x y H Q => ∃ i j, x = .str i ∧ y = .str j ∧ Q (.bl (!(!(Builtin.Str.occurrences j i 0 j.length 1).isEmpty))) H) m .str .str .bool fNotInS := fun E L H v w a b c Q ra rb e q => by
  cases e
  exact ⟨a, b, ra.1, rb.1, q _ H (Same.refl H) (rep_atom rfl rfl)⟩
theorem rp_neg {m m1 : Em} {ta : TE} {Fa : Gam ts → Option Int} (ha : RP K ms ts ta m1 .int Fa) : RP K ms ts (tUn (rU fun i => .int (-i)) ta) m .int (e1 (fun a => some (-a)) Fa) := fun E L Γ σ H xt Q d o e q => by
  obtain ⟨a, ea, e⟩ := bind_some e
  cases e
  exact ha E L Γ σ H xt _ a o ea fun v H1 s1 r1 => ⟨a, r1.b, q _ H1 s1 (rep_atom rfl rfl)⟩
theorem rt_val {te : TE} {m : Em} {F : Gam ts → Option Bool} (h : RP K ms ts te m .bool F) : RT K ms ts (tB te) F := fun E L Γ σ H xt Q c o e q => h E L Γ σ H xt _ c o e fun v H' s r => ⟨c, r.b, q H' s⟩
theorem rt_test {te : TE} {m : Em} {F : Gam ts → Option Bool} (h : RP K ms ts te m .bool F) : RT K ms ts (tTest te) F := rt_val h
theorem rt_and {ta tb : TT} {Fa Fb : Gam ts → Option Bool} (ha : RT K ms ts ta Fa) (hb : RT K ms ts tb Fb) : RT K ms ts (tAnd ta tb) (eAnd Fa Fb) := fun E L Γ σ H xt Q c o e q => by
  obtain ⟨a, ea, e⟩ := bind_some e
  refine ha E L Γ σ H xt _ a o ea fun H1 s1 => ?_
  cases a with
  | true =>
    rw [if_pos rfl] at e ⊢
    exact hb E L Γ σ H1 xt _ c (o.same s1) e fun H2 s2 => q H2 (s1.trans s2)
  | false =>
    rw [if_neg Bool.false_ne_true] at e ⊢
    cases e
    exact q H1 s1
theorem rt_or {ta tb : TT} {Fa Fb : Gam ts → Option Bool} (ha : RT K ms ts ta Fa) (hb : RT K ms ts tb Fb) : RT K ms ts (tOr ta tb) (eOr Fa Fb) := fun E L Γ σ H xt Q c o e q => by
  obtain ⟨a, ea, e⟩ := bind_some e
  refine ha E L Γ σ H xt _ a o ea fun H1 s1 => ?_
  cases a with
  | true =>
    rw [if_pos rfl] at e ⊢
    cases e
    exact q H1 s1
  | false =>
    rw [if_neg Bool.false_ne_true] at e ⊢
    exact hb E L Γ σ H1 xt _ c (o.same s1) e fun H2 s2 => q H2 (s1.trans s2)
theorem rt_not {ta : TT} {Fa : Gam ts → Option Bool} (ha : RT K ms ts ta Fa) : RT K ms ts (tNot ta) (eNot Fa) := fun E L Γ σ H xt Q c o e q => by
  obtain ⟨a, ea, e⟩ := bind_some e
  cases e
  exact ha E L Γ σ H xt _ a o ea fun H1 s1 => q H1 s1
theorem rp_and {m m1 m2 : Em} {ta tb : TE} {Fa Fb : Gam ts → Option Bool} (ha : RP K ms ts ta m1 .bool Fa) (hb : RP K ms ts tb m2 .bool Fb) : RP K ms ts (tAndV ta tb) m .bool (eAnd Fa Fb) := fun E L Γ σ H xt Q c o e q => by
  obtain ⟨a, ea, e⟩ := bind_some e
  refine ha E L Γ σ H xt _ a o ea fun v H1 s1 r1 => ⟨a, r1.b, ?_⟩
  cases a with
  | true =>
    rw [if_pos rfl] at e ⊢
    exact hb E L Γ σ H1 xt _ c (o.same s1) e fun w H2 s2 r2 => q w H2 (s1.trans s2) (rep_atom rfl r2.b)
  | false =>
    rw [if_neg Bool.false_ne_true] at e ⊢
    cases e
    exact q _ H1 s1 (rep_atom rfl rfl)
theorem rp_or {m m1 m2 : Em} {ta tb : TE} {Fa Fb : Gam ts → Option Bool} (ha : RP K ms ts ta m1 .bool Fa) (hb : RP K ms ts tb m2 .bool Fb) : RP K ms ts (tOrV ta tb) m .bool (eOr Fa Fb) := fun E L Γ σ H xt Q c o e q => by
  obtain ⟨a, ea, e⟩ := bind_some e
  refine ha E L Γ σ H xt _ a o ea fun v H1 s1 r1 => ⟨a, r1.b, ?_⟩
  cases a with
  | true =>
    rw [if_pos rfl] at e ⊢
    cases e
    exact q _ H1 s1 (rep_atom rfl rfl)
  | false =>
    rw [if_neg Bool.false_ne_true] at e ⊢
    exact hb E L Γ σ H1 xt _ c (o.same s1) e fun w H2 s2 r2 => q w H2 (s1.trans s2) (rep_atom rfl r2.b)
theorem rp_chain {r r' : R2} {m m1 m2 m3 m4 m5 : Em} {t1 t2 t3 : Ty} {f : den t1 → den t2 → Option Bool} {g : den t2 → den t3 → Option Bool} {ta tb tc : TE} {Fa : Gam ts → Option (den t1)} {Fb : Gam ts → Option (den t2)} {Fc : Gam ts → Option (den t3)}
    (hv : V2 K r m4 t1 t2 .bool f) (hv' : V2 K r' m5 t2 t3 .bool g) (ha : RP K ms ts ta m1 t1 Fa) (hb : RP K ms ts tb m2 t2 Fb) (hc : RP K ms ts tc m3 t3 Fc) : RP K ms ts (tChain r r' ta tb tc) m .bool
      (fun Γ => (Fa Γ).bind fun a => (Fb Γ).bind fun b => (f a b).bind fun k => if k = true then (Fc Γ).bind fun c => g b c else some false) := fun E L Γ σ H xt Q d o e q => by
  obtain ⟨a, ea, e⟩ := bind_some e
  obtain ⟨b, eb, e⟩ := bind_some e
  obtain ⟨k, ek, e⟩ := bind_some e
  refine ha E L Γ σ H xt _ a o ea fun v H1 s1 r1 => ?_
  refine hb E L Γ σ H1 xt _ b (o.same s1) eb fun w H2 s2 r2 => ?_
  refine hv E L H2 v w a b k _ ((rS_mono (Cov.of_same s2 fun _ h _ => h) (Stb.of_same s2) t1).1 v a r1.b) r2.b ek fun z H3 s3 r3 => ⟨k, r3.b, ?_⟩
  cases k with
  | true =>
    rw [if_pos rfl] at e ⊢
    obtain ⟨c, ec, e⟩ := bind_some e
    refine hc E L Γ σ H3 xt _ c (((o.same s1).same s2).same s3) ec fun x H4 s4 r4 => ?_
    refine hv' E L H4 w x b c d _ ((rS_mono (Cov.of_same (s3.trans s4) fun _ h _ => h) (Stb.of_same (s3.trans s4)) t2).1 w b r2.b) r4.b e fun y H5 s5 r5 => ?_
    exact q y H5 ((((s1.trans s2).trans s3).trans s4).trans s5) (rep_atom rfl r5.b)
  | false =>
    rw [if_neg Bool.false_ne_true] at e ⊢
    cases e
    exact q _ H3 ((s1.trans s2).trans s3) (rep_atom rfl rfl)
theorem ra_one {m : Em} {t : Ty} {te : TE} {F : Gam ts → Option (den t)} (h : RP K ms ts te m t F) : RA K ms ts (tCons te tNil) m (.last t) F := fun E L Γ σ H xt Q d o e q => by
  refine h E L Γ σ H xt _ d o e fun v H' s r => q [v] H' s ?_
  cases m with
  | o =>
    obtain ⟨f, Lr, h1, h2⟩ := r
    exact ⟨f, Lr, ⟨v, rfl, .inl h1⟩, h2⟩
  | l =>
    obtain ⟨Lr, h1, h2⟩ := r
    exact ⟨Lr, ⟨v, rfl, h1⟩, h2⟩
  | w =>
    obtain ⟨Lr, h1, h2⟩ := r
    exact ⟨Lr, ⟨v, rfl, h1⟩, h2⟩
  | b => exact ⟨v, rfl, r⟩
theorem ra_cons {m : Em} {t b : Ty} {te : TE} {ta : TA} {F : Gam ts → Option (den t)} {G : Gam ts → Option (den b)} (h : RP K ms ts te m t F) (hr : RA K ms ts ta m b G) : RA K ms ts (tCons te ta) m (.cons t b) (eCons F G) := fun E L Γ σ H xt Q d o e q => by
  obtain ⟨a, ea, e⟩ := bind_some e
  obtain ⟨r, er, e⟩ := bind_some e
  cases e
  refine h E L Γ σ H xt _ a o ea fun v H1 s1 r1 => hr E L Γ σ H1 xt _ r (o.same s1) er fun vs H2 s2 r2 => q (v :: vs) H2 (s1.trans s2) ?_
  have nwo : ∀ {R : Reg}, Nw H1 H2 R → Nw H H2 R := fun {R} h a ha => ⟨s1.free (h a ha).1, (h a ha).2⟩
  have nwe : ∀ {R : Reg}, Nw H H1 R → Nw H H2 R := fun {R} h a ha => ⟨(h a ha).1, by rw [same_at s2 (h a ha).2]; exact (h a ha).2⟩
  have apart : ∀ {R R' : Reg}, Nw H H1 R → Nw H1 H2 R' → ∀ a, R a → ¬ R' a := fun {R R'} h h' a ha hb => by
    have := (h a ha).2
    rw [(h' a hb).1] at this
    cases this
  cases m with
  | o =>
    obtain ⟨f, Lr, h1, h2, h3, h4, h5⟩ := r1
    obtain ⟨g, Ls, k1, k2, k3, k4, k5⟩ := r2
    have e1 : (rO K H2 (fun a => L a ∨ (Lr a ∨ Ls a)) t).1 v a f := (rO_mono (Cov.of_same s2 fun a h _ => h.elim .inl fun z => .inr (.inl z)) (Stb.of_same s2) t).1 v a f (fun a ha => same_at s2 (h3 a ha).2) h1
    have e2 : (rO K H2 (fun a => L a ∨ (Lr a ∨ Ls a)) b).2 vs r g := (rO_mono (Cov.of_reg fun a h _ => h.elim .inl fun z => .inr (.inr z)) (Stb.refl _) b).2 vs r g (fun _ _ => rfl) k1
    refine ⟨f ++ g, fun a => Lr a ∨ Ls a, ⟨v, vs, f, g, rfl, rfl, .inl e1, e2⟩, List.nodup_append.mpr ⟨h2, k2, fun a ha b hb z => ?_⟩, fun a ha => ?_, fun a ha => ?_, fun a ha => ?_⟩
    · subst z
      exact apart h3 k3 a ha hb
    · rcases List.mem_append.mp ha with z | z
      · exact nwe h3 a z
      · exact nwo k3 a z
    · rcases ha with z | z
      · exact nwe h4 a z
      · exact nwo k4 a z
    · rcases List.mem_append.mp ha with z | z
      · exact fun y => y.elim (h5 a z) (apart h3 k4 a z)
      · exact fun y => y.elim (fun y => apart h4 k3 a y z) (k5 a z)
  | l =>
    obtain ⟨Lr, h1, h2⟩ := r1
    obtain ⟨Ls, k1, k2⟩ := r2
    refine ⟨fun a => Lr a ∨ Ls a, ⟨v, vs, rfl, (rS_mono (Cov.of_same s2 fun a h _ => h.elim .inl fun z => .inr (.inl z)) (Stb.of_same s2) t).1 v a h1, (rS_mono (Cov.of_reg fun a h _ => h.elim .inl fun z => .inr (.inr z)) (Stb.refl _) b).2 vs r k1⟩, fun a ha => ?_⟩
    rcases ha with z | z
    · exact nwe h2 a z
    · exact nwo k2 a z
  | w =>
    obtain ⟨Lr, h1, h2⟩ := r1
    obtain ⟨Ls, k1, k2⟩ := r2
    refine ⟨fun a => Lr a ∨ Ls a, ⟨v, vs, rfl, (rS_mono (Cov.of_same s2 fun a h _ => h.elim .inl fun z => z.elim (fun z => .inr (.inl z)) fun z => .inr (.inr (.inl z))) (Stb.of_same s2) t).1 v a h1,
      (rS_mono (Cov.of_reg fun a h _ => h.elim .inl fun z => z.elim (fun z => .inr (.inl z)) fun z => .inr (.inr (.inr z))) (Stb.refl _) b).2 vs r k1⟩, fun a ha => ?_⟩
    rcases ha with z | z
    · exact nwe h2 a z
    · exact nwo k2 a z
  | b => exact ⟨v, vs, rfl, (rS_mono (Cov.of_same s2 fun a h _ => h) (Stb.of_same s2) t).1 v a r1, r2⟩
def rowLen : Ty → Nat
  | .last _ => 1
  | .cons _ b => rowLen b + 1
  | .own t => rowLen t
  | _ => 0
theorem row_length {R : Reg} : ∀ (b : Ty) (vs : List V) (d : den b), (rS K H R b).2 vs d → vs.length = rowLen b
  | .last a, _, _, h => by obtain ⟨v, rfl, _⟩ := h; rfl
  | .cons a b, _, _, h => by
    obtain ⟨v, r, rfl, _, h2⟩ := h
    have := row_length b r _ h2
    simp [rowLen, this]
  | .non, _, _, h => h.elim
  | .bool, _, _, h => h.elim
  | .int, _, _, h => h.elim
  | .str, _, _, h => h.elim
  | .any, _, _, h => h.elim
  | .alt _ _, _, _, h => h.elim
  | .exn, _, _, h => h.elim
  | .opt _, _, _, h => h.elim
  | .vtup _, _, _, h => h.elim
  | .list _, _, _, h => h.elim
  | .dict _ _, _, _, h => h.elim
  | .own t, vs, d, h => row_length t vs d h
  | .hl _, _, _, h => h.elim
  | .ins _ _ _, _, _, h => h.elim
  | .tup _, _, _, h => h.elim
end
end VV
namespace VV
open PySem L2
noncomputable def hide {α : Type} (a : α) : α := Classical.choose (⟨a, rfl⟩ : ∃ b, b = a)
theorem hide_eq {α : Type} (a : α) : hide a = a := Classical.choose_spec (⟨a, rfl⟩ : ∃ b, b = a)
section
variable {K : KW} {E : Ent} {ms : List Md} {ts : List Ty} {L L1 : Reg} {Γ Γ1 : Gam ts} {σ σ1 : St} {H H' H1 : Hp} {xt : List Addr} {rm : Rm} {ρ : Ty}
def sNext {G ρ : Type} : G → Option (Fl G ρ) := fun Γ => some (.nx Γ)
def sSeq {G ρ : Type} (F F' : G → Option (Fl G ρ)) : G → Option (Fl G ρ) := fun Γ => (F Γ).bind fun r => match r with
  | .nx Γ' => F' Γ'
  | r => some r
def sIf {G ρ : Type} (c : G → Option Bool) (F F' : G → Option (Fl G ρ)) : G → Option (Fl G ρ) := fun Γ => (c Γ).bind fun b => if b = true then F Γ else F' Γ
def sBreak {G ρ : Type} : G → Option (Fl G ρ) := fun Γ => some (.bk Γ)
def sCont {G ρ : Type} : G → Option (Fl G ρ) := fun Γ => some (.ct Γ)
def sSet {ρ : Type} {ts : List Ty} {t : Ty} (i : Mem ts t) (F : Gam ts → Option (den t)) : Gam ts → Option (Fl (Gam ts) ρ) := fun Γ => (F Γ).bind fun d => some (.nx (i.set (some d) Γ))
def sRet {G ρ : Type} (F : G → Option ρ) : G → Option (Fl G ρ) := fun Γ => (F Γ).bind fun d => some (.rt d Γ)
def sRetM {ts : List Ty} {t : Ty} (i : Mem ts t) : Gam ts → Option (Fl (Gam ts) (den t)) := fun Γ => (i.get Γ).bind fun d => some (.rt d (i.set none Γ))
def sDrop {G ρ α : Type} (F : G → Option α) : G → Option (Fl G ρ) := fun Γ => (F Γ).bind fun _ => some (.nx Γ)
theorem Post.later {D : Ends} {f : Fl (Gam ts) (den ρ)} (p : Post K E ms ts rm ρ L Γ σ H D f) (e : Ev ms ts L Γ σ H L1 Γ1 σ1 H1) : Post K E ms ts rm ρ L1 Γ1 σ1 H1 D f := by
  cases f with
  | nx Γ' => exact fun L' σ' H' o e' => p L' σ' H' o (e.trans e')
  | bk Γ' => exact fun L' σ' H' o e' => p L' σ' H' o (e.trans e')
  | ct Γ' => exact fun L' σ' H' o e' => p L' σ' H' o (e.trans e')
  | rt d Γ' => exact fun L' σ' H' v xt o e' => p L' σ' H' v xt o (e.trans e')
theorem rs_hide {t : TS} {F : Gam ts → Option (Fl (Gam ts) (den ρ))} (h : RS K ms ts t rm ρ F) : RS K ms ts t rm ρ (hide F) := by
  rw [hide_eq]
  exact h
theorem rs_next : RS K ms ts tNext rm ρ sNext := fun E L Γ σ H D f o e p => by
  cases e
  exact p L σ H o (Ev.same (Same.refl H))
theorem rs_seq {t u : TS} {F F' : Gam ts → Option (Fl (Gam ts) (den ρ))} (h : RS K ms ts t rm ρ F) (h' : RS K ms ts u rm ρ F') : RS K ms ts (tSeq t u) rm ρ (sSeq F F') := fun E L Γ σ H D f o e p => by
  obtain ⟨r, e1, e2⟩ := bind_some e
  refine h E L Γ σ H _ r o e1 ?_
  cases r with
  | nx Γ1 => exact fun L1 σ1 H1 o1 ev1 => h' E L1 Γ1 σ1 H1 D f o1 e2 (p.later ev1)
  | bk Γ1 => cases e2; exact fun L1 σ1 H1 o1 ev1 => p L1 σ1 H1 o1 ev1
  | ct Γ1 => cases e2; exact fun L1 σ1 H1 o1 ev1 => p L1 σ1 H1 o1 ev1
  | rt d Γ1 => cases e2; exact fun L1 σ1 H1 v xt o1 ev1 r1 => p L1 σ1 H1 v xt o1 ev1 r1
theorem rs_if {tc : TT} {t u : TS} {c : Gam ts → Option Bool} {F F' : Gam ts → Option (Fl (Gam ts) (den ρ))} (hc : RT K ms ts tc c) (h : RS K ms ts t rm ρ F) (h' : RS K ms ts u rm ρ F') : RS K ms ts (tIfS tc t u) rm ρ (sIf c F F') := fun E L Γ σ H D f o e p => by
  obtain ⟨b, e1, e2⟩ := bind_some e
  refine hc E L Γ σ H [] _ b o e1 fun H1 s1 => ?_
  cases b with
  | true =>
    rw [if_pos rfl] at e2 ⊢
    exact h E L Γ σ H1 D f (o.same s1) e2 (p.later (Ev.same s1))
  | false =>
    rw [if_neg Bool.false_ne_true] at e2 ⊢
    exact h' E L Γ σ H1 D f (o.same s1) e2 (p.later (Ev.same s1))
theorem keepF_set {t : Ty} (i : Mem ts t) {m : Md} (hm : ms[i.ix]? = some m) (hk : m.fixd = false) (d : Option (den t)) (s : Option V) : KeepF ms ts Γ (i.set d Γ) σ (σ.set i.ix s) := by
  have ne : ∀ n m', ms[n]? = some m' → m'.fixd = true → i.ix ≠ n := fun n m' hj hh z => by
    rw [z, hj] at hm
    cases hm
    rw [hk] at hh
    cases hh
  exact ⟨fun u j m' hj hh => Mem.get_set_ne i j d Γ (ne _ m' hj (hard_fixd hh)), fun n m' hj hh => List.getElem?_set_ne (ne n m' hj hh)⟩
theorem Own.temp {f : List Addr} {Lr : Reg} (o : Own K E L ms ts Γ σ H []) (s : Same H H') (nf : f.Nodup) (hf : Nw H H' (· ∈ f)) (hl : Nw H H' Lr) (hd : ∀ a ∈ f, ¬ Lr a) : Own K E (fun a => L a ∨ Lr a) ms ts Γ σ H' f := by
  have o1 := o.same s
  obtain ⟨fp, g, nd, gd⟩ := id o.ex
  obtain ⟨fp1, g1, nd1, gd1⟩ := id o1.ex
  rw [List.append_nil] at nd gd
  have fre : ∀ a, H a = none → a ∉ fp := fun a h z => by
    have := (gd a z).at_
    rw [h] at this
    cases this
  refine ⟨⟨fp, rG_mono (o.covS fun a q h1 h2 => s _ _ (o.fr a q h1 h2)) (Cov.of_same s fun a h _ => .inl h) (Stb.of_same s) (fun a ha => same_at s (gd a ha).at_) g, ?_, fun a ha => ?_⟩, o1.fr, fun a h => ?_, o.s0, o1.iod⟩
  · exact List.nodup_append.mpr ⟨nd, nf, fun a ha b hb z => by subst z; exact fre a (hf a hb).1 ha⟩
  · rcases List.mem_append.mp ha with h | h
    · have g := gd a h
      exact ⟨g.new, fun z => z.elim g.nl fun z => fre a (hl a z).1 h, g.ns, by rw [same_at s g.at_]; exact g.at_⟩
    · have ff := o.fresh (hf a h).1
      exact ⟨.inl ff.1, fun z => z.elim ff.2.1 (hd a h), ff.2.2, (hf a h).2⟩
  · rcases h with h | h
    · exact o1.lr a h
    · exact ⟨.inl (o.fresh (hl a h).1).1, (hl a h).2⟩
def Md.em : Md → Em
  | .o => .o
  | .l => .l
  | .w => .w
  | .f => .b
  | .k => .b
  | .r => .b
theorem Own.store {t : Ty} (i : Mem ts t) {m : Md} {v : V} {d : den t} (o : Own K E L ms ts Γ σ H []) (hm : ms[i.ix]? = some m) (hk : m.fixd = false) (s : Same H H') (r : Rep K E L H H' m.em t v d) :
    ∃ L', Own K E L' ms ts (i.set (some d) Γ) (σ.set i.ix (some v)) H' [] ∧ Ev ms ts L Γ σ H L' (i.set (some d) Γ) (σ.set i.ix (some v)) H' := by
  obtain ⟨s0, f0, e1, e2, e3, e4, e5⟩ := o.focus i hm
  have same1 : ∀ a, (H a).isSome = true → H' a = H a := fun a h => same_at s h
  have up : ∀ a, (H a).isSome = true → (H' a).isSome = true := fun a h => by rw [same1 a h]; exact h
  have ev : ∀ (L' : Reg), (∀ a, L a → L' a) → Ev ms ts L Γ σ H L' (i.set (some d) Γ) (σ.set i.ix (some v)) H' := fun L' hL => ⟨hL, fun a q _ h => s _ _ h, Stb.of_same s, keepF_set i hm hk _ _⟩
  have go : ∀ (L' : Reg) (f : List Addr), (∀ a, L a → L' a) → (∀ a, L' a → L a ∨ H a = none) → (∀ a, L' a → (H' a).isSome = true) → repM K H' E.S0 L' m t v d f → f.Nodup → (∀ a ∈ f, H a = none ∧ ¬ L' a ∧ (H' a).isSome = true) →
      ∃ L', Own K E L' ms ts (i.set (some d) Γ) (σ.set i.ix (some v)) H' [] ∧ Ev ms ts L Γ σ H L' (i.set (some d) Γ) (σ.set i.ix (some v)) H' := fun L' f c3 c4 c5 c6 c7 c8 => by
    refine ⟨L', e5 H' L' (some d) (some v) f [] (fun a h _ _ => same1 a h) (Stb.of_same s) c3 (fun a h => (c4 a h).elim .inl fun z => .inr (.inr (.inr z))) up (fun a h => ⟨?_, c5 a h⟩) ⟨v, rfl, c6⟩ (by simpa using c7) fun a ha => ?_, ev L' c3⟩
    · rcases c4 a h with z | z
      · exact (o.lr a z).1
      · exact .inl (o.fresh z).1
    · have ha : a ∈ f := by simpa using ha
      exact ⟨.inr (.inr (c8 a ha).1), (c8 a ha).2⟩
  have lift : ∀ {R : Reg}, Nw H H' R → ∀ a, L a ∨ R a → (H' a).isSome = true := fun {R} h a z => z.elim (fun z => up a (o.lr a z).2) fun z => (h a z).2
  cases m with
  | o =>
    obtain ⟨f, Lr, h1, h2, h3, h4, h5⟩ := r
    exact go (fun a => L a ∨ Lr a) f (fun a h => .inl h) (fun a h => h.elim .inl fun z => .inr (h4 a z).1) (lift h4) h1 h2 fun a ha => ⟨(h3 a ha).1, fun z => z.elim (o.fresh (h3 a ha).1).2.1 (h5 a ha), (h3 a ha).2⟩
  | l =>
    obtain ⟨Lr, h1, h4⟩ := r
    exact go (fun a => L a ∨ Lr a) [] (fun a h => .inl h) (fun a h => h.elim .inl fun z => .inr (h4 a z).1) (lift h4) ⟨rfl, h1⟩ List.nodup_nil fun a ha => by simp at ha
  | w =>
    obtain ⟨Lr, h1, h4⟩ := r
    exact go (fun a => L a ∨ Lr a) [] (fun a h => .inl h) (fun a h => h.elim .inl fun z => .inr (h4 a z).1) (lift h4) ⟨rfl, h1⟩ List.nodup_nil fun a ha => by simp at ha
  | f => exact absurd hk (by decide)
  | k => exact absurd hk (by decide)
  | r => exact absurd hk (by decide)
theorem rs_set {t : Ty} (i : Mem ts t) {n : Nat} {m : Md} {te : TE} {F : Gam ts → Option (den t)} (h : RP K ms ts te m.em t F) (hm : ms[i.ix]? = some m := by rfl) (hk : m.fixd = false := by rfl) (hn : i.ix = n := by rfl) :
    RS K ms ts (tAsg te (gName n)) rm ρ (sSet i F) := fun E L Γ σ H D f o e p => by
  subst hn
  obtain ⟨d, e1, e2⟩ := bind_some e
  cases e2
  refine h E L Γ σ H [] _ d o e1 fun v H1 s1 r1 => ?_
  obtain ⟨L', o', ev⟩ := o.store i hm hk s1 r1
  exact p L' _ H1 o' ev
def Rm.em : Rm → Em
  | .o => .o
  | .l => .l
  | .w => .w
  | .x _ m => m.em
theorem rs_ret {te : TE} {F : Gam ts → Option (den ρ)} (h : RP K ms ts te rm.em ρ F) (hpl : rm.plain = true := by rfl) : RS K ms ts (tRet te) rm ρ (sRet F) := fun E L Γ σ H D f o e p => by
  obtain ⟨d, e1, e2⟩ := bind_some e
  cases e2
  refine h E L Γ σ H [] _ d o e1 fun v H1 s1 r1 => ?_
  have ev : ∀ Lr : Reg, Ev ms ts L Γ σ H (fun a => L a ∨ Lr a) Γ σ H1 := fun Lr => ⟨fun a h => .inl h, fun a q _ h => s1 _ _ h, Stb.of_same s1, KeepF.refl⟩
  cases rm with
  | o =>
    obtain ⟨f, Lr, h1, h2, h3, h4, h5⟩ := r1
    exact p _ σ H1 v f (o.temp s1 h2 h3 h4 h5) (ev Lr) h1
  | l =>
    obtain ⟨Lr, h1, h4⟩ := r1
    exact p _ σ H1 v [] (o.temp s1 List.nodup_nil (fun a ha => by simp at ha) h4 fun a ha => by simp at ha) (ev Lr) ⟨rfl, h1⟩
  | w =>
    obtain ⟨Lr, h1, h4⟩ := r1
    exact p _ σ H1 v [] (o.temp s1 List.nodup_nil (fun a ha => by simp at ha) h4 fun a ha => by simp at ha) (ev Lr) ⟨rfl, h1⟩
  | x W m => cases hpl
theorem Own.take {t : Ty} (i : Mem ts t) {d : den t} (o : Own K E L ms ts Γ σ H []) (hm : ms[i.ix]? = some .o) (hd : i.get Γ = some d) : ∃ v f, σ[i.ix]? = some (some v) ∧ (rO K H L t).1 v d f ∧ Own K E L ms ts (i.set none Γ) σ H f := by
  obtain ⟨s0, f0, e1, e2, e3, e4, e5⟩ := o.focus i hm
  rw [hd] at e2
  obtain ⟨v, rfl, r⟩ := e2
  refine ⟨v, f0, e1, r, ?_⟩
  have := e5 H L none (some v) [] f0 (fun a h _ _ => rfl) (Stb.refl H) (fun _ h => h) (fun _ h => .inl h) (fun _ h => h) (fun a h => o.lr a h) rfl (by simpa using e3) fun a ha => by
    have ha : a ∈ f0 := by simpa using ha
    exact ⟨.inl ha, (e4 a ha).1.nl, (e4 a ha).1.at_⟩
  have es : σ.set i.ix (some v) = σ := by
    refine List.ext_getElem? fun n => ?_
    by_cases hn : n = i.ix
    · subst hn
      rw [List.getElem?_set_self (List.getElem?_eq_some_iff.mp e1).1]
      exact e1.symm
    · rw [List.getElem?_set_ne (Ne.symm hn)]
  rw [es] at this
  exact this
theorem keepF_set0 {t : Ty} (i : Mem ts t) {m : Md} (hm : ms[i.ix]? = some m) (hk : m.hard = false) (d : Option (den t)) : KeepF ms ts Γ (i.set d Γ) σ σ := ⟨fun u j m' hj hh => by
  have ne : i.ix ≠ j.ix := fun z => by
    rw [z, hj] at hm
    cases hm
    rw [hk] at hh
    cases hh
  exact Mem.get_set_ne i j d Γ ne, fun _ _ _ _ => rfl⟩
theorem repM_own {S0 : Reg} {m : Md} (h : m.own = true) {t : Ty} {v : V} {d : den t} {f : List Addr} : repM K H S0 L m t v d f ↔ (rO K H L t).1 v d f := by cases m <;> first | exact Iff.rfl | cases h
theorem own_hard {m : Md} (h : m.own = true) : m.hard = false := by cases m <;> first | rfl | cases h
theorem rs_retm (i : Mem ts ρ) {n : Nat} (hm : ms[i.ix]? = some .o := by rfl) (hn : i.ix = n := by rfl) : RS K ms ts (tRet (tVar n)) .o ρ (sRetM i) := fun E L Γ σ H D f o e p => by
  subst hn
  obtain ⟨d, e1, e2⟩ := bind_some e
  cases e2
  obtain ⟨v, f, h1, h2, h3⟩ := o.take i hm e1
  exact ⟨v, h1, p L σ H v f h3 ⟨fun _ h => h, fun _ _ _ h => h, Stb.refl H, keepF_set0 i hm rfl none⟩ h2⟩
def sMove {ρ : Type} {ts : List Ty} {t : Ty} (i j : Mem ts t) : Gam ts → Option (Fl (Gam ts) ρ) := fun Γ => (j.get Γ).bind fun d => some (.nx (i.set (some d) (j.set none Γ)))
def forL {G ρ α : Type} (bind : α → G → G) (mask : G → G) (body : G → Option (Fl G ρ)) : List α → G → Option (Fl G ρ)
  | [], Γ => some (.nx Γ)
  | x :: xs, Γ => (body (bind x Γ)).bind fun r => match r with
    | .nx Γ' => forL bind mask body xs (mask Γ')
    | .ct Γ' => forL bind mask body xs (mask Γ')
    | .bk Γ' => some (.nx (mask Γ'))
    | .rt r Γ' => some (.rt r Γ')
def sFor {G ρ α : Type} (F : G → Option (List α)) (bind : α → G → G) (mask : G → G) (body : G → Option (Fl G ρ)) : G → Option (Fl G ρ) := fun Γ => (F Γ).bind fun xs => forL bind mask body xs (mask Γ)
def reg (w : Bool) (E : Ent) (L : Reg) : Reg := if w then (fun a => E.S0 a ∨ L a) else L
structure IterOk (K : KW) (R : Reg) (t : Ty) (J : It) (ds : List (den t)) (Z : Hp → Prop) : Prop where
  keep : ∀ H H', Cov H H' R R → Stb H H' → Z H → Z H'
  go : ∀ i H, Z H → i < ds.length → J.go i H
  stop : ∀ H, Z H → J.stop ds.length H
  yld : ∀ i H x H', i < ds.length → Z H → J.yld i H x H' → Same H H' ∧ ∃ d, ds[i]? = some d ∧ (rS K H' R t).1 x d
def RI (K : KW) (ms : List Md) (ts : List Ty) (wi : TI) (w : Bool) (t : Ty) (F : Gam ts → Option (List (den t))) : Prop :=
  ∀ (E : Ent) (L : Reg) (Γ : Gam ts) (σ : St) (H : Hp) (xt : List Addr) (R : It → Hp → Prop) (ds : List (den t)), Own K E L ms ts Γ σ H xt → F Γ = some ds →
    (∀ J H' Lr Z, Same H H' → Nw H H' Lr → IterOk K (reg w E fun a => L a ∨ Lr a) t J ds Z → Z H' → R J H') → wi σ H R
def RG (K : KW) (ms : List Md) (ts : List Ty) (g : TG) (w : Bool) (t : Ty) (B : den t → Gam ts → Gam ts) : Prop :=
  ∀ (E : Ent) (L : Reg) (Γ : Gam ts) (σ : St) (H : Hp) (Q : St → Hp → Prop) (x : V) (d : den t), Own K E L ms ts Γ σ H [] → (rS K H (reg w E L) t).1 x d →
    (∀ σ', Own K E L ms ts (B d Γ) σ' H [] → Ev ms ts L Γ σ H L (B d Γ) σ' H → Q σ' H) → g x σ H Q
def RGs (K : KW) (ms : List Md) (ts : List Ty) (g : TGs) (w : Bool) (b : Ty) (B : den b → Gam ts → Gam ts) : Prop :=
  ∀ (E : Ent) (L : Reg) (Γ : Gam ts) (σ : St) (H : Hp) (Q : St → Hp → Prop) (xs : List V) (d : den b), Own K E L ms ts Γ σ H [] → (rS K H (reg w E L) b).2 xs d →
    (∀ σ', Own K E L ms ts (B d Γ) σ' H [] → Ev ms ts L Γ σ H L (B d Γ) σ' H → Q σ' H) → g xs σ H Q
def bName {ts : List Ty} {t : Ty} (i : Mem ts t) : den t → Gam ts → Gam ts := fun d Γ => i.set (some d) Γ
def bCons {G α β : Type} (B : α → G → G) (B' : β → G → G) : α × β → G → G := fun d Γ => B' d.2 (B d.1 Γ)
def okTg (w : Bool) (m : Md) (t : Ty) : Bool := match m with
  | .o => t.frz
  | .l => !w || t.frz
  | .w => true
  | .f => false
  | .k => false
  | .r => false
theorem rg_name {w : Bool} {t : Ty} (i : Mem ts t) {n : Nat} {m : Md} (hm : ms[i.ix]? = some m := by rfl) (hk : okTg w m t = true := by rfl) (hn : i.ix = n := by rfl) : RG K ms ts (gName n) w t (bName i) := fun E L Γ σ H Q x d o r q => by
  subst hn
  obtain ⟨s0, f0, e1, e2, e3, e4, e5⟩ := o.focus i hm
  have hkf : m.fixd = false := by
    cases m <;> first | rfl | exact absurd hk (by simp [okTg])
  refine q _ (e5 H L (some d) (some x) [] [] (fun _ _ _ _ => rfl) (Stb.refl H) (fun _ h => h) (fun _ h => .inl h) (fun _ h => h) (fun a h => o.lr a h) ⟨x, rfl, ?_⟩ (by simp) (fun a ha => by simp at ha)) ⟨fun _ h => h, fun _ _ _ h => h, Stb.refl H, keepF_set i hm hkf _ _⟩
  have toW : (rS K H (reg w E L) t).1 x d → (rS K H (fun a => E.S0 a ∨ L a) t).1 x d := fun r => by
    cases w with
    | true => exact r
    | false => exact (rS_mono (Cov.of_reg fun a h _ => .inr h) (Stb.refl H) t).1 x d r
  cases m with
  | o => exact (rS_o t hk).1 x d r
  | l =>
    refine ⟨rfl, ?_⟩
    cases w with
    | false => exact r
    | true => exact (rS_frz t (by simpa [okTg] using hk)).1 x d r
  | w => exact ⟨rfl, toW r⟩
  | f => exact absurd hk (by simp [okTg])
  | k => exact absurd hk (by simp [okTg])
  | r => exact absurd hk (by simp [okTg])
theorem rgs_one {w : Bool} {t : Ty} {g : TG} {B : den t → Gam ts → Gam ts} (h : RG K ms ts g w t B) : RGs K ms ts (gCons g gNil) w (.last t) B := fun E L Γ σ H Q xs d o r q => by
  obtain ⟨v, rfl, r⟩ := r
  exact ⟨v, [], rfl, h E L Γ σ H _ v d o r fun σ' o' e' => ⟨rfl, q σ' o' e'⟩⟩
theorem rgs_cons {w : Bool} {t b : Ty} {g : TG} {gs : TGs} {B : den t → Gam ts → Gam ts} {B' : den b → Gam ts → Gam ts} (h : RG K ms ts g w t B) (h' : RGs K ms ts gs w b B') : RGs K ms ts (gCons g gs) w (.cons t b) (bCons B B') := fun E L Γ σ H Q xs d o r q => by
  obtain ⟨v, vs, rfl, r1, r2⟩ := r
  refine ⟨v, vs, rfl, h E L Γ σ H _ v d.1 o r1 fun σ' o' e' => ?_⟩
  exact h' E L (B d.1 Γ) σ' H Q vs d.2 o' r2 fun σ2 o2 e2 => q σ2 o2 (e'.trans e2)
theorem rg_tup {w : Bool} {b : Ty} {gs : TGs} {n : Nat} {B : den b → Gam ts → Gam ts} (h : RGs K ms ts gs w b B) (hn : rowLen b = n := by rfl) : RG K ms ts (gTup K n gs) w (.tup b) B := fun E L Γ σ H Q x d o r q => by
  obtain ⟨a, vs, rfl, h1, h2⟩ := r
  exact ⟨a, vs, rfl, .of h1, (row_length b vs d h2).trans hn, h E L Γ σ H Q vs d o h2 q⟩
def okMask : List Md → List Bool → Bool
  | [], _ => true
  | _, [] => true
  | m :: ms, b :: bs => (b || !m.hard) && okMask ms bs
theorem mask_get : ∀ {ts : List Ty} {t : Ty} (i : Mem ts t) (ms : List Md) (bs : List Bool) (Γ : Gam ts), okMask ms bs = true → (∃ m, ms[i.ix]? = some m ∧ m.hard = true) → i.get (Gam.mask bs Γ) = i.get Γ
  | _ :: _, _, .z, m :: ms, b :: bs, Γ, h, hm => by
    obtain ⟨m', e, hh⟩ := hm
    have e : m = m' := by simpa [Mem.ix] using e
    subst e
    simp only [okMask, Bool.and_eq_true] at h
    have hb : b = true := by simpa [hh] using h.1
    subst hb
    rfl
  | _ :: _, _, .s i, m :: ms, b :: bs, Γ, h, hm => by
    simp only [okMask, Bool.and_eq_true] at h
    exact mask_get i ms bs Γ.2 h.2 (by simpa [Mem.ix] using hm)
  | _ :: _, _, .z, _, [], _, _, _ => rfl
  | _ :: _, _, .s i, _, [], _, _, _ => rfl
  | _, _, .z, [], _, _, _, hm => by simp at hm
  | _, _, .s i, [], _, _, _, hm => by simp at hm
theorem Ev.mask {L' : Reg} {Γ' : Gam ts} {σ' : St} {bs : List Bool} (hb : okMask ms bs = true) (e : Ev ms ts L Γ σ H L' Γ' σ' H') : Ev ms ts L Γ σ H L' (Gam.mask bs Γ') σ' H' :=
  ⟨e.sub, e.cell, e.stb, fun t i m h hh => (mask_get i ms bs Γ' hb ⟨m, h, hh⟩).trans (e.keep.1 t i m h hh), e.keep.2⟩
theorem Ev.cov {w : Bool} {L' : Reg} {Γ' : Gam ts} {σ' : St} (o : Own K E L ms ts Γ σ H xt) {xt' : List Addr} (o' : Own K E L' ms ts Γ' σ' H' xt') (e : Ev ms ts L Γ σ H L' Γ' σ' H') : Cov H H' (reg w E L) (reg w E L) := by
  have covL : Cov H H' L L := fun a q h x => by
    refine ⟨h, ?_⟩
    cases z : H a with
    | none => rw [z] at x; cases x
    | some y => rw [e.cell a y h z, ← z]; exact x
  cases w with
  | false => exact covL
  | true =>
    intro a q h x
    rcases h with h | h
    · exact ⟨.inl h, (o.covS o'.fr a q h x).2⟩
    · exact ⟨.inr h, (covL a q h x).2⟩
theorem rs_for {w : Bool} {t : Ty} {wi : TI} {g : TG} {tb : TS} {F : Gam ts → Option (List (den t))} {B : den t → Gam ts → Gam ts} {body : Gam ts → Option (Fl (Gam ts) (den ρ))} (bs : List Bool) (hi : RI K ms ts wi w t F) (hg : RG K ms ts g w t B) (hb : RS K ms ts tb rm ρ body)
    (hm : okMask ms bs = true := by rfl) : RS K ms ts (tFor wi g tb) rm ρ (sFor F B (Gam.mask bs) body) := fun E L Γ σ H D f o e p => by
  obtain ⟨ds, e1, e2⟩ := bind_some e
  refine hi E L Γ σ H [] _ ds o e1 fun J H1 Lr Z s1 nw it z1 => ?_
  have o1 : Own K E (fun a => L a ∨ Lr a) ms ts Γ σ H1 [] := o.temp s1 List.nodup_nil (fun a ha => by simp at ha) nw fun a ha => by simp at ha
  have ev1 : Ev ms ts L Γ σ H (fun a => L a ∨ Lr a) Γ σ H1 := ⟨fun a h => .inl h, fun a q _ h => s1 _ _ h, Stb.of_same s1, KeepF.refl⟩
  have p1 := p.later ev1
  have o1m := o1.mask bs
  refine ⟨fun i m σ' H' => m = ds.length - i ∧ i ≤ ds.length ∧ ∃ L' Γ', Own K E L' ms ts Γ' σ' H' [] ∧ Ev ms ts (fun a => L a ∨ Lr a) Γ σ H1 L' Γ' σ' H' ∧ forL B (Gam.mask bs) body (ds.drop i) Γ' = some f,
    ⟨ds.length, by simp, Nat.zero_le _, _, Gam.mask bs Γ, o1m, (Ev.same (Same.refl H1)).mask hm, by simpa using e2⟩, ?_⟩
  rintro i m σ2 H2 ⟨rfl, hle, L2, Γ2, o2, ev2, e3⟩
  have z2 : Z H2 := it.keep H1 H2 (ev2.cov o1 o2) ev2.stb z1
  by_cases hlt : i < ds.length
  · refine .inr ⟨it.go i H2 z2 hlt, fun σ' H' => ∃ L' Γ', Own K E L' ms ts Γ' σ' H' [] ∧ Ev ms ts (fun a => L a ∨ Lr a) Γ σ H1 L' Γ' σ' H' ∧ forL B (Gam.mask bs) body (ds.drop (i + 1)) Γ' = some f, fun σ' H' h => ⟨ds.length - (i + 1), by omega, rfl, hlt, h⟩, fun x H3 hy => ?_⟩
    obtain ⟨s3, d, hd, rd⟩ := it.yld i H2 x H3 hlt z2 hy
    have ed : ds.drop i = d :: ds.drop (i + 1) := by
      have hd' : ds[i] = d := by
        have := List.getElem?_eq_getElem hlt
        rw [this] at hd
        exact Option.some.inj hd
      rw [List.drop_eq_getElem_cons hlt, hd']
    rw [ed] at e3
    obtain ⟨r, e4, e5⟩ := bind_some (show (body (B d Γ2)).bind _ = some f from e3)
    have o3 := o2.same s3
    have ev3 : Ev ms ts (fun a => L a ∨ Lr a) Γ σ H1 L2 Γ2 σ2 H3 := ev2.trans (Ev.same s3)
    refine hg E L2 Γ2 σ2 H3 _ x d o3 ((rS_mono (Cov.of_reg fun a h _ => (by
      cases w with
      | false => exact ev3.sub a h
      | true => exact h.elim .inl fun z => .inr (ev3.sub a z) : reg w E L2 a)) (Stb.refl H3) t).1 x d rd) fun σ4 o4 ev4 => ?_
    refine hb E L2 (B d Γ2) σ4 H3 _ r o4 e4 ?_
    have evb := ev3.trans ev4
    cases r with
    | nx Γ5 => exact fun L5 σ5 H5 o5 ev5 => ⟨L5, Gam.mask bs Γ5, o5.mask bs, (evb.trans ev5).mask hm, e5⟩
    | ct Γ5 => exact fun L5 σ5 H5 o5 ev5 => ⟨L5, Gam.mask bs Γ5, o5.mask bs, (evb.trans ev5).mask hm, e5⟩
    | bk Γ5 =>
      have e6 : Fl.nx (Gam.mask bs Γ5) = f := Option.some.inj e5
      subst e6
      exact fun L5 σ5 H5 o5 ev5 => p1 L5 σ5 H5 (o5.mask bs) ((evb.trans ev5).mask hm)
    | rt d5 Γ5 =>
      have e6 : Fl.rt d5 Γ5 = f := Option.some.inj e5
      subst e6
      exact fun L5 σ5 H5 v5 xt5 o5 ev5 r5 => p1 L5 σ5 H5 v5 xt5 o5 (evb.trans ev5) r5
  · have hi : i = ds.length := by omega
    subst hi
    rw [List.drop_length] at e3
    have e4 : Fl.nx Γ2 = f := Option.some.inj e3
    subst e4
    exact .inl ⟨it.stop H2 z2, p1 L2 σ2 H2 o2 ev2⟩
end
end VV
namespace VV
open PySem L2
open PyProof.Rows hiding St
section
variable {K : KW} {E : Ent} {ms : List Md} {ts : List Ty} {L L1 : Reg} {Γ Γ1 : Gam ts} {σ σ1 : St} {H H' H1 : Hp} {xt : List Addr} {rm : Rm} {ρ : Ty}
theorem iter_list {R : Reg} {t : Ty} {a : Addr} {ds : List (den t)} : IterOk K R t (Itl K a) ds (fun H => (rS K H R (.list t)).1 (.ref a) ds) where
  keep := fun H H' c s h => (rS_mono c s (.list t)).1 _ _ h
  go := fun i H h hi => by
    obtain ⟨b, vs, e, h1, h2⟩ := h
    cases e
    have hl := h2.length
    exact ⟨vs, vs[i]'(by omega), h1.seq, List.getElem?_eq_getElem _⟩
  stop := fun H h => by
    obtain ⟨b, vs, e, h1, h2⟩ := h
    cases e
    exact ⟨vs, h1.seq, Nat.le_of_eq h2.length⟩
  yld := fun i H x H' hlt h hy => by
    obtain ⟨b, vs, e, h1, h2⟩ := h
    cases e
    obtain ⟨rfl, hx⟩ := hy
    obtain ⟨d, hd, r⟩ := h2.get' (hx vs h1.seq)
    exact ⟨Same.refl _, d, hd, r⟩
theorem reg_rep {w : Bool} {t : Ty} {v : V} {d : den t} (r : Rep K E L H H1 (if w then .w else .l) t v d) : ∃ Lr, (rS K H1 (reg w E fun a => L a ∨ Lr a) t).1 v d ∧ Nw H H1 Lr := by
  cases w with
  | true =>
    obtain ⟨Lr, h1, h2⟩ := r
    exact ⟨Lr, h1, h2⟩
  | false =>
    obtain ⟨Lr, h1, h2⟩ := r
    exact ⟨Lr, h1, h2⟩
theorem ri_list {w : Bool} {t : Ty} {te : TE} {F : Gam ts → Option (List (den t))} (h : RP K ms ts te (if w then .w else .l) (.list t) F) : RI K ms ts (iList K te) w t F := fun E L Γ σ H xt R ds o e q => by
  refine h E L Γ σ H xt _ ds o e fun v H1 s1 r1 => ?_
  obtain ⟨Lr, h1, h2⟩ := reg_rep r1
  obtain ⟨a, vs, rfl, h3, h4⟩ := id h1
  exact ⟨a, rfl, ⟨vs, h3.seq⟩, q _ H1 Lr _ s1 h2 iter_list h1⟩
theorem iter_vtup {R : Reg} {t : Ty} {a : Addr} {ds : List (den t)} : IterOk K R t (Itt K a) ds (fun H => (rS K H R (.vtup t)).1 (.ref a) ds) where
  keep := fun H H' c s h => (rS_mono c s (.vtup t)).1 _ _ h
  go := fun i H h hi => by
    obtain ⟨b, vs, e, h1, h2⟩ := h
    cases e
    have hl := h2.length
    exact ⟨vs, vs[i]'(by omega), .of h1, List.getElem?_eq_getElem _⟩
  stop := fun H h => by
    obtain ⟨b, vs, e, h1, h2⟩ := h
    cases e
    exact ⟨vs, .of h1, Nat.le_of_eq h2.length⟩
  yld := fun i H x H' hlt h hy => by
    obtain ⟨b, vs, e, h1, h2⟩ := h
    cases e
    obtain ⟨rfl, hx⟩ := hy
    obtain ⟨d, hd, r⟩ := h2.get' (hx vs (.of h1))
    exact ⟨Same.refl _, d, hd, r⟩
theorem ri_vtup {w : Bool} {t : Ty} {te : TE} {F : Gam ts → Option (List (den t))} (h : RP K ms ts te (if w then .w else .l) (.vtup t) F) : RI K ms ts (iTup K te) w t F := fun E L Γ σ H xt R ds o e q => by
  refine h E L Γ σ H xt _ ds o e fun v H1 s1 r1 => ?_
  obtain ⟨Lr, h1, h2⟩ := reg_rep r1
  obtain ⟨a, vs, rfl, h3, h4⟩ := id h1
  exact ⟨a, rfl, ⟨vs, .of h3⟩, q _ H1 Lr _ s1 h2 iter_vtup h1⟩
def rng (lo hi : Int) : List Int := (List.range (hi - lo).toNat).map fun (k : Nat) => lo + (k : Int)
theorem rng_get {lo hi : Int} {i : Nat} (h : i < (hi - lo).toNat) : (rng lo hi)[i]? = some (lo + (i : Int)) := by
  unfold rng
  rw [List.getElem?_map, List.getElem?_range h]
  rfl
theorem rng_len {lo hi : Int} : (rng lo hi).length = (hi - lo).toNat := by simp [rng]
theorem iter_rng {R : Reg} {lo hi : Int} : IterOk K R .int (Itr lo (hi - lo).toNat) (rng lo hi) (fun _ => True) where
  keep := fun _ _ _ _ h => h
  go := fun i H _ hi => by rw [rng_len] at hi; exact hi
  stop := fun H _ => by rw [rng_len]; exact Nat.le_refl _
  yld := fun i H x H' hlt _ hy => by
    obtain ⟨rfl, rfl⟩ := hy
    rw [rng_len] at hlt
    exact ⟨Same.refl _, _, rng_get hlt, rfl⟩
def fRng1 (n : Int) : Option (List Int) := okIf (decide (-(2 ^ 62) ≤ n ∧ n < 2 ^ 62)) (rng 0 n)
theorem ri_rng1 {w : Bool} {ta : TA} {m : Em} {F : Gam ts → Option Int} (h : RA K ms ts ta m (.last .int) F) : RI K ms ts (iRng1 ta) w .int (e1 fRng1 F) := fun E L Γ σ H xt R ds o e q => by
  obtain ⟨n, en, e⟩ := bind_some e
  dsimp only [fRng1, okIf] at e
  split at e
  · rename_i hb
    cases e
    have hb := of_decide_eq_true hb
    refine h E L Γ σ H xt _ n o en fun vs H1 s1 r1 => ?_
    obtain ⟨v, rfl, rv⟩ : ∃ v, vs = [v] ∧ v = .int n := by
      cases m with
      | o =>
        obtain ⟨f, Lr, ⟨v, e1, k⟩, _⟩ := r1
        rcases k with k | ⟨_, _, k⟩
        · exact ⟨v, e1, k.2⟩
        · exact ⟨v, e1, k⟩
      | l => obtain ⟨Lr, ⟨v, e1, k⟩, _⟩ := r1; exact ⟨v, e1, k⟩
      | w => obtain ⟨Lr, ⟨v, e1, k⟩, _⟩ := r1; exact ⟨v, e1, k⟩
      | b => obtain ⟨v, e1, k⟩ := r1; exact ⟨v, e1, k⟩
    subst rv
    refine ⟨n, rfl, hb.1, hb.2, q _ H1 (fun _ => False) (fun _ => True) s1 (fun a h => h.elim) ?_ True.intro⟩
    have := iter_rng (K := K) (R := reg w E fun a => L a ∨ False) (lo := 0) (hi := n)
    rw [Int.sub_zero] at this
    exact this
  · cases e
def rowTys : Ty → List Ty
  | .last a => [a]
  | .cons a b => a :: rowTys b
  | _ => []
def noneG : (ls : List Ty) → Gam ls
  | [] => ()
  | _ :: ls => (none, noneG ls)
def iniG : (b : Ty) → (ls : List Ty) → den b → Gam (rowTys b ++ ls)
  | .last _, ls, d => (some d, noneG ls)
  | .cons _ b, ls, d => (some d.1, iniG b ls d.2)
  | .non, ls, _ => noneG ls
  | .bool, ls, _ => noneG ls
  | .int, ls, _ => noneG ls
  | .str, ls, _ => noneG ls
  | .any, ls, _ => noneG ls
  | .exn, ls, _ => noneG ls
  | .alt _ _, ls, _ => noneG ls
  | .opt _, ls, _ => noneG ls
  | .vtup _, ls, _ => noneG ls
  | .list _, ls, _ => noneG ls
  | .dict _ _, ls, _ => noneG ls
  | .own _, ls, _ => noneG ls
  | .hl _, ls, _ => noneG ls
  | .ins _ _ _, ls, _ => noneG ls
  | .tup _, ls, _ => noneG ls
def okMs : Ty → List Ty → List Md → Bool
  | .last _, ls, m :: ms => (m == .w || m == .f) && ms.length == ls.length
  | .cons _ b, ls, m :: ms => (m == .w || m == .f) && okMs b ls ms
  | _, _, _ => false
theorem rG_none : ∀ {ls : List Ty} {ms : List Md} {S0 L : Reg}, ms.length = ls.length → rG K H S0 L ms ls (noneG ls) (List.replicate ls.length none) []
  | [], [], _, _, _ => ⟨rfl, rfl⟩
  | _ :: ls, m :: ms, _, _, h => ⟨[], [], rfl, rfl, rG_none (by simpa using h)⟩
  | [], _ :: _, _, _, h => by simp at h
  | _ :: _, [], _, _, h => by simp at h
theorem rG_ini {S0 L : Reg} : ∀ (b : Ty) (ls : List Ty) (ms : List Md) (vs : List V) (d : den b), okMs b ls ms = true → (rS K H S0 b).2 vs d → rG K H S0 L ms (rowTys b ++ ls) (iniG b ls d) (vs.map some ++ List.replicate ls.length none) []
  | .last a, ls, m :: ms, vs, d, hk, h => by
    obtain ⟨v, rfl, r⟩ := h
    simp only [okMs, Bool.and_eq_true, Bool.or_eq_true, beq_iff_eq] at hk
    have r' : (rS K H (fun a => S0 a ∨ L a) a).1 v d := (rS_mono (Cov.of_reg fun a h _ => .inl h) (Stb.refl H) a).1 v d r
    refine ⟨[], [], rfl, ⟨v, rfl, ?_⟩, rG_none hk.2⟩
    rcases hk.1 with rfl | rfl
    · exact ⟨rfl, r'⟩
    · exact ⟨rfl, r'⟩
  | .cons a b, ls, m :: ms, vs, d, hk, h => by
    obtain ⟨v, r, rfl, r1, r2⟩ := h
    simp only [okMs, Bool.and_eq_true, Bool.or_eq_true, beq_iff_eq] at hk
    have r' : (rS K H (fun a => S0 a ∨ L a) a).1 v d.1 := (rS_mono (Cov.of_reg fun a h _ => .inl h) (Stb.refl H) a).1 v d.1 r1
    refine ⟨[], [], rfl, ⟨v, rfl, ?_⟩, rG_ini b ls ms r d.2 hk.2 r2⟩
    rcases hk.1 with rfl | rfl
    · exact ⟨rfl, r'⟩
    · exact ⟨rfl, r'⟩
  | .last _, _, [], _, _, hk, _ => by simp [okMs] at hk
  | .cons _ _, _, [], _, _, hk, _ => by simp [okMs] at hk
  | .non, _, _, _, _, hk, _ => by simp [okMs] at hk
  | .bool, _, _, _, _, hk, _ => by simp [okMs] at hk
  | .int, _, _, _, _, hk, _ => by simp [okMs] at hk
  | .str, _, _, _, _, hk, _ => by simp [okMs] at hk
  | .any, _, _, _, _, hk, _ => by simp [okMs] at hk
  | .exn, _, _, _, _, hk, _ => by simp [okMs] at hk
  | .alt _ _, _, _, _, _, hk, _ => by simp [okMs] at hk
  | .opt _, _, _, _, _, hk, _ => by simp [okMs] at hk
  | .vtup _, _, _, _, _, hk, _ => by simp [okMs] at hk
  | .list _, _, _, _, _, hk, _ => by simp [okMs] at hk
  | .dict _ _, _, _, _, _, hk, _ => by simp [okMs] at hk
  | .own _, _, _, _, _, hk, _ => by simp [okMs] at hk
  | .hl _, _, _, _, _, hk, _ => by simp [okMs] at hk
  | .ins _ _ _, _, _, _, _, hk, _ => by simp [okMs] at hk
  | .tup _, _, _, _, _, hk, _ => by simp [okMs] at hk
def CRep (K : KW) (S : Reg) (H H' : Hp) : Rm → (ρ : Ty) → V → den ρ → Prop
  | .o, ρ, v, d => ∃ f Lr, (rO K H' Lr ρ).1 v d f ∧ f.Nodup ∧ Nw H H' (· ∈ f) ∧ Nw H H' Lr ∧ ∀ a ∈ f, ¬ Lr a
  | .l, ρ, v, d => ∃ Lr, (rS K H' Lr ρ).1 v d ∧ Nw H H' Lr
  | .w, ρ, v, d => ∃ Lr, (rS K H' (fun a => S a ∨ Lr a) ρ).1 v d ∧ Nw H H' Lr
  | .x _ _, _, _, _ => False
def spP (K : KW) (b : Ty) (rm : Rm) (ρ : Ty) (m : den b → Option (den ρ)) : Sp := fun vs H Q _ => ∃ (S : Reg) (d : den b) (r : den ρ), (∀ a, S a → (H a).isSome = true) ∧ (rS K H S b).2 vs d ∧ m d = some r ∧ ∀ v' H', Same H H' → CRep K S H H' rm ρ v' r → Q v' H'
def endOf {G ρ : Type} : Option (Fl G ρ) → Option ρ
  | some (.rt r _) => some r
  | _ => none
def runG {ρ : Type} (b : Ty) (ls : List Ty) (F : Gam (rowTys b ++ ls) → Option (Fl (Gam (rowTys b ++ ls)) ρ)) (d : den b) : Option ρ := endOf (F (iniG b ls d))
theorem fn_ok {P : Program} {w : World} {mg : Str → Option Value} {base : Heap} {x qual : Str} {st : Stmt} {f : Addr} {fd : FuncData} {N ps : List Str} {k : Nat} {b : Ty} (ls : List Ty) (ms : List Md) {m : den b → Option (den ρ)} {F : Gam (rowTys b ++ ls) → Option (Fl (Gam (rowTys b ++ ls)) (den ρ))}
    (Fn : Fun K x qual st f fd) (S : FnScope N ps (defScope st)) (hps : ps.length = rowLen b) (hN : N.length = rowLen b + ls.length) (hms : okMs b ls ms = true) (hm : ∀ d, m d = runG b ls F d)
    (hbody : ∀ (cdv : Value) (A : Around) (outer : List Env) (s : Shared) (H : Hp) (E : XK), Room k (A.deeper (envOfC qual (defScope st) s.heap.objs.size f cdv)) →
      ∃ t, PSs (cxOf CX0 P w K mg base N qual (defScope st) f cdv A outer s H E).nox (defBody st) t ∧ RS K ms (rowTys b ++ ls) t rm ρ F) (hpl : rm.plain = true := by rfl) : FnOk P w K mg base CX0 (k + 1) f fd ps (spP K b rm ρ m) := by
  refine Fn.ok S (fun vs H Q E h => ?_) (fun cdv A outer s H vs Q E hr h => ?_)
  · obtain ⟨S, d, r, _, h2, _⟩ := h
    rw [row_length b vs d h2, hps]
  · obtain ⟨S, d, r, h1, h2, h3, h4⟩ := h
    obtain ⟨t, ht, hrs⟩ := hbody cdv A outer s H E hr
    refine ⟨t, ht, ?_⟩
    rw [hm d] at h3
    unfold runG at h3
    have hl := row_length b vs d h2
    have es : L2.start N vs = vs.map some ++ List.replicate ls.length none := by
      unfold L2.start
      rw [hl, hN, Nat.add_sub_cancel_left]
    rw [es]
    obtain ⟨fl, e1, e2⟩ : ∃ fl, F (iniG b ls d) = some fl ∧ endOf (some fl) = some r := by
      cases e : F (iniG b ls d) with
      | none => rw [e] at h3; cases h3
      | some fl => rw [e] at h3; exact ⟨fl, rfl, h3⟩
    cases fl with
    | nx _ => cases e2
    | bk _ => cases e2
    | ct _ => cases e2
    | rt r' Γ' =>
      cases e2
      have o : Own K ⟨H, S, []⟩ (fun _ => False) ms (rowTys b ++ ls) (iniG b ls d) (vs.map some ++ List.replicate ls.length none) H [] :=
        ⟨⟨[], rG_ini b ls ms vs d hms h2, by simp, fun a ha => by simp at ha⟩, fun a o h _ => h, fun a h => h.elim, fun a h => ⟨h1 a h, by simp⟩, fun a h => by simp at h⟩
      refine hrs ⟨H, S, []⟩ _ _ _ H _ _ o e1 fun L' σ' H' v xt o' ev rr => ?_
      have s' : Same H H' := fun a q h => o'.fr a q h (by simp)
      have nwL : Nw H H' L' := fun a h => ⟨(o'.lr a h).1.elim id fun z => by simp at z, (o'.lr a h).2⟩
      refine (RDel_plain K hpl).mpr (h4 v H' s' ?_)
      cases rm with
      | o =>
        obtain ⟨fp, _, nd, gd⟩ := o'.ex
        exact ⟨xt, L', rr, (List.nodup_append.mp nd).2.1, fun a ha => ⟨(gd a (List.mem_append_right _ ha)).new.elim id fun z => by simp at z, (gd a (List.mem_append_right _ ha)).at_⟩, nwL, fun a ha => (gd a (List.mem_append_right _ ha)).nl⟩
      | l => exact ⟨L', rr.2, nwL⟩
      | w => exact ⟨L', rr.2, nwL⟩
      | x W m => cases hpl
theorem Rep2.b {m : Em} {t : Ty} {vs : List V} {d : den t} (r : Rep2 K E L H H1 m t vs d) : (rS K H1 (fun _ => True) t).2 vs d := by
  cases m with
  | o =>
    obtain ⟨f, Lr, h1, _⟩ := r
    exact (rO_s (fun _ _ => True.intro) t).2 vs d f (fun _ _ => True.intro) h1
  | l =>
    obtain ⟨Lr, h1, _⟩ := r
    exact (rS_mono (Cov.of_reg fun _ _ _ => True.intro) (Stb.refl _) t).2 vs d h1
  | w =>
    obtain ⟨Lr, h1, _⟩ := r
    exact (rS_mono (Cov.of_reg fun _ _ _ => True.intro) (Stb.refl _) t).2 vs d h1
  | b => exact r
theorem rp_call {b : Ty} {mA : Em} {ta : TA} {m : den b → Option (den ρ)} {F : Gam ts → Option (den b)} {X : XK} (hk : (rm == .o || rm == .l) = true) (h : RA K ms ts ta mA b F) : RP K ms ts (tCall (spP K b rm ρ m) [] X ta) rm.em ρ (e1 m F) := fun E L Γ σ H xt Q d o e q => by
  obtain ⟨a, ea, e⟩ := bind_some e
  refine h E L Γ σ H xt _ a o ea fun vs H1 s1 r1 => ?_
  rw [List.append_nil]
  refine ⟨fun a => (H1 a).isSome = true, a, d, fun _ h => h, (rS_mono (Cov.of_reg fun _ _ h => h) (Stb.refl _) b).2 vs a r1.b, e, fun v' H2 s2 r2 => ?_⟩
  refine q v' H2 (s1.trans s2) (Rep.older s1 ?_)
  cases rm with
  | o =>
    obtain ⟨f, Lr, h1, h2, h3, h4, h5⟩ := r2
    exact ⟨f, Lr, (rO_mono (Cov.of_reg fun a h _ => .inr h) (Stb.refl _) ρ).1 v' d f (fun _ _ => rfl) h1, h2, h3, h4, h5⟩
  | l =>
    obtain ⟨Lr, h1, h2⟩ := r2
    exact ⟨Lr, (rS_mono (Cov.of_reg fun a h _ => .inr h) (Stb.refl _) ρ).1 v' d h1, h2⟩
  | w => exact absurd hk (by decide)
  | x W m => exact r2.elim
theorem f2_ints : ∀ ns : List Int, F2 (rS K H (fun a => (H a).isSome = true) .int).1 (ns.map V.int) ns
  | [] => True.intro
  | _ :: ns => ⟨rfl, f2_ints ns⟩
theorem law_sp {m : den (.last (.list .int)) → Option (den .bool)} (hm : ∀ ns : List Int, ns.length ≤ 63 → m ns = some true) {a : Addr} {ns : List Int} {X : XK} (hl : ns.length ≤ 63) (hS : SqL K H a (ns.map V.int)) : spP K (.last (.list .int)) .o .bool m [.ref a] H (fun v _ => v = .bl true) X :=
  ⟨fun a => (H a).isSome = true, ns, true, fun _ h => h, ⟨.ref a, rfl, a, ns.map V.int, rfl, LstR.of_seq hS, f2_ints ns⟩, hm ns hl, fun v' H' _ cr => by
    obtain ⟨f, Lr, h, _⟩ := cr
    exact h.2⟩
structure Df (K : PySem.W.Frag) (mg : Str → Option Value) (x qual : Str) (st : Stmt) (ps : List Str) (f : Addr) (fd : FuncData) : Prop where
  fn : Fun K x qual st f fd
  gl : mg x = some (.ref f)
  bi : Binds K fd ps []
theorem hu65 {k : Nat} {A : Around} (hr : Room k A) : A.units + 65 < cLine := by
  have := hr.un
  omega
end
end VV
namespace VV
open PySem L2
open PyProof.Rows hiding St
section
variable {K : KW} {E : Ent} {ms : List Md} {ts : List Ty} {L L1 : Reg} {Γ Γ1 : Gam ts} {σ σ1 : St} {H H' H1 H2 : Hp} {xt : List Addr} {rm : Rm} {ρ : Ty}
def RepL (K : KW) (E : Ent) (L : Reg) (H H' : Hp) : Em → (t : Ty) → List V → List (den t) → Prop
  | .o, t, vs, ds => ∃ f Lr, F3 (kid t.isOwn (rS K H' (fun a => L a ∨ Lr a) t).1 (rO K H' (fun a => L a ∨ Lr a) t).1) vs ds f ∧ f.Nodup ∧ Nw H H' (· ∈ f) ∧ Nw H H' Lr ∧ ∀ a ∈ f, ¬ Lr a
  | .l, t, vs, ds => ∃ Lr, F2 (rS K H' (fun a => L a ∨ Lr a) t).1 vs ds ∧ Nw H H' Lr
  | .w, t, vs, ds => ∃ Lr, F2 (rS K H' (fun a => E.S0 a ∨ L a ∨ Lr a) t).1 vs ds ∧ Nw H H' Lr
  | .b, t, vs, ds => F2 (rS K H' (fun _ => True) t).1 vs ds
def RL (K : KW) (ms : List Md) (ts : List Ty) (ta : TA) (m : Em) (t : Ty) (F : Gam ts → Option (List (den t))) : Prop :=
  ∀ (E : Ent) (L : Reg) (Γ : Gam ts) (σ : St) (H : Hp) (xt : List Addr) (Q : List V → Hp → Prop) (d : List (den t)), Own K E L ms ts Γ σ H xt → F Γ = some d → (∀ vs H', Same H H' → RepL K E L H H' m t vs d → Q vs H') → ta σ H Q
theorem rl_nil {m : Em} {t : Ty} : RL K ms ts tNil m t eNil := fun E L Γ σ H xt Q d o e q => by
  cases e
  refine q [] H (Same.refl H) ?_
  cases m with
  | o => exact ⟨[], fun _ => False, rfl, List.nodup_nil, fun a h => by simp at h, fun a h => h.elim, fun a h => by simp at h⟩
  | l => exact ⟨fun _ => False, True.intro, fun a h => h.elim⟩
  | w => exact ⟨fun _ => False, True.intro, fun a h => h.elim⟩
  | b => exact True.intro
theorem nw_old {R : Reg} (s1 : Same H H1) (h : Nw H1 H2 R) : Nw H H2 R := fun a ha => ⟨s1.free (h a ha).1, (h a ha).2⟩
theorem nw_on {R : Reg} (s2 : Same H1 H2) (h : Nw H H1 R) : Nw H H2 R := fun a ha => ⟨(h a ha).1, by rw [same_at s2 (h a ha).2]; exact (h a ha).2⟩
theorem nw_apart {R R' : Reg} (h : Nw H H1 R) (h' : Nw H1 H2 R') : ∀ a, R a → ¬ R' a := fun a ha hb => by
  have := (h a ha).2
  rw [(h' a hb).1] at this
  cases this
theorem rl_cons {m : Em} {t : Ty} {te : TE} {ta : TA} {F : Gam ts → Option (den t)} {G : Gam ts → Option (List (den t))} (h : RP K ms ts te m t F) (hr : RL K ms ts ta m t G) : RL K ms ts (tCons te ta) m t (eSnoc F G) := fun E L Γ σ H xt Q d o e q => by
  obtain ⟨a, ea, e⟩ := bind_some e
  obtain ⟨r, er, e⟩ := bind_some e
  cases e
  refine h E L Γ σ H xt _ a o ea fun v H1 s1 r1 => hr E L Γ σ H1 xt _ r (o.same s1) er fun vs H2 s2 r2 => q (v :: vs) H2 (s1.trans s2) ?_
  cases m with
  | o =>
    obtain ⟨f, Lr, h1, h2, h3, h4, h5⟩ := r1
    obtain ⟨g, Ls, k1, k2, k3, k4, k5⟩ := r2
    have e1 : (rO K H2 (fun a => L a ∨ (Lr a ∨ Ls a)) t).1 v a f := (rO_mono (Cov.of_same s2 fun a h _ => h.elim .inl fun z => .inr (.inl z)) (Stb.of_same s2) t).1 v a f (fun a ha => same_at s2 (h3 a ha).2) h1
    have e2 : F3 (kid t.isOwn (rS K H2 (fun a => L a ∨ (Lr a ∨ Ls a)) t).1 (rO K H2 (fun a => L a ∨ (Lr a ∨ Ls a)) t).1) vs r g := k1.imp fun v d g' _ x => kid_mono ((rS_mono (Cov.of_reg fun a h _ => h.elim .inl fun z => .inr (.inr z)) (Stb.refl _) t).1 v d) ((rO_mono (Cov.of_reg fun a h _ => h.elim .inl fun z => .inr (.inr z)) (Stb.refl _) t).1 v d g' fun _ _ => rfl) x
    refine ⟨f ++ g, fun a => Lr a ∨ Ls a, ⟨f, g, rfl, .inl e1, e2⟩, List.nodup_append.mpr ⟨h2, k2, fun a ha b hb z => ?_⟩, fun a ha => ?_, fun a ha => ?_, fun a ha => ?_⟩
    · subst z
      exact nw_apart h3 k3 a ha hb
    · rcases List.mem_append.mp ha with z | z
      · exact nw_on s2 h3 a z
      · exact nw_old s1 k3 a z
    · rcases ha with z | z
      · exact nw_on s2 h4 a z
      · exact nw_old s1 k4 a z
    · rcases List.mem_append.mp ha with z | z
      · exact fun y => y.elim (h5 a z) (nw_apart h3 k4 a z)
      · exact fun y => y.elim (fun y => nw_apart h4 k3 a y z) (k5 a z)
  | l =>
    obtain ⟨Lr, h1, h2⟩ := r1
    obtain ⟨Ls, k1, k2⟩ := r2
    refine ⟨fun a => Lr a ∨ Ls a, ⟨(rS_mono (Cov.of_same s2 fun a h _ => h.elim .inl fun z => .inr (.inl z)) (Stb.of_same s2) t).1 v a h1, k1.imp fun v d x => (rS_mono (Cov.of_reg fun a h _ => h.elim .inl fun z => .inr (.inr z)) (Stb.refl _) t).1 v d x⟩, fun a ha => ?_⟩
    rcases ha with z | z
    · exact nw_on s2 h2 a z
    · exact nw_old s1 k2 a z
  | w =>
    obtain ⟨Lr, h1, h2⟩ := r1
    obtain ⟨Ls, k1, k2⟩ := r2
    refine ⟨fun a => Lr a ∨ Ls a, ⟨(rS_mono (Cov.of_same s2 fun a h _ => h.elim .inl fun z => z.elim (fun z => .inr (.inl z)) fun z => .inr (.inr (.inl z))) (Stb.of_same s2) t).1 v a h1,
      k1.imp fun v d x => (rS_mono (Cov.of_reg fun a h _ => h.elim .inl fun z => z.elim (fun z => .inr (.inl z)) fun z => .inr (.inr (.inr z))) (Stb.refl _) t).1 v d x⟩, fun a ha => ?_⟩
    rcases ha with z | z
    · exact nw_on s2 h2 a z
    · exact nw_old s1 k2 a z
  | b => exact ⟨(rS_mono (Cov.of_same s2 fun a h _ => h) (Stb.of_same s2) t).1 v a r1, r2⟩
def rowSmall (b : Ty) : Bool := decide (rowLen b ≤ 1000)
theorem line_1000 {n : Nat} (h : n ≤ 1000) : n ≤ sizeLine := by rw [sizeLine_eq]; omega
theorem Rep2.len {m : Em} {b : Ty} {vs : List V} {d : den b} (r : Rep2 K E L H H1 m b vs d) : vs.length = rowLen b := row_length b vs d r.b
theorem rp_tup {m : Em} {b : Ty} {ta : TA} {F : Gam ts → Option (den b)} (h : RA K ms ts ta m b F) (hs : rowSmall b = true := by rfl) : RP K ms ts (tTup ta) m (.tup b) F := fun E L Γ σ H xt Q d o e q => by
  refine h E L Γ σ H xt _ d o e fun vs H1 s1 r1 => ?_
  refine ⟨by rw [r1.len]; exact line_1000 (of_decide_eq_true hs), fun p hp => ?_⟩
  have s2 : Same H1 (upd H1 p (.tup vs)) := same_new hp
  refine q (.ref p) _ (s1.trans s2) ?_
  cases m with
  | o =>
    obtain ⟨f, Lr, h1, h2, h3, h4, h5⟩ := r1
    exact ⟨f, Lr, ⟨p, vs, rfl, upd_same, (rO_mono (Cov.of_same s2 fun a h _ => h) (Stb.of_same s2) b).2 vs d f (fun a ha => same_at s2 (h3 a ha).2) h1⟩, h2, nw_on s2 h3, nw_on s2 h4, h5⟩
  | l =>
    obtain ⟨Lr, h1, h2⟩ := r1
    exact ⟨Lr, ⟨p, vs, rfl, upd_same, (rS_mono (Cov.of_same s2 fun a h _ => h) (Stb.of_same s2) b).2 vs d h1⟩, nw_on s2 h2⟩
  | w =>
    obtain ⟨Lr, h1, h2⟩ := r1
    exact ⟨Lr, ⟨p, vs, rfl, upd_same, (rS_mono (Cov.of_same s2 fun a h _ => h) (Stb.of_same s2) b).2 vs d h1⟩, nw_on s2 h2⟩
  | b => exact ⟨p, vs, rfl, upd_same, (rS_mono (Cov.of_same s2 fun a h _ => h) (Stb.of_same s2) b).2 vs d r1⟩
theorem RepL.len {m : Em} {t : Ty} {vs : List V} {d : List (den t)} (r : RepL K E L H H1 m t vs d) : vs.length = d.length := by
  cases m with
  | o => obtain ⟨f, Lr, h1, _⟩ := r; exact h1.length
  | l => obtain ⟨Lr, h1, _⟩ := r; exact h1.length
  | w => obtain ⟨Lr, h1, _⟩ := r; exact h1.length
  | b => exact F2.length r
def fSmall {α : Type} (d : List α) : Option (List α) := okIf (decide (d.length ≤ 1000)) d
theorem rp_list {t : Ty} {ta : TA} {F : Gam ts → Option (List (den t))} (h : RL K ms ts ta .o t F) : RP K ms ts (tLst ta) .o (.list t) (e1 fSmall F) := fun E L Γ σ H xt Q d o e q => by
  obtain ⟨d', e1, e2⟩ := bind_some e
  dsimp only [fSmall, okIf] at e2
  split at e2
  · rename_i hz
    cases e2
    refine h E L Γ σ H xt _ d o e1 fun vs H1 s1 r1 => ?_
    refine ⟨by rw [r1.len]; exact line_1000 (of_decide_eq_true hz), fun p hp => ?_⟩
    have s2 : Same H1 (upd H1 p (.lst vs)) := same_new hp
    refine q (.ref p) _ (s1.trans s2) ?_
    obtain ⟨f, Lr, h1, h2, h3, h4, h5⟩ := r1
    have pf : p ∉ f := fun z => by
      have := (h3 p z).2
      rw [hp] at this
      cases this
    have pl : ¬ Lr p := fun z => by
      have := (h4 p z).2
      rw [hp] at this
      cases this
    refine ⟨p :: f, Lr, ⟨p, vs, f, rfl, rfl, upd_same, h1.imp fun v d g hg x => kid_mono ((rS_mono (Cov.of_same s2 fun a h _ => h) (Stb.of_same s2) t).1 v d) ((rO_mono (Cov.of_same s2 fun a h _ => h) (Stb.of_same s2) t).1 v d g fun a ha => same_at s2 (h3 a (hg a ha)).2) x⟩,
      List.nodup_cons.mpr ⟨pf, h2⟩, fun a ha => ?_, nw_on s2 h4, fun a ha => ?_⟩
    · rcases List.mem_cons.mp ha with rfl | ha
      · exact ⟨s1.free hp, by rw [upd_same]; rfl⟩
      · exact nw_on s2 h3 a ha
    · rcases List.mem_cons.mp ha with rfl | ha
      · exact pl
      · exact h5 a ha
  · cases e2
theorem f2_atI {α : Type} {P : V → α → Prop} {vs : List V} {ds : List α} {i : Int} {d : α} (h : F2 P vs ds) (e : atI ds i = some d) : ∃ v, atI vs i = some v ∧ P v d := by
  unfold atI at e ⊢
  rw [h.length]
  obtain ⟨j, e1, e2⟩ := bind_some e
  obtain ⟨v, h1, h2⟩ := h.get e2
  exact ⟨v, by rw [e1]; exact h1, h2⟩
theorem v_ixL {t : Ty} : V2 K (rIxL K) .b (.list t) .int t atI := fun E L H v w a b c Q ra rb e q => by
  obtain ⟨p, vs, rfl, h1, h2⟩ := ra
  cases rb
  obtain ⟨x, h3, h4⟩ := f2_atI h2 e
  exact ⟨p, vs, b, x, rfl, rfl, h1.seq, h3, q x H (Same.refl H) h4⟩
def fIxS (x : Str) (i : Int) : Option Str := if lenOk x.length = true then (atI x.cps.toList i).map fun c => ⟨#[c]⟩ else none
theorem mem_atI {α : Type} {xs : List α} {i : Int} {x : α} (h : atI xs i = some x) : x ∈ xs := by
  obtain ⟨j, _, h2⟩ := bind_some (show (ixN xs.length i).bind (fun j => xs[j]?) = some x from h)
  exact List.mem_of_getElem? h2
theorem v_ixS {m : Em} : V2 K rIxS m .str .int .str fIxS := fun E L H v w a b c Q ra rb e q => by
  obtain ⟨rfl, hok⟩ := ra
  cases rb
  dsimp only [fIxS] at e
  split at e
  · rename_i hz
    obtain ⟨x, h1, h2⟩ := Option.map_eq_some_iff.mp e
    exact ⟨a, b, x, rfl, rfl, of_decide_eq_true hz, h1, q _ H (Same.refl H) (rep_atom rfl (by
      rw [← h2]
      refine ⟨rfl, ?_⟩
      have := mem_atI h1
      unfold PyData.strOk at hok ⊢
      rw [Array.all_eq_true'] at hok
      simpa using hok x (by simpa using this)))⟩
  · cases e
inductive RIx : Ty → Ty → Type where
  | one {a : Ty} : RIx (.last a) a
  | z {a b : Ty} : RIx (.cons a b) a
  | s {a b t : Ty} : RIx b t → RIx (.cons a b) t
def RIx.ix : {b t : Ty} → RIx b t → Nat
  | _, _, .one => 0
  | _, _, .z => 0
  | _, _, .s r => r.ix + 1
def RIx.get : {b t : Ty} → RIx b t → den b → den t
  | _, _, .one, d => d
  | _, _, .z, d => d.1
  | _, _, .s r, d => r.get d.2
def eProj {G : Type} {b t : Ty} (r : RIx b t) (F : G → Option (den b)) : G → Option (den t) := fun Γ => (F Γ).bind fun d => some (r.get d)
def RO (K : KW) (ms : List Md) (ts : List Ty) (to : TO) (F : Gam ts → Option (Option Int)) : Prop :=
  ∀ (E : Ent) (L : Reg) (Γ : Gam ts) (σ : St) (H : Hp) (xt : List Addr) (Q : Option Int → Hp → Prop) (d : Option Int), Own K E L ms ts Γ σ H xt → F Γ = some d → (∀ H', Same H H' → Q d H') → to σ H Q
theorem ro_none : RO K ms ts tNoPart (eC none) := fun E L Γ σ H xt Q d o e q => by
  cases e
  exact q H (Same.refl H)
theorem ro_some {te : TE} {m : Em} {F : Gam ts → Option Int} (h : RP K ms ts te m .int F) : RO K ms ts (tPart te) (e1 (fun i => some (some i)) F) := fun E L Γ σ H xt Q d o e q => by
  obtain ⟨a, ea, e⟩ := bind_some e
  cases e
  exact h E L Γ σ H xt _ a o ea fun v H1 s1 r1 => ⟨a, r1.b, q H1 s1⟩
def cutD {α : Type} (xs : List α) (lo hi : Option Int) : List α := (xs.drop (HT.sIx xs.length 0 lo)).take (HT.sIx xs.length xs.length hi - HT.sIx xs.length 0 lo)
theorem f2_cut {α : Type} {P : V → α → Prop} {vs : List V} {ds : List α} {lo hi : Option Int} (h : F2 P vs ds) : F2 P (cutV vs lo hi) (cutD ds lo hi) := by
  unfold cutV cutD
  rw [h.length]
  exact (h.drop _).take _
abbrev fCutL {α : Type} (xs : List α) (lo hi : Option Int) : Option (List α) := some (cutD xs lo hi)
theorem rp_sliceL {t : Ty} {m : Em} {te : TE} {tl th : TO} {F : Gam ts → Option (List (den t))} {Fl Fh : Gam ts → Option (Option Int)} (h : RP K ms ts te m (.list t) F) (hl : RO K ms ts tl Fl) (hh : RO K ms ts th Fh) (hf : t.frz = true := by rfl) :
    RP K ms ts (tSl (rSlL K) te tl th) .o (.list t) (e3 fCutL F Fl Fh) := fun E L Γ σ H xt Q d o e q => by
  obtain ⟨a, ea, e⟩ := bind_some e
  obtain ⟨lo, el, e⟩ := bind_some e
  obtain ⟨hi, eh, e⟩ := bind_some e
  cases e
  refine h E L Γ σ H xt _ a o ea fun v H1 s1 r1 => ?_
  refine hl E L Γ σ H1 xt _ lo (o.same s1) el fun H2 s2 => ?_
  refine hh E L Γ σ H2 xt _ hi ((o.same s1).same s2) eh fun H3 s3 => ?_
  have s13 := s2.trans s3
  obtain ⟨p, vs, rfl, h1, h2⟩ := (rS_mono (Cov.of_same s13 fun _ h _ => h) (Stb.of_same s13) (.list t)).1 v a r1.b
  refine ⟨p, vs, rfl, h1.seq, fun l hn => ?_⟩
  have s4 : Same H3 (upd H3 l (.lst (cutV vs lo hi))) := same_new hn
  refine q (.ref l) _ (s1.trans (s13.trans s4)) ⟨[l], fun _ => False, ⟨l, _, [], rfl, rfl, upd_same, F3.of2 (fun v d x => .inl ((rS_o t hf).1 v d x)) ((f2_cut h2).imp (rS_mono (Cov.of_same s4 fun _ h _ => h) (Stb.of_same s4) t).1)⟩, by simp, fun a ha => ?_, fun a h => h.elim, fun a _ h => h⟩
  have ha : a = l := by simpa using ha
  subst ha
  exact ⟨(s1.trans s13).free hn, by rw [upd_same]; rfl⟩
def fLen {α : Type} (xs : List α) : Option Int := some xs.length
theorem rp_lenL {t : Ty} {m m' : Em} {te : TE} {F : Gam ts → Option (List (den t))} (h : RP K ms ts te m' (.list t) F) : RP K ms ts (tCB (fun xs H Q => ∃ x n, xs = [x] ∧ LenV K x H n ∧ Q (.int n) H) (tCons te tNil)) m .int (e1 fLen F) := fun E L Γ σ H xt Q d o e q => by
  obtain ⟨a, ea, e⟩ := bind_some e
  cases e
  refine h E L Γ σ H xt _ a o ea fun v H1 s1 r1 => ?_
  obtain ⟨p, vs, rfl, h1, h2⟩ := r1.b
  exact ⟨_, _, rfl, .inl ⟨vs, h1.seq, rfl⟩, q _ H1 s1 (rep_atom rfl (by rw [h2.length]; rfl))⟩
def fLenS (x : Str) : Option Int := okIf (lenOk x.length) (x.length : Int)
theorem rp_lenS {m m' : Em} {te : TE} {F : Gam ts → Option Str} (h : RP K ms ts te m' .str F) : RP K ms ts (tCB (fun xs H Q => ∃ x n, xs = [x] ∧ LenV K x H n ∧ Q (.int n) H) (tCons te tNil)) m .int (e1 fLenS F) := fun E L Γ σ H xt Q d o e q => by
  obtain ⟨a, ea, e⟩ := bind_some e
  dsimp only [fLenS, okIf] at e
  split at e
  · rename_i hz
    cases e
    refine h E L Γ σ H xt _ a o ea fun v H1 s1 r1 => ?_
    cases (show v = .str a from r1.b.1)
    exact ⟨_, _, rfl, ⟨of_decide_eq_true hz, rfl⟩, q _ H1 s1 (rep_atom rfl rfl)⟩
  · cases e
def sApp {ρ : Type} {ts : List Ty} {t : Ty} (i : Mem ts (.list t)) (F : Gam ts → Option (den t)) : Gam ts → Option (Fl (Gam ts) ρ) := fun Γ => (i.get Γ).bind fun xs => (F Γ).bind fun d => if xs.length < sizeLine then some (.nx (i.set (some (xs ++ [d])) Γ)) else none
theorem rs_app {t : Ty} (i : Mem ts (.list t)) {n : Nat} {te : TE} {F : Gam ts → Option (den t)} (h : RP K ms ts te .o t F) {mo : Md} (hm : ms[i.ix]? = some mo := by rfl) (ho : mo.own = true := by rfl) (hn : i.ix = n := by rfl) : RS K ms ts (tDrop (tBM K "list" rAppend (tVar n) (tCons te tNil))) rm ρ (sApp i F) := fun E L Γ σ H D f o e p => by
  subst hn
  obtain ⟨xs, e1, e⟩ := bind_some e
  obtain ⟨d, e2, e⟩ := bind_some e
  split at e
  · rename_i hz
    cases e
    obtain ⟨s0, f0, q1, q2, q3, q4, q5⟩ := o.focus i hm
    rw [e1] at q2
    obtain ⟨v, rfl, q2⟩ := q2
    obtain ⟨a, vs, g, rfl, rfl, hl, hk⟩ := (repM_own ho).mp q2
    refine ⟨_, q1, .inl ⟨rfl, vs, .of hl⟩, h E L Γ σ H [] _ d o e2 fun w H1 s1 r1 => ?_⟩
    obtain ⟨fd, Lr, h1, h2, h3, h4, h5⟩ := r1
    have hl1 := s1 _ _ hl
    refine ⟨a, vs, w, rfl, rfl, hl1, by rw [hk.length]; exact hz, ?_⟩
    have hnd := List.nodup_cons.mp q3
    have ga := (q4 a List.mem_cons_self).1
    have gg : ∀ b ∈ g, Good E L H b := fun b hb => (q4 b (List.mem_cons_of_mem _ hb)).1
    have na : ∀ b ∈ fd, b ≠ a := fun b hb z => by
      subst z
      have := (h3 b hb).1
      rw [hl] at this
      cases this
    have st : Stb H (upd H1 a (.lst (vs ++ [w]))) := (Stb.of_same s1).trans (Stb.upd hl1 rfl)
    have oth : ∀ b, (H b).isSome = true → b ≠ a → upd H1 a (.lst (vs ++ [w])) b = H b := fun b hb hne => by rw [upd_ne hne]; exact same_at s1 hb
    have covL : Cov H (upd H1 a (.lst (vs ++ [w]))) L (fun b => L b ∨ Lr b) := fun b q hb x => by
      refine ⟨.inl hb, ?_⟩
      rw [oth b (o.lr b hb).2 fun z => ga.nl (z ▸ hb)]
      exact x
    have cov1 : Cov H1 (upd H1 a (.lst (vs ++ [w]))) (fun b => L b ∨ Lr b) (fun b => L b ∨ Lr b) := fun b q hb x => by
      refine ⟨hb, ?_⟩
      have hne : b ≠ a := fun z => by
        subst z
        rcases hb with hb | hb
        · exact ga.nl hb
        · have := (h4 b hb).1
          rw [hl] at this
          cases this
      rw [upd_ne hne]
      exact x
    have k1 : F3 (kid t.isOwn (rS K (upd H1 a (.lst (vs ++ [w]))) (fun b => L b ∨ Lr b) t).1 (rO K (upd H1 a (.lst (vs ++ [w]))) (fun b => L b ∨ Lr b) t).1) vs xs g :=
      hk.imp fun v d g' hg x => kid_mono ((rS_mono covL st t).1 v d) ((rO_mono covL st t).1 v d g' fun b hb => oth b (gg b (hg b hb)).at_ fun z => hnd.1 (z ▸ hg b hb)) x
    have k2 : (rO K (upd H1 a (.lst (vs ++ [w]))) (fun b => L b ∨ Lr b) t).1 w d fd := (rO_mono cov1 (Stb.upd hl1 rfl) t).1 w d fd (fun b hb => upd_ne (na b hb)) h1
    have k3 := F3.append k1 (show F3 _ [w] [d] fd from ⟨fd, [], by simp, .inl k2, rfl⟩)
    have up : ∀ b, (H1 b).isSome = true → (upd H1 a (.lst (vs ++ [w])) b).isSome = true := fun b hb => by
      by_cases z : b = a
      · rw [z, upd_same]; rfl
      · rw [upd_ne z]; exact hb
    have upH : ∀ b, (H b).isSome = true → (upd H1 a (.lst (vs ++ [w])) b).isSome = true := fun b hb => up b (by rw [same_at s1 hb]; exact hb)
    have gfd : ∀ b ∈ g, b ∉ fd := fun b hb z => by
      have := (gg b hb).at_
      rw [(h3 b z).1] at this
      cases this
    have o' := q5 (upd H1 a (.lst (vs ++ [w]))) (fun b => L b ∨ Lr b) (some (xs ++ [d])) (some (.ref a)) (a :: (g ++ fd)) [] (fun b hb hnf _ => oth b hb fun z => hnf (z ▸ List.mem_cons_self)) st (fun _ h => .inl h)
      (fun b hb => hb.elim .inl fun z => .inr (.inr (.inr (h4 b z).1))) upH
      (fun b hb => hb.elim (fun z => ⟨(o.lr b z).1, upH b (o.lr b z).2⟩) fun z => ⟨.inl (o.fresh (h4 b z).1).1, up b (h4 b z).2⟩)
      ⟨.ref a, rfl, (repM_own ho).mpr ⟨a, vs ++ [w], g ++ fd, rfl, rfl, upd_same, k3⟩⟩
      (by
        rw [List.append_nil]
        refine List.nodup_cons.mpr ⟨fun z => ?_, List.nodup_append.mpr ⟨hnd.2, h2, fun b hb c hc z => gfd b hb (z ▸ hc)⟩⟩
        rcases List.mem_append.mp z with z | z
        · exact hnd.1 z
        · exact na a z rfl)
      (fun b hb => by
        have hb : b ∈ a :: (g ++ fd) := by simpa using hb
        rcases List.mem_cons.mp hb with rfl | hb
        · refine ⟨.inl List.mem_cons_self, fun z => z.elim ga.nl fun z => ?_, by rw [upd_same]; rfl⟩
          have := (h4 b z).1
          rw [hl] at this
          cases this
        · rcases List.mem_append.mp hb with hb | hb
          · refine ⟨.inl (List.mem_cons_of_mem _ hb), fun z => z.elim (gg b hb).nl fun z => ?_, upH b (gg b hb).at_⟩
            have := (gg b hb).at_
            rw [(h4 b z).1] at this
            cases this
          · exact ⟨.inr (.inr (h3 b hb).1), fun z => z.elim (o.fresh (h3 b hb).1).2.1 (h5 b hb), up b (h3 b hb).2⟩)
    have es : σ.set i.ix (some (V.ref a)) = σ := by
      refine List.ext_getElem? fun n => ?_
      by_cases hn : n = i.ix
      · subst hn
        rw [List.getElem?_set_self (List.getElem?_eq_some_iff.mp q1).1]
        exact q1.symm
      · rw [List.getElem?_set_ne (Ne.symm hn)]
    rw [es] at o'
    refine p _ σ _ o' ⟨fun _ h => .inl h, fun b q hb x => ?_, st, keepF_set0 i hm (own_hard ho) _⟩
    rw [oth b (o.lr b hb).2 fun z => ga.nl (z ▸ hb)]
    exact x
  · cases e
end
end VV
namespace L2
open PySem PySem.Spec PyProof.Rows
section
variable {X : Cx}
def rCatR (K : PySem.W.Frag) : R2 := fun x y H Q => ∃ l b xs zs, x = .ref l ∧ y = .ref b ∧ SqL K H l xs ∧ SqL K H b zs ∧ xs.length + zs.length ≤ sizeLine ∧ ∀ p, H p = none → Q (.ref p) (upd H p (.lst (xs ++ zs)))
theorem op_catR : OpR X (binaryOp .Add) (rCatR X.K) := by
  intro pins s σ H x y v u Q I rx ry h
  obtain ⟨l, b, xs, zs, rfl, rfl, hH, hB, hz, q⟩ := h
  cases rx
  cases ry
  obtain ⟨its, r, pl, _⟩ := I.list hH
  obtain ⟨its2, r2, pl2, _⟩ := I.list hB
  have hl := r.length
  have hl2 := r2.length
  obtain ⟨⟨cls, dd, data, sl⟩, ho, hc, n, hd⟩ := id pl.isList
  obtain ⟨⟨cls2, dd2, data2, sl2⟩, ho2, hc2, n2, hd2⟩ := id pl2.isList
  simp only at hc hd hc2 hd2
  subst hc hd hc2 hd2
  have ea : its.toArray ++ its2.toArray = (its ++ its2).toArray := by simp
  refine concat_meets ⟨_, ho, rfl⟩ ⟨_, ho2, rfl⟩ noFill_list_add seq_list_add PySem.F.slot_list_add PySem.F.entry_list_add (PySem.F.args_list_add_2 _ _) (PyProof.Rows.list_addW l b its.toArray its2.toArray n n2 dd dd2 sl sl2 (by rw [List.size_toArray, List.size_toArray]; omega)) ⟨ho, ho2, ?_⟩
  rw [ea]
  exact ⟨.ref _, _, I.lnew (t' := s.toks) (r.append r2) (by rw [List.length_append]; omega), rfl, q _ I.fresh⟩
theorem foldRep_size {α : Type} (a : Array α) : ∀ (k : Nat) (acc : Array α), (List.foldl (fun x1 x2 => x1 ++ x2) acc (List.replicate k a)).size = acc.size + k * a.size
  | 0, acc => by simp
  | k + 1, acc => by
    rw [List.replicate_succ, List.foldl_cons, foldRep_size a k, Array.size_append, Nat.succ_mul]
    omega
def repS (x : Str) (n : Int) : Str := if n < 1 then Str.empty else if (n == 1 || x.length == 0) = true then x else ⟨(List.replicate n.toNat x.cps).foldl (· ++ ·) #[]⟩
def rRepS : R2 := fun x y H Q => ∃ z n, x = .str z ∧ y = .int n ∧ -(2 ^ 31) < n ∧ n < 2 ^ 31 ∧ z.length * n.toNat ≤ sizeLine ∧ Q (.str (repS z n)) H
theorem op_repS : OpR X (binaryOp .Mult) rRepS := by
  intro pins s σ H x y v u Q I rx ry h
  obtain ⟨z, n, rfl, rfl, h1, h2, h3, q⟩ := h
  obtain ⟨t, rfl⟩ := rx
  obtain ⟨t', rfl⟩ := ry
  have hz : sizeLine = 16777216 := sizeLine_eq
  refine PySem.P.mul_str ?_ (fun h4 _ => ?_) (fun h4 _ => ?_) ?_
  · rw [decide_eq_false (by omega), decide_eq_false (by omega)]; rfl
  · have hn : (0 : Int) < n := by omega
    intro hc
    have h5 : (z.length : Int) * n ≤ 16777216 := by
      have : ((z.length * n.toNat : Nat) : Int) ≤ 16777216 := by omega
      rwa [Int.natCast_mul, Int.toNat_of_nonneg (by omega)] at this
    have h6 : (z.length : Int) ≤ (2 ^ 63 - 1) / n := by
      refine (Int.le_ediv_iff_mul_le hn).mpr ?_
      omega
    omega
  · unfold Builtin.Str.tooLong
    simp only [decide_eq_false_iff_not]
    omega
  · unfold repS at q
    by_cases hn : n < 1
    · rw [if_pos hn] at q ⊢
      exact ⟨by decide, ⟨.str _, H, I.tok _, ⟨_, rfl⟩, q⟩⟩
    · rw [if_neg hn] at q ⊢
      split at q
      · rename_i h4
        rw [if_pos h4]
        exact ⟨.str z, H, I, ⟨_, rfl⟩, q⟩
      · rename_i h4
        rw [if_neg h4]
        refine ⟨?_, ⟨.str _, H, I.tok _, ⟨_, rfl⟩, q⟩⟩
        show (List.foldl (fun x1 x2 => x1 ++ x2) #[] (List.replicate n.toNat z.cps)).size ≤ sizeLine
        rw [foldRep_size]
        have : z.length = z.cps.size := rfl
        rw [Nat.mul_comm, ← this]
        simpa using h3
end
end L2
namespace VV
open PySem L2
open PyProof.Rows hiding St
section
variable {K : KW} {E : Ent} {ms : List Md} {ts : List Ty} {L L1 : Reg} {Γ Γ1 : Gam ts} {σ σ1 : St} {H H' H1 H2 : Hp} {xt : List Addr} {rm : Rm} {ρ : Ty}
def kindOf : (t : Ty) → den t → String
  | .non, _ => "NoneType"
  | .bool, _ => "bool"
  | .int, _ => "int"
  | .str, _ => "str"
  | .any, d => match d with
    | .none => "NoneType"
    | .bool _ => "bool"
    | .int _ => "int"
    | .str _ => "str"
    | .list _ => "list"
    | .tuple _ => "tuple"
    | .dict _ => "dict"
  | .exn, _ => ""
  | .alt a b, d => match d with
    | .inl x => kindOf a x
    | .inr y => kindOf b y
  | .opt t, d => match d with
    | none => "NoneType"
    | some x => kindOf t x
  | .vtup _, _ => "tuple"
  | .list _, _ => "list"
  | .dict _ _, _ => "dict"
  | .own t, d => kindOf t d
  | .hl _, _ => "list"
  | .ins _ _ _, _ => ""
  | .tup _, _ => "tuple"
  | .last _, _ => ""
  | .cons _ _, _ => ""
def Ty.nodict : Ty → Bool
  | .dict _ _ => false
  | .ins _ _ _ => false
  | .own t => t.nodict
  | .exn => false
  | .alt a b => a.nodict && b.nodict
  | .opt t => t.nodict
  | _ => true
theorem kind_ok {R : Reg} : ∀ (t : Ty) (v : V) (d : den t), t.nodict = true → (rS K H R t).1 v d → TyX K H v (.type (kindOf t d))
  | .non, _, _, _, h => by cases h; exact .base .non
  | .bool, _, _, _, h => by cases h; exact .base (.bl _)
  | .int, _, _, _, h => by cases h; exact .base (.int _)
  | .str, _, _, _, h => by cases h.1; exact .base (.str _)
  | .any, v, d, _, h => by
    cases d with
    | none => cases (show v = .non from h); exact .base .non
    | bool b => cases (show v = .bl b from h); exact .base (.bl _)
    | int i => cases (show v = .int i from h); exact .base (.int _)
    | str x => cases (show v = .str x ∧ _ from h).1; exact .base (.str _)
    | list _ => exact (show False from h).elim
    | tuple ds =>
      obtain ⟨a, vs, rfl, h1, _⟩ := (show ∃ a vs, v = .ref a ∧ H a = some (.tup vs) ∧ dvs H ds vs from h)
      exact .base (.tup h1)
    | dict _ => exact (show False from h).elim
  | .exn, _, _, hn, _ => by cases hn
  | .alt a b, v, d, hn, h => by
    simp only [Ty.nodict, Bool.and_eq_true] at hn
    cases d with
    | inl x => exact kind_ok a v x hn.1 h
    | inr x => exact kind_ok b v x hn.2 h
  | .opt t, v, d, hn, h => by
    cases d with
    | none => cases (show v = .non from h); exact .base .non
    | some x => exact kind_ok t v x hn h.2
  | .vtup _, _, _, _, h => by
    obtain ⟨a, vs, rfl, h1, _⟩ := h
    exact .base (.tup h1)
  | .list _, _, _, _, h => by
    obtain ⟨a, vs, rfl, h1, _⟩ := h
    rcases h1.seq with (h1 | ⟨o, h1⟩) | ⟨o, its, n, h1, h2, _⟩
    · exact .base (.lst h1)
    · exact .base (.frz h1)
    · exact .kList h1 h2
  | .dict _ _, _, _, hn, _ => by cases hn
  | .own t, v, d, hn, h => kind_ok t v d hn h
  | .ins _ _ _, _, _, hn, _ => by cases hn
  | .hl _, _, _, _, h => by
    obtain ⟨a, vs, rfl, h1, _⟩ := h
    rcases h1.seq with (h1 | ⟨o, h1⟩) | ⟨o, its, n, h1, h2, _⟩
    · exact .base (.lst h1)
    · exact .base (.frz h1)
    · exact .kList h1 h2
  | .tup _, _, _, _, h => by
    obtain ⟨a, vs, rfl, h1, _⟩ := h
    exact .base (.tup h1)
  | .last _, _, _, _, h => h.elim
  | .cons _ _, _, _, _, h => h.elim
theorem rp_isi {t : Ty} {m m' : Em} {te : TE} {F : Gam ts → Option (den t)} (c : String) (g : den t → Bool) (h : RP K ms ts te m' t F) (hg : ∀ d, kitB (kindOf t d) c = some (g d)) (hn : t.nodict = true := by rfl) :
    RP K ms ts (tCB (rIsi K) (tCons te (tCons (tC (.ty c)) tNil))) m .bool (e1 (fun d => some (g d)) F) := fun E L Γ σ H xt Q d o e q => by
  obtain ⟨a, ea, e⟩ := bind_some e
  cases e
  refine h E L Γ σ H xt _ a o ea fun v H1 s1 r1 => ?_
  exact ⟨v, .ty c, .type (kindOf t a), .type c, g a, rfl, .ty c, kind_ok t v a hn r1.b, kit_ty (hg a), q _ H1 s1 (rep_atom rfl rfl)⟩
theorem strOk_ofString (s : String) : PyData.strOk (Str.ofString s) = true := by
  unfold PyData.strOk
  rw [Str.ofString_eq_toList]
  simp only [List.all_toArray, List.all_map, List.all_eq_true, Function.comp, decide_eq_true_eq]
  intro c _
  have := c.valid
  show c.val.toNat < 1114112
  rcases this with h | ⟨_, h⟩
  · exact Nat.lt_trans h (by decide)
  · exact h
def fStrI (i : Int) : Option Str := okIf (decide (i.natAbs.log2 < 1920)) (Str.ofString (toString i))
theorem rp_strI {m m' : Em} {te : TE} {F : Gam ts → Option Int} (h : RP K ms ts te m' .int F) : RP K ms ts (tCB (fun xs H Q => ∃ i, xs = [.int i] ∧ i.natAbs.log2 < 1920 ∧ Q (.str (toString i)) H) (tCons te tNil)) m .str (e1 fStrI F) := fun E L Γ σ H xt Q d o e q => by
  obtain ⟨a, ea, e⟩ := bind_some e
  dsimp only [fStrI, okIf] at e
  split at e
  · rename_i hz
    cases e
    refine h E L Γ σ H xt _ a o ea fun v H1 s1 r1 => ?_
    cases (show v = .int a from r1.b)
    exact ⟨a, rfl, of_decide_eq_true hz, q _ H1 s1 (rep_atom rfl ⟨rfl, strOk_ofString _⟩)⟩
  · cases e
def fRepS (x : Str) (n : Int) : Option Str := okIf (decide (-(2 ^ 31) < n ∧ n < 2 ^ 31 ∧ x.length * n.toNat ≤ sizeLine) && PyData.strOk (repS x n)) (repS x n)
theorem v_repS {m : Em} : V2 K rRepS m .str .int .str fRepS := fun E L H v w a b c Q ra rb e q => by
  dsimp only [fRepS, okIf] at e
  split at e
  · rename_i hz
    cases e
    rw [Bool.and_eq_true] at hz
    have h1 := of_decide_eq_true hz.1
    exact ⟨a, b, ra.1, rb, h1.1, h1.2.1, h1.2.2, q _ H (Same.refl H) (rep_atom rfl ⟨rfl, hz.2⟩)⟩
  · cases e
def fCatL {α : Type} (a b : List α) : Option (List α) := okIf (lenOk (a.length + b.length)) (a ++ b)
theorem rp_cat {t : Ty} {m1 m2 : Em} {ta tb : TE} {Fa Fb : Gam ts → Option (List (den t))} (ha : RP K ms ts ta m1 (.list t) Fa) (hb : RP K ms ts tb m2 (.list t) Fb) (hf : t.frz = true := by rfl) : RP K ms ts (tOp (rCatR K) ta tb) .o (.list t) (e2 fCatL Fa Fb) := fun E L Γ σ H xt Q d o e q => by
  obtain ⟨a, ea, e⟩ := bind_some e
  obtain ⟨b, eb, e⟩ := bind_some e
  dsimp only [fCatL, okIf] at e
  split at e
  · rename_i hz
    cases e
    refine ha E L Γ σ H xt _ a o ea fun v H1 s1 r1 => ?_
    refine hb E L Γ σ H1 xt _ b (o.same s1) eb fun w H2 s2 r2 => ?_
    obtain ⟨p, vs, rfl, h1, h2⟩ := (rS_mono (Cov.of_same s2 fun _ h _ => h) (Stb.of_same s2) (.list t)).1 v a r1.b
    obtain ⟨p', ws, rfl, h3, h4⟩ := r2.b
    refine ⟨p, p', vs, ws, rfl, rfl, h1.seq, h3.seq, by rw [h2.length, h4.length]; exact of_decide_eq_true hz, fun l hn => ?_⟩
    have s4 : Same H2 (upd H2 l (.lst (vs ++ ws))) := same_new hn
    refine q (.ref l) _ ((s1.trans s2).trans s4) ⟨[l], fun _ => False, ⟨l, _, [], rfl, rfl, upd_same, F3.of2 (fun v d x => .inl ((rS_o t hf).1 v d x)) ((F2.append h2 h4).imp (rS_mono (Cov.of_same s4 fun _ h _ => h) (Stb.of_same s4) t).1)⟩, by simp, fun a ha => ?_, fun a h => h.elim, fun a _ h => h⟩
    have ha : a = l := by simpa using ha
    subst ha
    exact ⟨(s1.trans s2).free hn, by rw [upd_same]; rfl⟩
  · cases e
def sAsg {G ρ α : Type} (F : G → Option α) (B : α → G → G) : G → Option (Fl G ρ) := fun Γ => (F Γ).bind fun d => some (.nx (B d Γ))
theorem rs_asg {w : Bool} {t : Ty} {te : TE} {g : TG} {F : Gam ts → Option (den t)} {B : den t → Gam ts → Gam ts} (h : RP K ms ts te (if w then .w else .l) t F) (hg : RG K ms ts g w t B) : RS K ms ts (tAsg te g) rm ρ (sAsg F B) := fun E L Γ σ H D f o e p => by
  obtain ⟨d, e1, e2⟩ := bind_some e
  cases e2
  refine h E L Γ σ H [] _ d o e1 fun v H1 s1 r1 => ?_
  obtain ⟨Lr, h1, h2⟩ := reg_rep r1
  have o1 : Own K E (fun a => L a ∨ Lr a) ms ts Γ σ H1 [] := o.temp s1 List.nodup_nil (fun a ha => by simp at ha) h2 fun a ha => by simp at ha
  have ev1 : Ev ms ts L Γ σ H (fun a => L a ∨ Lr a) Γ σ H1 := ⟨fun a h => .inl h, fun a q _ h => s1 _ _ h, Stb.of_same s1, KeepF.refl⟩
  exact hg E _ Γ σ H1 _ v d o1 h1 fun σ' o' e' => p _ σ' H1 o' (ev1.trans e')
def bindAll {G α : Type} : List (α → G → G) → List α → G → G
  | B :: Bs, d :: ds, Γ => bindAll Bs ds (B d Γ)
  | _, _, Γ => Γ
def sUnl {G ρ α : Type} (F : G → Option (List α)) (Bs : List (α → G → G)) : G → Option (Fl G ρ) := fun Γ => (F Γ).bind fun d => if d.length = Bs.length then some (.nx (bindAll Bs d Γ)) else none
def emb : (t : Ty) → (den t → PyData) × (den t → List PyData)
  | .non => (fun _ => .none, fun _ => [])
  | .bool => (fun b => .bool b, fun _ => [])
  | .int => (fun i => .int i, fun _ => [])
  | .str => (fun x => .str x, fun _ => [])
  | .any => (fun d => d, fun _ => [])
  | .exn => (fun _ => .none, fun _ => [])
  | .alt a b => (fun d => match d with
      | .inl x => (emb a).1 x
      | .inr y => (emb b).1 y, fun _ => [])
  | .opt t => (fun d => match d with
      | none => .none
      | some x => (emb t).1 x, fun _ => [])
  | .vtup t => (fun d => .tuple (d.map (emb t).1), fun _ => [])
  | .list t => (fun d => .list (d.map (emb t).1), fun _ => [])
  | .dict _ _ => (fun _ => .dict [], fun _ => [])
  | .own t => emb t
  | .hl b => (fun d => .list ((emb b).2 d), fun _ => [])
  | .ins _ _ _ => (fun _ => .none, fun _ => [])
  | .tup b => (fun d => .tuple ((emb b).2 d), fun _ => [])
  | .last a => (fun _ => .none, fun d => [(emb a).1 d])
  | .cons a b => (fun _ => .none, fun d => (emb a).1 d.1 :: (emb b).2 d.2)
def Ty.cmp : Ty → Bool
  | .any => false
  | .exn => false
  | .alt a b => a.cmp && b.cmp
  | .dict _ _ => false
  | .opt t => t.cmp
  | .vtup t => t.cmp
  | .list t => t.cmp
  | .own t => t.cmp
  | .hl b => b.cmp
  | .ins _ _ _ => false
  | .tup b => b.cmp
  | .last a => a.cmp
  | .cons a b => a.cmp && b.cmp
  | _ => true
def Ty.dep : Ty → Nat
  | .alt a b => max a.dep b.dep
  | .opt t => t.dep
  | .vtup t => t.dep + 1
  | .list t => t.dep + 1
  | .own t => t.dep
  | .hl b => b.dep + 1
  | .tup b => b.dep + 1
  | .last a => a.dep
  | .cons a b => max a.dep b.dep
  | _ => 0
theorem f2_dp {t : Ty} {P : V → den t → Prop} (h : ∀ v d, P v d → Dp K H v ((emb t).1 d)) : ∀ {vs : List V} {ds : List (den t)}, F2 P vs ds → DpAll K H vs (ds.map (emb t).1)
  | [], [], _ => .nil
  | v :: vs, d :: ds, q => .cons (h v d q.1) (f2_dp h q.2)
  | [], _ :: _, q => q.elim
  | _ :: _, [], q => q.elim
theorem rS_dp {R : Reg} : ∀ t : Ty, t.cmp = true → (∀ v d, (rS K H R t).1 v d → Dp K H v ((emb t).1 d)) ∧ (∀ vs d, (rS K H R t).2 vs d → DpAll K H vs ((emb t).2 d)) := by
  intro t
  induction t with
  | non => exact fun _ => ⟨fun v d h => by cases h; exact .non, fun _ _ h => h.elim⟩
  | bool => exact fun _ => ⟨fun v d h => by cases h; exact .bl _, fun _ _ h => h.elim⟩
  | int => exact fun _ => ⟨fun v d h => by cases h; exact .int _, fun _ _ h => h.elim⟩
  | str => exact fun _ => ⟨fun v d h => by cases h.1; exact .str _, fun _ _ h => h.elim⟩
  | any => exact fun q => by cases q
  | exn => exact fun q => by cases q
  | alt a b iha ihb =>
    intro q
    simp only [Ty.cmp, Bool.and_eq_true] at q
    refine ⟨fun v d h => ?_, fun _ _ h => h.elim⟩
    cases d with
    | inl x => exact (iha q.1).1 v x h
    | inr x => exact (ihb q.2).1 v x h
  | opt t ih =>
    intro q
    refine ⟨fun v d h => ?_, fun _ _ h => h.elim⟩
    cases d with
    | none => cases (show v = .non from h); exact .non
    | some x => exact (ih q).1 v x h.2
  | vtup t ih =>
    intro q
    refine ⟨fun v d h => ?_, fun _ _ h => h.elim⟩
    obtain ⟨a, vs, rfl, h1, h2⟩ := h
    exact .tup (.of h1) (f2_dp (ih q).1 h2)
  | list t ih =>
    intro q
    refine ⟨fun v d h => ?_, fun _ _ h => h.elim⟩
    obtain ⟨a, vs, rfl, h1, h2⟩ := h
    exact .lst h1.seq (f2_dp (ih q).1 h2)
  | dict k t _ ih => exact fun q => by cases q
  | own t ih => exact ih
  | ins C ks b ih => exact fun q => by cases q
  | hl b ih =>
    intro q
    refine ⟨fun v d h => ?_, fun _ _ h => h.elim⟩
    obtain ⟨a, vs, rfl, h1, h2⟩ := h
    exact .lst h1.seq ((ih q).2 vs d h2)
  | tup b ih =>
    intro q
    refine ⟨fun v d h => ?_, fun _ _ h => h.elim⟩
    obtain ⟨a, vs, rfl, h1, h2⟩ := h
    exact .tup (.of h1) ((ih q).2 vs d h2)
  | last a ih =>
    intro q
    refine ⟨fun _ _ h => h.elim, fun vs d h => ?_⟩
    obtain ⟨v, rfl, h⟩ := h
    exact .cons ((ih q).1 v d h) .nil
  | cons a b iha ihb =>
    intro q
    simp only [Ty.cmp, Bool.and_eq_true] at q
    refine ⟨fun _ _ h => h.elim, fun vs d h => ?_⟩
    obtain ⟨v, r, rfl, h1, h2⟩ := h
    exact .cons ((iha q.1).1 v d.1 h1) ((ihb q.2).2 r d.2 h2)
theorem canLayAll_map {t : Ty} {P : V → den t → Prop} {n : Nat} (h : ∀ v d, P v d → ((emb t).1 d).canLay0 = true ∧ ((emb t).1 d).depth ≤ n) : ∀ {vs : List V} {ds : List (den t)}, F2 P vs ds → PyData.canLayAll0 (ds.map (emb t).1) = true ∧ PyData.depthAll (ds.map (emb t).1) ≤ n
  | [], [], _ => ⟨by simp [PyData.canLayAll0], by simp [PyData.depthAll]⟩
  | v :: vs, d :: ds, q => by
    have h1 := h v d q.1
    have h2 := canLayAll_map h q.2
    simp only [List.map_cons, PyData.canLayAll0, PyData.depthAll, Bool.and_eq_true]
    exact ⟨⟨h1.1, h2.1⟩, Nat.max_le.mpr ⟨h1.2, h2.2⟩⟩
  | [], _ :: _, q => q.elim
  | _ :: _, [], q => q.elim
theorem rS_lay {R : Reg} : ∀ t : Ty, t.cmp = true → (∀ v d, (rS K H R t).1 v d → ((emb t).1 d).canLay0 = true ∧ ((emb t).1 d).depth ≤ t.dep) ∧ (∀ vs d, (rS K H R t).2 vs d → PyData.canLayAll0 ((emb t).2 d) = true ∧ PyData.depthAll ((emb t).2 d) ≤ t.dep) := by
  intro t
  induction t with
  | non => exact fun _ => ⟨fun v d h => by simp [emb, PyData.canLay0, PyData.depth], fun _ _ h => h.elim⟩
  | bool => exact fun _ => ⟨fun v d h => by simp [emb, PyData.canLay0, PyData.depth], fun _ _ h => h.elim⟩
  | int => exact fun _ => ⟨fun v d h => by simp [emb, PyData.canLay0, PyData.depth], fun _ _ h => h.elim⟩
  | str => exact fun _ => ⟨fun v d h => by simpa [emb, PyData.canLay0, PyData.depth] using h.2, fun _ _ h => h.elim⟩
  | any => exact fun q => by cases q
  | exn => exact fun q => by cases q
  | alt a b iha ihb =>
    intro q
    simp only [Ty.cmp, Bool.and_eq_true] at q
    refine ⟨fun v d h => ?_, fun _ _ h => h.elim⟩
    cases d with
    | inl x =>
      have := (iha q.1).1 v x h
      simp only [emb, Ty.dep]
      exact ⟨this.1, Nat.le_trans this.2 (Nat.le_max_left _ _)⟩
    | inr x =>
      have := (ihb q.2).1 v x h
      simp only [emb, Ty.dep]
      exact ⟨this.1, Nat.le_trans this.2 (Nat.le_max_right _ _)⟩
  | opt t ih =>
    intro q
    refine ⟨fun v d h => ?_, fun _ _ h => h.elim⟩
    cases d with
    | none => simp [emb, PyData.canLay0, PyData.depth]
    | some x => exact (ih q).1 v x h.2
  | vtup t ih =>
    intro q
    refine ⟨fun v d h => ?_, fun _ _ h => h.elim⟩
    obtain ⟨a, vs, rfl, h1, h2⟩ := h
    have := canLayAll_map (ih q).1 h2
    simp only [emb, PyData.canLay0, PyData.depth, Ty.dep]
    exact ⟨this.1, by omega⟩
  | list t ih =>
    intro q
    refine ⟨fun v d h => ?_, fun _ _ h => h.elim⟩
    obtain ⟨a, vs, rfl, h1, h2⟩ := h
    have := canLayAll_map (ih q).1 h2
    simp only [emb, PyData.canLay0, PyData.depth, Ty.dep]
    exact ⟨this.1, by omega⟩
  | dict k t _ ih => exact fun q => by cases q
  | own t ih => exact ih
  | ins C ks b ih => exact fun q => by cases q
  | hl b ih =>
    intro q
    refine ⟨fun v d h => ?_, fun _ _ h => h.elim⟩
    obtain ⟨a, vs, rfl, h1, h2⟩ := h
    have := (ih q).2 vs d h2
    simp only [emb, PyData.canLay0, PyData.depth, Ty.dep]
    exact ⟨this.1, by omega⟩
  | tup b ih =>
    intro q
    refine ⟨fun v d h => ?_, fun _ _ h => h.elim⟩
    obtain ⟨a, vs, rfl, h1, h2⟩ := h
    have := (ih q).2 vs d h2
    simp only [emb, PyData.canLay0, PyData.depth, Ty.dep]
    exact ⟨this.1, by omega⟩
  | last a ih =>
    intro q
    refine ⟨fun _ _ h => h.elim, fun vs d h => ?_⟩
    obtain ⟨v, rfl, h⟩ := h
    have := (ih q).1 v d h
    simp only [emb, PyData.canLayAll0, PyData.depthAll, Ty.dep, Bool.and_true]
    exact ⟨this.1, by omega⟩
  | cons a b iha ihb =>
    intro q
    simp only [Ty.cmp, Bool.and_eq_true] at q
    refine ⟨fun _ _ h => h.elim, fun vs d h => ?_⟩
    obtain ⟨v, r, rfl, h1, h2⟩ := h
    have k1 := (iha q.1).1 v d.1 h1
    have k2 := (ihb q.2).2 r d.2 h2
    simp only [emb, PyData.canLayAll0, PyData.depthAll, Ty.dep, Bool.and_eq_true]
    exact ⟨⟨k1.1, k2.1⟩, by omega⟩
theorem shaped_of {R : Reg} {t : Ty} (q : t.cmp = true) (hd : t.dep ≤ 64) {v : V} {d : den t} (h : (rS K H R t).1 v d) : SeqAt.shaped ((emb t).1 d) = true := by
  have := (rS_lay t q).1 v d h
  unfold SeqAt.shaped
  rw [this.1, Bool.true_and]
  exact decide_eq_true (by omega)
def fEqD (t : Ty) (a b : den t) : Option Bool := some (PyData.eqv ((emb t).1 a) ((emb t).1 b))
def okCmp (t : Ty) : Bool := t.cmp && decide (t.dep ≤ 60)
theorem okCmp_of {t : Ty} (h : okCmp t = true) : t.cmp = true ∧ t.dep ≤ 60 := by
  rw [okCmp, Bool.and_eq_true] at h
  exact ⟨h.1, of_decide_eq_true h.2⟩
theorem v_eqD {m : Em} {t : Ty} (hk : okCmp t = true) : V2 K (rEqD K) m t t .bool (fEqD t) := fun E L H v w a b c Q ra rb e q => by
  cases e
  obtain ⟨k1, k2⟩ := okCmp_of hk
  exact ⟨_, _, (rS_dp t k1).1 v a ra, (rS_dp t k1).1 w b rb, shaped_of k1 (by omega) ra, shaped_of k1 (by omega) rb, q _ H (Same.refl H) (rep_atom rfl rfl)⟩
def fInD (t : Ty) (a : den t) (b : List (den t)) : Option Bool := some (b.any fun z => PyData.eqv ((emb t).1 z) ((emb t).1 a))
def fNotInD (t : Ty) (a : den t) (b : List (den t)) : Option Bool := some (!b.any fun z => PyData.eqv ((emb t).1 z) ((emb t).1 a))
theorem v_inD {m : Em} {t : Ty} (hk : okCmp t = true) : V2 K (rInD K) m t (.list t) .bool (fInD t) := fun E L H v w a b c Q ra rb e q => by
  cases e
  obtain ⟨k1, k2⟩ := okCmp_of hk
  refine ⟨_, b.map (emb t).1, (rS_dp t k1).1 v a ra, (rS_dp (.list t) k1).1 w b rb, shaped_of k1 (by omega) ra, shaped_of (t := .list t) k1 (by simp only [Ty.dep]; omega) rb, q _ H (Same.refl H) (rep_atom rfl ?_)⟩
  show V.bl _ = V.bl _
  rw [List.any_map]
  rfl
theorem v_notInD {m : Em} {t : Ty} (hk : okCmp t = true) : V2 K (rNotInD K) m t (.list t) .bool (fNotInD t) := fun E L H v w a b c Q ra rb e q => by
  cases e
  obtain ⟨k1, k2⟩ := okCmp_of hk
  refine ⟨_, b.map (emb t).1, (rS_dp t k1).1 v a ra, (rS_dp (.list t) k1).1 w b rb, shaped_of k1 (by omega) ra, shaped_of (t := .list t) k1 (by simp only [Ty.dep]; omega) rb, q _ H (Same.refl H) (rep_atom rfl ?_)⟩
  show V.bl _ = V.bl _
  rw [List.any_map]
  rfl
end
end VV
namespace VV
open PySem L2
open PyProof.Rows hiding St
section
variable {K : KW} {E : Ent} {ms : List Md} {ts : List Ty} {L L1 : Reg} {Γ Γ1 : Gam ts} {σ σ1 : St} {H H' H0 H1 H2 : Hp} {xt : List Addr} {rm : Rm} {ρ : Ty}
theorem RepL.nil {m : Em} {t : Ty} : RepL K E L H H' m t [] [] := by
  cases m with
  | o => exact ⟨[], fun _ => False, rfl, List.nodup_nil, fun a h => by simp at h, fun a h => h.elim, fun a h => by simp at h⟩
  | l => exact ⟨fun _ => False, True.intro, fun a h => h.elim⟩
  | w => exact ⟨fun _ => False, True.intro, fun a h => h.elim⟩
  | b => exact True.intro
theorem RepL.on {m : Em} {t : Ty} {vs : List V} {ds : List (den t)} (hm : (m == .b) = false) (hc : ∀ R : Reg, (∀ a, R a → E.S0 a ∨ L a ∨ (H0 a = none ∧ (H a).isSome = true)) → Cov H H' R R) (hs : Stb H H') (hn : ∀ a, H0 a = none → (H a).isSome = true → H' a = H a) (r : RepL K E L H0 H m t vs ds) : RepL K E L H0 H' m t vs ds := by
  have nw : ∀ {R : Reg}, Nw H0 H R → Nw H0 H' R := fun {R} h a ha => ⟨(h a ha).1, by rw [hn a (h a ha).1 (h a ha).2]; exact (h a ha).2⟩
  cases m with
  | o =>
    obtain ⟨f, Lr, h1, h2, h3, h4, h5⟩ := r
    have cv : Cov H H' (fun a => L a ∨ Lr a) (fun a => L a ∨ Lr a) := hc _ fun a h => h.elim (fun z => .inr (.inl z)) fun z => .inr (.inr (h4 a z))
    exact ⟨f, Lr, h1.imp fun v d g hg x => kid_mono ((rS_mono cv hs t).1 v d) ((rO_mono cv hs t).1 v d g fun a ha => hn a (h3 a (hg a ha)).1 (h3 a (hg a ha)).2) x, h2, nw h3, nw h4, h5⟩
  | l =>
    obtain ⟨Lr, h1, h2⟩ := r
    exact ⟨Lr, h1.imp fun v d x => (rS_mono (hc _ fun a h => h.elim (fun z => .inr (.inl z)) fun z => .inr (.inr (h2 a z))) hs t).1 v d x, nw h2⟩
  | w =>
    obtain ⟨Lr, h1, h2⟩ := r
    exact ⟨Lr, h1.imp fun v d x => (rS_mono (hc _ fun a h => h.elim .inl fun h => h.elim (fun z => .inr (.inl z)) fun z => .inr (.inr (h2 a z))) hs t).1 v d x, nw h2⟩
  | b => exact absurd hm (by decide)
theorem RepL.same {m : Em} {t : Ty} {vs : List V} {ds : List (den t)} (hm : (m == .b) = false) (s : Same H H') (r : RepL K E L H0 H m t vs ds) : RepL K E L H0 H' m t vs ds :=
  r.on hm (fun R _ => Cov.of_same s fun a h _ => h) (Stb.of_same s) fun a _ h => same_at s h
theorem RepL.upd {m : Em} {t : Ty} {vs : List V} {ds : List (den t)} {D : Addr} {o u : HO} (hm : (m == .b) = false) (hD : H D = some o) (mo : mutO o = true) (h0 : (H0 D).isSome = true) (hl : ¬ L D) (hS : ¬ E.S0 D) (r : RepL K E L H0 H m t vs ds) : RepL K E L H0 (upd H D u) m t vs ds := by
  refine r.on hm (fun R hR a q h e => ⟨h, ?_⟩) (Stb.upd hD mo) fun a h1 h2 => upd_ne fun z => ?_
  · rw [upd_ne fun z => ?_]
    · exact e
    · subst z
      rcases hR a h with z | z | z
      · exact hS z
      · exact hl z
      · rw [z.1] at h0
        cases h0
  · subst z
    rw [h1] at h0
    cases h0
theorem F3.snoc {α β : Type} {P : α → β → List Addr → Prop} {vs : List α} {ds : List β} {f : List Addr} {v : α} {d : β} {g : List Addr} (h : F3 P vs ds f) (q : P v d g) : F3 P (vs ++ [v]) (ds ++ [d]) (f ++ g) := F3.append h ⟨g, [], by simp, q, rfl⟩
theorem F2.snoc {α β : Type} {P : α → β → Prop} {vs : List α} {ds : List β} {v : α} {d : β} (h : F2 P vs ds) (q : P v d) : F2 P (vs ++ [v]) (ds ++ [d]) := F2.append h ⟨q, True.intro⟩
theorem RepL.snoc {m : Em} {t : Ty} {vs : List V} {ds : List (den t)} {v : V} {d : den t} (hm : (m == .b) = false) (s : Same H H') (h0 : ∀ a, H a = none → H0 a = none) (r : RepL K E L H0 H m t vs ds) (q : Rep K E L H H' m t v d) : RepL K E L H0 H' m t (vs ++ [v]) (ds ++ [d]) := by
  have r1 := r.same hm s
  have nw : ∀ {R : Reg}, Nw H H' R → Nw H0 H' R := fun {R} h a ha => ⟨h0 a (h a ha).1, (h a ha).2⟩
  cases m with
  | o =>
    obtain ⟨f, Lr, h1, h2, h3, h4, h5⟩ := r
    obtain ⟨g, Ls, k1, k2, k3, k4, k5⟩ := q
    have cv : Cov H H' (fun a => L a ∨ Lr a) (fun a => L a ∨ (Lr a ∨ Ls a)) := Cov.of_same s fun a h _ => h.elim .inl fun z => .inr (.inl z)
    have cg : Cov H' H' (fun a => L a ∨ Ls a) (fun a => L a ∨ (Lr a ∨ Ls a)) := Cov.of_reg fun a h _ => h.elim .inl fun z => .inr (.inr z)
    refine ⟨f ++ g, fun a => Lr a ∨ Ls a, F3.snoc (h1.imp fun v d g hg x => kid_mono ((rS_mono cv (Stb.of_same s) t).1 v d) ((rO_mono cv (Stb.of_same s) t).1 v d g fun a ha => same_at s (h3 a (hg a ha)).2) x) (.inl ((rO_mono cg (Stb.refl _) t).1 v d g (fun _ _ => rfl) k1)), List.nodup_append.mpr ⟨h2, k2, fun a ha b hb z => ?_⟩, fun a ha => ?_, fun a ha => ?_, fun a ha => ?_⟩
    · subst z
      exact nw_apart h3 k3 a ha hb
    · rcases List.mem_append.mp ha with z | z
      · exact nw_on s h3 a z
      · exact nw k3 a z
    · rcases ha with z | z
      · exact nw_on s h4 a z
      · exact nw k4 a z
    · rcases List.mem_append.mp ha with z | z
      · exact fun y => y.elim (h5 a z) (nw_apart h3 k4 a z)
      · exact fun y => y.elim (fun y => nw_apart h4 k3 a y z) (k5 a z)
  | l =>
    obtain ⟨Lr, h1, h2⟩ := r1
    obtain ⟨Ls, k1, k2⟩ := q
    refine ⟨fun a => Lr a ∨ Ls a, F2.snoc (h1.imp fun v d x => (rS_mono (Cov.of_reg fun a h _ => h.elim .inl fun z => .inr (.inl z)) (Stb.refl _) t).1 v d x) ((rS_mono (Cov.of_reg fun a h _ => h.elim .inl fun z => .inr (.inr z)) (Stb.refl _) t).1 v d k1), fun a ha => ha.elim (h2 a) (nw k2 a)⟩
  | w =>
    obtain ⟨Lr, h1, h2⟩ := r1
    obtain ⟨Ls, k1, k2⟩ := q
    refine ⟨fun a => Lr a ∨ Ls a, F2.snoc (h1.imp fun v d x => (rS_mono (Cov.of_reg fun a h _ => h.elim .inl fun z => z.elim (fun z => .inr (.inl z)) fun z => .inr (.inr (.inl z))) (Stb.refl _) t).1 v d x)
      ((rS_mono (Cov.of_reg fun a h _ => h.elim .inl fun z => z.elim (fun z => .inr (.inl z)) fun z => .inr (.inr (.inr z))) (Stb.refl _) t).1 v d k1), fun a ha => ha.elim (h2 a) (nw k2 a)⟩
  | b => exact absurd hm (by decide)
theorem RepL.list {m : Em} {t : Ty} {vs : List V} {ds : List (den t)} {D : Addr} {Lr : Reg} (hm : (m == .b) = false) (s : Same H H1) (nl : Nw H H1 Lr) (hD : H1 D = none) (s1 : Same H1 H') (hv : H' D = some (.lst vs)) (r : RepL K E (fun a => L a ∨ Lr a) (L2.upd H1 D (.lst [])) H' m t vs ds) : Rep K E L H H' m (.list t) (.ref D) ds := by
  have nf : ∀ {R : Reg}, Nw (L2.upd H1 D (.lst [])) H' R → Nw H H' R ∧ ¬ R D := fun {R} h => ⟨fun a ha => by
    have := (h a ha).1
    have ne : a ≠ D := fun z => by
      subst z
      rw [upd_same] at this
      cases this
    rw [upd_ne ne] at this
    exact ⟨s.free this, (h a ha).2⟩, fun z => by
    have := (h D z).1
    rw [upd_same] at this
    cases this⟩
  have nl' : Nw H H' Lr := nw_on s1 nl
  have dl : ¬ Lr D := fun z => by
    have := (nl D z).2
    rw [hD] at this
    cases this
  have dn : H D = none ∧ (H' D).isSome = true := ⟨s.free hD, by rw [hv]; rfl⟩
  have as : ∀ {Ls : Reg}, ∀ a, (L a ∨ Lr a) ∨ Ls a → L a ∨ (Lr a ∨ Ls a) := fun a h => h.elim (fun h => h.elim .inl fun z => .inr (.inl z)) fun z => .inr (.inr z)
  cases m with
  | o =>
    obtain ⟨f, Ls, h1, h2, h3, h4, h5⟩ := r
    have cv : Cov H' H' (fun a => (L a ∨ Lr a) ∨ Ls a) (fun a => L a ∨ (Lr a ∨ Ls a)) := Cov.of_reg fun a h _ => as a h
    refine ⟨D :: f, fun a => Lr a ∨ Ls a, ⟨D, vs, f, rfl, rfl, hv, h1.imp fun v d g hg x => kid_mono ((rS_mono cv (Stb.refl _) t).1 v d) ((rO_mono cv (Stb.refl _) t).1 v d g fun _ _ => rfl) x⟩, List.nodup_cons.mpr ⟨(nf h3).2, h2⟩, fun a ha => ?_, fun a ha => ha.elim (nl' a) ((nf h4).1 a), fun a ha => ?_⟩
    · rcases List.mem_cons.mp ha with rfl | ha
      · exact dn
      · exact (nf h3).1 a ha
    · rcases List.mem_cons.mp ha with rfl | ha
      · exact fun z => z.elim dl (nf h4).2
      · refine fun z => z.elim (fun z => ?_) (h5 a ha)
        have h6 := (nl a z).2
        have h7 := (h3 a ha).1
        have ne : a ≠ D := fun z => by
          subst z
          rw [upd_same] at h7
          cases h7
        rw [upd_ne ne] at h7
        rw [h7] at h6
        cases h6
  | l =>
    obtain ⟨Ls, h1, h2⟩ := r
    refine ⟨fun a => (Lr a ∨ Ls a) ∨ a = D, ⟨D, vs, rfl, .inl ⟨.inr (.inr rfl), by rw [hv]; rfl⟩, h1.imp fun v d x => (rS_mono (Cov.of_reg fun a h _ => (as a h).elim .inl fun z => .inr (.inl z)) (Stb.refl _) t).1 v d x⟩, fun a ha => ?_⟩
    rcases ha with (ha | ha) | rfl
    · exact nl' a ha
    · exact (nf h2).1 a ha
    · exact dn
  | w =>
    obtain ⟨Ls, h1, h2⟩ := r
    refine ⟨fun a => (Lr a ∨ Ls a) ∨ a = D, ⟨D, vs, rfl, .inl ⟨.inr (.inr (.inr rfl)), by rw [hv]; rfl⟩, h1.imp fun v d x => (rS_mono (Cov.of_reg fun a h _ => h.elim .inl fun h => .inr ((as a h).elim .inl fun z => .inr (.inl z))) (Stb.refl _) t).1 v d x⟩, fun a ha => ?_⟩
    rcases ha with (ha | ha) | rfl
    · exact nl' a ha
    · exact (nf h2).1 a ha
    · exact dn
  | b => exact absurd hm (by decide)
theorem wipe_in {i : Nat} : ∀ {vs : List Nat} {σ : St}, i ∈ vs → i < σ.length → (wipe σ vs)[i]? = some none
  | v :: vs, σ, h, hl => by
    unfold wipe
    by_cases hv : v = i
    · subst hv
      rw [List.getElem?_set_self (by rw [wipe_length]; exact hl)]
    · rw [List.getElem?_set_ne hv]
      exact wipe_in ((List.mem_cons.mp h).resolve_left fun z => hv z.symm) hl
  | [], _, h, _ => by simp at h
theorem wipe_ext {vs : List Nat} {σ σ' : St} (hl : σ.length = σ'.length) (h : ∀ j, j ∉ vs → σ[j]? = σ'[j]?) : wipe σ vs = wipe σ' vs := by
  refine List.ext_getElem? fun j => ?_
  by_cases hj : j ∈ vs
  · by_cases hb : j < σ.length
    · rw [wipe_in hj hb, wipe_in hj (by omega)]
    · rw [List.getElem?_eq_none (by rw [wipe_length]; omega), List.getElem?_eq_none (by rw [wipe_length]; omega)]
  · rw [wipe_out hj, wipe_out hj]
    exact h j hj
theorem wipe_wipe (σ : St) (vs : List Nat) : wipe (wipe σ vs) vs = wipe σ vs := wipe_ext (wipe_length σ vs) fun j hj => wipe_out hj
def GW (g : TG) (vs : List Nat) : Prop := ∀ (x : V) (σ : St) (H : Hp) (Q : St → Hp → Prop), g x σ H Q → g x σ H fun σ' H' => wipe σ' vs = wipe σ vs ∧ Q σ' H'
def GWs (g : TGs) (vs : List Nat) : Prop := ∀ (xs : List V) (σ : St) (H : Hp) (Q : St → Hp → Prop), g xs σ H Q → g xs σ H fun σ' H' => wipe σ' vs = wipe σ vs ∧ Q σ' H'
def MonG (g : TG) : Prop := ∀ (x : V) (σ : St) (H : Hp) (Q Q' : St → Hp → Prop), (∀ σ' H', Q σ' H' → Q' σ' H') → g x σ H Q → g x σ H Q'
theorem gw_name {i : Nat} {vs : List Nat} (h : vs.contains i = true := by rfl) : GW (gName i) vs := fun x σ H Q q => by
  refine ⟨wipe_ext List.length_set fun j hj => List.getElem?_set_ne fun z => hj ?_, q⟩
  rw [← z]
  exact List.contains_iff_mem.mp h
theorem gws_nil {vs : List Nat} : GWs gNil vs := fun xs σ H Q q => ⟨q.1, rfl, q.2⟩
theorem gws_cons {g : TG} {gs : TGs} {vs : List Nat} (h : GW g vs) (hm : MonG g) (hs : GWs gs vs) : GWs (gCons g gs) vs := fun xs σ H Q q => by
  obtain ⟨v, r, rfl, q⟩ := q
  refine ⟨v, r, rfl, hm v σ H _ _ (fun σ' H' z => ?_) (h v σ H _ q)⟩
  have := hs r σ' H' Q z.2
  rw [z.1] at this
  exact this
theorem mg_name {i : Nat} : MonG (gName i) := fun _ _ _ _ _ h q => h _ _ q
theorem gw_tup {n : Nat} {gs : TGs} {vs : List Nat} (h : GWs gs vs) : GW (gTup K n gs) vs := fun x σ H Q q => by
  obtain ⟨a, xs, e, h1, h2, q⟩ := q
  exact ⟨a, xs, e, h1, h2, h xs σ H Q q⟩
theorem rG_unset {S0 : Reg} : ∀ {ms : List Md} {ts : List Ty} {Γ : Gam ts} {σ : St} {fp : List Addr} (bs : List Bool) (v : Nat), bs[v]? = some false → rG K H S0 L ms ts (Gam.mask bs Γ) σ fp → rG K H S0 L ms ts (Gam.mask bs Γ) (σ.set v none) fp
  | [], [], _, σ, _, bs, v, hv, h => by
    obtain ⟨h1, h2⟩ := h
    subst h1
    exact ⟨rfl, h2⟩
  | m :: ms, t :: ts, Γ, s :: σ, fp, b :: bs, 0, hv, h => by
    have e : b = false := by simpa using hv
    subst e
    obtain ⟨f1, f2, rfl, h1, h2⟩ := h
    exact ⟨f1, f2, rfl, h1, h2⟩
  | m :: ms, t :: ts, Γ, s :: σ, fp, b :: bs, v + 1, hv, h => by
    obtain ⟨f1, f2, rfl, h1, h2⟩ := h
    exact ⟨f1, f2, rfl, h1, rG_unset (Γ := Γ.2) bs v (by simpa using hv) h2⟩
  | _ :: _, _ :: _, _, _ :: _, _, [], _, hv, _ => by simp at hv
  | [], _ :: _, _, _, _, _, _, _, h => h.elim
  | _ :: _, [], _, _, _, _, _, _, h => h.elim
  | _ :: _, _ :: _, _, [], _, [], _, hv, _ => by simp at hv
  | _ :: _, _ :: _, _, [], _, _ :: _, _, _, h => h.elim
theorem rG_wipe {S0 : Reg} {fp : List Addr} {bs : List Bool} : ∀ (vs : List Nat), (∀ v ∈ vs, bs[v]? = some false) → rG K H S0 L ms ts (Gam.mask bs Γ) σ fp → rG K H S0 L ms ts (Gam.mask bs Γ) (wipe σ vs) fp
  | [], _, h => h
  | v :: vs, hv, h => rG_unset bs v (hv v List.mem_cons_self) (rG_wipe vs (fun w hw => hv w (List.mem_cons_of_mem _ hw)) h)
theorem Own.wipe {bs : List Bool} {vs : List Nat} (hv : ∀ v ∈ vs, bs[v]? = some false) (o : Own K E L ms ts (Gam.mask bs Γ) σ H xt) : Own K E L ms ts (Gam.mask bs Γ) (wipe σ vs) H xt := by
  obtain ⟨fp, g, nd, gd⟩ := o.ex
  exact ⟨⟨fp, rG_wipe vs hv g, nd, gd⟩, o.fr, o.lr, o.s0, o.iod⟩
def lcL {G α β : Type} (bind : α → G → G) (cond : G → Option Bool) (elt : G → Option β) (Γ : G) : List α → Option (List β)
  | [] => some []
  | x :: xs => (cond (bind x Γ)).bind fun b => if b = true then (elt (bind x Γ)).bind fun y => (lcL bind cond elt Γ xs).bind fun r => some (y :: r) else lcL bind cond elt Γ xs
def eLc {G α β : Type} (src : G → Option (List α)) (bind : α → G → G) (mask : G → G) (cond : G → Option Bool) (elt : G → Option β) : G → Option (List β) := fun Γ => (src Γ).bind fun xs => (lcL bind cond elt (mask Γ) xs).bind fun r => okIf (lenOk r.length) r
def eYes {G : Type} : G → Option Bool := fun _ => some true
theorem rt_yes : RT K ms ts tYes eYes := fun E L Γ σ H xt Q c o e q => by
  cases e
  exact q H (Same.refl H)
structure IterS (K : KW) (R : Reg) (t : Ty) (J : It) (ds : List (den t)) (Z : Hp → Prop) : Prop where
  keep : ∀ H H', Same H H' → Z H → Z H'
  go : ∀ i H, Z H → i < ds.length → J.go i H
  stop : ∀ H, Z H → J.stop ds.length H
  yld : ∀ i H x H', i < ds.length → Z H → J.yld i H x H' → Same H H' ∧ ∃ d, ds[i]? = some d ∧ (rS K H' R t).1 x d
def RIS (K : KW) (ms : List Md) (ts : List Ty) (wi : TI) (w : Bool) (t : Ty) (F : Gam ts → Option (List (den t))) : Prop :=
  ∀ (E : Ent) (L : Reg) (Γ : Gam ts) (σ : St) (H : Hp) (xt : List Addr) (R : It → Hp → Prop) (ds : List (den t)), Own K E L ms ts Γ σ H xt → F Γ = some ds →
    (∀ J H' Lr Z, Same H H' → Nw H H' Lr → IterS K (reg w E fun a => L a ∨ Lr a) t J ds Z → Z H' → R J H') → wi σ H R
theorem ris_of {w : Bool} {t : Ty} {wi : TI} {F : Gam ts → Option (List (den t))} (h : RI K ms ts wi w t F) : RIS K ms ts wi w t F := fun E L Γ σ H xt R ds o e q =>
  h E L Γ σ H xt R ds o e fun J H' Lr Z s n it z => q J H' Lr Z s n ⟨fun H H' s => it.keep H H' (Cov.of_same s fun _ h _ => h) (Stb.of_same s), it.go, it.stop, it.yld⟩ z
theorem rp_hide {te : TE} {m : Em} {t : Ty} {F : Gam ts → Option (den t)} (h : RP K ms ts te m t F) : RP K ms ts te m t (hide F) := by
  rw [hide_eq]
  exact h
def okLc (m : Em) (bs : List Bool) (vs : List Nat) : Bool := !(m == .b) && vs.all fun v => bs[v]? == some false
theorem rp_lc {w : Bool} {m : Em} {t u : Ty} {wi : TI} {g : TG} {tt : TT} {te : TE} {src : Gam ts → Option (List (den t))} {B : den t → Gam ts → Gam ts} {cond : Gam ts → Option Bool} {elt : Gam ts → Option (den u)} (bs : List Bool) (vs : List Nat)
    (hi : RIS K ms ts wi w t src) (hg : RG K ms ts g w t B) (hw : GW g vs) (hc : RT K ms ts tt cond) (he : RP K ms ts te m u elt) (hk : okLc m bs vs = true := by rfl) : RP K ms ts (tLc wi g tt te vs) m (.list u) (eLc src B (Gam.mask bs) cond elt) := fun E L Γ σ H xt Q d o e q => by
  obtain ⟨xs, e1, e⟩ := bind_some e
  obtain ⟨r, e2, e⟩ := bind_some e
  simp only [okLc, Bool.and_eq_true, Bool.not_eq_true', List.all_eq_true, beq_iff_eq] at hk
  obtain ⟨hm, hv⟩ := hk
  dsimp only [okIf] at e
  split at e
  · rename_i hz
    cases e
    have hz := of_decide_eq_true hz
    have o0 := o.drop
    refine hi E L Γ σ H [] _ xs o0 e1 fun J H1 Lr Z s1 nw it z1 => fun D hD => ?_
    have o1 : Own K E (fun a => L a ∨ Lr a) ms ts (Gam.mask bs Γ) (L2.wipe σ vs) H1 [] := Own.wipe hv ((o0.temp s1 List.nodup_nil (fun a ha => by simp at ha) nw fun a ha => by simp at ha).mask bs)
    have fD := o1.fresh hD
    refine ⟨fun i k H' => k = xs.length - i ∧ i ≤ xs.length ∧ Same H1 H' ∧ ∃ acc ds rest, H' D = some (.lst acc) ∧ RepL K E (fun a => L a ∨ Lr a) (L2.upd H1 D (.lst [])) H' m u acc ds ∧ lcL B cond elt (Gam.mask bs Γ) (xs.drop i) = some rest ∧ d = ds ++ rest,
      ⟨xs.length, rfl, Nat.zero_le _, same_new hD, [], [], d, upd_same, RepL.nil, e2, rfl⟩, ?_⟩
    rintro i k H' ⟨rfl, hle, sH, acc, ds, rest, hDa, rl, e4, rfl⟩
    have z' : Z H' := it.keep H1 H' sH z1
    by_cases hlt : i < xs.length
    · refine .inr ⟨it.go i H' z' hlt, fun H'' => Same H1 H'' ∧ ∃ acc ds' rest', H'' D = some (.lst acc) ∧ RepL K E (fun a => L a ∨ Lr a) (L2.upd H1 D (.lst [])) H'' m u acc ds' ∧ lcL B cond elt (Gam.mask bs Γ) (xs.drop (i + 1)) = some rest' ∧ ds ++ rest = ds' ++ rest',
        fun H'' h => ⟨xs.length - (i + 1), by omega, rfl, hlt, h⟩, fun x H3 hy => ?_⟩
      obtain ⟨s3, dd, hd, rd⟩ := it.yld i H' x H3 hlt z' hy
      have ed : xs.drop i = dd :: xs.drop (i + 1) := by
        have hd' : xs[i] = dd := by
          have := List.getElem?_eq_getElem hlt
          rw [this] at hd
          exact Option.some.inj hd
        rw [List.drop_eq_getElem_cons hlt, hd']
      rw [ed] at e4
      obtain ⟨b, e5, e6⟩ := bind_some (show (cond (B dd (Gam.mask bs Γ))).bind _ = some rest from e4)
      have o3 := o1.same (sH.trans s3)
      have main := hw x (L2.wipe σ vs) H3 _ (hg E _ (Gam.mask bs Γ) (L2.wipe σ vs) H3 (fun σ2 H2 => tt σ2 H2 fun b H3 => if b = true then te σ2 H3 fun y H4 => ∃ acc, H4 D = some (.lst acc) ∧ acc.length < sizeLine ∧ (fun H'' => Same H1 H'' ∧ ∃ acc ds' rest', H'' D = some (.lst acc) ∧ RepL K E (fun a => L a ∨ Lr a) (L2.upd H1 D (.lst [])) H'' m u acc ds' ∧ lcL B cond elt (Gam.mask bs Γ) (xs.drop (i + 1)) = some rest' ∧ ds ++ rest = ds' ++ rest') (L2.upd H4 D (.lst (acc ++ [y]))) else (fun H'' => Same H1 H'' ∧ ∃ acc ds' rest', H'' D = some (.lst acc) ∧ RepL K E (fun a => L a ∨ Lr a) (L2.upd H1 D (.lst [])) H'' m u acc ds' ∧ lcL B cond elt (Gam.mask bs Γ) (xs.drop (i + 1)) = some rest' ∧ ds ++ rest = ds' ++ rest') H3) x dd o3 rd fun σ4 o4 ev4 => ?_)
      · rw [wipe_wipe] at main
        exact main
      · refine hc E _ _ σ4 H3 [] _ b o4 e5 fun H5 s5 => ?_
        have s35 : Same H' H5 := s3.trans s5
        cases b with
        | false =>
          rw [if_neg Bool.false_ne_true] at e6 ⊢
          exact ⟨sH.trans s35, acc, ds, rest, s35 _ _ hDa, rl.same hm s35, e6, rfl⟩
        | true =>
          rw [if_pos rfl] at e6 ⊢
          obtain ⟨y, e7, e8⟩ := bind_some e6
          obtain ⟨r', e9, e10⟩ := bind_some e8
          cases e10
          refine he E _ _ σ4 H5 [] _ y (o4.same s5) e7 fun v H6 s6 r6 => ?_
          have s36 : Same H' H6 := s35.trans s6
          have hD6 := s36 _ _ hDa
          refine ⟨acc, hD6, ?_, fun a q h => ?_, acc ++ [v], ds ++ [y], r', upd_same, ?_, e9, by simp⟩
          · have := rl.len
            simp only [List.length_append, List.length_cons] at hz
            omega
          · have ne : a ≠ D := fun z => by
              subst z
              rw [hD] at h
              cases h
            rw [upd_ne ne]
            exact (sH.trans s36) a q h
          · refine RepL.upd hm hD6 rfl (by rw [upd_same]; rfl) fD.2.1 fD.2.2 (RepL.snoc hm s6 (fun a h => ?_) (rl.same hm s35) r6)
            have ne : a ≠ D := fun z => by
              subst z
              rw [s35 _ _ hDa] at h
              cases h
            rw [upd_ne ne]
            exact (sH.trans s35).free h
    · have hi' : i = xs.length := by omega
      subst hi'
      rw [List.drop_length] at e4
      cases e4
      refine .inl ⟨it.stop H' z', q (.ref D) H' (s1.trans sH) ?_⟩
      rw [List.append_nil]
      exact rl.list hm s1 nw hD sH hDa
  · cases e
end
end VV
namespace VV
open PySem L2
open PyProof.Rows hiding St
section
variable {K : KW} {E : Ent} {ms : List Md} {ts : List Ty} {L L1 : Reg} {Γ Γ1 : Gam ts} {σ σ1 : St} {H H' H0 H1 H2 : Hp} {xt : List Addr} {rm : Rm} {ρ : Ty}
theorem rep_newL {t : Ty} {R : Reg} {l : Addr} {vs : List V} {d : List (den t)} (hf : t.frz = true) (s : Same H H1) (hn : H1 l = none) (h : F2 (rS K H1 R t).1 vs d) : Same H (upd H1 l (.lst vs)) ∧ Rep K E L H (upd H1 l (.lst vs)) .o (.list t) (.ref l) d := by
  have s4 : Same H1 (upd H1 l (.lst vs)) := same_new hn
  refine ⟨s.trans s4, [l], fun _ => False, ⟨l, _, [], rfl, rfl, upd_same, F3.of2 (fun v d x => .inl ((rS_o t hf).1 v d x)) (h.imp (rS_mono (Cov.of_same s4 fun _ h _ => h) (Stb.of_same s4) t).1)⟩, by simp, fun a ha => ?_, fun a h => h.elim, fun a _ h => h⟩
  have ha : a = l := by simpa using ha
  subst ha
  exact ⟨s.free hn, by rw [upd_same]; rfl⟩
theorem rep_newT {t : Ty} {R : Reg} {l : Addr} {vs : List V} {d : List (den t)} (m : Em) (hf : t.frz = true) (s : Same H H1) (hn : H1 l = none) (h : F2 (rS K H1 R t).1 vs d) : Same H (upd H1 l (.tup vs)) ∧ Rep K E L H (upd H1 l (.tup vs)) m (.vtup t) (.ref l) d := by
  have s4 : Same H1 (upd H1 l (.tup vs)) := same_new hn
  exact ⟨s.trans s4, Rep.frz (t := .vtup t) hf m (R := R) ⟨l, vs, rfl, upd_same, h.imp (rS_mono (Cov.of_same s4 fun _ h _ => h) (Stb.of_same s4) t).1⟩⟩
abbrev rLen (K : PySem.W.Frag) : List V → Hp → VK → Prop := fun xs H Q => ∃ x n, xs = [x] ∧ LenV K x H n ∧ Q (.int n) H
abbrev rListOf (K : PySem.W.Frag) : List V → Hp → VK → Prop := fun xs H Q => ∃ p ys, xs = [.ref p] ∧ (SqL K H p ys ∨ SqT K H p ys) ∧ ∀ l, H l = none → Q (.ref l) (upd H l (.lst ys))
abbrev rTupOf (K : PySem.W.Frag) : List V → Hp → VK → Prop := fun xs H Q => ∃ p ys, xs = [.ref p] ∧ ((SqL K H p ys ∧ ∀ l, H l = none → Q (.ref l) (upd H l (.tup ys))) ∨ (SqT K H p ys ∧ Q (.ref p) H))
theorem rp_listV {t : Ty} {m : Em} {te : TE} {F : Gam ts → Option (List (den t))} (h : RP K ms ts te m (.vtup t) F) (hf : t.frz = true := by rfl) : RP K ms ts (tCB (rListOf K) (tCons te tNil)) .o (.list t) F := fun E L Γ σ H xt Q d o e q => by
  refine h E L Γ σ H xt _ d o e fun v H1 s1 r1 => ?_
  obtain ⟨p, vs, rfl, h1, h2⟩ := r1.b
  refine ⟨p, vs, rfl, .inr (.of h1), fun l hn => ?_⟩
  obtain ⟨s, r⟩ := rep_newL (E := E) (L := L) hf s1 hn h2
  exact q _ _ s r
theorem rp_tupL {t : Ty} {m m' : Em} {te : TE} {F : Gam ts → Option (List (den t))} (h : RP K ms ts te m' (.list t) F) (hf : t.frz = true := by rfl) : RP K ms ts (tCB (rTupOf K) (tCons te tNil)) m (.vtup t) F := fun E L Γ σ H xt Q d o e q => by
  refine h E L Γ σ H xt _ d o e fun v H1 s1 r1 => ?_
  obtain ⟨p, vs, rfl, h1, h2⟩ := r1.b
  refine ⟨p, vs, rfl, .inl ⟨h1.seq, fun l hn => ?_⟩⟩
  obtain ⟨s, r⟩ := rep_newT (E := E) (L := L) m hf s1 hn h2
  exact q _ _ s r
theorem rp_tupV {t : Ty} {m m' : Em} {te : TE} {F : Gam ts → Option (List (den t))} (h : RP K ms ts te m' (.vtup t) F) (hf : t.frz = true := by rfl) : RP K ms ts (tCB (rTupOf K) (tCons te tNil)) m (.vtup t) F := fun E L Γ σ H xt Q d o e q => by
  refine h E L Γ σ H xt _ d o e fun v H1 s1 r1 => ?_
  obtain ⟨p, vs, rfl, h1, h2⟩ := id r1.b
  exact ⟨p, vs, rfl, .inr ⟨.of h1, q _ _ s1 (Rep.frz (t := .vtup t) hf m r1.b)⟩⟩
end
end VV
namespace VV
open PySem L2
open PyProof.Rows hiding St
section
variable {K : KW} {E : Ent} {ms : List Md} {ts : List Ty} {L L1 : Reg} {Γ Γ1 : Gam ts} {σ σ1 : St} {H H' H0 H1 H2 : Hp} {xt : List Addr} {rm : Rm} {ρ : Ty}
abbrev Kid (K : KW) (H : Hp) (L : Reg) (t : Ty) : V → den t → List Addr → Prop := kid t.isOwn (rS K H L t).1 (rO K H L t).1
theorem set_same {α : Type} {σ : List α} {n : Nat} {x : α} (h : σ[n]? = some x) : σ.set n x = σ := by
  refine List.ext_getElem? fun k => ?_
  by_cases hn : k = n
  · subst hn
    rw [List.getElem?_set_self (List.getElem?_eq_some_iff.mp h).1]
    exact h.symm
  · rw [List.getElem?_set_ne (Ne.symm hn)]
theorem Own.lst {t : Ty} (i : Mem ts (.list t)) {xs : List (den t)} (o : Own K E L ms ts Γ σ H []) {mo : Md} (hm : ms[i.ix]? = some mo) (ho : mo.own = true) (hx : i.get Γ = some xs) :
    ∃ a vs g, σ[i.ix]? = some (some (.ref a)) ∧ H a = some (.lst vs) ∧ F3 (Kid K H L t) vs xs g ∧ (a :: g).Nodup ∧ (∀ b ∈ a :: g, Good E L H b) ∧
    ∀ (H1 : Hp) (fd : List Addr) (Lr : Reg) (vs' : List V) (ds' : List (den t)) (g' : List Addr), Same H H1 → Nw H H1 (· ∈ fd) → Nw H H1 Lr → (∀ b ∈ fd, ¬ Lr b) → F3 (Kid K H1 (fun b => L b ∨ Lr b) t) vs' ds' g' → g'.Nodup → (∀ b ∈ g', b ∈ g ∨ b ∈ fd) →
      Own K E (fun b => L b ∨ Lr b) ms ts (i.set (some ds') Γ) σ (upd H1 a (.lst vs')) [] ∧ Ev ms ts L Γ σ H (fun b => L b ∨ Lr b) (i.set (some ds') Γ) σ (upd H1 a (.lst vs')) := by
  obtain ⟨s0, f0, q1, q2, q3, q4, q5⟩ := o.focus i hm
  rw [hx] at q2
  obtain ⟨v, rfl, q2⟩ := q2
  obtain ⟨a, vs, g, rfl, rfl, hl, hk⟩ := (repM_own ho).mp q2
  have hnd := List.nodup_cons.mp q3
  have ga := (q4 a List.mem_cons_self).1
  have gg : ∀ b ∈ g, Good E L H b := fun b hb => (q4 b (List.mem_cons_of_mem _ hb)).1
  refine ⟨a, vs, g, q1, hl, hk, q3, fun b hb => (q4 b hb).1, fun H1 fd Lr vs' ds' g' s1 h3 h4 h5 k0 n0 m0 => ?_⟩
  have hl1 := s1 _ _ hl
  have na : ∀ b ∈ fd, b ≠ a := fun b hb z => by
    subst z
    have := (h3 b hb).1
    rw [hl] at this
    cases this
  have st : Stb H (upd H1 a (.lst vs')) := (Stb.of_same s1).trans (Stb.upd hl1 rfl)
  have oth : ∀ b, (H b).isSome = true → b ≠ a → upd H1 a (.lst vs') b = H b := fun b hb hne => by rw [upd_ne hne]; exact same_at s1 hb
  have cov1 : Cov H1 (upd H1 a (.lst vs')) (fun b => L b ∨ Lr b) (fun b => L b ∨ Lr b) := fun b q hb x => by
    refine ⟨hb, ?_⟩
    have hne : b ≠ a := fun z => by
      subst z
      rcases hb with hb | hb
      · exact ga.nl hb
      · have := (h4 b hb).1
        rw [hl] at this
        cases this
    rw [upd_ne hne]
    exact x
  have ga' : ∀ b ∈ g', b ≠ a := fun b hb z => by
    rcases m0 b hb with q | q
    · exact hnd.1 (z ▸ q)
    · exact na b q z
  have k1 : F3 (Kid K (upd H1 a (.lst vs')) (fun b => L b ∨ Lr b) t) vs' ds' g' :=
    k0.imp fun v d g2 hg x => kid_mono ((rS_mono cov1 (Stb.upd hl1 rfl) t).1 v d) ((rO_mono cov1 (Stb.upd hl1 rfl) t).1 v d g2 fun b hb => upd_ne (ga' b (hg b hb))) x
  have up : ∀ b, (H1 b).isSome = true → (upd H1 a (.lst vs') b).isSome = true := fun b hb => by
    by_cases z : b = a
    · rw [z, upd_same]; rfl
    · rw [upd_ne z]; exact hb
  have upH : ∀ b, (H b).isSome = true → (upd H1 a (.lst vs') b).isSome = true := fun b hb => up b (by rw [same_at s1 hb]; exact hb)
  have o' := q5 (upd H1 a (.lst vs')) (fun b => L b ∨ Lr b) (some ds') (some (.ref a)) (a :: g') [] (fun b hb hnf _ => oth b hb fun z => hnf (z ▸ List.mem_cons_self)) st (fun _ h => .inl h)
    (fun b hb => hb.elim .inl fun z => .inr (.inr (.inr (h4 b z).1))) upH
    (fun b hb => hb.elim (fun z => ⟨(o.lr b z).1, upH b (o.lr b z).2⟩) fun z => ⟨.inl (o.fresh (h4 b z).1).1, up b (h4 b z).2⟩)
    ⟨.ref a, rfl, (repM_own ho).mpr ⟨a, vs', g', rfl, rfl, upd_same, k1⟩⟩
    (by
      rw [List.append_nil]
      exact List.nodup_cons.mpr ⟨fun z => ga' a z rfl, n0⟩)
    (fun b hb => by
      have hb : b ∈ a :: g' := by simpa using hb
      rcases List.mem_cons.mp hb with rfl | hb
      · refine ⟨.inl List.mem_cons_self, fun z => z.elim ga.nl fun z => ?_, by rw [upd_same]; rfl⟩
        have := (h4 b z).1
        rw [hl] at this
        cases this
      · rcases m0 b hb with hb | hb
        · refine ⟨.inl (List.mem_cons_of_mem _ hb), fun z => z.elim (gg b hb).nl fun z => ?_, upH b (gg b hb).at_⟩
          have := (gg b hb).at_
          rw [(h4 b z).1] at this
          cases this
        · exact ⟨.inr (.inr (h3 b hb).1), fun z => z.elim (o.fresh (h3 b hb).1).2.1 (h5 b hb), up b (h3 b hb).2⟩)
  rw [set_same q1] at o'
  refine ⟨o', fun _ h => .inl h, fun b q hb x => ?_, st, keepF_set0 i hm (own_hard ho) _⟩
  rw [oth b (o.lr b hb).2 fun z => ga.nl (z ▸ hb)]
  exact x
theorem F2.set {α β : Type} {P : α → β → Prop} {v : α} {d : β} (q : P v d) : ∀ {vs : List α} {ds : List β} (j : Nat), F2 P vs ds → F2 P (vs.set j v) (ds.set j d)
  | [], [], _, h => h
  | _ :: _, _ :: _, 0, h => ⟨q, h.2⟩
  | _ :: _, _ :: _, j + 1, h => ⟨h.1, F2.set q j h.2⟩
  | [], _ :: _, _, h => h.elim
  | _ :: _, [], _, h => h.elim
def sLput {ρ : Type} {ts : List Ty} {t : Ty} (i : Mem ts (.list t)) (F : Gam ts → Option (den t)) (G : Gam ts → Option Int) : Gam ts → Option (Fl (Gam ts) ρ) := fun Γ => (i.get Γ).bind fun xs => (F Γ).bind fun d => (G Γ).bind fun k => (ixN xs.length k).bind fun j => some (.nx (i.set (some (xs.set j d)) Γ))
def sLst {ρ : Type} {ts : List Ty} {t : Ty} (i : Mem ts (.list t)) (g : List (den t) → List (den t)) : Gam ts → Option (Fl (Gam ts) ρ) := fun Γ => (i.get Γ).bind fun xs => some (.nx (i.set (some (g xs)) Γ))
def sExt {ρ : Type} {ts : List Ty} {t : Ty} (i : Mem ts (.list t)) (F : Gam ts → Option (List (den t))) : Gam ts → Option (Fl (Gam ts) ρ) := fun Γ => (i.get Γ).bind fun xs => (F Γ).bind fun d => if lenOk (xs.length + d.length) = true then some (.nx (i.set (some (xs ++ d)) Γ)) else none
def ePop {ts : List Ty} {t : Ty} (i : Mem ts (.list t)) : Gam ts → Option (den t × Gam ts) := fun Γ => (i.get Γ).bind fun xs => xs.getLast?.bind fun d => some (d, i.set (some xs.dropLast) Γ)
def sAsgE {G ρ α : Type} (F : G → Option (α × G)) (B : α → G → G) : G → Option (Fl G ρ) := fun Γ => (F Γ).bind fun d => some (.nx (B d.1 d.2))
def fSigns (x : Str) : Option (List Str) := some (x.cps.toList.map fun c => (⟨#[c]⟩ : Str))
theorem ri_str {w : Bool} {m : Em} {te : TE} {F : Gam ts → Option Str} (h : RP K ms ts te m .str F) : RI K ms ts (iStr te) w .str (e1 fSigns F) := fun E L Γ σ H xt R ds o e q => by
  obtain ⟨x, e1, e2⟩ := bind_some e
  cases e2
  refine h E L Γ σ H xt _ x o e1 fun v H1 s1 r1 => ?_
  obtain ⟨rfl, hok⟩ := r1.b
  refine ⟨x, rfl, q _ H1 (fun _ => False) (fun _ => True) s1 (fun a h => h.elim) ⟨fun _ _ _ _ h => h, fun i H _ hi => ?_, fun H _ => ?_, fun i H v H' hlt _ hy => ?_⟩ True.intro⟩
  · show i < x.cps.size
    simpa using hi
  · show x.cps.size ≤ _
    simp
  · obtain ⟨rfl, c, hc, rfl⟩ := hy
    refine ⟨Same.refl _, ⟨#[c]⟩, ?_, rfl, ?_⟩
    · rw [List.getElem?_map, Array.getElem?_toList, hc]
      rfl
    · unfold PyData.strOk at hok ⊢
      rw [Array.all_eq_true'] at hok
      simpa using hok c (Array.mem_of_getElem? hc)
end
end VV
namespace VV
open PySem L2
open PyProof.Rows hiding St
section
variable {K : KW} {E : Ent} {ms ms' : List Md} {ts : List Ty} {L L1 : Reg} {Γ Γ1 : Gam ts} {σ σ1 : St} {H H' H0 H1 H2 : Hp} {xt : List Addr} {rm : Rm} {ρ : Ty}
def okKeep : List Md → List Md → Bool
  | [], [] => true
  | m :: ms, m' :: ms' => (m == m' || (m == .o && m' == .k)) && okKeep ms ms'
  | _, _ => false
theorem keep_get : ∀ {ms ms' : List Md} {n : Nat} {m : Md}, okKeep ms ms' = true → ms[n]? = some m → m.fixd = true → ms'[n]? = some m
  | m :: ms, m' :: ms', 0, x, hk, h, hh => by
    simp only [okKeep, Bool.and_eq_true, Bool.or_eq_true, beq_iff_eq] at hk
    have e : m = x := by simpa using h
    subst e
    rcases hk.1 with h | ⟨h, h'⟩
    · rw [h]; rfl
    · subst h
      cases hh
  | m :: ms, m' :: ms', n + 1, x, hk, h, hh => by
    simp only [okKeep, Bool.and_eq_true] at hk
    simpa using keep_get (n := n) hk.2 (by simpa using h) hh
  | [], _, _, _, _, h, _ => by simp at h
  | _ :: _, [], _, _, hk, _, _ => by simp [okKeep] at hk
theorem Ev.keeps {L' : Reg} {Γ' : Gam ts} {σ' : St} (hk : okKeep ms ms' = true) (e : Ev ms' ts L Γ σ H L' Γ' σ' H') : Ev ms ts L Γ σ H L' Γ' σ' H' := ⟨e.sub, e.cell, e.stb, fun t i m h hh => e.keep.1 t i m (keep_get hk h (hard_fixd hh)) hh, fun n m h hh => e.keep.2 n m (keep_get hk h hh) hh⟩
structure IterG (K : KW) (E : Ent) (ms : List Md) (ts : List Ty) (L : Reg) (Γ : Gam ts) (σ : St) (H1 : Hp) (R : Reg) (t : Ty) (J : It) (ds : List (den t)) (Z : Hp → Prop) : Prop where
  keep : ∀ L2 Γ2 σ2 H2, Own K E L2 ms ts Γ2 σ2 H2 [] → Ev ms ts L Γ σ H1 L2 Γ2 σ2 H2 → Z H1 → Z H2
  go : ∀ i H, Z H → i < ds.length → J.go i H
  stop : ∀ H, Z H → J.stop ds.length H
  yld : ∀ i H x H', i < ds.length → Z H → J.yld i H x H' → Same H H' ∧ ∃ d, ds[i]? = some d ∧ (rS K H' R t).1 x d
theorem Own.nw {Lr : Reg} (o : Own K E L ms ts Γ σ H []) (s : Same H H1) (n : Nw H H1 Lr) : Own K E (fun a => L a ∨ Lr a) ms ts Γ σ H1 [] := o.temp s List.nodup_nil (fun a ha => by simp at ha) n fun a ha => by simp at ha
end
end VV
namespace VV
open PySem L2
open PyProof.Rows hiding St
section
variable {K : KW} {E : Ent} {ms ms' : List Md} {ts : List Ty} {L L1 : Reg} {Γ Γ1 : Gam ts} {σ σ1 : St} {H H' H0 H1 H2 : Hp} {xt : List Addr} {rm : Rm} {ρ : Ty}
def sNever {G ρ : Type} : G → Option (Fl G ρ) := fun _ => none
theorem pg_tupK {X : Cx} (K : PySem.W.Frag) (hK : X.K = K) {es : List Expr} {k : Nat} {pos : Pos} {t : TGs} {n : Nat} (hc : X.calm = true) (h : PGs X es t)
    (hn : (assignEach es X.env).length = n := by rfl) (hst : (assignEach es X.env).findIdx? (·.1) = none := by rfl) : PG X (.Tuple es k pos) (gTup K n t) := by
  subst hK
  exact pg_tup hc h hn hst
theorem pi_listK {X : Cx} (K : PySem.W.Frag) (hK : X.K = K) {tg l : Expr} {tl : TE} (hl : PE X l tl) : PI X tg l (iList K tl) := by
  subst hK
  exact pi_list hl
theorem pi_tupK {X : Cx} (K : PySem.W.Frag) (hK : X.K = K) {tg l : Expr} {tl : TE} (hl : PE X l tl) : PI X tg l (iTup K tl) := by
  subst hK
  exact pi_tup hl
abbrev fShr (a b : Int) : Option Int := okIf (decide (0 ≤ b)) (a / 2 ^ b.toNat)
abbrev fAnd (a b : Int) : Option Int := some (Builtin.bitAnd a b)
def eChain {G α β γ : Type} (f : α → β → Option Bool) (g : β → γ → Option Bool) (Fa : G → Option α) (Fb : G → Option β) (Fc : G → Option γ) : G → Option Bool := fun Γ => (Fa Γ).bind fun a => (Fb Γ).bind fun b => (f a b).bind fun k => if k = true then (Fc Γ).bind fun c => g b c else some false
def fCutS (x : Str) (lo hi : Option Int) : Option Str := okIf (lenOk x.length) (cutS x lo hi)
theorem rp_sliceS {m m' : Em} {te : TE} {tl th : TO} {F : Gam ts → Option Str} {Fl Fh : Gam ts → Option (Option Int)} (h : RP K ms ts te m .str F) (hl : RO K ms ts tl Fl) (hh : RO K ms ts th Fh) :
    RP K ms ts (tSl rSlS te tl th) m' .str (e3 fCutS F Fl Fh) := fun E L Γ σ H xt Q d o e q => by
  obtain ⟨a, ea, e⟩ := bind_some e
  obtain ⟨lo, el, e⟩ := bind_some e
  obtain ⟨hi, eh, e⟩ := bind_some e
  dsimp only [fCutS, okIf] at e
  split at e
  · rename_i hz
    cases e
    refine h E L Γ σ H xt _ a o ea fun v H1 s1 r1 => ?_
    refine hl E L Γ σ H1 xt _ lo (o.same s1) el fun H2 s2 => ?_
    refine hh E L Γ σ H2 xt _ hi ((o.same s1).same s2) eh fun H3 s3 => ?_
    obtain ⟨rfl, hok⟩ := r1.b
    refine ⟨a, rfl, of_decide_eq_true hz, q _ _ (s1.trans (s2.trans s3)) (rep_atom rfl ⟨rfl, ?_⟩)⟩
    unfold PyData.strOk at hok ⊢
    unfold cutS
    rw [Array.all_eq_true'] at hok ⊢
    intro x hx
    refine hok x ?_
    have hx : x ∈ ((a.cps.toList.drop (HT.sIx a.length 0 lo)).take (HT.sIx a.length a.length hi - HT.sIx a.length 0 lo)) := by simpa using hx
    simpa using List.mem_of_mem_drop (List.mem_of_mem_take hx)
  · cases e
def getBy {α β κ : Type} [DecidableEq κ] (key : α → Option κ) (d : List (α × β)) (x : α) : Option β := (d.find? fun q => decide (key q.1 = key x)).map (·.2)
def putBy {α β κ : Type} [DecidableEq κ] (key : α → Option κ) (d : List (α × β)) (x : α) (y : β) : List (α × β) := if (d.any fun q => decide (key q.1 = key x)) = true then d.map (fun q => if key q.1 = key x then (q.1, y) else q) else d ++ [(x, y)]
def okRow : Ty → Bool
  | .last a => a == .int || a == .str
  | .cons a b => (a == .int || a == .str) && okRow b
  | _ => false
def okKey : Ty → Bool
  | .int => true
  | .str => true
  | .tup b => okRow b
  | .vtup t => t == .int || t == .str
  | _ => false
def fGetK {k : Ty} {β : Type} (d : List (den k × β)) (x : den k) : Option β := if k.tk = true then getBy (keyT k) d x else getBy (keyS k) d x
def nonN : Ty → Bool
  | .non => false
  | .opt _ => false
  | .any => false
  | .exn => false
  | .alt _ _ => false
  | .own t => nonN t
  | _ => true
theorem nonN_of {R : Reg} : ∀ {t : Ty}, nonN t = true → ∀ {v : V} {d : den t}, (rS K H R t).1 v d → v ≠ .non
  | .bool, _, v, d, r => by cases r; simp
  | .int, _, v, d, r => by cases r; simp
  | .str, _, v, d, r => by obtain ⟨rfl, _⟩ := r; simp
  | .vtup _, _, v, d, r => by obtain ⟨_, _, rfl, _⟩ := r; simp
  | .list _, _, v, d, r => by obtain ⟨_, _, rfl, _⟩ := r; simp
  | .dict _ _, _, v, d, r => by obtain ⟨_, rfl, _⟩ := r; simp
  | .own t, h, v, d, r => nonN_of (t := t) h r
  | .hl _, _, v, d, r => by obtain ⟨_, _, rfl, _⟩ := r; simp
  | .ins _ _ _, _, v, d, r => by obtain ⟨_, rfl⟩ := r; simp
  | .tup _, _, v, d, r => by obtain ⟨_, _, rfl, _⟩ := r; simp
  | .last _, _, v, d, r => r.elim
  | .cons _ _, _, v, d, r => r.elim
  | .non, h, _, _, _ => by cases h
  | .opt _, h, _, _, _ => by cases h
  | .any, h, _, _, _ => by cases h
  | .alt _ _, h, _, _, _ => by cases h
  | .exn, h, _, _, _ => by cases h
end
end VV
namespace VV
open PySem L2
open PyProof.Rows hiding St
section
variable {K : KW} {E : Ent} {ms ms' : List Md} {ts : List Ty} {L L1 : Reg} {Γ Γ1 : Gam ts} {σ σ1 : St} {H H' H0 H1 H2 : Hp} {xt : List Addr} {rm : Rm} {ρ : Ty}
def fPutK {k : Ty} {β : Type} (d : List (den k × β)) (x : den k) (y : β) : List (den k × β) := if k.tk = true then putBy (keyT k) d x y else putBy (keyS k) d x y
def sPut {ρ : Type} {ts : List Ty} {k t : Ty} (i : Mem ts (.dict k t)) (F : Gam ts → Option (den t)) (G : Gam ts → Option (den k)) : Gam ts → Option (Fl (Gam ts) ρ) := fun Γ => (i.get Γ).bind fun d => (F Γ).bind fun y => (G Γ).bind fun x => if d.length < sizeLine then some (.nx (i.set (some (fPutK d x y)) Γ)) else none
def sPutN {ρ : Type} {ts : List Ty} {k t : Ty} (i : Mem ts (.dict k t)) (F : Gam ts → Option (den t)) (G : Gam ts → Option (den k)) : Gam ts → Option (Fl (Gam ts) ρ) := fun Γ => (i.get Γ).bind fun d => (F Γ).bind fun y => (G Γ).bind fun x => if d.length < sizeLine ∧ (fGetK d x).isSome = false then some (.nx (i.set (some (d ++ [(x, y)])) Γ)) else none
end
end VV
namespace VV
open PySem L2
open PyProof.Rows hiding St
section
variable {K : KW} {E : Ent} {ms ms' : List Md} {ts : List Ty} {L L1 : Reg} {Γ Γ1 : Gam ts} {σ σ1 : St} {H H' H0 H1 H2 : Hp} {xt : List Addr} {rm : Rm} {ρ : Ty}
def updBy {α β κ : Type} [DecidableEq κ] (key : α → Option κ) : List (α × β) → α → β → List (α × β)
  | [], _, _ => []
  | q :: d, x, z => if key q.1 = key x then (q.1, z) :: d else q :: updBy key d x z
def fUpdK {k : Ty} {β : Type} (d : List (den k × β)) (x : den k) (y : β) : List (den k × β) := if k.tk = true then updBy (keyT k) d x y else updBy (keyS k) d x y
def sDApp {ρ : Type} {ts : List Ty} {k u : Ty} (i : Mem ts (.dict k (.own (.list u)))) (G : Gam ts → Option (den k)) (F : Gam ts → Option (den u)) : Gam ts → Option (Fl (Gam ts) ρ) := fun Γ => (i.get Γ).bind fun d => (G Γ).bind fun x => (fGetK (β := List (den u)) d x).bind fun xs => (F Γ).bind fun y => if xs.length < sizeLine then some (.nx (i.set (some (fUpdK (β := List (den u)) d x (xs ++ [y]))) Γ)) else none
end
end VV
namespace VV
open PySem L2
open PyProof.Rows hiding St
section
variable {K : KW} {E : Ent} {ms ms' : List Md} {ts : List Ty} {L L1 : Reg} {Γ Γ1 : Gam ts} {σ σ1 : St} {H H' H0 H1 H2 : Hp} {xt : List Addr} {rm : Rm} {ρ : Ty}
theorem f2_strs {R : Reg} : ∀ {vs : List V} {ds : List Str}, F2 (rS K H R .str).1 vs ds → vs = ds.map V.str
  | [], [], _ => rfl
  | v :: vs, d :: ds, h => by
    have h1 : v = .str d := h.1.1
    rw [h1, f2_strs h.2]
    rfl
  | [], _ :: _, h => h.elim
  | _ :: _, [], h => h.elim
theorem strs_f2 {R : Reg} : ∀ {ds : List Str}, ds.all PyData.strOk = true → F2 (rS K H R .str).1 (ds.map V.str) ds
  | [], _ => True.intro
  | d :: ds, h => by
    rw [List.all_cons, Bool.and_eq_true] at h
    exact ⟨⟨rfl, h.1⟩, strs_f2 h.2⟩
def fJoin (a : Str) (ys : List Str) : Option Str := okIf (decide ((ys.map (·.length)).sum + ys.length * a.length ≤ 16777216) && PyData.strOk (Txt.join a ys)) (Txt.join a ys)
abbrev rJoin (K : PySem.W.Frag) : V → List V → Hp → VK → Prop := fun x xs H Q => ∃ a p, ∃ ys : List Str, x = .str a ∧ xs = [.ref p] ∧ (SqL K H p (ys.map V.str) ∨ SqT K H p (ys.map V.str)) ∧ (ys.map (·.length)).sum + ys.length * a.length ≤ 16777216 ∧ Q (.str (Txt.join a ys)) H
theorem rp_join {m m1 m2 : Em} {to te : TE} {F : Gam ts → Option Str} {G : Gam ts → Option (List Str)} (h : RP K ms ts to m1 .str F) (h' : RP K ms ts te m2 (.list .str) G) : RP K ms ts (tM1 (rJoin K) to te) m .str (e2 fJoin F G) := fun E L Γ σ H xt Q d o e q => by
  obtain ⟨a, ea, e⟩ := bind_some e
  obtain ⟨ys, ey, e⟩ := bind_some e
  dsimp only [fJoin, okIf] at e
  split at e
  · rename_i hz
    cases e
    rw [Bool.and_eq_true] at hz
    refine h E L Γ σ H xt _ a o ea fun v H1 s1 r1 => ?_
    cases (show v = .str a from r1.b.1)
    refine ⟨⟨a, rfl⟩, h' E L Γ σ H1 xt _ ys (o.same s1) ey fun w H2 s2 r2 => ?_⟩
    obtain ⟨p, vs, rfl, h1, h2⟩ := r2.b
    have := f2_strs h2
    subst this
    exact ⟨a, p, ys, rfl, rfl, .inl h1.seq, of_decide_eq_true hz.1, q _ H2 (s1.trans s2) (rep_atom rfl ⟨rfl, hz.2⟩)⟩
  · cases e
theorem pe_joinK {X : Cx} (K : PySem.W.Frag) (hK : X.K = K) {o e : Expr} {to te : TE} {apos pos : Pos} (ho : PE X o to) (he : PE X e te) (hs : starEach [e] X.env = [(false, eval e X.env)] := by rfl) (hbase : attributeBase o "join" X.env (eval o X.env) = eval o X.env := by rfl) (hline : (apos.endLine == pos.line) = true := by rfl) :
    PE X (.Call (.Attribute o "join" apos) [e] [] pos) (tM1 (rJoin K) to te) := by
  subst hK
  exact pe_join ho he hs hbase hline
def fSplit (a b : Str) : Option (List Str) := okIf ((b.length != 0) && (decide (a.length + 2 ≤ sizeLine) && (Txt.split a b).all PyData.strOk)) (Txt.split a b)
abbrev rSplit : V → List V → Hp → VK → Prop := fun x xs H Q => ∃ a b, x = .str a ∧ xs = [.str b] ∧ (b.length == 0) = false ∧ a.length + 2 ≤ sizeLine ∧ rNewStrs (Txt.split a b) H Q
theorem rp_split {m1 m2 : Em} {to te : TE} {F G : Gam ts → Option Str} (h : RP K ms ts to m1 .str F) (h' : RP K ms ts te m2 .str G) : RP K ms ts (tM1 rSplit to te) .o (.list .str) (e2 fSplit F G) := fun E L Γ σ H xt Q d o e q => by
  obtain ⟨a, ea, e⟩ := bind_some e
  obtain ⟨b, eb, e⟩ := bind_some e
  dsimp only [fSplit, okIf] at e
  split at e
  · rename_i hz
    cases e
    rw [Bool.and_eq_true, Bool.and_eq_true] at hz
    refine h E L Γ σ H xt _ a o ea fun v H1 s1 r1 => ?_
    cases (show v = .str a from r1.b.1)
    refine ⟨⟨a, rfl⟩, h' E L Γ σ H1 xt _ b (o.same s1) eb fun w H2 s2 r2 => ?_⟩
    cases (show w = .str b from r2.b.1)
    refine ⟨a, b, rfl, rfl, by simpa using hz.1, of_decide_eq_true hz.2.1, fun p hp => ?_⟩
    obtain ⟨s, r⟩ := rep_newL (K := K) (E := E) (L := L) (t := .str) (R := fun _ => True) rfl (s1.trans s2) hp (strs_f2 hz.2.2)
    exact q _ _ s r
  · cases e
def fPartition (a b : Str) : Option (Str × Str × Str) := okIf ((b.length != 0) && (decide (a.length ≤ sizeLine) && (PyData.strOk (Txt.partition a b).1 && (PyData.strOk (Txt.partition a b).2.1 && PyData.strOk (Txt.partition a b).2.2)))) ((Txt.partition a b).1, (Txt.partition a b).2.1, (Txt.partition a b).2.2)
abbrev rPartition : V → List V → Hp → VK → Prop := fun x xs H Q => ∃ a b, x = .str a ∧ xs = [.str b] ∧ (b.length == 0) = false ∧ a.length ≤ sizeLine ∧
      ∀ p, H p = none → Q (.ref p) (upd H p (.tup [.str (Txt.partition a b).1, .str (Txt.partition a b).2.1, .str (Txt.partition a b).2.2]))
theorem rp_partition {m m1 m2 : Em} {to te : TE} {F G : Gam ts → Option Str} (h : RP K ms ts to m1 .str F) (h' : RP K ms ts te m2 .str G) : RP K ms ts (tM1 rPartition to te) m (.tup (.cons .str (.cons .str (.last .str)))) (e2 fPartition F G) := fun E L Γ σ H xt Q d o e q => by
  obtain ⟨a, ea, e⟩ := bind_some e
  obtain ⟨b, eb, e⟩ := bind_some e
  dsimp only [fPartition, okIf] at e
  split at e
  · rename_i hz
    cases e
    simp only [Bool.and_eq_true] at hz
    refine h E L Γ σ H xt _ a o ea fun v H1 s1 r1 => ?_
    cases (show v = .str a from r1.b.1)
    refine ⟨⟨a, rfl⟩, h' E L Γ σ H1 xt _ b (o.same s1) eb fun w H2 s2 r2 => ?_⟩
    cases (show w = .str b from r2.b.1)
    refine ⟨a, b, rfl, rfl, by simpa using hz.1, of_decide_eq_true hz.2.1, fun p hp => ?_⟩
    refine q _ _ ((s1.trans s2).trans (same_new hp)) (Rep.frz (R := fun _ => True) rfl m ⟨p, _, rfl, upd_same, _, _, rfl, ⟨rfl, hz.2.2.1⟩, _, _, rfl, ⟨rfl, hz.2.2.2.1⟩, _, rfl, rfl, hz.2.2.2.2⟩)
  · cases e
def fIntS (a : Str) : Option Int := if a.length ≤ 640 then PySem.intText? a else none
theorem rp_intS {m m' : Em} {te : TE} {F : Gam ts → Option Str} (h : RP K ms ts te m' .str F) : RP K ms ts (tCB (fun xs H Q => ∃ a n, xs = [.str a] ∧ PySem.intText? a = some n ∧ a.length ≤ 640 ∧ Q (.int n) H) (tCons te tNil)) m .int (e1 fIntS F) := fun E L Γ σ H xt Q d o e q => by
  obtain ⟨a, ea, e⟩ := bind_some e
  unfold fIntS at e
  split at e
  · rename_i hz
    refine h E L Γ σ H xt _ a o ea fun v H1 s1 r1 => ?_
    cases (show v = .str a from r1.b.1)
    exact ⟨a, d, rfl, e, hz, q _ H1 s1 (rep_atom rfl rfl)⟩
  · cases e
end
end VV
namespace L2
open PySem PySem.Spec PyProof.Rows
section
variable {X : Cx}
def rAllD (K : PySem.W.Frag) : List V → Hp → VK → Prop := fun xs H Q => ∃ (a : Addr) (ds : List PyData), xs = [.ref a] ∧ Dp K H (.ref a) (.list ds) ∧ PyData.plainAll ds = true ∧ (∀ x ∈ ds, x.fits63) ∧ Q (.bl (ds.all PyData.truthy)) H
theorem call_allD (hc : X.calm = true) : CallR X (.builtin "all") (rAllD X.K) := by
  intro pins s σ H xs us Q I r h
  obtain ⟨a, ds, rfl, hl, hp, hf, q⟩ := h
  cases r with
  | cons r rt =>
    cases rt
    cases r
    cases hl with
    | lst hs ha =>
      obtain ⟨its, rv, pl, hz⟩ := I.list hs
      obtain ⟨as, h4⟩ := Dp.readsAll I ds _ its ha rv
      exact PySem.W.all_list_data (I.ok.hd hc) pl.isList h4 hp hf fun h' tk hk => ⟨.bl _, H, I.kept (t' := tk) hk, rfl, q⟩
end
end L2
namespace VV
open PySem L2
open PyProof.Rows hiding St
section
variable {K : KW} {E : Ent} {ms ms' : List Md} {ts : List Ty} {L L1 : Reg} {Γ Γ1 : Gam ts} {σ σ1 : St} {H H' H0 H1 H2 : Hp} {xt : List Addr} {rm : Rm} {ρ : Ty}
theorem bools_ok (ds : List Bool) : PyData.plainAll (ds.map (emb .bool).1) = true ∧ (∀ x ∈ ds.map (emb .bool).1, x.fits63) ∧ (ds.map (emb .bool).1).all PyData.truthy = ds.all id ∧ (ds.map (emb .bool).1).any PyData.truthy = ds.any id := by
  refine ⟨?_, fun x hx => ?_, by rw [List.all_map]; rfl, by rw [List.any_map]; rfl⟩
  · induction ds with
    | nil => rfl
    | cons d ds ih =>
      rw [List.map_cons, PyData.plainAll, ih]
      rfl
  · obtain ⟨b, _, rfl⟩ := List.mem_map.mp hx
    exact True.intro
abbrev fAll (d : List Bool) : Option Bool := some (d.all id)
abbrev fAny (d : List Bool) : Option Bool := some (d.any id)
theorem rp_all {m m' : Em} {te : TE} {F : Gam ts → Option (List Bool)} (h : RP K ms ts te m' (.list .bool) F) : RP K ms ts (tCB (rAllD K) (tCons te tNil)) m .bool (e1 fAll F) := fun E L Γ σ H xt Q d o e q => by
  obtain ⟨a, ea, e⟩ := bind_some e
  cases e
  refine h E L Γ σ H xt _ a o ea fun v H1 s1 r1 => ?_
  have hd := (rS_dp (.list .bool) rfl).1 v a r1.b
  obtain ⟨p, vs, rfl, _⟩ := r1.b
  obtain ⟨k1, k2, k3, _⟩ := bools_ok a
  exact ⟨p, _, rfl, hd, k1, k2, by rw [k3]; exact q _ H1 s1 (rep_atom rfl rfl)⟩
end
end VV
namespace VV
open PySem L2
open PyProof.Rows hiding St
section
variable {K : KW} {E : Ent} {ms ms' : List Md} {ts : List Ty} {L L1 : Reg} {Γ Γ1 : Gam ts} {σ σ1 : St} {H H' H0 H1 H2 : Hp} {xt : List Addr} {rm : Rm} {ρ : Ty}
abbrev fSum (d : List Int) : Option Int := some d.sum
end
end VV
namespace VV
open PySem L2
open PyProof.Rows hiding St
section
variable {K : KW} {E : Ent} {ms ms' : List Md} {ts : List Ty} {L L1 : Reg} {Γ Γ1 : Gam ts} {σ σ1 : St} {H H' H0 H1 H2 : Hp} {xt : List Addr} {rm : Rm} {ρ : Ty}
end
end VV
namespace VV
open PySem L2
open PyProof.Rows hiding St
section
variable {K : KW} {E : Ent} {ms ms' : List Md} {ts : List Ty} {L L1 : Reg} {Γ Γ1 : Gam ts} {σ σ1 : St} {H H' H0 H1 H2 : Hp} {xt : List Addr} {rm : Rm} {ρ : Ty}
structure LockAt (H H2 : Hp) (a : Addr) : Prop where
  oth : ∀ b, b ≠ a → H2 b = H b
  strip : stripD (H2 a) = stripD (H a)
  isD : ∃ u, stripD (H a) = some u ∧ isDct u = true
theorem strip_isD {x : Option HO} {u : HO} (h : stripD x = some u) (hu : isDct u = true) : x = some u ∨ ∃ od, x = some (.frz od u) := by
  cases u with
  | dK kvs => exact strip_dK (H := fun _ => x) (a := 0) h
  | dT kvs => exact strip_dT (H := fun _ => x) (a := 0) h
  | _ => cases hu
theorem LockAt.symm {a : Addr} (l : LockAt H H2 a) : LockAt H2 H a := ⟨fun b h => (l.oth b h).symm, l.strip.symm, by rw [l.strip]; exact l.isD⟩
theorem LockAt.all {a : Addr} (l : LockAt H H2 a) (b : Addr) : stripD (H2 b) = stripD (H b) := by
  by_cases h : b = a
  · rw [h]; exact l.strip
  · rw [l.oth b h]
theorem LockAt.some {a : Addr} (l : LockAt H H2 a) (b : Addr) : (H2 b).isSome = (H b).isSome := by
  by_cases h : b = a
  · subst h
    obtain ⟨u, hu, _⟩ := l.isD
    have h1 := strip_some hu
    rw [← l.strip] at hu
    rw [h1, strip_some hu]
  · rw [l.oth b h]
theorem LockAt.cov {a : Addr} (l : LockAt H H2 a) (R : Reg) : Cov H H2 R R := fun b o h e => ⟨h, by rw [l.all]; exact e⟩
theorem LockAt.covU {a : Addr} (l : LockAt H H2 a) {R R' : Reg} (hR : ∀ b, R b → R' b) : Cov H H2 R R' := fun b o h e => ⟨hR b h, by rw [l.all]; exact e⟩
theorem LockAt.ne {a b : Addr} {o : HO} (l : LockAt H H2 a) (h : H b = Option.some o) (hn : ∀ u, isDct u = true → o ≠ u ∧ ∀ od, o ≠ .frz od u) : b ≠ a := fun z => by
  subst z
  obtain ⟨u, hu, hd⟩ := l.isD
  rcases strip_isD hu hd with q | ⟨od, q⟩
  · rw [h] at q; exact (hn u hd).1 (Option.some.inj q)
  · rw [h] at q; exact (hn u hd).2 od (Option.some.inj q)
theorem LockAt.stb {a : Addr} (l : LockAt H H2 a) : Stb H H2 := by
  refine ⟨fun b xs h => ?_, fun b o xs h => ?_, fun b o xs h => ?_, fun b φ h => ?_⟩ <;>
  · rw [l.oth b (l.ne h fun u hu => ⟨fun z => (by cases u <;> first | (cases z; done) | (cases hu; done)), fun od z => (by cases u <;> first | (cases z; done) | (cases hu; done))⟩)]
    exact h
def Ent.lock (E : Ent) (H2 : Hp) (a : Addr) : Ent := ⟨fun b => if b = a ∧ (E.H0 a).isSome = true then H2 a else E.H0 b, E.S0, E.io⟩
theorem lock_out {a b : Addr} (h : b ≠ a) : (E.lock H2 a).H0 b = E.H0 b := if_neg fun z => h z.1
theorem lock_none {a b : Addr} (h : E.H0 b = none) : (E.lock H2 a).H0 b = none := by
  show (if _ then _ else _) = none
  rw [if_neg]
  · exact h
  · rintro ⟨rfl, z⟩
    rw [h] at z
    cases z
theorem lock_in {a : Addr} (h : (E.H0 a).isSome = true) : (E.lock H2 a).H0 a = H2 a := if_pos ⟨rfl, h⟩
theorem Own.lock {a : Addr} (l : LockAt H H2 a) (hs : ∀ b, E.H0 b = none ∨ b = a ∨ True) (o : Own K E L ms ts Γ σ H xt) (hreg : E.S0 a ∨ L a) : Own K (E.lock H2 a) L ms ts Γ σ H2 xt := by
  obtain ⟨fp, g, nd, gd⟩ := id o.ex
  have na : ∀ b ∈ fp ++ xt, b ≠ a := fun b hb z => by
    subst z
    exact hreg.elim (gd b hb).ns (gd b hb).nl
  refine ⟨⟨fp, rG_mono (l.cov _) (l.cov _) l.stb (fun b hb => l.oth b (na b (List.mem_append_left _ hb))) g, nd, fun b hb => ?_⟩, fun b q h1 h2 => ?_, fun b h => ?_, fun b h => ?_, fun b h => by rw [l.some]; exact o.iod b h⟩
  · have ga := gd b hb
    exact ⟨ga.new.elim (fun z => .inl (lock_none z)) .inr, ga.nl, ga.ns, by rw [l.some]; exact ga.at_⟩
  · by_cases hb : b = a
    · subst hb
      by_cases hx : (E.H0 b).isSome = true
      · rw [lock_in hx] at h1
        exact h1
      · have hn : E.H0 b = none := by simpa using hx
        rw [lock_none hn] at h1
        cases h1
    · rw [lock_out hb] at h1
      rw [l.oth b hb]
      exact o.fr b q h1 h2
  · obtain ⟨h1, h2⟩ := o.lr b h
    exact ⟨h1.elim (fun z => .inl (lock_none z)) .inr, by rw [l.some]; exact h2⟩
  · obtain ⟨h1, h2⟩ := o.s0 b h
    refine ⟨?_, h2⟩
    by_cases hb : b = a
    · subst hb
      rw [lock_in h1, l.some]
      obtain ⟨q, hq⟩ := isSome_some h1
      rw [o.fr b q hq h2]
      rfl
    · rw [lock_out hb]
      exact h1
end
end VV
namespace VV
open PySem L2
open PyProof.Rows hiding St
section
variable {K : KW} {E : Ent} {ms ms' : List Md} {ts : List Ty} {L L1 : Reg} {Γ Γ1 : Gam ts} {σ σ1 : St} {H H' H0 H1 H2 : Hp} {xt : List Addr} {rm : Rm} {ρ : Ty}
structure DW (K : KW) (k t u : Ty) (f : List (den k × den t) → Option (List (den u))) (J : Addr → Obj → HO → It) : Prop where
  ok : okKey k = true
  len : ∀ d ds, f d = some ds → ds.length = d.length
  go : ∀ i H a od v, H a = some (.frz od v) → i < lenOf v → (J a od v).go i H
  stop : ∀ H a od v, H a = some (.frz od v) → (J a od v).stop (lenOf v) H
  yld : ∀ (R : Reg) H a od v d ds i x H', H a = some (.frz od v) → (rS K H R (.dict k t)).1 (.ref a) d → f d = some ds → (J a od v).yld i H x H' → Same H H' ∧ ∃ e, ds[i]? = some e ∧ (rS K H' R u).1 x e
theorem RRep.lock {a : Addr} {H3 H4 : Hp} (l : LockAt H3 H4 a) {v : V} {d : den ρ} {E' : Ent} (hE : E'.S0 = E.S0) (hx : ∀ b ∈ xt, b ≠ a) (hpl : rm.plain = true) (r : RRep K E' L H3 rm ρ v d xt) : RRep K E L H4 rm ρ v d xt := by
  cases rm with
  | o => exact (rO_mono (l.cov _) l.stb ρ).1 v d xt (fun b hb => l.oth b (hx b hb)) r
  | l => exact ⟨r.1, (rS_mono (l.cov _) l.stb ρ).1 v d r.2⟩
  | w => exact ⟨r.1, (rS_mono (l.covU fun b h => by rw [← hE]; exact h) l.stb ρ).1 v d r.2⟩
  | x W m => cases hpl
theorem Rep.lock {a : Addr} {H3 H4 : Hp} {m : Em} {t : Ty} {v : V} {d : den t} {E' : Ent} (l0 : LockAt H H0 a) (l : LockAt H3 H4 a) (hE : E'.S0 = E.S0) (ra : E.S0 a ∨ L a) (hH : (H a).isSome = true) (r : Rep K E' L H0 H3 m t v d) : Rep K E L H H4 m t v d := by
  have nw : ∀ {R : Reg}, Nw H0 H3 R → Nw H H4 R := fun {R} n b hb => by
    obtain ⟨n1, n2⟩ := n b hb
    refine ⟨?_, by rw [l.some]; exact n2⟩
    have := l0.some b
    rw [n1] at this
    cases hq : H b with
    | none => rfl
    | some y => rw [hq] at this; cases this
  cases m with
  | o =>
    obtain ⟨f, Lr, h1, h2, h3, h4, h5⟩ := r
    refine ⟨f, Lr, (rO_mono (l.cov _) l.stb t).1 v d f (fun b hb => l.oth b fun z => ?_) h1, h2, nw h3, nw h4, h5⟩
    subst z
    have := (nw h3 b hb).1
    rw [this] at hH
    cases hH
  | l =>
    obtain ⟨Lr, h1, h2⟩ := r
    exact ⟨Lr, (rS_mono (l.cov _) l.stb t).1 v d h1, nw h2⟩
  | w =>
    obtain ⟨Lr, h1, h2⟩ := r
    exact ⟨Lr, (rS_mono (l.covU fun b h => by rw [← hE]; exact h) l.stb t).1 v d h1, nw h2⟩
  | b => exact (rS_mono (l.cov _) l.stb t).1 v d r
end
end VV
namespace VV
open PySem L2
open PyProof.Rows hiding St
open PySem.W (dataLe AllAlike Sortable)
section
variable {K : KW} {E : Ent} {ms ms' : List Md} {ts : List Ty} {L L1 : Reg} {Γ Γ1 : Gam ts} {σ σ1 : St} {H H' H0 H1 H2 : Hp} {xt : List Addr} {rm : Rm} {ρ : Ty}
inductive RDrop : Ty → Nat → Ty → Type where
  | z {b : Ty} : RDrop b 0 b
  | s {a b c : Ty} {n : Nat} : RDrop b n c → RDrop (.cons a b) (n + 1) c
def RDrop.get : {b c : Ty} → {n : Nat} → RDrop b n c → den b → den c
  | _, _, _, .z, d => d
  | _, _, _, .s r, d => r.get d.2
inductive Hom : Ty → Ty → Type where
  | one {t : Ty} : Hom (.last t) t
  | more {t b : Ty} : Hom b t → Hom (.cons t b) t
def Hom.lst : {b t : Ty} → Hom b t → den b → List (den t)
  | _, _, .one, d => [d]
  | _, _, .more h, d => d.1 :: h.lst d.2
def fOne {α β : Type} (k : α) (v : β) : Option (List (α × β)) := some [(k, v)]
end
end VV
namespace VV
open PySem L2
open PyProof.Rows hiding St
section
variable {K : KW} {E : Ent} {ms ms' : List Md} {ts : List Ty} {L L1 : Reg} {Γ Γ1 : Gam ts} {σ σ1 : St} {H H' H0 H1 H2 : Hp} {xt : List Addr} {rm : Rm} {ρ : Ty}
def DAt {k : Ty} (H : Hp) (a : Addr) (x : den k) (v : V) : Prop := (k.tk = false ∧ ∃ kvs kk, H a = some (.dK kvs) ∧ keyS k x = some kk ∧ valV kvs kk = some v) ∨ (k.tk = true ∧ ∃ kvs kk, H a = some (.dT kvs) ∧ keyT k x = some kk ∧ valV kvs kk = some v)
def alEnd {ts : List Ty} {k t : Ty} {τ : Type} (i : Mem ts (.dict k (.own t))) (j : Mem ts t) (x : den k) (d : List (den k × den t)) (f : Gam ts → τ) (Γ : Gam ts) : Option τ := (j.get Γ).bind fun y => some (f (i.set (some (fUpdK (β := den t) d x y)) (j.set none Γ)))
def sAls {ρ : Type} {ts : List Ty} {k t : Ty} (i : Mem ts (.dict k (.own t))) (j : Mem ts t) (G : Gam ts → Option (den k × List (den k × den t))) (body : Gam ts → Option (Fl (Gam ts) ρ)) : Gam ts → Option (Fl (Gam ts) ρ) := fun Γ => (G Γ).bind fun q => (fGetK (β := den t) q.2 q.1).bind fun y => (body (j.set (some y) (i.set none Γ))).bind fun r => match r with
  | .nx Γ' => alEnd i j q.1 q.2 Fl.nx Γ'
  | .bk Γ' => alEnd i j q.1 q.2 Fl.bk Γ'
  | .ct Γ' => alEnd i j q.1 q.2 Fl.ct Γ'
  | .rt r Γ' => alEnd i j q.1 q.2 (Fl.rt r) Γ'
end
end VV
namespace VV
open PySem L2
open PyProof.Rows hiding St
section
variable {K : KW} {E : Ent} {ms ms' : List Md} {ts : List Ty} {L L1 : Reg} {Γ Γ1 : Gam ts} {σ σ1 : St} {H H' H0 H1 H2 : Hp} {xt : List Addr} {rm : Rm} {ρ : Ty}
def gGet {ts : List Ty} {k t : Ty} (i : Mem ts (.dict k (.own t))) (F : Gam ts → Option (den k)) : Gam ts → Option (den k × List (den k × den t)) := fun Γ => (F Γ).bind fun x => (i.get Γ).bind fun d => if (fGetK (β := den t) d x).isSome = true then some (x, d) else none
def gSetd {ts : List Ty} {k t : Ty} (i : Mem ts (.dict k (.own t))) (F : Gam ts → Option (den k)) (D : Gam ts → Option (den t)) : Gam ts → Option (den k × List (den k × den t)) := fun Γ => (i.get Γ).bind fun d => (F Γ).bind fun x => (D Γ).bind fun y => if d.length < sizeLine then some (x, if (fGetK (β := den t) d x).isSome = true then d else d ++ [(x, y)]) else none
end
end VV
namespace VV
open PySem L2
open PyProof.Rows hiding St
section
variable {K : KW} {E : Ent} {ms ms' : List Md} {ts : List Ty} {L L1 : Reg} {Γ Γ1 : Gam ts} {σ σ1 : St} {H H' H0 H1 H2 : Hp} {xt : List Addr} {rm : Rm} {ρ : Ty}
def endIO {ts : List Ty} {tio : Ty} {ρ : Type} (i : Mem ts tio) (fall : Option ρ) : Option (Fl (Gam ts) ρ) → Option (ρ × den tio)
  | some (.rt r Γ) => (i.get Γ).map fun x => (r, x)
  | some (.nx Γ) => fall.bind fun r => (i.get Γ).map fun x => (r, x)
  | _ => none
def eIO {ts : List Ty} {b tio : Ty} {ρ : Type} (i : Mem ts tio) (m : den b → Option (ρ × den tio)) (F : Gam ts → Option (den b)) : Gam ts → Option (ρ × Gam ts) := fun Γ => (F Γ).bind fun d => (m d).bind fun res => some (res.1, i.set (some res.2) Γ)
def sIfE {G ρ : Type} (c : G → Option (Bool × G)) (F F' : G → Option (Fl G ρ)) : G → Option (Fl G ρ) := fun Γ => (c Γ).bind fun b => if b.1 = true then F b.2 else F' b.2
end
end VV
namespace VV
open PySem L2
open PyProof.Rows hiding St
section
variable {K : KW} {E : Ent} {ms ms' : List Md} {ts : List Ty} {L L1 : Reg} {Γ Γ1 : Gam ts} {σ σ1 : St} {H H' H0 H1 H2 : Hp} {xt : List Addr} {rm : Rm} {ρ : Ty}
def eMove {ts : List Ty} {t : Ty} (i : Mem ts t) : Gam ts → Option (den t × Gam ts) := fun Γ => (i.get Γ).bind fun d => some (d, i.set none Γ)
theorem re_move {t : Ty} (i : Mem ts t) {n : Nat} (hm : ms[i.ix]? = some .o := by rfl) (hn : i.ix = n := by rfl) : RE K ms ts (tVar n) .o t (eMove i) := fun E L Γ σ H Q d Γ' o e q => by
  subst hn
  obtain ⟨d', e1, e2⟩ := bind_some e
  cases e2
  obtain ⟨v, f, h1, h2, h3⟩ := o.take i hm e1
  exact ⟨v, h1, q v L H f h3 ⟨fun _ h => h, fun _ _ _ h => h, Stb.refl H, keepF_set0 i hm rfl none⟩ h2⟩
theorem nonN_own {L : Reg} : ∀ {t : Ty}, nonN t = true → ∀ {v : V} {d : den t} {f : List Addr}, (rO K H L t).1 v d f → v ≠ .non
  | .bool, _, v, d, f, r => by rw [r.2]; simp
  | .int, _, v, d, f, r => by rw [r.2]; simp
  | .str, _, v, d, f, r => by rw [r.2.1]; simp
  | .vtup _, _, v, d, f, r => by obtain ⟨_, _, rfl, _⟩ := r; simp
  | .list _, _, v, d, f, r => by obtain ⟨_, _, _, rfl, _⟩ := r; simp
  | .dict _ _, _, v, d, f, r => by obtain ⟨_, _, rfl, _⟩ := r; simp
  | .own t, h, v, d, f, r => nonN_own (t := t) h r
  | .hl _, _, v, d, f, r => by obtain ⟨_, _, _, rfl, _⟩ := r; simp
  | .ins _ _ _, _, v, d, f, r => by rcases r with ⟨_, _, _, rfl, _⟩ | ⟨_, _, _, _, _, _, rfl, _⟩ <;> simp
  | .tup _, _, v, d, f, r => by obtain ⟨_, _, rfl, _⟩ := r; simp
  | .last _, _, v, d, f, r => r.elim
  | .cons _ _, _, v, d, f, r => r.elim
  | .non, h, _, _, _, _ => by cases h
  | .opt _, h, _, _, _, _ => by cases h
  | .any, h, _, _, _, _ => by cases h
  | .alt _ _, h, _, _, _, _ => by cases h
  | .exn, h, _, _, _, _ => by cases h
def eSomeE {G α : Type} (F : G → Option (α × G)) : G → Option (Option α × G) := fun Γ => (F Γ).bind fun p => some (some p.1, p.2)
theorem re_some {te : TE} {t : Ty} {F : Gam ts → Option (den t × Gam ts)} (h : RE K ms ts te .o t F) (hn : nonN t = true := by rfl) : RE K ms ts te .o (.opt t) (eSomeE F) := fun E L Γ σ H Q d Γ' o e q => by
  obtain ⟨⟨d', Γ1⟩, e1, e2⟩ := bind_some e
  cases e2
  exact h E L Γ σ H Q d' Γ1 o e1 fun v L' H' xt o' ev r => q v L' H' xt o' ev ⟨nonN_own hn r, .inl r⟩
def sRetE {G ρ : Type} (F : G → Option (ρ × G)) : G → Option (Fl G ρ) := fun Γ => (F Γ).bind fun p => some (.rt p.1 p.2)
theorem rs_retE {te : TE} {F : Gam ts → Option (den ρ × Gam ts)} (h : RE K ms ts te .o ρ F) : RS K ms ts (tRet te) .o ρ (sRetE F) := fun E L Γ σ H D f o e p => by
  obtain ⟨⟨d, Γ1⟩, e1, e2⟩ := bind_some e
  cases e2
  exact h E L Γ σ H _ d Γ1 o e1 fun v L' H' xt o' ev r => p L' σ H' v xt o' ev r
theorem rp_unopt {te : TE} {t : Ty} {m : Em} {F : Gam ts → Option (Option (den t))} (h : RP K ms ts te m (.opt t) F) : RP K ms ts te .b t (e1 (fun o => o) F) := fun E L Γ σ H xt Q d o e q => by
  obtain ⟨a, ea, e⟩ := bind_some e
  cases e
  refine h E L Γ σ H xt _ _ o ea fun v H1 s1 r1 => q v H1 s1 ?_
  exact r1.b.2
theorem rp_unoptL {te : TE} {t : Ty} {F : Gam ts → Option (Option (den t))} (h : RP K ms ts te .l (.opt t) F) : RP K ms ts te .l t (e1 (fun o => o) F) := fun E L Γ σ H xt Q d o e q => by
  obtain ⟨a, ea, e⟩ := bind_some e
  cases e
  refine h E L Γ σ H xt _ _ o ea fun v H1 s1 r1 => q v H1 s1 ?_
  obtain ⟨Lr, h1, h2⟩ := r1
  exact ⟨Lr, h1.2, h2⟩
end
end VV
namespace VV
open PySem L2
open PyProof.Rows hiding St
section
variable {K : KW} {E : Ent} {ms ms' : List Md} {ts : List Ty} {L L1 : Reg} {Γ Γ1 : Gam ts} {σ σ1 : St} {H H' H0 H1 H2 : Hp} {xt : List Addr} {rm : Rm} {ρ : Ty}
def eChain3 {G α β γ δ : Type} (f : α → β → Option Bool) (g : β → γ → Option Bool) (h : γ → δ → Option Bool) (Fa : G → Option α) (Fb : G → Option β) (Fc : G → Option γ) (Fd : G → Option δ) : G → Option Bool := fun Γ => (Fa Γ).bind fun a => (Fb Γ).bind fun b => (f a b).bind fun k => if k = true then (Fc Γ).bind fun c => (g b c).bind fun k2 => if k2 = true then (Fd Γ).bind fun d => h c d else some false else some false
end
end VV
namespace VV
open PySem L2
open PyProof.Rows hiding St
section
variable {K : KW} {E : Ent} {ms ms' : List Md} {ts : List Ty} {L L1 : Reg} {Γ Γ1 : Gam ts} {σ σ1 : St} {H H' H0 H1 H2 : Hp} {xt : List Addr} {rm : Rm} {ρ : Ty}
end
end VV
namespace VV
open PySem L2
open PyProof.Rows hiding St
section
variable {K : KW} {E : Ent} {ms ms' : List Md} {ts : List Ty} {L L1 : Reg} {Γ Γ1 : Gam ts} {σ σ1 : St} {H H' H0 H1 H2 : Hp} {xt : List Addr} {rm : Rm} {ρ : Ty}
inductive AllAny : Ty → Nat → Prop
  | one : AllAny (.last .any) 1
  | more {b : Ty} {n : Nat} : AllAny b n → AllAny (.cons .any b) (n + 1)
end
section
variable {K : KW} {rm : Rm} {ρ : Ty}
end
end VV
namespace VV
open PySem L2
open PyProof.Rows hiding St
section
variable {K : KW} {E : Ent} {ms ms' : List Md} {ts : List Ty} {L L1 : Reg} {Γ Γ1 : Gam ts} {σ σ1 : St} {H H' H0 H1 H2 : Hp} {xt : List Addr} {rm : Rm} {ρ : Ty}
def sAppE {ρ : Type} {ts : List Ty} {t : Ty} (i : Mem ts (.list t)) (F : Gam ts → Option (den t × Gam ts)) : Gam ts → Option (Fl (Gam ts) ρ) := fun Γ => (i.get Γ).bind fun _ => (F Γ).bind fun p => (i.get p.2).bind fun xs => if xs.length < sizeLine then some (.nx (i.set (some (xs ++ [p.1])) p.2)) else none
end
end VV
namespace VV
open PySem L2
open PyProof.Rows hiding St
section
variable {K : KW} {E : Ent} {ms ms' : List Md} {ts : List Ty} {L L1 : Reg} {Γ Γ1 : Gam ts} {σ σ1 : St} {H H' H0 H1 H2 : Hp} {xt : List Addr} {rm : Rm} {ρ : Ty}
def ePure {G α : Type} (F : G → Option α) : G → Option (α × G) := fun Γ => (F Γ).bind fun d => some (d, Γ)
def eConsE {G α β : Type} (F : G → Option (α × G)) (F' : G → Option (β × G)) : G → Option ((α × β) × G) := fun Γ => (F Γ).bind fun p => (F' p.2).bind fun q => some ((p.1, q.1), q.2)
end
end VV
namespace VV
open PySem L2
open PyProof.Rows hiding St
section
variable {K : KW} {E : Ent} {ms ms' : List Md} {ts : List Ty} {L L1 : Reg} {Γ Γ1 : Gam ts} {σ σ1 : St} {H H' H0 H1 H2 : Hp} {xt : List Addr}
end
end VV
namespace VV
open PySem L2
open PyProof.Rows hiding St
section
variable {K : KW} {E : Ent} {ms ms' : List Md} {ts : List Ty} {L L1 : Reg} {Γ Γ1 : Gam ts} {σ σ1 : St} {H H' H0 H1 H2 : Hp} {xt : List Addr} {rm : Rm} {ρ : Ty}
def Held (K : KW) (E : Ent) (ms : List Md) (ts : List Ty) (L : Reg) (Γ : Gam ts) (σ : St) (H : Hp) (f : List Addr) (P : Hp → Prop) : Prop :=
  ∀ (L2 : Reg) (Γ2 : Gam ts) (H2 : Hp) (x2 : List Addr), Own K E L2 ms ts Γ2 σ H2 x2 → Ev ms ts L Γ σ H L2 Γ2 σ H2 → (∀ a ∈ f, H2 a = H a) → P H2
theorem Ev.rfl' : Ev ms ts L Γ σ H L Γ σ H := Ev.same (Same.refl H)
theorem Held.now {f : List Addr} {P : Hp → Prop} (h : Held K E ms ts L Γ σ H f P) (o : Own K E L ms ts Γ σ H xt) : P H := h L Γ H xt o Ev.rfl' fun _ _ => rfl
def eX2 {G α β γ : Type} (f : α → β → Option γ) (A : G → Option (α × G)) (B : G → Option (β × G)) : G → Option (γ × G) := fun Γ => (A Γ).bind fun p => (B p.2).bind fun q => (f p.1 q.1).bind fun c => some (c, q.2)
def eX1 {G α γ : Type} (f : α → Option γ) (A : G → Option (α × G)) : G → Option (γ × G) := fun Γ => (A Γ).bind fun p => (f p.1).bind fun c => some (c, p.2)
def eXAnd {G : Type} (A B : G → Option (Bool × G)) : G → Option (Bool × G) := fun Γ => (A Γ).bind fun p => if p.1 = true then B p.2 else some (false, p.2)
def eXOr {G : Type} (A B : G → Option (Bool × G)) : G → Option (Bool × G) := fun Γ => (A Γ).bind fun p => if p.1 = true then some (true, p.2) else B p.2
def eX3 {G α β γ δ : Type} (f : α → β → γ → Option δ) (A : G → Option (α × G)) (B : G → Option (β × G)) (C : G → Option (γ × G)) : G → Option (δ × G) := fun Γ => (A Γ).bind fun p => (B p.2).bind fun q => (C q.2).bind fun r => (f p.1 q.1 r.1).bind fun c => some (c, r.2)
def eXSnoc {G α : Type} (A : G → Option (α × G)) (B : G → Option (List α × G)) : G → Option (List α × G) := eX2 (fun a b => some (a :: b)) A B
end
end VV
namespace VV
open PySem L2
open PyProof.Rows hiding St
section
variable {K : KW} {E : Ent} {ms ms' : List Md} {ts : List Ty} {L L1 : Reg} {Γ Γ1 : Gam ts} {σ σ1 : St} {H H' H0 H1 H2 : Hp} {xt : List Addr} {rm : Rm} {ρ : Ty}
def eXProj {G : Type} {b t : Ty} (r : RIx b t) (F : G → Option (den b × G)) : G → Option (den t × G) := eX1 (fun d => some (r.get d)) F
def sSetX {ρ : Type} {ts : List Ty} {t : Ty} (i : Mem ts t) (F : Gam ts → Option (den t × Gam ts)) : Gam ts → Option (Fl (Gam ts) ρ) := fun Γ => (F Γ).bind fun p => some (.nx (i.set (some p.1) p.2))
def RIx.put : {b t : Ty} → RIx b t → den b → den t → den b
  | _, _, .one, _, x => x
  | _, _, .z, d, x => (x, d.2)
  | _, _, .s r, d, x => (d.1, r.put d.2 x)
def sHput {ρ : Type} {ts : List Ty} {b t : Ty} (i : Mem ts (.hl b)) (r : RIx b t) (F : Gam ts → Option (den t × Gam ts)) : Gam ts → Option (Fl (Gam ts) ρ) := fun Γ => (F Γ).bind fun p => (i.get p.2).bind fun d => some (.nx (i.set (some (r.put d p.1)) p.2))
def ePopH {ts : List Ty} {b t : Ty} (i : Mem ts (.hl b)) (r : RIx b (.own (.list t))) : Gam ts → Option (den t × Gam ts) := fun Γ => (i.get Γ).bind fun d => (List.getLast? (r.get d : List (den t))).bind fun y => some (y, i.set (some (r.put d (List.dropLast (r.get d : List (den t))))) Γ)
end
end VV
namespace VV
open PySem L2
open PyProof.Rows hiding St
section
variable {K : KW} {E : Ent} {ms ms' : List Md} {ts : List Ty} {L L1 : Reg} {Γ Γ1 : Gam ts} {σ σ1 : St} {H H' H0 H1 H2 : Hp} {xt : List Addr} {rm : Rm} {ρ : Ty}
def eIOz {ts : List Ty} {b tio : Ty} {ρ : Type} (i : Mem ts tio) (m : den tio × den b → Option (ρ × den tio)) (G : Gam ts → Option (den b × Gam ts)) : Gam ts → Option (ρ × Gam ts) := fun Γ => (i.get Γ).bind fun _ => (G Γ).bind fun p => (i.get p.2).bind fun x => (m (x, p.1)).bind fun res => some (res.1, i.set (some res.2) p.2)
def eIO1 {ts : List Ty} {tio : Ty} {ρ : Type} (i : Mem ts tio) (m : den tio → Option (ρ × den tio)) : Gam ts → Option (ρ × Gam ts) := fun Γ => (i.get Γ).bind fun x => (m x).bind fun res => some (res.1, i.set (some res.2) Γ)
theorem rG_ext {S0 : Reg} : ∀ {ms : List Md} {ts : List Ty} {Γ : Gam ts} {σ σ' : St} {fp : List Addr} (bs : List Bool), (∀ j : Nat, bs[j]? ≠ some false → σ'[j]? = σ[j]?) → σ'.length = σ.length → rG K H S0 L ms ts (Gam.mask bs Γ) σ fp → rG K H S0 L ms ts (Gam.mask bs Γ) σ' fp
  | ms, ts, Γ, σ, σ', fp, [], h, hl, g => by
    have : σ' = σ := List.ext_getElem? fun j => h j (by simp)
    rw [this]
    exact g
  | [], [], _, σ, σ', _, _, h, hl, g => by
    have e : σ = [] := g.1
    subst e
    have : σ' = [] := List.length_eq_zero_iff.mp (by simpa using hl)
    rw [this]
    exact g
  | m :: ms, t :: ts, Γ, s :: σ, s' :: σ', fp, b :: bs, h, hl, g => by
    obtain ⟨f1, f2, rfl, h1, h2⟩ := g
    refine ⟨f1, f2, rfl, ?_, rG_ext (Γ := Γ.2) bs (fun j hj => by simpa using h (j + 1) (by simpa using hj)) (by simpa using hl) h2⟩
    cases b with
    | false => exact h1
    | true =>
      have : s' = s := by simpa using h 0 (by simp)
      rw [this]
      exact h1
  | m :: ms, t :: ts, Γ, s :: σ, [], fp, b :: bs, h, hl, g => by simp at hl
  | [], _ :: _, _, _, _, _, _ :: _, _, _, g => g.elim
  | _ :: _, [], _, _, _, _, _ :: _, _, _, g => g.elim
  | _ :: _, _ :: _, _, [], _, _, _ :: _, _, _, g => g.elim
theorem Own.ext {bs : List Bool} {σ' : St} (h : ∀ j : Nat, bs[j]? ≠ some false → σ'[j]? = σ[j]?) (hl : σ'.length = σ.length) (o : Own K E L ms ts (Gam.mask bs Γ) σ H xt) : Own K E L ms ts (Gam.mask bs Γ) σ' H xt := by
  obtain ⟨fp, g, nd, gd⟩ := o.ex
  exact ⟨⟨fp, rG_ext bs h hl g, nd, gd⟩, o.fr, o.lr, o.s0, o.iod⟩
end
end VV
namespace VV
open PySem L2
open PyProof.Rows hiding St
section
variable {K : KW} {E : Ent} {ms ms' : List Md} {ts : List Ty} {L L1 : Reg} {Γ Γ1 : Gam ts} {σ σ1 : St} {H H' H0 H1 H2 : Hp} {xt : List Addr} {rm : Rm} {ρ : Ty}
end
end VV
namespace VV
open PySem L2
open PyProof.Rows hiding St
section
variable {K : KW} {E : Ent} {ms ms' : List Md} {ts : List Ty} {L L1 : Reg} {Γ Γ1 : Gam ts} {σ σ1 : St} {H H' H0 H1 H2 : Hp} {xt : List Addr} {rm : Rm} {ρ : Ty}
end
end VV
namespace VV
open PySem L2
open PyProof.Rows hiding St
section
variable {K : KW} {E : Ent} {ms ms' : List Md} {ts : List Ty} {L L1 : Reg} {Γ Γ1 : Gam ts} {σ σ1 : St} {H H' H0 H1 H2 : Hp} {xt : List Addr} {rm : Rm} {ρ : Ty} {S0 : Reg}
def Fl.on {τ ρ : Type} (f : τ → τ) : Fl τ ρ → Fl τ ρ
  | .nx γ => .nx (f γ)
  | .bk γ => .bk (f γ)
  | .ct γ => .ct (f γ)
  | .rt r γ => .rt r (f γ)
def sPub {ρ : Type} {ts : List Ty} {t : Ty} (i : Mem ts t) (F : Gam ts → Option (Fl (Gam ts) ρ)) : Gam ts → Option (Fl (Gam ts) ρ) := fun Γ => (F Γ).bind fun f => some (f.on (i.set none))
end
end VV
namespace VV
open PySem L2
open PyProof.Rows hiding St
section
variable {K : KW} {E : Ent} {ms ms' : List Md} {ts : List Ty} {L L1 : Reg} {Γ Γ1 : Gam ts} {σ σ1 : St} {H H' H0 H1 H2 : Hp} {xt : List Addr} {rm : Rm} {ρ : Ty}
end
end VV
namespace VV
open PySem L2
open PyProof.Rows hiding St
section
variable {K : KW} {E : Ent} {ms ms' : List Md} {ts : List Ty} {L L1 : Reg} {Γ Γ1 : Gam ts} {σ σ1 : St} {H H' H0 H1 H2 : Hp} {xt : List Addr} {rm : Rm} {ρ : Ty}
def sLputX {ρ : Type} {ts : List Ty} {t : Ty} (i : Mem ts (.list t)) (F : Gam ts → Option (den t × Gam ts)) (G : Gam ts → Option (Int × Gam ts)) : Gam ts → Option (Fl (Gam ts) ρ) := fun Γ => (F Γ).bind fun p => (i.get p.2).bind fun _ => (G p.2).bind fun q => (i.get q.2).bind fun xs => (ixN xs.length q.1).bind fun j => some (.nx (i.set (some (xs.set j p.1)) q.2))
def eXNot {G : Type} (A : G → Option (Bool × G)) : G → Option (Bool × G) := fun Γ => (A Γ).bind fun p => some (!p.1, p.2)
end
end VV
namespace VV
open PySem L2
open PyProof.Rows hiding St
section
variable {K : KW} {E : Ent} {ms ms' : List Md} {ts : List Ty} {L L1 : Reg} {Γ Γ1 : Gam ts} {σ σ1 : St} {H H' H0 H1 H2 : Hp} {xt : List Addr} {rm : Rm} {ρ : Ty}
def eIfE {G α : Type} (c : G → Option Bool) (A B : G → Option (α × G)) : G → Option (α × G) := fun Γ => (c Γ).bind fun b => if b = true then A Γ else B Γ
end
end VV
namespace VV
open PySem L2
section
variable {K : KW} {ms : List Md} {ts : List Ty} {H : Hp}
end
end VV
namespace VV
open PySem L2
open PyProof.Rows hiding St
section
variable {K : KW} {E : Ent} {ms ms' : List Md} {ts : List Ty} {L L1 : Reg} {Γ Γ1 : Gam ts} {σ σ1 : St} {H H' H0 H1 H2 : Hp} {xt : List Addr} {rm : Rm} {ρ : Ty}
def sDputX {ρ : Type} {ts : List Ty} {k t : Ty} (i : Mem ts (.dict k t)) (F : Gam ts → Option (den t × Gam ts)) (G : Gam ts → Option (den k × Gam ts)) : Gam ts → Option (Fl (Gam ts) ρ) := fun Γ => (F Γ).bind fun p => (i.get p.2).bind fun _ => (G p.2).bind fun q => (i.get q.2).bind fun d => if d.length < sizeLine then some (.nx (i.set (some (fPutK d q.1 p.1)) q.2)) else none
def ePop0 {ts : List Ty} {t : Ty} (i : Mem ts (.list t)) : Gam ts → Option (den t × Gam ts) := fun Γ => (i.get Γ).bind fun xs => (List.head? xs).bind fun y => some (y, i.set (some xs.tail) Γ)
end
end VV
namespace VV
open PySem L2
open PyProof.Rows hiding St
section
variable {K : KW} {E : Ent} {ms ms' : List Md} {ts : List Ty} {L L1 : Reg} {Γ Γ1 : Gam ts} {σ σ1 : St} {H H' H0 H1 H2 : Hp} {xt : List Addr} {rm : Rm} {ρ : Ty}
end
end VV
namespace VV
open PySem L2
open PyProof.Rows hiding St
section
variable {K : KW} {E : Ent} {ms ms' : List Md} {ts : List Ty} {L L1 : Reg} {Γ Γ1 : Gam ts} {σ σ1 : St} {H H' H0 H1 H2 : Hp} {xt : List Addr} {rm : Rm} {ρ : Ty}
end
end VV
namespace L2
open PySem PySem.Spec PyProof.Rows
end L2
namespace VV
open PySem L2
open PyProof.Rows hiding St
section
variable {K : KW} {ms : List Md} {ts : List Ty} {H : Hp}
end
end VV
namespace L2
open PySem PySem.Spec PyProof.Rows
end L2
namespace VV
open PySem L2
section
variable {K : KW} {ms : List Md} {ts : List Ty} {H : Hp}
end
end VV
namespace VV
open PySem PySem.Spec L2
open PyProof.Rows hiding St
section
variable {K : KW} {E : Ent} {ms : List Md} {ts : List Ty} {L : Reg} {Γ : Gam ts} {σ : St} {H H' : Hp} {xt : List Addr} {rm : Rm} {ρ : Ty}
end
end VV
namespace VV
open PySem L2
open PyProof.Rows hiding St
section
variable {K : KW} {E : Ent} {ms ms' : List Md} {ts : List Ty} {L L1 : Reg} {Γ Γ1 : Gam ts} {σ σ1 : St} {H H' H0 H1 H2 : Hp} {xt : List Addr} {rm : Rm} {ρ : Ty}
def sAlApp {ρ : Type} {ts : List Ty} {k u : Ty} (i : Mem ts (.dict k (.own (.list u)))) (G : Gam ts → Option (den k × List (den k × List (den u)))) (F : Gam ts → Option (den u)) : Gam ts → Option (Fl (Gam ts) ρ) := fun Γ => (G Γ).bind fun q => (fGetK (β := List (den u)) q.2 q.1).bind fun xs => (F (i.set (some q.2) Γ)).bind fun y => if xs.length < sizeLine then some (.nx (i.set (some (fUpdK (β := List (den u)) q.2 q.1 (xs ++ [y]))) (i.set (some q.2) Γ))) else none
end
end VV
namespace VV
open PySem L2
open PyProof.Rows hiding St
section
variable {K : KW} {E : Ent} {ms ms' : List Md} {ts : List Ty} {L L' : Reg} {Γ Γ' : Gam ts} {σ σ' : St} {H H' : Hp} {xt : List Addr} {rm : Rm} {ρ : Ty} {S0 : Reg}
def okScope : List Md → List Md → List Bool → Bool
  | [], [], [] => true
  | m :: ms, m' :: ms', b :: bs => (if b = true then m == m' else (!m.fixd && !m'.fixd)) && okScope ms ms' bs
  | _, _, _ => false
theorem rG_scope : ∀ {ms ms' : List Md} {ts : List Ty} {bs : List Bool} {Γ : Gam ts} {σ : St} {fp : List Addr}, okScope ms ms' bs = true → rG K H S0 L ms ts (Gam.mask bs Γ) σ fp → rG K H S0 L ms' ts (Gam.mask bs Γ) σ fp
  | [], [], ts, [], Γ, σ, fp, _, h => h
  | m :: ms, m' :: ms', [], b :: bs, Γ, σ, fp, _, h => h.elim
  | m :: ms, m' :: ms', t :: ts, b :: bs, Γ, [], fp, _, h => h.elim
  | m :: ms, m' :: ms', t :: ts, b :: bs, Γ, s :: σ, fp, hk, h => by
    obtain ⟨f1, f2, rfl, h1, h2⟩ := h
    simp only [okScope, Bool.and_eq_true] at hk
    refine ⟨f1, f2, rfl, ?_, rG_scope hk.2 h2⟩
    have h1 : slot K H S0 L m t (if b = true then Γ.1 else none) s f1 := h1
    show slot K H S0 L m' t (if b = true then Γ.1 else none) s f1
    cases b with
    | true =>
      have e : m = m' := by simpa using hk.1
      rw [← e]
      exact h1
    | false => exact h1
  | [], _ :: _, _, _, _, _, _, hk, _ => by simp [okScope] at hk
  | _ :: _, [], _, _, _, _, _, hk, _ => by simp [okScope] at hk
  | _ :: _, _ :: _, _, [], _, _, _, hk, _ => by simp [okScope] at hk
  | [], [], _, _ :: _, _, _, _, hk, _ => by simp [okScope] at hk
theorem Own.scope {bs : List Bool} (hk : okScope ms ms' bs = true) (o : Own K E L ms ts (Gam.mask bs Γ) σ H xt) : Own K E L ms' ts (Gam.mask bs Γ) σ H xt := by
  obtain ⟨fp, g, nd, gd⟩ := o.ex
  exact ⟨⟨fp, rG_scope hk g, nd, gd⟩, o.fr, o.lr, o.s0, o.iod⟩
theorem scope_get : ∀ {ms ms' : List Md} {bs : List Bool} {n : Nat} {m : Md}, okScope ms ms' bs = true → ms[n]? = some m → m.fixd = true → ms'[n]? = some m
  | m :: ms, m' :: ms', b :: bs, 0, x, hk, h, hh => by
    simp only [okScope, Bool.and_eq_true] at hk
    have e : m = x := by simpa using h
    subst e
    cases b with
    | true =>
      have e2 : m = m' := by simpa using hk.1
      rw [← e2]
      rfl
    | false =>
      have h1 := hk.1
      simp only [Bool.false_eq_true, if_false, Bool.and_eq_true, Bool.not_eq_true'] at h1
      rw [hh] at h1
      cases h1.1
  | m :: ms, m' :: ms', b :: bs, n + 1, x, hk, h, hh => by
    simp only [okScope, Bool.and_eq_true] at hk
    simpa using scope_get (n := n) hk.2 (by simpa using h) hh
  | [], _, _, _, _, _, h, _ => by simp at h
  | _ :: _, [], _, _, _, hk, _, _ => by simp [okScope] at hk
  | _ :: _, _ :: _, [], _, _, hk, _, _ => by simp [okScope] at hk
def flMask {ts : List Ty} {ρ : Type} (bs : List Bool) : Fl (Gam ts) ρ → Fl (Gam ts) ρ
  | .nx Γ => .nx (Gam.mask bs Γ)
  | .bk Γ => .bk (Gam.mask bs Γ)
  | .ct Γ => .ct (Gam.mask bs Γ)
  | .rt d Γ => .rt d (Gam.mask bs Γ)
def sScope {ts : List Ty} {ρ : Type} (bs : List Bool) (F : Gam ts → Option (Fl (Gam ts) ρ)) : Gam ts → Option (Fl (Gam ts) ρ) := fun Γ => (F (Gam.mask bs Γ)).map (flMask bs)
theorem Ev.scope {bs : List Bool} (hk : okScope ms ms' bs = true) (hm : okMask ms bs = true) (e : Ev ms' ts L (Gam.mask bs Γ) σ H L' Γ' σ' H') : Ev ms ts L Γ σ H L' (Gam.mask bs Γ') σ' H' :=
  ⟨e.sub, e.cell, e.stb, fun t i m h hh => by
    rw [mask_get i ms bs Γ' hm ⟨m, h, hh⟩, e.keep.1 t i m (scope_get hk h (hard_fixd hh)) hh, mask_get i ms bs Γ hm ⟨m, h, hh⟩], fun n m h hh => e.keep.2 n m (scope_get hk h hh) hh⟩
end
end VV
namespace VV
open PySem L2
open PyProof.Rows hiding St
section
variable {K : KW} {E : Ent} {ms ms' : List Md} {ts : List Ty} {L L1 : Reg} {Γ Γ1 : Gam ts} {σ σ1 : St} {H H' H0 H1 H2 : Hp} {xt : List Addr} {rm : Rm} {ρ : Ty}
def eScope {ts : List Ty} {α : Type} (bs : List Bool) (F : Gam ts → Option α) : Gam ts → Option α := fun Γ => F (Gam.mask bs Γ)
end
end VV
namespace VV
open PySem L2
open PyProof.Rows hiding St
section
variable {K : KW} {E : Ent} {ms ms' : List Md} {ts : List Ty} {L L1 : Reg} {Γ Γ1 : Gam ts} {σ σ1 : St} {H H' H0 H1 H2 : Hp} {xt : List Addr} {rm : Rm} {ρ : Ty}
end
end VV
namespace VV
open PySem L2
open PyProof.Rows hiding St
section
variable {K : KW} {E : Ent} {ms ms' : List Md} {ts : List Ty} {L L1 : Reg} {Γ Γ1 : Gam ts} {σ σ1 : St} {H H' H0 H1 H2 : Hp} {xt : List Addr} {rm : Rm} {ρ : Ty}
def endIO2 {ts : List Ty} {t1 t2 : Ty} {ρ : Type} (i1 : Mem ts t1) (i2 : Mem ts t2) (fall : Option ρ) : Option (Fl (Gam ts) ρ) → Option (ρ × (den t1 × den t2))
  | some (.rt r Γ) => (i1.get Γ).bind fun x => (i2.get Γ).map fun y => (r, x, y)
  | some (.nx Γ) => fall.bind fun r => (i1.get Γ).bind fun x => (i2.get Γ).map fun y => (r, x, y)
  | _ => none
def eIO2 {ts : List Ty} {t1 b t2 : Ty} {ρ : Type} (i1 : Mem ts t1) (i2 : Mem ts t2) (m : den t1 × den b → Option (ρ × (den t1 × den t2))) (F : Gam ts → Option (den b)) : Gam ts → Option (ρ × Gam ts) := fun Γ => (i1.get Γ).bind fun x => (F Γ).bind fun d => (m (x, d)).bind fun res => some (res.1, i1.set (some res.2.1) (i2.set (some res.2.2) Γ))
def eIO2t {ts : List Ty} {t1 b t2 : Ty} {ρ : Type} (i1 : Mem ts t1) (m : den t1 × den b → Option (ρ × (den t1 × den t2))) (F : Gam ts → Option (den b)) : Gam ts → Option (ρ × Gam ts) := fun Γ => (i1.get Γ).bind fun x => (F Γ).bind fun d => (m (x, d)).bind fun res => some (res.1, i1.set (some res.2.1) Γ)
end
end VV
namespace VV
open PySem L2
section
variable {K : KW} {E : Ent} {ms : List Md} {ts : List Ty} {L : Reg} {H : Hp} {rm : Rm} {ρ : Ty}
end
end VV
namespace VV
open PySem L2
open PyProof.Rows hiding St
section
variable {K : KW} {ms : List Md} {ts : List Ty} {rm : Rm} {ρ : Ty}
theorem DAt.same {k : Ty} {H H' : Hp} {a : Addr} {x : den k} {v : V} (s : Same H H') (h : DAt H a x v) : DAt H' a x v := by
  rcases h with ⟨q, kvs, kk, h1, h2⟩ | ⟨q, kvs, kk, h1, h2⟩
  · exact .inl ⟨q, kvs, kk, s _ _ h1, h2⟩
  · exact .inr ⟨q, kvs, kk, s _ _ h1, h2⟩
end
end VV
namespace VV
open PySem L2
open PySem.W (dataLe)
section
variable {K : KW} {E : Ent} {ms : List Md} {ts : List Ty} {L : Reg} {H : Hp} {rm : Rm} {ρ : Ty}
end
end VV
namespace VV
open PySem L2
section
variable {K : KW} {ms : List Md} {ts : List Ty}
end
end VV
namespace VV
open PySem L2
section
variable {K : KW} {ms : List Md} {ts : List Ty}
end
end VV
namespace VV
open PySem L2
section
variable {K : KW} {ms : List Md} {ts : List Ty} {rm : Rm} {ρ : Ty}
end
end VV
namespace VV
open PySem L2
section
variable {K : KW} {ms : List Md} {ts : List Ty}
end
end VV
namespace VV
open PySem L2
open PyProof.Rows hiding St
section
variable {K : KW} {E : Ent} {ms ms' : List Md} {ts : List Ty} {L L1 : Reg} {Γ Γ1 : Gam ts} {σ σ1 : St} {H H' H0 H1 H2 : Hp} {xt : List Addr} {rm : Rm} {ρ : Ty} {S0 : Reg}
end
end VV
namespace VV
open PySem L2
open PyProof.Rows hiding St
section
variable {K : KW} {E : Ent} {ms ms' : List Md} {ts : List Ty} {L L1 : Reg} {Γ Γ1 : Gam ts} {σ σ1 : St} {H H' H0 H1 H2 : Hp} {xt : List Addr} {rm : Rm} {ρ : Ty} {S0 : Reg}
end
end VV
namespace VV
open PySem L2
open PyProof.Rows hiding St
section
variable {K : KW} {ms : List Md} {ts : List Ty} {rm : Rm} {ρ : Ty}
end
end VV
namespace VV
open PySem L2
open PyProof.Rows hiding St
section
variable {K : KW} {E : Ent} {ms ms' : List Md} {ts : List Ty} {L L1 : Reg} {Γ Γ1 : Gam ts} {σ σ1 : St} {H H' H0 H1 H2 : Hp} {xt : List Addr} {rm : Rm} {ρ : Ty} {S0 : Reg}
structure ClsI (K : PySem.W.Frag) (C C' : Addr) : Prop where
  ns : ClsN K (clsNm C) C'
  cls : Cls K C'
end
end VV
namespace VV
open PySem L2
open PyProof.Rows hiding St
section
variable {K : KW} {ms : List Md} {ts : List Ty} {H : Hp}
end
end VV
namespace VV
open PySem L2
open PyProof.Rows hiding St
section
variable {K : KW} {ms : List Md} {ts : List Ty} {H : Hp}
end
end VV
namespace VV
open PySem PySem.Spec L2
open PyProof.Rows hiding St
abbrev veMro : List Value := [.type "ValueError", .type "Exception", .type "BaseException", .type "object"]
structure ErrC (K : PySem.W.Frag) (mg : Str → Option Value) (nm : Str) (C : Addr) : Prop where
  ns : ClsN K nm C
  mg : mg nm = some (.ref C)
  kp : PySem.W.keepIn K (.ref C) = true
  ex : PySem.W.excIn K C veMro "ValueError.__new__" = true
  ty : PySem.W.typeIn K (.ref C) = some (.type "type")
  ec : ExcC K C
def SubN (K : PySem.W.Frag) (d T : Str) (b : Bool) : Prop := ∃ D C, ClsN K d D ∧ ClsN K T C ∧ PySem.W.subIn K (.ref D) (.ref C) = some b ∧ (b = true ∨ D ≠ C)
def SubB (K : PySem.W.Frag) (d : Str) (T : String) (b : Bool) : Prop := ∃ D, ClsN K d D ∧ PySem.W.subIn K (.ref D) (.type T) = some b
theorem kit_ref {K : PySem.W.Frag} {D C : Addr} {b : Bool} (hd : PySem.W.hasDictIn K C = true) (ht : PySem.W.typeIn K (.ref C) = some (.type "type")) (h : PySem.W.subIn K (.ref D) (.ref C) = some b) (hb : b = true ∨ D ≠ C) : PySem.W.kitOne K (.ref D) (.ref C) = some b := by
  obtain ⟨cd, hc, _⟩ := PySem.W.any_some hd
  have e2 : ((PySem.W.clsIn K C).isSome && PySem.W.typeIn K (.ref C) == some (.type "type")) = true := by rw [hc, ht] <;> rfl
  unfold PySem.W.kitOne
  by_cases e : (Value.ref D == Value.ref C) = true
  · rw [if_pos e]
    rcases hb with rfl | hb
    · rfl
    · exact absurd (Value.ref.inj (beq_iff_eq.mp e)) hb
  · rw [if_neg e]
    show (if ((PySem.W.clsIn K C).isSome && PySem.W.typeIn K (.ref C) == some (.type "type")) = true then PySem.W.subIn K (.ref D) (.ref C) else none) = some b
    rw [if_pos e2]
    exact h
theorem kit_none {K : PySem.W.Frag} {C : Addr} (hd : PySem.W.hasDictIn K C = true) (ht : PySem.W.typeIn K (.ref C) = some (.type "type")) (h : PySem.W.subIn K (.type "NoneType") (.ref C) = some false) : PySem.W.kitOne K (.type "NoneType") (.ref C) = some false := by
  obtain ⟨cd, hc, _⟩ := PySem.W.any_some hd
  have e2 : ((PySem.W.clsIn K C).isSome && PySem.W.typeIn K (.ref C) == some (.type "type")) = true := by rw [hc, ht] <;> rfl
  unfold PySem.W.kitOne
  have e : ¬ (Value.type "NoneType" == Value.ref C) = true := fun z => nomatch (beq_iff_eq.mp z)
  rw [if_neg e]
  show (if ((PySem.W.clsIn K C).isSome && PySem.W.typeIn K (.ref C) == some (.type "type")) = true then PySem.W.subIn K (.type "NoneType") (.ref C) else none) = some false
  rw [if_pos e2]
  exact h
theorem kit_b {K : PySem.W.Frag} {D : Addr} {T : String} {b : Bool} (hm : PySem.W.kitMeta T = true) (h : PySem.W.subIn K (.ref D) (.type T) = some b) : PySem.W.kitOne K (.ref D) (.type T) = some b := by
  unfold PySem.W.kitOne
  have e : ¬ (Value.ref D == Value.type T) = true := fun z => nomatch (beq_iff_eq.mp z)
  rw [if_neg e]
  show (if PySem.W.kitMeta T = true then PySem.W.subIn K (.ref D) (.type T) else none) = some b
  rw [if_pos hm]
  exact h
abbrev ETab := List (Str × Bool)
def ETab.at_ (t : ETab) (nm : Str) : Option Bool := List.lookup nm t
structure IsTab (K : KW) (v : V) (t : ETab) : Prop where
  ex : ∃ u, ClsV v u ∧ PySem.W.kitOne K (.type "NoneType") u = some false ∧ ∀ nm b, t.at_ nm = some b → ∀ D, ClsN K nm D → ExcC K D ∧ PySem.W.kitOne K (.ref D) u = some b
structure ExTab (K : KW) (C : Addr) (t : ETab) : Prop where
  ex : ∀ nm b, t.at_ nm = some b → ∀ D, ClsN K nm D → PySem.W.exmOne K (.ref D) (.ref C) = some b
section
variable {K : KW} {mg : Str → Option Value}
theorem etab_cons {nm d : Str} {c b : Bool} {t : ETab} (h : ETab.at_ ((nm, c) :: t) d = some b) : (d = nm ∧ b = c) ∨ ETab.at_ t d = some b := by
  unfold ETab.at_ at h ⊢
  rw [List.lookup_cons] at h
  split at h
  · rename_i e
    cases h
    exact .inl ⟨by simpa using e, rfl⟩
  · exact .inr h
theorem istab_nil {nm : Str} {C : Addr} (hC : ErrC K mg nm C) (h : PySem.W.subIn K (.type "NoneType") (.ref C) = some false) : IsTab K (.ref C) [] :=
  ⟨.ref C, .own C, kit_none hC.ec.hd hC.ty h, fun nm b h => by cases h⟩
theorem istab_cons {nT : Str} {C : Addr} (hC : ErrC K mg nT C) {nm : Str} {b : Bool} {t : ETab} (r : IsTab K (.ref C) t) (hD : ∃ D, ErrC K mg nm D) (s : SubN K nm nT b) : IsTab K (.ref C) ((nm, b) :: t) := by
  obtain ⟨u, h1, h2, h3⟩ := r.ex
  have eu : u = .ref C := h1.eq rfl ▸ rfl
  subst eu
  refine ⟨.ref C, h1, h2, fun d b' h D hD' => ?_⟩
  rcases etab_cons h with ⟨rfl, rfl⟩ | h
  · obtain ⟨D1, hD1⟩ := hD
    obtain ⟨D2, C2, q1, q2, q3, q4⟩ := s
    have e1 := q1.inj hD'
    have e2 := q2.inj hC.ns
    have e3 := hD1.ns.inj hD'
    subst e1 e2 e3
    exact ⟨hD1.ec, kit_ref hC.ec.hd hC.ty q3 q4⟩
  · exact h3 d b' h D hD'
theorem istab_nilB {T : String} (hm : PySem.W.kitMeta T = true) (h : kitB "NoneType" T = some false) : IsTab K (.ty T) [] :=
  ⟨.type T, .ty T, kit_ty h, fun nm b h => by cases h⟩
theorem istab_consB {T : String} (hm : PySem.W.kitMeta T = true) {nm : Str} {b : Bool} {t : ETab} (r : IsTab K (.ty T) t) (hD : ∃ D, ErrC K mg nm D) (s : SubB K nm T b) : IsTab K (.ty T) ((nm, b) :: t) := by
  obtain ⟨u, h1, h2, h3⟩ := r.ex
  have eu : u = .type T := h1.eq rfl ▸ rfl
  subst eu
  refine ⟨.type T, h1, h2, fun d b' h D hD' => ?_⟩
  rcases etab_cons h with ⟨rfl, rfl⟩ | h
  · obtain ⟨D1, hD1⟩ := hD
    obtain ⟨D2, q1, q3⟩ := s
    have e1 := q1.inj hD'
    have e3 := hD1.ns.inj hD'
    subst e1 e3
    exact ⟨hD1.ec, kit_b hm q3⟩
  · exact h3 d b' h D hD'
theorem extab_nil {C : Addr} : ExTab K C [] := ⟨fun nm b h => by cases h⟩
theorem extab_cons {nT : Str} {C : Addr} (hC : ErrC K mg nT C) {nm : Str} {b : Bool} {t : ETab} (r : ExTab K C t) (s : SubN K nm nT b) : ExTab K C ((nm, b) :: t) := by
  refine ⟨fun d b' h D hD' => ?_⟩
  rcases etab_cons h with ⟨rfl, rfl⟩ | h
  · obtain ⟨D2, C2, q1, q2, q3, q4⟩ := s
    have e1 := q1.inj hD'
    have e2 := q2.inj hC.ns
    subst e1 e2
    exact PySem.W.exm_ref hC.ec.hs hC.ec.hd hC.ty q3
  · exact r.ex d b' h D hD'
end
def rIsE (K : PySem.W.Frag) : List V → Hp → VK → Prop := fun xs H Q => ∃ (x c : V) (u : Value) (b : Bool), xs = [x, c] ∧ ClsV c u ∧ ((x = .non ∧ PySem.W.kitOne K (.type "NoneType") u = some b) ∨ ∃ a D, x = .ref a ∧ H a = some (ExK (.ref D) a) ∧ ExcC K D ∧ PySem.W.kitOne K (.ref D) u = some b) ∧ Q (.bl b) H
theorem call_isEx {X : Cx} : CallR X (.builtin "isinstance") (rIsE X.K) := by
  intro pins s σ H xs us Q I r h
  obtain ⟨x, c, u, b, rfl, k, ha, q⟩ := h
  obtain ⟨u1, u2, rfl, r1, r2⟩ := vals2 r
  have e2 := k.eq r2
  subst e2
  rcases ha with ⟨rfl, e⟩ | ⟨a, D, rfl, ha, C, e⟩
  · cases (show u1 = Value.none from r1)
    exact PySem.W.kia_one (PySem.W.kitx_none) I.kIn True.intro e (fun z => nomatch z) fun tk => ⟨.bl b, H, I.tok tk, rfl, q⟩
  · cases (show u1 = Value.ref a from r1)
    obtain ⟨⟨oe, vs, ho, hz, hd⟩, _, _⟩ := I.hok a _ ha
    have J : PySem.W.InstAt s.heap a oe D none := by
      obtain ⟨oc, od, oda, osl⟩ := oe
      obtain ⟨h1, h2⟩ := hz
      dsimp only at h1 h2 hd
      subst h1 h2 hd
      exact ⟨ho, rfl, rfl, trivial⟩
    exact PySem.W.kia_one (PySem.W.handS_kitx_exc C.hg C.hk C.hs C.hd C.ha C.hn C.ht C.hm) I.kIn J e (fun z => nomatch z) fun tk => ⟨.bl b, H, I.tok tk, rfl, q⟩
def fIsE (t : ETab) : Option Str → Option Bool
  | none => some false
  | some nm => t.at_ nm
section
variable {K : KW} {E : Ent} {ms ms' : List Md} {ts : List Ty} {L L1 : Reg} {Γ Γ1 : Gam ts} {σ σ1 : St} {H H' H0 H1 H2 : Hp} {xt : List Addr} {rm : Rm} {ρ : Ty} {W : WX}
theorem rp_isE {m m1 : Em} {te : TE} {v : V} {t : ETab} {F : Gam ts → Option (Option Str)} (h : RP K ms ts te m1 (.opt .exn) F) (hc : IsTab K v t) : RP K ms ts (tCB (rIsE K) (tCons te (tCons (tC v) tNil))) m .bool (e1 (fIsE t) F) := fun E L Γ σ H xt Q d o e q => by
  obtain ⟨a, ea, e⟩ := bind_some e
  obtain ⟨u, h1, h2, h3⟩ := hc.ex
  refine h E L Γ σ H xt _ a o ea fun w H1 s1 r1 => ?_
  have r1 := r1.b
  cases a with
  | none =>
    cases e
    cases (show w = .non from r1)
    exact ⟨.non, v, u, false, rfl, h1, .inl ⟨rfl, h2⟩, q _ H1 s1 (rep_atom rfl rfl)⟩
  | some nm =>
    have e : t.at_ nm = some d := e
    obtain ⟨_, p, C, rfl, hp, hC⟩ := (show w ≠ .non ∧ ∃ p C, w = .ref p ∧ H1 p = some (ExK (.ref C) p) ∧ ClsN K nm C from r1)
    obtain ⟨g1, g2⟩ := h3 nm d e C hC
    exact ⟨.ref p, v, u, d, rfl, h1, .inr ⟨p, C, rfl, hp, g1, g2⟩, q _ H1 s1 (rep_atom rfl rfl)⟩
def tRaise (C : Addr) (W : WX) : TS := fun _ σ H => W (.ref C) none σ H
theorem ps_raiseN {X : Cx} {nm x : Str} {C : Addr} {j : Nat} {p p2 pos pos' : Pos} (hc : X.calm = true) (tk : Takes X W) (R : ErrC X.K X.mg nm C) (hg : Gl X nm) (hdb : (nm == ("__debug__" : Str)) = false := by decide) :
    PS X (.Raise (some (.Call (.Name nm p) [.Constant (.str x) j p2] [] pos)) none pos') (tRaise C W) :=
  ps_raise hc tk (pmk_own PySem.F.excBase_ValueError R.ex R.mg R.kp (raises_own R.ec.hs R.ty) hg hdb)
def sRaise {G ρ : Type} (nm : Str) : G → Option (Fl G (Str × Option ρ)) := fun Γ => some (.rt (nm, none) Γ)
theorem rs_raise {nm : Str} {C : Addr} (R : ClsN K nm C) : RS K ms ts (tRaise C W) (.x W rm) (excT ρ) (sRaise nm) := fun E L Γ σ H D f o e p => by
  cases e
  exact p L σ H .non [] o (Ev.same (Same.refl H)) rfl C R
def Fl.lift {G ρ : Type} : Fl G ρ → Fl G (Str × Option ρ)
  | .nx Γ => .nx Γ
  | .bk Γ => .bk Γ
  | .ct Γ => .ct Γ
  | .rt r Γ => .rt (default, some r) Γ
def sLift {G ρ : Type} (F : G → Option (Fl G ρ)) : G → Option (Fl G (Str × Option ρ)) := fun Γ => (F Γ).bind fun r => some r.lift
theorem rs_lift {st : TS} {F : Gam ts → Option (Fl (Gam ts) (den ρ))} (h : RS K ms ts st rm ρ F) (hpl : rm.plain = true := by rfl) : RS K ms ts st (.x W rm) (excT ρ) (sLift F) := fun E L Γ σ H D f o e p => by
  obtain ⟨r, e1, e2⟩ := bind_some e
  cases e2
  refine h E L Γ σ H D r o e1 ?_
  cases r with
  | nx Γ' => exact p
  | bk Γ' => exact p
  | ct Γ' => exact p
  | rt d Γ' =>
    refine fun L' σ' H' v xt o' ev rr => (RDel_plain K hpl).mpr (p L' σ' H' v xt o' ev ?_)
    cases rm with
    | o => exact rr
    | l => exact rr
    | w => exact rr
    | x W m => cases hpl
def spX (K : KW) (b : Ty) (rm : Rm) (ρ : Ty) (m : den b → Option (Str × Option (den ρ))) : Sp := fun vs H Q E => ∃ (S : Reg) (d : den b) (r : Str × Option (den ρ)), (∀ a, S a → (H a).isSome = true) ∧ (rS K H S b).2 vs d ∧ m d = some r ∧
  ∀ H', Same H H' → (match r.2 with
    | none => ∀ C, ClsN K r.1 C → E (.ref C) none H'
    | some x => ∀ v', CRep K S H H' rm ρ v' x → Q v' H')
theorem fn_okX {P : Program} {w : World} {mg : Str → Option Value} {base : Heap} {x qual : Str} {st : Stmt} {f : Addr} {fd : FuncData} {N ps : List Str} {k : Nat} {b : Ty} (ls : List Ty) (ms : List Md) {m : den b → Option (Str × Option (den ρ))} {F : Gam (rowTys b ++ ls) → Option (Fl (Gam (rowTys b ++ ls)) (Str × Option (den ρ)))}
    (Fn : Fun K x qual st f fd) (S : FnScope N ps (defScope st)) (hps : ps.length = rowLen b) (hN : N.length = rowLen b + ls.length) (hms : okMs b ls ms = true) (hm : ∀ d, m d = runG b ls F d)
    (hbody : ∀ (cdv : Value) (A : Around) (outer : List Env) (s : Shared) (H : Hp) (E : XK), Room k (A.deeper (envOfC qual (defScope st) s.heap.objs.size f cdv)) →
      ∃ t, PSs (cxOf (L2.CX P w) P w K mg base N qual (defScope st) f cdv A outer s H E) (defBody st) t ∧ RS K ms (rowTys b ++ ls) t (.x (fun cls d _ H => E cls d H) rm) (excT ρ) F) (hpl : rm.plain = true := by rfl) : FnOk P w K mg base (L2.CX P w) (k + 1) f fd ps (spX K b rm ρ m) := by
  refine Fn.okX S (fun vs H Q E h => ?_) (fun cdv A outer s H vs Q E hr h => ?_)
  · obtain ⟨S, d, r, _, h2, _⟩ := h
    rw [row_length b vs d h2, hps]
  · obtain ⟨S, d, r, h1, h2, h3, h4⟩ := h
    obtain ⟨t, ht, hrs⟩ := hbody cdv A outer s H E hr
    refine ⟨t, ht, ?_⟩
    rw [hm d] at h3
    unfold runG at h3
    have hl := row_length b vs d h2
    have es : L2.start N vs = vs.map some ++ List.replicate ls.length none := by
      unfold L2.start
      rw [hl, hN, Nat.add_sub_cancel_left]
    rw [es]
    obtain ⟨fl, e1, e2⟩ : ∃ fl, F (iniG b ls d) = some fl ∧ endOf (some fl) = some r := by
      cases e : F (iniG b ls d) with
      | none => rw [e] at h3; cases h3
      | some fl => rw [e] at h3; exact ⟨fl, rfl, h3⟩
    cases fl with
    | nx _ => cases e2
    | bk _ => cases e2
    | ct _ => cases e2
    | rt r' Γ' =>
      cases e2
      have o : Own K ⟨H, S, []⟩ (fun _ => False) ms (rowTys b ++ ls) (iniG b ls d) (vs.map some ++ List.replicate ls.length none) H [] :=
        ⟨⟨[], rG_ini b ls ms vs d hms h2, by simp, fun a ha => by simp at ha⟩, fun a o h _ => h, fun a h => h.elim, fun a h => ⟨h1 a h, by simp⟩, fun a h => by simp at h⟩
      refine hrs ⟨H, S, []⟩ _ _ _ H _ _ o e1 fun L' σ' H' v xt o' ev rr => ?_
      have s' : Same H H' := fun a q h => o'.fr a q h (by simp)
      have nwL : Nw H H' L' := fun a h => ⟨(o'.lr a h).1.elim id fun z => by simp at z, (o'.lr a h).2⟩
      have h5 := h4 H' s'
      obtain ⟨nm, rv⟩ := r
      cases rv with
      | none => exact h5
      | some y =>
        refine h5 v ?_
        cases rm with
        | o =>
          obtain ⟨fp, _, nd, gd⟩ := o'.ex
          exact ⟨xt, L', rr, (List.nodup_append.mp nd).2.1, fun a ha => ⟨(gd a (List.mem_append_right _ ha)).new.elim id fun z => by simp at z, (gd a (List.mem_append_right _ ha)).at_⟩, nwL, fun a ha => (gd a (List.mem_append_right _ ha)).nl⟩
        | l => exact ⟨L', rr.2, nwL⟩
        | w => exact ⟨L', rr.2, nwL⟩
        | x W m => cases hpl
def RPX (K : KW) (ms : List Md) (ts : List Ty) (W : WX) (te : TE) (m : Em) (t : Ty) (F : Gam ts → Option (Str × Option (den t))) : Prop :=
  ∀ (E : Ent) (L : Reg) (Γ : Gam ts) (σ : St) (H : Hp) (xt : List Addr) (Q : VK) (r : Str × Option (den t)), Own K E L ms ts Γ σ H xt → F Γ = some r →
    (∀ H', Same H H' → (match r.2 with
      | none => wN K W r.1 σ H'
      | some d => ∀ v, Rep K E L H H' m t v d → Q v H')) → te σ H Q
theorem crep_rep {S : Reg} {v : V} {d : den ρ} (hk : (rm == .o || rm == .l) = true) (s1 : Same H H1) (r2 : CRep K S H1 H2 rm ρ v d) : Rep K E L H H2 rm.em ρ v d := by
  refine Rep.older s1 ?_
  cases rm with
  | o =>
    obtain ⟨f, Lr, h1, h2, h3, h4, h5⟩ := r2
    exact ⟨f, Lr, (rO_mono (Cov.of_reg fun a h _ => .inr h) (Stb.refl _) ρ).1 v d f (fun _ _ => rfl) h1, h2, h3, h4, h5⟩
  | l =>
    obtain ⟨Lr, h1, h2⟩ := r2
    exact ⟨Lr, (rS_mono (Cov.of_reg fun a h _ => .inr h) (Stb.refl _) ρ).1 v d h1, h2⟩
  | w => exact absurd hk (by decide)
  | x W m => exact r2.elim
theorem rpx_call {b : Ty} {mA : Em} {ta : TA} {m : den b → Option (Str × Option (den ρ))} {F : Gam ts → Option (den b)} (hk : (rm == .o || rm == .l) = true) (h : RA K ms ts ta mA b F) : RPX K ms ts W (tCallS (spX K b rm ρ m) (WE W) ta) rm.em ρ (e1 m F) := fun E L Γ σ H xt Q d o e q => by
  obtain ⟨a, ea, e⟩ := bind_some e
  refine h E L Γ σ H xt _ a o ea fun vs H1 s1 r1 => ?_
  refine ⟨fun a => (H1 a).isSome = true, a, d, fun _ h => h, (rS_mono (Cov.of_reg fun _ _ h => h) (Stb.refl _) b).2 vs a r1.b, e, fun H2 s2 => ?_⟩
  have q := q H2 (s1.trans s2)
  obtain ⟨nm, rv⟩ := d
  cases rv with
  | none => exact q
  | some y => exact fun v' cr => q v' (crep_rep hk s1 cr)
def noExc {ρ : Type} : Str × Option ρ → Option ρ := fun r => r.2
theorem rpx_le {te : TE} {m m' : Em} {t : Ty} {F : Gam ts → Option (Str × Option (den t))} (h : RPX K ms ts W te m t F) (hl : m.le m' = true := by rfl) : RPX K ms ts W te m' t F := fun E L Γ σ H xt Q r o e q => by
  refine h E L Γ σ H xt Q r o e fun H1 s1 => ?_
  have q := q H1 s1
  obtain ⟨nm, rv⟩ := r
  cases rv with
  | none => exact q
  | some d => exact fun v r1 => q v (r1.le hl)
theorem rpx_frz {te : TE} {m : Em} (m' : Em) {t : Ty} {F : Gam ts → Option (Str × Option (den t))} (h : RPX K ms ts W te m t F) (hf : t.frz = true := by rfl) : RPX K ms ts W te m' t F := fun E L Γ σ H xt Q r o e q => by
  refine h E L Γ σ H xt Q r o e fun H1 s1 => ?_
  have q := q H1 s1
  obtain ⟨nm, rv⟩ := r
  cases rv with
  | none => exact q
  | some d => exact fun v r1 => q v (Rep.frz hf m' r1.b)
def eSomeR {G α : Type} (F : G → Option (Str × Option α)) : G → Option (Str × Option (Option α)) := fun Γ => (F Γ).bind fun r => some (r.1, r.2.map some)
theorem rpx_some {te : TE} {m : Em} {t : Ty} {F : Gam ts → Option (Str × Option (den t))} (h : RPX K ms ts W te m t F) (hs : nonN t = true := by rfl) : RPX K ms ts W te m (.opt t) (eSomeR F) := fun E L Γ σ H xt Q r o e q => by
  obtain ⟨⟨nm, rv⟩, e1, e2⟩ := bind_some e
  cases e2
  refine h E L Γ σ H xt Q _ o e1 fun H1 s1 => ?_
  have q := q H1 s1
  cases rv with
  | none => exact q
  | some d =>
    refine fun v r1 => q v ?_
    have ne : v ≠ .non := nonN_of hs r1.b
    cases m with
    | o =>
      obtain ⟨f, Lr, h1, h2, h3⟩ := r1
      exact ⟨f, Lr, ⟨ne, .inl h1⟩, h2, h3⟩
    | l =>
      obtain ⟨Lr, h1, h2⟩ := r1
      exact ⟨Lr, ⟨ne, h1⟩, h2⟩
    | w =>
      obtain ⟨Lr, h1, h2⟩ := r1
      exact ⟨Lr, ⟨ne, h1⟩, h2⟩
    | b => exact ⟨ne, r1⟩
def sSetR {ρ : Type} {ts : List Ty} {t : Ty} (i : Mem ts t) (F : Gam ts → Option (Str × Option (den t))) : Gam ts → Option (Fl (Gam ts) (Str × Option ρ)) := fun Γ => (F Γ).bind fun r => match r.2 with
  | none => some (.rt (r.1, none) Γ)
  | some d => some (.nx (i.set (some d) Γ))
theorem Own.exc {D : Ends} {nm : Str} (o : Own K E L ms ts Γ σ H []) (s : Same H H') (p : Post K E ms ts (.x W rm) (excT ρ) L Γ σ H D (.rt (nm, none) Γ)) : wN K W nm σ H' :=
  p L σ H' .non [] (o.same s) (Ev.same s) rfl
theorem rs_setR {t : Ty} (i : Mem ts t) {n : Nat} {m : Md} {te : TE} {F : Gam ts → Option (Str × Option (den t))} (h : RPX K ms ts W te m.em t F) (hm : ms[i.ix]? = some m := by rfl) (hk : m.fixd = false := by rfl) (hn : i.ix = n := by rfl) :
    RS K ms ts (tAsg te (gName n)) (.x W rm) (excT ρ) (sSetR i F) := fun E L Γ σ H D f o e p => by
  subst hn
  obtain ⟨⟨nm, rv⟩, e1, e2⟩ := bind_some e
  refine h E L Γ σ H [] _ _ o e1 fun H1 s1 => ?_
  cases rv with
  | none =>
    cases e2
    exact o.exc s1 p
  | some d =>
    cases e2
    intro v r1
    obtain ⟨L', o', ev⟩ := o.store i hm hk s1 r1
    exact p L' _ H1 o' ev
def sDropR {G ρ α : Type} (F : G → Option (Str × Option α)) : G → Option (Fl G (Str × Option ρ)) := fun Γ => (F Γ).bind fun r => match r.2 with
  | none => some (.rt (r.1, none) Γ)
  | some _ => some (.nx Γ)
theorem rs_retR {te : TE} {F : Gam ts → Option (Str × Option (den ρ))} (h : RPX K ms ts W te rm.em ρ F) (hpl : rm.plain = true := by rfl) : RS K ms ts (tRet te) (.x W rm) (excT ρ) (sRet F) := fun E L Γ σ H D f o e p => by
  obtain ⟨⟨nm, rv⟩, e1, e2⟩ := bind_some e
  cases e2
  refine h E L Γ σ H [] _ _ o e1 fun H1 s1 => ?_
  cases rv with
  | none => exact o.exc s1 p
  | some d =>
    intro v r1
    have ev : ∀ Lr : Reg, Ev ms ts L Γ σ H (fun a => L a ∨ Lr a) Γ σ H1 := fun Lr => ⟨fun a h => .inl h, fun a q _ h => s1 _ _ h, Stb.of_same s1, KeepF.refl⟩
    cases rm with
    | o =>
      obtain ⟨f, Lr, h1, h2, h3, h4, h5⟩ := r1
      exact p _ σ H1 v f (o.temp s1 h2 h3 h4 h5) (ev Lr) h1
    | l =>
      obtain ⟨Lr, h1, h4⟩ := r1
      exact p _ σ H1 v [] (o.temp s1 List.nodup_nil (fun a ha => by simp at ha) h4 fun a ha => by simp at ha) (ev Lr) ⟨rfl, h1⟩
    | w =>
      obtain ⟨Lr, h1, h4⟩ := r1
      exact p _ σ H1 v [] (o.temp s1 List.nodup_nil (fun a ha => by simp at ha) h4 fun a ha => by simp at ha) (ev Lr) ⟨rfl, h1⟩
    | x W m => cases hpl
def RCl (K : KW) (ms : List Md) (ts : List Ty) (rm : Rm) (ρ : Ty) (l : List Cla) (F : Str → Gam ts → Option (Fl (Gam ts) (den ρ))) : Prop :=
  ∀ (nm : Str) (C : Addr) (E : Ent) (L : Reg) (Γ : Gam ts) (σ : St) (H : Hp) (D : Ends) (f : Fl (Gam ts) (den ρ)), ClsN K nm C → Own K E L ms ts Γ σ H [] → F nm Γ = some f → Post K E ms ts rm ρ L Γ σ H D f → wKeep K (fun _ _ _ _ => False) D l (.ref C) none σ H
def cNil {G ρ : Type} : Str → G → Option (Fl G ρ) := fun _ _ => none
theorem rcl_nil : RCl K ms ts rm ρ [] cNil := fun _ _ _ _ _ _ _ _ _ _ _ e _ => by cases e
def cOne {G ρ : Type} (t : ETab) (F : G → Option (Fl G ρ)) (R : Str → G → Option (Fl G ρ)) : Str → G → Option (Fl G ρ) := fun nm Γ => match t.at_ nm with
  | some true => F Γ
  | some false => R nm Γ
  | none => none
theorem same_exk {C a : Addr} (h : H a = none) : Same H (upd H a (ExK (.ref C) a)) := same_new h
def cTup {G ρ : Type} (t : ETab) (R : Str → G → Option (Fl G ρ)) : Str → G → Option (Fl G ρ) := fun nm Γ => match t.at_ nm with
  | some false => R nm Γ
  | _ => none
structure ExTabs (K : KW) (cs : List Value) (t : ETab) : Prop where
  ex : ∀ c ∈ cs, ∃ C, c = .ref C ∧ ExTab K C t
def Fl.off {ts : List Ty} {t : Ty} {ρ : Type} (i : Mem ts t) : Fl (Gam ts) ρ → Fl (Gam ts) ρ
  | .nx Γ => .nx (i.set none Γ)
  | .bk Γ => .bk (i.set none Γ)
  | .ct Γ => .ct (i.set none Γ)
  | .rt r Γ => .rt r Γ
def cAs {ts : List Ty} {ρ : Type} (i : Mem ts .exn) (t : ETab) (F : Gam ts → Option (Fl (Gam ts) ρ)) (R : Str → Gam ts → Option (Fl (Gam ts) ρ)) : Str → Gam ts → Option (Fl (Gam ts) ρ) := fun nm Γ => match t.at_ nm with
  | some true => (F (i.set (some nm) Γ)).bind fun r => some (r.off i)
  | some false => R nm Γ
  | none => none
theorem Own.unset {t : Ty} (i : Mem ts t) {m : Md} (o : Own K E L ms ts Γ σ H []) (hm : ms[i.ix]? = some m) (hk : m.fixd = false) : Own K E L ms ts (i.set none Γ) (σ.set i.ix none) H [] ∧ Ev ms ts L Γ σ H L (i.set none Γ) (σ.set i.ix none) H := by
  obtain ⟨s0, f0, e1, e2, e3, e4, e5⟩ := o.focus i hm
  exact ⟨e5 H L none none [] [] (fun a h _ _ => rfl) (Stb.refl H) (fun a h => h) (fun a h => .inl h) (fun a h => h) (fun a h => o.lr a h) rfl (by simp) (fun a ha => by simp at ha), ⟨fun a h => h, fun a q _ h => h, Stb.refl H, keepF_set i hm hk _ _⟩⟩
theorem rcl_as (i : Mem ts .exn) {c : Addr} {n : Nat} {t : ETab} {st : TS} {l : List Cla} {F : Gam ts → Option (Fl (Gam ts) (den ρ))} {R : Str → Gam ts → Option (Fl (Gam ts) (den ρ))} (ht : ExTab K c t) (h : RS K ms ts st rm ρ F) (r : RCl K ms ts rm ρ l R)
    (hm : ms[i.ix]? = some .w := by rfl) (hn : i.ix = n := by rfl) (hpl : rm.plain = true := by rfl) : RCl K ms ts rm ρ (.mk (.ref c) (some n) st :: l) (cAs i t F R) := fun nm C E L Γ σ H D f hC o e p => by
  subst hn
  unfold cAs at e
  split at e
  · rename_i et
    obtain ⟨f0, e1, e2⟩ := bind_some e
    cases e2
    refine ⟨true, ht.ex nm _ et C hC, fun _ => ⟨rfl, fun a ha => ?_⟩, fun z => by cases z⟩
    have s1 := same_exk (C := C) ha
    obtain ⟨L', o', ev⟩ := o.store i hm rfl (v := .ref a) (d := nm) s1 (Rep.frz rfl _ (R := fun _ => True) ⟨a, C, rfl, upd_same, hC⟩)
    refine h E L' _ _ _ _ f0 o' e1 ?_
    cases f0 with
    | nx Γ' =>
      exact fun L2 σ2 H2 o2 ev2 => let ⟨o3, ev3⟩ := o2.unset i hm rfl; p L2 _ H2 o3 ((ev.trans ev2).trans ev3)
    | bk Γ' =>
      exact fun L2 σ2 H2 o2 ev2 => let ⟨o3, ev3⟩ := o2.unset i hm rfl; p L2 _ H2 o3 ((ev.trans ev2).trans ev3)
    | ct Γ' =>
      exact fun L2 σ2 H2 o2 ev2 => let ⟨o3, ev3⟩ := o2.unset i hm rfl; p L2 _ H2 o3 ((ev.trans ev2).trans ev3)
    | rt d Γ' =>
      exact fun L2 σ2 H2 v xt o2 ev2 rr => p L2 σ2 H2 v xt o2 (ev.trans ev2) rr
  · rename_i et
    exact ⟨false, ht.ex nm _ et C hC, (fun z => by cases z), fun _ => r nm C E L Γ σ H D f hC o e p⟩
  · cases e
def sTry {G ρ : Type} (F : G → Option (Fl G (Str × Option ρ))) (R : Str → G → Option (Fl G ρ)) : G → Option (Fl G ρ) := fun Γ => (F Γ).bind fun r => match r with
  | .nx Γ' => some (.nx Γ')
  | .bk Γ' => some (.bk Γ')
  | .ct Γ' => some (.ct Γ')
  | .rt r Γ' => (match r.2 with
    | none => R r.1 Γ'
    | some d => some (.rt d Γ'))
theorem rs_try {tb : WX → TS} {l : List Cla} {F : Gam ts → Option (Fl (Gam ts) (Str × Option (den ρ)))} {R : Str → Gam ts → Option (Fl (Gam ts) (den ρ))} (hb : ∀ W : WX, RS K ms ts (tb W) (.x W rm) (excT ρ) F) (hc : RCl K ms ts rm ρ l R) (hpl : rm.plain = true := by rfl) :
    RS K ms ts (fun D σ H => tb (wKeep K (fun _ _ _ _ => False) D l) D σ H) rm ρ (sTry F R) := fun E L Γ σ H D f o e p => by
  obtain ⟨r, e1, e2⟩ := bind_some e
  refine hb _ E L Γ σ H D r o e1 ?_
  cases r with
  | nx Γ' => cases e2; exact p
  | bk Γ' => cases e2; exact p
  | ct Γ' => cases e2; exact p
  | rt r Γ' =>
    obtain ⟨nm, rv⟩ := r
    cases rv with
    | some d =>
      cases e2
      refine fun L' σ' H' v xt o' ev rr => (RDel_plain K hpl).mp (p L' σ' H' v xt o' ev ?_)
      cases rm with
      | o => exact rr
      | l => exact rr
      | w => exact rr
      | x W m => cases hpl
    | none =>
      have e2 : R nm Γ' = some f := e2
      refine fun L' σ' H' v xt o' ev rr => ?_
      have hx : xt = [] := rr
      subst hx
      exact fun C hC => hc nm C E L' Γ' σ' H' D f hC o' e2 (p.later ev)
end
end VV
namespace VV
open PySem L2
open PyProof.Rows hiding St
section
variable {K : KW} {E : Ent} {ms ms' : List Md} {ts : List Ty} {L L1 : Reg} {Γ Γ1 : Gam ts} {σ σ1 : St} {H H' H0 H1 H2 : Hp} {xt : List Addr} {rm : Rm} {ρ : Ty}
theorem Rep.inl {a b : Ty} {m : Em} {v : V} {d : den a} (r : Rep K E L H H' m a v d) : Rep K E L H H' m (.alt a b) v (.inl d) := by cases m <;> exact r
theorem Rep.inr {a b : Ty} {m : Em} {v : V} {d : den b} (r : Rep K E L H H' m b v d) : Rep K E L H H' m (.alt a b) v (.inr d) := by cases m <;> exact r
end
end VV
namespace VV
open PySem L2
open PyProof.Rows hiding St
section
variable {K : KW} {H : Hp}
end
end VV
namespace VV
open PySem L2
open PyProof.Rows hiding St
section
variable {K : KW} {E : Ent} {ms : List Md} {ts : List Ty} {L L1 : Reg} {Γ Γ1 : Gam ts} {σ σ1 : St} {H H' H1 : Hp} {xt : List Addr} {rm : Rm} {ρ : Ty} {S : Reg}
def fDropK {k : Ty} {β : Type} (d : List (den k × β)) (x : den k) : List (den k × β) := d.filter fun q => !decide (keyT k q.1 = keyT k x)
def sDpop {ρ : Type} {ts : List Ty} {k t : Ty} (i : Mem ts (.dict k t)) (G : Gam ts → Option (den k)) : Gam ts → Option (Fl (Gam ts) ρ) := fun Γ => (i.get Γ).bind fun d => (G Γ).bind fun x => if (fGetK d x).isSome = true then some (.nx (i.set (some (fDropK d x)) Γ)) else none
end
end VV
namespace VV
open PySem L2
open PyProof.Rows hiding St
section
variable {K : KW} {E : Ent} {ms : List Md} {ts : List Ty} {L L1 : Reg} {Γ Γ1 : Gam ts} {σ σ1 : St} {H H' H1 : Hp} {xt : List Addr} {rm : Rm} {ρ : Ty} {S : Reg}
end
end VV
namespace VV
open PySem L2
open PyProof.Rows hiding St
section
variable {K : KW} {E : Ent} {ms : List Md} {ts : List Ty} {L L1 : Reg} {Γ Γ1 : Gam ts} {σ σ1 : St} {H H' H1 : Hp} {xt : List Addr} {rm : Rm} {ρ : Ty} {S : Reg}
end
end VV
namespace VV
open PySem L2
open PyProof.Rows hiding St
section
variable {K : KW} {E : Ent} {ms : List Md} {ts : List Ty} {L L1 : Reg} {Γ Γ1 : Gam ts} {σ σ1 : St} {H H' H1 : Hp} {xt : List Addr} {rm : Rm} {ρ : Ty} {S : Reg}
end
end VV
namespace VV
open PySem L2
open PyProof.Rows hiding St
section
variable {K : KW} {E : Ent} {ms : List Md} {ts : List Ty} {L L1 : Reg} {Γ Γ1 : Gam ts} {σ σ1 : St} {H H' H1 : Hp} {xt : List Addr} {rm : Rm} {ρ : Ty} {S : Reg}
end
end VV
namespace VV
open PySem L2
open PyProof.Rows hiding St
def anyTab : List ETab → Str → Option Bool
  | [], _ => some false
  | t :: ts, nm => (t.at_ nm).bind fun b => if b = true then some true else anyTab ts nm
section
variable {K : KW} {E : Ent} {ms : List Md} {ts : List Ty} {L L1 : Reg} {Γ Γ1 : Gam ts} {σ σ1 : St} {H H' H1 : Hp} {xt : List Addr} {rm : Rm} {ρ : Ty} {S : Reg}
inductive IsTabs (K : KW) : List V → List ETab → Prop
  | nil : IsTabs K [] []
  | cons {v : V} {t : ETab} {vs : List V} {tb : List ETab} : IsTab K v t → IsTabs K vs tb → IsTabs K (v :: vs) (t :: tb)
theorem IsTabs.get {vs : List V} {tb : List ETab} (h : IsTabs K vs tb) : ∃ us, Paired ClsV vs us ∧ PySem.W.kitAny K (.type "NoneType") us = some false ∧ ∀ nm b, anyTab tb nm = some b → ∀ D, ClsN K nm D → PySem.W.kitAny K (.ref D) us = some b := by
  induction h with
  | nil => exact ⟨[], .nil, kitAny_nil, fun nm b e D _ => by cases e; exact kitAny_nil⟩
  | cons h _ ih =>
    obtain ⟨u, h1, h2, h3⟩ := h.ex
    obtain ⟨us, g1, g2, g3⟩ := ih
    refine ⟨u :: us, .cons h1 g1, kitAny_cons h2 (fun _ => g2) (fun z => by cases z), fun nm b e D hD => ?_⟩
    obtain ⟨c, ec, e⟩ := bind_some e
    obtain ⟨_, k1⟩ := h3 nm c ec D hD
    cases c with
    | true =>
      rw [if_pos rfl] at e
      cases e
      exact kitAny_cons k1 (fun z => by cases z) (fun _ => rfl)
    | false =>
      rw [if_neg Bool.false_ne_true] at e
      exact kitAny_cons k1 (fun _ => g3 nm b e D hD) (fun z => by cases z)
theorem IsTabs.exc {vs : List V} {tb : List ETab} (h : IsTabs K vs tb) {nm : Str} {b : Bool} (hb : anyTab tb nm = some b) (hne : tb ≠ []) {D : Addr} (hD : ClsN K nm D) : ExcC K D := by
  cases h with
  | nil => exact absurd rfl hne
  | cons h _ =>
    obtain ⟨u, h1, h2, h3⟩ := h.ex
    obtain ⟨c, ec, e⟩ := bind_some hb
    exact (h3 nm c ec D hD).1
end
end VV
namespace VV
open PySem L2
open PyProof.Rows hiding St
section
variable {K : KW} {E : Ent} {ms : List Md} {ts : List Ty} {L L1 L' : Reg} {Γ Γ1 : Gam ts} {σ σ1 : St} {H H' H1 : Hp} {xt : List Addr} {rm : Rm} {ρ : Ty} {S : Reg}
end
end VV
namespace VV
open PySem L2
open PyProof.Rows hiding St
section
variable {K : KW} {E : Ent} {ms : List Md} {ts : List Ty} {L L1 : Reg} {Γ Γ1 : Gam ts} {σ σ1 : St} {H H' H1 : Hp} {xt : List Addr} {rm : Rm} {ρ : Ty} {S : Reg}
def sPutR {ρ : Type} {ts : List Ty} {k t : Ty} (i : Mem ts (.dict k t)) (F : Gam ts → Option (den t)) (G : Gam ts → Option (den k)) : Gam ts → Option (Fl (Gam ts) ρ) := fun Γ => (i.get Γ).bind fun d => (F Γ).bind fun y => (G Γ).bind fun x => if d.length < sizeLine ∧ (d.map fun q => keyT k q.1).Nodup then some (.nx (i.set (some (fPutK d x y)) Γ)) else none
end
end VV
namespace VV
open PySem L2
section
variable {K : KW} {E : Ent} {ms : List Md} {ts : List Ty} {L : Reg} {H : Hp} {rm : Rm} {ρ : Ty}
def ItemT (K : KW) (H : Hp) (k : Ty) (kvs : List (List L2.Key × V)) (v : V) (x : den k) : Prop := ∃ (p : Addr) (kv w : V) (ks : List L2.Key), v = .ref p ∧ H p = some (.tup [kv, w]) ∧ (rS K H (fun _ => False) k).1 kv x ∧ keyT k x = some ks ∧ valV kvs ks = some w
theorem ItemT.mono {H' : Hp} {k : Ty} {kvs : List (List L2.Key × V)} {v : V} {x : den k} (s : Stb H H') (h : ItemT K H k kvs v x) : ItemT K H' k kvs v x := by
  obtain ⟨p, kv, w, ks, e, h1, h2, h3, h4⟩ := h
  exact ⟨p, kv, w, ks, e, s.tup p _ h1, (rS_mono (fun a o z _ => z.elim) s k).1 kv x h2, h3, h4⟩
end
end VV
namespace VV
open PySem L2
open PyProof.Rows hiding St
section
variable {K : KW} {E : Ent} {ms ms' : List Md} {ts : List Ty} {L L1 : Reg} {Γ Γ1 : Gam ts} {σ σ1 : St} {H H' H0 H1 H2 : Hp} {xt : List Addr} {rm : Rm} {ρ : Ty} {S0 : Reg}
structure MkT (K : PySem.W.Frag) (mg : Str → Option Value) (C : Addr) : Prop where
  ci : ClsI K 0 C
  gl : mg "Making" = some (.ref C)
  n_rules : NoAttr K C "rules"
  n_backs : NoAttr K C "backs"
  n_known : NoAttr K C "known"
structure DfM (K : PySem.W.Frag) (mg : Str → Option Value) (x qual : Str) (st : Stmt) (ps : List Str) (C f : Addr) (fd : FuncData) : Prop where
  fn : Fun K x qual st f fd
  mt : MkT K mg C
  me : Meth K C x f
  bi : Binds K fd ps []
structure DfI (K : PySem.W.Frag) (mg : Str → Option Value) (x qual : Str) (st : Stmt) (ps : List Str) (C f : Addr) (fd : FuncData) : Prop where
  fn : Fun K x qual st f fd
  mt : MkT K mg C
  mm : Mk K C f
  bi : Binds K fd ps []
end
end VV
namespace VV
open PySem L2
open PyProof.Rows hiding St
section
variable {K : KW} {E : Ent} {ms : List Md} {ts : List Ty} {L L1 : Reg} {Γ Γ1 : Gam ts} {σ σ1 : St} {H H' H1 H2 : Hp} {xt : List Addr} {rm : Rm} {ρ : Ty} {S : Reg}
end
end VV
namespace VV
open PySem L2
open PyProof.Rows hiding St
section
variable {K : KW} {E : Ent} {ms ms' : List Md} {ts : List Ty} {L L1 : Reg} {Γ Γ1 : Gam ts} {σ σ1 : St} {H H' H0 H1 H2 : Hp} {xt : List Addr} {rm : Rm} {ρ : Ty}
end
end VV
namespace VV
open PySem L2
open PyProof.Rows hiding St
section
variable {K : KW} {E : Ent} {ms ms' : List Md} {ts : List Ty} {L L1 : Reg} {Γ Γ1 : Gam ts} {σ σ1 : St} {H H' H0 H1 H2 : Hp} {xt : List Addr} {rm : Rm} {ρ : Ty}
end
end VV
namespace VV
open PySem PySem.Spec L2
open PyProof.Rows hiding St
section
variable {K : KW} {ms : List Md} {ts : List Ty} {W : WX} {E : Ent} {L : Reg} {H H1 H2 : Hp}
def lcLR {G α β : Type} (bind : α → G → G) (cond : G → Option Bool) (elt : G → Option (Str × Option β)) (Γ : G) : List α → Option (Str × Option (List β))
  | [] => some (default, some [])
  | x :: xs => (cond (bind x Γ)).bind fun b => if b = true then (elt (bind x Γ)).bind fun r => match r.2 with
      | none => some (r.1, none)
      | some y => (lcLR bind cond elt Γ xs).bind fun q => some (q.1, q.2.map (y :: ·))
    else lcLR bind cond elt Γ xs
def eLcR {G α β : Type} (src : G → Option (List α)) (bind : α → G → G) (mask : G → G) (cond : G → Option Bool) (elt : G → Option (Str × Option β)) : G → Option (Str × Option (List β)) := fun Γ => (src Γ).bind fun xs => (okIf (lenOk xs.length) ()).bind fun _ => lcLR bind cond elt (mask Γ) xs
def ahead {β : Type} (ds : List β) (q : Str × Option (List β)) : Str × Option (List β) := (q.1, q.2.map (ds ++ ·))
theorem ahead_nil {β : Type} (q : Str × Option (List β)) : ahead [] q = q := by
  obtain ⟨n, o⟩ := q
  cases o <;> rfl
theorem ahead_cons {β : Type} (ds : List β) (y : β) (q : Str × Option (List β)) : ahead ds (q.1, q.2.map (y :: ·)) = ahead (ds ++ [y]) q := by
  obtain ⟨n, o⟩ := q
  cases o with
  | none => rfl
  | some l => show (n, some (ds ++ y :: l)) = (n, some (ds ++ [y] ++ l)); rw [List.append_assoc]; rfl
theorem rpx_lc {w : Bool} {m : Em} {t u : Ty} {wi : TI} {g : TG} {tt : TT} {te : TE} {src : Gam ts → Option (List (den t))} {B : den t → Gam ts → Gam ts} {cond : Gam ts → Option Bool} {elt : Gam ts → Option (Str × Option (den u))} (bs : List Bool) (vs : List Nat) (hW : ∀ c d σ τ H, W c d σ H → W c d τ H)
    (hi : RIS K ms ts wi w t src) (hg : RG K ms ts g w t B) (hw : GW g vs) (hc : RT K ms ts tt cond) (he : RPX K ms ts W te m u elt) (hk : okLc m bs vs = true := by rfl) : RPX K ms ts W (tLc wi g tt te vs) m (.list u) (eLcR src B (Gam.mask bs) cond elt) := fun E L Γ σ H xt Q d o e q => by
  obtain ⟨xs, e1, e⟩ := bind_some e
  obtain ⟨_, ez, e2⟩ := bind_some e
  simp only [okLc, Bool.and_eq_true, Bool.not_eq_true', List.all_eq_true, beq_iff_eq] at hk
  obtain ⟨hm, hv⟩ := hk
  dsimp only [okIf] at ez
  split at ez
  · rename_i hz
    have hz := of_decide_eq_true hz
    have o0 := o.drop
    refine hi E L Γ σ H [] _ xs o0 e1 fun J H1 Lr Z s1 nw it z1 => fun D hD => ?_
    have o1 : Own K E (fun a => L a ∨ Lr a) ms ts (Gam.mask bs Γ) (L2.wipe σ vs) H1 [] := Own.wipe hv ((o0.temp s1 List.nodup_nil (fun a ha => by simp at ha) nw fun a ha => by simp at ha).mask bs)
    have fD := o1.fresh hD
    refine ⟨fun i k H' => k = xs.length - i ∧ i ≤ xs.length ∧ Same H1 H' ∧ ∃ acc ds rest, H' D = some (.lst acc) ∧ RepL K E (fun a => L a ∨ Lr a) (L2.upd H1 D (.lst [])) H' m u acc ds ∧ ds.length ≤ i ∧ lcLR B cond elt (Gam.mask bs Γ) (xs.drop i) = some rest ∧ d = ahead ds rest,
      ⟨xs.length, rfl, Nat.zero_le _, same_new hD, [], [], d, upd_same, RepL.nil, Nat.zero_le _, e2, (ahead_nil d).symm⟩, ?_⟩
    rintro i k H' ⟨rfl, hle, sH, acc, ds, rest, hDa, rl, hdl, e4, rfl⟩
    have z' : Z H' := it.keep H1 H' sH z1
    by_cases hlt : i < xs.length
    · refine .inr ⟨it.go i H' z' hlt, fun H'' => Same H1 H'' ∧ ∃ acc ds' rest', H'' D = some (.lst acc) ∧ RepL K E (fun a => L a ∨ Lr a) (L2.upd H1 D (.lst [])) H'' m u acc ds' ∧ ds'.length ≤ i + 1 ∧ lcLR B cond elt (Gam.mask bs Γ) (xs.drop (i + 1)) = some rest' ∧ ahead ds rest = ahead ds' rest',
        fun H'' h => ⟨xs.length - (i + 1), by omega, rfl, hlt, h⟩, fun x H3 hy => ?_⟩
      obtain ⟨s3, dd, hd, rd⟩ := it.yld i H' x H3 hlt z' hy
      have ed : xs.drop i = dd :: xs.drop (i + 1) := by
        have hd' : xs[i] = dd := by
          have := List.getElem?_eq_getElem hlt
          rw [this] at hd
          exact Option.some.inj hd
        rw [List.drop_eq_getElem_cons hlt, hd']
      rw [ed] at e4
      obtain ⟨b, e5, e6⟩ := bind_some (show (cond (B dd (Gam.mask bs Γ))).bind _ = some rest from e4)
      have o3 := o1.same (sH.trans s3)
      have main := hw x (L2.wipe σ vs) H3 _ (hg E _ (Gam.mask bs Γ) (L2.wipe σ vs) H3 (fun σ2 H2 => tt σ2 H2 fun b H3 => if b = true then te σ2 H3 fun y H4 => ∃ acc, H4 D = some (.lst acc) ∧ acc.length < sizeLine ∧ (fun H'' => Same H1 H'' ∧ ∃ acc ds' rest', H'' D = some (.lst acc) ∧ RepL K E (fun a => L a ∨ Lr a) (L2.upd H1 D (.lst [])) H'' m u acc ds' ∧ ds'.length ≤ i + 1 ∧ lcLR B cond elt (Gam.mask bs Γ) (xs.drop (i + 1)) = some rest' ∧ ahead ds rest = ahead ds' rest') (L2.upd H4 D (.lst (acc ++ [y]))) else (fun H'' => Same H1 H'' ∧ ∃ acc ds' rest', H'' D = some (.lst acc) ∧ RepL K E (fun a => L a ∨ Lr a) (L2.upd H1 D (.lst [])) H'' m u acc ds' ∧ ds'.length ≤ i + 1 ∧ lcLR B cond elt (Gam.mask bs Γ) (xs.drop (i + 1)) = some rest' ∧ ahead ds rest = ahead ds' rest') H3) x dd o3 rd fun σ4 o4 ev4 => ?_)
      · rw [wipe_wipe] at main
        exact main
      · refine hc E _ _ σ4 H3 [] _ b o4 e5 fun H5 s5 => ?_
        have s35 : Same H' H5 := s3.trans s5
        cases b with
        | false =>
          rw [if_neg Bool.false_ne_true] at e6 ⊢
          exact ⟨sH.trans s35, acc, ds, rest, s35 _ _ hDa, rl.same hm s35, by omega, e6, rfl⟩
        | true =>
          rw [if_pos rfl] at e6 ⊢
          obtain ⟨⟨nm, o⟩, e7, e8⟩ := bind_some e6
          refine he E _ _ σ4 H5 [] _ (nm, o) (o4.same s5) e7 fun H6 s6 => ?_
          have s36 : Same H' H6 := s35.trans s6
          cases o with
          | none =>
            have e8 : some ((nm, none) : Str × Option (List (den u))) = some rest := e8
            cases e8
            have q1 := q H6 (s1.trans (sH.trans s36))
            have q1 : wN K W nm σ H6 := q1
            exact fun C hC => hW _ _ _ _ _ (q1 C hC)
          | some y =>
            obtain ⟨r', e9, e10⟩ := bind_some (show (lcLR B cond elt (Gam.mask bs Γ) (xs.drop (i + 1))).bind _ = some rest from e8)
            cases e10
            refine fun v r6 => ?_
            have hD6 := s36 _ _ hDa
            refine ⟨acc, hD6, ?_, fun a q h => ?_, acc ++ [v], ds ++ [y], r', upd_same, ?_, by rw [List.length_append, List.length_singleton]; omega, e9, ahead_cons ds y r'⟩
            · have := rl.len
              omega
            · have ne : a ≠ D := fun z => by
                subst z
                rw [hD] at h
                cases h
              rw [upd_ne ne]
              exact (sH.trans s36) a q h
            · refine RepL.upd hm hD6 rfl (by rw [upd_same]; rfl) fD.2.1 fD.2.2 (RepL.snoc hm s6 (fun a h => ?_) (rl.same hm s35) r6)
              have ne : a ≠ D := fun z => by
                subst z
                rw [s35 _ _ hDa] at h
                cases h
              rw [upd_ne ne]
              exact (sH.trans s35).free h
    · have hi' : i = xs.length := by omega
      subst hi'
      rw [List.drop_length] at e4
      cases e4
      have q1 := q H' (s1.trans sH)
      have q1 : ∀ v, Rep K E L H H' m (.list u) v (ds ++ []) → Q v H' := q1
      refine .inl ⟨it.stop H' z', q1 (.ref D) ?_⟩
      rw [List.append_nil]
      exact rl.list hm s1 nw hD sH hDa
  · cases ez
def RAX (K : KW) (ms : List Md) (ts : List Ty) (W : WX) (ta : TA) (m : Em) (b : Ty) (F : Gam ts → Option (Str × Option (den b))) : Prop :=
  ∀ (E : Ent) (L : Reg) (Γ : Gam ts) (σ : St) (H : Hp) (xt : List Addr) (Q : List V → Hp → Prop) (r : Str × Option (den b)), Own K E L ms ts Γ σ H xt → F Γ = some r →
    (∀ H', Same H H' → (match r.2 with
      | none => wN K W r.1 σ H'
      | some d => ∀ vs, Rep2 K E L H H' m b vs d → Q vs H')) → ta σ H Q
theorem rax_one {m : Em} {t : Ty} {te : TE} {F : Gam ts → Option (Str × Option (den t))} (h : RPX K ms ts W te m t F) : RAX K ms ts W (tCons te tNil) m (.last t) F := fun E L Γ σ H xt Q r o e q => by
  refine h E L Γ σ H xt _ r o e fun H1 s1 => ?_
  have q := q H1 s1
  obtain ⟨nm, rv⟩ := r
  cases rv with
  | none => exact q
  | some d =>
    refine fun v r1 => q [v] ?_
    cases m with
    | o =>
      obtain ⟨f, Lr, h1, h2⟩ := r1
      exact ⟨f, Lr, ⟨v, rfl, .inl h1⟩, h2⟩
    | l =>
      obtain ⟨Lr, h1, h2⟩ := r1
      exact ⟨Lr, ⟨v, rfl, h1⟩, h2⟩
    | w =>
      obtain ⟨Lr, h1, h2⟩ := r1
      exact ⟨Lr, ⟨v, rfl, h1⟩, h2⟩
    | b => exact ⟨v, rfl, r1⟩
def eBindR {G α β : Type} (m : α → Option (Str × Option β)) (F : G → Option (Str × Option α)) : G → Option (Str × Option β) := fun Γ => (F Γ).bind fun r => match r.2 with
  | none => some (r.1, none)
  | some a => m a
theorem rpx_callA {b : Ty} {mA : Em} {ta : TA} {rm : Rm} {ρ : Ty} {m : den b → Option (Str × Option (den ρ))} {F : Gam ts → Option (Str × Option (den b))} (hk : (rm == .o || rm == .l) = true) (h : RAX K ms ts W ta mA b F) : RPX K ms ts W (tCallS (spX K b rm ρ m) (WE W) ta) rm.em ρ (eBindR m F) := fun E L Γ σ H xt Q d o e q => by
  obtain ⟨⟨nm, rv⟩, ea, e⟩ := bind_some e
  refine h E L Γ σ H xt _ (nm, rv) o ea fun H1 s1 => ?_
  cases rv with
  | none =>
    have e : some ((nm, none) : Str × Option (den ρ)) = some d := e
    cases e
    exact q H1 s1
  | some a =>
    have e : m a = some d := e
    refine fun vs r1 => ⟨fun a => (H1 a).isSome = true, a, d, fun _ h => h, (rS_mono (Cov.of_reg fun _ _ h => h) (Stb.refl _) b).2 vs a r1.b, e, fun H2 s2 => ?_⟩
    have q := q H2 (s1.trans s2)
    obtain ⟨nm, rv⟩ := d
    cases rv with
    | none => exact q
    | some y => exact fun v' cr => q v' (crep_rep hk s1 cr)
end
end VV
namespace VV
open PySem PySem.Spec L2
open PyProof.Rows hiding St
section
variable {K : KW} {ms : List Md} {ts : List Ty} {rm : Rm} {ρ : Ty}
def eSel2 {G α β : Type} (m1 m2 : α → Option β) (Fi : G → Option Int) (Fa : G → Option α) : G → Option β := fun Γ => (Fi Γ).bind fun i => if i = 0 then e1 m1 Fa Γ else if i = 1 then e1 m2 Fa Γ else none
theorem call_plain {sp : Sp} {ta : TA} {σ : St} {H : Hp} {Q : VK} {E0 : XK} (h : tCall sp [] E0 ta σ H Q) : ta σ H fun vs H1 => sp (vs ++ []) H1 Q E0 := h
theorem rp_sel2 {f1 f2 : Addr} {b : Ty} {mA mi : Em} {ta : TA} {ti : TE} {m1 m2 : den b → Option (den ρ)} {F : Gam ts → Option (den b)} {Fi : Gam ts → Option Int} (hk : (rm == .o || rm == .l) = true) (h : RA K ms ts ta mA b F) (hi : RP K ms ts ti mi .int Fi) : RP K ms ts (tCallF f1 f2 (spP K b rm ρ m1) (spP K b rm ρ m2) (tOp (rIxL K) (tLst (tCons (tC (.ref f1)) (tCons (tC (.ref f2)) tNil))) ti) ta) rm.em ρ (eSel2 m1 m2 Fi F) := fun E L Γ σ H xt Q d o e q => by
  obtain ⟨i, ei, e⟩ := bind_some e
  refine ⟨by show 2 ≤ sizeLine; decide +kernel, fun p hp => ?_⟩
  have s1 : Same H (L2.upd H p (.lst [.ref f1, .ref f2])) := same_new hp
  refine hi E L Γ σ _ xt _ i (o.same s1) ei fun v H2 s2 r2 => ?_
  have hv : v = .int i := r2.b
  have s3 := s1.trans s2
  have hl : H2 p = some (.lst [.ref f1, .ref f2]) := s2 _ _ upd_same
  by_cases h0 : i = 0
  · rw [if_pos h0] at e
    exact ⟨p, _, i, .ref f1, rfl, hv, SqL.of hl, by rw [h0]; rfl, .inl ⟨rfl, call_plain (rp_call hk h E L Γ σ H2 xt Q d (o.same s3) e fun v' H' s' r' => q v' H' (s3.trans s') (Rep.older s3 r'))⟩⟩
  · rw [if_neg h0] at e
    by_cases h1 : i = 1
    · rw [if_pos h1] at e
      exact ⟨p, _, i, .ref f2, rfl, hv, SqL.of hl, by rw [h1]; rfl, .inr ⟨rfl, call_plain (rp_call hk h E L Γ σ H2 xt Q d (o.same s3) e fun v' H' s' r' => q v' H' (s3.trans s') (Rep.older s3 r'))⟩⟩
    · rw [if_neg h1] at e
      cases e
end
end VV
namespace VV
open PySem L2
theorem forL_inv {G ρ α : Type} {bind : α → G → G} {mask : G → G} {body : G → Option (Fl G ρ)} (I : List α → G → Prop) : ∀ (xs pre : List α) (Γ : G), I pre Γ →
    (∀ p x q Γ, pre ++ xs = p ++ x :: q → I p Γ → ∃ Γ', (body (bind x Γ) = some (.nx Γ') ∨ body (bind x Γ) = some (.ct Γ')) ∧ I (p ++ [x]) (mask Γ')) → ∃ Γ', forL bind mask body xs Γ = some (.nx Γ') ∧ I (pre ++ xs) Γ'
  | [], pre, Γ, h, _ => ⟨Γ, rfl, by simpa using h⟩
  | x :: xs, pre, Γ, h, hs => by
    obtain ⟨Γ', e, h'⟩ := hs pre x xs Γ rfl h
    obtain ⟨Γ2, e2, h2⟩ := forL_inv I xs (pre ++ [x]) (mask Γ') h' fun p y q Γ e => hs p y q Γ (by rw [← e]; simp)
    refine ⟨Γ2, ?_, by simpa using h2⟩
    rcases e with e | e
    · rw [forL, e]; exact e2
    · rw [forL, e]; exact e2
theorem sFor_inv {G ρ α : Type} {F : G → Option (List α)} {bind : α → G → G} {mask : G → G} {body : G → Option (Fl G ρ)} {Γ : G} {xs : List α} (I : List α → G → Prop) (hF : F Γ = some xs) (h0 : I [] (mask Γ))
    (hs : ∀ p x q Γ, xs = p ++ x :: q → I p Γ → ∃ Γ', (body (bind x Γ) = some (.nx Γ') ∨ body (bind x Γ) = some (.ct Γ')) ∧ I (p ++ [x]) (mask Γ')) : ∃ Γ', sFor F bind mask body Γ = some (.nx Γ') ∧ I xs Γ' := by
  unfold sFor
  rw [hF]
  exact forL_inv I xs [] (mask Γ) h0 hs
theorem rng_split {n : Nat} {p q : List Int} {x : Int} (h : rng 0 (n : Int) = p ++ x :: q) : p.length < n ∧ x = (p.length : Int) := by
  have h1 := congrArg List.length h
  rw [rng_len] at h1
  simp only [List.length_append, List.length_cons] at h1
  have h2 : p.length < n := by omega
  have h3 := rng_get (lo := 0) (hi := (n : Int)) (i := p.length) (by omega)
  rw [h] at h3
  simp at h3
  exact ⟨h2, h3⟩
theorem fRng1_of {n : Nat} (h : n < 2 ^ 60) : fRng1 (n : Int) = some (rng 0 n) := by
  unfold fRng1 okIf
  rw [if_pos (decide_eq_true (by omega))]
theorem mulOk_of {i j : Int} (a b : Nat) (ha : i.natAbs < 2 ^ a) (hb : j.natAbs < 2 ^ b) (h : a + b ≤ 999998) : mulOk i j = true := by
  refine decide_eq_true ?_
  have h1 : i.natAbs.log2 < a + 1 := PySem.Flt.log2_lt_of (Nat.succ_pos a) (Nat.lt_of_lt_of_le ha (Nat.pow_le_pow_right (by decide) (Nat.le_succ a)))
  have h2 : j.natAbs.log2 < b + 1 := PySem.Flt.log2_lt_of (Nat.succ_pos b) (Nat.lt_of_lt_of_le hb (Nat.pow_le_pow_right (by decide) (Nat.le_succ b)))
  omega
theorem divOk_of {j : Int} (b : Nat) (h : 0 < j) (hb : j.natAbs < 2 ^ b) (hb' : b ≤ 8999) : divOk j = true := by
  refine decide_eq_true ⟨h, ?_⟩
  have h2 : j.natAbs.log2 < b + 1 := PySem.Flt.log2_lt_of (Nat.succ_pos b) (Nat.lt_of_lt_of_le hb (Nat.pow_le_pow_right (by decide) (Nat.le_succ b)))
  omega
theorem okIf_true {α : Type} {c : Bool} {a : α} (h : c = true) : okIf c a = some a := by rw [h]; rfl
theorem fInS_one (x : Str) (c : Nat) : fInS ⟨#[c]⟩ x = some (decide (c ∈ x.cps.toList)) := congrArg some (StrLaws.found_one x c)
def Ty.isRow : Ty → Bool
  | .last _ => true
  | .cons _ _ => true
  | _ => false
def Ty.nn : Ty → Bool
  | .non => false
  | .opt _ => false
  | .any => false
  | .exn => false
  | .alt _ _ => false
  | .ins _ _ _ => false
  | .own t => !t.isRow && t.nn
  | _ => true
def Ty.inj : Ty → Bool
  | .any => false
  | .exn => false
  | .alt _ _ => false
  | .dict _ _ => false
  | .ins _ _ _ => false
  | .opt t => !t.isRow && (t.nn && t.inj)
  | .vtup t => !t.isRow && t.inj
  | .list t => !t.isRow && t.inj
  | .own t => !t.isRow && t.inj
  | .hl b => b.isRow && b.inj
  | .tup b => b.isRow && b.inj
  | .last a => !a.isRow && a.inj
  | .cons a b => !a.isRow && (a.inj && (b.isRow && b.inj))
  | _ => true
theorem nn_emb : ∀ (t : Ty), t.nn = true → t.isRow = false → ∀ a : den t, (emb t).1 a ≠ .none
  | .bool, _, _, a => by simp [emb]
  | .int, _, _, a => by simp [emb]
  | .str, _, _, a => by simp [emb]
  | .vtup _, _, _, a => by simp [emb]
  | .list _, _, _, a => by simp [emb]
  | .dict _ _, _, _, a => by simp [emb]
  | .own t, h, _, a => by
    simp only [Ty.nn, Bool.and_eq_true, Bool.not_eq_true'] at h
    exact nn_emb t h.2 h.1 a
  | .tup _, _, _, a => by simp [emb]
  | .hl _, _, _, a => by simp [emb]
  | .non, h, _, _ => by cases h
  | .opt _, h, _, _ => by cases h
  | .any, h, _, _ => by cases h
  | .alt _ _, h, _, _ => by cases h
  | .exn, h, _, _ => by cases h
  | .ins _ _ _, h, _, _ => by cases h
theorem eqvAll_map_iff {α : Type} {f : α → PyData} (h : ∀ a b : α, PyData.eqv (f a) (f b) = true ↔ a = b) : ∀ xs ys : List α, PyData.eqvAll (xs.map f) (ys.map f) = true ↔ xs = ys
  | [], [] => by simp [PyData.eqvAll]
  | [], _ :: _ => by simp [PyData.eqvAll]
  | _ :: _, [] => by simp [PyData.eqvAll]
  | x :: xs, y :: ys => by
    simp only [List.map_cons, PyData.eqvAll, Bool.and_eq_true, h x y, eqvAll_map_iff h xs ys, List.cons.injEq]
theorem eqv_none : ∀ {p : PyData}, p ≠ .none → PyData.eqv .none p = false ∧ PyData.eqv p .none = false := fun {p} h => by
  cases p <;> first | exact absurd rfl h | exact ⟨rfl, rfl⟩
theorem eqv_iff : ∀ t : Ty, t.inj = true → (t.isRow = false → ∀ a b : den t, PyData.eqv ((emb t).1 a) ((emb t).1 b) = true ↔ a = b) ∧ (t.isRow = true → ∀ a b : den t, PyData.eqvAll ((emb t).2 a) ((emb t).2 b) = true ↔ a = b) := by
  intro t
  induction t with
  | non => exact fun _ => ⟨fun _ a b => by simp [emb, PyData.eqv], fun h => by cases h⟩
  | bool => exact fun _ => ⟨fun _ a b => by simp [emb, PyData.eqv], fun h => by cases h⟩
  | int => exact fun _ => ⟨fun _ a b => by simp [emb, PyData.eqv], fun h => by cases h⟩
  | str => exact fun _ => ⟨fun _ a b => by simp [emb, PyData.eqv], fun h => by cases h⟩
  | any => exact fun h => by cases h
  | alt _ _ _ _ => exact fun h => by cases h
  | exn => exact fun h => by cases h
  | dict _ _ => exact fun h => by cases h
  | ins _ _ _ _ => exact fun h => by cases h
  | opt t ih =>
    intro q
    simp only [Ty.inj, Bool.and_eq_true, Bool.not_eq_true'] at q
    refine ⟨fun _ a b => ?_, fun h => by cases h⟩
    have h1 := (ih q.2.2).1 q.1
    cases a with
    | none =>
      cases b with
      | none => simp [emb, PyData.eqv]
      | some y => simp [emb, (eqv_none (nn_emb t q.2.1 q.1 y)).1]
    | some x =>
      cases b with
      | none => simp [emb, (eqv_none (nn_emb t q.2.1 q.1 x)).2]
      | some y => simpa [emb] using h1 x y
  | vtup t ih =>
    intro q
    simp only [Ty.inj, Bool.and_eq_true, Bool.not_eq_true'] at q
    exact ⟨fun _ a b => by simpa [emb, PyData.eqv] using eqvAll_map_iff ((ih q.2).1 q.1) a b, fun h => by cases h⟩
  | list t ih =>
    intro q
    simp only [Ty.inj, Bool.and_eq_true, Bool.not_eq_true'] at q
    exact ⟨fun _ a b => by simpa [emb, PyData.eqv] using eqvAll_map_iff ((ih q.2).1 q.1) a b, fun h => by cases h⟩
  | own t ih =>
    intro q
    simp only [Ty.inj, Bool.and_eq_true, Bool.not_eq_true'] at q
    exact ⟨fun _ => (ih q.2).1 q.1, fun h => by cases h⟩
  | tup b ih =>
    intro q
    simp only [Ty.inj, Bool.and_eq_true] at q
    exact ⟨fun _ a b' => by simpa [emb, PyData.eqv] using (ih q.2).2 q.1 a b', fun h => by cases h⟩
  | hl b ih =>
    intro q
    simp only [Ty.inj, Bool.and_eq_true] at q
    exact ⟨fun _ a b' => by simpa [emb, PyData.eqv] using (ih q.2).2 q.1 a b', fun h => by cases h⟩
  | last a ih =>
    intro q
    simp only [Ty.inj, Bool.and_eq_true, Bool.not_eq_true'] at q
    exact ⟨fun h => (by cases h), fun _ x y => (by simpa [emb, PyData.eqvAll] using (ih q.2).1 q.1 x y)⟩
  | cons a b iha ihb =>
    intro q
    simp only [Ty.inj, Bool.and_eq_true, Bool.not_eq_true'] at q
    refine ⟨fun h => (by cases h), fun _ x y => ?_⟩
    have h1 := (iha q.2.1).1 q.1 x.1 y.1
    have h2 := (ihb q.2.2.2).2 q.2.2.1 x.2 y.2
    simp only [emb, PyData.eqvAll, Bool.and_eq_true, h1, h2]
    exact ⟨fun h => Prod.ext h.1 h.2, fun h => by rw [h]; exact ⟨rfl, rfl⟩⟩
def okEq (t : Ty) : Bool := !t.isRow && t.inj
theorem eqv_eq {t : Ty} (h : okEq t = true) (a b : den t) : PyData.eqv ((emb t).1 a) ((emb t).1 b) = true ↔ a = b := by
  simp only [okEq, Bool.and_eq_true, Bool.not_eq_true'] at h
  exact (eqv_iff t h.2).1 h.1 a b
open Classical in
theorem fEqD_eq {t : Ty} (h : okEq t = true) (a b : den t) : fEqD t a b = some (decide (a = b)) := by
  unfold fEqD
  congr 1
  rw [Bool.eq_iff_iff, eqv_eq h, decide_eq_true_iff]
open Classical in
theorem fEqD_same {t : Ty} (h : okEq t = true) (a : den t) : fEqD t a a = some true := by
  rw [fEqD_eq h, decide_eq_true rfl]
open Classical in
theorem fEqD_ne {t : Ty} (h : okEq t = true) {a b : den t} (hn : a ≠ b) : fEqD t a b = some false := by
  rw [fEqD_eq h, decide_eq_false hn]
open Classical in
theorem fInD_eq {t : Ty} (h : okEq t = true) (a : den t) (b : List (den t)) : fInD t a b = some (decide (a ∈ b)) := by
  unfold fInD
  congr 1
  rw [Bool.eq_iff_iff, List.any_eq_true, decide_eq_true_iff]
  constructor
  · rintro ⟨x, hx, e⟩
    rw [eqv_eq h] at e
    exact e ▸ hx
  · exact fun hx => ⟨a, hx, (eqv_eq h a a).mpr rfl⟩
open Classical in
theorem fNotInD_eq {t : Ty} (h : okEq t = true) (a : den t) (b : List (den t)) : fNotInD t a b = some (!decide (a ∈ b)) := by
  have := fInD_eq h a b
  unfold fInD at this
  unfold fNotInD
  rw [Option.some.inj this]
open Classical in
theorem fInD_mem {t : Ty} (h : okEq t = true) {a : den t} {b : List (den t)} (hm : a ∈ b) : fInD t a b = some true := by
  rw [fInD_eq h, decide_eq_true hm]
open Classical in
theorem fInD_not {t : Ty} (h : okEq t = true) {a : den t} {b : List (den t)} (hm : a ∉ b) : fInD t a b = some false := by
  rw [fInD_eq h, decide_eq_false hm]
open Classical in
theorem fNotInD_mem {t : Ty} (h : okEq t = true) {a : den t} {b : List (den t)} (hm : a ∈ b) : fNotInD t a b = some false := by
  rw [fNotInD_eq h, decide_eq_true hm]
  rfl
open Classical in
theorem fNotInD_not {t : Ty} (h : okEq t = true) {a : den t} {b : List (den t)} (hm : a ∉ b) : fNotInD t a b = some true := by
  rw [fNotInD_eq h, decide_eq_false hm]
  rfl
theorem lcL_all {G α β : Type} {bind : α → G → G} {elt : G → Option β} {Γ : G} (f : α → β) : ∀ (xs : List α), (∀ x ∈ xs, elt (bind x Γ) = some (f x)) → lcL bind eYes elt Γ xs = some (xs.map f)
  | [], _ => rfl
  | x :: xs, h => by
    show (some true).bind _ = _
    rw [Option.bind_some, if_pos rfl, h x List.mem_cons_self, Option.bind_some, lcL_all f xs fun y hy => h y (List.mem_cons_of_mem _ hy)]
    rfl
theorem eLc_of {G α β : Type} {src : G → Option (List α)} {bind : α → G → G} {mask : G → G} {cond : G → Option Bool} {elt : G → Option β} {Γ : G} {xs : List α} {r : List β} (h1 : src Γ = some xs) (h2 : lcL bind cond elt (mask Γ) xs = some r) (h3 : lenOk r.length = true) : eLc src bind mask cond elt Γ = some r := by
  unfold eLc
  rw [h1, Option.bind_some, h2, Option.bind_some]
  exact okIf_true h3
theorem lenOk_le {n : Nat} (h : n ≤ 100000) : lenOk n = true := by
  refine decide_eq_true ?_
  rw [sizeLine_eq]
  omega
theorem cut_len {α : Type} (xs : List α) (lo hi : Option Int) : (cutD xs lo hi).length ≤ xs.length := by
  unfold cutD
  rw [List.length_take, List.length_drop]
  omega
theorem cut_mem {α : Type} {xs : List α} {lo hi : Option Int} {x : α} (h : x ∈ cutD xs lo hi) : x ∈ xs := List.mem_of_mem_drop (List.mem_of_mem_take h)
theorem atI_of {α : Type} {xs : List α} {i : Int} (h0 : 0 ≤ i) (h1 : i < xs.length) : atI xs i = some (xs[i.toNat]'(by omega)) := by
  obtain ⟨n, rfl⟩ := Int.eq_ofNat_of_zero_le h0
  exact atI_nat (List.getElem?_eq_getElem (by omega))
theorem atI_some {α : Type} {xs : List α} {i : Int} (h0 : 0 ≤ i) (h1 : i < xs.length) : ∃ x, atI xs i = some x ∧ x ∈ xs := ⟨_, atI_of h0 h1, List.getElem_mem _⟩
end VV
namespace VV
open PySem L2
open PySem.W (dataLe)
theorem eLc_map {G α β : Type} {src : G → Option (List α)} {bind : α → G → G} {mask : G → G} {elt : G → Option β} {Γ : G} {xs : List α} (f : α → β) (h1 : src Γ = some xs) (hl : xs.length ≤ 16000000) (h2 : ∀ x ∈ xs, elt (bind x (mask Γ)) = some (f x)) : eLc src bind mask eYes elt Γ = some (xs.map f) := by
  refine eLc_of h1 (lcL_all f xs h2) (decide_eq_true ?_)
  rw [List.length_map, sizeLine_eq]
  omega
section
variable {k : Ty} {β : Type} [DecidableEq (den k)]
end
def look {α β : Type} [DecidableEq α] (d : List (α × β)) (x : α) : Option β := (d.find? fun q => decide (q.1 = x)).map (·.2)
section
variable {α β : Type} [DecidableEq α]
end
section
variable {α β : Type} [DecidableEq α]
end
end VV
namespace VV
open PySem L2
structure Kp {α : Sort _} (Q : α) : Type where
def Ok {α : Type} (o : Option α) (Q : α → Prop) (_ : Kp Q := ⟨⟩) : Prop := ∃ a, o = some a ∧ Q a
def Wif (c : Bool) (A B : Prop) (_ : Kp A := ⟨⟩) (_ : Kp B := ⟨⟩) : Prop := if c = true then A else B
section
variable {α β : Type}
theorem Ok_some {a : α} {Q : α → Prop} : Ok (some a) Q = Q a := propext ⟨fun ⟨_, e, h⟩ => by cases e; exact h, fun h => ⟨a, rfl, h⟩⟩
theorem Ok_none {Q : α → Prop} : Ok (none : Option α) Q = False := propext ⟨fun ⟨_, e, _⟩ => (by cases e), False.elim⟩
theorem Ok_bind {o : Option α} {f : α → Option β} {Q : β → Prop} : Ok (o.bind f) Q = Ok o fun a => Ok (f a) Q := propext ⟨fun ⟨b, e, h⟩ => by
  obtain ⟨a, e1, e2⟩ := Option.bind_eq_some_iff.mp e
  exact ⟨a, e1, b, e2, h⟩, fun ⟨a, e1, b, e2, h⟩ => ⟨b, Option.bind_eq_some_iff.mpr ⟨a, e1, e2⟩, h⟩⟩
theorem Ok_okIf {c : Bool} {a : α} {Q : α → Prop} : Ok (okIf c a) Q = (c = true ∧ Q a) := by
  unfold okIf
  cases c with
  | true => simp [Ok_some]
  | false => simp [Ok_none]
theorem Ok_guard {p : Prop} [Decidable p] {a : α} {Q : α → Prop} : Ok (if p then some a else none) Q = (p ∧ Q a) := by
  by_cases h : p
  · rw [if_pos h, Ok_some]; exact propext ⟨fun q => ⟨h, q⟩, fun q => q.2⟩
  · rw [if_neg h, Ok_none]; exact propext ⟨False.elim, fun q => h q.1⟩
theorem Ok_ite {c : Bool} {A B : Option α} {Q : α → Prop} : Ok (if c = true then A else B) Q = Wif c (Ok A Q) (Ok B Q) := by
  unfold Wif
  cases c <;> rfl
theorem Ok_map {o : Option α} {f : α → β} {Q : β → Prop} : Ok (o.map f) Q = Ok o fun a => Q (f a) := by
  cases o with
  | none => rw [Option.map_none, Ok_none, Ok_none]
  | some a => rw [Option.map_some, Ok_some, Ok_some]
theorem Wif_true {A B : Prop} : Wif true A B = A := rfl
theorem Wif_false {A B : Prop} : Wif false A B = B := rfl
theorem Wif_of {c : Bool} {A B : Prop} (h1 : c = true → A) (h2 : c = false → B) : Wif c A B := by
  cases c with
  | true => exact h1 rfl
  | false => exact h2 rfl
theorem Wif_dec {p : Prop} {i : Decidable p} {A B : Prop} (h1 : p → A) (h2 : ¬ p → B) : Wif (decide p) A B := Wif_of (fun h => h1 (of_decide_eq_true h)) fun h => h2 (of_decide_eq_false h)
theorem Wif_ndec {p : Prop} {i : Decidable p} {A B : Prop} (h1 : ¬ p → A) (h2 : p → B) : Wif (!decide p) A B := Wif_of (fun h => h1 (by simpa using h)) fun h => h2 (by simpa using h)
theorem Ok.mono {o : Option α} {P Q : α → Prop} (h : Ok o P) (hq : ∀ a, P a → Q a) : Ok o Q := by
  obtain ⟨a, e, p⟩ := h
  exact ⟨a, e, hq a p⟩
theorem Ok.of {o : Option α} {a : α} {Q : α → Prop} (e : o = some a) (h : Q a) : Ok o Q := ⟨a, e, h⟩
theorem Ok.eq {o : Option α} {a : α} (h : Ok o (· = a)) : o = some a := by
  obtain ⟨b, e, rfl⟩ := h
  exact e
theorem Ok.is {o : Option α} {a : α} (h : o = some a) : Ok o (· = a) := ⟨a, h, rfl⟩
end
def Turn {G ρ : Type} (mask : G → G) (Q : Fl G ρ → Prop) (N : G → Prop) : Fl G ρ → Prop
  | .nx Γ => N (mask Γ)
  | .ct Γ => N (mask Γ)
  | .bk Γ => Q (.nx (mask Γ))
  | .rt d Γ => Q (.rt d Γ)
section
variable {G ρ α S : Type} {mask : G → G} {Q : Fl G ρ → Prop} {N : G → Prop} {Γ : G}
theorem Turn_nx : Turn mask Q N (.nx Γ) = N (mask Γ) := rfl
theorem Turn_ct : Turn mask Q N (.ct Γ) = N (mask Γ) := rfl
theorem Turn_bk : Turn mask Q N (.bk Γ) = Q (.nx (mask Γ)) := rfl
theorem Turn_rt {d : ρ} : Turn mask Q N (.rt d Γ) = Q (.rt d Γ) := rfl
def At {G S : Type} (st : S → G) (P : S → Prop) (Γ : G) (_ : Kp st := ⟨⟩) (_ : Kp P := ⟨⟩) : Prop := ∃ s, Γ = st s ∧ P s
theorem At.mk {G S : Type} {st : S → G} {P : S → Prop} (s : S) {Γ : G} (h : Γ = st s) (hp : P s) : At st P Γ := ⟨s, h, hp⟩
theorem Ok_forL {bind : α → G → G} {body : G → Option (Fl G ρ)} (st : S → G) (I : List α → S → Prop) : ∀ (xs pre : List α) (s : S), I pre s →
    (∀ p x q s, pre ++ xs = p ++ x :: q → I p s → Ok (body (bind x (st s))) (Turn mask Q fun Γ => At st (I (p ++ [x])) Γ)) → (∀ s, I (pre ++ xs) s → Q (.nx (st s))) → Ok (forL bind mask body xs (st s)) Q
  | [], pre, s, h, _, he => ⟨_, rfl, he s (by simpa using h)⟩
  | x :: xs, pre, s, h, hs, he => by
    obtain ⟨r, e, ht⟩ := hs pre x xs s rfl h
    have ih := fun (s' : S) (h' : I (pre ++ [x]) s') => Ok_forL st I xs (pre ++ [x]) s' h' (fun p y q s e => hs p y q s (by rw [← e]; simp)) (by simpa using he)
    rw [forL, e]
    cases r with
    | nx Γ' =>
      obtain ⟨s', e', h'⟩ := ht
      show Ok (forL bind mask body xs (mask Γ')) Q
      rw [e']
      exact ih s' h'
    | ct Γ' =>
      obtain ⟨s', e', h'⟩ := ht
      show Ok (forL bind mask body xs (mask Γ')) Q
      rw [e']
      exact ih s' h'
    | bk Γ' => exact ⟨_, rfl, ht⟩
    | rt d Γ' => exact ⟨_, rfl, ht⟩
theorem Ok_sFor {bind : α → G → G} {body : G → Option (Fl G ρ)} {F : G → Option (List α)} (xs : List α) (st : S → G) (I : List α → S → Prop) (s0 : S) (hF : Ok (F Γ) (· = xs)) (h0 : mask Γ = st s0) (hI : I [] s0)
    (hs : ∀ p x q s, xs = p ++ x :: q → I p s → Ok (body (bind x (st s))) (Turn mask Q fun Γ => At st (I (p ++ [x])) Γ)) (he : ∀ s, I xs s → Q (.nx (st s))) : Ok (sFor F bind mask body Γ) Q := by
  unfold sFor
  rw [hF.eq, Option.bind_some, h0]
  exact Ok_forL st I xs [] s0 hI hs he
end
section
variable {G α β S : Type} {src : G → Option (List α)} {bind : α → G → G} {mask : G → G} {cond : G → Option Bool} {elt : G → Option β} {Γ : G} {Q : List β → Prop}
theorem Ok_eLcM {xs : List α} (f : α → β) (h1 : Ok (src Γ) (· = xs)) (hl : xs.length ≤ 16000000) (h3 : ∀ x ∈ xs, Ok (elt (bind x (mask Γ))) (· = f x)) (hq : Q (xs.map f)) : Ok (eLc src bind mask eYes elt Γ) Q :=
  ⟨_, eLc_map f h1.eq hl (fun x hx => (h3 x hx).eq), hq⟩
end
end VV
namespace VV
open PySem L2
section
theorem Ok_cong {α : Type} {o : Option α} {Q Q' : α → Prop} (h : ∀ a, Q a = Q' a) : Ok o Q = Ok o Q' := by
  have : Q = Q' := funext h
  rw [this]
local macro_rules | `(tactic| walk_at "okp") => `(tactic| repeat (first | rfl | exact Ok_some | exact Ok_ite | (rw [Ok_ite, Ok_some]; done) | (simp only [Ok_ite, Ok_some]; done) | (simp only [Ok_ite, Ok_bind, Ok_some]; done) | exact Ok_guard | (rw [Ok_bind]; refine Ok_cong fun _ => ?_)))
variable {G α β γ δ ρ : Type} {Γ : G}
def ExcQ {α : Type} (A : Prop) (B : α → Prop) (o : Option α) (_ : Kp A := ⟨⟩) (_ : Kp B := ⟨⟩) : Prop := match o with
  | none => A
  | some d => B d
theorem ExcQ_none {A : Prop} {B : α → Prop} : @ExcQ (no_index _) A B (@none (no_index _)) (@Kp.mk (no_index _) A) (@Kp.mk (no_index _) B) = A := rfl
theorem ExcQ_some {A : Prop} {B : α → Prop} {d : α} : @ExcQ (no_index _) A B (@some (no_index _) d) (@Kp.mk (no_index _) A) (@Kp.mk (no_index _) B) = B d := rfl
def TryQ {G ρ : Type} (R : Str → G → Option (Fl G ρ)) (Q : Fl G ρ → Prop) (f : Fl G (Str × Option ρ)) (_ : Kp R := ⟨⟩) (_ : Kp Q := ⟨⟩) : Prop := match f with
  | .nx Γ => Q (.nx Γ)
  | .bk Γ => Q (.bk Γ)
  | .ct Γ => Q (.ct Γ)
  | .rt r Γ => match r.2 with
    | none => Ok (R r.1 Γ) Q
    | some d => Q (.rt d Γ)
section
variable {R : Str → G → Option (Fl G ρ)} {Q : Fl G ρ → Prop} {nm : Str} {d : ρ}
theorem TryQ_nx : @TryQ (no_index _) (no_index _) R Q (@Fl.nx (no_index _) (no_index _) Γ) (@Kp.mk (no_index _) R) (@Kp.mk (no_index _) Q) = Q (.nx Γ) := rfl
theorem TryQ_bk : @TryQ (no_index _) (no_index _) R Q (@Fl.bk (no_index _) (no_index _) Γ) (@Kp.mk (no_index _) R) (@Kp.mk (no_index _) Q) = Q (.bk Γ) := rfl
theorem TryQ_ct : @TryQ (no_index _) (no_index _) R Q (@Fl.ct (no_index _) (no_index _) Γ) (@Kp.mk (no_index _) R) (@Kp.mk (no_index _) Q) = Q (.ct Γ) := rfl
theorem TryQ_none : @TryQ (no_index _) (no_index _) R Q (@Fl.rt (no_index _) (no_index _) (nm, none) Γ) (@Kp.mk (no_index _) R) (@Kp.mk (no_index _) Q) = Ok (R nm Γ) Q := rfl
theorem TryQ_some : @TryQ (no_index _) (no_index _) R Q (@Fl.rt (no_index _) (no_index _) (nm, some d) Γ) (@Kp.mk (no_index _) R) (@Kp.mk (no_index _) Q) = Q (.rt d Γ) := rfl
end
theorem at_self {nm : Str} {b : Bool} {t : ETab} : ETab.at_ ((nm, b) :: t) nm = some b := by
  unfold ETab.at_
  rw [List.lookup_cons, beq_self_eq_true]
theorem Ok_eC {d : α} {Q : α → Prop} : @Ok (no_index _) (eC d Γ) Q (@Kp.mk (no_index _) Q) = Q d := by
  unfold eC
  walk_at "okp"
theorem Ok_eNil {Q : List α → Prop} : @Ok (no_index _) ((eNil : G → Option (List α)) Γ) Q (@Kp.mk (no_index _) Q) = Q [] := by
  unfold eNil
  walk_at "okp"
theorem Ok_eYes {Q : Bool → Prop} : @Ok (no_index _) (eYes Γ) Q (@Kp.mk (no_index _) Q) = Q true := by
  unfold eYes
  walk_at "okp"
theorem Ok_eV {ts : List Ty} {t : Ty} {i : Mem ts t} {Γ : Gam ts} {Q : den t → Prop} : @Ok (no_index _) (eV i Γ) Q (@Kp.mk (no_index _) Q) = Ok (i.get Γ) Q := by
  unfold eV
  walk_at "okp"
theorem Ok_e1 {f : α → Option β} {A : G → Option α} {Q : β → Prop} : @Ok (no_index _) (e1 f A Γ) Q (@Kp.mk (no_index _) Q) = Ok (A Γ) fun a => Ok (f a) Q := by
  unfold e1
  walk_at "okp"
theorem Ok_e2 {f : α → β → Option γ} {A : G → Option α} {B : G → Option β} {Q : γ → Prop} : @Ok (no_index _) (e2 f A B Γ) Q (@Kp.mk (no_index _) Q) = Ok (A Γ) fun a => Ok (B Γ) fun b => Ok (f a b) Q := by
  unfold e2
  walk_at "okp"
theorem Ok_e3 {f : α → β → γ → Option δ} {A : G → Option α} {B : G → Option β} {C : G → Option γ} {Q : δ → Prop} : @Ok (no_index _) (e3 f A B C Γ) Q (@Kp.mk (no_index _) Q) = Ok (A Γ) fun a => Ok (B Γ) fun b => Ok (C Γ) fun c => Ok (f a b c) Q := by
  unfold e3
  walk_at "okp"
theorem Ok_eNot {A : G → Option Bool} {Q : Bool → Prop} : @Ok (no_index _) (eNot A Γ) Q (@Kp.mk (no_index _) Q) = Ok (A Γ) fun c => Q (!c) := by
  unfold eNot
  walk_at "okp"
theorem Ok_eAnd {A B : G → Option Bool} {Q : Bool → Prop} : @Ok (no_index _) (eAnd A B Γ) Q (@Kp.mk (no_index _) Q) = Ok (A Γ) fun c => Wif c (Ok (B Γ) Q) (Q false) := by
  unfold eAnd
  walk_at "okp"
theorem Ok_eOr {A B : G → Option Bool} {Q : Bool → Prop} : @Ok (no_index _) (eOr A B Γ) Q (@Kp.mk (no_index _) Q) = Ok (A Γ) fun c => Wif c (Q true) (Ok (B Γ) Q) := by
  unfold eOr
  walk_at "okp"
theorem Ok_eIf {c : G → Option Bool} {A B : G → Option α} {Q : α → Prop} : @Ok (no_index _) (eIf c A B Γ) Q (@Kp.mk (no_index _) Q) = Ok (c Γ) fun b => Wif b (Ok (A Γ) Q) (Ok (B Γ) Q) := by
  unfold eIf
  walk_at "okp"
theorem Ok_eCons {A : G → Option α} {B : G → Option β} {Q : α × β → Prop} : @Ok (no_index _) (eCons A B Γ) Q (@Kp.mk (no_index _) Q) = Ok (A Γ) fun a => Ok (B Γ) fun b => Q (a, b) := by
  unfold eCons
  walk_at "okp"
theorem Ok_eSnoc {A : G → Option α} {B : G → Option (List α)} {Q : List α → Prop} : @Ok (no_index _) (eSnoc A B Γ) Q (@Kp.mk (no_index _) Q) = Ok (A Γ) fun a => Ok (B Γ) fun b => Q (a :: b) := by
  unfold eSnoc
  walk_at "okp"
theorem Ok_eProj {b t : Ty} {r : RIx b t} {A : G → Option (den b)} {Q : den t → Prop} : @Ok (no_index _) (eProj r A Γ) Q (@Kp.mk (no_index _) Q) = Ok (A Γ) fun d => Q (r.get d) := by
  unfold eProj
  walk_at "okp"
theorem Ok_eChain {f : α → β → Option Bool} {g : β → γ → Option Bool} {A : G → Option α} {B : G → Option β} {C : G → Option γ} {Q : Bool → Prop} : @Ok (no_index _) (eChain f g A B C Γ) Q (@Kp.mk (no_index _) Q) = Ok (A Γ) fun a => Ok (B Γ) fun b => Ok (f a b) fun k => Wif k (Ok (C Γ) fun c => Ok (g b c) Q) (Q false) := by
  unfold eChain
  rw [Ok_bind]
  refine Ok_cong fun a => ?_
  rw [Ok_bind]
  refine Ok_cong fun b => ?_
  rw [Ok_bind]
  refine Ok_cong fun k => ?_
  cases k with
  | true => exact Ok_bind
  | false => exact Ok_some
theorem Ok_eChain3 {f : α → β → Option Bool} {g : β → γ → Option Bool} {h : γ → δ → Option Bool} {A : G → Option α} {B : G → Option β} {C : G → Option γ} {D : G → Option δ} {Q : Bool → Prop} : @Ok (no_index _) (eChain3 f g h A B C D Γ) Q (@Kp.mk (no_index _) Q) = Ok (A Γ) fun a => Ok (B Γ) fun b => Ok (f a b) fun k => Wif k (Ok (C Γ) fun c => Ok (g b c) fun k2 => Wif k2 (Ok (D Γ) fun d => Ok (h c d) Q) (Q false)) (Q false) := by
  unfold eChain3
  rw [Ok_bind]
  refine Ok_cong fun a => ?_
  rw [Ok_bind]
  refine Ok_cong fun b => ?_
  rw [Ok_bind]
  refine Ok_cong fun k => ?_
  cases k with
  | true =>
    show Ok ((C Γ).bind _) Q = Ok _ _
    rw [Ok_bind]
    refine Ok_cong fun c => ?_
    rw [Ok_bind]
    refine Ok_cong fun k => ?_
    cases k with
    | true => exact Ok_bind
    | false => exact Ok_some
  | false => exact Ok_some
theorem Ok_ePure {A : G → Option α} {Q : α × G → Prop} : @Ok (no_index _) (ePure A Γ) Q (@Kp.mk (no_index _) Q) = Ok (A Γ) fun d => Q (d, Γ) := by
  unfold ePure
  walk_at "okp"
theorem Ok_eConsE {A : G → Option (α × G)} {B : G → Option (β × G)} {Q : (α × β) × G → Prop} : @Ok (no_index _) (eConsE A B Γ) Q (@Kp.mk (no_index _) Q) = Ok (A Γ) fun p => Ok (B p.2) fun q => Q ((p.1, q.1), q.2) := by
  unfold eConsE
  walk_at "okp"
theorem Ok_eX1 {f : α → Option γ} {A : G → Option (α × G)} {Q : γ × G → Prop} : @Ok (no_index _) (eX1 f A Γ) Q (@Kp.mk (no_index _) Q) = Ok (A Γ) fun p => Ok (f p.1) fun c => Q (c, p.2) := by
  unfold eX1
  walk_at "okp"
theorem Ok_eX2 {f : α → β → Option γ} {A : G → Option (α × G)} {B : G → Option (β × G)} {Q : γ × G → Prop} : @Ok (no_index _) (eX2 f A B Γ) Q (@Kp.mk (no_index _) Q) = Ok (A Γ) fun p => Ok (B p.2) fun q => Ok (f p.1 q.1) fun c => Q (c, q.2) := by
  unfold eX2
  walk_at "okp"
theorem Ok_eX3 {f : α → β → γ → Option δ} {A : G → Option (α × G)} {B : G → Option (β × G)} {C : G → Option (γ × G)} {Q : δ × G → Prop} : @Ok (no_index _) (eX3 f A B C Γ) Q (@Kp.mk (no_index _) Q) = Ok (A Γ) fun p => Ok (B p.2) fun q => Ok (C q.2) fun r => Ok (f p.1 q.1 r.1) fun c => Q (c, r.2) := by
  unfold eX3
  walk_at "okp"
theorem Ok_eXProj {b t : Ty} {r : RIx b t} {A : G → Option (den b × G)} {Q : den t × G → Prop} : @Ok (no_index _) (eXProj r A Γ) Q (@Kp.mk (no_index _) Q) = Ok (A Γ) fun p => Q (r.get p.1, p.2) := by
  unfold eXProj eX1
  walk_at "okp"
theorem Ok_eXAnd {A B : G → Option (Bool × G)} {Q : Bool × G → Prop} : @Ok (no_index _) (eXAnd A B Γ) Q (@Kp.mk (no_index _) Q) = Ok (A Γ) fun p => Wif p.1 (Ok (B p.2) Q) (Q (false, p.2)) := by
  unfold eXAnd
  walk_at "okp"
theorem Ok_eXOr {A B : G → Option (Bool × G)} {Q : Bool × G → Prop} : @Ok (no_index _) (eXOr A B Γ) Q (@Kp.mk (no_index _) Q) = Ok (A Γ) fun p => Wif p.1 (Q (true, p.2)) (Ok (B p.2) Q) := by
  unfold eXOr
  walk_at "okp"
theorem Ok_eXNot {A : G → Option (Bool × G)} {Q : Bool × G → Prop} : @Ok (no_index _) (eXNot A Γ) Q (@Kp.mk (no_index _) Q) = Ok (A Γ) fun p => Q (!p.1, p.2) := by
  unfold eXNot
  walk_at "okp"
theorem Ok_eXSnoc {A : G → Option (α × G)} {B : G → Option (List α × G)} {Q : List α × G → Prop} : @Ok (no_index _) (eXSnoc A B Γ) Q (@Kp.mk (no_index _) Q) = Ok (A Γ) fun p => Ok (B p.2) fun q => Q (p.1 :: q.1, q.2) := by
  unfold eXSnoc eX2
  walk_at "okp"
theorem Ok_eSomeE {A : G → Option (α × G)} {Q : Option α × G → Prop} : @Ok (no_index _) (eSomeE A Γ) Q (@Kp.mk (no_index _) Q) = Ok (A Γ) fun p => Q (some p.1, p.2) := by
  unfold eSomeE
  walk_at "okp"
theorem Ok_eIfE {c : G → Option Bool} {A B : G → Option (α × G)} {Q : α × G → Prop} : @Ok (no_index _) (eIfE c A B Γ) Q (@Kp.mk (no_index _) Q) = Ok (c Γ) fun b => Wif b (Ok (A Γ) Q) (Ok (B Γ) Q) := by
  unfold eIfE
  walk_at "okp"
theorem Ok_eMove {ts : List Ty} {Γ : Gam ts} {t : Ty} {i : Mem ts t} {Q : den t × Gam ts → Prop} : @Ok (no_index _) (eMove i Γ) Q (@Kp.mk (no_index _) Q) = Ok (i.get Γ) fun d => Q (d, i.set none Γ) := by
  unfold eMove
  walk_at "okp"
theorem Ok_ePop {ts : List Ty} {Γ : Gam ts} {t : Ty} {i : Mem ts (.list t)} {Q : den t × Gam ts → Prop} : @Ok (no_index _) (ePop i Γ) Q (@Kp.mk (no_index _) Q) = Ok (i.get Γ) fun xs => Ok xs.getLast? fun d => Q (d, i.set (some xs.dropLast) Γ) := by
  unfold ePop
  walk_at "okp"
theorem Ok_ePop0 {ts : List Ty} {Γ : Gam ts} {t : Ty} {i : Mem ts (.list t)} {Q : den t × Gam ts → Prop} : @Ok (no_index _) (ePop0 i Γ) Q (@Kp.mk (no_index _) Q) = Ok (i.get Γ) fun xs => Ok xs.head? fun d => Q (d, i.set (some xs.tail) Γ) := by
  unfold ePop0
  walk_at "okp"
theorem Ok_ePopH {ts : List Ty} {Γ : Gam ts} {b t : Ty} {i : Mem ts (.hl b)} {r : RIx b (.own (.list t))} {Q : den t × Gam ts → Prop} : @Ok (no_index _) (ePopH i r Γ) Q (@Kp.mk (no_index _) Q) = Ok (i.get Γ) fun d => Ok (List.getLast? (r.get d : List (den t))) fun y => Q (y, i.set (some (r.put d (List.dropLast (r.get d : List (den t))))) Γ) := by
  unfold ePopH
  walk_at "okp"
theorem Ok_eIO {ts : List Ty} {Γ : Gam ts} {b tio : Ty} {ρ : Type} {i : Mem ts tio} {m : den b → Option (ρ × den tio)} {F : Gam ts → Option (den b)} {Q : ρ × Gam ts → Prop} : @Ok (no_index _) (eIO i m F Γ) Q (@Kp.mk (no_index _) Q) = Ok (F Γ) fun d => Ok (m d) fun res => Q (res.1, i.set (some res.2) Γ) := by
  unfold eIO
  walk_at "okp"
theorem Ok_eIO1 {ts : List Ty} {Γ : Gam ts} {tio : Ty} {ρ : Type} {i : Mem ts tio} {m : den tio → Option (ρ × den tio)} {Q : ρ × Gam ts → Prop} : @Ok (no_index _) (eIO1 i m Γ) Q (@Kp.mk (no_index _) Q) = Ok (i.get Γ) fun d => Ok (m d) fun res => Q (res.1, i.set (some res.2) Γ) := by
  unfold eIO1
  walk_at "okp"
theorem Ok_eIOz {ts : List Ty} {Γ : Gam ts} {b tio : Ty} {ρ : Type} {i : Mem ts tio} {m : den tio × den b → Option (ρ × den tio)} {F : Gam ts → Option (den b × Gam ts)} {Q : ρ × Gam ts → Prop} : @Ok (no_index _) (eIOz i m F Γ) Q (@Kp.mk (no_index _) Q) = Ok (i.get Γ) fun _ => Ok (F Γ) fun p => Ok (i.get p.2) fun x => Ok (m (x, p.1)) fun res => Q (res.1, i.set (some res.2) p.2) := by
  unfold eIOz
  walk_at "okp"
theorem Ok_eScope {ts : List Ty} {Γ : Gam ts} {α : Type} {bs : List Bool} {F : Gam ts → Option α} {Q : α → Prop} : @Ok (no_index _) (eScope bs F Γ) Q (@Kp.mk (no_index _) Q) = Ok (F (Gam.mask bs Γ)) Q := by
  unfold eScope
  rfl
theorem Ok_eIO2 {ts : List Ty} {Γ : Gam ts} {t1 b t2 : Ty} {ρ : Type} {i1 : Mem ts t1} {i2 : Mem ts t2} {m : den t1 × den b → Option (ρ × (den t1 × den t2))} {F : Gam ts → Option (den b)} {Q : ρ × Gam ts → Prop} : @Ok (no_index _) (eIO2 i1 i2 m F Γ) Q (@Kp.mk (no_index _) Q) = Ok (i1.get Γ) fun x => Ok (F Γ) fun d => Ok (m (x, d)) fun res => Q (res.1, i1.set (some res.2.1) (i2.set (some res.2.2) Γ)) := by
  unfold eIO2
  walk_at "okp"
theorem Ok_eIO2t {ts : List Ty} {Γ : Gam ts} {t1 b t2 : Ty} {ρ : Type} {i1 : Mem ts t1} {m : den t1 × den b → Option (ρ × (den t1 × den t2))} {F : Gam ts → Option (den b)} {Q : ρ × Gam ts → Prop} : @Ok (no_index _) (eIO2t i1 m F Γ) Q (@Kp.mk (no_index _) Q) = Ok (i1.get Γ) fun x => Ok (F Γ) fun d => Ok (m (x, d)) fun res => Q (res.1, i1.set (some res.2.1) Γ) := by
  unfold eIO2t
  walk_at "okp"
theorem Ok_sNext {Q : Fl G ρ → Prop} : @Ok (no_index _) ((sNext : G → Option (Fl G ρ)) Γ) Q (@Kp.mk (no_index _) Q) = Q (.nx Γ) := by
  unfold sNext
  walk_at "okp"
theorem Ok_sBreak {Q : Fl G ρ → Prop} : @Ok (no_index _) ((sBreak : G → Option (Fl G ρ)) Γ) Q (@Kp.mk (no_index _) Q) = Q (.bk Γ) := by
  unfold sBreak
  walk_at "okp"
theorem Ok_sCont {Q : Fl G ρ → Prop} : @Ok (no_index _) ((sCont : G → Option (Fl G ρ)) Γ) Q (@Kp.mk (no_index _) Q) = Q (.ct Γ) := by
  unfold sCont
  walk_at "okp"
theorem Ok_sNever {Q : Fl G ρ → Prop} : @Ok (no_index _) ((sNever : G → Option (Fl G ρ)) Γ) Q (@Kp.mk (no_index _) Q) = False := by
  unfold sNever
  exact Ok_none
theorem Ok_sIf {c : G → Option Bool} {A B : G → Option (Fl G ρ)} {Q : Fl G ρ → Prop} : @Ok (no_index _) (sIf c A B Γ) Q (@Kp.mk (no_index _) Q) = Ok (c Γ) fun b => Wif b (Ok (A Γ) Q) (Ok (B Γ) Q) := by
  unfold sIf
  walk_at "okp"
theorem Ok_sIfE {c : G → Option (Bool × G)} {A B : G → Option (Fl G ρ)} {Q : Fl G ρ → Prop} : @Ok (no_index _) (sIfE c A B Γ) Q (@Kp.mk (no_index _) Q) = Ok (c Γ) fun b => Wif b.1 (Ok (A b.2) Q) (Ok (B b.2) Q) := by
  unfold sIfE
  walk_at "okp"
theorem Ok_sRet {A : G → Option ρ} {Q : Fl G ρ → Prop} : @Ok (no_index _) (sRet A Γ) Q (@Kp.mk (no_index _) Q) = Ok (A Γ) fun d => Q (.rt d Γ) := by
  unfold sRet
  walk_at "okp"
theorem Ok_sRetE {A : G → Option (ρ × G)} {Q : Fl G ρ → Prop} : @Ok (no_index _) (sRetE A Γ) Q (@Kp.mk (no_index _) Q) = Ok (A Γ) fun p => Q (.rt p.1 p.2) := by
  unfold sRetE
  walk_at "okp"
theorem Ok_sAsg {A : G → Option α} {B : α → G → G} {Q : Fl G ρ → Prop} : @Ok (no_index _) (sAsg A B Γ) Q (@Kp.mk (no_index _) Q) = Ok (A Γ) fun d => Q (.nx (B d Γ)) := by
  unfold sAsg
  walk_at "okp"
theorem Ok_sAsgE {A : G → Option (α × G)} {B : α → G → G} {Q : Fl G ρ → Prop} : @Ok (no_index _) (sAsgE A B Γ) Q (@Kp.mk (no_index _) Q) = Ok (A Γ) fun d => Q (.nx (B d.1 d.2)) := by
  unfold sAsgE
  walk_at "okp"
theorem Ok_sDrop {A : G → Option α} {Q : Fl G ρ → Prop} : @Ok (no_index _) (sDrop A Γ) Q (@Kp.mk (no_index _) Q) = Ok (A Γ) fun _ => Q (.nx Γ) := by
  unfold sDrop
  walk_at "okp"
theorem Ok_sUnl {A : G → Option (List α)} {B : List (α → G → G)} {Q : Fl G ρ → Prop} : @Ok (no_index _) (sUnl A B Γ) Q (@Kp.mk (no_index _) Q) = Ok (A Γ) fun d => d.length = B.length ∧ Q (.nx (bindAll B d Γ)) := by
  unfold sUnl
  walk_at "okp"
theorem Ok_sRetM {ts : List Ty} {Γ : Gam ts} {t : Ty} {i : Mem ts t} {Q : Fl (Gam ts) (den t) → Prop} : @Ok (no_index _) (sRetM i Γ) Q (@Kp.mk (no_index _) Q) = Ok (i.get Γ) fun d => Q (.rt d (i.set none Γ)) := by
  unfold sRetM
  walk_at "okp"
theorem Ok_sSet {ts : List Ty} {Γ : Gam ts} {ρ : Type} {Q : Fl (Gam ts) ρ → Prop} {t : Ty} {i : Mem ts t} {A : Gam ts → Option (den t)} : @Ok (no_index _) (sSet i A Γ) Q (@Kp.mk (no_index _) Q) = Ok (A Γ) fun d => Q (.nx (i.set (some d) Γ)) := by
  unfold sSet
  walk_at "okp"
theorem Ok_sSetX {ts : List Ty} {Γ : Gam ts} {ρ : Type} {Q : Fl (Gam ts) ρ → Prop} {t : Ty} {i : Mem ts t} {A : Gam ts → Option (den t × Gam ts)} : @Ok (no_index _) (sSetX i A Γ) Q (@Kp.mk (no_index _) Q) = Ok (A Γ) fun p => Q (.nx (i.set (some p.1) p.2)) := by
  unfold sSetX
  walk_at "okp"
theorem Ok_sMove {ts : List Ty} {Γ : Gam ts} {ρ : Type} {Q : Fl (Gam ts) ρ → Prop} {t : Ty} {i j : Mem ts t} : @Ok (no_index _) (sMove i j Γ) Q (@Kp.mk (no_index _) Q) = Ok (j.get Γ) fun d => Q (.nx (i.set (some d) (j.set none Γ))) := by
  unfold sMove
  walk_at "okp"
theorem Ok_sLst {ts : List Ty} {Γ : Gam ts} {ρ : Type} {Q : Fl (Gam ts) ρ → Prop} {t : Ty} {i : Mem ts (.list t)} {g : List (den t) → List (den t)} : @Ok (no_index _) (sLst i g Γ) Q (@Kp.mk (no_index _) Q) = Ok (i.get Γ) fun xs => Q (.nx (i.set (some (g xs)) Γ)) := by
  unfold sLst
  walk_at "okp"
theorem Ok_sApp {ts : List Ty} {Γ : Gam ts} {ρ : Type} {Q : Fl (Gam ts) ρ → Prop} {t : Ty} {i : Mem ts (.list t)} {F : Gam ts → Option (den t)} : @Ok (no_index _) (sApp i F Γ) Q (@Kp.mk (no_index _) Q) = Ok (i.get Γ) fun xs => Ok (F Γ) fun d => xs.length < sizeLine ∧ Q (.nx (i.set (some (xs ++ [d])) Γ)) := by
  unfold sApp
  walk_at "okp"
theorem Ok_sAppE {ts : List Ty} {Γ : Gam ts} {ρ : Type} {Q : Fl (Gam ts) ρ → Prop} {t : Ty} {i : Mem ts (.list t)} {F : Gam ts → Option (den t × Gam ts)} : @Ok (no_index _) (sAppE i F Γ) Q (@Kp.mk (no_index _) Q) = Ok (i.get Γ) fun _ => Ok (F Γ) fun p => Ok (i.get p.2) fun xs => xs.length < sizeLine ∧ Q (.nx (i.set (some (xs ++ [p.1])) p.2)) := by
  unfold sAppE
  walk_at "okp"
theorem Ok_sExt {ts : List Ty} {Γ : Gam ts} {ρ : Type} {Q : Fl (Gam ts) ρ → Prop} {t : Ty} {i : Mem ts (.list t)} {F : Gam ts → Option (List (den t))} : @Ok (no_index _) (sExt i F Γ) Q (@Kp.mk (no_index _) Q) = Ok (i.get Γ) fun xs => Ok (F Γ) fun d => lenOk (xs.length + d.length) = true ∧ Q (.nx (i.set (some (xs ++ d)) Γ)) := by
  unfold sExt
  walk_at "okp"
theorem Ok_sLput {ts : List Ty} {Γ : Gam ts} {ρ : Type} {Q : Fl (Gam ts) ρ → Prop} {t : Ty} {i : Mem ts (.list t)} {F : Gam ts → Option (den t)} {G : Gam ts → Option Int} : @Ok (no_index _) (sLput i F G Γ) Q (@Kp.mk (no_index _) Q) = Ok (i.get Γ) fun xs => Ok (F Γ) fun d => Ok (G Γ) fun k => Ok (ixN xs.length k) fun j => Q (.nx (i.set (some (xs.set j d)) Γ)) := by
  unfold sLput
  walk_at "okp"
theorem Ok_sLputX {ts : List Ty} {Γ : Gam ts} {ρ : Type} {Q : Fl (Gam ts) ρ → Prop} {t : Ty} {i : Mem ts (.list t)} {F : Gam ts → Option (den t × Gam ts)} {G : Gam ts → Option (Int × Gam ts)} : @Ok (no_index _) (sLputX i F G Γ) Q (@Kp.mk (no_index _) Q) = Ok (F Γ) fun p => Ok (i.get p.2) fun _ => Ok (G p.2) fun q => Ok (i.get q.2) fun xs => Ok (ixN xs.length q.1) fun j => Q (.nx (i.set (some (xs.set j p.1)) q.2)) := by
  unfold sLputX
  walk_at "okp"
theorem Ok_sDputX {ts : List Ty} {Γ : Gam ts} {ρ : Type} {Q : Fl (Gam ts) ρ → Prop} {k t : Ty} {i : Mem ts (.dict k t)} {F : Gam ts → Option (den t × Gam ts)} {G : Gam ts → Option (den k × Gam ts)} : @Ok (no_index _) (sDputX i F G Γ) Q (@Kp.mk (no_index _) Q) = Ok (F Γ) fun p => Ok (i.get p.2) fun _ => Ok (G p.2) fun q => Ok (i.get q.2) fun d => d.length < sizeLine ∧ Q (.nx (i.set (some (fPutK d q.1 p.1)) q.2)) := by
  unfold sDputX
  walk_at "okp"
theorem Ok_sScope {ts : List Ty} {Γ : Gam ts} {ρ : Type} {Q : Fl (Gam ts) ρ → Prop} {bs : List Bool} {F : Gam ts → Option (Fl (Gam ts) ρ)} : @Ok (no_index _) (sScope bs F Γ) Q (@Kp.mk (no_index _) Q) = Ok (F (Gam.mask bs Γ)) fun f => Q (flMask bs f) := by
  unfold sScope
  cases h : F (Gam.mask bs Γ) with | none => exact propext ⟨fun ⟨_, e, _⟩ => (by cases e), fun ⟨_, e, _⟩ => (by cases e)⟩ | some f => rw [Option.map_some, Ok_some, Ok_some]
theorem Ok_sHput {ts : List Ty} {Γ : Gam ts} {ρ : Type} {Q : Fl (Gam ts) ρ → Prop} {b t : Ty} {i : Mem ts (.hl b)} {r : RIx b t} {F : Gam ts → Option (den t × Gam ts)} : @Ok (no_index _) (sHput i r F Γ) Q (@Kp.mk (no_index _) Q) = Ok (F Γ) fun p => Ok (i.get p.2) fun d => Q (.nx (i.set (some (r.put d p.1)) p.2)) := by
  unfold sHput
  walk_at "okp"
theorem Ok_sPut {ts : List Ty} {Γ : Gam ts} {ρ : Type} {Q : Fl (Gam ts) ρ → Prop} {k t : Ty} {i : Mem ts (.dict k t)} {F : Gam ts → Option (den t)} {G : Gam ts → Option (den k)} : @Ok (no_index _) (sPut i F G Γ) Q (@Kp.mk (no_index _) Q) = Ok (i.get Γ) fun d => Ok (F Γ) fun y => Ok (G Γ) fun x => d.length < sizeLine ∧ Q (.nx (i.set (some (fPutK d x y)) Γ)) := by
  unfold sPut
  walk_at "okp"
theorem Ok_sDpop {ts : List Ty} {Γ : Gam ts} {ρ : Type} {Q : Fl (Gam ts) ρ → Prop} {k t : Ty} {i : Mem ts (.dict k t)} {G : Gam ts → Option (den k)} : @Ok (no_index _) (sDpop i G Γ) Q (@Kp.mk (no_index _) Q) = Ok (i.get Γ) fun d => Ok (G Γ) fun x => (fGetK d x).isSome = true ∧ Q (.nx (i.set (some (fDropK d x)) Γ)) := by
  unfold sDpop
  walk_at "okp"
theorem Ok_sPutN {ts : List Ty} {Γ : Gam ts} {ρ : Type} {Q : Fl (Gam ts) ρ → Prop} {k t : Ty} {i : Mem ts (.dict k t)} {F : Gam ts → Option (den t)} {G : Gam ts → Option (den k)} : @Ok (no_index _) (sPutN i F G Γ) Q (@Kp.mk (no_index _) Q) = Ok (i.get Γ) fun d => Ok (F Γ) fun y => Ok (G Γ) fun x => (d.length < sizeLine ∧ (fGetK d x).isSome = false) ∧ Q (.nx (i.set (some (d ++ [(x, y)])) Γ)) := by
  unfold sPutN
  walk_at "okp"
theorem Ok_sPutR {ts : List Ty} {Γ : Gam ts} {ρ : Type} {Q : Fl (Gam ts) ρ → Prop} {k t : Ty} {i : Mem ts (.dict k t)} {F : Gam ts → Option (den t)} {G : Gam ts → Option (den k)} : @Ok (no_index _) (sPutR i F G Γ) Q (@Kp.mk (no_index _) Q) = Ok (i.get Γ) fun d => Ok (F Γ) fun y => Ok (G Γ) fun x => (d.length < sizeLine ∧ (d.map fun q => keyT k q.1).Nodup) ∧ Q (.nx (i.set (some (fPutK d x y)) Γ)) := by
  unfold sPutR
  walk_at "okp"
theorem Ok_sDApp {ts : List Ty} {Γ : Gam ts} {ρ : Type} {Q : Fl (Gam ts) ρ → Prop} {k u : Ty} {i : Mem ts (.dict k (.own (.list u)))} {F : Gam ts → Option (den u)} {G : Gam ts → Option (den k)} : @Ok (no_index _) (sDApp i G F Γ) Q (@Kp.mk (no_index _) Q) = Ok (i.get Γ) fun d => Ok (G Γ) fun x => Ok (fGetK (β := List (den u)) d x) fun xs => Ok (F Γ) fun y => xs.length < sizeLine ∧ Q (.nx (i.set (some (fUpdK (β := List (den u)) d x (xs ++ [y]))) Γ)) := by
  unfold sDApp
  walk_at "okp"
theorem Ok_sAlApp {ts : List Ty} {Γ : Gam ts} {ρ : Type} {Q : Fl (Gam ts) ρ → Prop} {k u : Ty} {i : Mem ts (.dict k (.own (.list u)))} {G : Gam ts → Option (den k × List (den k × List (den u)))} {F : Gam ts → Option (den u)} : @Ok (no_index _) (sAlApp i G F Γ) Q (@Kp.mk (no_index _) Q) = Ok (G Γ) fun q => Ok (fGetK (β := List (den u)) q.2 q.1) fun xs => Ok (F (i.set (some q.2) Γ)) fun y => xs.length < sizeLine ∧ Q (.nx (i.set (some (fUpdK (β := List (den u)) q.2 q.1 (xs ++ [y]))) (i.set (some q.2) Γ))) := by
  unfold sAlApp
  walk_at "okp"
theorem Ok_gSetd {ts : List Ty} {Γ : Gam ts} {k t : Ty} {i : Mem ts (.dict k (.own t))} {F : Gam ts → Option (den k)} {D : Gam ts → Option (den t)} {Q : den k × List (den k × den t) → Prop} : @Ok (no_index _) (gSetd i F D Γ) Q (@Kp.mk (no_index _) Q) = Ok (i.get Γ) fun d => Ok (F Γ) fun x => Ok (D Γ) fun y => d.length < sizeLine ∧ Q (x, if (fGetK (β := den t) d x).isSome = true then d else d ++ [(x, y)]) := by
  unfold gSetd
  walk_at "okp"
theorem Ok_gGet {ts : List Ty} {Γ : Gam ts} {k t : Ty} {i : Mem ts (.dict k (.own t))} {F : Gam ts → Option (den k)} {Q : den k × List (den k × den t) → Prop} : @Ok (no_index _) (gGet i F Γ) Q (@Kp.mk (no_index _) Q) = Ok (F Γ) fun x => Ok (i.get Γ) fun d => (fGetK (β := den t) d x).isSome = true ∧ Q (x, d) := by
  unfold gGet
  walk_at "okp"
theorem Ok_sRaise {nm : Str} {Q : Fl G (Str × Option ρ) → Prop} : @Ok (no_index _) ((sRaise nm : G → Option (Fl G (Str × Option ρ))) Γ) Q (@Kp.mk (no_index _) Q) = Q (.rt (nm, none) Γ) := by
  unfold sRaise
  walk_at "okp"
theorem Ok_sLift {A : G → Option (Fl G ρ)} {Q : Fl G (Str × Option ρ) → Prop} : @Ok (no_index _) (sLift A Γ) Q (@Kp.mk (no_index _) Q) = Ok (A Γ) fun r => Q r.lift := by
  unfold sLift
  walk_at "okp"
theorem Ok_eSomeR {A : G → Option (Str × Option α)} {Q : Str × Option (Option α) → Prop} : @Ok (no_index _) (eSomeR A Γ) Q (@Kp.mk (no_index _) Q) = Ok (A Γ) fun r => Q (r.1, r.2.map some) := by
  unfold eSomeR
  walk_at "okp"
theorem Ok_sSetR {ts : List Ty} {Γ : Gam ts} {ρ : Type} {Q : Fl (Gam ts) (Str × Option ρ) → Prop} {t : Ty} {i : Mem ts t} {A : Gam ts → Option (Str × Option (den t))} : @Ok (no_index _) (sSetR i A Γ) Q (@Kp.mk (no_index _) Q) = Ok (A Γ) fun r => ExcQ (Q (.rt (r.1, none) Γ)) (fun d => Q (.nx (i.set (some d) Γ))) r.2 := by
  unfold sSetR
  rw [Ok_bind]
  refine Ok_cong fun r => ?_
  obtain ⟨nm, rv⟩ := r
  cases rv <;> exact Ok_some
theorem Ok_sDropR {A : G → Option (Str × Option α)} {Q : Fl G (Str × Option ρ) → Prop} : @Ok (no_index _) (sDropR A Γ) Q (@Kp.mk (no_index _) Q) = Ok (A Γ) fun r => ExcQ (Q (.rt (r.1, none) Γ)) (fun _ => Q (.nx Γ)) r.2 := by
  unfold sDropR
  rw [Ok_bind]
  refine Ok_cong fun r => ?_
  obtain ⟨nm, rv⟩ := r
  cases rv <;> exact Ok_some
theorem Ok_sTry {A : G → Option (Fl G (Str × Option ρ))} {R : Str → G → Option (Fl G ρ)} {Q : Fl G ρ → Prop} : @Ok (no_index _) (sTry A R Γ) Q (@Kp.mk (no_index _) Q) = Ok (A Γ) fun r => TryQ R Q r := by
  unfold sTry
  rw [Ok_bind]
  refine Ok_cong fun r => ?_
  cases r with
  | nx Γ' => exact Ok_some
  | bk Γ' => exact Ok_some
  | ct Γ' => exact Ok_some
  | rt r Γ' =>
    obtain ⟨nm, rv⟩ := r
    cases rv with
    | none => rfl
    | some d => exact Ok_some
theorem Ok_cOne {t : ETab} {nm : Str} {A : G → Option (Fl G ρ)} {R : Str → G → Option (Fl G ρ)} {Q : Fl G ρ → Prop} : @Ok (no_index _) (cOne t A R nm Γ) Q (@Kp.mk (no_index _) Q) = Ok (t.at_ nm) fun b => Wif b (Ok (A Γ) Q) (Ok (R nm Γ) Q) := by
  unfold cOne
  cases e : t.at_ nm with
  | none => rw [Ok_none]; exact Ok_none.symm
  | some b =>
    rw [Ok_some]
    cases b with
    | true => rfl
    | false => rfl
theorem Ok_cTup {t : ETab} {nm : Str} {R : Str → G → Option (Fl G ρ)} {Q : Fl G ρ → Prop} : @Ok (no_index _) (cTup t R nm Γ) Q (@Kp.mk (no_index _) Q) = Ok (t.at_ nm) fun b => Wif b False (Ok (R nm Γ) Q) := by
  unfold cTup
  cases e : t.at_ nm with
  | none => rw [Ok_none]; exact Ok_none.symm
  | some b =>
    rw [Ok_some]
    cases b with
    | true => exact Ok_none
    | false => rfl
theorem Ok_cAs {ts : List Ty} {Γ : Gam ts} {ρ : Type} {i : Mem ts .exn} {t : ETab} {nm : Str} {A : Gam ts → Option (Fl (Gam ts) ρ)} {R : Str → Gam ts → Option (Fl (Gam ts) ρ)} {Q : Fl (Gam ts) ρ → Prop} : @Ok (no_index _) (cAs i t A R nm Γ) Q (@Kp.mk (no_index _) Q) = Ok (t.at_ nm) fun b => Wif b (Ok (A (i.set (some nm) Γ)) fun r => Q (r.off i)) (Ok (R nm Γ) Q) := by
  unfold cAs
  cases e : t.at_ nm with
  | none => rw [Ok_none]; exact Ok_none.symm
  | some b =>
    rw [Ok_some]
    cases b with
    | true => 
      show Ok ((A (i.set (some nm) Γ)).bind _) Q = _
      rw [Ok_bind]
      exact Ok_cong fun _ => Ok_some
    | false => rfl
def SeqQ {G ρ : Type} (F : G → Option (Fl G ρ)) (Q : Fl G ρ → Prop) (f : Fl G ρ) (_ : Kp F := ⟨⟩) (_ : Kp Q := ⟨⟩) : Prop := match f with
  | .nx Γ' => Ok (F Γ') Q
  | r => Q r
section
variable {F F' : G → Option (Fl G ρ)} {Q : Fl G ρ → Prop} {d : ρ}
theorem SeqQ_nx : SeqQ F Q (.nx Γ) = Ok (F Γ) Q := rfl
theorem SeqQ_bk : SeqQ F Q (.bk Γ) = Q (.bk Γ) := rfl
theorem SeqQ_ct : SeqQ F Q (.ct Γ) = Q (.ct Γ) := rfl
theorem SeqQ_rt : SeqQ F Q (.rt d Γ) = Q (.rt d Γ) := rfl
theorem Ok_sSeq : @Ok (no_index _) (sSeq F F' Γ) Q (@Kp.mk (no_index _) Q) = Ok (F Γ) fun f => SeqQ F' Q f := by
  unfold sSeq
  rw [Ok_bind]
  refine Ok_cong fun r => ?_
  cases r with
  | nx Γ' => rfl
  | bk Γ' => exact Ok_some
  | ct Γ' => exact Ok_some
  | rt d Γ' => exact Ok_some
end
def EndQ {G ρ : Type} (Q : ρ → Prop) (f : Fl G ρ) (_ : Kp Q := ⟨⟩) : Prop := match f with
  | .rt d _ => Q d
  | _ => False
theorem EndQ_rt {Q : ρ → Prop} {d : ρ} : EndQ Q (.rt d Γ) = Q d := rfl
theorem EndQ_nx {Q : ρ → Prop} : EndQ Q (.nx Γ) = False := rfl
theorem Ok_endOf {Q : ρ → Prop} {o : Option (Fl G ρ)} : @Ok (no_index _) (endOf o) Q (@Kp.mk (no_index _) Q) = Ok o fun f => EndQ Q f := by
  cases o with
  | none => rw [Ok_none]; exact Ok_none
  | some f =>
    rw [Ok_some]
    cases f with
    | rt d Γ => exact Ok_some
    | nx Γ => exact Ok_none
    | bk Γ => exact Ok_none
    | ct Γ => exact Ok_none
def EndIO {ts : List Ty} {tio : Ty} {ρ : Type} (i : Mem ts tio) (fall : Option ρ) (Q : ρ × den tio → Prop) (f : Fl (Gam ts) ρ) (_ : Kp i := ⟨⟩) (_ : Kp fall := ⟨⟩) (_ : Kp Q := ⟨⟩) : Prop := match f with
  | .rt d Γ => Ok (i.get Γ) fun x => Q (d, x)
  | .nx Γ => Ok fall fun d => Ok (i.get Γ) fun x => Q (d, x)
  | _ => False
section
variable {ts : List Ty} {tio : Ty} {i : Mem ts tio} {fall : Option ρ} {Q : ρ × den tio → Prop} {Γ : Gam ts} {d : ρ}
theorem EndIO_rt : @EndIO ts tio ρ i fall Q (@Fl.rt (no_index _) (no_index _) d Γ) (@Kp.mk (no_index _) i) (@Kp.mk (no_index _) fall) (@Kp.mk (no_index _) Q) = Ok (i.get Γ) fun x => Q (d, x) := rfl
theorem EndIO_nx : @EndIO ts tio ρ i fall Q (@Fl.nx (no_index _) (no_index _) Γ) (@Kp.mk (no_index _) i) (@Kp.mk (no_index _) fall) (@Kp.mk (no_index _) Q) = Ok fall fun d => Ok (i.get Γ) fun x => Q (d, x) := rfl
theorem Ok_endIO {o : Option (Fl (Gam ts) ρ)} : @Ok (no_index _) (endIO i fall o) Q (@Kp.mk (no_index _) Q) = Ok o fun f => EndIO i fall Q f := by
  cases o with
  | none => rw [Ok_none]; exact Ok_none
  | some f =>
    rw [Ok_some]
    cases f with
    | rt d Γ => exact Ok_map
    | nx Γ =>
      show Ok (fall.bind _) Q = _
      rw [Ok_bind]
      exact Ok_cong fun _ => Ok_map
    | bk Γ => exact Ok_none
    | ct Γ => exact Ok_none
end
def EndIO2 {ts : List Ty} {t1 t2 : Ty} {ρ : Type} (i1 : Mem ts t1) (i2 : Mem ts t2) (fall : Option ρ) (Q : ρ × (den t1 × den t2) → Prop) (f : Fl (Gam ts) ρ) (_ : Kp i1 := ⟨⟩) (_ : Kp i2 := ⟨⟩) (_ : Kp fall := ⟨⟩) (_ : Kp Q := ⟨⟩) : Prop := match f with
  | .rt d Γ => Ok (i1.get Γ) fun x => Ok (i2.get Γ) fun y => Q (d, x, y)
  | .nx Γ => Ok fall fun d => Ok (i1.get Γ) fun x => Ok (i2.get Γ) fun y => Q (d, x, y)
  | _ => False
section
variable {ts : List Ty} {t1 t2 : Ty} {i1 : Mem ts t1} {i2 : Mem ts t2} {fall : Option ρ} {Q : ρ × (den t1 × den t2) → Prop} {Γ : Gam ts} {d : ρ}
theorem EndIO2_rt : @EndIO2 ts t1 t2 ρ i1 i2 fall Q (@Fl.rt (no_index _) (no_index _) d Γ) (@Kp.mk (no_index _) i1) (@Kp.mk (no_index _) i2) (@Kp.mk (no_index _) fall) (@Kp.mk (no_index _) Q) = Ok (i1.get Γ) fun x => Ok (i2.get Γ) fun y => Q (d, x, y) := rfl
theorem EndIO2_nx : @EndIO2 ts t1 t2 ρ i1 i2 fall Q (@Fl.nx (no_index _) (no_index _) Γ) (@Kp.mk (no_index _) i1) (@Kp.mk (no_index _) i2) (@Kp.mk (no_index _) fall) (@Kp.mk (no_index _) Q) = Ok fall fun d => Ok (i1.get Γ) fun x => Ok (i2.get Γ) fun y => Q (d, x, y) := rfl
theorem Ok_endIO2 {o : Option (Fl (Gam ts) ρ)} : @Ok (no_index _) (endIO2 i1 i2 fall o) Q (@Kp.mk (no_index _) Q) = Ok o fun f => EndIO2 i1 i2 fall Q f := by
  cases o with
  | none => rw [Ok_none]; exact Ok_none
  | some f =>
    rw [Ok_some]
    cases f with
    | rt d Γ =>
      show Ok ((i1.get Γ).bind _) Q = _
      rw [Ok_bind]
      exact Ok_cong fun _ => Ok_map
    | nx Γ =>
      show Ok (fall.bind _) Q = _
      rw [Ok_bind]
      refine Ok_cong fun _ => ?_
      rw [Ok_bind]
      exact Ok_cong fun _ => Ok_map
    | bk Γ => exact Ok_none
    | ct Γ => exact Ok_none
end
def PubQ {ts : List Ty} {t : Ty} {ρ : Type} (i : Mem ts t) (Q : Fl (Gam ts) ρ → Prop) (f : Fl (Gam ts) ρ) (_ : Kp i := ⟨⟩) (_ : Kp Q := ⟨⟩) : Prop := Q (f.on (i.set none))
section
variable {ts : List Ty} {t : Ty} {i : Mem ts t} {Q : Fl (Gam ts) ρ → Prop} {Γ : Gam ts} {d : ρ} {F : Gam ts → Option (Fl (Gam ts) ρ)}
theorem PubQ_nx : @PubQ ts t ρ i Q (@Fl.nx (no_index _) (no_index _) Γ) (@Kp.mk (no_index _) i) (@Kp.mk (no_index _) Q) = Q (.nx (i.set none Γ)) := rfl
theorem PubQ_bk : @PubQ ts t ρ i Q (@Fl.bk (no_index _) (no_index _) Γ) (@Kp.mk (no_index _) i) (@Kp.mk (no_index _) Q) = Q (.bk (i.set none Γ)) := rfl
theorem PubQ_ct : @PubQ ts t ρ i Q (@Fl.ct (no_index _) (no_index _) Γ) (@Kp.mk (no_index _) i) (@Kp.mk (no_index _) Q) = Q (.ct (i.set none Γ)) := rfl
theorem PubQ_rt : @PubQ ts t ρ i Q (@Fl.rt (no_index _) (no_index _) d Γ) (@Kp.mk (no_index _) i) (@Kp.mk (no_index _) Q) = Q (.rt d (i.set none Γ)) := rfl
theorem Ok_sPub : @Ok (no_index _) (sPub i F Γ) Q (@Kp.mk (no_index _) Q) = Ok (F Γ) fun f => PubQ i Q f := by
  unfold sPub
  rw [Ok_bind]
  exact Ok_cong fun _ => Ok_some
end
def AlQ {ts : List Ty} {k t : Ty} {ρ : Type} (i : Mem ts (.dict k (.own t))) (j : Mem ts t) (x : den k) (d : List (den k × den t)) (Q : Fl (Gam ts) ρ → Prop) (f : Fl (Gam ts) ρ) (_ : Kp i := ⟨⟩) (_ : Kp j := ⟨⟩) (_ : Kp Q := ⟨⟩) : Prop := match f with
  | .nx Γ => Ok (alEnd i j x d Fl.nx Γ) Q
  | .bk Γ => Ok (alEnd i j x d Fl.bk Γ) Q
  | .ct Γ => Ok (alEnd i j x d Fl.ct Γ) Q
  | .rt r Γ => Ok (alEnd i j x d (Fl.rt r) Γ) Q
section
variable {ts : List Ty} {k t : Ty} {i : Mem ts (.dict k (.own t))} {j : Mem ts t} {x : den k} {d : List (den k × den t)} {Q : Fl (Gam ts) ρ → Prop} {Γ : Gam ts} {r : ρ} {F : Gam ts → Option (Fl (Gam ts) ρ)} {D : Gam ts → Option (den k × List (den k × den t))}
theorem AlQ_nx : @AlQ ts k t ρ i j x d Q (@Fl.nx (no_index _) (no_index _) Γ) (@Kp.mk (no_index _) i) (@Kp.mk (no_index _) j) (@Kp.mk (no_index _) Q) = Ok (alEnd i j x d Fl.nx Γ) Q := rfl
theorem AlQ_bk : @AlQ ts k t ρ i j x d Q (@Fl.bk (no_index _) (no_index _) Γ) (@Kp.mk (no_index _) i) (@Kp.mk (no_index _) j) (@Kp.mk (no_index _) Q) = Ok (alEnd i j x d Fl.bk Γ) Q := rfl
theorem AlQ_ct : @AlQ ts k t ρ i j x d Q (@Fl.ct (no_index _) (no_index _) Γ) (@Kp.mk (no_index _) i) (@Kp.mk (no_index _) j) (@Kp.mk (no_index _) Q) = Ok (alEnd i j x d Fl.ct Γ) Q := rfl
theorem AlQ_rt : @AlQ ts k t ρ i j x d Q (@Fl.rt (no_index _) (no_index _) r Γ) (@Kp.mk (no_index _) i) (@Kp.mk (no_index _) j) (@Kp.mk (no_index _) Q) = Ok (alEnd i j x d (Fl.rt r) Γ) Q := rfl
theorem Ok_sAls : @Ok (no_index _) (sAls i j D F Γ) Q (@Kp.mk (no_index _) Q) = Ok (D Γ) fun q => Ok (fGetK (β := den t) q.2 q.1) fun y => Ok (F (j.set (some y) (i.set none Γ))) fun f => AlQ i j q.1 q.2 Q f := by
  unfold sAls
  rw [Ok_bind]
  refine Ok_cong fun q => ?_
  rw [Ok_bind]
  refine Ok_cong fun y => ?_
  rw [Ok_bind]
  refine Ok_cong fun f => ?_
  cases f <;> rfl
end
end
end VV
namespace Law
open PySem L2 VV
def topS (i : Nat) : Stmt := PySem.Challenge.pw_readgrove_k81_no_grammars.main.body.getD i (.Pass ⟨0, 0, 0, 0⟩)
structure Txt (K : PySem.W.Frag) (mg : Str → Option Value) : Prop where
  b_ValueError : mg "ValueError" = none
  b_all : mg "all" = none
  b_int : mg "int" = none
  b_isinstance : mg "isinstance" = none
  b_len : mg "len" = none
  b_list : mg "list" = none
  b_range : mg "range" = none
  b_str : mg "str" = none
  b_tuple : mg "tuple" = none
  c_FIGURES : ∃ t, mg "FIGURES" = some (.str "0123456789" t)
  c_GREAT_grammars : ∃ t, mg "GREAT_grammars" = some (.str "ABCDEFGHIJKLMNOPQRSTUVWXYZ" t)
  c_GREAT_texts : ∃ t, mg "GREAT_texts" = some (.str "ABCDEFGHIJKLMNOPQRSTUVWXYZ" t)
  c_LONGEST : ∃ t, mg "LONGEST" = some (.int 8 t)
  c_MOST_FIGURES : ∃ t, mg "MOST_FIGURES" = some (.int 60 t)
  c_SMALL : ∃ t, mg "SMALL" = some (.str "abcdefghijklmnopqrstuvwxyz" t)
  e_Endless : ∃ C, ErrC K mg "Endless" C
  e_GroveError : ∃ C, ErrC K mg "GroveError" C
  e_NoGrammar : ∃ C, ErrC K mg "NoGrammar" C
  e_NoOrder : ∃ C, ErrC K mg "NoOrder" C
  e_NoReading : ∃ C, ErrC K mg "NoReading" C
  e_NoText : ∃ C, ErrC K mg "NoText" C
  e_TooMany : ∃ C, ErrC K mg "TooMany" C
  i_NoGrammar_Endless : SubN K "NoGrammar" "Endless" false
  i_NoGrammar_GroveError : SubN K "NoGrammar" "GroveError" true
  i_NoGrammar_NoGrammar : SubN K "NoGrammar" "NoGrammar" true
  i_NoGrammar_NoOrder : SubN K "NoGrammar" "NoOrder" false
  i_NoGrammar_NoReading : SubN K "NoGrammar" "NoReading" false
  i_NoGrammar_NoText : SubN K "NoGrammar" "NoText" false
  i_NoGrammar_TooMany : SubN K "NoGrammar" "TooMany" false
  i_NoText_Endless : SubN K "NoText" "Endless" false
  i_NoText_GroveError : SubN K "NoText" "GroveError" true
  i_NoText_NoGrammar : SubN K "NoText" "NoGrammar" false
  i_NoText_NoOrder : SubN K "NoText" "NoOrder" false
  i_NoText_NoReading : SubN K "NoText" "NoReading" false
  i_NoText_NoText : SubN K "NoText" "NoText" true
  i_NoText_TooMany : SubN K "NoText" "TooMany" false
  j_NoGrammar_ValueError : SubB K "NoGrammar" "ValueError" true
  j_NoText_ValueError : SubB K "NoText" "ValueError" true
  n_Endless : PySem.W.subIn K (.type "NoneType") (.ref e_Endless.choose) = some false
  n_NoGrammar : PySem.W.subIn K (.type "NoneType") (.ref e_NoGrammar.choose) = some false
  n_NoOrder : PySem.W.subIn K (.type "NoneType") (.ref e_NoOrder.choose) = some false
  n_NoReading : PySem.W.subIn K (.type "NoneType") (.ref e_NoReading.choose) = some false
  n_NoText : PySem.W.subIn K (.type "NoneType") (.ref e_NoText.choose) = some false
  n_TooMany : PySem.W.subIn K (.type "NoneType") (.ref e_TooMany.choose) = some false
section
variable {K : KW} {mg : Str → Option Value} {base : Heap}
abbrev s__law_cell_at : Stmt := topS 27
abbrev N__law_cell_at : List Str := ["script", "k"]
abbrev P__law_cell_at : List Str := ["script", "k"]
theorem sc__law_cell_at : FnScope N__law_cell_at P__law_cell_at (defScope s__law_cell_at) := ⟨rfl, rfl, rfl, by decide +kernel, rfl, by decide +kernel, by decide +kernel⟩
abbrev g__law_cell_at : List Ty := [(Ty.list Ty.int), Ty.int]
abbrev M__law_cell_at : List Md := [.w, .w]
abbrev v__law_cell_at_script : Mem g__law_cell_at (Ty.list Ty.int) := .z
abbrev v__law_cell_at_k : Mem g__law_cell_at Ty.int := (.s .z)
noncomputable def b__law_cell_at : Gam g__law_cell_at → Option (Fl (Gam g__law_cell_at) (den Ty.int)) :=
  (sSeq (sIf (e2 fLt (eV (t := Ty.int) (v__law_cell_at_k)) (e1 fLen (eV (t := (Ty.list Ty.int)) (v__law_cell_at_script)))) (sRet (e2 atI (eV (t := (Ty.list Ty.int)) (v__law_cell_at_script)) (eV (t := Ty.int) (v__law_cell_at_k)))) sNext)
  (sRet (eC (0 : Int))))
noncomputable def m__law_cell_at : den (Ty.cons (Ty.list Ty.int) (Ty.last Ty.int)) → Option (den Ty.int) := hide (runG (Ty.cons (Ty.list Ty.int) (Ty.last Ty.int)) [] b__law_cell_at)
theorem m__law_cell_at_eq (d : den (Ty.cons (Ty.list Ty.int) (Ty.last Ty.int))) : m__law_cell_at d = runG (Ty.cons (Ty.list Ty.int) (Ty.last Ty.int)) [] b__law_cell_at d := congrFun (hide_eq _) d
theorem m__law_cell_at_at (p0 : den (Ty.list Ty.int)) (p1 : den Ty.int) : m__law_cell_at (p0, p1) = endOf (b__law_cell_at ((some p0, some p1, ()) : Gam g__law_cell_at)) := by
  rw [m__law_cell_at_eq]
  rfl
set_option maxHeartbeats 4000000 in
theorem ok__law_cell_at {f : Addr} {fd : FuncData} (F : Fun K "_law_cell_at" "_law_cell_at" s__law_cell_at f fd) (T : Txt K mg) :
    FnOk K.P K.w K mg base CX0 1 f fd P__law_cell_at (spP K (Ty.cons (Ty.list Ty.int) (Ty.last Ty.int)) .o Ty.int m__law_cell_at) := by
  have S := sc__law_cell_at
  refine fn_ok (F := b__law_cell_at) [] M__law_cell_at F S rfl rfl rfl m__law_cell_at_eq (fun cdv A outer s H E hr => ?_)
  refine ⟨_, (pss_cons (ps_if (pt_cmpR op_lt (pv 1) (pe_callB (r := VV.rLen K) call_len (by rfl) T.b_len (by decide +kernel) (pa_cons (pv 0) pa_nil)) (nomark _)) (pss_one (ps_ret (pe_ix (r := rIxL K) ix_list (pv 0) (pv 1) (fun _ _ => rfl)))) pss_nil)
  (pss_one (ps_ret pe_int))), ?_⟩
  exact (rs_seq (rs_if (rt_test (rp_op (m := .b) (m1 := .b) (m2 := .b) v_lt (rp_frz .b (rp_varw (ms := M__law_cell_at) (v__law_cell_at_k))) (rp_lenL (m' := .b) (rp_le (rp_varw (ms := M__law_cell_at) (v__law_cell_at_script)))))) (rs_ret (rm := .o) (ρ := Ty.int) (rp_frz .o (rp_op (m1 := .b) (m2 := .b) (v_ixL (t := Ty.int)) (rp_le (rp_varw (ms := M__law_cell_at) (v__law_cell_at_script))) (rp_frz .b (rp_varw (ms := M__law_cell_at) (v__law_cell_at_k)))))) rs_next)
  (rs_ret (rm := .o) (ρ := Ty.int) rp_int))
abbrev s__law_shown : Stmt := topS 32
abbrev N__law_shown : List Str := ["rules", "rows", "name", "parts", "cost", "row"]
abbrev P__law_shown : List Str := ["rules"]
theorem sc__law_shown : FnScope N__law_shown P__law_shown (defScope s__law_shown) := ⟨rfl, rfl, rfl, by decide +kernel, rfl, by decide +kernel, by decide +kernel⟩
abbrev g__law_shown : List Ty := [(Ty.list (Ty.tup (Ty.cons Ty.str (Ty.cons (Ty.vtup Ty.str) (Ty.last Ty.int))))), (Ty.list Ty.str), Ty.str, (Ty.vtup Ty.str), Ty.int, Ty.str]
abbrev M__law_shown : List Md := [.w, .o, .w, .w, .w, .w]
abbrev v__law_shown_rules : Mem g__law_shown (Ty.list (Ty.tup (Ty.cons Ty.str (Ty.cons (Ty.vtup Ty.str) (Ty.last Ty.int))))) := .z
abbrev v__law_shown_rows : Mem g__law_shown (Ty.list Ty.str) := (.s .z)
abbrev v__law_shown_name : Mem g__law_shown Ty.str := (.s (.s .z))
abbrev v__law_shown_parts : Mem g__law_shown (Ty.vtup Ty.str) := (.s (.s (.s .z)))
abbrev v__law_shown_cost : Mem g__law_shown Ty.int := (.s (.s (.s (.s .z))))
abbrev v__law_shown_row : Mem g__law_shown Ty.str := (.s (.s (.s (.s (.s .z)))))
noncomputable def lb__law_shown_1 : Gam g__law_shown → Option (Fl (Gam g__law_shown) (den Ty.str)) :=
  (sSeq (sSet (v__law_shown_row) (e2 fJoin (eC (Str.ofString " ")) (e2 fCatL (e1 fSmall (eSnoc (eV (t := Ty.str) (v__law_shown_name)) (eSnoc (eC (Str.ofString "=")) eNil))) (eV (t := (Ty.vtup Ty.str)) (v__law_shown_parts)))))
  (sSeq (sIf (e2 fGt (eV (t := Ty.int) (v__law_shown_cost)) (eC (0 : Int))) (sSet (v__law_shown_row) (e2 fCat (e2 fCat (eV (t := Ty.str) (v__law_shown_row)) (eC (Str.ofString " : "))) (e1 fStrI (eV (t := Ty.int) (v__law_shown_cost))))) sNext)
  (sApp (v__law_shown_rows) (eV (t := Ty.str) (v__law_shown_row)))))
noncomputable def lp__law_shown_1 : Gam g__law_shown → Option (Fl (Gam g__law_shown) (den Ty.str)) := hide (sFor (eV (t := (Ty.list (Ty.tup (Ty.cons Ty.str (Ty.cons (Ty.vtup Ty.str) (Ty.last Ty.int)))))) (v__law_shown_rules)) (bCons (bName (t := Ty.str) (v__law_shown_name)) (bCons (bName (t := (Ty.vtup Ty.str)) (v__law_shown_parts)) (bName (t := Ty.int) (v__law_shown_cost)))) (Gam.mask [false, true, false, false, false, false]) lb__law_shown_1)
theorem lp__law_shown_1_eq : lp__law_shown_1 = (sFor (eV (t := (Ty.list (Ty.tup (Ty.cons Ty.str (Ty.cons (Ty.vtup Ty.str) (Ty.last Ty.int)))))) (v__law_shown_rules)) (bCons (bName (t := Ty.str) (v__law_shown_name)) (bCons (bName (t := (Ty.vtup Ty.str)) (v__law_shown_parts)) (bName (t := Ty.int) (v__law_shown_cost)))) (Gam.mask [false, true, false, false, false, false]) lb__law_shown_1) := hide_eq _
noncomputable def b__law_shown : Gam g__law_shown → Option (Fl (Gam g__law_shown) (den Ty.str)) :=
  (sSeq (sSet (v__law_shown_rows) (e1 fSmall eNil))
  (sSeq lp__law_shown_1
  (sRet (e2 fJoin (eC (Str.ofString "\n")) (eV (t := (Ty.list Ty.str)) (v__law_shown_rows))))))
noncomputable def m__law_shown : den (Ty.last (Ty.list (Ty.tup (Ty.cons Ty.str (Ty.cons (Ty.vtup Ty.str) (Ty.last Ty.int)))))) → Option (den Ty.str) := hide (runG (Ty.last (Ty.list (Ty.tup (Ty.cons Ty.str (Ty.cons (Ty.vtup Ty.str) (Ty.last Ty.int)))))) [(Ty.list Ty.str), Ty.str, (Ty.vtup Ty.str), Ty.int, Ty.str] b__law_shown)
theorem m__law_shown_eq (d : den (Ty.last (Ty.list (Ty.tup (Ty.cons Ty.str (Ty.cons (Ty.vtup Ty.str) (Ty.last Ty.int))))))) : m__law_shown d = runG (Ty.last (Ty.list (Ty.tup (Ty.cons Ty.str (Ty.cons (Ty.vtup Ty.str) (Ty.last Ty.int)))))) [(Ty.list Ty.str), Ty.str, (Ty.vtup Ty.str), Ty.int, Ty.str] b__law_shown d := congrFun (hide_eq _) d
theorem m__law_shown_at (p0 : den (Ty.list (Ty.tup (Ty.cons Ty.str (Ty.cons (Ty.vtup Ty.str) (Ty.last Ty.int)))))) : m__law_shown (p0) = endOf (b__law_shown ((some p0, none, none, none, none, none, ()) : Gam g__law_shown)) := by
  rw [m__law_shown_eq]
  rfl
set_option maxHeartbeats 4000000 in
theorem ok__law_shown {f : Addr} {fd : FuncData} (F : Fun K "_law_shown" "_law_shown" s__law_shown f fd) (T : Txt K mg) :
    FnOk K.P K.w K mg base CX0 1 f fd P__law_shown (spP K (Ty.last (Ty.list (Ty.tup (Ty.cons Ty.str (Ty.cons (Ty.vtup Ty.str) (Ty.last Ty.int)))))) .o Ty.str m__law_shown) := by
  have S := sc__law_shown
  refine fn_ok (F := b__law_shown) [(Ty.list Ty.str), Ty.str, (Ty.vtup Ty.str), Ty.int, Ty.str] M__law_shown F S rfl rfl rfl m__law_shown_eq (fun cdv A outer s H E hr => ?_)
  refine ⟨_, (pss_cons (ps_set (i := 1) S.nd rfl (Or.inl rfl) (pe_lst pa_nil))
  (pss_cons (ps_for PassesOwn.never rfl (pi_listK K rfl (pv 0)) (pg_tupK (n := 3) K rfl rfl (pgs_cons (pg_name (i := 2) S.nd rfl (Or.inl rfl)) (pgs_cons (pg_name (i := 3) S.nd rfl (Or.inl rfl)) (pgs_cons (pg_name (i := 4) S.nd rfl (Or.inl rfl)) pgs_nil)))) (pss_cons (ps_set (i := 5) S.nd rfl (Or.inl rfl) (pe_joinK K rfl pe_str (pe_op (r := rCatR K) op_catR (pe_lst (pa_cons (pv 2) (pa_cons pe_str pa_nil))) (pe_callTy (r := rListOf K) call_list_of (by rfl) T.b_list (by decide +kernel) (pa_cons (pv 3) pa_nil)))))
  (pss_cons (ps_if (pt_cmpR op_gt (pv 4) pe_int (nomark _)) (pss_one (ps_set (i := 5) S.nd rfl (Or.inl rfl) (pe_op op_add_str (pe_op op_add_str (pv 5) pe_str) (pe_callTy call_str_int (by rfl) T.b_str (by decide +kernel) (pa_cons (pv 4) pa_nil))))) pss_nil)
  (pss_one (ps_expr (pe_bm PySem.F.plainAttrs_list PySem.F.slot_list_append PySem.F.type_list_append mt_append (pv 1) (pa_cons (pv 5) pa_nil)))))))
  (pss_one (ps_ret (pe_joinK K rfl pe_str (pv 1)))))), ?_⟩
  exact (rs_seq (rs_set (ms := M__law_shown) (m := .o) (v__law_shown_rows) (rp_list (t := Ty.str) rl_nil))
  (rs_seq (rs_hide (rs_for (w := true) (t := (Ty.tup (Ty.cons Ty.str (Ty.cons (Ty.vtup Ty.str) (Ty.last Ty.int))))) [false, true, false, false, false, false] (ri_list (w := true) (t := (Ty.tup (Ty.cons Ty.str (Ty.cons (Ty.vtup Ty.str) (Ty.last Ty.int))))) (rp_varw (ms := M__law_shown) (v__law_shown_rules))) (rg_tup (rgs_cons (rg_name (ms := M__law_shown) (v__law_shown_name)) (rgs_cons (rg_name (ms := M__law_shown) (v__law_shown_parts)) (rgs_one (rg_name (ms := M__law_shown) (v__law_shown_cost)))))) (rs_seq (rs_set (ms := M__law_shown) (m := .w) (v__law_shown_row) (rp_join (m1 := .b) (m2 := .b) (rp_str) (rp_le (rp_cat (m1 := .b) (m2 := .b) (rp_le (rp_list (t := Ty.str) (rl_cons (rp_frz .o (rp_varw (ms := M__law_shown) (v__law_shown_name))) (rl_cons (rp_str) rl_nil)))) (rp_le (rp_listV (m := .b) (t := Ty.str) (rp_frz .b (rp_varw (ms := M__law_shown) (v__law_shown_parts)))))))))
  (rs_seq (rs_if (rt_test (rp_op (m := .b) (m1 := .b) (m2 := .b) v_gt (rp_frz .b (rp_varw (ms := M__law_shown) (v__law_shown_cost))) rp_int)) (rs_set (ms := M__law_shown) (m := .w) (v__law_shown_row) (rp_op (m1 := .b) (m2 := .b) v_cat (rp_op (m1 := .b) (m2 := .b) v_cat (rp_frz .b (rp_varw (ms := M__law_shown) (v__law_shown_row))) (rp_str)) (rp_strI (m' := .b) (rp_frz .b (rp_varw (ms := M__law_shown) (v__law_shown_cost)))))) rs_next)
  (rs_app (ms := M__law_shown) (v__law_shown_rows) (rp_frz .o (rp_varw (ms := M__law_shown) (v__law_shown_row))))))))
  (rs_ret (rm := .o) (ρ := Ty.str) (rp_join (m1 := .b) (m2 := .b) (rp_str) (rp_var (ms := M__law_shown) (v__law_shown_rows))))))
abbrev s__law_heads : Stmt := topS 28
abbrev N__law_heads : List Str := ["cells", "found", "cell", "name", "k"]
abbrev P__law_heads : List Str := ["cells"]
theorem sc__law_heads : FnScope N__law_heads P__law_heads (defScope s__law_heads) := ⟨rfl, rfl, rfl, by decide +kernel, rfl, by decide +kernel, by decide +kernel⟩
abbrev g__law_heads : List Ty := [(Ty.list Ty.int), (Ty.list Ty.str), Ty.int, Ty.str, Ty.int]
abbrev M__law_heads : List Md := [.w, .o, .w, .w, .w]
abbrev v__law_heads_cells : Mem g__law_heads (Ty.list Ty.int) := .z
abbrev v__law_heads_found : Mem g__law_heads (Ty.list Ty.str) := (.s .z)
abbrev v__law_heads_cell : Mem g__law_heads Ty.int := (.s (.s .z))
abbrev v__law_heads_name : Mem g__law_heads Ty.str := (.s (.s (.s .z)))
abbrev v__law_heads_k : Mem g__law_heads Ty.int := (.s (.s (.s (.s .z))))
noncomputable def lc__law_heads_1 : Gam g__law_heads → Option (List (den Ty.str)) := hide (eLc (e1 fRng1 (e2 fAdd (eC (1 : Int)) (e2 fMod (e2 fDiv (eV (t := Ty.int) (v__law_heads_cell)) (eC (9 : Int))) (eC (8 : Int))))) (bName (t := Ty.int) (v__law_heads_k)) (Gam.mask [true, true, true, true, false]) eYes (e2 fIxS (eC (Str.ofString "QXYZABMN")) (e2 fMod (e2 fAdd (e2 fDiv (eV (t := Ty.int) (v__law_heads_cell)) (e2 fAdd (eV (t := Ty.int) (v__law_heads_k)) (eC (1 : Int)))) (e2 fMul (eV (t := Ty.int) (v__law_heads_k)) (eV (t := Ty.int) (v__law_heads_k)))) (eC (8 : Int)))))
theorem lc__law_heads_1_eq : lc__law_heads_1 = (eLc (e1 fRng1 (e2 fAdd (eC (1 : Int)) (e2 fMod (e2 fDiv (eV (t := Ty.int) (v__law_heads_cell)) (eC (9 : Int))) (eC (8 : Int))))) (bName (t := Ty.int) (v__law_heads_k)) (Gam.mask [true, true, true, true, false]) eYes (e2 fIxS (eC (Str.ofString "QXYZABMN")) (e2 fMod (e2 fAdd (e2 fDiv (eV (t := Ty.int) (v__law_heads_cell)) (e2 fAdd (eV (t := Ty.int) (v__law_heads_k)) (eC (1 : Int)))) (e2 fMul (eV (t := Ty.int) (v__law_heads_k)) (eV (t := Ty.int) (v__law_heads_k)))) (eC (8 : Int))))) := hide_eq _
noncomputable def lb__law_heads_1 : Gam g__law_heads → Option (Fl (Gam g__law_heads) (den (Ty.list Ty.str))) :=
  (sSeq (sSet (v__law_heads_cell) (e2 fMod (eV (t := Ty.int) (v__law_heads_cell)) (e2 fPow (eC (10 : Int)) (eC (40 : Int)))))
  (sSeq (sSet (v__law_heads_name) (e2 fJoin (eC (Str.ofString "")) lc__law_heads_1))
  (sSeq (sIf (e2 fEqI (e2 fMod (eV (t := Ty.int) (v__law_heads_cell)) (eC (3 : Int))) (eC (0 : Int))) (sSet (v__law_heads_name) (e2 fCat (e2 fCat (eV (t := Ty.str) (v__law_heads_name)) (eC (Str.ofString "_"))) (e1 fStrI (e2 fMod (e2 fDiv (eV (t := Ty.int) (v__law_heads_cell)) (eC (3 : Int))) (e2 atI (e1 fSmall (eSnoc (eC (10 : Int)) (eSnoc (eC (10000 : Int)) eNil))) (e2 fMod (e2 fDiv (eV (t := Ty.int) (v__law_heads_cell)) (eC (70 : Int))) (eC (2 : Int)))))))) sNext)
  (sIf (e2 (fNotInD Ty.str) (eV (t := Ty.str) (v__law_heads_name)) (eV (t := (Ty.list Ty.str)) (v__law_heads_found))) (sApp (v__law_heads_found) (eV (t := Ty.str) (v__law_heads_name))) sNext))))
noncomputable def lp__law_heads_1 : Gam g__law_heads → Option (Fl (Gam g__law_heads) (den (Ty.list Ty.str))) := hide (sFor (eV (t := (Ty.list Ty.int)) (v__law_heads_cells)) (bName (t := Ty.int) (v__law_heads_cell)) (Gam.mask [false, true, false, false, false]) lb__law_heads_1)
theorem lp__law_heads_1_eq : lp__law_heads_1 = (sFor (eV (t := (Ty.list Ty.int)) (v__law_heads_cells)) (bName (t := Ty.int) (v__law_heads_cell)) (Gam.mask [false, true, false, false, false]) lb__law_heads_1) := hide_eq _
noncomputable def b__law_heads : Gam g__law_heads → Option (Fl (Gam g__law_heads) (den (Ty.list Ty.str))) :=
  (sSeq (sSet (v__law_heads_found) (e1 fSmall eNil))
  (sSeq lp__law_heads_1
  (sRetM (v__law_heads_found))))
noncomputable def m__law_heads : den (Ty.last (Ty.list Ty.int)) → Option (den (Ty.list Ty.str)) := hide (runG (Ty.last (Ty.list Ty.int)) [(Ty.list Ty.str), Ty.int, Ty.str, Ty.int] b__law_heads)
theorem m__law_heads_eq (d : den (Ty.last (Ty.list Ty.int))) : m__law_heads d = runG (Ty.last (Ty.list Ty.int)) [(Ty.list Ty.str), Ty.int, Ty.str, Ty.int] b__law_heads d := congrFun (hide_eq _) d
theorem m__law_heads_at (p0 : den (Ty.list Ty.int)) : m__law_heads (p0) = endOf (b__law_heads ((some p0, none, none, none, none, ()) : Gam g__law_heads)) := by
  rw [m__law_heads_eq]
  rfl
set_option maxHeartbeats 4000000 in
theorem ok__law_heads {f : Addr} {fd : FuncData} (F : Fun K "_law_heads" "_law_heads" s__law_heads f fd) (T : Txt K mg) :
    FnOk K.P K.w K mg base CX0 1 f fd P__law_heads (spP K (Ty.last (Ty.list Ty.int)) .o (Ty.list Ty.str) m__law_heads) := by
  have S := sc__law_heads
  refine fn_ok (F := b__law_heads) [(Ty.list Ty.str), Ty.int, Ty.str, Ty.int] M__law_heads F S rfl rfl rfl m__law_heads_eq (fun cdv A outer s H E hr => ?_)
  refine ⟨_, (pss_cons (ps_set (i := 1) S.nd rfl (Or.inl rfl) (pe_lst pa_nil))
  (pss_cons (ps_for PassesOwn.never rfl (pi_listK K rfl (pv 0)) (pg_name (i := 2) S.nd rfl (Or.inr rfl)) (pss_cons (ps_set (i := 2) S.nd rfl (Or.inr rfl) (pe_op op_mod (pv 2) (pe_op op_pow pe_int pe_int)))
  (pss_cons (ps_set (i := 3) S.nd rfl (Or.inl rfl) (pe_joinK K rfl pe_str (pe_lc (own := [("k", 4)]) rfl S.nd (pi_range1 rfl T.b_range (pa_cons (pe_op op_add pe_int (pe_op op_mod (pe_op op_fdivW (pv 2) pe_int) pe_int)) pa_nil)) (blkOk_by (N := N__law_heads) (sc := defScope s__law_heads) (by decide +kernel)) (fun _ _ _ _ _ => (pg_name (i := 4) S.nd rfl (Or.inl rfl))) (fun _ _ _ _ _ => pts_nil) (fun _ _ _ _ _ => (pe_ix (r := rIxS) ix_str pe_str (pe_op op_mod (pe_op op_add (pe_op op_fdivW (pv 2) (pe_op op_add (pv 4) pe_int)) (pe_op op_mulW (pv 4) (pv 4))) pe_int) (fun _ _ => rfl))))))
  (pss_cons (ps_if (pt_cmpR op_eq (pe_op op_mod (pv 2) pe_int) pe_int (nomark _)) (pss_one (ps_set (i := 3) S.nd rfl (Or.inl rfl) (pe_op op_add_str (pe_op op_add_str (pv 3) pe_str) (pe_callTy call_str_int (by rfl) T.b_str (by decide +kernel) (pa_cons (pe_op op_mod (pe_op op_fdivW (pv 2) pe_int) (pe_ix (r := rIxL K) ix_list (pe_lst (pa_cons pe_int (pa_cons pe_int pa_nil))) (pe_op op_mod (pe_op op_fdivW (pv 2) pe_int) pe_int) (fun _ _ => rfl))) pa_nil))))) pss_nil)
  (pss_one (ps_if (pt_cmpR (r := rNotInD K) (op_notInD (hu65 hr)) (pv 3) (pv 1) (by rfl)) (pss_one (ps_expr (pe_bm PySem.F.plainAttrs_list PySem.F.slot_list_append PySem.F.type_list_append mt_append (pv 1) (pa_cons (pv 3) pa_nil)))) pss_nil))))))
  (pss_one (ps_ret (pv 1))))), ?_⟩
  exact (rs_seq (rs_set (ms := M__law_heads) (m := .o) (v__law_heads_found) (rp_list (t := Ty.str) rl_nil))
  (rs_seq (rs_hide (rs_for (w := true) (t := Ty.int) [false, true, false, false, false] (ri_list (w := true) (t := Ty.int) (rp_varw (ms := M__law_heads) (v__law_heads_cells))) (rg_name (ms := M__law_heads) (v__law_heads_cell)) (rs_seq (rs_set (ms := M__law_heads) (m := .w) (v__law_heads_cell) (rp_op (m1 := .b) (m2 := .b) v_mod (rp_frz .b (rp_varw (ms := M__law_heads) (v__law_heads_cell))) (rp_op (m1 := .b) (m2 := .b) v_pow rp_int rp_int)))
  (rs_seq (rs_set (ms := M__law_heads) (m := .w) (v__law_heads_name) (rp_join (m1 := .b) (m2 := .b) (rp_str) (rp_le (rp_hide (rp_lc (w := false) (m := .o) (t := Ty.int) (u := Ty.str) [true, true, true, true, false] [4] (ris_of (ri_rng1 (w := false) (m := .b) (ra_one (rp_op (m1 := .b) (m2 := .b) v_add rp_int (rp_op (m1 := .b) (m2 := .b) v_mod (rp_op (m1 := .b) (m2 := .b) v_div (rp_frz .b (rp_varw (ms := M__law_heads) (v__law_heads_cell))) rp_int) rp_int))))) (rg_name (ms := M__law_heads) (v__law_heads_k)) gw_name rt_yes (rp_op (m1 := .b) (m2 := .b) v_ixS (rp_str) (rp_op (m1 := .b) (m2 := .b) v_mod (rp_op (m1 := .b) (m2 := .b) v_add (rp_op (m1 := .b) (m2 := .b) v_div (rp_frz .b (rp_varw (ms := M__law_heads) (v__law_heads_cell))) (rp_op (m1 := .b) (m2 := .b) v_add (rp_frz .b (rp_varw (ms := M__law_heads) (v__law_heads_k))) rp_int)) (rp_op (m1 := .b) (m2 := .b) v_mul (rp_frz .b (rp_varw (ms := M__law_heads) (v__law_heads_k))) (rp_frz .b (rp_varw (ms := M__law_heads) (v__law_heads_k))))) rp_int)))))))
  (rs_seq (rs_if (rt_test (rp_op (m := .b) (m1 := .b) (m2 := .b) v_eqI (rp_op (m1 := .b) (m2 := .b) v_mod (rp_frz .b (rp_varw (ms := M__law_heads) (v__law_heads_cell))) rp_int) rp_int)) (rs_set (ms := M__law_heads) (m := .w) (v__law_heads_name) (rp_op (m1 := .b) (m2 := .b) v_cat (rp_op (m1 := .b) (m2 := .b) v_cat (rp_frz .b (rp_varw (ms := M__law_heads) (v__law_heads_name))) (rp_str)) (rp_strI (m' := .b) (rp_op (m1 := .b) (m2 := .b) v_mod (rp_op (m1 := .b) (m2 := .b) v_div (rp_frz .b (rp_varw (ms := M__law_heads) (v__law_heads_cell))) rp_int) (rp_op (m1 := .b) (m2 := .b) (v_ixL (t := Ty.int)) (rp_le (rp_list (t := Ty.int) (rl_cons rp_int (rl_cons rp_int rl_nil)))) (rp_op (m1 := .b) (m2 := .b) v_mod (rp_op (m1 := .b) (m2 := .b) v_div (rp_frz .b (rp_varw (ms := M__law_heads) (v__law_heads_cell))) rp_int) rp_int)))))) rs_next)
  (rs_if (rt_test (rp_op (m := .b) (m1 := .b) (m2 := .b) (v_notInD (t := Ty.str) (by decide)) (rp_frz .b (rp_varw (ms := M__law_heads) (v__law_heads_name))) (rp_var (ms := M__law_heads) (v__law_heads_found)))) (rs_app (ms := M__law_heads) (v__law_heads_found) (rp_frz .o (rp_varw (ms := M__law_heads) (v__law_heads_name)))) rs_next))))))
  (rs_retm (ms := M__law_heads) (v__law_heads_found))))
abbrev s__law_word : Stmt := topS 29
abbrev N__law_word : List Str := ["number", "k"]
abbrev P__law_word : List Str := ["number"]
theorem sc__law_word : FnScope N__law_word P__law_word (defScope s__law_word) := ⟨rfl, rfl, rfl, by decide +kernel, rfl, by decide +kernel, by decide +kernel⟩
abbrev g__law_word : List Ty := [Ty.int, Ty.int]
abbrev M__law_word : List Md := [.w, .w]
abbrev v__law_word_number : Mem g__law_word Ty.int := .z
abbrev v__law_word_k : Mem g__law_word Ty.int := (.s .z)
noncomputable def lc__law_word_1 : Gam g__law_word → Option (List (den Ty.str)) := hide (eLc (e1 fRng1 (e2 fAdd (eC (1 : Int)) (e2 fMod (e2 fDiv (eV (t := Ty.int) (v__law_word_number)) (eC (5 : Int))) (eC (8 : Int))))) (bName (t := Ty.int) (v__law_word_k)) (Gam.mask [true, false]) eYes (e2 fIxS (eC (Str.ofString "eatonihsr")) (e2 fMod (e2 fAdd (e2 fDiv (eV (t := Ty.int) (v__law_word_number)) (e2 fAdd (eV (t := Ty.int) (v__law_word_k)) (eC (1 : Int)))) (eV (t := Ty.int) (v__law_word_k))) (eC (9 : Int)))))
theorem lc__law_word_1_eq : lc__law_word_1 = (eLc (e1 fRng1 (e2 fAdd (eC (1 : Int)) (e2 fMod (e2 fDiv (eV (t := Ty.int) (v__law_word_number)) (eC (5 : Int))) (eC (8 : Int))))) (bName (t := Ty.int) (v__law_word_k)) (Gam.mask [true, false]) eYes (e2 fIxS (eC (Str.ofString "eatonihsr")) (e2 fMod (e2 fAdd (e2 fDiv (eV (t := Ty.int) (v__law_word_number)) (e2 fAdd (eV (t := Ty.int) (v__law_word_k)) (eC (1 : Int)))) (eV (t := Ty.int) (v__law_word_k))) (eC (9 : Int))))) := hide_eq _
noncomputable def b__law_word : Gam g__law_word → Option (Fl (Gam g__law_word) (den Ty.str)) :=
  (sRet (e2 fJoin (eC (Str.ofString "")) lc__law_word_1))
noncomputable def m__law_word : den (Ty.last Ty.int) → Option (den Ty.str) := hide (runG (Ty.last Ty.int) [Ty.int] b__law_word)
theorem m__law_word_eq (d : den (Ty.last Ty.int)) : m__law_word d = runG (Ty.last Ty.int) [Ty.int] b__law_word d := congrFun (hide_eq _) d
theorem m__law_word_at (p0 : den Ty.int) : m__law_word (p0) = endOf (b__law_word ((some p0, none, ()) : Gam g__law_word)) := by
  rw [m__law_word_eq]
  rfl
set_option maxHeartbeats 4000000 in
theorem ok__law_word {f : Addr} {fd : FuncData} (F : Fun K "_law_word" "_law_word" s__law_word f fd) (T : Txt K mg) :
    FnOk K.P K.w K mg base CX0 1 f fd P__law_word (spP K (Ty.last Ty.int) .o Ty.str m__law_word) := by
  have S := sc__law_word
  refine fn_ok (F := b__law_word) [Ty.int] M__law_word F S rfl rfl rfl m__law_word_eq (fun cdv A outer s H E hr => ?_)
  refine ⟨_, (pss_one (ps_ret (pe_joinK K rfl pe_str (pe_lc (own := [("k", 1)]) rfl S.nd (pi_range1 rfl T.b_range (pa_cons (pe_op op_add pe_int (pe_op op_mod (pe_op op_fdivW (pv 0) pe_int) pe_int)) pa_nil)) (blkOk_by (N := N__law_word) (sc := defScope s__law_word) (by decide +kernel)) (fun _ _ _ _ _ => (pg_name (i := 1) S.nd rfl (Or.inl rfl))) (fun _ _ _ _ _ => pts_nil) (fun _ _ _ _ _ => (pe_ix (r := rIxS) ix_str pe_str (pe_op op_mod (pe_op op_add (pe_op op_fdivW (pv 0) (pe_op op_add (pv 1) pe_int)) (pv 1)) pe_int) (fun _ _ => rfl))))))), ?_⟩
  exact (rs_ret (rm := .o) (ρ := Ty.str) (rp_join (m1 := .b) (m2 := .b) (rp_str) (rp_le (rp_hide (rp_lc (w := false) (m := .o) (t := Ty.int) (u := Ty.str) [true, false] [1] (ris_of (ri_rng1 (w := false) (m := .b) (ra_one (rp_op (m1 := .b) (m2 := .b) v_add rp_int (rp_op (m1 := .b) (m2 := .b) v_mod (rp_op (m1 := .b) (m2 := .b) v_div (rp_frz .b (rp_varw (ms := M__law_word) (v__law_word_number))) rp_int) rp_int))))) (rg_name (ms := M__law_word) (v__law_word_k)) gw_name rt_yes (rp_op (m1 := .b) (m2 := .b) v_ixS (rp_str) (rp_op (m1 := .b) (m2 := .b) v_mod (rp_op (m1 := .b) (m2 := .b) v_add (rp_op (m1 := .b) (m2 := .b) v_div (rp_frz .b (rp_varw (ms := M__law_word) (v__law_word_number))) (rp_op (m1 := .b) (m2 := .b) v_add (rp_frz .b (rp_varw (ms := M__law_word) (v__law_word_k))) rp_int)) (rp_frz .b (rp_varw (ms := M__law_word) (v__law_word_k)))) rp_int)))))))
abbrev s__law_rule : Stmt := topS 30
abbrev N__law_rule : List Str := ["cell", "k", "heads", "name", "parts", "j", "one"]
abbrev P__law_rule : List Str := ["cell", "k", "heads"]
theorem sc__law_rule : FnScope N__law_rule P__law_rule (defScope s__law_rule) := ⟨rfl, rfl, rfl, by decide +kernel, rfl, by decide +kernel, by decide +kernel⟩
abbrev g__law_rule : List Ty := [Ty.int, Ty.int, (Ty.list Ty.str), Ty.str, (Ty.list Ty.str), Ty.int, Ty.int]
abbrev M__law_rule : List Md := [.w, .w, .w, .w, .o, .w, .w]
abbrev v__law_rule_cell : Mem g__law_rule Ty.int := .z
abbrev v__law_rule_k : Mem g__law_rule Ty.int := (.s .z)
abbrev v__law_rule_heads : Mem g__law_rule (Ty.list Ty.str) := (.s (.s .z))
abbrev v__law_rule_name : Mem g__law_rule Ty.str := (.s (.s (.s .z)))
abbrev v__law_rule_parts : Mem g__law_rule (Ty.list Ty.str) := (.s (.s (.s (.s .z))))
abbrev v__law_rule_j : Mem g__law_rule Ty.int := (.s (.s (.s (.s (.s .z)))))
abbrev v__law_rule_one : Mem g__law_rule Ty.int := (.s (.s (.s (.s (.s (.s .z))))))
noncomputable def lb__law_rule_1 : Gam g__law_rule → Option (Fl (Gam g__law_rule) (den (Ty.tup (Ty.cons Ty.str (Ty.cons (Ty.vtup Ty.str) (Ty.last Ty.int)))))) :=
  (sSeq (sSet (v__law_rule_one) (e2 fMod (e2 fDiv (e2 fAdd (eV (t := Ty.int) (v__law_rule_cell)) (e2 fMul (eV (t := Ty.int) (v__law_rule_j)) (eC (7919 : Int)))) (e2 fAdd (eC (11 : Int)) (eV (t := Ty.int) (v__law_rule_j)))) (e2 fPow (eC (10 : Int)) (eC (20 : Int)))))
  (sApp (v__law_rule_parts) (e2 atI (e1 fSmall (eSnoc (e1 m__law_word (e2 fDiv (eV (t := Ty.int) (v__law_rule_one)) (eC (2 : Int)))) (eSnoc (e2 atI (eV (t := (Ty.list Ty.str)) (v__law_rule_heads)) (e2 fMod (e2 fDiv (eV (t := Ty.int) (v__law_rule_one)) (eC (2 : Int))) (e1 fLen (eV (t := (Ty.list Ty.str)) (v__law_rule_heads))))) eNil))) (e2 fMod (eV (t := Ty.int) (v__law_rule_one)) (eC (2 : Int))))))
noncomputable def lp__law_rule_1 : Gam g__law_rule → Option (Fl (Gam g__law_rule) (den (Ty.tup (Ty.cons Ty.str (Ty.cons (Ty.vtup Ty.str) (Ty.last Ty.int)))))) := hide (sFor (e1 fRng1 (e2 fMod (eV (t := Ty.int) (v__law_rule_cell)) (eC (4 : Int)))) (bName (t := Ty.int) (v__law_rule_j)) (Gam.mask [true, false, true, true, true, false, false]) lb__law_rule_1)
theorem lp__law_rule_1_eq : lp__law_rule_1 = (sFor (e1 fRng1 (e2 fMod (eV (t := Ty.int) (v__law_rule_cell)) (eC (4 : Int)))) (bName (t := Ty.int) (v__law_rule_j)) (Gam.mask [true, false, true, true, true, false, false]) lb__law_rule_1) := hide_eq _
noncomputable def b__law_rule : Gam g__law_rule → Option (Fl (Gam g__law_rule) (den (Ty.tup (Ty.cons Ty.str (Ty.cons (Ty.vtup Ty.str) (Ty.last Ty.int)))))) :=
  (sSeq (sSet (v__law_rule_cell) (e2 fMod (eV (t := Ty.int) (v__law_rule_cell)) (e2 fPow (eC (10 : Int)) (eC (40 : Int)))))
  (sSeq (sSet (v__law_rule_name) (e2 atI (eV (t := (Ty.list Ty.str)) (v__law_rule_heads)) (e2 fMod (e2 fDiv (eV (t := Ty.int) (v__law_rule_cell)) (eC (7 : Int))) (e1 fLen (eV (t := (Ty.list Ty.str)) (v__law_rule_heads))))))
  (sSeq (sIf (e2 fLt (eV (t := Ty.int) (v__law_rule_k)) (e1 fLen (eV (t := (Ty.list Ty.str)) (v__law_rule_heads)))) (sSet (v__law_rule_name) (e2 atI (eV (t := (Ty.list Ty.str)) (v__law_rule_heads)) (eV (t := Ty.int) (v__law_rule_k)))) sNext)
  (sSeq (sSet (v__law_rule_parts) (e1 fSmall eNil))
  (sSeq lp__law_rule_1
  (sRet (eCons (eV (t := Ty.str) (v__law_rule_name)) (eCons (eV (t := (Ty.list Ty.str)) (v__law_rule_parts)) (e2 atI (e1 fSmall (eSnoc (eC (0 : Int)) (eSnoc (eC (0 : Int)) (eSnoc (e2 fMod (e2 fDiv (eV (t := Ty.int) (v__law_rule_cell)) (eC (50 : Int))) (eC (12 : Int))) (eSnoc (e2 fMod (e2 fMul (e2 fAdd (eV (t := Ty.int) (v__law_rule_cell)) (eC (1 : Int))) (e2 fAdd (eV (t := Ty.int) (v__law_rule_cell)) (eC (3 : Int)))) (e2 fPow (eC (10 : Int)) (eC (60 : Int)))) eNil))))) (e2 fMod (e2 fDiv (eV (t := Ty.int) (v__law_rule_cell)) (eC (5 : Int))) (eC (4 : Int))))))))))))
noncomputable def m__law_rule : den (Ty.cons Ty.int (Ty.cons Ty.int (Ty.last (Ty.list Ty.str)))) → Option (den (Ty.tup (Ty.cons Ty.str (Ty.cons (Ty.vtup Ty.str) (Ty.last Ty.int))))) := hide (runG (Ty.cons Ty.int (Ty.cons Ty.int (Ty.last (Ty.list Ty.str)))) [Ty.str, (Ty.list Ty.str), Ty.int, Ty.int] b__law_rule)
theorem m__law_rule_eq (d : den (Ty.cons Ty.int (Ty.cons Ty.int (Ty.last (Ty.list Ty.str))))) : m__law_rule d = runG (Ty.cons Ty.int (Ty.cons Ty.int (Ty.last (Ty.list Ty.str)))) [Ty.str, (Ty.list Ty.str), Ty.int, Ty.int] b__law_rule d := congrFun (hide_eq _) d
theorem m__law_rule_at (p0 : den Ty.int) (p1 : den Ty.int) (p2 : den (Ty.list Ty.str)) : m__law_rule (p0, p1, p2) = endOf (b__law_rule ((some p0, some p1, some p2, none, none, none, none, ()) : Gam g__law_rule)) := by
  rw [m__law_rule_eq]
  rfl
set_option maxHeartbeats 4000000 in
theorem ok__law_rule {f : Addr} {fd : FuncData} (F : Fun K "_law_rule" "_law_rule" s__law_rule f fd) (T : Txt K mg) {f__law_word : Addr} {fd__law_word : FuncData} (D__law_word : Df K mg "_law_word" "_law_word" s__law_word P__law_word f__law_word fd__law_word) (G__law_word : FnOk K.P K.w K mg base CX0 1 f__law_word fd__law_word P__law_word (spP K (Ty.last Ty.int) .o Ty.str m__law_word)) :
    FnOk K.P K.w K mg base CX0 2 f fd P__law_rule (spP K (Ty.cons Ty.int (Ty.cons Ty.int (Ty.last (Ty.list Ty.str)))) .o (Ty.tup (Ty.cons Ty.str (Ty.cons (Ty.vtup Ty.str) (Ty.last Ty.int)))) m__law_rule) := by
  have S := sc__law_rule
  refine fn_ok (F := b__law_rule) [Ty.str, (Ty.list Ty.str), Ty.int, Ty.int] M__law_rule F S rfl rfl rfl m__law_rule_eq (fun cdv A outer s H E hr => ?_)
  refine ⟨_, (pss_cons (ps_set (i := 0) S.nd rfl (Or.inl rfl) (pe_op op_mod (pv 0) (pe_op op_pow pe_int pe_int)))
  (pss_cons (ps_set (i := 3) S.nd rfl (Or.inl rfl) (pe_ix (r := rIxL K) ix_list (pv 2) (pe_op op_mod (pe_op op_fdivW (pv 0) pe_int) (pe_callB (r := VV.rLen K) call_len (by rfl) T.b_len (by decide +kernel) (pa_cons (pv 2) pa_nil))) (fun _ _ => rfl)))
  (pss_cons (ps_if (pt_cmpR op_lt (pv 1) (pe_callB (r := VV.rLen K) call_len (by rfl) T.b_len (by decide +kernel) (pa_cons (pv 2) pa_nil)) (nomark _)) (pss_one (ps_set (i := 3) S.nd rfl (Or.inl rfl) (pe_ix (r := rIxL K) ix_list (pv 2) (pv 1) (fun _ _ => rfl)))) pss_nil)
  (pss_cons (ps_set (i := 4) S.nd rfl (Or.inl rfl) (pe_lst pa_nil))
  (pss_cons (ps_for PassesOwn.never rfl (pi_range1 rfl T.b_range (pa_cons (pe_op op_mod (pv 0) pe_int) pa_nil)) (pg_name (i := 5) S.nd rfl (Or.inl rfl)) (pss_cons (ps_set (i := 6) S.nd rfl (Or.inl rfl) (pe_op op_mod (pe_op op_fdivW (pe_op op_add (pv 0) (pe_op op_mulW (pv 5) pe_int)) (pe_op op_add pe_int (pv 5))) (pe_op op_pow pe_int pe_int)))
  (pss_one (ps_expr (pe_bm PySem.F.plainAttrs_list PySem.F.slot_list_append PySem.F.type_list_append mt_append (pv 4) (pa_cons (pe_ix (r := rIxL K) ix_list (pe_lst (pa_cons (pe_call G__law_word (hr.mono (by decide)) rfl D__law_word.gl D__law_word.fn.kp D__law_word.bi .nil pass0 (pa_cons (pe_op op_fdivW (pv 6) pe_int) pa_nil)) (pa_cons (pe_ix (r := rIxL K) ix_list (pv 2) (pe_op op_mod (pe_op op_fdivW (pv 6) pe_int) (pe_callB (r := VV.rLen K) call_len (by rfl) T.b_len (by decide +kernel) (pa_cons (pv 2) pa_nil))) (fun _ _ => rfl)) pa_nil))) (pe_op op_mod (pv 6) pe_int) (fun _ _ => rfl)) pa_nil))))))
  (pss_one (ps_ret (pe_tup (pa_cons (pv 3) (pa_cons (pe_callTy (r := rTupOf K) call_tuple_of (by rfl) T.b_tuple (by decide +kernel) (pa_cons (pv 4) pa_nil)) (pa_cons (pe_ix (r := rIxL K) ix_list (pe_lst (pa_cons pe_int (pa_cons pe_int (pa_cons (pe_op op_mod (pe_op op_fdivW (pv 0) pe_int) pe_int) (pa_cons (pe_op op_mod (pe_op op_mulW (pe_op op_add (pv 0) pe_int) (pe_op op_add (pv 0) pe_int)) (pe_op op_pow pe_int pe_int)) pa_nil))))) (pe_op op_mod (pe_op op_fdivW (pv 0) pe_int) pe_int) (fun _ _ => rfl)) pa_nil))))))))))), ?_⟩
  exact (rs_seq (rs_set (ms := M__law_rule) (m := .w) (v__law_rule_cell) (rp_op (m1 := .b) (m2 := .b) v_mod (rp_frz .b (rp_varw (ms := M__law_rule) (v__law_rule_cell))) (rp_op (m1 := .b) (m2 := .b) v_pow rp_int rp_int)))
  (rs_seq (rs_set (ms := M__law_rule) (m := .w) (v__law_rule_name) (rp_frz .w (rp_op (m1 := .b) (m2 := .b) (v_ixL (t := Ty.str)) (rp_le (rp_varw (ms := M__law_rule) (v__law_rule_heads))) (rp_op (m1 := .b) (m2 := .b) v_mod (rp_op (m1 := .b) (m2 := .b) v_div (rp_frz .b (rp_varw (ms := M__law_rule) (v__law_rule_cell))) rp_int) (rp_lenL (m' := .b) (rp_le (rp_varw (ms := M__law_rule) (v__law_rule_heads))))))))
  (rs_seq (rs_if (rt_test (rp_op (m := .b) (m1 := .b) (m2 := .b) v_lt (rp_frz .b (rp_varw (ms := M__law_rule) (v__law_rule_k))) (rp_lenL (m' := .b) (rp_le (rp_varw (ms := M__law_rule) (v__law_rule_heads)))))) (rs_set (ms := M__law_rule) (m := .w) (v__law_rule_name) (rp_frz .w (rp_op (m1 := .b) (m2 := .b) (v_ixL (t := Ty.str)) (rp_le (rp_varw (ms := M__law_rule) (v__law_rule_heads))) (rp_frz .b (rp_varw (ms := M__law_rule) (v__law_rule_k)))))) rs_next)
  (rs_seq (rs_set (ms := M__law_rule) (m := .o) (v__law_rule_parts) (rp_list (t := Ty.str) rl_nil))
  (rs_seq (rs_hide (rs_for (w := false) (t := Ty.int) [true, false, true, true, true, false, false] (ri_rng1 (w := false) (m := .b) (ra_one (rp_op (m1 := .b) (m2 := .b) v_mod (rp_frz .b (rp_varw (ms := M__law_rule) (v__law_rule_cell))) rp_int))) (rg_name (ms := M__law_rule) (v__law_rule_j)) (rs_seq (rs_set (ms := M__law_rule) (m := .w) (v__law_rule_one) (rp_op (m1 := .b) (m2 := .b) v_mod (rp_op (m1 := .b) (m2 := .b) v_div (rp_op (m1 := .b) (m2 := .b) v_add (rp_frz .b (rp_varw (ms := M__law_rule) (v__law_rule_cell))) (rp_op (m1 := .b) (m2 := .b) v_mul (rp_frz .b (rp_varw (ms := M__law_rule) (v__law_rule_j))) rp_int)) (rp_op (m1 := .b) (m2 := .b) v_add rp_int (rp_frz .b (rp_varw (ms := M__law_rule) (v__law_rule_j))))) (rp_op (m1 := .b) (m2 := .b) v_pow rp_int rp_int)))
  (rs_app (ms := M__law_rule) (v__law_rule_parts) (rp_frz .o (rp_op (m1 := .b) (m2 := .b) (v_ixL (t := Ty.str)) (rp_le (rp_list (t := Ty.str) (rl_cons (rp_call (mA := .b) (rm := .o) (ρ := Ty.str) (m := m__law_word) rfl (ra_one (rp_op (m1 := .b) (m2 := .b) v_div (rp_frz .b (rp_varw (ms := M__law_rule) (v__law_rule_one))) rp_int))) (rl_cons (rp_frz .o (rp_op (m1 := .b) (m2 := .b) (v_ixL (t := Ty.str)) (rp_le (rp_varw (ms := M__law_rule) (v__law_rule_heads))) (rp_op (m1 := .b) (m2 := .b) v_mod (rp_op (m1 := .b) (m2 := .b) v_div (rp_frz .b (rp_varw (ms := M__law_rule) (v__law_rule_one))) rp_int) (rp_lenL (m' := .b) (rp_le (rp_varw (ms := M__law_rule) (v__law_rule_heads))))))) rl_nil)))) (rp_op (m1 := .b) (m2 := .b) v_mod (rp_frz .b (rp_varw (ms := M__law_rule) (v__law_rule_one))) rp_int)))))))
  (rs_ret (rm := .o) (ρ := (Ty.tup (Ty.cons Ty.str (Ty.cons (Ty.vtup Ty.str) (Ty.last Ty.int))))) (rp_tup (m := .o) (ra_cons (rp_frz .o (rp_varw (ms := M__law_rule) (v__law_rule_name))) (ra_cons (rp_tupL (m' := .b) (t := Ty.str) (rp_var (ms := M__law_rule) (v__law_rule_parts))) (ra_one (rp_frz .o (rp_op (m1 := .b) (m2 := .b) (v_ixL (t := Ty.int)) (rp_le (rp_list (t := Ty.int) (rl_cons rp_int (rl_cons rp_int (rl_cons (rp_op (m1 := .b) (m2 := .b) v_mod (rp_op (m1 := .b) (m2 := .b) v_div (rp_frz .b (rp_varw (ms := M__law_rule) (v__law_rule_cell))) rp_int) rp_int) (rl_cons (rp_op (m1 := .b) (m2 := .b) v_mod (rp_op (m1 := .b) (m2 := .b) v_mul (rp_op (m1 := .b) (m2 := .b) v_add (rp_frz .b (rp_varw (ms := M__law_rule) (v__law_rule_cell))) rp_int) (rp_op (m1 := .b) (m2 := .b) v_add (rp_frz .b (rp_varw (ms := M__law_rule) (v__law_rule_cell))) rp_int)) (rp_op (m1 := .b) (m2 := .b) v_pow rp_int rp_int)) rl_nil)))))) (rp_op (m1 := .b) (m2 := .b) v_mod (rp_op (m1 := .b) (m2 := .b) v_div (rp_frz .b (rp_varw (ms := M__law_rule) (v__law_rule_cell))) rp_int) rp_int)))))))))))))
abbrev s__law_rules : Stmt := topS 31
abbrev N__law_rules : List Str := ["script", "heads", "rules", "k"]
abbrev P__law_rules : List Str := ["script"]
theorem sc__law_rules : FnScope N__law_rules P__law_rules (defScope s__law_rules) := ⟨rfl, rfl, rfl, by decide +kernel, rfl, by decide +kernel, by decide +kernel⟩
abbrev g__law_rules : List Ty := [(Ty.list Ty.int), (Ty.list Ty.str), (Ty.list (Ty.tup (Ty.cons Ty.str (Ty.cons (Ty.vtup Ty.str) (Ty.last Ty.int))))), Ty.int]
abbrev M__law_rules : List Md := [.w, .l, .o, .w]
abbrev v__law_rules_script : Mem g__law_rules (Ty.list Ty.int) := .z
abbrev v__law_rules_heads : Mem g__law_rules (Ty.list Ty.str) := (.s .z)
abbrev v__law_rules_rules : Mem g__law_rules (Ty.list (Ty.tup (Ty.cons Ty.str (Ty.cons (Ty.vtup Ty.str) (Ty.last Ty.int))))) := (.s (.s .z))
abbrev v__law_rules_k : Mem g__law_rules Ty.int := (.s (.s (.s .z)))
noncomputable def lb__law_rules_1 : Gam g__law_rules → Option (Fl (Gam g__law_rules) (den (Ty.list (Ty.tup (Ty.cons Ty.str (Ty.cons (Ty.vtup Ty.str) (Ty.last Ty.int))))))) :=
  (sApp (v__law_rules_rules) (e1 m__law_rule (eCons (e1 m__law_cell_at (eCons (eV (t := (Ty.list Ty.int)) (v__law_rules_script)) (e2 fAdd (eC (4 : Int)) (eV (t := Ty.int) (v__law_rules_k))))) (eCons (eV (t := Ty.int) (v__law_rules_k)) (eV (t := (Ty.list Ty.str)) (v__law_rules_heads))))))
noncomputable def lp__law_rules_1 : Gam g__law_rules → Option (Fl (Gam g__law_rules) (den (Ty.list (Ty.tup (Ty.cons Ty.str (Ty.cons (Ty.vtup Ty.str) (Ty.last Ty.int))))))) := hide (sFor (e1 fRng1 (e2 fAdd (e1 fLen (eV (t := (Ty.list Ty.str)) (v__law_rules_heads))) (e2 fMod (e2 fDiv (e1 m__law_cell_at (eCons (eV (t := (Ty.list Ty.int)) (v__law_rules_script)) (eC (0 : Int)))) (eC (8 : Int))) (eC (6 : Int))))) (bName (t := Ty.int) (v__law_rules_k)) (Gam.mask [true, true, true, false]) lb__law_rules_1)
theorem lp__law_rules_1_eq : lp__law_rules_1 = (sFor (e1 fRng1 (e2 fAdd (e1 fLen (eV (t := (Ty.list Ty.str)) (v__law_rules_heads))) (e2 fMod (e2 fDiv (e1 m__law_cell_at (eCons (eV (t := (Ty.list Ty.int)) (v__law_rules_script)) (eC (0 : Int)))) (eC (8 : Int))) (eC (6 : Int))))) (bName (t := Ty.int) (v__law_rules_k)) (Gam.mask [true, true, true, false]) lb__law_rules_1) := hide_eq _
noncomputable def b__law_rules : Gam g__law_rules → Option (Fl (Gam g__law_rules) (den (Ty.list (Ty.tup (Ty.cons Ty.str (Ty.cons (Ty.vtup Ty.str) (Ty.last Ty.int))))))) :=
  (sSeq (sSet (v__law_rules_heads) (e1 m__law_heads (e2 fCatL (e3 fCutL (eV (t := (Ty.list Ty.int)) (v__law_rules_script)) (e1 (fun i => some (some i)) (eC (1 : Int))) (e1 (fun i => some (some i)) (eC (4 : Int)))) (e1 fSmall (eSnoc (e1 m__law_cell_at (eCons (eV (t := (Ty.list Ty.int)) (v__law_rules_script)) (eC (0 : Int)))) eNil)))))
  (sSeq (sSet (v__law_rules_rules) (e1 fSmall eNil))
  (sSeq lp__law_rules_1
  (sRetM (v__law_rules_rules)))))
noncomputable def m__law_rules : den (Ty.last (Ty.list Ty.int)) → Option (den (Ty.list (Ty.tup (Ty.cons Ty.str (Ty.cons (Ty.vtup Ty.str) (Ty.last Ty.int)))))) := hide (runG (Ty.last (Ty.list Ty.int)) [(Ty.list Ty.str), (Ty.list (Ty.tup (Ty.cons Ty.str (Ty.cons (Ty.vtup Ty.str) (Ty.last Ty.int))))), Ty.int] b__law_rules)
theorem m__law_rules_eq (d : den (Ty.last (Ty.list Ty.int))) : m__law_rules d = runG (Ty.last (Ty.list Ty.int)) [(Ty.list Ty.str), (Ty.list (Ty.tup (Ty.cons Ty.str (Ty.cons (Ty.vtup Ty.str) (Ty.last Ty.int))))), Ty.int] b__law_rules d := congrFun (hide_eq _) d
theorem m__law_rules_at (p0 : den (Ty.list Ty.int)) : m__law_rules (p0) = endOf (b__law_rules ((some p0, none, none, none, ()) : Gam g__law_rules)) := by
  rw [m__law_rules_eq]
  rfl
set_option maxHeartbeats 4000000 in
theorem ok__law_rules {f : Addr} {fd : FuncData} (F : Fun K "_law_rules" "_law_rules" s__law_rules f fd) (T : Txt K mg) {f__law_heads : Addr} {fd__law_heads : FuncData} (D__law_heads : Df K mg "_law_heads" "_law_heads" s__law_heads P__law_heads f__law_heads fd__law_heads) (G__law_heads : FnOk K.P K.w K mg base CX0 1 f__law_heads fd__law_heads P__law_heads (spP K (Ty.last (Ty.list Ty.int)) .o (Ty.list Ty.str) m__law_heads)) {f__law_cell_at : Addr} {fd__law_cell_at : FuncData} (D__law_cell_at : Df K mg "_law_cell_at" "_law_cell_at" s__law_cell_at P__law_cell_at f__law_cell_at fd__law_cell_at) (G__law_cell_at : FnOk K.P K.w K mg base CX0 1 f__law_cell_at fd__law_cell_at P__law_cell_at (spP K (Ty.cons (Ty.list Ty.int) (Ty.last Ty.int)) .o Ty.int m__law_cell_at)) {f__law_rule : Addr} {fd__law_rule : FuncData} (D__law_rule : Df K mg "_law_rule" "_law_rule" s__law_rule P__law_rule f__law_rule fd__law_rule) (G__law_rule : FnOk K.P K.w K mg base CX0 2 f__law_rule fd__law_rule P__law_rule (spP K (Ty.cons Ty.int (Ty.cons Ty.int (Ty.last (Ty.list Ty.str)))) .o (Ty.tup (Ty.cons Ty.str (Ty.cons (Ty.vtup Ty.str) (Ty.last Ty.int)))) m__law_rule)) :
    FnOk K.P K.w K mg base CX0 3 f fd P__law_rules (spP K (Ty.last (Ty.list Ty.int)) .o (Ty.list (Ty.tup (Ty.cons Ty.str (Ty.cons (Ty.vtup Ty.str) (Ty.last Ty.int))))) m__law_rules) := by
  have S := sc__law_rules
  refine fn_ok (F := b__law_rules) [(Ty.list Ty.str), (Ty.list (Ty.tup (Ty.cons Ty.str (Ty.cons (Ty.vtup Ty.str) (Ty.last Ty.int))))), Ty.int] M__law_rules F S rfl rfl rfl m__law_rules_eq (fun cdv A outer s H E hr => ?_)
  refine ⟨_, (pss_cons (ps_set (i := 1) S.nd rfl (Or.inl rfl) (pe_call G__law_heads (hr.mono (by decide)) rfl D__law_heads.gl D__law_heads.fn.kp D__law_heads.bi .nil pass0 (pa_cons (pe_op (r := rCatR K) op_catR (pe_slice (r := rSlL K) sl_list (pv 0) (po_some pe_int) (po_some pe_int)) (pe_lst (pa_cons (pe_call G__law_cell_at (hr.mono (by decide)) rfl D__law_cell_at.gl D__law_cell_at.fn.kp D__law_cell_at.bi .nil pass0 (pa_cons (pv 0) (pa_cons pe_int pa_nil))) pa_nil))) pa_nil)))
  (pss_cons (ps_set (i := 2) S.nd rfl (Or.inl rfl) (pe_lst pa_nil))
  (pss_cons (ps_for PassesOwn.never rfl (pi_range1 rfl T.b_range (pa_cons (pe_op op_add (pe_callB (r := VV.rLen K) call_len (by rfl) T.b_len (by decide +kernel) (pa_cons (pv 1) pa_nil)) (pe_op op_mod (pe_op op_fdivW (pe_call G__law_cell_at (hr.mono (by decide)) rfl D__law_cell_at.gl D__law_cell_at.fn.kp D__law_cell_at.bi .nil pass0 (pa_cons (pv 0) (pa_cons pe_int pa_nil))) pe_int) pe_int)) pa_nil)) (pg_name (i := 3) S.nd rfl (Or.inl rfl)) (pss_one (ps_expr (pe_bm PySem.F.plainAttrs_list PySem.F.slot_list_append PySem.F.type_list_append mt_append (pv 2) (pa_cons (pe_call G__law_rule (hr.mono (by decide)) rfl D__law_rule.gl D__law_rule.fn.kp D__law_rule.bi .nil pass0 (pa_cons (pe_call G__law_cell_at (hr.mono (by decide)) rfl D__law_cell_at.gl D__law_cell_at.fn.kp D__law_cell_at.bi .nil pass0 (pa_cons (pv 0) (pa_cons (pe_op op_add pe_int (pv 3)) pa_nil))) (pa_cons (pv 3) (pa_cons (pv 1) pa_nil)))) pa_nil)))))
  (pss_one (ps_ret (pv 2)))))), ?_⟩
  exact (rs_seq (rs_set (ms := M__law_rules) (m := .l) (v__law_rules_heads) (rp_le (rp_call (mA := .b) (rm := .o) (ρ := (Ty.list Ty.str)) (m := m__law_heads) rfl (ra_one (rp_le (rp_cat (m1 := .b) (m2 := .b) (rp_le (rp_sliceL (m := .b) (rp_le (rp_varw (ms := M__law_rules) (v__law_rules_script))) (ro_some (m := .b) rp_int) (ro_some (m := .b) rp_int))) (rp_le (rp_list (t := Ty.int) (rl_cons (rp_call (mA := .b) (rm := .o) (ρ := Ty.int) (m := m__law_cell_at) rfl (ra_cons (rp_le (rp_varw (ms := M__law_rules) (v__law_rules_script))) (ra_one rp_int))) rl_nil)))))))))
  (rs_seq (rs_set (ms := M__law_rules) (m := .o) (v__law_rules_rules) (rp_list (t := (Ty.tup (Ty.cons Ty.str (Ty.cons (Ty.vtup Ty.str) (Ty.last Ty.int))))) rl_nil))
  (rs_seq (rs_hide (rs_for (w := false) (t := Ty.int) [true, true, true, false] (ri_rng1 (w := false) (m := .b) (ra_one (rp_op (m1 := .b) (m2 := .b) v_add (rp_lenL (m' := .b) (rp_le (rp_varl (ms := M__law_rules) (v__law_rules_heads)))) (rp_op (m1 := .b) (m2 := .b) v_mod (rp_op (m1 := .b) (m2 := .b) v_div (rp_frz .b (rp_call (mA := .b) (rm := .o) (ρ := Ty.int) (m := m__law_cell_at) rfl (ra_cons (rp_le (rp_varw (ms := M__law_rules) (v__law_rules_script))) (ra_one rp_int)))) rp_int) rp_int)))) (rg_name (ms := M__law_rules) (v__law_rules_k)) (rs_app (ms := M__law_rules) (v__law_rules_rules) (rp_call (mA := .b) (rm := .o) (ρ := (Ty.tup (Ty.cons Ty.str (Ty.cons (Ty.vtup Ty.str) (Ty.last Ty.int))))) (m := m__law_rule) rfl (ra_cons (rp_frz .b (rp_call (mA := .b) (rm := .o) (ρ := Ty.int) (m := m__law_cell_at) rfl (ra_cons (rp_le (rp_varw (ms := M__law_rules) (v__law_rules_script))) (ra_one (rp_op (m1 := .b) (m2 := .b) v_add rp_int (rp_frz .b (rp_varw (ms := M__law_rules) (v__law_rules_k)))))))) (ra_cons (rp_frz .b (rp_varw (ms := M__law_rules) (v__law_rules_k))) (ra_one (rp_le (rp_varl (ms := M__law_rules) (v__law_rules_heads))))))))))
  (rs_retm (ms := M__law_rules) (v__law_rules_rules)))))
abbrev s__law_odd : Stmt := topS 33
abbrev N__law_odd : List Str := ["cell", "some"]
abbrev P__law_odd : List Str := ["cell"]
theorem sc__law_odd : FnScope N__law_odd P__law_odd (defScope s__law_odd) := ⟨rfl, rfl, rfl, by decide +kernel, rfl, by decide +kernel, by decide +kernel⟩
abbrev g__law_odd : List Ty := [Ty.int, (Ty.list Ty.str)]
abbrev M__law_odd : List Md := [.w, .l]
abbrev v__law_odd_cell : Mem g__law_odd Ty.int := .z
abbrev v__law_odd_some : Mem g__law_odd (Ty.list Ty.str) := (.s .z)
noncomputable def b__law_odd : Gam g__law_odd → Option (Fl (Gam g__law_odd) (den Ty.str)) :=
  (sSeq (sSet (v__law_odd_some) (e1 fSmall (eSnoc (eC (Str.ofString "")) (eSnoc (eC (Str.ofString "S")) (eSnoc (eC (Str.ofString "S =a")) (eSnoc (eC (Str.ofString "S= a")) (eSnoc (eC (Str.ofString "= a")) (eSnoc (eC (Str.ofString "s = a")) (eSnoc (eC (Str.ofString "S = a :")) (eSnoc (eC (Str.ofString "S = a : 0")) (eSnoc (eC (Str.ofString "S = a : 07")) (eSnoc (eC (Str.ofString "S = a : x")) (eSnoc (eC (Str.ofString "S : 3")) eNil)))))))))))))
  (sSeq (sSet (v__law_odd_some) (e2 fCatL (eV (t := (Ty.list Ty.str)) (v__law_odd_some)) (e1 fSmall (eSnoc (eC (Str.ofString "S = : 4")) (eSnoc (eC (Str.ofString "S = a  b")) (eSnoc (eC (Str.ofString "S = a ")) (eSnoc (eC (Str.ofString " S = a")) (eSnoc (eC (Str.ofString "S = a : 3 b")) (eSnoc (eC (Str.ofString "S = a1")) (eSnoc (eC (Str.ofString "S = Aa")) (eSnoc (eC (Str.ofString "S = a = b")) eNil)))))))))))
  (sSeq (sSet (v__law_odd_some) (e2 fCatL (eV (t := (Ty.list Ty.str)) (v__law_odd_some)) (e1 fSmall (eSnoc (eC (Str.ofString "S = a : -1")) (eSnoc (eC (Str.ofString "S_ = a")) (eSnoc (eC (Str.ofString "S_12345 = a")) (eSnoc (eC (Str.ofString "_1 = a")) (eSnoc (eC (Str.ofString "S_1 = a")) (eSnoc (eC (Str.ofString "ABCDEFGHI = a")) eNil)))))))))
  (sSeq (sSet (v__law_odd_some) (e2 fCatL (eV (t := (Ty.list Ty.str)) (v__law_odd_some)) (e1 fSmall (eSnoc (eC (Str.ofString "S = abcdefghi")) (eSnoc (eC (Str.ofString "S_1a = a")) (eSnoc (eC (Str.ofString "S = a : : 3")) eNil))))))
  (sRet (e2 atI (eV (t := (Ty.list Ty.str)) (v__law_odd_some)) (e2 fMod (eV (t := Ty.int) (v__law_odd_cell)) (eC (28 : Int)))))))))
noncomputable def m__law_odd : den (Ty.last Ty.int) → Option (den Ty.str) := hide (runG (Ty.last Ty.int) [(Ty.list Ty.str)] b__law_odd)
theorem m__law_odd_eq (d : den (Ty.last Ty.int)) : m__law_odd d = runG (Ty.last Ty.int) [(Ty.list Ty.str)] b__law_odd d := congrFun (hide_eq _) d
theorem m__law_odd_at (p0 : den Ty.int) : m__law_odd (p0) = endOf (b__law_odd ((some p0, none, ()) : Gam g__law_odd)) := by
  rw [m__law_odd_eq]
  rfl
set_option maxHeartbeats 4000000 in
theorem ok__law_odd {f : Addr} {fd : FuncData} (F : Fun K "_law_odd" "_law_odd" s__law_odd f fd) (T : Txt K mg) :
    FnOk K.P K.w K mg base CX0 1 f fd P__law_odd (spP K (Ty.last Ty.int) .o Ty.str m__law_odd) := by
  have S := sc__law_odd
  refine fn_ok (F := b__law_odd) [(Ty.list Ty.str)] M__law_odd F S rfl rfl rfl m__law_odd_eq (fun cdv A outer s H E hr => ?_)
  refine ⟨_, (pss_cons (ps_set (i := 1) S.nd rfl (Or.inl rfl) (pe_lst (pa_cons pe_str (pa_cons pe_str (pa_cons pe_str (pa_cons pe_str (pa_cons pe_str (pa_cons pe_str (pa_cons pe_str (pa_cons pe_str (pa_cons pe_str (pa_cons pe_str (pa_cons pe_str pa_nil)))))))))))))
  (pss_cons (ps_set (i := 1) S.nd rfl (Or.inl rfl) (pe_op (r := rCatR K) op_catR (pv 1) (pe_lst (pa_cons pe_str (pa_cons pe_str (pa_cons pe_str (pa_cons pe_str (pa_cons pe_str (pa_cons pe_str (pa_cons pe_str (pa_cons pe_str pa_nil)))))))))))
  (pss_cons (ps_set (i := 1) S.nd rfl (Or.inl rfl) (pe_op (r := rCatR K) op_catR (pv 1) (pe_lst (pa_cons pe_str (pa_cons pe_str (pa_cons pe_str (pa_cons pe_str (pa_cons pe_str (pa_cons pe_str pa_nil)))))))))
  (pss_cons (ps_set (i := 1) S.nd rfl (Or.inl rfl) (pe_op (r := rCatR K) op_catR (pv 1) (pe_lst (pa_cons pe_str (pa_cons pe_str (pa_cons pe_str pa_nil))))))
  (pss_one (ps_ret (pe_ix (r := rIxL K) ix_list (pv 1) (pe_op op_mod (pv 0) pe_int) (fun _ _ => rfl)))))))), ?_⟩
  exact (rs_seq (rs_set (ms := M__law_odd) (m := .l) (v__law_odd_some) (rp_le (rp_list (t := Ty.str) (rl_cons (rp_str) (rl_cons (rp_str) (rl_cons (rp_str) (rl_cons (rp_str) (rl_cons (rp_str) (rl_cons (rp_str) (rl_cons (rp_str) (rl_cons (rp_str) (rl_cons (rp_str) (rl_cons (rp_str) (rl_cons (rp_str) rl_nil))))))))))))))
  (rs_seq (rs_set (ms := M__law_odd) (m := .l) (v__law_odd_some) (rp_le (rp_cat (m1 := .b) (m2 := .b) (rp_le (rp_varl (ms := M__law_odd) (v__law_odd_some))) (rp_le (rp_list (t := Ty.str) (rl_cons (rp_str) (rl_cons (rp_str) (rl_cons (rp_str) (rl_cons (rp_str) (rl_cons (rp_str) (rl_cons (rp_str) (rl_cons (rp_str) (rl_cons (rp_str) rl_nil)))))))))))))
  (rs_seq (rs_set (ms := M__law_odd) (m := .l) (v__law_odd_some) (rp_le (rp_cat (m1 := .b) (m2 := .b) (rp_le (rp_varl (ms := M__law_odd) (v__law_odd_some))) (rp_le (rp_list (t := Ty.str) (rl_cons (rp_str) (rl_cons (rp_str) (rl_cons (rp_str) (rl_cons (rp_str) (rl_cons (rp_str) (rl_cons (rp_str) rl_nil)))))))))))
  (rs_seq (rs_set (ms := M__law_odd) (m := .l) (v__law_odd_some) (rp_le (rp_cat (m1 := .b) (m2 := .b) (rp_le (rp_varl (ms := M__law_odd) (v__law_odd_some))) (rp_le (rp_list (t := Ty.str) (rl_cons (rp_str) (rl_cons (rp_str) (rl_cons (rp_str) rl_nil))))))))
  (rs_ret (rm := .o) (ρ := Ty.str) (rp_frz .o (rp_op (m1 := .b) (m2 := .b) (v_ixL (t := Ty.str)) (rp_le (rp_varl (ms := M__law_odd) (v__law_odd_some))) (rp_op (m1 := .b) (m2 := .b) v_mod (rp_frz .b (rp_varw (ms := M__law_odd) (v__law_odd_cell))) rp_int))))))))
abbrev s__law_long : Stmt := topS 34
abbrev N__law_long : List Str := ["cell", "figures"]
abbrev P__law_long : List Str := ["cell"]
theorem sc__law_long : FnScope N__law_long P__law_long (defScope s__law_long) := ⟨rfl, rfl, rfl, by decide +kernel, rfl, by decide +kernel, by decide +kernel⟩
abbrev g__law_long : List Ty := [Ty.int, Ty.str]
abbrev M__law_long : List Md := [.w, .w]
abbrev v__law_long_cell : Mem g__law_long Ty.int := .z
abbrev v__law_long_figures : Mem g__law_long Ty.str := (.s .z)
noncomputable def b__law_long : Gam g__law_long → Option (Fl (Gam g__law_long) (den Ty.str)) :=
  (sSeq (sSet (v__law_long_figures) (e2 fCat (eC (Str.ofString "1")) (e2 fRepS (eC (Str.ofString "0")) (e2 fAdd (eC (59 : Int)) (e2 fMod (eV (t := Ty.int) (v__law_long_cell)) (eC (2 : Int)))))))
  (sRet (e2 atI (e1 fSmall (eSnoc (e2 fCat (eC (Str.ofString "S = a : ")) (eV (t := Ty.str) (v__law_long_figures))) (eSnoc (eC (Str.ofString "S = NOWHERE")) (eSnoc (eC (Str.ofString "S = b NOWHERE_9 : 5")) (eSnoc (eC (Str.ofString "NOWHERE = NOWHERE")) eNil))))) (e2 fMod (e2 fDiv (eV (t := Ty.int) (v__law_long_cell)) (eC (2 : Int))) (eC (4 : Int))))))
noncomputable def m__law_long : den (Ty.last Ty.int) → Option (den Ty.str) := hide (runG (Ty.last Ty.int) [Ty.str] b__law_long)
theorem m__law_long_eq (d : den (Ty.last Ty.int)) : m__law_long d = runG (Ty.last Ty.int) [Ty.str] b__law_long d := congrFun (hide_eq _) d
theorem m__law_long_at (p0 : den Ty.int) : m__law_long (p0) = endOf (b__law_long ((some p0, none, ()) : Gam g__law_long)) := by
  rw [m__law_long_eq]
  rfl
set_option maxHeartbeats 4000000 in
theorem ok__law_long {f : Addr} {fd : FuncData} (F : Fun K "_law_long" "_law_long" s__law_long f fd) (T : Txt K mg) :
    FnOk K.P K.w K mg base CX0 1 f fd P__law_long (spP K (Ty.last Ty.int) .o Ty.str m__law_long) := by
  have S := sc__law_long
  refine fn_ok (F := b__law_long) [Ty.str] M__law_long F S rfl rfl rfl m__law_long_eq (fun cdv A outer s H E hr => ?_)
  refine ⟨_, (pss_cons (ps_set (i := 1) S.nd rfl (Or.inl rfl) (pe_op op_add_str pe_str (pe_op op_repS pe_str (pe_op op_add pe_int (pe_op op_mod (pv 0) pe_int)))))
  (pss_one (ps_ret (pe_ix (r := rIxL K) ix_list (pe_lst (pa_cons (pe_op op_add_str pe_str (pv 1)) (pa_cons pe_str (pa_cons pe_str (pa_cons pe_str pa_nil))))) (pe_op op_mod (pe_op op_fdivW (pv 0) pe_int) pe_int) (fun _ _ => rfl))))), ?_⟩
  exact (rs_seq (rs_set (ms := M__law_long) (m := .w) (v__law_long_figures) (rp_op (m1 := .b) (m2 := .b) v_cat (rp_str) (rp_op (m1 := .b) (m2 := .b) v_repS (rp_str) (rp_op (m1 := .b) (m2 := .b) v_add rp_int (rp_op (m1 := .b) (m2 := .b) v_mod (rp_frz .b (rp_varw (ms := M__law_long) (v__law_long_cell))) rp_int)))))
  (rs_ret (rm := .o) (ρ := Ty.str) (rp_frz .o (rp_op (m1 := .b) (m2 := .b) (v_ixL (t := Ty.str)) (rp_le (rp_list (t := Ty.str) (rl_cons (rp_op (m1 := .b) (m2 := .b) v_cat (rp_str) (rp_frz .b (rp_varw (ms := M__law_long) (v__law_long_figures)))) (rl_cons (rp_str) (rl_cons (rp_str) (rl_cons (rp_str) rl_nil)))))) (rp_op (m1 := .b) (m2 := .b) v_mod (rp_op (m1 := .b) (m2 := .b) v_div (rp_frz .b (rp_varw (ms := M__law_long) (v__law_long_cell))) rp_int) rp_int)))))
abbrev s__law_text : Stmt := topS 35
abbrev N__law_text : List Str := ["script", "rows", "way", "cell", "place", "at", "text", "sign"]
abbrev P__law_text : List Str := ["script"]
theorem sc__law_text : FnScope N__law_text P__law_text (defScope s__law_text) := ⟨rfl, rfl, rfl, by decide +kernel, rfl, by decide +kernel, by decide +kernel⟩
abbrev g__law_text : List Ty := [(Ty.list Ty.int), (Ty.list Ty.str), Ty.int, Ty.int, Ty.int, Ty.int, Ty.str, Ty.str]
abbrev M__law_text : List Md := [.w, .l, .w, .w, .w, .w, .w, .w]
abbrev v__law_text_script : Mem g__law_text (Ty.list Ty.int) := .z
abbrev v__law_text_rows : Mem g__law_text (Ty.list Ty.str) := (.s .z)
abbrev v__law_text_way : Mem g__law_text Ty.int := (.s (.s .z))
abbrev v__law_text_cell : Mem g__law_text Ty.int := (.s (.s (.s .z)))
abbrev v__law_text_place : Mem g__law_text Ty.int := (.s (.s (.s (.s .z))))
abbrev v__law_text_at : Mem g__law_text Ty.int := (.s (.s (.s (.s (.s .z)))))
abbrev v__law_text_text : Mem g__law_text Ty.str := (.s (.s (.s (.s (.s (.s .z))))))
abbrev v__law_text_sign : Mem g__law_text Ty.str := (.s (.s (.s (.s (.s (.s (.s .z)))))))
noncomputable def b__law_text : Gam g__law_text → Option (Fl (Gam g__law_text) (den Ty.str)) :=
  (sSeq (sSet (v__law_text_rows) (e2 fSplit (e1 m__law_shown (e1 m__law_rules (eV (t := (Ty.list Ty.int)) (v__law_text_script)))) (eC (Str.ofString "\n"))))
  (sSeq (sSet (v__law_text_way) (e2 fMod (e2 fDiv (e1 m__law_cell_at (eCons (eV (t := (Ty.list Ty.int)) (v__law_text_script)) (eC (0 : Int)))) (eC (48 : Int))) (eC (8 : Int))))
  (sSeq (sSet (v__law_text_cell) (e1 m__law_cell_at (eCons (eV (t := (Ty.list Ty.int)) (v__law_text_script)) (eC (12 : Int)))))
  (sSeq (sSet (v__law_text_place) (e1 m__law_cell_at (eCons (eV (t := (Ty.list Ty.int)) (v__law_text_script)) (eC (13 : Int)))))
  (sSeq (sIf (e2 fLt (eV (t := Ty.int) (v__law_text_way)) (eC (2 : Int))) (sSeq (sSet (v__law_text_at) (e2 fMod (eV (t := Ty.int) (v__law_text_place)) (e2 fAdd (e1 fLen (eV (t := (Ty.list Ty.str)) (v__law_text_rows))) (eC (1 : Int)))))
  (sSet (v__law_text_rows) (e2 fCatL (e2 fCatL (e3 fCutL (eV (t := (Ty.list Ty.str)) (v__law_text_rows)) (eC none) (e1 (fun i => some (some i)) (eV (t := Ty.int) (v__law_text_at)))) (e1 fSmall (eSnoc (eSel2 m__law_odd m__law_long (eV (t := Ty.int) (v__law_text_way)) (eV (t := Ty.int) (v__law_text_cell))) eNil))) (e3 fCutL (eV (t := (Ty.list Ty.str)) (v__law_text_rows)) (e1 (fun i => some (some i)) (eV (t := Ty.int) (v__law_text_at))) (eC none))))) sNext)
  (sSeq (sSet (v__law_text_text) (e2 fJoin (eC (Str.ofString "\n")) (eV (t := (Ty.list Ty.str)) (v__law_text_rows))))
  (sSeq (sSet (v__law_text_sign) (e2 fIxS (eC (Str.ofString "abSXQ_019:= \n	.-+(){")) (e2 fMod (e2 fDiv (eV (t := Ty.int) (v__law_text_cell)) (eC (30 : Int))) (eC (20 : Int)))))
  (sSeq (sSet (v__law_text_at) (e2 fMod (eV (t := Ty.int) (v__law_text_place)) (e2 fAdd (e1 fLenS (eV (t := Ty.str) (v__law_text_text))) (eC (1 : Int)))))
  (sSeq (sIf (eOr (e2 fEqI (eV (t := Ty.int) (v__law_text_way)) (eC (2 : Int))) (e2 fEqI (eV (t := Ty.int) (v__law_text_way)) (eC (3 : Int)))) (sRet (e2 fCat (e2 fCat (e3 fCutS (eV (t := Ty.str) (v__law_text_text)) (eC none) (e1 (fun i => some (some i)) (eV (t := Ty.int) (v__law_text_at)))) (eV (t := Ty.str) (v__law_text_sign))) (e3 fCutS (eV (t := Ty.str) (v__law_text_text)) (e1 (fun i => some (some i)) (eV (t := Ty.int) (v__law_text_at))) (eC none)))) sNext)
  (sSeq (sIf (e2 fEqI (eV (t := Ty.int) (v__law_text_way)) (eC (4 : Int))) (sRet (e2 fCat (e3 fCutS (eV (t := Ty.str) (v__law_text_text)) (eC none) (e1 (fun i => some (some i)) (eV (t := Ty.int) (v__law_text_at)))) (e3 fCutS (eV (t := Ty.str) (v__law_text_text)) (e1 (fun i => some (some i)) (e2 fAdd (eV (t := Ty.int) (v__law_text_at)) (eC (1 : Int)))) (eC none)))) sNext)
  (sSeq (sIf (e2 fEqI (eV (t := Ty.int) (v__law_text_way)) (eC (5 : Int))) (sRet (e2 fCat (e2 fCat (e3 fCutS (eV (t := Ty.str) (v__law_text_text)) (eC none) (e1 (fun i => some (some i)) (eV (t := Ty.int) (v__law_text_at)))) (eV (t := Ty.str) (v__law_text_sign))) (e3 fCutS (eV (t := Ty.str) (v__law_text_text)) (e1 (fun i => some (some i)) (e2 fAdd (eV (t := Ty.int) (v__law_text_at)) (eC (1 : Int)))) (eC none)))) sNext)
  (sRet (eV (t := Ty.str) (v__law_text_text))))))))))))))
noncomputable def m__law_text : den (Ty.last (Ty.list Ty.int)) → Option (den Ty.str) := hide (runG (Ty.last (Ty.list Ty.int)) [(Ty.list Ty.str), Ty.int, Ty.int, Ty.int, Ty.int, Ty.str, Ty.str] b__law_text)
theorem m__law_text_eq (d : den (Ty.last (Ty.list Ty.int))) : m__law_text d = runG (Ty.last (Ty.list Ty.int)) [(Ty.list Ty.str), Ty.int, Ty.int, Ty.int, Ty.int, Ty.str, Ty.str] b__law_text d := congrFun (hide_eq _) d
theorem m__law_text_at (p0 : den (Ty.list Ty.int)) : m__law_text (p0) = endOf (b__law_text ((some p0, none, none, none, none, none, none, none, ()) : Gam g__law_text)) := by
  rw [m__law_text_eq]
  rfl
set_option maxHeartbeats 4000000 in
theorem ok__law_text {f : Addr} {fd : FuncData} (F : Fun K "_law_text" "_law_text" s__law_text f fd) (T : Txt K mg) {f__law_shown : Addr} {fd__law_shown : FuncData} (D__law_shown : Df K mg "_law_shown" "_law_shown" s__law_shown P__law_shown f__law_shown fd__law_shown) (G__law_shown : FnOk K.P K.w K mg base CX0 1 f__law_shown fd__law_shown P__law_shown (spP K (Ty.last (Ty.list (Ty.tup (Ty.cons Ty.str (Ty.cons (Ty.vtup Ty.str) (Ty.last Ty.int)))))) .o Ty.str m__law_shown)) {f__law_rules : Addr} {fd__law_rules : FuncData} (D__law_rules : Df K mg "_law_rules" "_law_rules" s__law_rules P__law_rules f__law_rules fd__law_rules) (G__law_rules : FnOk K.P K.w K mg base CX0 3 f__law_rules fd__law_rules P__law_rules (spP K (Ty.last (Ty.list Ty.int)) .o (Ty.list (Ty.tup (Ty.cons Ty.str (Ty.cons (Ty.vtup Ty.str) (Ty.last Ty.int))))) m__law_rules)) {f__law_cell_at : Addr} {fd__law_cell_at : FuncData} (D__law_cell_at : Df K mg "_law_cell_at" "_law_cell_at" s__law_cell_at P__law_cell_at f__law_cell_at fd__law_cell_at) (G__law_cell_at : FnOk K.P K.w K mg base CX0 1 f__law_cell_at fd__law_cell_at P__law_cell_at (spP K (Ty.cons (Ty.list Ty.int) (Ty.last Ty.int)) .o Ty.int m__law_cell_at)) {f__law_odd : Addr} {fd__law_odd : FuncData} (D__law_odd : Df K mg "_law_odd" "_law_odd" s__law_odd P__law_odd f__law_odd fd__law_odd) (G__law_odd : FnOk K.P K.w K mg base CX0 1 f__law_odd fd__law_odd P__law_odd (spP K (Ty.last Ty.int) .o Ty.str m__law_odd)) {f__law_long : Addr} {fd__law_long : FuncData} (D__law_long : Df K mg "_law_long" "_law_long" s__law_long P__law_long f__law_long fd__law_long) (G__law_long : FnOk K.P K.w K mg base CX0 1 f__law_long fd__law_long P__law_long (spP K (Ty.last Ty.int) .o Ty.str m__law_long)) :
    FnOk K.P K.w K mg base CX0 4 f fd P__law_text (spP K (Ty.last (Ty.list Ty.int)) .o Ty.str m__law_text) := by
  have S := sc__law_text
  refine fn_ok (F := b__law_text) [(Ty.list Ty.str), Ty.int, Ty.int, Ty.int, Ty.int, Ty.str, Ty.str] M__law_text F S rfl rfl rfl m__law_text_eq (fun cdv A outer s H E hr => ?_)
  refine ⟨_, (pss_cons (ps_set (i := 1) S.nd rfl (Or.inl rfl) (pe_split (pe_call G__law_shown (hr.mono (by decide)) rfl D__law_shown.gl D__law_shown.fn.kp D__law_shown.bi .nil pass0 (pa_cons (pe_call G__law_rules (hr.mono (by decide)) rfl D__law_rules.gl D__law_rules.fn.kp D__law_rules.bi .nil pass0 (pa_cons (pv 0) pa_nil)) pa_nil)) pe_str))
  (pss_cons (ps_set (i := 2) S.nd rfl (Or.inl rfl) (pe_op op_mod (pe_op op_fdivW (pe_call G__law_cell_at (hr.mono (by decide)) rfl D__law_cell_at.gl D__law_cell_at.fn.kp D__law_cell_at.bi .nil pass0 (pa_cons (pv 0) (pa_cons pe_int pa_nil))) pe_int) pe_int))
  (pss_cons (ps_set (i := 3) S.nd rfl (Or.inl rfl) (pe_call G__law_cell_at (hr.mono (by decide)) rfl D__law_cell_at.gl D__law_cell_at.fn.kp D__law_cell_at.bi .nil pass0 (pa_cons (pv 0) (pa_cons pe_int pa_nil))))
  (pss_cons (ps_set (i := 4) S.nd rfl (Or.inl rfl) (pe_call G__law_cell_at (hr.mono (by decide)) rfl D__law_cell_at.gl D__law_cell_at.fn.kp D__law_cell_at.bi .nil pass0 (pa_cons (pv 0) (pa_cons pe_int pa_nil))))
  (pss_cons (ps_if (pt_cmpR op_lt (pv 2) pe_int (nomark _)) (pss_cons (ps_set (i := 5) S.nd rfl (Or.inl rfl) (pe_op op_mod (pv 4) (pe_op op_add (pe_callB (r := VV.rLen K) call_len (by rfl) T.b_len (by decide +kernel) (pa_cons (pv 1) pa_nil)) pe_int)))
  (pss_one (ps_set (i := 1) S.nd rfl (Or.inl rfl) (pe_op (r := rCatR K) op_catR (pe_op (r := rCatR K) op_catR (pe_slice (r := rSlL K) sl_list (pv 1) po_none (po_some (pv 5))) (pe_lst (pa_cons (pe_callF2 G__law_odd G__law_long (hr.mono (by decide)) (hr.mono (by decide)) D__law_odd.fn.kp D__law_long.fn.kp D__law_odd.bi D__law_long.bi (pe_ix (r := rIxL K) ix_list (pe_lst (pa_cons (pe_glob (v := V.ref f__law_odd) rfl D__law_odd.gl rfl) (pa_cons (pe_glob (v := V.ref f__law_long) rfl D__law_long.gl rfl) pa_nil))) (pv 2) (fun _ _ => rfl)) (pa_cons (pv 3) pa_nil)) pa_nil))) (pe_slice (r := rSlL K) sl_list (pv 1) (po_some (pv 5)) po_none))))) pss_nil)
  (pss_cons (ps_set (i := 6) S.nd rfl (Or.inl rfl) (pe_joinK K rfl pe_str (pv 1)))
  (pss_cons (ps_set (i := 7) S.nd rfl (Or.inl rfl) (pe_ix (r := rIxS) ix_str pe_str (pe_op op_mod (pe_op op_fdivW (pv 3) pe_int) pe_int) (fun _ _ => rfl)))
  (pss_cons (ps_set (i := 5) S.nd rfl (Or.inl rfl) (pe_op op_mod (pv 4) (pe_op op_add (pe_callB (r := VV.rLen K) call_len (by rfl) T.b_len (by decide +kernel) (pa_cons (pv 6) pa_nil)) pe_int)))
  (pss_cons (ps_if (PW.pt (pw_or (pt_cmpR op_eq (pv 2) pe_int (nomark _)) (pw_or1 (pt_cmpR op_eq (pv 2) pe_int (nomark _))))) (pss_one (ps_ret (pe_op op_add_str (pe_op op_add_str (pe_slice (r := rSlS) sl_str (pv 6) po_none (po_some (pv 5))) (pv 7)) (pe_slice (r := rSlS) sl_str (pv 6) (po_some (pv 5)) po_none)))) pss_nil)
  (pss_cons (ps_if (pt_cmpR op_eq (pv 2) pe_int (nomark _)) (pss_one (ps_ret (pe_op op_add_str (pe_slice (r := rSlS) sl_str (pv 6) po_none (po_some (pv 5))) (pe_slice (r := rSlS) sl_str (pv 6) (po_some (pe_op op_add (pv 5) pe_int)) po_none)))) pss_nil)
  (pss_cons (ps_if (pt_cmpR op_eq (pv 2) pe_int (nomark _)) (pss_one (ps_ret (pe_op op_add_str (pe_op op_add_str (pe_slice (r := rSlS) sl_str (pv 6) po_none (po_some (pv 5))) (pv 7)) (pe_slice (r := rSlS) sl_str (pv 6) (po_some (pe_op op_add (pv 5) pe_int)) po_none)))) pss_nil)
  (pss_one (ps_ret (pv 6)))))))))))))), ?_⟩
  exact (rs_seq (rs_set (ms := M__law_text) (m := .l) (v__law_text_rows) (rp_le (rp_split (m1 := .b) (m2 := .b) (rp_frz .b (rp_call (mA := .b) (rm := .o) (ρ := Ty.str) (m := m__law_shown) rfl (ra_one (rp_le (rp_call (mA := .b) (rm := .o) (ρ := (Ty.list (Ty.tup (Ty.cons Ty.str (Ty.cons (Ty.vtup Ty.str) (Ty.last Ty.int)))))) (m := m__law_rules) rfl (ra_one (rp_le (rp_varw (ms := M__law_text) (v__law_text_script))))))))) (rp_str))))
  (rs_seq (rs_set (ms := M__law_text) (m := .w) (v__law_text_way) (rp_op (m1 := .b) (m2 := .b) v_mod (rp_op (m1 := .b) (m2 := .b) v_div (rp_frz .b (rp_call (mA := .b) (rm := .o) (ρ := Ty.int) (m := m__law_cell_at) rfl (ra_cons (rp_le (rp_varw (ms := M__law_text) (v__law_text_script))) (ra_one rp_int)))) rp_int) rp_int))
  (rs_seq (rs_set (ms := M__law_text) (m := .w) (v__law_text_cell) (rp_frz .w (rp_call (mA := .b) (rm := .o) (ρ := Ty.int) (m := m__law_cell_at) rfl (ra_cons (rp_le (rp_varw (ms := M__law_text) (v__law_text_script))) (ra_one rp_int)))))
  (rs_seq (rs_set (ms := M__law_text) (m := .w) (v__law_text_place) (rp_frz .w (rp_call (mA := .b) (rm := .o) (ρ := Ty.int) (m := m__law_cell_at) rfl (ra_cons (rp_le (rp_varw (ms := M__law_text) (v__law_text_script))) (ra_one rp_int)))))
  (rs_seq (rs_if (rt_test (rp_op (m := .b) (m1 := .b) (m2 := .b) v_lt (rp_frz .b (rp_varw (ms := M__law_text) (v__law_text_way))) rp_int)) (rs_seq (rs_set (ms := M__law_text) (m := .w) (v__law_text_at) (rp_op (m1 := .b) (m2 := .b) v_mod (rp_frz .b (rp_varw (ms := M__law_text) (v__law_text_place))) (rp_op (m1 := .b) (m2 := .b) v_add (rp_lenL (m' := .b) (rp_le (rp_varl (ms := M__law_text) (v__law_text_rows)))) rp_int)))
  (rs_set (ms := M__law_text) (m := .l) (v__law_text_rows) (rp_le (rp_cat (m1 := .b) (m2 := .b) (rp_le (rp_cat (m1 := .b) (m2 := .b) (rp_le (rp_sliceL (m := .b) (rp_le (rp_varl (ms := M__law_text) (v__law_text_rows))) ro_none (ro_some (m := .b) (rp_frz .b (rp_varw (ms := M__law_text) (v__law_text_at)))))) (rp_le (rp_list (t := Ty.str) (rl_cons (rp_sel2 (mA := .b) (mi := .b) (rm := .o) (ρ := Ty.str) (m1 := m__law_odd) (m2 := m__law_long) rfl (ra_one (rp_frz .b (rp_varw (ms := M__law_text) (v__law_text_cell)))) (rp_frz .b (rp_varw (ms := M__law_text) (v__law_text_way)))) rl_nil))))) (rp_le (rp_sliceL (m := .b) (rp_le (rp_varl (ms := M__law_text) (v__law_text_rows))) (ro_some (m := .b) (rp_frz .b (rp_varw (ms := M__law_text) (v__law_text_at)))) ro_none)))))) rs_next)
  (rs_seq (rs_set (ms := M__law_text) (m := .w) (v__law_text_text) (rp_join (m1 := .b) (m2 := .b) (rp_str) (rp_le (rp_varl (ms := M__law_text) (v__law_text_rows)))))
  (rs_seq (rs_set (ms := M__law_text) (m := .w) (v__law_text_sign) (rp_op (m1 := .b) (m2 := .b) v_ixS (rp_str) (rp_op (m1 := .b) (m2 := .b) v_mod (rp_op (m1 := .b) (m2 := .b) v_div (rp_frz .b (rp_varw (ms := M__law_text) (v__law_text_cell))) rp_int) rp_int)))
  (rs_seq (rs_set (ms := M__law_text) (m := .w) (v__law_text_at) (rp_op (m1 := .b) (m2 := .b) v_mod (rp_frz .b (rp_varw (ms := M__law_text) (v__law_text_place))) (rp_op (m1 := .b) (m2 := .b) v_add (rp_lenS (m' := .b) (rp_frz .b (rp_varw (ms := M__law_text) (v__law_text_text)))) rp_int)))
  (rs_seq (rs_if (rt_or (rt_test (rp_op (m := .b) (m1 := .b) (m2 := .b) v_eqI (rp_frz .b (rp_varw (ms := M__law_text) (v__law_text_way))) rp_int)) (rt_test (rp_op (m := .b) (m1 := .b) (m2 := .b) v_eqI (rp_frz .b (rp_varw (ms := M__law_text) (v__law_text_way))) rp_int))) (rs_ret (rm := .o) (ρ := Ty.str) (rp_op (m1 := .b) (m2 := .b) v_cat (rp_op (m1 := .b) (m2 := .b) v_cat (rp_sliceS (m := .b) (rp_frz .b (rp_varw (ms := M__law_text) (v__law_text_text))) ro_none (ro_some (m := .b) (rp_frz .b (rp_varw (ms := M__law_text) (v__law_text_at))))) (rp_frz .b (rp_varw (ms := M__law_text) (v__law_text_sign)))) (rp_sliceS (m := .b) (rp_frz .b (rp_varw (ms := M__law_text) (v__law_text_text))) (ro_some (m := .b) (rp_frz .b (rp_varw (ms := M__law_text) (v__law_text_at)))) ro_none))) rs_next)
  (rs_seq (rs_if (rt_test (rp_op (m := .b) (m1 := .b) (m2 := .b) v_eqI (rp_frz .b (rp_varw (ms := M__law_text) (v__law_text_way))) rp_int)) (rs_ret (rm := .o) (ρ := Ty.str) (rp_op (m1 := .b) (m2 := .b) v_cat (rp_sliceS (m := .b) (rp_frz .b (rp_varw (ms := M__law_text) (v__law_text_text))) ro_none (ro_some (m := .b) (rp_frz .b (rp_varw (ms := M__law_text) (v__law_text_at))))) (rp_sliceS (m := .b) (rp_frz .b (rp_varw (ms := M__law_text) (v__law_text_text))) (ro_some (m := .b) (rp_op (m1 := .b) (m2 := .b) v_add (rp_frz .b (rp_varw (ms := M__law_text) (v__law_text_at))) rp_int)) ro_none))) rs_next)
  (rs_seq (rs_if (rt_test (rp_op (m := .b) (m1 := .b) (m2 := .b) v_eqI (rp_frz .b (rp_varw (ms := M__law_text) (v__law_text_way))) rp_int)) (rs_ret (rm := .o) (ρ := Ty.str) (rp_op (m1 := .b) (m2 := .b) v_cat (rp_op (m1 := .b) (m2 := .b) v_cat (rp_sliceS (m := .b) (rp_frz .b (rp_varw (ms := M__law_text) (v__law_text_text))) ro_none (ro_some (m := .b) (rp_frz .b (rp_varw (ms := M__law_text) (v__law_text_at))))) (rp_frz .b (rp_varw (ms := M__law_text) (v__law_text_sign)))) (rp_sliceS (m := .b) (rp_frz .b (rp_varw (ms := M__law_text) (v__law_text_text))) (ro_some (m := .b) (rp_op (m1 := .b) (m2 := .b) v_add (rp_frz .b (rp_varw (ms := M__law_text) (v__law_text_at))) rp_int)) ro_none))) rs_next)
  (rs_ret (rm := .o) (ρ := Ty.str) (rp_frz .o (rp_varw (ms := M__law_text) (v__law_text_text)))))))))))))))
abbrev s__law_of : Stmt := topS 36
abbrev N__law_of : List Str := ["text", "some", "most", "sign"]
abbrev P__law_of : List Str := ["text", "some", "most"]
theorem sc__law_of : FnScope N__law_of P__law_of (defScope s__law_of) := ⟨rfl, rfl, rfl, by decide +kernel, rfl, by decide +kernel, by decide +kernel⟩
abbrev g__law_of : List Ty := [Ty.str, Ty.str, Ty.int, Ty.str]
abbrev M__law_of : List Md := [.w, .w, .w, .w]
abbrev v__law_of_text : Mem g__law_of Ty.str := .z
abbrev v__law_of_some : Mem g__law_of Ty.str := (.s .z)
abbrev v__law_of_most : Mem g__law_of Ty.int := (.s (.s .z))
abbrev v__law_of_sign : Mem g__law_of Ty.str := (.s (.s (.s .z)))
noncomputable def lc__law_of_1 : Gam g__law_of → Option (List (den Ty.bool)) := hide (eLc (e1 fSigns (eV (t := Ty.str) (v__law_of_text))) (bName (t := Ty.str) (v__law_of_sign)) (Gam.mask [true, true, true, false]) eYes (e2 fInS (eV (t := Ty.str) (v__law_of_sign)) (eV (t := Ty.str) (v__law_of_some))))
theorem lc__law_of_1_eq : lc__law_of_1 = (eLc (e1 fSigns (eV (t := Ty.str) (v__law_of_text))) (bName (t := Ty.str) (v__law_of_sign)) (Gam.mask [true, true, true, false]) eYes (e2 fInS (eV (t := Ty.str) (v__law_of_sign)) (eV (t := Ty.str) (v__law_of_some)))) := hide_eq _
noncomputable def b__law_of : Gam g__law_of → Option (Fl (Gam g__law_of) (den Ty.bool)) :=
  (sRet (eAnd (eChain fLt fLe (eC (0 : Int)) (e1 fLenS (eV (t := Ty.str) (v__law_of_text))) (eV (t := Ty.int) (v__law_of_most))) (e1 fAll lc__law_of_1)))
noncomputable def m__law_of : den (Ty.cons Ty.str (Ty.cons Ty.str (Ty.last Ty.int))) → Option (den Ty.bool) := hide (runG (Ty.cons Ty.str (Ty.cons Ty.str (Ty.last Ty.int))) [Ty.str] b__law_of)
theorem m__law_of_eq (d : den (Ty.cons Ty.str (Ty.cons Ty.str (Ty.last Ty.int)))) : m__law_of d = runG (Ty.cons Ty.str (Ty.cons Ty.str (Ty.last Ty.int))) [Ty.str] b__law_of d := congrFun (hide_eq _) d
theorem m__law_of_at (p0 : den Ty.str) (p1 : den Ty.str) (p2 : den Ty.int) : m__law_of (p0, p1, p2) = endOf (b__law_of ((some p0, some p1, some p2, none, ()) : Gam g__law_of)) := by
  rw [m__law_of_eq]
  rfl
set_option maxHeartbeats 4000000 in
theorem ok__law_of {f : Addr} {fd : FuncData} (F : Fun K "_law_of" "_law_of" s__law_of f fd) (T : Txt K mg) :
    FnOk K.P K.w K mg base CX0 1 f fd P__law_of (spP K (Ty.cons Ty.str (Ty.cons Ty.str (Ty.last Ty.int))) .o Ty.bool m__law_of) := by
  have S := sc__law_of
  refine fn_ok (F := b__law_of) [Ty.str] M__law_of F S rfl rfl rfl m__law_of_eq (fun cdv A outer s H E hr => ?_)
  refine ⟨_, (pss_one (ps_ret (pe_and (pe_chain op_lt op_le pe_int (pe_callB (r := VV.rLen K) call_len (by rfl) T.b_len (by decide +kernel) (pa_cons (pv 0) pa_nil)) (pv 2)) (pe_one (pe_callB (r := rAllD K) (call_allD rfl) (by rfl) T.b_all (by decide +kernel) (pa_cons (pe_lc (own := [("sign", 3)]) rfl S.nd (pi_str (pv 0)) (blkOk_by (N := N__law_of) (sc := defScope s__law_of) (by decide +kernel)) (fun _ _ _ _ _ => (pg_name (i := 3) S.nd rfl (Or.inl rfl))) (fun _ _ _ _ _ => pts_nil) (fun _ _ _ _ _ => (pe_cmpR op_in_str (pv 3) (pv 1) (by rfl)))) pa_nil)))))), ?_⟩
  exact (rs_ret (rm := .o) (ρ := Ty.bool) (rp_and (m1 := .b) (m2 := .b) (rp_chain (m1 := .b) (m2 := .b) (m3 := .b) (m4 := .b) (m5 := .b) v_lt v_le rp_int (rp_lenS (m' := .b) (rp_frz .b (rp_varw (ms := M__law_of) (v__law_of_text)))) (rp_frz .b (rp_varw (ms := M__law_of) (v__law_of_most)))) (rp_all (m' := .b) (rp_le (rp_hide (rp_lc (w := false) (m := .o) (t := Ty.str) (u := Ty.bool) [true, true, true, false] [3] (ris_of (ri_str (w := false) (m := .b) (rp_frz .b (rp_varw (ms := M__law_of) (v__law_of_text))))) (rg_name (ms := M__law_of) (v__law_of_sign)) gw_name rt_yes (rp_op (m1 := .b) (m2 := .b) v_inS (rp_frz .b (rp_varw (ms := M__law_of) (v__law_of_sign))) (rp_frz .b (rp_varw (ms := M__law_of) (v__law_of_some))))))))))
abbrev s__law_is_head : Stmt := topS 37
abbrev N__law_is_head : List Str := ["word", "letters", "stroke", "figures", "good"]
abbrev P__law_is_head : List Str := ["word"]
theorem sc__law_is_head : FnScope N__law_is_head P__law_is_head (defScope s__law_is_head) := ⟨rfl, rfl, rfl, by decide +kernel, rfl, by decide +kernel, by decide +kernel⟩
abbrev g__law_is_head : List Ty := [Ty.str, Ty.str, Ty.str, Ty.str, Ty.bool]
abbrev M__law_is_head : List Md := [.w, .w, .w, .w, .w]
abbrev v__law_is_head_word : Mem g__law_is_head Ty.str := .z
abbrev v__law_is_head_letters : Mem g__law_is_head Ty.str := (.s .z)
abbrev v__law_is_head_stroke : Mem g__law_is_head Ty.str := (.s (.s .z))
abbrev v__law_is_head_figures : Mem g__law_is_head Ty.str := (.s (.s (.s .z)))
abbrev v__law_is_head_good : Mem g__law_is_head Ty.bool := (.s (.s (.s (.s .z))))
noncomputable def b__law_is_head : Gam g__law_is_head → Option (Fl (Gam g__law_is_head) (den Ty.bool)) :=
  (sSeq (sAsg (e2 fPartition (eV (t := Ty.str) (v__law_is_head_word)) (eC (Str.ofString "_"))) (bCons (bName (t := Ty.str) (v__law_is_head_letters)) (bCons (bName (t := Ty.str) (v__law_is_head_stroke)) (bName (t := Ty.str) (v__law_is_head_figures)))))
  (sSeq (sSet (v__law_is_head_good) (e1 m__law_of (eCons (eV (t := Ty.str) (v__law_is_head_letters)) (eCons (eC (Str.ofString "ABCDEFGHIJKLMNOPQRSTUVWXYZ")) (eC (8 : Int))))))
  (sRet (eAnd (eV (t := Ty.bool) (v__law_is_head_good)) (eOr (e2 fEqS (eV (t := Ty.str) (v__law_is_head_stroke)) (eC (Str.ofString ""))) (e1 m__law_of (eCons (eV (t := Ty.str) (v__law_is_head_figures)) (eCons (eC (Str.ofString "0123456789")) (eC (4 : Int))))))))))
noncomputable def m__law_is_head : den (Ty.last Ty.str) → Option (den Ty.bool) := hide (runG (Ty.last Ty.str) [Ty.str, Ty.str, Ty.str, Ty.bool] b__law_is_head)
theorem m__law_is_head_eq (d : den (Ty.last Ty.str)) : m__law_is_head d = runG (Ty.last Ty.str) [Ty.str, Ty.str, Ty.str, Ty.bool] b__law_is_head d := congrFun (hide_eq _) d
theorem m__law_is_head_at (p0 : den Ty.str) : m__law_is_head (p0) = endOf (b__law_is_head ((some p0, none, none, none, none, ()) : Gam g__law_is_head)) := by
  rw [m__law_is_head_eq]
  rfl
set_option maxHeartbeats 4000000 in
theorem ok__law_is_head {f : Addr} {fd : FuncData} (F : Fun K "_law_is_head" "_law_is_head" s__law_is_head f fd) (T : Txt K mg) {f__law_of : Addr} {fd__law_of : FuncData} (D__law_of : Df K mg "_law_of" "_law_of" s__law_of P__law_of f__law_of fd__law_of) (G__law_of : FnOk K.P K.w K mg base CX0 1 f__law_of fd__law_of P__law_of (spP K (Ty.cons Ty.str (Ty.cons Ty.str (Ty.last Ty.int))) .o Ty.bool m__law_of)) :
    FnOk K.P K.w K mg base CX0 2 f fd P__law_is_head (spP K (Ty.last Ty.str) .o Ty.bool m__law_is_head) := by
  have S := sc__law_is_head
  refine fn_ok (F := b__law_is_head) [Ty.str, Ty.str, Ty.str, Ty.bool] M__law_is_head F S rfl rfl rfl m__law_is_head_eq (fun cdv A outer s H E hr => ?_)
  refine ⟨_, (pss_cons (ps_asg (pe_partition (pv 0) pe_str) (pg_tupK (n := 3) K rfl rfl (pgs_cons (pg_name (i := 1) S.nd rfl (Or.inl rfl)) (pgs_cons (pg_name (i := 2) S.nd rfl (Or.inl rfl)) (pgs_cons (pg_name (i := 3) S.nd rfl (Or.inl rfl)) pgs_nil)))))
  (pss_cons (ps_set (i := 4) S.nd rfl (Or.inl rfl) (pe_call G__law_of (hr.mono (by decide)) rfl D__law_of.gl D__law_of.fn.kp D__law_of.bi .nil pass0 (pa_cons (pv 1) (pa_cons pe_str (pa_cons pe_int pa_nil)))))
  (pss_one (ps_ret (pe_and (pv 4) (pe_one (pe_or (pe_cmpR op_eq (pv 2) pe_str (nomark _)) (pe_one (pe_call G__law_of (hr.mono (by decide)) rfl D__law_of.gl D__law_of.fn.kp D__law_of.bi .nil pass0 (pa_cons (pv 3) (pa_cons pe_str (pa_cons pe_int pa_nil)))))))))))), ?_⟩
  exact (rs_seq (rs_asg (w := false) (t := (Ty.tup (Ty.cons Ty.str (Ty.cons Ty.str (Ty.last Ty.str))))) (rp_partition (m1 := .b) (m2 := .b) (rp_frz .b (rp_varw (ms := M__law_is_head) (v__law_is_head_word))) (rp_str)) (rg_tup (rgs_cons (rg_name (ms := M__law_is_head) (v__law_is_head_letters)) (rgs_cons (rg_name (ms := M__law_is_head) (v__law_is_head_stroke)) (rgs_one (rg_name (ms := M__law_is_head) (v__law_is_head_figures)))))))
  (rs_seq (rs_set (ms := M__law_is_head) (m := .w) (v__law_is_head_good) (rp_frz .w (rp_call (mA := .b) (rm := .o) (ρ := Ty.bool) (m := m__law_of) rfl (ra_cons (rp_frz .b (rp_varw (ms := M__law_is_head) (v__law_is_head_letters))) (ra_cons (rp_str) (ra_one rp_int))))))
  (rs_ret (rm := .o) (ρ := Ty.bool) (rp_and (m1 := .b) (m2 := .b) (rp_frz .b (rp_varw (ms := M__law_is_head) (v__law_is_head_good))) (rp_or (m1 := .b) (m2 := .b) (rp_op (m1 := .b) (m2 := .b) v_eqS (rp_frz .b (rp_varw (ms := M__law_is_head) (v__law_is_head_stroke))) (rp_str)) (rp_frz .b (rp_call (mA := .b) (rm := .o) (ρ := Ty.bool) (m := m__law_of) rfl (ra_cons (rp_frz .b (rp_varw (ms := M__law_is_head) (v__law_is_head_figures))) (ra_cons (rp_str) (ra_one rp_int))))))))))
abbrev s__law_row : Stmt := topS 38
abbrev N__law_row : List Str := ["row", "words", "word"]
abbrev P__law_row : List Str := ["row"]
theorem sc__law_row : FnScope N__law_row P__law_row (defScope s__law_row) := ⟨rfl, rfl, rfl, by decide +kernel, rfl, by decide +kernel, by decide +kernel⟩
abbrev g__law_row : List Ty := [Ty.str, (Ty.list Ty.str), Ty.str]
abbrev M__law_row : List Md := [.w, .o, .w]
abbrev v__law_row_row : Mem g__law_row Ty.str := .z
abbrev v__law_row_words : Mem g__law_row (Ty.list Ty.str) := (.s .z)
abbrev v__law_row_word : Mem g__law_row Ty.str := (.s (.s .z))
noncomputable def lb__law_row_1 : Gam g__law_row → Option (Fl (Gam g__law_row) (den (Ty.opt (Ty.list Ty.str)))) :=
  (sIf (eAnd (eNot (e1 m__law_of (eCons (eV (t := Ty.str) (v__law_row_word)) (eCons (eC (Str.ofString "abcdefghijklmnopqrstuvwxyz")) (eC (8 : Int)))))) (eNot (e1 m__law_is_head (eV (t := Ty.str) (v__law_row_word))))) (sRet (eC none)) sNext)
noncomputable def lp__law_row_1 : Gam g__law_row → Option (Fl (Gam g__law_row) (den (Ty.opt (Ty.list Ty.str)))) := hide (sFor (e3 fCutL (eV (t := (Ty.list Ty.str)) (v__law_row_words)) (e1 (fun i => some (some i)) (eC (2 : Int))) (eC none)) (bName (t := Ty.str) (v__law_row_word)) (Gam.mask [false, true, false]) lb__law_row_1)
theorem lp__law_row_1_eq : lp__law_row_1 = (sFor (e3 fCutL (eV (t := (Ty.list Ty.str)) (v__law_row_words)) (e1 (fun i => some (some i)) (eC (2 : Int))) (eC none)) (bName (t := Ty.str) (v__law_row_word)) (Gam.mask [false, true, false]) lb__law_row_1) := hide_eq _
noncomputable def b__law_row : Gam g__law_row → Option (Fl (Gam g__law_row) (den (Ty.opt (Ty.list Ty.str)))) :=
  (sSeq (sSet (v__law_row_words) (e2 fSplit (eV (t := Ty.str) (v__law_row_row)) (eC (Str.ofString " "))))
  (sSeq (sIf (eAnd (e2 fGt (e1 fLen (eV (t := (Ty.list Ty.str)) (v__law_row_words))) (eC (3 : Int))) (e2 fEqS (e2 atI (eV (t := (Ty.list Ty.str)) (v__law_row_words)) (e1 (fun a => some (-a)) (eC (2 : Int)))) (eC (Str.ofString ":")))) (sSeq (sIf (eOr (eNot (e1 m__law_of (eCons (e2 atI (eV (t := (Ty.list Ty.str)) (v__law_row_words)) (e1 (fun a => some (-a)) (eC (1 : Int)))) (eCons (eC (Str.ofString "0123456789")) (eC (60 : Int)))))) (e2 fEqS (e2 fIxS (e2 atI (eV (t := (Ty.list Ty.str)) (v__law_row_words)) (e1 (fun a => some (-a)) (eC (1 : Int)))) (eC (0 : Int))) (eC (Str.ofString "0")))) (sRet (eC none)) sNext)
  (sSet (v__law_row_words) (e3 fCutL (eV (t := (Ty.list Ty.str)) (v__law_row_words)) (eC none) (e1 (fun i => some (some i)) (e1 (fun a => some (-a)) (eC (2 : Int))))))) sNext)
  (sSeq (sIf (eOr (e2 fLt (e1 fLen (eV (t := (Ty.list Ty.str)) (v__law_row_words))) (eC (2 : Int))) (eOr (e2 fNeS (e2 atI (eV (t := (Ty.list Ty.str)) (v__law_row_words)) (eC (1 : Int))) (eC (Str.ofString "="))) (eNot (e1 m__law_is_head (e2 atI (eV (t := (Ty.list Ty.str)) (v__law_row_words)) (eC (0 : Int))))))) (sRet (eC none)) sNext)
  (sSeq lp__law_row_1
  (sRetE (eSomeE (α := den (Ty.list Ty.str)) (eMove (t := (Ty.list Ty.str)) (v__law_row_words))))))))
noncomputable def m__law_row : den (Ty.last Ty.str) → Option (den (Ty.opt (Ty.list Ty.str))) := hide (runG (Ty.last Ty.str) [(Ty.list Ty.str), Ty.str] b__law_row)
theorem m__law_row_eq (d : den (Ty.last Ty.str)) : m__law_row d = runG (Ty.last Ty.str) [(Ty.list Ty.str), Ty.str] b__law_row d := congrFun (hide_eq _) d
theorem m__law_row_at (p0 : den Ty.str) : m__law_row (p0) = endOf (b__law_row ((some p0, none, none, ()) : Gam g__law_row)) := by
  rw [m__law_row_eq]
  rfl
set_option maxHeartbeats 4000000 in
theorem ok__law_row {f : Addr} {fd : FuncData} (F : Fun K "_law_row" "_law_row" s__law_row f fd) (T : Txt K mg) {f__law_of : Addr} {fd__law_of : FuncData} (D__law_of : Df K mg "_law_of" "_law_of" s__law_of P__law_of f__law_of fd__law_of) (G__law_of : FnOk K.P K.w K mg base CX0 1 f__law_of fd__law_of P__law_of (spP K (Ty.cons Ty.str (Ty.cons Ty.str (Ty.last Ty.int))) .o Ty.bool m__law_of)) {f__law_is_head : Addr} {fd__law_is_head : FuncData} (D__law_is_head : Df K mg "_law_is_head" "_law_is_head" s__law_is_head P__law_is_head f__law_is_head fd__law_is_head) (G__law_is_head : FnOk K.P K.w K mg base CX0 2 f__law_is_head fd__law_is_head P__law_is_head (spP K (Ty.last Ty.str) .o Ty.bool m__law_is_head)) :
    FnOk K.P K.w K mg base CX0 3 f fd P__law_row (spP K (Ty.last Ty.str) .o (Ty.opt (Ty.list Ty.str)) m__law_row) := by
  have S := sc__law_row
  refine fn_ok (F := b__law_row) [(Ty.list Ty.str), Ty.str] M__law_row F S rfl rfl rfl m__law_row_eq (fun cdv A outer s H E hr => ?_)
  refine ⟨_, (pss_cons (ps_set (i := 1) S.nd rfl (Or.inl rfl) (pe_split (pv 0) pe_str))
  (pss_cons (ps_if (PW.pt (pw_and (pt_cmpR op_gt (pe_callB (r := VV.rLen K) call_len (by rfl) T.b_len (by decide +kernel) (pa_cons (pv 1) pa_nil)) pe_int (nomark _)) (pw_and1 (pt_cmpR op_eq (pe_ix (r := rIxL K) ix_list (pv 1) (pe_un un_neg pe_int) (fun _ _ => rfl)) pe_str (nomark _))))) (pss_cons (ps_if (PW.pt (pw_or (pt_not (pt_val (pe_call G__law_of (hr.mono (by decide)) rfl D__law_of.gl D__law_of.fn.kp D__law_of.bi .nil pass0 (pa_cons (pe_ix (r := rIxL K) ix_list (pv 1) (pe_un un_neg pe_int) (fun _ _ => rfl)) (pa_cons pe_str (pa_cons pe_int pa_nil)))))) (pw_or1 (pt_cmpR op_eq (pe_ix (r := rIxS) ix_str (pe_ix (r := rIxL K) ix_list (pv 1) (pe_un un_neg pe_int) (fun _ _ => rfl)) pe_int (fun _ _ => rfl)) pe_str (nomark _))))) (pss_one (ps_ret pe_non)) pss_nil)
  (pss_one (ps_set (i := 1) S.nd rfl (Or.inl rfl) (pe_slice (r := rSlL K) sl_list (pv 1) po_none (po_some (pe_un un_neg pe_int)))))) pss_nil)
  (pss_cons (ps_if (PW.pt (pw_or (pt_cmpR op_lt (pe_callB (r := VV.rLen K) call_len (by rfl) T.b_len (by decide +kernel) (pa_cons (pv 1) pa_nil)) pe_int (nomark _)) (pw_or (pt_cmpR op_ne (pe_ix (r := rIxL K) ix_list (pv 1) pe_int (fun _ _ => rfl)) pe_str (nomark _)) (pw_or1 (pt_not (pt_val (pe_call G__law_is_head (hr.mono (by decide)) rfl D__law_is_head.gl D__law_is_head.fn.kp D__law_is_head.bi .nil pass0 (pa_cons (pe_ix (r := rIxL K) ix_list (pv 1) pe_int (fun _ _ => rfl)) pa_nil)))))))) (pss_one (ps_ret pe_non)) pss_nil)
  (pss_cons (ps_for PassesOwn.never rfl (pi_listK K rfl (pe_slice (r := rSlL K) sl_list (pv 1) (po_some pe_int) po_none)) (pg_name (i := 2) S.nd rfl (Or.inl rfl)) (pss_one (ps_if (PW.pt (pw_and (pt_not (pt_val (pe_call G__law_of (hr.mono (by decide)) rfl D__law_of.gl D__law_of.fn.kp D__law_of.bi .nil pass0 (pa_cons (pv 2) (pa_cons pe_str (pa_cons pe_int pa_nil)))))) (pw_and1 (pt_not (pt_val (pe_call G__law_is_head (hr.mono (by decide)) rfl D__law_is_head.gl D__law_is_head.fn.kp D__law_is_head.bi .nil pass0 (pa_cons (pv 2) pa_nil))))))) (pss_one (ps_ret pe_non)) pss_nil)))
  (pss_one (ps_ret (pv 1))))))), ?_⟩
  exact (rs_seq (rs_set (ms := M__law_row) (m := .o) (v__law_row_words) (rp_split (m1 := .b) (m2 := .b) (rp_frz .b (rp_varw (ms := M__law_row) (v__law_row_row))) (rp_str)))
  (rs_seq (rs_if (rt_and (rt_test (rp_op (m := .b) (m1 := .b) (m2 := .b) v_gt (rp_lenL (m' := .b) (rp_var (ms := M__law_row) (v__law_row_words))) rp_int)) (rt_test (rp_op (m := .b) (m1 := .b) (m2 := .b) v_eqS (rp_op (m1 := .b) (m2 := .b) (v_ixL (t := Ty.str)) (rp_var (ms := M__law_row) (v__law_row_words)) (rp_neg (m1 := .b) rp_int)) (rp_str)))) (rs_seq (rs_if (rt_or (rt_not (rt_val (m := .b) (rp_frz .b (rp_call (mA := .b) (rm := .o) (ρ := Ty.bool) (m := m__law_of) rfl (ra_cons (rp_op (m1 := .b) (m2 := .b) (v_ixL (t := Ty.str)) (rp_var (ms := M__law_row) (v__law_row_words)) (rp_neg (m1 := .b) rp_int)) (ra_cons (rp_str) (ra_one rp_int))))))) (rt_test (rp_op (m := .b) (m1 := .b) (m2 := .b) v_eqS (rp_op (m1 := .b) (m2 := .b) v_ixS (rp_op (m1 := .b) (m2 := .b) (v_ixL (t := Ty.str)) (rp_var (ms := M__law_row) (v__law_row_words)) (rp_neg (m1 := .b) rp_int)) rp_int) (rp_str)))) (rs_ret (rm := .o) (ρ := (Ty.opt (Ty.list Ty.str))) rp_noneO) rs_next)
  (rs_set (ms := M__law_row) (m := .o) (v__law_row_words) (rp_sliceL (m := .b) (rp_var (ms := M__law_row) (v__law_row_words)) ro_none (ro_some (m := .b) (rp_neg (m1 := .b) rp_int))))) rs_next)
  (rs_seq (rs_if (rt_or (rt_test (rp_op (m := .b) (m1 := .b) (m2 := .b) v_lt (rp_lenL (m' := .b) (rp_var (ms := M__law_row) (v__law_row_words))) rp_int)) (rt_or (rt_test (rp_op (m := .b) (m1 := .b) (m2 := .b) v_neS (rp_op (m1 := .b) (m2 := .b) (v_ixL (t := Ty.str)) (rp_var (ms := M__law_row) (v__law_row_words)) rp_int) (rp_str))) (rt_not (rt_val (m := .b) (rp_frz .b (rp_call (mA := .b) (rm := .o) (ρ := Ty.bool) (m := m__law_is_head) rfl (ra_one (rp_op (m1 := .b) (m2 := .b) (v_ixL (t := Ty.str)) (rp_var (ms := M__law_row) (v__law_row_words)) rp_int)))))))) (rs_ret (rm := .o) (ρ := (Ty.opt (Ty.list Ty.str))) rp_noneO) rs_next)
  (rs_seq (rs_hide (rs_for (w := false) (t := Ty.str) [false, true, false] (ri_list (w := false) (t := Ty.str) (rp_le (rp_sliceL (m := .b) (rp_var (ms := M__law_row) (v__law_row_words)) (ro_some (m := .b) rp_int) ro_none))) (rg_name (ms := M__law_row) (v__law_row_word)) (rs_if (rt_and (rt_not (rt_val (m := .b) (rp_frz .b (rp_call (mA := .b) (rm := .o) (ρ := Ty.bool) (m := m__law_of) rfl (ra_cons (rp_frz .b (rp_varw (ms := M__law_row) (v__law_row_word))) (ra_cons (rp_str) (ra_one rp_int))))))) (rt_not (rt_val (m := .b) (rp_frz .b (rp_call (mA := .b) (rm := .o) (ρ := Ty.bool) (m := m__law_is_head) rfl (ra_one (rp_frz .b (rp_varw (ms := M__law_row) (v__law_row_word))))))))) (rs_ret (rm := .o) (ρ := (Ty.opt (Ty.list Ty.str))) rp_noneO) rs_next)))
  (rs_retE (ρ := (Ty.opt (Ty.list Ty.str))) (re_some (t := (Ty.list Ty.str)) (re_move (ms := M__law_row) (v__law_row_words))))))))
abbrev s__law_due : Stmt := topS 39
abbrev N__law_due : List Str := ["text", "rows", "row", "heads", "words", "word"]
abbrev P__law_due : List Str := ["text"]
theorem sc__law_due : FnScope N__law_due P__law_due (defScope s__law_due) := ⟨rfl, rfl, rfl, by decide +kernel, rfl, by decide +kernel, by decide +kernel⟩
abbrev g__law_due : List Ty := [Ty.str, (Ty.list (Ty.opt (Ty.list Ty.str))), Ty.str, (Ty.list Ty.str), (Ty.opt (Ty.list Ty.str)), Ty.str]
abbrev M__law_due : List Md := [.w, .l, .w, .l, .l, .w]
abbrev v__law_due_text : Mem g__law_due Ty.str := .z
abbrev v__law_due_rows : Mem g__law_due (Ty.list (Ty.opt (Ty.list Ty.str))) := (.s .z)
abbrev v__law_due_row : Mem g__law_due Ty.str := (.s (.s .z))
abbrev v__law_due_heads : Mem g__law_due (Ty.list Ty.str) := (.s (.s (.s .z)))
abbrev v__law_due_words : Mem g__law_due (Ty.opt (Ty.list Ty.str)) := (.s (.s (.s (.s .z))))
abbrev v__law_due_word : Mem g__law_due Ty.str := (.s (.s (.s (.s (.s .z)))))
noncomputable def lc__law_due_1 : Gam g__law_due → Option (List (den (Ty.opt (Ty.list Ty.str)))) := hide (eLc (e2 fSplit (eV (t := Ty.str) (v__law_due_text)) (eC (Str.ofString "\n"))) (bName (t := Ty.str) (v__law_due_row)) (Gam.mask [true, true, false, true, true, true]) eYes (e1 m__law_row (eV (t := Ty.str) (v__law_due_row))))
theorem lc__law_due_1_eq : lc__law_due_1 = (eLc (e2 fSplit (eV (t := Ty.str) (v__law_due_text)) (eC (Str.ofString "\n"))) (bName (t := Ty.str) (v__law_due_row)) (Gam.mask [true, true, false, true, true, true]) eYes (e1 m__law_row (eV (t := Ty.str) (v__law_due_row)))) := hide_eq _
noncomputable def lc__law_due_2 : Gam g__law_due → Option (List (den Ty.str)) := hide (eLc (eV (t := (Ty.list (Ty.opt (Ty.list Ty.str)))) (v__law_due_rows)) (bName (t := (Ty.opt (Ty.list Ty.str))) (v__law_due_words)) (Gam.mask [true, true, true, true, false, true]) eYes (e2 atI (e1 (fun (o : Option (den (Ty.list Ty.str))) => o) (eV (t := (Ty.opt (Ty.list Ty.str))) (v__law_due_words))) (eC (0 : Int))))
theorem lc__law_due_2_eq : lc__law_due_2 = (eLc (eV (t := (Ty.list (Ty.opt (Ty.list Ty.str)))) (v__law_due_rows)) (bName (t := (Ty.opt (Ty.list Ty.str))) (v__law_due_words)) (Gam.mask [true, true, true, true, false, true]) eYes (e2 atI (e1 (fun (o : Option (den (Ty.list Ty.str))) => o) (eV (t := (Ty.opt (Ty.list Ty.str))) (v__law_due_words))) (eC (0 : Int)))) := hide_eq _
noncomputable def lb__law_due_2 : Gam g__law_due → Option (Fl (Gam g__law_due) (den Ty.str)) :=
  (sIf (eAnd (e1 m__law_is_head (eV (t := Ty.str) (v__law_due_word))) (e2 (fNotInD Ty.str) (eV (t := Ty.str) (v__law_due_word)) (eV (t := (Ty.list Ty.str)) (v__law_due_heads)))) (sRet (eC (Str.ofString "grammar"))) sNext)
noncomputable def lp__law_due_2 : Gam g__law_due → Option (Fl (Gam g__law_due) (den Ty.str)) := hide (sFor (e3 fCutL (e1 (fun (o : Option (den (Ty.list Ty.str))) => o) (eV (t := (Ty.opt (Ty.list Ty.str))) (v__law_due_words))) (e1 (fun i => some (some i)) (eC (2 : Int))) (eC none)) (bName (t := Ty.str) (v__law_due_word)) (Gam.mask [false, false, false, true, false, false]) lb__law_due_2)
theorem lp__law_due_2_eq : lp__law_due_2 = (sFor (e3 fCutL (e1 (fun (o : Option (den (Ty.list Ty.str))) => o) (eV (t := (Ty.opt (Ty.list Ty.str))) (v__law_due_words))) (e1 (fun i => some (some i)) (eC (2 : Int))) (eC none)) (bName (t := Ty.str) (v__law_due_word)) (Gam.mask [false, false, false, true, false, false]) lb__law_due_2) := hide_eq _
noncomputable def lb__law_due_1 : Gam g__law_due → Option (Fl (Gam g__law_due) (den Ty.str)) :=
  lp__law_due_2
noncomputable def lp__law_due_1 : Gam g__law_due → Option (Fl (Gam g__law_due) (den Ty.str)) := hide (sFor (eV (t := (Ty.list (Ty.opt (Ty.list Ty.str)))) (v__law_due_rows)) (bName (t := (Ty.opt (Ty.list Ty.str))) (v__law_due_words)) (Gam.mask [false, false, false, true, false, false]) lb__law_due_1)
theorem lp__law_due_1_eq : lp__law_due_1 = (sFor (eV (t := (Ty.list (Ty.opt (Ty.list Ty.str)))) (v__law_due_rows)) (bName (t := (Ty.opt (Ty.list Ty.str))) (v__law_due_words)) (Gam.mask [false, false, false, true, false, false]) lb__law_due_1) := hide_eq _
noncomputable def b__law_due : Gam g__law_due → Option (Fl (Gam g__law_due) (den Ty.str)) :=
  (sSeq (sSet (v__law_due_rows) lc__law_due_1)
  (sSeq (sIf (e2 (fInD (Ty.opt (Ty.list Ty.str))) (eC none) (eV (t := (Ty.list (Ty.opt (Ty.list Ty.str)))) (v__law_due_rows))) (sRet (eC (Str.ofString "text"))) sNext)
  (sSeq (sSet (v__law_due_heads) lc__law_due_2)
  (sSeq lp__law_due_1
  (sRet (eC (Str.ofString "good")))))))
noncomputable def m__law_due : den (Ty.last Ty.str) → Option (den Ty.str) := hide (runG (Ty.last Ty.str) [(Ty.list (Ty.opt (Ty.list Ty.str))), Ty.str, (Ty.list Ty.str), (Ty.opt (Ty.list Ty.str)), Ty.str] b__law_due)
theorem m__law_due_eq (d : den (Ty.last Ty.str)) : m__law_due d = runG (Ty.last Ty.str) [(Ty.list (Ty.opt (Ty.list Ty.str))), Ty.str, (Ty.list Ty.str), (Ty.opt (Ty.list Ty.str)), Ty.str] b__law_due d := congrFun (hide_eq _) d
theorem m__law_due_at (p0 : den Ty.str) : m__law_due (p0) = endOf (b__law_due ((some p0, none, none, none, none, none, ()) : Gam g__law_due)) := by
  rw [m__law_due_eq]
  rfl
set_option maxHeartbeats 4000000 in
theorem ok__law_due {f : Addr} {fd : FuncData} (F : Fun K "_law_due" "_law_due" s__law_due f fd) (T : Txt K mg) {f__law_row : Addr} {fd__law_row : FuncData} (D__law_row : Df K mg "_law_row" "_law_row" s__law_row P__law_row f__law_row fd__law_row) (G__law_row : FnOk K.P K.w K mg base CX0 3 f__law_row fd__law_row P__law_row (spP K (Ty.last Ty.str) .o (Ty.opt (Ty.list Ty.str)) m__law_row)) {f__law_is_head : Addr} {fd__law_is_head : FuncData} (D__law_is_head : Df K mg "_law_is_head" "_law_is_head" s__law_is_head P__law_is_head f__law_is_head fd__law_is_head) (G__law_is_head : FnOk K.P K.w K mg base CX0 2 f__law_is_head fd__law_is_head P__law_is_head (spP K (Ty.last Ty.str) .o Ty.bool m__law_is_head)) :
    FnOk K.P K.w K mg base CX0 4 f fd P__law_due (spP K (Ty.last Ty.str) .o Ty.str m__law_due) := by
  have S := sc__law_due
  refine fn_ok (F := b__law_due) [(Ty.list (Ty.opt (Ty.list Ty.str))), Ty.str, (Ty.list Ty.str), (Ty.opt (Ty.list Ty.str)), Ty.str] M__law_due F S rfl rfl rfl m__law_due_eq (fun cdv A outer s H E hr => ?_)
  refine ⟨_, (pss_cons (ps_setLc (own := [("row", 2)]) (i := 1) rfl S.nd rfl rfl (sw_true rfl rfl rfl (by decide +kernel)) (pi_listK K rfl (pe_split (pv 0) pe_str)) (blkOk_by (N := N__law_due) (sc := defScope s__law_due) (by decide +kernel)) (fun _ _ _ _ _ => (pg_name (i := 2) S.nd rfl (Or.inl rfl))) (fun _ _ _ _ _ => pts_nil) (fun _ _ _ _ _ => (pe_call G__law_row (hr.mono (by decide)) rfl D__law_row.gl D__law_row.fn.kp D__law_row.bi .nil pass0 (pa_cons (pv 2) pa_nil))))
  (pss_cons (ps_if (pt_cmpR (r := rInD K) (op_inD (hu65 hr)) pe_non (pv 1) (by rfl)) (pss_one (ps_ret pe_str)) pss_nil)
  (pss_cons (ps_setLc (own := [("words", 4)]) (i := 3) rfl S.nd rfl rfl (sw_true rfl rfl rfl (by decide +kernel)) (pi_listK K rfl (pv 1)) (blkOk_by (N := N__law_due) (sc := defScope s__law_due) (by decide +kernel)) (fun _ _ _ _ _ => (pg_name (i := 4) S.nd rfl (Or.inl rfl))) (fun _ _ _ _ _ => pts_nil) (fun _ _ _ _ _ => (pe_ix (r := rIxL K) ix_list (pv 4) pe_int (fun _ _ => rfl))))
  (pss_cons (ps_for PassesOwn.never rfl (pi_listK K rfl (pv 1)) (pg_name (i := 4) S.nd rfl (Or.inl rfl)) (pss_one (ps_for PassesOwn.never rfl (pi_listK K rfl (pe_slice (r := rSlL K) sl_list (pv 4) (po_some pe_int) po_none)) (pg_name (i := 5) S.nd rfl (Or.inl rfl)) (pss_one (ps_if (PW.pt (pw_and (pt_val (pe_call G__law_is_head (hr.mono (by decide)) rfl D__law_is_head.gl D__law_is_head.fn.kp D__law_is_head.bi .nil pass0 (pa_cons (pv 5) pa_nil))) (pw_and1 (pt_cmpR (r := rNotInD K) (op_notInD (hu65 hr)) (pv 5) (pv 3) (by rfl))))) (pss_one (ps_ret pe_str)) pss_nil)))))
  (pss_one (ps_ret pe_str)))))), ?_⟩
  exact (rs_seq (rs_set (ms := M__law_due) (m := .l) (v__law_due_rows) (rp_le (rp_hide (rp_lc (w := false) (m := .o) (t := Ty.str) (u := (Ty.opt (Ty.list Ty.str))) [true, true, false, true, true, true] [2] (ris_of (ri_list (w := false) (t := Ty.str) (rp_le (rp_split (m1 := .b) (m2 := .b) (rp_frz .b (rp_varw (ms := M__law_due) (v__law_due_text))) (rp_str))))) (rg_name (ms := M__law_due) (v__law_due_row)) gw_name rt_yes (rp_call (mA := .b) (rm := .o) (ρ := (Ty.opt (Ty.list Ty.str))) (m := m__law_row) rfl (ra_one (rp_frz .b (rp_varw (ms := M__law_due) (v__law_due_row)))))))))
  (rs_seq (rs_if (rt_test (rp_op (m := .b) (m1 := .b) (m2 := .b) (v_inD (t := (Ty.opt (Ty.list Ty.str))) (by decide)) rp_noneO (rp_le (rp_varl (ms := M__law_due) (v__law_due_rows))))) (rs_ret (rm := .o) (ρ := Ty.str) (rp_str)) rs_next)
  (rs_seq (rs_set (ms := M__law_due) (m := .l) (v__law_due_heads) (rp_le (rp_hide (rp_lc (w := false) (m := .o) (t := (Ty.opt (Ty.list Ty.str))) (u := Ty.str) [true, true, true, true, false, true] [4] (ris_of (ri_list (w := false) (t := (Ty.opt (Ty.list Ty.str))) (rp_varl (ms := M__law_due) (v__law_due_rows)))) (rg_name (ms := M__law_due) (v__law_due_words)) gw_name rt_yes (rp_frz .o (rp_op (m1 := .b) (m2 := .b) (v_ixL (t := Ty.str)) (rp_le (rp_unoptL (t := (Ty.list Ty.str)) (rp_varl (ms := M__law_due) (v__law_due_words)))) rp_int))))))
  (rs_seq (rs_hide (rs_for (w := false) (t := (Ty.opt (Ty.list Ty.str))) [false, false, false, true, false, false] (ri_list (w := false) (t := (Ty.opt (Ty.list Ty.str))) (rp_varl (ms := M__law_due) (v__law_due_rows))) (rg_name (ms := M__law_due) (v__law_due_words)) (rs_hide (rs_for (w := false) (t := Ty.str) [false, false, false, true, false, false] (ri_list (w := false) (t := Ty.str) (rp_le (rp_sliceL (m := .b) (rp_le (rp_unoptL (t := (Ty.list Ty.str)) (rp_varl (ms := M__law_due) (v__law_due_words)))) (ro_some (m := .b) rp_int) ro_none))) (rg_name (ms := M__law_due) (v__law_due_word)) (rs_if (rt_and (rt_val (m := .b) (rp_frz .b (rp_call (mA := .b) (rm := .o) (ρ := Ty.bool) (m := m__law_is_head) rfl (ra_one (rp_frz .b (rp_varw (ms := M__law_due) (v__law_due_word))))))) (rt_test (rp_op (m := .b) (m1 := .b) (m2 := .b) (v_notInD (t := Ty.str) (by decide)) (rp_frz .b (rp_varw (ms := M__law_due) (v__law_due_word))) (rp_le (rp_varl (ms := M__law_due) (v__law_due_heads)))))) (rs_ret (rm := .o) (ρ := Ty.str) (rp_str)) rs_next)))))
  (rs_ret (rm := .o) (ρ := Ty.str) (rp_str))))))
abbrev s_names : Stmt := topS 11
abbrev N_names : List Str := ["grammar", "found", "name", "parts", "cost"]
abbrev P_names : List Str := ["grammar"]
theorem sc_names : FnScope N_names P_names (defScope s_names) := ⟨rfl, rfl, rfl, by decide +kernel, rfl, by decide +kernel, by decide +kernel⟩
abbrev g_names : List Ty := [(Ty.list (Ty.tup (Ty.cons Ty.str (Ty.cons (Ty.vtup Ty.str) (Ty.last Ty.int))))), (Ty.list Ty.str), Ty.str, (Ty.vtup Ty.str), Ty.int]
abbrev M_names : List Md := [.w, .o, .w, .w, .w]
abbrev v_names_grammar : Mem g_names (Ty.list (Ty.tup (Ty.cons Ty.str (Ty.cons (Ty.vtup Ty.str) (Ty.last Ty.int))))) := .z
abbrev v_names_found : Mem g_names (Ty.list Ty.str) := (.s .z)
abbrev v_names_name : Mem g_names Ty.str := (.s (.s .z))
abbrev v_names_parts : Mem g_names (Ty.vtup Ty.str) := (.s (.s (.s .z)))
abbrev v_names_cost : Mem g_names Ty.int := (.s (.s (.s (.s .z))))
noncomputable def lb_names_1 : Gam g_names → Option (Fl (Gam g_names) (den (Ty.list Ty.str))) :=
  (sIf (e2 (fNotInD Ty.str) (eV (t := Ty.str) (v_names_name)) (eV (t := (Ty.list Ty.str)) (v_names_found))) (sApp (v_names_found) (eV (t := Ty.str) (v_names_name))) sNext)
noncomputable def lp_names_1 : Gam g_names → Option (Fl (Gam g_names) (den (Ty.list Ty.str))) := hide (sFor (eV (t := (Ty.list (Ty.tup (Ty.cons Ty.str (Ty.cons (Ty.vtup Ty.str) (Ty.last Ty.int)))))) (v_names_grammar)) (bCons (bName (t := Ty.str) (v_names_name)) (bCons (bName (t := (Ty.vtup Ty.str)) (v_names_parts)) (bName (t := Ty.int) (v_names_cost)))) (Gam.mask [false, true, false, false, false]) lb_names_1)
theorem lp_names_1_eq : lp_names_1 = (sFor (eV (t := (Ty.list (Ty.tup (Ty.cons Ty.str (Ty.cons (Ty.vtup Ty.str) (Ty.last Ty.int)))))) (v_names_grammar)) (bCons (bName (t := Ty.str) (v_names_name)) (bCons (bName (t := (Ty.vtup Ty.str)) (v_names_parts)) (bName (t := Ty.int) (v_names_cost)))) (Gam.mask [false, true, false, false, false]) lb_names_1) := hide_eq _
noncomputable def b_names : Gam g_names → Option (Fl (Gam g_names) (den (Ty.list Ty.str))) :=
  (sSeq (sSet (v_names_found) (e1 fSmall eNil))
  (sSeq lp_names_1
  (sRetM (v_names_found))))
noncomputable def m_names : den (Ty.last (Ty.list (Ty.tup (Ty.cons Ty.str (Ty.cons (Ty.vtup Ty.str) (Ty.last Ty.int)))))) → Option (den (Ty.list Ty.str)) := hide (runG (Ty.last (Ty.list (Ty.tup (Ty.cons Ty.str (Ty.cons (Ty.vtup Ty.str) (Ty.last Ty.int)))))) [(Ty.list Ty.str), Ty.str, (Ty.vtup Ty.str), Ty.int] b_names)
theorem m_names_eq (d : den (Ty.last (Ty.list (Ty.tup (Ty.cons Ty.str (Ty.cons (Ty.vtup Ty.str) (Ty.last Ty.int))))))) : m_names d = runG (Ty.last (Ty.list (Ty.tup (Ty.cons Ty.str (Ty.cons (Ty.vtup Ty.str) (Ty.last Ty.int)))))) [(Ty.list Ty.str), Ty.str, (Ty.vtup Ty.str), Ty.int] b_names d := congrFun (hide_eq _) d
theorem m_names_at (p0 : den (Ty.list (Ty.tup (Ty.cons Ty.str (Ty.cons (Ty.vtup Ty.str) (Ty.last Ty.int)))))) : m_names (p0) = endOf (b_names ((some p0, none, none, none, none, ()) : Gam g_names)) := by
  rw [m_names_eq]
  rfl
set_option maxHeartbeats 4000000 in
theorem ok_names {f : Addr} {fd : FuncData} (F : Fun K "names" "names" s_names f fd) (T : Txt K mg) :
    FnOk K.P K.w K mg base CX0 1 f fd P_names (spP K (Ty.last (Ty.list (Ty.tup (Ty.cons Ty.str (Ty.cons (Ty.vtup Ty.str) (Ty.last Ty.int)))))) .o (Ty.list Ty.str) m_names) := by
  have S := sc_names
  refine fn_ok (F := b_names) [(Ty.list Ty.str), Ty.str, (Ty.vtup Ty.str), Ty.int] M_names F S rfl rfl rfl m_names_eq (fun cdv A outer s H E hr => ?_)
  refine ⟨_, (pss_cons (ps_set (i := 1) S.nd rfl (Or.inl rfl) (pe_lst pa_nil))
  (pss_cons (ps_for PassesOwn.never rfl (pi_listK K rfl (pv 0)) (pg_tupK (n := 3) K rfl rfl (pgs_cons (pg_name (i := 2) S.nd rfl (Or.inl rfl)) (pgs_cons (pg_name (i := 3) S.nd rfl (Or.inl rfl)) (pgs_cons (pg_name (i := 4) S.nd rfl (Or.inl rfl)) pgs_nil)))) (pss_one (ps_if (pt_cmpR (r := rNotInD K) (op_notInD (hu65 hr)) (pv 2) (pv 1) (by rfl)) (pss_one (ps_expr (pe_bm PySem.F.plainAttrs_list PySem.F.slot_list_append PySem.F.type_list_append mt_append (pv 1) (pa_cons (pv 2) pa_nil)))) pss_nil)))
  (pss_one (ps_ret (pv 1))))), ?_⟩
  exact (rs_seq (rs_set (ms := M_names) (m := .o) (v_names_found) (rp_list (t := Ty.str) rl_nil))
  (rs_seq (rs_hide (rs_for (w := true) (t := (Ty.tup (Ty.cons Ty.str (Ty.cons (Ty.vtup Ty.str) (Ty.last Ty.int))))) [false, true, false, false, false] (ri_list (w := true) (t := (Ty.tup (Ty.cons Ty.str (Ty.cons (Ty.vtup Ty.str) (Ty.last Ty.int))))) (rp_varw (ms := M_names) (v_names_grammar))) (rg_tup (rgs_cons (rg_name (ms := M_names) (v_names_name)) (rgs_cons (rg_name (ms := M_names) (v_names_parts)) (rgs_one (rg_name (ms := M_names) (v_names_cost)))))) (rs_if (rt_test (rp_op (m := .b) (m1 := .b) (m2 := .b) (v_notInD (t := Ty.str) (by decide)) (rp_frz .b (rp_varw (ms := M_names) (v_names_name))) (rp_var (ms := M_names) (v_names_found)))) (rs_app (ms := M_names) (v_names_found) (rp_frz .o (rp_varw (ms := M_names) (v_names_name)))) rs_next)))
  (rs_retm (ms := M_names) (v_names_found))))
abbrev s_is_name : Stmt := topS 10
abbrev N_is_name : List Str := ["part"]
abbrev P_is_name : List Str := ["part"]
theorem sc_is_name : FnScope N_is_name P_is_name (defScope s_is_name) := ⟨rfl, rfl, rfl, by decide +kernel, rfl, by decide +kernel, by decide +kernel⟩
abbrev g_is_name : List Ty := [Ty.str]
abbrev M_is_name : List Md := [.w]
abbrev v_is_name_part : Mem g_is_name Ty.str := .z
noncomputable def b_is_name : Gam g_is_name → Option (Fl (Gam g_is_name) (den Ty.bool)) :=
  (sRet (eAnd (e2 fNeS (eV (t := Ty.str) (v_is_name_part)) (eC (Str.ofString ""))) (e2 fInS (e2 fIxS (eV (t := Ty.str) (v_is_name_part)) (eC (0 : Int))) (eC (Str.ofString "ABCDEFGHIJKLMNOPQRSTUVWXYZ")))))
noncomputable def m_is_name : den (Ty.last Ty.str) → Option (den Ty.bool) := hide (runG (Ty.last Ty.str) [] b_is_name)
theorem m_is_name_eq (d : den (Ty.last Ty.str)) : m_is_name d = runG (Ty.last Ty.str) [] b_is_name d := congrFun (hide_eq _) d
theorem m_is_name_at (p0 : den Ty.str) : m_is_name (p0) = endOf (b_is_name ((some p0, ()) : Gam g_is_name)) := by
  rw [m_is_name_eq]
  rfl
set_option maxHeartbeats 4000000 in
theorem ok_is_name {f : Addr} {fd : FuncData} (F : Fun K "is_name" "is_name" s_is_name f fd) (T : Txt K mg) :
    FnOk K.P K.w K mg base CX0 1 f fd P_is_name (spP K (Ty.last Ty.str) .o Ty.bool m_is_name) := by
  have S := sc_is_name
  refine fn_ok (F := b_is_name) [] M_is_name F S rfl rfl rfl m_is_name_eq (fun cdv A outer s H E hr => ?_)
  refine ⟨_, (pss_one (ps_ret (pe_and (pe_cmpR op_ne (pv 0) pe_str (nomark _)) (pe_one (pe_cmpR op_in_str (pe_ix (r := rIxS) ix_str (pv 0) pe_int (fun _ _ => rfl)) (pe_glob (v := V.str (Str.ofString "ABCDEFGHIJKLMNOPQRSTUVWXYZ")) rfl (T.c_GREAT_grammars).choose_spec ⟨_, rfl⟩) (by rfl)))))), ?_⟩
  exact (rs_ret (rm := .o) (ρ := Ty.bool) (rp_and (m1 := .b) (m2 := .b) (rp_op (m1 := .b) (m2 := .b) v_neS (rp_frz .b (rp_varw (ms := M_is_name) (v_is_name_part))) (rp_str)) (rp_op (m1 := .b) (m2 := .b) v_inS (rp_op (m1 := .b) (m2 := .b) v_ixS (rp_frz .b (rp_varw (ms := M_is_name) (v_is_name_part))) rp_int) rp_str)))
abbrev s_grammar_of : Stmt := topS 12
abbrev N_grammar_of : List Str := ["rules", "known", "name", "parts", "cost", "part"]
abbrev P_grammar_of : List Str := ["rules"]
theorem sc_grammar_of : FnScope N_grammar_of P_grammar_of (defScope s_grammar_of) := ⟨rfl, rfl, rfl, by decide +kernel, rfl, by decide +kernel, by decide +kernel⟩
abbrev g_grammar_of : List Ty := [(Ty.list (Ty.tup (Ty.cons Ty.str (Ty.cons (Ty.vtup Ty.str) (Ty.last Ty.int))))), (Ty.list Ty.str), Ty.str, (Ty.vtup Ty.str), Ty.int, Ty.str]
abbrev M_grammar_of : List Md := [.w, .l, .w, .w, .w, .w]
abbrev v_grammar_of_rules : Mem g_grammar_of (Ty.list (Ty.tup (Ty.cons Ty.str (Ty.cons (Ty.vtup Ty.str) (Ty.last Ty.int))))) := .z
abbrev v_grammar_of_known : Mem g_grammar_of (Ty.list Ty.str) := (.s .z)
abbrev v_grammar_of_name : Mem g_grammar_of Ty.str := (.s (.s .z))
abbrev v_grammar_of_parts : Mem g_grammar_of (Ty.vtup Ty.str) := (.s (.s (.s .z)))
abbrev v_grammar_of_cost : Mem g_grammar_of Ty.int := (.s (.s (.s (.s .z))))
abbrev v_grammar_of_part : Mem g_grammar_of Ty.str := (.s (.s (.s (.s (.s .z)))))
noncomputable def lc_grammar_of_1 : Gam g_grammar_of → Option (List (den (Ty.tup (Ty.cons Ty.str (Ty.cons (Ty.vtup Ty.str) (Ty.last Ty.int)))))) := hide (eLc (eV (t := (Ty.list (Ty.tup (Ty.cons Ty.str (Ty.cons (Ty.vtup Ty.str) (Ty.last Ty.int)))))) (v_grammar_of_rules)) (bCons (bName (t := Ty.str) (v_grammar_of_name)) (bCons (bName (t := (Ty.vtup Ty.str)) (v_grammar_of_parts)) (bName (t := Ty.int) (v_grammar_of_cost)))) (Gam.mask [true, true, false, false, false, true]) eYes (eCons (eV (t := Ty.str) (v_grammar_of_name)) (eCons (eV (t := (Ty.vtup Ty.str)) (v_grammar_of_parts)) (eV (t := Ty.int) (v_grammar_of_cost)))))
theorem lc_grammar_of_1_eq : lc_grammar_of_1 = (eLc (eV (t := (Ty.list (Ty.tup (Ty.cons Ty.str (Ty.cons (Ty.vtup Ty.str) (Ty.last Ty.int)))))) (v_grammar_of_rules)) (bCons (bName (t := Ty.str) (v_grammar_of_name)) (bCons (bName (t := (Ty.vtup Ty.str)) (v_grammar_of_parts)) (bName (t := Ty.int) (v_grammar_of_cost)))) (Gam.mask [true, true, false, false, false, true]) eYes (eCons (eV (t := Ty.str) (v_grammar_of_name)) (eCons (eV (t := (Ty.vtup Ty.str)) (v_grammar_of_parts)) (eV (t := Ty.int) (v_grammar_of_cost))))) := hide_eq _
noncomputable def lb_grammar_of_2 : Gam g_grammar_of → Option (Fl (Gam g_grammar_of) (Str × Option (den (Ty.list (Ty.tup (Ty.cons Ty.str (Ty.cons (Ty.vtup Ty.str) (Ty.last Ty.int)))))))) :=
  (sIf (eAnd (e1 m_is_name (eV (t := Ty.str) (v_grammar_of_part))) (e2 (fNotInD Ty.str) (eV (t := Ty.str) (v_grammar_of_part)) (eV (t := (Ty.list Ty.str)) (v_grammar_of_known)))) (sRaise (Str.ofString "NoGrammar")) sNext)
noncomputable def lp_grammar_of_2 : Gam g_grammar_of → Option (Fl (Gam g_grammar_of) (Str × Option (den (Ty.list (Ty.tup (Ty.cons Ty.str (Ty.cons (Ty.vtup Ty.str) (Ty.last Ty.int)))))))) := hide (sFor (eV (t := (Ty.vtup Ty.str)) (v_grammar_of_parts)) (bName (t := Ty.str) (v_grammar_of_part)) (Gam.mask [true, true, false, false, false, false]) lb_grammar_of_2)
theorem lp_grammar_of_2_eq : lp_grammar_of_2 = (sFor (eV (t := (Ty.vtup Ty.str)) (v_grammar_of_parts)) (bName (t := Ty.str) (v_grammar_of_part)) (Gam.mask [true, true, false, false, false, false]) lb_grammar_of_2) := hide_eq _
noncomputable def lb_grammar_of_1 : Gam g_grammar_of → Option (Fl (Gam g_grammar_of) (Str × Option (den (Ty.list (Ty.tup (Ty.cons Ty.str (Ty.cons (Ty.vtup Ty.str) (Ty.last Ty.int)))))))) :=
  (sSeq (sIf (e2 fLt (eV (t := Ty.int) (v_grammar_of_cost)) (eC (0 : Int))) (sRaise (Str.ofString "NoGrammar")) sNext)
  lp_grammar_of_2)
noncomputable def lp_grammar_of_1 : Gam g_grammar_of → Option (Fl (Gam g_grammar_of) (Str × Option (den (Ty.list (Ty.tup (Ty.cons Ty.str (Ty.cons (Ty.vtup Ty.str) (Ty.last Ty.int)))))))) := hide (sFor (eV (t := (Ty.list (Ty.tup (Ty.cons Ty.str (Ty.cons (Ty.vtup Ty.str) (Ty.last Ty.int)))))) (v_grammar_of_rules)) (bCons (bName (t := Ty.str) (v_grammar_of_name)) (bCons (bName (t := (Ty.vtup Ty.str)) (v_grammar_of_parts)) (bName (t := Ty.int) (v_grammar_of_cost)))) (Gam.mask [true, true, false, false, false, false]) lb_grammar_of_1)
theorem lp_grammar_of_1_eq : lp_grammar_of_1 = (sFor (eV (t := (Ty.list (Ty.tup (Ty.cons Ty.str (Ty.cons (Ty.vtup Ty.str) (Ty.last Ty.int)))))) (v_grammar_of_rules)) (bCons (bName (t := Ty.str) (v_grammar_of_name)) (bCons (bName (t := (Ty.vtup Ty.str)) (v_grammar_of_parts)) (bName (t := Ty.int) (v_grammar_of_cost)))) (Gam.mask [true, true, false, false, false, false]) lb_grammar_of_1) := hide_eq _
noncomputable def b_grammar_of : Gam g_grammar_of → Option (Fl (Gam g_grammar_of) (Str × Option (den (Ty.list (Ty.tup (Ty.cons Ty.str (Ty.cons (Ty.vtup Ty.str) (Ty.last Ty.int)))))))) :=
  (sSeq (sIf (e2 (fEqD (Ty.list (Ty.tup (Ty.cons Ty.str (Ty.cons (Ty.vtup Ty.str) (Ty.last Ty.int)))))) (eV (t := (Ty.list (Ty.tup (Ty.cons Ty.str (Ty.cons (Ty.vtup Ty.str) (Ty.last Ty.int)))))) (v_grammar_of_rules)) (e1 fSmall eNil)) (sRaise (Str.ofString "NoGrammar")) sNext)
  (sSeq (sSet (v_grammar_of_known) (e1 m_names (eV (t := (Ty.list (Ty.tup (Ty.cons Ty.str (Ty.cons (Ty.vtup Ty.str) (Ty.last Ty.int)))))) (v_grammar_of_rules))))
  (sSeq lp_grammar_of_1
  (sLift (sRet lc_grammar_of_1)))))
noncomputable def m_grammar_of : den (Ty.last (Ty.list (Ty.tup (Ty.cons Ty.str (Ty.cons (Ty.vtup Ty.str) (Ty.last Ty.int)))))) → Option (Str × Option (den (Ty.list (Ty.tup (Ty.cons Ty.str (Ty.cons (Ty.vtup Ty.str) (Ty.last Ty.int))))))) := hide (runG (Ty.last (Ty.list (Ty.tup (Ty.cons Ty.str (Ty.cons (Ty.vtup Ty.str) (Ty.last Ty.int)))))) [(Ty.list Ty.str), Ty.str, (Ty.vtup Ty.str), Ty.int, Ty.str] b_grammar_of)
theorem m_grammar_of_eq (d : den (Ty.last (Ty.list (Ty.tup (Ty.cons Ty.str (Ty.cons (Ty.vtup Ty.str) (Ty.last Ty.int))))))) : m_grammar_of d = runG (Ty.last (Ty.list (Ty.tup (Ty.cons Ty.str (Ty.cons (Ty.vtup Ty.str) (Ty.last Ty.int)))))) [(Ty.list Ty.str), Ty.str, (Ty.vtup Ty.str), Ty.int, Ty.str] b_grammar_of d := congrFun (hide_eq _) d
theorem m_grammar_of_at (p0 : den (Ty.list (Ty.tup (Ty.cons Ty.str (Ty.cons (Ty.vtup Ty.str) (Ty.last Ty.int)))))) : m_grammar_of (p0) = endOf (b_grammar_of ((some p0, none, none, none, none, none, ()) : Gam g_grammar_of)) := by
  rw [m_grammar_of_eq]
  rfl
set_option maxHeartbeats 4000000 in
theorem ok_grammar_of {f : Addr} {fd : FuncData} (F : Fun K "grammar_of" "grammar_of" s_grammar_of f fd) (T : Txt K mg) {f_names : Addr} {fd_names : FuncData} (D_names : Df K mg "names" "names" s_names P_names f_names fd_names) (G_names : FnOk K.P K.w K mg base CX0 1 f_names fd_names P_names (spP K (Ty.last (Ty.list (Ty.tup (Ty.cons Ty.str (Ty.cons (Ty.vtup Ty.str) (Ty.last Ty.int)))))) .o (Ty.list Ty.str) m_names)) {f_is_name : Addr} {fd_is_name : FuncData} (D_is_name : Df K mg "is_name" "is_name" s_is_name P_is_name f_is_name fd_is_name) (G_is_name : FnOk K.P K.w K mg base CX0 1 f_is_name fd_is_name P_is_name (spP K (Ty.last Ty.str) .o Ty.bool m_is_name)) :
    FnOk K.P K.w K mg base (L2.CX K.P K.w) 2 f fd P_grammar_of (spX K (Ty.last (Ty.list (Ty.tup (Ty.cons Ty.str (Ty.cons (Ty.vtup Ty.str) (Ty.last Ty.int)))))) .o (Ty.list (Ty.tup (Ty.cons Ty.str (Ty.cons (Ty.vtup Ty.str) (Ty.last Ty.int))))) m_grammar_of) := by
  have S := sc_grammar_of
  refine fn_okX (F := b_grammar_of) [(Ty.list Ty.str), Ty.str, (Ty.vtup Ty.str), Ty.int, Ty.str] M_grammar_of F S rfl rfl rfl m_grammar_of_eq (fun cdv A outer s H E hr => ?_)
  refine ⟨_, (pss_cons (ps_if (pt_cmpR (r := rEqD K) (op_eqD hr.units) (pv 0) (pe_lst pa_nil) (nomark _)) (pss_one (ps_raiseN rfl (takes_of rfl rfl rfl rfl) (T.e_NoGrammar).choose_spec rfl)) pss_nil)
  (pss_cons (ps_set (i := 1) S.nd rfl (Or.inl rfl) (pe_call G_names (hr.mono (by decide)) rfl D_names.gl D_names.fn.kp D_names.bi .nil pass0 (pa_cons (pv 0) pa_nil)))
  (pss_cons (ps_for (passes_of rfl) rfl (pi_listK K rfl (pv 0)) (pg_tupK (n := 3) K rfl rfl (pgs_cons (pg_name (i := 2) S.nd rfl (Or.inl rfl)) (pgs_cons (pg_name (i := 3) S.nd rfl (Or.inl rfl)) (pgs_cons (pg_name (i := 4) S.nd rfl (Or.inl rfl)) pgs_nil)))) (pss_cons (ps_if (pt_cmpR op_lt (pv 4) pe_int (nomark _)) (pss_one (ps_raiseN rfl (takes_of rfl rfl rfl rfl) (T.e_NoGrammar).choose_spec rfl)) pss_nil)
  (pss_one (ps_for (passes_of rfl) rfl (pi_tupK K rfl (pv 3)) (pg_name (i := 5) S.nd rfl (Or.inl rfl)) (pss_one (ps_if (PW.pt (pw_and (pt_val (pe_call G_is_name (hr.mono (by decide)) rfl D_is_name.gl D_is_name.fn.kp D_is_name.bi .nil pass0 (pa_cons (pv 5) pa_nil))) (pw_and1 (pt_cmpR (r := rNotInD K) (op_notInD (hu65 hr)) (pv 5) (pv 1) (by rfl))))) (pss_one (ps_raiseN rfl (takes_of rfl rfl rfl rfl) (T.e_NoGrammar).choose_spec rfl)) pss_nil))))))
  (pss_one (ps_ret (pe_lc (own := [("name", 2), ("parts", 3), ("cost", 4)]) rfl S.nd (pi_listK K rfl (pv 0)) (blkOk_by (N := N_grammar_of) (sc := defScope s_grammar_of) (by decide +kernel)) (fun _ _ _ _ _ => (pg_tupK (n := 3) K rfl rfl (pgs_cons (pg_name (i := 2) S.nd rfl (Or.inl rfl)) (pgs_cons (pg_name (i := 3) S.nd rfl (Or.inl rfl)) (pgs_cons (pg_name (i := 4) S.nd rfl (Or.inl rfl)) pgs_nil))))) (fun _ _ _ _ _ => pts_nil) (fun _ _ _ _ _ => (pe_tup (pa_cons (pv 2) (pa_cons (pe_callTy (r := rTupOf K) call_tuple_of (by rfl) T.b_tuple (by decide +kernel) (pa_cons (pv 3) pa_nil)) (pa_cons (pv 4) pa_nil))))))))))), ?_⟩
  exact (rs_seq (rs_if (rt_test (rp_op (m := .b) (m1 := .b) (m2 := .b) (v_eqD (t := (Ty.list (Ty.tup (Ty.cons Ty.str (Ty.cons (Ty.vtup Ty.str) (Ty.last Ty.int)))))) (by decide)) (rp_le (rp_varw (ms := M_grammar_of) (v_grammar_of_rules))) (rp_le (rp_list (t := (Ty.tup (Ty.cons Ty.str (Ty.cons (Ty.vtup Ty.str) (Ty.last Ty.int))))) rl_nil)))) (rs_raise (T.e_NoGrammar).choose_spec.ns) rs_next)
  (rs_seq (rs_set (ms := M_grammar_of) (m := .l) (v_grammar_of_known) (rp_le (rp_call (mA := .b) (rm := .o) (ρ := (Ty.list Ty.str)) (m := m_names) rfl (ra_one (rp_le (rp_varw (ms := M_grammar_of) (v_grammar_of_rules)))))))
  (rs_seq (rs_hide (rs_for (w := true) (t := (Ty.tup (Ty.cons Ty.str (Ty.cons (Ty.vtup Ty.str) (Ty.last Ty.int))))) [true, true, false, false, false, false] (ri_list (w := true) (t := (Ty.tup (Ty.cons Ty.str (Ty.cons (Ty.vtup Ty.str) (Ty.last Ty.int))))) (rp_varw (ms := M_grammar_of) (v_grammar_of_rules))) (rg_tup (rgs_cons (rg_name (ms := M_grammar_of) (v_grammar_of_name)) (rgs_cons (rg_name (ms := M_grammar_of) (v_grammar_of_parts)) (rgs_one (rg_name (ms := M_grammar_of) (v_grammar_of_cost)))))) (rs_seq (rs_if (rt_test (rp_op (m := .b) (m1 := .b) (m2 := .b) v_lt (rp_frz .b (rp_varw (ms := M_grammar_of) (v_grammar_of_cost))) rp_int)) (rs_raise (T.e_NoGrammar).choose_spec.ns) rs_next)
  (rs_hide (rs_for (w := false) (t := Ty.str) [true, true, false, false, false, false] (ri_vtup (w := false) (t := Ty.str) (rp_frz .l (rp_varw (ms := M_grammar_of) (v_grammar_of_parts)))) (rg_name (ms := M_grammar_of) (v_grammar_of_part)) (rs_if (rt_and (rt_val (m := .b) (rp_frz .b (rp_call (mA := .b) (rm := .o) (ρ := Ty.bool) (m := m_is_name) rfl (ra_one (rp_frz .b (rp_varw (ms := M_grammar_of) (v_grammar_of_part))))))) (rt_test (rp_op (m := .b) (m1 := .b) (m2 := .b) (v_notInD (t := Ty.str) (by decide)) (rp_frz .b (rp_varw (ms := M_grammar_of) (v_grammar_of_part))) (rp_le (rp_varl (ms := M_grammar_of) (v_grammar_of_known)))))) (rs_raise (T.e_NoGrammar).choose_spec.ns) rs_next))))))
  (rs_lift (rs_ret (rm := .o) (ρ := (Ty.list (Ty.tup (Ty.cons Ty.str (Ty.cons (Ty.vtup Ty.str) (Ty.last Ty.int)))))) (rp_hide (rp_lc (w := true) (m := .o) (t := (Ty.tup (Ty.cons Ty.str (Ty.cons (Ty.vtup Ty.str) (Ty.last Ty.int))))) (u := (Ty.tup (Ty.cons Ty.str (Ty.cons (Ty.vtup Ty.str) (Ty.last Ty.int))))) [true, true, false, false, false, true] [2, 3, 4] (ris_of (ri_list (w := true) (t := (Ty.tup (Ty.cons Ty.str (Ty.cons (Ty.vtup Ty.str) (Ty.last Ty.int))))) (rp_varw (ms := M_grammar_of) (v_grammar_of_rules)))) (rg_tup (rgs_cons (rg_name (ms := M_grammar_of) (v_grammar_of_name)) (rgs_cons (rg_name (ms := M_grammar_of) (v_grammar_of_parts)) (rgs_one (rg_name (ms := M_grammar_of) (v_grammar_of_cost)))))) (gw_tup (gws_cons gw_name mg_name (gws_cons gw_name mg_name (gws_cons gw_name mg_name gws_nil)))) rt_yes (rp_tup (m := .o) (ra_cons (rp_frz .o (rp_varw (ms := M_grammar_of) (v_grammar_of_name))) (ra_cons (rp_tupV (m' := .b) (t := Ty.str) (rp_frz .b (rp_varw (ms := M_grammar_of) (v_grammar_of_parts)))) (ra_one (rp_frz .o (rp_varw (ms := M_grammar_of) (v_grammar_of_cost))))))))))))))
abbrev s_cost_of : Stmt := topS 23
abbrev N_cost_of : List Str := ["text", "sign"]
abbrev P_cost_of : List Str := ["text"]
theorem sc_cost_of : FnScope N_cost_of P_cost_of (defScope s_cost_of) := ⟨rfl, rfl, rfl, by decide +kernel, rfl, by decide +kernel, by decide +kernel⟩
abbrev g_cost_of : List Ty := [Ty.str, Ty.str]
abbrev M_cost_of : List Md := [.w, .w]
abbrev v_cost_of_text : Mem g_cost_of Ty.str := .z
abbrev v_cost_of_sign : Mem g_cost_of Ty.str := (.s .z)
noncomputable def lb_cost_of_1 : Gam g_cost_of → Option (Fl (Gam g_cost_of) (Str × Option (den Ty.int))) :=
  (sIf (e2 fNotInS (eV (t := Ty.str) (v_cost_of_sign)) (eC (Str.ofString "0123456789"))) (sRaise (Str.ofString "NoText")) sNext)
noncomputable def lp_cost_of_1 : Gam g_cost_of → Option (Fl (Gam g_cost_of) (Str × Option (den Ty.int))) := hide (sFor (e1 fSigns (eV (t := Ty.str) (v_cost_of_text))) (bName (t := Ty.str) (v_cost_of_sign)) (Gam.mask [true, false]) lb_cost_of_1)
theorem lp_cost_of_1_eq : lp_cost_of_1 = (sFor (e1 fSigns (eV (t := Ty.str) (v_cost_of_text))) (bName (t := Ty.str) (v_cost_of_sign)) (Gam.mask [true, false]) lb_cost_of_1) := hide_eq _
noncomputable def b_cost_of : Gam g_cost_of → Option (Fl (Gam g_cost_of) (Str × Option (den Ty.int))) :=
  (sSeq (sIf (eOr (e2 fEqS (eV (t := Ty.str) (v_cost_of_text)) (eC (Str.ofString ""))) (eOr (e2 fGt (e1 fLenS (eV (t := Ty.str) (v_cost_of_text))) (eC (60 : Int))) (e2 fEqS (e2 fIxS (eV (t := Ty.str) (v_cost_of_text)) (eC (0 : Int))) (eC (Str.ofString "0"))))) (sRaise (Str.ofString "NoText")) sNext)
  (sSeq lp_cost_of_1
  (sLift (sRet (e1 fIntS (eV (t := Ty.str) (v_cost_of_text)))))))
noncomputable def m_cost_of : den (Ty.last Ty.str) → Option (Str × Option (den Ty.int)) := hide (runG (Ty.last Ty.str) [Ty.str] b_cost_of)
theorem m_cost_of_eq (d : den (Ty.last Ty.str)) : m_cost_of d = runG (Ty.last Ty.str) [Ty.str] b_cost_of d := congrFun (hide_eq _) d
theorem m_cost_of_at (p0 : den Ty.str) : m_cost_of (p0) = endOf (b_cost_of ((some p0, none, ()) : Gam g_cost_of)) := by
  rw [m_cost_of_eq]
  rfl
set_option maxHeartbeats 4000000 in
theorem ok_cost_of {f : Addr} {fd : FuncData} (F : Fun K "cost_of" "cost_of" s_cost_of f fd) (T : Txt K mg) :
    FnOk K.P K.w K mg base (L2.CX K.P K.w) 1 f fd P_cost_of (spX K (Ty.last Ty.str) .o Ty.int m_cost_of) := by
  have S := sc_cost_of
  refine fn_okX (F := b_cost_of) [Ty.str] M_cost_of F S rfl rfl rfl m_cost_of_eq (fun cdv A outer s H E hr => ?_)
  refine ⟨_, (pss_cons (ps_if (PW.pt (pw_or (pt_cmpR op_eq (pv 0) pe_str (nomark _)) (pw_or (pt_cmpR op_gt (pe_callB (r := VV.rLen K) call_len (by rfl) T.b_len (by decide +kernel) (pa_cons (pv 0) pa_nil)) (pe_glob (v := V.int 60) rfl (T.c_MOST_FIGURES).choose_spec ⟨_, rfl⟩) (nomark _)) (pw_or1 (pt_cmpR op_eq (pe_ix (r := rIxS) ix_str (pv 0) pe_int (fun _ _ => rfl)) pe_str (nomark _)))))) (pss_one (ps_raiseN rfl (takes_of rfl rfl rfl rfl) (T.e_NoText).choose_spec rfl)) pss_nil)
  (pss_cons (ps_for (passes_of rfl) rfl (pi_str (pv 0)) (pg_name (i := 1) S.nd rfl (Or.inl rfl)) (pss_one (ps_if (pt_cmpR op_notIn_str (pv 1) (pe_glob (v := V.str (Str.ofString "0123456789")) rfl (T.c_FIGURES).choose_spec ⟨_, rfl⟩) (by rfl)) (pss_one (ps_raiseN rfl (takes_of rfl rfl rfl rfl) (T.e_NoText).choose_spec rfl)) pss_nil)))
  (pss_one (ps_ret (pe_callTy call_int_str (by rfl) T.b_int (by decide +kernel) (pa_cons (pv 0) pa_nil)))))), ?_⟩
  exact (rs_seq (rs_if (rt_or (rt_test (rp_op (m := .b) (m1 := .b) (m2 := .b) v_eqS (rp_frz .b (rp_varw (ms := M_cost_of) (v_cost_of_text))) (rp_str))) (rt_or (rt_test (rp_op (m := .b) (m1 := .b) (m2 := .b) v_gt (rp_lenS (m' := .b) (rp_frz .b (rp_varw (ms := M_cost_of) (v_cost_of_text)))) rp_int)) (rt_test (rp_op (m := .b) (m1 := .b) (m2 := .b) v_eqS (rp_op (m1 := .b) (m2 := .b) v_ixS (rp_frz .b (rp_varw (ms := M_cost_of) (v_cost_of_text))) rp_int) (rp_str))))) (rs_raise (T.e_NoText).choose_spec.ns) rs_next)
  (rs_seq (rs_hide (rs_for (w := false) (t := Ty.str) [true, false] (ri_str (w := false) (m := .b) (rp_frz .b (rp_varw (ms := M_cost_of) (v_cost_of_text)))) (rg_name (ms := M_cost_of) (v_cost_of_sign)) (rs_if (rt_test (rp_op (m := .b) (m1 := .b) (m2 := .b) v_notInS (rp_frz .b (rp_varw (ms := M_cost_of) (v_cost_of_sign))) rp_str)) (rs_raise (T.e_NoText).choose_spec.ns) rs_next)))
  (rs_lift (rs_ret (rm := .o) (ρ := Ty.int) (rp_intS (m' := .b) (rp_frz .b (rp_varw (ms := M_cost_of) (v_cost_of_text))))))))
abbrev s_made_of : Stmt := topS 22
abbrev N_made_of : List Str := ["text", "signs", "sign"]
abbrev P_made_of : List Str := ["text", "signs"]
theorem sc_made_of : FnScope N_made_of P_made_of (defScope s_made_of) := ⟨rfl, rfl, rfl, by decide +kernel, rfl, by decide +kernel, by decide +kernel⟩
abbrev g_made_of : List Ty := [Ty.str, Ty.str, Ty.str]
abbrev M_made_of : List Md := [.w, .w, .w]
abbrev v_made_of_text : Mem g_made_of Ty.str := .z
abbrev v_made_of_signs : Mem g_made_of Ty.str := (.s .z)
abbrev v_made_of_sign : Mem g_made_of Ty.str := (.s (.s .z))
noncomputable def lc_made_of_1 : Gam g_made_of → Option (List (den Ty.bool)) := hide (eLc (e1 fSigns (eV (t := Ty.str) (v_made_of_text))) (bName (t := Ty.str) (v_made_of_sign)) (Gam.mask [true, true, false]) eYes (e2 fInS (eV (t := Ty.str) (v_made_of_sign)) (eV (t := Ty.str) (v_made_of_signs))))
theorem lc_made_of_1_eq : lc_made_of_1 = (eLc (e1 fSigns (eV (t := Ty.str) (v_made_of_text))) (bName (t := Ty.str) (v_made_of_sign)) (Gam.mask [true, true, false]) eYes (e2 fInS (eV (t := Ty.str) (v_made_of_sign)) (eV (t := Ty.str) (v_made_of_signs)))) := hide_eq _
noncomputable def b_made_of : Gam g_made_of → Option (Fl (Gam g_made_of) (den Ty.bool)) :=
  (sSeq (sIf (eOr (e2 fEqS (eV (t := Ty.str) (v_made_of_text)) (eC (Str.ofString ""))) (e2 fGt (e1 fLenS (eV (t := Ty.str) (v_made_of_text))) (eC (8 : Int)))) (sRet (eC false)) sNext)
  (sRet (e1 fAll lc_made_of_1)))
noncomputable def m_made_of : den (Ty.cons Ty.str (Ty.last Ty.str)) → Option (den Ty.bool) := hide (runG (Ty.cons Ty.str (Ty.last Ty.str)) [Ty.str] b_made_of)
theorem m_made_of_eq (d : den (Ty.cons Ty.str (Ty.last Ty.str))) : m_made_of d = runG (Ty.cons Ty.str (Ty.last Ty.str)) [Ty.str] b_made_of d := congrFun (hide_eq _) d
theorem m_made_of_at (p0 : den Ty.str) (p1 : den Ty.str) : m_made_of (p0, p1) = endOf (b_made_of ((some p0, some p1, none, ()) : Gam g_made_of)) := by
  rw [m_made_of_eq]
  rfl
set_option maxHeartbeats 4000000 in
theorem ok_made_of {f : Addr} {fd : FuncData} (F : Fun K "made_of" "made_of" s_made_of f fd) (T : Txt K mg) :
    FnOk K.P K.w K mg base CX0 1 f fd P_made_of (spP K (Ty.cons Ty.str (Ty.last Ty.str)) .o Ty.bool m_made_of) := by
  have S := sc_made_of
  refine fn_ok (F := b_made_of) [Ty.str] M_made_of F S rfl rfl rfl m_made_of_eq (fun cdv A outer s H E hr => ?_)
  refine ⟨_, (pss_cons (ps_if (PW.pt (pw_or (pt_cmpR op_eq (pv 0) pe_str (nomark _)) (pw_or1 (pt_cmpR op_gt (pe_callB (r := VV.rLen K) call_len (by rfl) T.b_len (by decide +kernel) (pa_cons (pv 0) pa_nil)) (pe_glob (v := V.int 8) rfl (T.c_LONGEST).choose_spec ⟨_, rfl⟩) (nomark _))))) (pss_one (ps_ret pe_bl)) pss_nil)
  (pss_one (ps_ret (pe_callB (r := rAllD K) (call_allD rfl) (by rfl) T.b_all (by decide +kernel) (pa_cons (pe_lc (own := [("sign", 2)]) rfl S.nd (pi_str (pv 0)) (blkOk_by (N := N_made_of) (sc := defScope s_made_of) (by decide +kernel)) (fun _ _ _ _ _ => (pg_name (i := 2) S.nd rfl (Or.inl rfl))) (fun _ _ _ _ _ => pts_nil) (fun _ _ _ _ _ => (pe_cmpR op_in_str (pv 2) (pv 1) (by rfl)))) pa_nil))))), ?_⟩
  exact (rs_seq (rs_if (rt_or (rt_test (rp_op (m := .b) (m1 := .b) (m2 := .b) v_eqS (rp_frz .b (rp_varw (ms := M_made_of) (v_made_of_text))) (rp_str))) (rt_test (rp_op (m := .b) (m1 := .b) (m2 := .b) v_gt (rp_lenS (m' := .b) (rp_frz .b (rp_varw (ms := M_made_of) (v_made_of_text)))) rp_int))) (rs_ret (rm := .o) (ρ := Ty.bool) rp_bool) rs_next)
  (rs_ret (rm := .o) (ρ := Ty.bool) (rp_all (m' := .b) (rp_le (rp_hide (rp_lc (w := false) (m := .o) (t := Ty.str) (u := Ty.bool) [true, true, false] [2] (ris_of (ri_str (w := false) (m := .b) (rp_frz .b (rp_varw (ms := M_made_of) (v_made_of_text))))) (rg_name (ms := M_made_of) (v_made_of_sign)) gw_name rt_yes (rp_op (m1 := .b) (m2 := .b) v_inS (rp_frz .b (rp_varw (ms := M_made_of) (v_made_of_sign))) (rp_frz .b (rp_varw (ms := M_made_of) (v_made_of_signs))))))))))
abbrev s_is_name_text : Stmt := topS 21
abbrev N_is_name_text : List Str := ["text", "letters", "stroke", "figures"]
abbrev P_is_name_text : List Str := ["text"]
theorem sc_is_name_text : FnScope N_is_name_text P_is_name_text (defScope s_is_name_text) := ⟨rfl, rfl, rfl, by decide +kernel, rfl, by decide +kernel, by decide +kernel⟩
abbrev g_is_name_text : List Ty := [Ty.str, Ty.str, Ty.str, Ty.str]
abbrev M_is_name_text : List Md := [.w, .w, .w, .w]
abbrev v_is_name_text_text : Mem g_is_name_text Ty.str := .z
abbrev v_is_name_text_letters : Mem g_is_name_text Ty.str := (.s .z)
abbrev v_is_name_text_stroke : Mem g_is_name_text Ty.str := (.s (.s .z))
abbrev v_is_name_text_figures : Mem g_is_name_text Ty.str := (.s (.s (.s .z)))
noncomputable def b_is_name_text : Gam g_is_name_text → Option (Fl (Gam g_is_name_text) (den Ty.bool)) :=
  (sSeq (sAsg (e2 fPartition (eV (t := Ty.str) (v_is_name_text_text)) (eC (Str.ofString "_"))) (bCons (bName (t := Ty.str) (v_is_name_text_letters)) (bCons (bName (t := Ty.str) (v_is_name_text_stroke)) (bName (t := Ty.str) (v_is_name_text_figures)))))
  (sSeq (sIf (eNot (e1 m_made_of (eCons (eV (t := Ty.str) (v_is_name_text_letters)) (eC (Str.ofString "ABCDEFGHIJKLMNOPQRSTUVWXYZ"))))) (sRet (eC false)) sNext)
  (sSeq (sIf (e2 fEqS (eV (t := Ty.str) (v_is_name_text_stroke)) (eC (Str.ofString ""))) (sRet (eC true)) sNext)
  (sRet (eAnd (e1 m_made_of (eCons (eV (t := Ty.str) (v_is_name_text_figures)) (eC (Str.ofString "0123456789")))) (e2 fLe (e1 fLenS (eV (t := Ty.str) (v_is_name_text_figures))) (eC (4 : Int))))))))
noncomputable def m_is_name_text : den (Ty.last Ty.str) → Option (den Ty.bool) := hide (runG (Ty.last Ty.str) [Ty.str, Ty.str, Ty.str] b_is_name_text)
theorem m_is_name_text_eq (d : den (Ty.last Ty.str)) : m_is_name_text d = runG (Ty.last Ty.str) [Ty.str, Ty.str, Ty.str] b_is_name_text d := congrFun (hide_eq _) d
theorem m_is_name_text_at (p0 : den Ty.str) : m_is_name_text (p0) = endOf (b_is_name_text ((some p0, none, none, none, ()) : Gam g_is_name_text)) := by
  rw [m_is_name_text_eq]
  rfl
set_option maxHeartbeats 4000000 in
theorem ok_is_name_text {f : Addr} {fd : FuncData} (F : Fun K "is_name_text" "is_name_text" s_is_name_text f fd) (T : Txt K mg) {f_made_of : Addr} {fd_made_of : FuncData} (D_made_of : Df K mg "made_of" "made_of" s_made_of P_made_of f_made_of fd_made_of) (G_made_of : FnOk K.P K.w K mg base CX0 1 f_made_of fd_made_of P_made_of (spP K (Ty.cons Ty.str (Ty.last Ty.str)) .o Ty.bool m_made_of)) :
    FnOk K.P K.w K mg base CX0 2 f fd P_is_name_text (spP K (Ty.last Ty.str) .o Ty.bool m_is_name_text) := by
  have S := sc_is_name_text
  refine fn_ok (F := b_is_name_text) [Ty.str, Ty.str, Ty.str] M_is_name_text F S rfl rfl rfl m_is_name_text_eq (fun cdv A outer s H E hr => ?_)
  refine ⟨_, (pss_cons (ps_asg (pe_partition (pv 0) pe_str) (pg_tupK (n := 3) K rfl rfl (pgs_cons (pg_name (i := 1) S.nd rfl (Or.inl rfl)) (pgs_cons (pg_name (i := 2) S.nd rfl (Or.inl rfl)) (pgs_cons (pg_name (i := 3) S.nd rfl (Or.inl rfl)) pgs_nil)))))
  (pss_cons (ps_if (pt_not (pt_val (pe_call G_made_of (hr.mono (by decide)) rfl D_made_of.gl D_made_of.fn.kp D_made_of.bi .nil pass0 (pa_cons (pv 1) (pa_cons (pe_glob (v := V.str (Str.ofString "ABCDEFGHIJKLMNOPQRSTUVWXYZ")) rfl (T.c_GREAT_texts).choose_spec ⟨_, rfl⟩) pa_nil))))) (pss_one (ps_ret pe_bl)) pss_nil)
  (pss_cons (ps_if (pt_cmpR op_eq (pv 2) pe_str (nomark _)) (pss_one (ps_ret pe_bl)) pss_nil)
  (pss_one (ps_ret (pe_and (pe_call G_made_of (hr.mono (by decide)) rfl D_made_of.gl D_made_of.fn.kp D_made_of.bi .nil pass0 (pa_cons (pv 3) (pa_cons (pe_glob (v := V.str (Str.ofString "0123456789")) rfl (T.c_FIGURES).choose_spec ⟨_, rfl⟩) pa_nil))) (pe_one (pe_cmpR op_le (pe_callB (r := VV.rLen K) call_len (by rfl) T.b_len (by decide +kernel) (pa_cons (pv 3) pa_nil)) pe_int (nomark _))))))))), ?_⟩
  exact (rs_seq (rs_asg (w := false) (t := (Ty.tup (Ty.cons Ty.str (Ty.cons Ty.str (Ty.last Ty.str))))) (rp_partition (m1 := .b) (m2 := .b) (rp_frz .b (rp_varw (ms := M_is_name_text) (v_is_name_text_text))) (rp_str)) (rg_tup (rgs_cons (rg_name (ms := M_is_name_text) (v_is_name_text_letters)) (rgs_cons (rg_name (ms := M_is_name_text) (v_is_name_text_stroke)) (rgs_one (rg_name (ms := M_is_name_text) (v_is_name_text_figures)))))))
  (rs_seq (rs_if (rt_not (rt_val (m := .b) (rp_frz .b (rp_call (mA := .b) (rm := .o) (ρ := Ty.bool) (m := m_made_of) rfl (ra_cons (rp_frz .b (rp_varw (ms := M_is_name_text) (v_is_name_text_letters))) (ra_one rp_str)))))) (rs_ret (rm := .o) (ρ := Ty.bool) rp_bool) rs_next)
  (rs_seq (rs_if (rt_test (rp_op (m := .b) (m1 := .b) (m2 := .b) v_eqS (rp_frz .b (rp_varw (ms := M_is_name_text) (v_is_name_text_stroke))) (rp_str))) (rs_ret (rm := .o) (ρ := Ty.bool) rp_bool) rs_next)
  (rs_ret (rm := .o) (ρ := Ty.bool) (rp_and (m1 := .b) (m2 := .b) (rp_frz .b (rp_call (mA := .b) (rm := .o) (ρ := Ty.bool) (m := m_made_of) rfl (ra_cons (rp_frz .b (rp_varw (ms := M_is_name_text) (v_is_name_text_figures))) (ra_one rp_str)))) (rp_op (m1 := .b) (m2 := .b) v_le (rp_lenS (m' := .b) (rp_frz .b (rp_varw (ms := M_is_name_text) (v_is_name_text_figures)))) rp_int))))))
abbrev s_read_rule : Stmt := topS 24
abbrev N_read_rule : List Str := ["text", "words", "cost", "word"]
abbrev P_read_rule : List Str := ["text"]
theorem sc_read_rule : FnScope N_read_rule P_read_rule (defScope s_read_rule) := ⟨rfl, rfl, rfl, by decide +kernel, rfl, by decide +kernel, by decide +kernel⟩
abbrev g_read_rule : List Ty := [Ty.str, (Ty.list Ty.str), Ty.int, Ty.str]
abbrev M_read_rule : List Md := [.w, .l, .w, .w]
abbrev v_read_rule_text : Mem g_read_rule Ty.str := .z
abbrev v_read_rule_words : Mem g_read_rule (Ty.list Ty.str) := (.s .z)
abbrev v_read_rule_cost : Mem g_read_rule Ty.int := (.s (.s .z))
abbrev v_read_rule_word : Mem g_read_rule Ty.str := (.s (.s (.s .z)))
noncomputable def lb_read_rule_1 : Gam g_read_rule → Option (Fl (Gam g_read_rule) (Str × Option (den (Ty.tup (Ty.cons Ty.str (Ty.cons (Ty.vtup Ty.str) (Ty.last Ty.int))))))) :=
  (sIf (eAnd (eNot (e1 m_made_of (eCons (eV (t := Ty.str) (v_read_rule_word)) (eC (Str.ofString "abcdefghijklmnopqrstuvwxyz"))))) (eNot (e1 m_is_name_text (eV (t := Ty.str) (v_read_rule_word))))) (sRaise (Str.ofString "NoText")) sNext)
noncomputable def lp_read_rule_1 : Gam g_read_rule → Option (Fl (Gam g_read_rule) (Str × Option (den (Ty.tup (Ty.cons Ty.str (Ty.cons (Ty.vtup Ty.str) (Ty.last Ty.int))))))) := hide (sFor (e3 fCutL (eV (t := (Ty.list Ty.str)) (v_read_rule_words)) (e1 (fun i => some (some i)) (eC (2 : Int))) (eC none)) (bName (t := Ty.str) (v_read_rule_word)) (Gam.mask [false, true, true, false]) lb_read_rule_1)
theorem lp_read_rule_1_eq : lp_read_rule_1 = (sFor (e3 fCutL (eV (t := (Ty.list Ty.str)) (v_read_rule_words)) (e1 (fun i => some (some i)) (eC (2 : Int))) (eC none)) (bName (t := Ty.str) (v_read_rule_word)) (Gam.mask [false, true, true, false]) lb_read_rule_1) := hide_eq _
noncomputable def b_read_rule : Gam g_read_rule → Option (Fl (Gam g_read_rule) (Str × Option (den (Ty.tup (Ty.cons Ty.str (Ty.cons (Ty.vtup Ty.str) (Ty.last Ty.int))))))) :=
  (sSeq (sSet (v_read_rule_words) (e2 fSplit (eV (t := Ty.str) (v_read_rule_text)) (eC (Str.ofString " "))))
  (sSeq (sSet (v_read_rule_cost) (eC (0 : Int)))
  (sSeq (sIf (eAnd (e2 fGt (e1 fLen (eV (t := (Ty.list Ty.str)) (v_read_rule_words))) (eC (3 : Int))) (e2 fEqS (e2 atI (eV (t := (Ty.list Ty.str)) (v_read_rule_words)) (e1 (fun a => some (-a)) (eC (2 : Int)))) (eC (Str.ofString ":")))) (sSeq (sSetR (v_read_rule_cost) (e1 m_cost_of (e2 atI (eV (t := (Ty.list Ty.str)) (v_read_rule_words)) (e1 (fun a => some (-a)) (eC (1 : Int))))))
  (sSet (v_read_rule_words) (e3 fCutL (eV (t := (Ty.list Ty.str)) (v_read_rule_words)) (eC none) (e1 (fun i => some (some i)) (e1 (fun a => some (-a)) (eC (2 : Int))))))) sNext)
  (sSeq (sIf (eOr (e2 fLt (e1 fLen (eV (t := (Ty.list Ty.str)) (v_read_rule_words))) (eC (2 : Int))) (eOr (e2 fNeS (e2 atI (eV (t := (Ty.list Ty.str)) (v_read_rule_words)) (eC (1 : Int))) (eC (Str.ofString "="))) (eNot (e1 m_is_name_text (e2 atI (eV (t := (Ty.list Ty.str)) (v_read_rule_words)) (eC (0 : Int))))))) (sRaise (Str.ofString "NoText")) sNext)
  (sSeq lp_read_rule_1
  (sLift (sRet (eCons (e2 atI (eV (t := (Ty.list Ty.str)) (v_read_rule_words)) (eC (0 : Int))) (eCons (e3 fCutL (eV (t := (Ty.list Ty.str)) (v_read_rule_words)) (e1 (fun i => some (some i)) (eC (2 : Int))) (eC none)) (eV (t := Ty.int) (v_read_rule_cost)))))))))))
noncomputable def m_read_rule : den (Ty.last Ty.str) → Option (Str × Option (den (Ty.tup (Ty.cons Ty.str (Ty.cons (Ty.vtup Ty.str) (Ty.last Ty.int)))))) := hide (runG (Ty.last Ty.str) [(Ty.list Ty.str), Ty.int, Ty.str] b_read_rule)
theorem m_read_rule_eq (d : den (Ty.last Ty.str)) : m_read_rule d = runG (Ty.last Ty.str) [(Ty.list Ty.str), Ty.int, Ty.str] b_read_rule d := congrFun (hide_eq _) d
theorem m_read_rule_at (p0 : den Ty.str) : m_read_rule (p0) = endOf (b_read_rule ((some p0, none, none, none, ()) : Gam g_read_rule)) := by
  rw [m_read_rule_eq]
  rfl
set_option maxHeartbeats 4000000 in
theorem ok_read_rule {f : Addr} {fd : FuncData} (F : Fun K "read_rule" "read_rule" s_read_rule f fd) (T : Txt K mg) {f_cost_of : Addr} {fd_cost_of : FuncData} (D_cost_of : Df K mg "cost_of" "cost_of" s_cost_of P_cost_of f_cost_of fd_cost_of) (G_cost_of : FnOk K.P K.w K mg base (L2.CX K.P K.w) 1 f_cost_of fd_cost_of P_cost_of (spX K (Ty.last Ty.str) .o Ty.int m_cost_of)) {f_is_name_text : Addr} {fd_is_name_text : FuncData} (D_is_name_text : Df K mg "is_name_text" "is_name_text" s_is_name_text P_is_name_text f_is_name_text fd_is_name_text) (G_is_name_text : FnOk K.P K.w K mg base CX0 2 f_is_name_text fd_is_name_text P_is_name_text (spP K (Ty.last Ty.str) .o Ty.bool m_is_name_text)) {f_made_of : Addr} {fd_made_of : FuncData} (D_made_of : Df K mg "made_of" "made_of" s_made_of P_made_of f_made_of fd_made_of) (G_made_of : FnOk K.P K.w K mg base CX0 1 f_made_of fd_made_of P_made_of (spP K (Ty.cons Ty.str (Ty.last Ty.str)) .o Ty.bool m_made_of)) :
    FnOk K.P K.w K mg base (L2.CX K.P K.w) 3 f fd P_read_rule (spX K (Ty.last Ty.str) .o (Ty.tup (Ty.cons Ty.str (Ty.cons (Ty.vtup Ty.str) (Ty.last Ty.int)))) m_read_rule) := by
  have S := sc_read_rule
  refine fn_okX (F := b_read_rule) [(Ty.list Ty.str), Ty.int, Ty.str] M_read_rule F S rfl rfl rfl m_read_rule_eq (fun cdv A outer s H E hr => ?_)
  refine ⟨_, (pss_cons (ps_set (i := 1) S.nd rfl (Or.inl rfl) (pe_split (pv 0) pe_str))
  (pss_cons (ps_set (i := 2) S.nd rfl (Or.inl rfl) pe_int)
  (pss_cons (ps_if (PW.pt (pw_and (pt_cmpR op_gt (pe_callB (r := VV.rLen K) call_len (by rfl) T.b_len (by decide +kernel) (pa_cons (pv 1) pa_nil)) pe_int (nomark _)) (pw_and1 (pt_cmpR op_eq (pe_ix (r := rIxL K) ix_list (pv 1) (pe_un un_neg pe_int) (fun _ _ => rfl)) pe_str (nomark _))))) (pss_cons (ps_set (i := 2) S.nd rfl (Or.inl rfl) (pe_callS G_cost_of (hr.mono (by decide)) rfl D_cost_of.gl D_cost_of.fn.kp D_cost_of.bi (fun σ => passAt (takes_of rfl rfl rfl rfl) σ) (pa_cons (pe_ix (r := rIxL K) ix_list (pv 1) (pe_un un_neg pe_int) (fun _ _ => rfl)) pa_nil)))
  (pss_one (ps_set (i := 1) S.nd rfl (Or.inl rfl) (pe_slice (r := rSlL K) sl_list (pv 1) po_none (po_some (pe_un un_neg pe_int)))))) pss_nil)
  (pss_cons (ps_if (PW.pt (pw_or (pt_cmpR op_lt (pe_callB (r := VV.rLen K) call_len (by rfl) T.b_len (by decide +kernel) (pa_cons (pv 1) pa_nil)) pe_int (nomark _)) (pw_or (pt_cmpR op_ne (pe_ix (r := rIxL K) ix_list (pv 1) pe_int (fun _ _ => rfl)) pe_str (nomark _)) (pw_or1 (pt_not (pt_val (pe_call G_is_name_text (hr.mono (by decide)) rfl D_is_name_text.gl D_is_name_text.fn.kp D_is_name_text.bi .nil pass0 (pa_cons (pe_ix (r := rIxL K) ix_list (pv 1) pe_int (fun _ _ => rfl)) pa_nil)))))))) (pss_one (ps_raiseN rfl (takes_of rfl rfl rfl rfl) (T.e_NoText).choose_spec rfl)) pss_nil)
  (pss_cons (ps_for (passes_of rfl) rfl (pi_listK K rfl (pe_slice (r := rSlL K) sl_list (pv 1) (po_some pe_int) po_none)) (pg_name (i := 3) S.nd rfl (Or.inl rfl)) (pss_one (ps_if (PW.pt (pw_and (pt_not (pt_val (pe_call G_made_of (hr.mono (by decide)) rfl D_made_of.gl D_made_of.fn.kp D_made_of.bi .nil pass0 (pa_cons (pv 3) (pa_cons (pe_glob (v := V.str (Str.ofString "abcdefghijklmnopqrstuvwxyz")) rfl (T.c_SMALL).choose_spec ⟨_, rfl⟩) pa_nil))))) (pw_and1 (pt_not (pt_val (pe_call G_is_name_text (hr.mono (by decide)) rfl D_is_name_text.gl D_is_name_text.fn.kp D_is_name_text.bi .nil pass0 (pa_cons (pv 3) pa_nil))))))) (pss_one (ps_raiseN rfl (takes_of rfl rfl rfl rfl) (T.e_NoText).choose_spec rfl)) pss_nil)))
  (pss_one (ps_ret (pe_tup (pa_cons (pe_ix (r := rIxL K) ix_list (pv 1) pe_int (fun _ _ => rfl)) (pa_cons (pe_callTy (r := rTupOf K) call_tuple_of (by rfl) T.b_tuple (by decide +kernel) (pa_cons (pe_slice (r := rSlL K) sl_list (pv 1) (po_some pe_int) po_none) pa_nil)) (pa_cons (pv 2) pa_nil))))))))))), ?_⟩
  exact (rs_seq (rs_set (ms := M_read_rule) (m := .l) (v_read_rule_words) (rp_le (rp_split (m1 := .b) (m2 := .b) (rp_frz .b (rp_varw (ms := M_read_rule) (v_read_rule_text))) (rp_str))))
  (rs_seq (rs_set (ms := M_read_rule) (m := .w) (v_read_rule_cost) rp_int)
  (rs_seq (rs_if (rt_and (rt_test (rp_op (m := .b) (m1 := .b) (m2 := .b) v_gt (rp_lenL (m' := .b) (rp_le (rp_varl (ms := M_read_rule) (v_read_rule_words)))) rp_int)) (rt_test (rp_op (m := .b) (m1 := .b) (m2 := .b) v_eqS (rp_op (m1 := .b) (m2 := .b) (v_ixL (t := Ty.str)) (rp_le (rp_varl (ms := M_read_rule) (v_read_rule_words))) (rp_neg (m1 := .b) rp_int)) (rp_str)))) (rs_seq (rs_setR (ms := M_read_rule) (m := .w) (v_read_rule_cost) (rpx_frz .w (rpx_call (mA := .b) (rm := .o) (ρ := Ty.int) (m := m_cost_of) rfl (ra_one (rp_op (m1 := .b) (m2 := .b) (v_ixL (t := Ty.str)) (rp_le (rp_varl (ms := M_read_rule) (v_read_rule_words))) (rp_neg (m1 := .b) rp_int))))))
  (rs_set (ms := M_read_rule) (m := .l) (v_read_rule_words) (rp_le (rp_sliceL (m := .b) (rp_le (rp_varl (ms := M_read_rule) (v_read_rule_words))) ro_none (ro_some (m := .b) (rp_neg (m1 := .b) rp_int)))))) rs_next)
  (rs_seq (rs_if (rt_or (rt_test (rp_op (m := .b) (m1 := .b) (m2 := .b) v_lt (rp_lenL (m' := .b) (rp_le (rp_varl (ms := M_read_rule) (v_read_rule_words)))) rp_int)) (rt_or (rt_test (rp_op (m := .b) (m1 := .b) (m2 := .b) v_neS (rp_op (m1 := .b) (m2 := .b) (v_ixL (t := Ty.str)) (rp_le (rp_varl (ms := M_read_rule) (v_read_rule_words))) rp_int) (rp_str))) (rt_not (rt_val (m := .b) (rp_frz .b (rp_call (mA := .b) (rm := .o) (ρ := Ty.bool) (m := m_is_name_text) rfl (ra_one (rp_op (m1 := .b) (m2 := .b) (v_ixL (t := Ty.str)) (rp_le (rp_varl (ms := M_read_rule) (v_read_rule_words))) rp_int)))))))) (rs_raise (T.e_NoText).choose_spec.ns) rs_next)
  (rs_seq (rs_hide (rs_for (w := false) (t := Ty.str) [false, true, true, false] (ri_list (w := false) (t := Ty.str) (rp_le (rp_sliceL (m := .b) (rp_le (rp_varl (ms := M_read_rule) (v_read_rule_words))) (ro_some (m := .b) rp_int) ro_none))) (rg_name (ms := M_read_rule) (v_read_rule_word)) (rs_if (rt_and (rt_not (rt_val (m := .b) (rp_frz .b (rp_call (mA := .b) (rm := .o) (ρ := Ty.bool) (m := m_made_of) rfl (ra_cons (rp_frz .b (rp_varw (ms := M_read_rule) (v_read_rule_word))) (ra_one rp_str)))))) (rt_not (rt_val (m := .b) (rp_frz .b (rp_call (mA := .b) (rm := .o) (ρ := Ty.bool) (m := m_is_name_text) rfl (ra_one (rp_frz .b (rp_varw (ms := M_read_rule) (v_read_rule_word))))))))) (rs_raise (T.e_NoText).choose_spec.ns) rs_next)))
  (rs_lift (rs_ret (rm := .o) (ρ := (Ty.tup (Ty.cons Ty.str (Ty.cons (Ty.vtup Ty.str) (Ty.last Ty.int))))) (rp_tup (m := .o) (ra_cons (rp_frz .o (rp_op (m1 := .b) (m2 := .b) (v_ixL (t := Ty.str)) (rp_le (rp_varl (ms := M_read_rule) (v_read_rule_words))) rp_int)) (ra_cons (rp_tupL (m' := .b) (t := Ty.str) (rp_le (rp_sliceL (m := .b) (rp_le (rp_varl (ms := M_read_rule) (v_read_rule_words))) (ro_some (m := .b) rp_int) ro_none))) (ra_one (rp_frz .o (rp_varw (ms := M_read_rule) (v_read_rule_cost))))))))))))))
abbrev s_read_grammar : Stmt := topS 25
abbrev N_read_grammar : List Str := ["text", "row"]
abbrev P_read_grammar : List Str := ["text"]
theorem sc_read_grammar : FnScope N_read_grammar P_read_grammar (defScope s_read_grammar) := ⟨rfl, rfl, rfl, by decide +kernel, rfl, by decide +kernel, by decide +kernel⟩
abbrev g_read_grammar : List Ty := [Ty.str, Ty.str]
abbrev M_read_grammar : List Md := [.w, .w]
abbrev v_read_grammar_text : Mem g_read_grammar Ty.str := .z
abbrev v_read_grammar_row : Mem g_read_grammar Ty.str := (.s .z)
noncomputable def b_read_grammar : Gam g_read_grammar → Option (Fl (Gam g_read_grammar) (Str × Option (den (Ty.list (Ty.tup (Ty.cons Ty.str (Ty.cons (Ty.vtup Ty.str) (Ty.last Ty.int)))))))) :=
  (sRet (eBindR m_grammar_of (eLcR (e2 fSplit (eV (t := Ty.str) (v_read_grammar_text)) (eC (Str.ofString "\n"))) (bName (t := Ty.str) (v_read_grammar_row)) (Gam.mask [true, false]) eYes (e1 m_read_rule (eV (t := Ty.str) (v_read_grammar_row))))))
noncomputable def m_read_grammar : den (Ty.last Ty.str) → Option (Str × Option (den (Ty.list (Ty.tup (Ty.cons Ty.str (Ty.cons (Ty.vtup Ty.str) (Ty.last Ty.int))))))) := hide (runG (Ty.last Ty.str) [Ty.str] b_read_grammar)
theorem m_read_grammar_eq (d : den (Ty.last Ty.str)) : m_read_grammar d = runG (Ty.last Ty.str) [Ty.str] b_read_grammar d := congrFun (hide_eq _) d
theorem m_read_grammar_at (p0 : den Ty.str) : m_read_grammar (p0) = endOf (b_read_grammar ((some p0, none, ()) : Gam g_read_grammar)) := by
  rw [m_read_grammar_eq]
  rfl
set_option maxHeartbeats 4000000 in
theorem ok_read_grammar {f : Addr} {fd : FuncData} (F : Fun K "read_grammar" "read_grammar" s_read_grammar f fd) (T : Txt K mg) {f_grammar_of : Addr} {fd_grammar_of : FuncData} (D_grammar_of : Df K mg "grammar_of" "grammar_of" s_grammar_of P_grammar_of f_grammar_of fd_grammar_of) (G_grammar_of : FnOk K.P K.w K mg base (L2.CX K.P K.w) 2 f_grammar_of fd_grammar_of P_grammar_of (spX K (Ty.last (Ty.list (Ty.tup (Ty.cons Ty.str (Ty.cons (Ty.vtup Ty.str) (Ty.last Ty.int)))))) .o (Ty.list (Ty.tup (Ty.cons Ty.str (Ty.cons (Ty.vtup Ty.str) (Ty.last Ty.int))))) m_grammar_of)) {f_read_rule : Addr} {fd_read_rule : FuncData} (D_read_rule : Df K mg "read_rule" "read_rule" s_read_rule P_read_rule f_read_rule fd_read_rule) (G_read_rule : FnOk K.P K.w K mg base (L2.CX K.P K.w) 3 f_read_rule fd_read_rule P_read_rule (spX K (Ty.last Ty.str) .o (Ty.tup (Ty.cons Ty.str (Ty.cons (Ty.vtup Ty.str) (Ty.last Ty.int)))) m_read_rule)) :
    FnOk K.P K.w K mg base (L2.CX K.P K.w) 4 f fd P_read_grammar (spX K (Ty.last Ty.str) .o (Ty.list (Ty.tup (Ty.cons Ty.str (Ty.cons (Ty.vtup Ty.str) (Ty.last Ty.int))))) m_read_grammar) := by
  have S := sc_read_grammar
  refine fn_okX (F := b_read_grammar) [Ty.str] M_read_grammar F S rfl rfl rfl m_read_grammar_eq (fun cdv A outer s H E hr => ?_)
  refine ⟨_, (pss_one (ps_ret (pe_callS G_grammar_of (hr.mono (by decide)) rfl D_grammar_of.gl D_grammar_of.fn.kp D_grammar_of.bi (fun σ => passAt (takes_of rfl rfl rfl rfl) σ) (pa_cons (pe_lcX (own := [("row", 1)]) rfl S.nd rfl rfl (takes_of rfl rfl rfl rfl) (by intro _ _ _ _ _ h; exact h) (pi_listK K rfl (pe_split (pv 0) pe_str)) (blkOk_by (N := N_read_grammar) (sc := defScope s_read_grammar) (by decide +kernel)) (fun _ _ _ _ _ => (pg_name (i := 1) S.nd rfl (Or.inl rfl))) (fun _ _ _ _ _ => pts_nil) (fun _ _ _ _ _ PA => (pe_callS G_read_rule (hr.mono (by decide)) rfl D_read_rule.gl D_read_rule.fn.kp D_read_rule.bi PA (pa_cons (pv 1) pa_nil)))) pa_nil)))), ?_⟩
  exact (rs_retR (rm := .o) (ρ := (Ty.list (Ty.tup (Ty.cons Ty.str (Ty.cons (Ty.vtup Ty.str) (Ty.last Ty.int)))))) (rpx_callA (mA := .b) (rm := .o) (ρ := (Ty.list (Ty.tup (Ty.cons Ty.str (Ty.cons (Ty.vtup Ty.str) (Ty.last Ty.int)))))) (m := m_grammar_of) rfl (rax_one (rpx_le (m' := .b) (rpx_lc (w := false) (m := .o) (t := Ty.str) (u := (Ty.tup (Ty.cons Ty.str (Ty.cons (Ty.vtup Ty.str) (Ty.last Ty.int))))) [true, false] [1] (by intro _ _ _ _ _ h; exact h) (ris_of (ri_list (w := false) (t := Ty.str) (rp_le (rp_split (m1 := .b) (m2 := .b) (rp_frz .b (rp_varw (ms := M_read_grammar) (v_read_grammar_text))) (rp_str))))) (rg_name (ms := M_read_grammar) (v_read_grammar_row)) gw_name rt_yes (rpx_frz .o (rpx_call (mA := .b) (rm := .o) (ρ := (Ty.tup (Ty.cons Ty.str (Ty.cons (Ty.vtup Ty.str) (Ty.last Ty.int))))) (m := m_read_rule) rfl (ra_one (rp_frz .b (rp_varw (ms := M_read_grammar) (v_read_grammar_row)))))))))))
abbrev s__law_kinds : Stmt := topS 40
abbrev N__law_kinds : List Str := ["e", "kinds"]
abbrev P__law_kinds : List Str := ["e"]
theorem sc__law_kinds : FnScope N__law_kinds P__law_kinds (defScope s__law_kinds) := ⟨rfl, rfl, rfl, by decide +kernel, rfl, by decide +kernel, by decide +kernel⟩
abbrev g__law_kinds : List Ty := [Ty.exn, (Ty.list Ty.bool)]
abbrev M__law_kinds : List Md := [.w, .l]
abbrev v__law_kinds_e : Mem g__law_kinds Ty.exn := .z
abbrev v__law_kinds_kinds : Mem g__law_kinds (Ty.list Ty.bool) := (.s .z)
noncomputable def b__law_kinds : Gam g__law_kinds → Option (Fl (Gam g__law_kinds) (den (Ty.list Ty.bool))) :=
  (sSeq (sSet (v__law_kinds_kinds) (e1 fSmall (eSnoc (e1 (fIsE [(Str.ofString "NoGrammar", false), (Str.ofString "NoText", true)]) (e1 (fun d => some (some d)) (eV (t := Ty.exn) (v__law_kinds_e)))) (eSnoc (e1 (fIsE [(Str.ofString "NoGrammar", true), (Str.ofString "NoText", false)]) (e1 (fun d => some (some d)) (eV (t := Ty.exn) (v__law_kinds_e)))) (eSnoc (e1 (fIsE [(Str.ofString "NoGrammar", false), (Str.ofString "NoText", false)]) (e1 (fun d => some (some d)) (eV (t := Ty.exn) (v__law_kinds_e)))) (eSnoc (e1 (fIsE [(Str.ofString "NoGrammar", false), (Str.ofString "NoText", false)]) (e1 (fun d => some (some d)) (eV (t := Ty.exn) (v__law_kinds_e)))) eNil))))))
  (sRet (e2 fCatL (eV (t := (Ty.list Ty.bool)) (v__law_kinds_kinds)) (e1 fSmall (eSnoc (e1 (fIsE [(Str.ofString "NoGrammar", false), (Str.ofString "NoText", false)]) (e1 (fun d => some (some d)) (eV (t := Ty.exn) (v__law_kinds_e)))) (eSnoc (e1 (fIsE [(Str.ofString "NoGrammar", false), (Str.ofString "NoText", false)]) (e1 (fun d => some (some d)) (eV (t := Ty.exn) (v__law_kinds_e)))) eNil))))))
noncomputable def m__law_kinds : den (Ty.last Ty.exn) → Option (den (Ty.list Ty.bool)) := hide (runG (Ty.last Ty.exn) [(Ty.list Ty.bool)] b__law_kinds)
theorem m__law_kinds_eq (d : den (Ty.last Ty.exn)) : m__law_kinds d = runG (Ty.last Ty.exn) [(Ty.list Ty.bool)] b__law_kinds d := congrFun (hide_eq _) d
theorem m__law_kinds_at (p0 : den Ty.exn) : m__law_kinds (p0) = endOf (b__law_kinds ((some p0, none, ()) : Gam g__law_kinds)) := by
  rw [m__law_kinds_eq]
  rfl
set_option maxHeartbeats 4000000 in
theorem ok__law_kinds {f : Addr} {fd : FuncData} (F : Fun K "_law_kinds" "_law_kinds" s__law_kinds f fd) (T : Txt K mg) :
    FnOk K.P K.w K mg base CX0 1 f fd P__law_kinds (spP K (Ty.last Ty.exn) .o (Ty.list Ty.bool) m__law_kinds) := by
  have S := sc__law_kinds
  refine fn_ok (F := b__law_kinds) [(Ty.list Ty.bool)] M__law_kinds F S rfl rfl rfl m__law_kinds_eq (fun cdv A outer s H E hr => ?_)
  refine ⟨_, (pss_cons (ps_set (i := 1) S.nd rfl (Or.inl rfl) (pe_lst (pa_cons (pe_callB (r := rIsE K) call_isEx (by rfl) T.b_isinstance (by decide +kernel) (pa_cons (pv 0) (pa_cons (pe_glob (v := V.ref (T.e_NoText).choose) (by rfl) (T.e_NoText).choose_spec.mg rfl) pa_nil))) (pa_cons (pe_callB (r := rIsE K) call_isEx (by rfl) T.b_isinstance (by decide +kernel) (pa_cons (pv 0) (pa_cons (pe_glob (v := V.ref (T.e_NoGrammar).choose) (by rfl) (T.e_NoGrammar).choose_spec.mg rfl) pa_nil))) (pa_cons (pe_callB (r := rIsE K) call_isEx (by rfl) T.b_isinstance (by decide +kernel) (pa_cons (pv 0) (pa_cons (pe_glob (v := V.ref (T.e_Endless).choose) (by rfl) (T.e_Endless).choose_spec.mg rfl) pa_nil))) (pa_cons (pe_callB (r := rIsE K) call_isEx (by rfl) T.b_isinstance (by decide +kernel) (pa_cons (pv 0) (pa_cons (pe_glob (v := V.ref (T.e_NoOrder).choose) (by rfl) (T.e_NoOrder).choose_spec.mg rfl) pa_nil))) pa_nil))))))
  (pss_one (ps_ret (pe_op (r := rCatR K) op_catR (pv 1) (pe_lst (pa_cons (pe_callB (r := rIsE K) call_isEx (by rfl) T.b_isinstance (by decide +kernel) (pa_cons (pv 0) (pa_cons (pe_glob (v := V.ref (T.e_NoReading).choose) (by rfl) (T.e_NoReading).choose_spec.mg rfl) pa_nil))) (pa_cons (pe_callB (r := rIsE K) call_isEx (by rfl) T.b_isinstance (by decide +kernel) (pa_cons (pv 0) (pa_cons (pe_glob (v := V.ref (T.e_TooMany).choose) (by rfl) (T.e_TooMany).choose_spec.mg rfl) pa_nil))) pa_nil))))))), ?_⟩
  exact (rs_seq (rs_set (ms := M__law_kinds) (m := .l) (v__law_kinds_kinds) (rp_le (rp_list (t := Ty.bool) (rl_cons (rp_isE (m1 := .b) (t := [(Str.ofString "NoGrammar", false), (Str.ofString "NoText", true)]) (rp_some (rp_frz .b (rp_varw (ms := M__law_kinds) (v__law_kinds_e)))) (istab_cons (nm := "NoGrammar") (b := false) (T.e_NoText).choose_spec (istab_cons (nm := "NoText") (b := true) (T.e_NoText).choose_spec (istab_nil (T.e_NoText).choose_spec T.n_NoText) (T.e_NoText) T.i_NoText_NoText) (T.e_NoGrammar) T.i_NoGrammar_NoText)) (rl_cons (rp_isE (m1 := .b) (t := [(Str.ofString "NoGrammar", true), (Str.ofString "NoText", false)]) (rp_some (rp_frz .b (rp_varw (ms := M__law_kinds) (v__law_kinds_e)))) (istab_cons (nm := "NoGrammar") (b := true) (T.e_NoGrammar).choose_spec (istab_cons (nm := "NoText") (b := false) (T.e_NoGrammar).choose_spec (istab_nil (T.e_NoGrammar).choose_spec T.n_NoGrammar) (T.e_NoText) T.i_NoText_NoGrammar) (T.e_NoGrammar) T.i_NoGrammar_NoGrammar)) (rl_cons (rp_isE (m1 := .b) (t := [(Str.ofString "NoGrammar", false), (Str.ofString "NoText", false)]) (rp_some (rp_frz .b (rp_varw (ms := M__law_kinds) (v__law_kinds_e)))) (istab_cons (nm := "NoGrammar") (b := false) (T.e_Endless).choose_spec (istab_cons (nm := "NoText") (b := false) (T.e_Endless).choose_spec (istab_nil (T.e_Endless).choose_spec T.n_Endless) (T.e_NoText) T.i_NoText_Endless) (T.e_NoGrammar) T.i_NoGrammar_Endless)) (rl_cons (rp_isE (m1 := .b) (t := [(Str.ofString "NoGrammar", false), (Str.ofString "NoText", false)]) (rp_some (rp_frz .b (rp_varw (ms := M__law_kinds) (v__law_kinds_e)))) (istab_cons (nm := "NoGrammar") (b := false) (T.e_NoOrder).choose_spec (istab_cons (nm := "NoText") (b := false) (T.e_NoOrder).choose_spec (istab_nil (T.e_NoOrder).choose_spec T.n_NoOrder) (T.e_NoText) T.i_NoText_NoOrder) (T.e_NoGrammar) T.i_NoGrammar_NoOrder)) rl_nil)))))))
  (rs_ret (rm := .o) (ρ := (Ty.list Ty.bool)) (rp_cat (m1 := .b) (m2 := .b) (rp_le (rp_varl (ms := M__law_kinds) (v__law_kinds_kinds))) (rp_le (rp_list (t := Ty.bool) (rl_cons (rp_isE (m1 := .b) (t := [(Str.ofString "NoGrammar", false), (Str.ofString "NoText", false)]) (rp_some (rp_frz .b (rp_varw (ms := M__law_kinds) (v__law_kinds_e)))) (istab_cons (nm := "NoGrammar") (b := false) (T.e_NoReading).choose_spec (istab_cons (nm := "NoText") (b := false) (T.e_NoReading).choose_spec (istab_nil (T.e_NoReading).choose_spec T.n_NoReading) (T.e_NoText) T.i_NoText_NoReading) (T.e_NoGrammar) T.i_NoGrammar_NoReading)) (rl_cons (rp_isE (m1 := .b) (t := [(Str.ofString "NoGrammar", false), (Str.ofString "NoText", false)]) (rp_some (rp_frz .b (rp_varw (ms := M__law_kinds) (v__law_kinds_e)))) (istab_cons (nm := "NoGrammar") (b := false) (T.e_TooMany).choose_spec (istab_cons (nm := "NoText") (b := false) (T.e_TooMany).choose_spec (istab_nil (T.e_TooMany).choose_spec T.n_TooMany) (T.e_NoText) T.i_NoText_TooMany) (T.e_NoGrammar) T.i_NoGrammar_TooMany)) rl_nil)))))))
abbrev s_shown_rule : Stmt := topS 19
abbrev N_shown_rule : List Str := ["rule", "name", "parts", "cost", "words"]
abbrev P_shown_rule : List Str := ["rule"]
theorem sc_shown_rule : FnScope N_shown_rule P_shown_rule (defScope s_shown_rule) := ⟨rfl, rfl, rfl, by decide +kernel, rfl, by decide +kernel, by decide +kernel⟩
abbrev g_shown_rule : List Ty := [(Ty.tup (Ty.cons Ty.str (Ty.cons (Ty.vtup Ty.str) (Ty.last Ty.int)))), Ty.str, (Ty.vtup Ty.str), Ty.int, (Ty.list Ty.str)]
abbrev M_shown_rule : List Md := [.w, .w, .w, .w, .l]
abbrev v_shown_rule_rule : Mem g_shown_rule (Ty.tup (Ty.cons Ty.str (Ty.cons (Ty.vtup Ty.str) (Ty.last Ty.int)))) := .z
abbrev v_shown_rule_name : Mem g_shown_rule Ty.str := (.s .z)
abbrev v_shown_rule_parts : Mem g_shown_rule (Ty.vtup Ty.str) := (.s (.s .z))
abbrev v_shown_rule_cost : Mem g_shown_rule Ty.int := (.s (.s (.s .z)))
abbrev v_shown_rule_words : Mem g_shown_rule (Ty.list Ty.str) := (.s (.s (.s (.s .z))))
noncomputable def b_shown_rule : Gam g_shown_rule → Option (Fl (Gam g_shown_rule) (den Ty.str)) :=
  (sSeq (sAsg (eV (t := (Ty.tup (Ty.cons Ty.str (Ty.cons (Ty.vtup Ty.str) (Ty.last Ty.int))))) (v_shown_rule_rule)) (bCons (bName (t := Ty.str) (v_shown_rule_name)) (bCons (bName (t := (Ty.vtup Ty.str)) (v_shown_rule_parts)) (bName (t := Ty.int) (v_shown_rule_cost)))))
  (sSeq (sSet (v_shown_rule_words) (e2 fCatL (e1 fSmall (eSnoc (eV (t := Ty.str) (v_shown_rule_name)) (eSnoc (eC (Str.ofString "=")) eNil))) (eV (t := (Ty.vtup Ty.str)) (v_shown_rule_parts))))
  (sSeq (sIf (e2 fGt (eV (t := Ty.int) (v_shown_rule_cost)) (eC (0 : Int))) (sSet (v_shown_rule_words) (e2 fCatL (eV (t := (Ty.list Ty.str)) (v_shown_rule_words)) (e1 fSmall (eSnoc (eC (Str.ofString ":")) (eSnoc (e1 fStrI (eV (t := Ty.int) (v_shown_rule_cost))) eNil))))) sNext)
  (sRet (e2 fJoin (eC (Str.ofString " ")) (eV (t := (Ty.list Ty.str)) (v_shown_rule_words)))))))
noncomputable def m_shown_rule : den (Ty.last (Ty.tup (Ty.cons Ty.str (Ty.cons (Ty.vtup Ty.str) (Ty.last Ty.int))))) → Option (den Ty.str) := hide (runG (Ty.last (Ty.tup (Ty.cons Ty.str (Ty.cons (Ty.vtup Ty.str) (Ty.last Ty.int))))) [Ty.str, (Ty.vtup Ty.str), Ty.int, (Ty.list Ty.str)] b_shown_rule)
theorem m_shown_rule_eq (d : den (Ty.last (Ty.tup (Ty.cons Ty.str (Ty.cons (Ty.vtup Ty.str) (Ty.last Ty.int)))))) : m_shown_rule d = runG (Ty.last (Ty.tup (Ty.cons Ty.str (Ty.cons (Ty.vtup Ty.str) (Ty.last Ty.int))))) [Ty.str, (Ty.vtup Ty.str), Ty.int, (Ty.list Ty.str)] b_shown_rule d := congrFun (hide_eq _) d
theorem m_shown_rule_at (p0 : den (Ty.tup (Ty.cons Ty.str (Ty.cons (Ty.vtup Ty.str) (Ty.last Ty.int))))) : m_shown_rule (p0) = endOf (b_shown_rule ((some p0, none, none, none, none, ()) : Gam g_shown_rule)) := by
  rw [m_shown_rule_eq]
  rfl
set_option maxHeartbeats 4000000 in
theorem ok_shown_rule {f : Addr} {fd : FuncData} (F : Fun K "shown_rule" "shown_rule" s_shown_rule f fd) (T : Txt K mg) :
    FnOk K.P K.w K mg base CX0 1 f fd P_shown_rule (spP K (Ty.last (Ty.tup (Ty.cons Ty.str (Ty.cons (Ty.vtup Ty.str) (Ty.last Ty.int))))) .o Ty.str m_shown_rule) := by
  have S := sc_shown_rule
  refine fn_ok (F := b_shown_rule) [Ty.str, (Ty.vtup Ty.str), Ty.int, (Ty.list Ty.str)] M_shown_rule F S rfl rfl rfl m_shown_rule_eq (fun cdv A outer s H E hr => ?_)
  refine ⟨_, (pss_cons (ps_asg (pv 0) (pg_tupK (n := 3) K rfl rfl (pgs_cons (pg_name (i := 1) S.nd rfl (Or.inl rfl)) (pgs_cons (pg_name (i := 2) S.nd rfl (Or.inl rfl)) (pgs_cons (pg_name (i := 3) S.nd rfl (Or.inl rfl)) pgs_nil)))))
  (pss_cons (ps_set (i := 4) S.nd rfl (Or.inl rfl) (pe_op (r := rCatR K) op_catR (pe_lst (pa_cons (pv 1) (pa_cons pe_str pa_nil))) (pe_callTy (r := rListOf K) call_list_of (by rfl) T.b_list (by decide +kernel) (pa_cons (pv 2) pa_nil))))
  (pss_cons (ps_if (pt_cmpR op_gt (pv 3) pe_int (nomark _)) (pss_one (ps_set (i := 4) S.nd rfl (Or.inl rfl) (pe_op (r := rCatR K) op_catR (pv 4) (pe_lst (pa_cons pe_str (pa_cons (pe_callTy call_str_int (by rfl) T.b_str (by decide +kernel) (pa_cons (pv 3) pa_nil)) pa_nil)))))) pss_nil)
  (pss_one (ps_ret (pe_joinK K rfl pe_str (pv 4))))))), ?_⟩
  exact (rs_seq (rs_asg (w := false) (t := (Ty.tup (Ty.cons Ty.str (Ty.cons (Ty.vtup Ty.str) (Ty.last Ty.int))))) (rp_frz .l (rp_varw (ms := M_shown_rule) (v_shown_rule_rule))) (rg_tup (rgs_cons (rg_name (ms := M_shown_rule) (v_shown_rule_name)) (rgs_cons (rg_name (ms := M_shown_rule) (v_shown_rule_parts)) (rgs_one (rg_name (ms := M_shown_rule) (v_shown_rule_cost)))))))
  (rs_seq (rs_set (ms := M_shown_rule) (m := .l) (v_shown_rule_words) (rp_le (rp_cat (m1 := .b) (m2 := .b) (rp_le (rp_list (t := Ty.str) (rl_cons (rp_frz .o (rp_varw (ms := M_shown_rule) (v_shown_rule_name))) (rl_cons (rp_str) rl_nil)))) (rp_le (rp_listV (m := .b) (t := Ty.str) (rp_frz .b (rp_varw (ms := M_shown_rule) (v_shown_rule_parts))))))))
  (rs_seq (rs_if (rt_test (rp_op (m := .b) (m1 := .b) (m2 := .b) v_gt (rp_frz .b (rp_varw (ms := M_shown_rule) (v_shown_rule_cost))) rp_int)) (rs_set (ms := M_shown_rule) (m := .l) (v_shown_rule_words) (rp_le (rp_cat (m1 := .b) (m2 := .b) (rp_le (rp_varl (ms := M_shown_rule) (v_shown_rule_words))) (rp_le (rp_list (t := Ty.str) (rl_cons (rp_str) (rl_cons (rp_strI (m' := .b) (rp_frz .b (rp_varw (ms := M_shown_rule) (v_shown_rule_cost)))) rl_nil))))))) rs_next)
  (rs_ret (rm := .o) (ρ := Ty.str) (rp_join (m1 := .b) (m2 := .b) (rp_str) (rp_le (rp_varl (ms := M_shown_rule) (v_shown_rule_words))))))))
abbrev s_shown_grammar : Stmt := topS 20
abbrev N_shown_grammar : List Str := ["grammar", "rule"]
abbrev P_shown_grammar : List Str := ["grammar"]
theorem sc_shown_grammar : FnScope N_shown_grammar P_shown_grammar (defScope s_shown_grammar) := ⟨rfl, rfl, rfl, by decide +kernel, rfl, by decide +kernel, by decide +kernel⟩
abbrev g_shown_grammar : List Ty := [(Ty.list (Ty.tup (Ty.cons Ty.str (Ty.cons (Ty.vtup Ty.str) (Ty.last Ty.int))))), (Ty.tup (Ty.cons Ty.str (Ty.cons (Ty.vtup Ty.str) (Ty.last Ty.int))))]
abbrev M_shown_grammar : List Md := [.w, .w]
abbrev v_shown_grammar_grammar : Mem g_shown_grammar (Ty.list (Ty.tup (Ty.cons Ty.str (Ty.cons (Ty.vtup Ty.str) (Ty.last Ty.int))))) := .z
abbrev v_shown_grammar_rule : Mem g_shown_grammar (Ty.tup (Ty.cons Ty.str (Ty.cons (Ty.vtup Ty.str) (Ty.last Ty.int)))) := (.s .z)
noncomputable def lc_shown_grammar_1 : Gam g_shown_grammar → Option (List (den Ty.str)) := hide (eLc (eV (t := (Ty.list (Ty.tup (Ty.cons Ty.str (Ty.cons (Ty.vtup Ty.str) (Ty.last Ty.int)))))) (v_shown_grammar_grammar)) (bName (t := (Ty.tup (Ty.cons Ty.str (Ty.cons (Ty.vtup Ty.str) (Ty.last Ty.int))))) (v_shown_grammar_rule)) (Gam.mask [true, false]) eYes (e1 m_shown_rule (eV (t := (Ty.tup (Ty.cons Ty.str (Ty.cons (Ty.vtup Ty.str) (Ty.last Ty.int))))) (v_shown_grammar_rule))))
theorem lc_shown_grammar_1_eq : lc_shown_grammar_1 = (eLc (eV (t := (Ty.list (Ty.tup (Ty.cons Ty.str (Ty.cons (Ty.vtup Ty.str) (Ty.last Ty.int)))))) (v_shown_grammar_grammar)) (bName (t := (Ty.tup (Ty.cons Ty.str (Ty.cons (Ty.vtup Ty.str) (Ty.last Ty.int))))) (v_shown_grammar_rule)) (Gam.mask [true, false]) eYes (e1 m_shown_rule (eV (t := (Ty.tup (Ty.cons Ty.str (Ty.cons (Ty.vtup Ty.str) (Ty.last Ty.int))))) (v_shown_grammar_rule)))) := hide_eq _
noncomputable def b_shown_grammar : Gam g_shown_grammar → Option (Fl (Gam g_shown_grammar) (den Ty.str)) :=
  (sRet (e2 fJoin (eC (Str.ofString "\n")) lc_shown_grammar_1))
noncomputable def m_shown_grammar : den (Ty.last (Ty.list (Ty.tup (Ty.cons Ty.str (Ty.cons (Ty.vtup Ty.str) (Ty.last Ty.int)))))) → Option (den Ty.str) := hide (runG (Ty.last (Ty.list (Ty.tup (Ty.cons Ty.str (Ty.cons (Ty.vtup Ty.str) (Ty.last Ty.int)))))) [(Ty.tup (Ty.cons Ty.str (Ty.cons (Ty.vtup Ty.str) (Ty.last Ty.int))))] b_shown_grammar)
theorem m_shown_grammar_eq (d : den (Ty.last (Ty.list (Ty.tup (Ty.cons Ty.str (Ty.cons (Ty.vtup Ty.str) (Ty.last Ty.int))))))) : m_shown_grammar d = runG (Ty.last (Ty.list (Ty.tup (Ty.cons Ty.str (Ty.cons (Ty.vtup Ty.str) (Ty.last Ty.int)))))) [(Ty.tup (Ty.cons Ty.str (Ty.cons (Ty.vtup Ty.str) (Ty.last Ty.int))))] b_shown_grammar d := congrFun (hide_eq _) d
theorem m_shown_grammar_at (p0 : den (Ty.list (Ty.tup (Ty.cons Ty.str (Ty.cons (Ty.vtup Ty.str) (Ty.last Ty.int)))))) : m_shown_grammar (p0) = endOf (b_shown_grammar ((some p0, none, ()) : Gam g_shown_grammar)) := by
  rw [m_shown_grammar_eq]
  rfl
set_option maxHeartbeats 4000000 in
theorem ok_shown_grammar {f : Addr} {fd : FuncData} (F : Fun K "shown_grammar" "shown_grammar" s_shown_grammar f fd) (T : Txt K mg) {f_shown_rule : Addr} {fd_shown_rule : FuncData} (D_shown_rule : Df K mg "shown_rule" "shown_rule" s_shown_rule P_shown_rule f_shown_rule fd_shown_rule) (G_shown_rule : FnOk K.P K.w K mg base CX0 1 f_shown_rule fd_shown_rule P_shown_rule (spP K (Ty.last (Ty.tup (Ty.cons Ty.str (Ty.cons (Ty.vtup Ty.str) (Ty.last Ty.int))))) .o Ty.str m_shown_rule)) :
    FnOk K.P K.w K mg base CX0 2 f fd P_shown_grammar (spP K (Ty.last (Ty.list (Ty.tup (Ty.cons Ty.str (Ty.cons (Ty.vtup Ty.str) (Ty.last Ty.int)))))) .o Ty.str m_shown_grammar) := by
  have S := sc_shown_grammar
  refine fn_ok (F := b_shown_grammar) [(Ty.tup (Ty.cons Ty.str (Ty.cons (Ty.vtup Ty.str) (Ty.last Ty.int))))] M_shown_grammar F S rfl rfl rfl m_shown_grammar_eq (fun cdv A outer s H E hr => ?_)
  refine ⟨_, (pss_one (ps_ret (pe_joinK K rfl pe_str (pe_lc (own := [("rule", 1)]) rfl S.nd (pi_listK K rfl (pv 0)) (blkOk_by (N := N_shown_grammar) (sc := defScope s_shown_grammar) (by decide +kernel)) (fun _ _ _ _ _ => (pg_name (i := 1) S.nd rfl (Or.inl rfl))) (fun _ _ _ _ _ => pts_nil) (fun _ _ _ _ _ => (pe_call G_shown_rule (hr.mono (by decide)) rfl D_shown_rule.gl D_shown_rule.fn.kp D_shown_rule.bi .nil pass0 (pa_cons (pv 1) pa_nil))))))), ?_⟩
  exact (rs_ret (rm := .o) (ρ := Ty.str) (rp_join (m1 := .b) (m2 := .b) (rp_str) (rp_le (rp_hide (rp_lc (w := true) (m := .o) (t := (Ty.tup (Ty.cons Ty.str (Ty.cons (Ty.vtup Ty.str) (Ty.last Ty.int))))) (u := Ty.str) [true, false] [1] (ris_of (ri_list (w := true) (t := (Ty.tup (Ty.cons Ty.str (Ty.cons (Ty.vtup Ty.str) (Ty.last Ty.int))))) (rp_varw (ms := M_shown_grammar) (v_shown_grammar_grammar)))) (rg_name (ms := M_shown_grammar) (v_shown_grammar_rule)) gw_name rt_yes (rp_call (mA := .b) (rm := .o) (ρ := Ty.str) (m := m_shown_rule) rfl (ra_one (rp_frz .b (rp_varw (ms := M_shown_grammar) (v_shown_grammar_rule))))))))))
abbrev s_law : Stmt := topS 41
abbrev N_law : List Str := ["script", "text", "told", "caught", "e", "due"]
abbrev P_law : List Str := ["script"]
theorem sc_law : FnScope N_law P_law (defScope s_law) := ⟨rfl, rfl, rfl, by decide +kernel, rfl, by decide +kernel, by decide +kernel⟩
abbrev g_law : List Ty := [(Ty.list Ty.int), Ty.str, (Ty.opt (Ty.list (Ty.tup (Ty.cons Ty.str (Ty.cons (Ty.vtup Ty.str) (Ty.last Ty.int)))))), (Ty.opt Ty.exn), Ty.exn, Ty.str]
abbrev M_law : List Md := [.w, .w, .l, .w, .w, .w]
abbrev v_law_script : Mem g_law (Ty.list Ty.int) := .z
abbrev v_law_text : Mem g_law Ty.str := (.s .z)
abbrev v_law_told : Mem g_law (Ty.opt (Ty.list (Ty.tup (Ty.cons Ty.str (Ty.cons (Ty.vtup Ty.str) (Ty.last Ty.int)))))) := (.s (.s .z))
abbrev v_law_caught : Mem g_law (Ty.opt Ty.exn) := (.s (.s (.s .z)))
abbrev v_law_e : Mem g_law Ty.exn := (.s (.s (.s (.s .z))))
abbrev v_law_due : Mem g_law Ty.str := (.s (.s (.s (.s (.s .z)))))
noncomputable def b_law : Gam g_law → Option (Fl (Gam g_law) (den Ty.bool)) :=
  (sSeq (sSet (v_law_text) (e1 m__law_text (eV (t := (Ty.list Ty.int)) (v_law_script))))
  (sSeq (sSet (v_law_told) (eC none))
  (sSeq (sSet (v_law_caught) (eC none))
  (sSeq (sTry (sSetR (v_law_told) (eSomeR (e1 m_read_grammar (eV (t := Ty.str) (v_law_text))))) (cAs (v_law_e) [(Str.ofString "NoGrammar", true), (Str.ofString "NoText", true)] (sSet (v_law_caught) (e1 (fun d => some (some d)) (eV (t := Ty.exn) (v_law_e)))) cNil))
  (sSeq (sSet (v_law_due) (e1 m__law_due (eV (t := Ty.str) (v_law_text))))
  (sSeq (sIf (e2 fEqS (eV (t := Ty.str) (v_law_due)) (eC (Str.ofString "good"))) (sRet (eAnd (e2 (fun a _ => some a.isNone) (eV (t := (Ty.opt Ty.exn)) (v_law_caught)) (eC ())) (eAnd (e1 (fun d => some ((fun d => d.isSome) d)) (eV (t := (Ty.opt (Ty.list (Ty.tup (Ty.cons Ty.str (Ty.cons (Ty.vtup Ty.str) (Ty.last Ty.int))))))) (v_law_told))) (e2 fEqS (e1 m_shown_grammar (e1 (fun (o : Option (den (Ty.list (Ty.tup (Ty.cons Ty.str (Ty.cons (Ty.vtup Ty.str) (Ty.last Ty.int))))))) => o) (eV (t := (Ty.opt (Ty.list (Ty.tup (Ty.cons Ty.str (Ty.cons (Ty.vtup Ty.str) (Ty.last Ty.int))))))) (v_law_told)))) (eV (t := Ty.str) (v_law_text)))))) sNext)
  (sSeq (sIf (eNot (e1 (fIsE [(Str.ofString "NoGrammar", true), (Str.ofString "NoText", true)]) (eV (t := (Ty.opt Ty.exn)) (v_law_caught)))) (sRet (eC false)) sNext)
  (sRet (e2 (fEqD (Ty.list Ty.bool)) (e1 m__law_kinds (e1 (fun (o : Option (den Ty.exn)) => o) (eV (t := (Ty.opt Ty.exn)) (v_law_caught)))) (e1 fSmall (eSnoc (e2 fEqS (eV (t := Ty.str) (v_law_due)) (eC (Str.ofString "text"))) (eSnoc (e2 fEqS (eV (t := Ty.str) (v_law_due)) (eC (Str.ofString "grammar"))) (eSnoc (eC false) (eSnoc (eC false) (eSnoc (eC false) (eSnoc (eC false) eNil))))))))))))))))
noncomputable def m_law : den (Ty.last (Ty.list Ty.int)) → Option (den Ty.bool) := hide (runG (Ty.last (Ty.list Ty.int)) [Ty.str, (Ty.opt (Ty.list (Ty.tup (Ty.cons Ty.str (Ty.cons (Ty.vtup Ty.str) (Ty.last Ty.int)))))), (Ty.opt Ty.exn), Ty.exn, Ty.str] b_law)
theorem m_law_eq (d : den (Ty.last (Ty.list Ty.int))) : m_law d = runG (Ty.last (Ty.list Ty.int)) [Ty.str, (Ty.opt (Ty.list (Ty.tup (Ty.cons Ty.str (Ty.cons (Ty.vtup Ty.str) (Ty.last Ty.int)))))), (Ty.opt Ty.exn), Ty.exn, Ty.str] b_law d := congrFun (hide_eq _) d
theorem m_law_at (p0 : den (Ty.list Ty.int)) : m_law (p0) = endOf (b_law ((some p0, none, none, none, none, none, ()) : Gam g_law)) := by
  rw [m_law_eq]
  rfl
set_option maxHeartbeats 4000000 in
theorem ok_law {f : Addr} {fd : FuncData} (F : Fun K "law" "law" s_law f fd) (T : Txt K mg) {f__law_text : Addr} {fd__law_text : FuncData} (D__law_text : Df K mg "_law_text" "_law_text" s__law_text P__law_text f__law_text fd__law_text) (G__law_text : FnOk K.P K.w K mg base CX0 4 f__law_text fd__law_text P__law_text (spP K (Ty.last (Ty.list Ty.int)) .o Ty.str m__law_text)) {f_read_grammar : Addr} {fd_read_grammar : FuncData} (D_read_grammar : Df K mg "read_grammar" "read_grammar" s_read_grammar P_read_grammar f_read_grammar fd_read_grammar) (G_read_grammar : FnOk K.P K.w K mg base (L2.CX K.P K.w) 4 f_read_grammar fd_read_grammar P_read_grammar (spX K (Ty.last Ty.str) .o (Ty.list (Ty.tup (Ty.cons Ty.str (Ty.cons (Ty.vtup Ty.str) (Ty.last Ty.int))))) m_read_grammar)) {f__law_due : Addr} {fd__law_due : FuncData} (D__law_due : Df K mg "_law_due" "_law_due" s__law_due P__law_due f__law_due fd__law_due) (G__law_due : FnOk K.P K.w K mg base CX0 4 f__law_due fd__law_due P__law_due (spP K (Ty.last Ty.str) .o Ty.str m__law_due)) {f_shown_grammar : Addr} {fd_shown_grammar : FuncData} (D_shown_grammar : Df K mg "shown_grammar" "shown_grammar" s_shown_grammar P_shown_grammar f_shown_grammar fd_shown_grammar) (G_shown_grammar : FnOk K.P K.w K mg base CX0 2 f_shown_grammar fd_shown_grammar P_shown_grammar (spP K (Ty.last (Ty.list (Ty.tup (Ty.cons Ty.str (Ty.cons (Ty.vtup Ty.str) (Ty.last Ty.int)))))) .o Ty.str m_shown_grammar)) {f__law_kinds : Addr} {fd__law_kinds : FuncData} (D__law_kinds : Df K mg "_law_kinds" "_law_kinds" s__law_kinds P__law_kinds f__law_kinds fd__law_kinds) (G__law_kinds : FnOk K.P K.w K mg base CX0 1 f__law_kinds fd__law_kinds P__law_kinds (spP K (Ty.last Ty.exn) .o (Ty.list Ty.bool) m__law_kinds)) :
    FnOk K.P K.w K mg base CX0 5 f fd P_law (spP K (Ty.last (Ty.list Ty.int)) .o Ty.bool m_law) := by
  have S := sc_law
  refine fn_ok (F := b_law) [Ty.str, (Ty.opt (Ty.list (Ty.tup (Ty.cons Ty.str (Ty.cons (Ty.vtup Ty.str) (Ty.last Ty.int)))))), (Ty.opt Ty.exn), Ty.exn, Ty.str] M_law F S rfl rfl rfl m_law_eq (fun cdv A outer s H E hr => ?_)
  refine ⟨_, (pss_cons (ps_set (i := 1) S.nd rfl (Or.inl rfl) (pe_call G__law_text (hr.mono (by decide)) rfl D__law_text.gl D__law_text.fn.kp D__law_text.bi .nil pass0 (pa_cons (pv 0) pa_nil)))
  (pss_cons (ps_set (i := 2) S.nd rfl (Or.inl rfl) pe_non)
  (pss_cons (ps_set (i := 3) S.nd rfl (Or.inl rfl) pe_non)
  (pss_cons (ps_try_keep rfl rfl S.nd takes0 (fun W pn xe tk po => (pss_one (ps_set (i := 2) S.nd rfl (Or.inl rfl) (pe_callS G_read_grammar (hr.mono (by decide)) rfl D_read_grammar.gl D_read_grammar.fn.kp D_read_grammar.bi (fun σ => passAt tk σ) (pa_cons (pv 1) pa_nil))))) (ClsOk.as_ (i := 4) ⟨rfl, by decide, Or.inl (T.e_GroveError).choose_spec.mg⟩ rfl rfl (fun a pn => (pss_one (ps_set (i := 3) S.nd rfl (Or.inl rfl) (pv 4)))) .nil))
  (pss_cons (ps_set (i := 5) S.nd rfl (Or.inl rfl) (pe_call G__law_due (hr.mono (by decide)) rfl D__law_due.gl D__law_due.fn.kp D__law_due.bi .nil pass0 (pa_cons (pv 1) pa_nil)))
  (pss_cons (ps_if (pt_cmpR op_eq (pv 5) pe_str (nomark _)) (pss_one (ps_ret (pe_and (pe_cmpR op_isN (pv 3) pe_non (nomark _)) (pe_and (pe_callB (r := rIsi K) call_isi (by rfl) T.b_isinstance (by decide +kernel) (pa_cons (pv 2) (pa_cons (pe_bltn (v := .ty "list") (by rfl) T.b_list (by decide +kernel) rfl) pa_nil))) (pe_one (pe_cmpR op_eq (pe_call G_shown_grammar (hr.mono (by decide)) rfl D_shown_grammar.gl D_shown_grammar.fn.kp D_shown_grammar.bi .nil pass0 (pa_cons (pv 2) pa_nil)) (pv 1) (nomark _))))))) pss_nil)
  (pss_cons (ps_if (pt_not (pt_val (pe_callB (r := rIsE K) call_isEx (by rfl) T.b_isinstance (by decide +kernel) (pa_cons (pv 3) (pa_cons (pe_bltn (v := .ty "ValueError") (by rfl) T.b_ValueError (by decide +kernel) rfl) pa_nil))))) (pss_one (ps_ret pe_bl)) pss_nil)
  (pss_one (ps_ret (pe_cmpR (r := rEqD K) (op_eqD hr.units) (pe_call G__law_kinds (hr.mono (by decide)) rfl D__law_kinds.gl D__law_kinds.fn.kp D__law_kinds.bi .nil pass0 (pa_cons (pv 3) pa_nil)) (pe_lst (pa_cons (pe_cmpR op_eq (pv 5) pe_str (nomark _)) (pa_cons (pe_cmpR op_eq (pv 5) pe_str (nomark _)) (pa_cons pe_bl (pa_cons pe_bl (pa_cons pe_bl (pa_cons pe_bl pa_nil))))))) (nomark _))))))))))), ?_⟩
  exact (rs_seq (rs_set (ms := M_law) (m := .w) (v_law_text) (rp_frz .w (rp_call (mA := .b) (rm := .o) (ρ := Ty.str) (m := m__law_text) rfl (ra_one (rp_le (rp_varw (ms := M_law) (v_law_script)))))))
  (rs_seq (rs_set (ms := M_law) (m := .l) (v_law_told) rp_noneO)
  (rs_seq (rs_set (ms := M_law) (m := .w) (v_law_caught) rp_noneO)
  (rs_seq (rs_try (fun W => (rs_setR (ms := M_law) (m := .l) (v_law_told) (rpx_le (m' := .l) (rpx_some (t := (Ty.list (Ty.tup (Ty.cons Ty.str (Ty.cons (Ty.vtup Ty.str) (Ty.last Ty.int)))))) (rpx_call (mA := .b) (rm := .o) (ρ := (Ty.list (Ty.tup (Ty.cons Ty.str (Ty.cons (Ty.vtup Ty.str) (Ty.last Ty.int)))))) (m := m_read_grammar) rfl (ra_one (rp_frz .b (rp_varw (ms := M_law) (v_law_text))))))))) (rcl_as (ms := M_law) (t := [(Str.ofString "NoGrammar", true), (Str.ofString "NoText", true)]) (v_law_e) (extab_cons (nm := "NoGrammar") (b := true) (T.e_GroveError).choose_spec (extab_cons (nm := "NoText") (b := true) (T.e_GroveError).choose_spec extab_nil T.i_NoText_GroveError) T.i_NoGrammar_GroveError) (rs_set (ms := M_law) (m := .w) (v_law_caught) (rp_some (rp_varw (ms := M_law) (v_law_e)))) rcl_nil))
  (rs_seq (rs_set (ms := M_law) (m := .w) (v_law_due) (rp_frz .w (rp_call (mA := .b) (rm := .o) (ρ := Ty.str) (m := m__law_due) rfl (ra_one (rp_frz .b (rp_varw (ms := M_law) (v_law_text)))))))
  (rs_seq (rs_if (rt_test (rp_op (m := .b) (m1 := .b) (m2 := .b) v_eqS (rp_frz .b (rp_varw (ms := M_law) (v_law_due))) (rp_str))) (rs_ret (rm := .o) (ρ := Ty.bool) (rp_and (m1 := .b) (m2 := .b) (rp_op (m1 := .b) (m2 := .b) (v_isN (t := Ty.exn)) (rp_frz .b (rp_varw (ms := M_law) (v_law_caught))) rp_non) (rp_and (m1 := .b) (m2 := .b) (rp_isi (t := (Ty.opt (Ty.list (Ty.tup (Ty.cons Ty.str (Ty.cons (Ty.vtup Ty.str) (Ty.last Ty.int))))))) (m' := .b) "list" (fun d => d.isSome) (rp_le (rp_varl (ms := M_law) (v_law_told))) (fun d => by cases d <;> first | decide +kernel | rfl)) (rp_op (m1 := .b) (m2 := .b) v_eqS (rp_frz .b (rp_call (mA := .b) (rm := .o) (ρ := Ty.str) (m := m_shown_grammar) rfl (ra_one (rp_le (rp_unoptL (t := (Ty.list (Ty.tup (Ty.cons Ty.str (Ty.cons (Ty.vtup Ty.str) (Ty.last Ty.int)))))) (rp_varl (ms := M_law) (v_law_told))))))) (rp_frz .b (rp_varw (ms := M_law) (v_law_text))))))) rs_next)
  (rs_seq (rs_if (rt_not (rt_val (m := .b) (rp_isE (m1 := .b) (t := [(Str.ofString "NoGrammar", true), (Str.ofString "NoText", true)]) (rp_frz .b (rp_varw (ms := M_law) (v_law_caught))) (istab_consB (by decide +kernel) (nm := "NoGrammar") (b := true) (istab_consB (by decide +kernel) (nm := "NoText") (b := true) (istab_nilB (T := "ValueError") (by decide +kernel) (by decide +kernel)) (T.e_NoText) T.j_NoText_ValueError) (T.e_NoGrammar) T.j_NoGrammar_ValueError)))) (rs_ret (rm := .o) (ρ := Ty.bool) rp_bool) rs_next)
  (rs_ret (rm := .o) (ρ := Ty.bool) (rp_op (m1 := .b) (m2 := .b) (v_eqD (t := (Ty.list Ty.bool)) (by decide)) (rp_le (rp_call (mA := .b) (rm := .o) (ρ := (Ty.list Ty.bool)) (m := m__law_kinds) rfl (ra_one (rp_unopt (m := .b) (t := Ty.exn) (rp_frz .b (rp_varw (ms := M_law) (v_law_caught))))))) (rp_le (rp_list (t := Ty.bool) (rl_cons (rp_op (m1 := .b) (m2 := .b) v_eqS (rp_frz .b (rp_varw (ms := M_law) (v_law_due))) (rp_str)) (rl_cons (rp_op (m1 := .b) (m2 := .b) v_eqS (rp_frz .b (rp_varw (ms := M_law) (v_law_due))) (rp_str)) (rl_cons rp_bool (rl_cons rp_bool (rl_cons rp_bool (rl_cons rp_bool rl_nil)))))))))))))))))
end
set_option maxHeartbeats 4000000 in
theorem all_mk {l : PySem.W.OpenLaw} {w : World} {K : PySem.W.Frag} {h : Heap} {mg : Str → Option Value} {fa : Addr} (X : K.In h) (G : h.Ns mainGlobals mg) (hfa : mg "law" = some (.ref fa))
    {f0 : Addr} {od0 an0 : Option Addr} {sl0 : Array (Option Value)} {oc0 kV0 dc0 pm0 cd0 ct0 : Value}
    {f1 : Addr} {od1 an1 : Option Addr} {sl1 : Array (Option Value)} {oc1 kV1 dc1 pm1 cd1 ct1 : Value}
    {f2 : Addr} {od2 an2 : Option Addr} {sl2 : Array (Option Value)} {oc2 kV2 dc2 pm2 cd2 ct2 : Value}
    {f3 : Addr} {od3 an3 : Option Addr} {sl3 : Array (Option Value)} {oc3 kV3 dc3 pm3 cd3 ct3 : Value}
    {f4 : Addr} {od4 an4 : Option Addr} {sl4 : Array (Option Value)} {oc4 kV4 dc4 pm4 cd4 ct4 : Value}
    {f5 : Addr} {od5 an5 : Option Addr} {sl5 : Array (Option Value)} {oc5 kV5 dc5 pm5 cd5 ct5 : Value}
    {f6 : Addr} {od6 an6 : Option Addr} {sl6 : Array (Option Value)} {oc6 kV6 dc6 pm6 cd6 ct6 : Value}
    {f7 : Addr} {od7 an7 : Option Addr} {sl7 : Array (Option Value)} {oc7 kV7 dc7 pm7 cd7 ct7 : Value}
    {f8 : Addr} {od8 an8 : Option Addr} {sl8 : Array (Option Value)} {oc8 kV8 dc8 pm8 cd8 ct8 : Value}
    {f9 : Addr} {od9 an9 : Option Addr} {sl9 : Array (Option Value)} {oc9 kV9 dc9 pm9 cd9 ct9 : Value}
    {f10 : Addr} {od10 an10 : Option Addr} {sl10 : Array (Option Value)} {oc10 kV10 dc10 pm10 cd10 ct10 : Value}
    {f11 : Addr} {od11 an11 : Option Addr} {sl11 : Array (Option Value)} {oc11 kV11 dc11 pm11 cd11 ct11 : Value}
    {f12 : Addr} {od12 an12 : Option Addr} {sl12 : Array (Option Value)} {oc12 kV12 dc12 pm12 cd12 ct12 : Value}
    {f13 : Addr} {od13 an13 : Option Addr} {sl13 : Array (Option Value)} {oc13 kV13 dc13 pm13 cd13 ct13 : Value}
    {f14 : Addr} {od14 an14 : Option Addr} {sl14 : Array (Option Value)} {oc14 kV14 dc14 pm14 cd14 ct14 : Value}
    {f15 : Addr} {od15 an15 : Option Addr} {sl15 : Array (Option Value)} {oc15 kV15 dc15 pm15 cd15 ct15 : Value}
    {f16 : Addr} {od16 an16 : Option Addr} {sl16 : Array (Option Value)} {oc16 kV16 dc16 pm16 cd16 ct16 : Value}
    {f17 : Addr} {od17 an17 : Option Addr} {sl17 : Array (Option Value)} {oc17 kV17 dc17 pm17 cd17 ct17 : Value}
    {f18 : Addr} {od18 an18 : Option Addr} {sl18 : Array (Option Value)} {oc18 kV18 dc18 pm18 cd18 ct18 : Value}
    {f19 : Addr} {od19 an19 : Option Addr} {sl19 : Array (Option Value)} {oc19 kV19 dc19 pm19 cd19 ct19 : Value}
    {f20 : Addr} {od20 an20 : Option Addr} {sl20 : Array (Option Value)} {oc20 kV20 dc20 pm20 cd20 ct20 : Value}
    {f21 : Addr} {od21 an21 : Option Addr} {sl21 : Array (Option Value)} {oc21 kV21 dc21 pm21 cd21 ct21 : Value}
    {f22 : Addr} {od22 an22 : Option Addr} {sl22 : Array (Option Value)} {oc22 kV22 dc22 pm22 cd22 ct22 : Value}
    {f23 : Addr} {od23 an23 : Option Addr} {sl23 : Array (Option Value)} {oc23 kV23 dc23 pm23 cd23 ct23 : Value}
    {f24 : Addr} {od24 an24 : Option Addr} {sl24 : Array (Option Value)} {oc24 kV24 dc24 pm24 cd24 ct24 : Value}
    (a0 : PySem.W.nsIn K mainGlobals "_law_cell_at" = some (some (.ref f0))) (l0 : K.lookup f0 = some ⟨oc0, od0, .func (PySem.W.fnOf "_law_cell_at" "_law_cell_at" (defArgs s__law_cell_at) (defBody s__law_cell_at) (defScope s__law_cell_at) .none kV0 dc0 pm0 an0 cd0 ct0), sl0⟩) (c0 : PySem.W.codeIn K cd0 "_law_cell_at" = true) (k0 : PySem.W.keepIn K (.ref f0) = true)
    (a1 : PySem.W.nsIn K mainGlobals "_law_shown" = some (some (.ref f1))) (l1 : K.lookup f1 = some ⟨oc1, od1, .func (PySem.W.fnOf "_law_shown" "_law_shown" (defArgs s__law_shown) (defBody s__law_shown) (defScope s__law_shown) .none kV1 dc1 pm1 an1 cd1 ct1), sl1⟩) (c1 : PySem.W.codeIn K cd1 "_law_shown" = true) (k1 : PySem.W.keepIn K (.ref f1) = true)
    (a2 : PySem.W.nsIn K mainGlobals "_law_heads" = some (some (.ref f2))) (l2 : K.lookup f2 = some ⟨oc2, od2, .func (PySem.W.fnOf "_law_heads" "_law_heads" (defArgs s__law_heads) (defBody s__law_heads) (defScope s__law_heads) .none kV2 dc2 pm2 an2 cd2 ct2), sl2⟩) (c2 : PySem.W.codeIn K cd2 "_law_heads" = true) (k2 : PySem.W.keepIn K (.ref f2) = true)
    (a3 : PySem.W.nsIn K mainGlobals "_law_word" = some (some (.ref f3))) (l3 : K.lookup f3 = some ⟨oc3, od3, .func (PySem.W.fnOf "_law_word" "_law_word" (defArgs s__law_word) (defBody s__law_word) (defScope s__law_word) .none kV3 dc3 pm3 an3 cd3 ct3), sl3⟩) (c3 : PySem.W.codeIn K cd3 "_law_word" = true) (k3 : PySem.W.keepIn K (.ref f3) = true)
    (a4 : PySem.W.nsIn K mainGlobals "_law_rule" = some (some (.ref f4))) (l4 : K.lookup f4 = some ⟨oc4, od4, .func (PySem.W.fnOf "_law_rule" "_law_rule" (defArgs s__law_rule) (defBody s__law_rule) (defScope s__law_rule) .none kV4 dc4 pm4 an4 cd4 ct4), sl4⟩) (c4 : PySem.W.codeIn K cd4 "_law_rule" = true) (k4 : PySem.W.keepIn K (.ref f4) = true)
    (a5 : PySem.W.nsIn K mainGlobals "_law_rules" = some (some (.ref f5))) (l5 : K.lookup f5 = some ⟨oc5, od5, .func (PySem.W.fnOf "_law_rules" "_law_rules" (defArgs s__law_rules) (defBody s__law_rules) (defScope s__law_rules) .none kV5 dc5 pm5 an5 cd5 ct5), sl5⟩) (c5 : PySem.W.codeIn K cd5 "_law_rules" = true) (k5 : PySem.W.keepIn K (.ref f5) = true)
    (a6 : PySem.W.nsIn K mainGlobals "_law_odd" = some (some (.ref f6))) (l6 : K.lookup f6 = some ⟨oc6, od6, .func (PySem.W.fnOf "_law_odd" "_law_odd" (defArgs s__law_odd) (defBody s__law_odd) (defScope s__law_odd) .none kV6 dc6 pm6 an6 cd6 ct6), sl6⟩) (c6 : PySem.W.codeIn K cd6 "_law_odd" = true) (k6 : PySem.W.keepIn K (.ref f6) = true)
    (a7 : PySem.W.nsIn K mainGlobals "_law_long" = some (some (.ref f7))) (l7 : K.lookup f7 = some ⟨oc7, od7, .func (PySem.W.fnOf "_law_long" "_law_long" (defArgs s__law_long) (defBody s__law_long) (defScope s__law_long) .none kV7 dc7 pm7 an7 cd7 ct7), sl7⟩) (c7 : PySem.W.codeIn K cd7 "_law_long" = true) (k7 : PySem.W.keepIn K (.ref f7) = true)
    (a8 : PySem.W.nsIn K mainGlobals "_law_text" = some (some (.ref f8))) (l8 : K.lookup f8 = some ⟨oc8, od8, .func (PySem.W.fnOf "_law_text" "_law_text" (defArgs s__law_text) (defBody s__law_text) (defScope s__law_text) .none kV8 dc8 pm8 an8 cd8 ct8), sl8⟩) (c8 : PySem.W.codeIn K cd8 "_law_text" = true) (k8 : PySem.W.keepIn K (.ref f8) = true)
    (a9 : PySem.W.nsIn K mainGlobals "_law_of" = some (some (.ref f9))) (l9 : K.lookup f9 = some ⟨oc9, od9, .func (PySem.W.fnOf "_law_of" "_law_of" (defArgs s__law_of) (defBody s__law_of) (defScope s__law_of) .none kV9 dc9 pm9 an9 cd9 ct9), sl9⟩) (c9 : PySem.W.codeIn K cd9 "_law_of" = true) (k9 : PySem.W.keepIn K (.ref f9) = true)
    (a10 : PySem.W.nsIn K mainGlobals "_law_is_head" = some (some (.ref f10))) (l10 : K.lookup f10 = some ⟨oc10, od10, .func (PySem.W.fnOf "_law_is_head" "_law_is_head" (defArgs s__law_is_head) (defBody s__law_is_head) (defScope s__law_is_head) .none kV10 dc10 pm10 an10 cd10 ct10), sl10⟩) (c10 : PySem.W.codeIn K cd10 "_law_is_head" = true) (k10 : PySem.W.keepIn K (.ref f10) = true)
    (a11 : PySem.W.nsIn K mainGlobals "_law_row" = some (some (.ref f11))) (l11 : K.lookup f11 = some ⟨oc11, od11, .func (PySem.W.fnOf "_law_row" "_law_row" (defArgs s__law_row) (defBody s__law_row) (defScope s__law_row) .none kV11 dc11 pm11 an11 cd11 ct11), sl11⟩) (c11 : PySem.W.codeIn K cd11 "_law_row" = true) (k11 : PySem.W.keepIn K (.ref f11) = true)
    (a12 : PySem.W.nsIn K mainGlobals "_law_due" = some (some (.ref f12))) (l12 : K.lookup f12 = some ⟨oc12, od12, .func (PySem.W.fnOf "_law_due" "_law_due" (defArgs s__law_due) (defBody s__law_due) (defScope s__law_due) .none kV12 dc12 pm12 an12 cd12 ct12), sl12⟩) (c12 : PySem.W.codeIn K cd12 "_law_due" = true) (k12 : PySem.W.keepIn K (.ref f12) = true)
    (a13 : PySem.W.nsIn K mainGlobals "names" = some (some (.ref f13))) (l13 : K.lookup f13 = some ⟨oc13, od13, .func (PySem.W.fnOf "names" "names" (defArgs s_names) (defBody s_names) (defScope s_names) .none kV13 dc13 pm13 an13 cd13 ct13), sl13⟩) (c13 : PySem.W.codeIn K cd13 "names" = true) (k13 : PySem.W.keepIn K (.ref f13) = true)
    (a14 : PySem.W.nsIn K mainGlobals "is_name" = some (some (.ref f14))) (l14 : K.lookup f14 = some ⟨oc14, od14, .func (PySem.W.fnOf "is_name" "is_name" (defArgs s_is_name) (defBody s_is_name) (defScope s_is_name) .none kV14 dc14 pm14 an14 cd14 ct14), sl14⟩) (c14 : PySem.W.codeIn K cd14 "is_name" = true) (k14 : PySem.W.keepIn K (.ref f14) = true)
    (a15 : PySem.W.nsIn K mainGlobals "grammar_of" = some (some (.ref f15))) (l15 : K.lookup f15 = some ⟨oc15, od15, .func (PySem.W.fnOf "grammar_of" "grammar_of" (defArgs s_grammar_of) (defBody s_grammar_of) (defScope s_grammar_of) .none kV15 dc15 pm15 an15 cd15 ct15), sl15⟩) (c15 : PySem.W.codeIn K cd15 "grammar_of" = true) (k15 : PySem.W.keepIn K (.ref f15) = true)
    (a16 : PySem.W.nsIn K mainGlobals "cost_of" = some (some (.ref f16))) (l16 : K.lookup f16 = some ⟨oc16, od16, .func (PySem.W.fnOf "cost_of" "cost_of" (defArgs s_cost_of) (defBody s_cost_of) (defScope s_cost_of) .none kV16 dc16 pm16 an16 cd16 ct16), sl16⟩) (c16 : PySem.W.codeIn K cd16 "cost_of" = true) (k16 : PySem.W.keepIn K (.ref f16) = true)
    (a17 : PySem.W.nsIn K mainGlobals "made_of" = some (some (.ref f17))) (l17 : K.lookup f17 = some ⟨oc17, od17, .func (PySem.W.fnOf "made_of" "made_of" (defArgs s_made_of) (defBody s_made_of) (defScope s_made_of) .none kV17 dc17 pm17 an17 cd17 ct17), sl17⟩) (c17 : PySem.W.codeIn K cd17 "made_of" = true) (k17 : PySem.W.keepIn K (.ref f17) = true)
    (a18 : PySem.W.nsIn K mainGlobals "is_name_text" = some (some (.ref f18))) (l18 : K.lookup f18 = some ⟨oc18, od18, .func (PySem.W.fnOf "is_name_text" "is_name_text" (defArgs s_is_name_text) (defBody s_is_name_text) (defScope s_is_name_text) .none kV18 dc18 pm18 an18 cd18 ct18), sl18⟩) (c18 : PySem.W.codeIn K cd18 "is_name_text" = true) (k18 : PySem.W.keepIn K (.ref f18) = true)
    (a19 : PySem.W.nsIn K mainGlobals "read_rule" = some (some (.ref f19))) (l19 : K.lookup f19 = some ⟨oc19, od19, .func (PySem.W.fnOf "read_rule" "read_rule" (defArgs s_read_rule) (defBody s_read_rule) (defScope s_read_rule) .none kV19 dc19 pm19 an19 cd19 ct19), sl19⟩) (c19 : PySem.W.codeIn K cd19 "read_rule" = true) (k19 : PySem.W.keepIn K (.ref f19) = true)
    (a20 : PySem.W.nsIn K mainGlobals "read_grammar" = some (some (.ref f20))) (l20 : K.lookup f20 = some ⟨oc20, od20, .func (PySem.W.fnOf "read_grammar" "read_grammar" (defArgs s_read_grammar) (defBody s_read_grammar) (defScope s_read_grammar) .none kV20 dc20 pm20 an20 cd20 ct20), sl20⟩) (c20 : PySem.W.codeIn K cd20 "read_grammar" = true) (k20 : PySem.W.keepIn K (.ref f20) = true)
    (a21 : PySem.W.nsIn K mainGlobals "_law_kinds" = some (some (.ref f21))) (l21 : K.lookup f21 = some ⟨oc21, od21, .func (PySem.W.fnOf "_law_kinds" "_law_kinds" (defArgs s__law_kinds) (defBody s__law_kinds) (defScope s__law_kinds) .none kV21 dc21 pm21 an21 cd21 ct21), sl21⟩) (c21 : PySem.W.codeIn K cd21 "_law_kinds" = true) (k21 : PySem.W.keepIn K (.ref f21) = true)
    (a22 : PySem.W.nsIn K mainGlobals "shown_rule" = some (some (.ref f22))) (l22 : K.lookup f22 = some ⟨oc22, od22, .func (PySem.W.fnOf "shown_rule" "shown_rule" (defArgs s_shown_rule) (defBody s_shown_rule) (defScope s_shown_rule) .none kV22 dc22 pm22 an22 cd22 ct22), sl22⟩) (c22 : PySem.W.codeIn K cd22 "shown_rule" = true) (k22 : PySem.W.keepIn K (.ref f22) = true)
    (a23 : PySem.W.nsIn K mainGlobals "shown_grammar" = some (some (.ref f23))) (l23 : K.lookup f23 = some ⟨oc23, od23, .func (PySem.W.fnOf "shown_grammar" "shown_grammar" (defArgs s_shown_grammar) (defBody s_shown_grammar) (defScope s_shown_grammar) .none kV23 dc23 pm23 an23 cd23 ct23), sl23⟩) (c23 : PySem.W.codeIn K cd23 "shown_grammar" = true) (k23 : PySem.W.keepIn K (.ref f23) = true)
    (a24 : PySem.W.nsIn K mainGlobals "law" = some (some (.ref f24))) (l24 : K.lookup f24 = some ⟨oc24, od24, .func (PySem.W.fnOf "law" "law" (defArgs s_law) (defBody s_law) (defScope s_law) .none kV24 dc24 pm24 an24 cd24 ct24), sl24⟩) (c24 : PySem.W.codeIn K cd24 "law" = true) (k24 : PySem.W.keepIn K (.ref f24) = true)
    (b_ValueError : PySem.W.nsIn K mainGlobals "ValueError" = some none)
    (b_all : PySem.W.nsIn K mainGlobals "all" = some none)
    (b_int : PySem.W.nsIn K mainGlobals "int" = some none)
    (b_isinstance : PySem.W.nsIn K mainGlobals "isinstance" = some none)
    (b_len : PySem.W.nsIn K mainGlobals "len" = some none)
    (b_list : PySem.W.nsIn K mainGlobals "list" = some none)
    (b_range : PySem.W.nsIn K mainGlobals "range" = some none)
    (b_str : PySem.W.nsIn K mainGlobals "str" = some none)
    (b_tuple : PySem.W.nsIn K mainGlobals "tuple" = some none)
    {t_FIGURES : Tok} (c_FIGURES : PySem.W.nsIn K mainGlobals "FIGURES" = some (some (.str "0123456789" t_FIGURES)))
    {t_GREAT_grammars : Tok} (c_GREAT_grammars : PySem.W.nsIn K mainGlobals "GREAT_grammars" = some (some (.str "ABCDEFGHIJKLMNOPQRSTUVWXYZ" t_GREAT_grammars)))
    {t_GREAT_texts : Tok} (c_GREAT_texts : PySem.W.nsIn K mainGlobals "GREAT_texts" = some (some (.str "ABCDEFGHIJKLMNOPQRSTUVWXYZ" t_GREAT_texts)))
    {t_LONGEST : Tok} (c_LONGEST : PySem.W.nsIn K mainGlobals "LONGEST" = some (some (.int 8 t_LONGEST)))
    {t_MOST_FIGURES : Tok} (c_MOST_FIGURES : PySem.W.nsIn K mainGlobals "MOST_FIGURES" = some (some (.int 60 t_MOST_FIGURES)))
    {t_SMALL : Tok} (c_SMALL : PySem.W.nsIn K mainGlobals "SMALL" = some (some (.str "abcdefghijklmnopqrstuvwxyz" t_SMALL)))
    {C_Endless : Addr} (ea_Endless : PySem.W.nsIn K mainGlobals "Endless" = some (some (.ref C_Endless)))
    (ek_Endless : PySem.W.keepIn K (.ref C_Endless) = true)
    (ex_Endless : PySem.W.excIn K C_Endless veMro "ValueError.__new__" = true)
    (et_Endless : PySem.W.typeIn K (.ref C_Endless) = some (.type "type"))
    (eg_Endless : PySem.W.findIn K (.ref C_Endless) "__getattribute__" = some (some (.builtin "BaseException.__getattribute__")))
    (eh_Endless : PySem.W.findIn K (.ref C_Endless) "__getattr__" = some none)
    (es_Endless : PySem.W.subIn K (.ref C_Endless) (.type "BaseException") = some true)
    (ed_Endless : PySem.W.hasDictIn K C_Endless = true)
    (el_Endless : PySem.W.findIn K (.ref C_Endless) "__class__" = some (some (.builtin "object.__class__")))
    (em_Endless : PySem.W.mroIn K C_Endless (.type "object") = some true)
    {C_GroveError : Addr} (ea_GroveError : PySem.W.nsIn K mainGlobals "GroveError" = some (some (.ref C_GroveError)))
    (ek_GroveError : PySem.W.keepIn K (.ref C_GroveError) = true)
    (ex_GroveError : PySem.W.excIn K C_GroveError veMro "ValueError.__new__" = true)
    (et_GroveError : PySem.W.typeIn K (.ref C_GroveError) = some (.type "type"))
    (eg_GroveError : PySem.W.findIn K (.ref C_GroveError) "__getattribute__" = some (some (.builtin "BaseException.__getattribute__")))
    (eh_GroveError : PySem.W.findIn K (.ref C_GroveError) "__getattr__" = some none)
    (es_GroveError : PySem.W.subIn K (.ref C_GroveError) (.type "BaseException") = some true)
    (ed_GroveError : PySem.W.hasDictIn K C_GroveError = true)
    (el_GroveError : PySem.W.findIn K (.ref C_GroveError) "__class__" = some (some (.builtin "object.__class__")))
    (em_GroveError : PySem.W.mroIn K C_GroveError (.type "object") = some true)
    {C_NoGrammar : Addr} (ea_NoGrammar : PySem.W.nsIn K mainGlobals "NoGrammar" = some (some (.ref C_NoGrammar)))
    (ek_NoGrammar : PySem.W.keepIn K (.ref C_NoGrammar) = true)
    (ex_NoGrammar : PySem.W.excIn K C_NoGrammar veMro "ValueError.__new__" = true)
    (et_NoGrammar : PySem.W.typeIn K (.ref C_NoGrammar) = some (.type "type"))
    (eg_NoGrammar : PySem.W.findIn K (.ref C_NoGrammar) "__getattribute__" = some (some (.builtin "BaseException.__getattribute__")))
    (eh_NoGrammar : PySem.W.findIn K (.ref C_NoGrammar) "__getattr__" = some none)
    (es_NoGrammar : PySem.W.subIn K (.ref C_NoGrammar) (.type "BaseException") = some true)
    (ed_NoGrammar : PySem.W.hasDictIn K C_NoGrammar = true)
    (el_NoGrammar : PySem.W.findIn K (.ref C_NoGrammar) "__class__" = some (some (.builtin "object.__class__")))
    (em_NoGrammar : PySem.W.mroIn K C_NoGrammar (.type "object") = some true)
    {C_NoOrder : Addr} (ea_NoOrder : PySem.W.nsIn K mainGlobals "NoOrder" = some (some (.ref C_NoOrder)))
    (ek_NoOrder : PySem.W.keepIn K (.ref C_NoOrder) = true)
    (ex_NoOrder : PySem.W.excIn K C_NoOrder veMro "ValueError.__new__" = true)
    (et_NoOrder : PySem.W.typeIn K (.ref C_NoOrder) = some (.type "type"))
    (eg_NoOrder : PySem.W.findIn K (.ref C_NoOrder) "__getattribute__" = some (some (.builtin "BaseException.__getattribute__")))
    (eh_NoOrder : PySem.W.findIn K (.ref C_NoOrder) "__getattr__" = some none)
    (es_NoOrder : PySem.W.subIn K (.ref C_NoOrder) (.type "BaseException") = some true)
    (ed_NoOrder : PySem.W.hasDictIn K C_NoOrder = true)
    (el_NoOrder : PySem.W.findIn K (.ref C_NoOrder) "__class__" = some (some (.builtin "object.__class__")))
    (em_NoOrder : PySem.W.mroIn K C_NoOrder (.type "object") = some true)
    {C_NoReading : Addr} (ea_NoReading : PySem.W.nsIn K mainGlobals "NoReading" = some (some (.ref C_NoReading)))
    (ek_NoReading : PySem.W.keepIn K (.ref C_NoReading) = true)
    (ex_NoReading : PySem.W.excIn K C_NoReading veMro "ValueError.__new__" = true)
    (et_NoReading : PySem.W.typeIn K (.ref C_NoReading) = some (.type "type"))
    (eg_NoReading : PySem.W.findIn K (.ref C_NoReading) "__getattribute__" = some (some (.builtin "BaseException.__getattribute__")))
    (eh_NoReading : PySem.W.findIn K (.ref C_NoReading) "__getattr__" = some none)
    (es_NoReading : PySem.W.subIn K (.ref C_NoReading) (.type "BaseException") = some true)
    (ed_NoReading : PySem.W.hasDictIn K C_NoReading = true)
    (el_NoReading : PySem.W.findIn K (.ref C_NoReading) "__class__" = some (some (.builtin "object.__class__")))
    (em_NoReading : PySem.W.mroIn K C_NoReading (.type "object") = some true)
    {C_NoText : Addr} (ea_NoText : PySem.W.nsIn K mainGlobals "NoText" = some (some (.ref C_NoText)))
    (ek_NoText : PySem.W.keepIn K (.ref C_NoText) = true)
    (ex_NoText : PySem.W.excIn K C_NoText veMro "ValueError.__new__" = true)
    (et_NoText : PySem.W.typeIn K (.ref C_NoText) = some (.type "type"))
    (eg_NoText : PySem.W.findIn K (.ref C_NoText) "__getattribute__" = some (some (.builtin "BaseException.__getattribute__")))
    (eh_NoText : PySem.W.findIn K (.ref C_NoText) "__getattr__" = some none)
    (es_NoText : PySem.W.subIn K (.ref C_NoText) (.type "BaseException") = some true)
    (ed_NoText : PySem.W.hasDictIn K C_NoText = true)
    (el_NoText : PySem.W.findIn K (.ref C_NoText) "__class__" = some (some (.builtin "object.__class__")))
    (em_NoText : PySem.W.mroIn K C_NoText (.type "object") = some true)
    {C_TooMany : Addr} (ea_TooMany : PySem.W.nsIn K mainGlobals "TooMany" = some (some (.ref C_TooMany)))
    (ek_TooMany : PySem.W.keepIn K (.ref C_TooMany) = true)
    (ex_TooMany : PySem.W.excIn K C_TooMany veMro "ValueError.__new__" = true)
    (et_TooMany : PySem.W.typeIn K (.ref C_TooMany) = some (.type "type"))
    (eg_TooMany : PySem.W.findIn K (.ref C_TooMany) "__getattribute__" = some (some (.builtin "BaseException.__getattribute__")))
    (eh_TooMany : PySem.W.findIn K (.ref C_TooMany) "__getattr__" = some none)
    (es_TooMany : PySem.W.subIn K (.ref C_TooMany) (.type "BaseException") = some true)
    (ed_TooMany : PySem.W.hasDictIn K C_TooMany = true)
    (el_TooMany : PySem.W.findIn K (.ref C_TooMany) "__class__" = some (some (.builtin "object.__class__")))
    (em_TooMany : PySem.W.mroIn K C_TooMany (.type "object") = some true)
    (eo_spec : PySem.W.specialIn K (.builtin "object.__class__") "__get__" = some (some (.builtin "getset_descriptor.__get__"))) (eo_take : PySem.W.takesIn K (.builtin "object.__class__") = some true)
    (i_NoGrammar_Endless : PySem.W.subIn K (.ref C_NoGrammar) (.ref C_Endless) = some false) (q_NoGrammar_Endless : C_NoGrammar ≠ C_Endless)
    (i_NoGrammar_GroveError : PySem.W.subIn K (.ref C_NoGrammar) (.ref C_GroveError) = some true)
    (i_NoGrammar_NoGrammar : PySem.W.subIn K (.ref C_NoGrammar) (.ref C_NoGrammar) = some true)
    (i_NoGrammar_NoOrder : PySem.W.subIn K (.ref C_NoGrammar) (.ref C_NoOrder) = some false) (q_NoGrammar_NoOrder : C_NoGrammar ≠ C_NoOrder)
    (i_NoGrammar_NoReading : PySem.W.subIn K (.ref C_NoGrammar) (.ref C_NoReading) = some false) (q_NoGrammar_NoReading : C_NoGrammar ≠ C_NoReading)
    (i_NoGrammar_NoText : PySem.W.subIn K (.ref C_NoGrammar) (.ref C_NoText) = some false) (q_NoGrammar_NoText : C_NoGrammar ≠ C_NoText)
    (i_NoGrammar_TooMany : PySem.W.subIn K (.ref C_NoGrammar) (.ref C_TooMany) = some false) (q_NoGrammar_TooMany : C_NoGrammar ≠ C_TooMany)
    (i_NoText_Endless : PySem.W.subIn K (.ref C_NoText) (.ref C_Endless) = some false) (q_NoText_Endless : C_NoText ≠ C_Endless)
    (i_NoText_GroveError : PySem.W.subIn K (.ref C_NoText) (.ref C_GroveError) = some true)
    (i_NoText_NoGrammar : PySem.W.subIn K (.ref C_NoText) (.ref C_NoGrammar) = some false) (q_NoText_NoGrammar : C_NoText ≠ C_NoGrammar)
    (i_NoText_NoOrder : PySem.W.subIn K (.ref C_NoText) (.ref C_NoOrder) = some false) (q_NoText_NoOrder : C_NoText ≠ C_NoOrder)
    (i_NoText_NoReading : PySem.W.subIn K (.ref C_NoText) (.ref C_NoReading) = some false) (q_NoText_NoReading : C_NoText ≠ C_NoReading)
    (i_NoText_NoText : PySem.W.subIn K (.ref C_NoText) (.ref C_NoText) = some true)
    (i_NoText_TooMany : PySem.W.subIn K (.ref C_NoText) (.ref C_TooMany) = some false) (q_NoText_TooMany : C_NoText ≠ C_TooMany)
    (j_NoGrammar_ValueError : PySem.W.subIn K (.ref C_NoGrammar) (.type "ValueError") = some true)
    (j_NoText_ValueError : PySem.W.subIn K (.ref C_NoText) (.type "ValueError") = some true)
    (n_Endless : PySem.W.subIn K (.type "NoneType") (.ref C_Endless) = some false)
    (n_NoGrammar : PySem.W.subIn K (.type "NoneType") (.ref C_NoGrammar) = some false)
    (n_NoOrder : PySem.W.subIn K (.type "NoneType") (.ref C_NoOrder) = some false)
    (n_NoReading : PySem.W.subIn K (.type "NoneType") (.ref C_NoReading) = some false)
    (n_NoText : PySem.W.subIn K (.type "NoneType") (.ref C_NoText) = some false)
    (n_TooMany : PySem.W.subIn K (.type "NoneType") (.ref C_TooMany) = some false)
    : ∃ fd : FuncData, (∀ (s : Shared) (v : Value), BindsTo s fd ⟨[v], []⟩ [("script", v)]) ∧ ∀ base : Heap, K.In base → base.Ns mainGlobals mg → FnOk l.prog w K mg base CX0 5 fa fd P_law (spP ⟨K, l.prog, w⟩ (.last (.list .int)) .o .bool m_law) := by
  have e := hfa.symm.trans (PySem.W.mg_of X G a24)
  cases e
  have E_Endless : ErrC K mg "Endless" C_Endless := ⟨ea_Endless, PySem.W.mg_of X G ea_Endless, ek_Endless, ex_Endless, et_Endless, ⟨eg_Endless, eh_Endless, es_Endless, ed_Endless, el_Endless, eo_spec, eo_take, em_Endless⟩⟩
  have E_GroveError : ErrC K mg "GroveError" C_GroveError := ⟨ea_GroveError, PySem.W.mg_of X G ea_GroveError, ek_GroveError, ex_GroveError, et_GroveError, ⟨eg_GroveError, eh_GroveError, es_GroveError, ed_GroveError, el_GroveError, eo_spec, eo_take, em_GroveError⟩⟩
  have E_NoGrammar : ErrC K mg "NoGrammar" C_NoGrammar := ⟨ea_NoGrammar, PySem.W.mg_of X G ea_NoGrammar, ek_NoGrammar, ex_NoGrammar, et_NoGrammar, ⟨eg_NoGrammar, eh_NoGrammar, es_NoGrammar, ed_NoGrammar, el_NoGrammar, eo_spec, eo_take, em_NoGrammar⟩⟩
  have E_NoOrder : ErrC K mg "NoOrder" C_NoOrder := ⟨ea_NoOrder, PySem.W.mg_of X G ea_NoOrder, ek_NoOrder, ex_NoOrder, et_NoOrder, ⟨eg_NoOrder, eh_NoOrder, es_NoOrder, ed_NoOrder, el_NoOrder, eo_spec, eo_take, em_NoOrder⟩⟩
  have E_NoReading : ErrC K mg "NoReading" C_NoReading := ⟨ea_NoReading, PySem.W.mg_of X G ea_NoReading, ek_NoReading, ex_NoReading, et_NoReading, ⟨eg_NoReading, eh_NoReading, es_NoReading, ed_NoReading, el_NoReading, eo_spec, eo_take, em_NoReading⟩⟩
  have E_NoText : ErrC K mg "NoText" C_NoText := ⟨ea_NoText, PySem.W.mg_of X G ea_NoText, ek_NoText, ex_NoText, et_NoText, ⟨eg_NoText, eh_NoText, es_NoText, ed_NoText, el_NoText, eo_spec, eo_take, em_NoText⟩⟩
  have E_TooMany : ErrC K mg "TooMany" C_TooMany := ⟨ea_TooMany, PySem.W.mg_of X G ea_TooMany, ek_TooMany, ex_TooMany, et_TooMany, ⟨eg_TooMany, eh_TooMany, es_TooMany, ed_TooMany, el_TooMany, eo_spec, eo_take, em_TooMany⟩⟩
  have T : Txt K mg := ⟨PySem.W.mg_none_of X G b_ValueError, PySem.W.mg_none_of X G b_all, PySem.W.mg_none_of X G b_int, PySem.W.mg_none_of X G b_isinstance, PySem.W.mg_none_of X G b_len, PySem.W.mg_none_of X G b_list, PySem.W.mg_none_of X G b_range, PySem.W.mg_none_of X G b_str, PySem.W.mg_none_of X G b_tuple, ⟨_, PySem.W.mg_of X G c_FIGURES⟩, ⟨_, PySem.W.mg_of X G c_GREAT_grammars⟩, ⟨_, PySem.W.mg_of X G c_GREAT_texts⟩, ⟨_, PySem.W.mg_of X G c_LONGEST⟩, ⟨_, PySem.W.mg_of X G c_MOST_FIGURES⟩, ⟨_, PySem.W.mg_of X G c_SMALL⟩, ⟨_, E_Endless⟩, ⟨_, E_GroveError⟩, ⟨_, E_NoGrammar⟩, ⟨_, E_NoOrder⟩, ⟨_, E_NoReading⟩, ⟨_, E_NoText⟩, ⟨_, E_TooMany⟩, ⟨_, _, ea_NoGrammar, ea_Endless, i_NoGrammar_Endless, .inr q_NoGrammar_Endless⟩, ⟨_, _, ea_NoGrammar, ea_GroveError, i_NoGrammar_GroveError, .inl rfl⟩, ⟨_, _, ea_NoGrammar, ea_NoGrammar, i_NoGrammar_NoGrammar, .inl rfl⟩, ⟨_, _, ea_NoGrammar, ea_NoOrder, i_NoGrammar_NoOrder, .inr q_NoGrammar_NoOrder⟩, ⟨_, _, ea_NoGrammar, ea_NoReading, i_NoGrammar_NoReading, .inr q_NoGrammar_NoReading⟩, ⟨_, _, ea_NoGrammar, ea_NoText, i_NoGrammar_NoText, .inr q_NoGrammar_NoText⟩, ⟨_, _, ea_NoGrammar, ea_TooMany, i_NoGrammar_TooMany, .inr q_NoGrammar_TooMany⟩, ⟨_, _, ea_NoText, ea_Endless, i_NoText_Endless, .inr q_NoText_Endless⟩, ⟨_, _, ea_NoText, ea_GroveError, i_NoText_GroveError, .inl rfl⟩, ⟨_, _, ea_NoText, ea_NoGrammar, i_NoText_NoGrammar, .inr q_NoText_NoGrammar⟩, ⟨_, _, ea_NoText, ea_NoOrder, i_NoText_NoOrder, .inr q_NoText_NoOrder⟩, ⟨_, _, ea_NoText, ea_NoReading, i_NoText_NoReading, .inr q_NoText_NoReading⟩, ⟨_, _, ea_NoText, ea_NoText, i_NoText_NoText, .inl rfl⟩, ⟨_, _, ea_NoText, ea_TooMany, i_NoText_TooMany, .inr q_NoText_TooMany⟩, ⟨_, ea_NoGrammar, j_NoGrammar_ValueError⟩, ⟨_, ea_NoText, j_NoText_ValueError⟩, (by have z := (show ∃ C, ErrC K mg "Endless" C from ⟨_, E_Endless⟩).choose_spec.ns.inj ea_Endless; rw [z]; exact n_Endless), (by have z := (show ∃ C, ErrC K mg "NoGrammar" C from ⟨_, E_NoGrammar⟩).choose_spec.ns.inj ea_NoGrammar; rw [z]; exact n_NoGrammar), (by have z := (show ∃ C, ErrC K mg "NoOrder" C from ⟨_, E_NoOrder⟩).choose_spec.ns.inj ea_NoOrder; rw [z]; exact n_NoOrder), (by have z := (show ∃ C, ErrC K mg "NoReading" C from ⟨_, E_NoReading⟩).choose_spec.ns.inj ea_NoReading; rw [z]; exact n_NoReading), (by have z := (show ∃ C, ErrC K mg "NoText" C from ⟨_, E_NoText⟩).choose_spec.ns.inj ea_NoText; rw [z]; exact n_NoText), (by have z := (show ∃ C, ErrC K mg "TooMany" C from ⟨_, E_TooMany⟩).choose_spec.ns.inj ea_TooMany; rw [z]; exact n_TooMany)⟩
  have F0 := fun_mk (x := "_law_cell_at") (qual := "_law_cell_at") (st := s__law_cell_at) l0 c0 k0
  have b0 := F0.binds (ps := P__law_cell_at) fun _ _ _ _ _ _ us hl => match us, hl with | [_, _], _ => rfl
  have D0 : Df K mg "_law_cell_at" "_law_cell_at" s__law_cell_at P__law_cell_at f0 _ := ⟨F0, PySem.W.mg_of X G a0, b0⟩
  have F1 := fun_mk (x := "_law_shown") (qual := "_law_shown") (st := s__law_shown) l1 c1 k1
  have b1 := F1.binds (ps := P__law_shown) fun _ _ _ _ _ _ us hl => match us, hl with | [_], _ => rfl
  have D1 : Df K mg "_law_shown" "_law_shown" s__law_shown P__law_shown f1 _ := ⟨F1, PySem.W.mg_of X G a1, b1⟩
  have F2 := fun_mk (x := "_law_heads") (qual := "_law_heads") (st := s__law_heads) l2 c2 k2
  have b2 := F2.binds (ps := P__law_heads) fun _ _ _ _ _ _ us hl => match us, hl with | [_], _ => rfl
  have D2 : Df K mg "_law_heads" "_law_heads" s__law_heads P__law_heads f2 _ := ⟨F2, PySem.W.mg_of X G a2, b2⟩
  have F3 := fun_mk (x := "_law_word") (qual := "_law_word") (st := s__law_word) l3 c3 k3
  have b3 := F3.binds (ps := P__law_word) fun _ _ _ _ _ _ us hl => match us, hl with | [_], _ => rfl
  have D3 : Df K mg "_law_word" "_law_word" s__law_word P__law_word f3 _ := ⟨F3, PySem.W.mg_of X G a3, b3⟩
  have F4 := fun_mk (x := "_law_rule") (qual := "_law_rule") (st := s__law_rule) l4 c4 k4
  have b4 := F4.binds (ps := P__law_rule) fun _ _ _ _ _ _ us hl => match us, hl with | [_, _, _], _ => rfl
  have D4 : Df K mg "_law_rule" "_law_rule" s__law_rule P__law_rule f4 _ := ⟨F4, PySem.W.mg_of X G a4, b4⟩
  have F5 := fun_mk (x := "_law_rules") (qual := "_law_rules") (st := s__law_rules) l5 c5 k5
  have b5 := F5.binds (ps := P__law_rules) fun _ _ _ _ _ _ us hl => match us, hl with | [_], _ => rfl
  have D5 : Df K mg "_law_rules" "_law_rules" s__law_rules P__law_rules f5 _ := ⟨F5, PySem.W.mg_of X G a5, b5⟩
  have F6 := fun_mk (x := "_law_odd") (qual := "_law_odd") (st := s__law_odd) l6 c6 k6
  have b6 := F6.binds (ps := P__law_odd) fun _ _ _ _ _ _ us hl => match us, hl with | [_], _ => rfl
  have D6 : Df K mg "_law_odd" "_law_odd" s__law_odd P__law_odd f6 _ := ⟨F6, PySem.W.mg_of X G a6, b6⟩
  have F7 := fun_mk (x := "_law_long") (qual := "_law_long") (st := s__law_long) l7 c7 k7
  have b7 := F7.binds (ps := P__law_long) fun _ _ _ _ _ _ us hl => match us, hl with | [_], _ => rfl
  have D7 : Df K mg "_law_long" "_law_long" s__law_long P__law_long f7 _ := ⟨F7, PySem.W.mg_of X G a7, b7⟩
  have F8 := fun_mk (x := "_law_text") (qual := "_law_text") (st := s__law_text) l8 c8 k8
  have b8 := F8.binds (ps := P__law_text) fun _ _ _ _ _ _ us hl => match us, hl with | [_], _ => rfl
  have D8 : Df K mg "_law_text" "_law_text" s__law_text P__law_text f8 _ := ⟨F8, PySem.W.mg_of X G a8, b8⟩
  have F9 := fun_mk (x := "_law_of") (qual := "_law_of") (st := s__law_of) l9 c9 k9
  have b9 := F9.binds (ps := P__law_of) fun _ _ _ _ _ _ us hl => match us, hl with | [_, _, _], _ => rfl
  have D9 : Df K mg "_law_of" "_law_of" s__law_of P__law_of f9 _ := ⟨F9, PySem.W.mg_of X G a9, b9⟩
  have F10 := fun_mk (x := "_law_is_head") (qual := "_law_is_head") (st := s__law_is_head) l10 c10 k10
  have b10 := F10.binds (ps := P__law_is_head) fun _ _ _ _ _ _ us hl => match us, hl with | [_], _ => rfl
  have D10 : Df K mg "_law_is_head" "_law_is_head" s__law_is_head P__law_is_head f10 _ := ⟨F10, PySem.W.mg_of X G a10, b10⟩
  have F11 := fun_mk (x := "_law_row") (qual := "_law_row") (st := s__law_row) l11 c11 k11
  have b11 := F11.binds (ps := P__law_row) fun _ _ _ _ _ _ us hl => match us, hl with | [_], _ => rfl
  have D11 : Df K mg "_law_row" "_law_row" s__law_row P__law_row f11 _ := ⟨F11, PySem.W.mg_of X G a11, b11⟩
  have F12 := fun_mk (x := "_law_due") (qual := "_law_due") (st := s__law_due) l12 c12 k12
  have b12 := F12.binds (ps := P__law_due) fun _ _ _ _ _ _ us hl => match us, hl with | [_], _ => rfl
  have D12 : Df K mg "_law_due" "_law_due" s__law_due P__law_due f12 _ := ⟨F12, PySem.W.mg_of X G a12, b12⟩
  have F13 := fun_mk (x := "names") (qual := "names") (st := s_names) l13 c13 k13
  have b13 := F13.binds (ps := P_names) fun _ _ _ _ _ _ us hl => match us, hl with | [_], _ => rfl
  have D13 : Df K mg "names" "names" s_names P_names f13 _ := ⟨F13, PySem.W.mg_of X G a13, b13⟩
  have F14 := fun_mk (x := "is_name") (qual := "is_name") (st := s_is_name) l14 c14 k14
  have b14 := F14.binds (ps := P_is_name) fun _ _ _ _ _ _ us hl => match us, hl with | [_], _ => rfl
  have D14 : Df K mg "is_name" "is_name" s_is_name P_is_name f14 _ := ⟨F14, PySem.W.mg_of X G a14, b14⟩
  have F15 := fun_mk (x := "grammar_of") (qual := "grammar_of") (st := s_grammar_of) l15 c15 k15
  have b15 := F15.binds (ps := P_grammar_of) fun _ _ _ _ _ _ us hl => match us, hl with | [_], _ => rfl
  have D15 : Df K mg "grammar_of" "grammar_of" s_grammar_of P_grammar_of f15 _ := ⟨F15, PySem.W.mg_of X G a15, b15⟩
  have F16 := fun_mk (x := "cost_of") (qual := "cost_of") (st := s_cost_of) l16 c16 k16
  have b16 := F16.binds (ps := P_cost_of) fun _ _ _ _ _ _ us hl => match us, hl with | [_], _ => rfl
  have D16 : Df K mg "cost_of" "cost_of" s_cost_of P_cost_of f16 _ := ⟨F16, PySem.W.mg_of X G a16, b16⟩
  have F17 := fun_mk (x := "made_of") (qual := "made_of") (st := s_made_of) l17 c17 k17
  have b17 := F17.binds (ps := P_made_of) fun _ _ _ _ _ _ us hl => match us, hl with | [_, _], _ => rfl
  have D17 : Df K mg "made_of" "made_of" s_made_of P_made_of f17 _ := ⟨F17, PySem.W.mg_of X G a17, b17⟩
  have F18 := fun_mk (x := "is_name_text") (qual := "is_name_text") (st := s_is_name_text) l18 c18 k18
  have b18 := F18.binds (ps := P_is_name_text) fun _ _ _ _ _ _ us hl => match us, hl with | [_], _ => rfl
  have D18 : Df K mg "is_name_text" "is_name_text" s_is_name_text P_is_name_text f18 _ := ⟨F18, PySem.W.mg_of X G a18, b18⟩
  have F19 := fun_mk (x := "read_rule") (qual := "read_rule") (st := s_read_rule) l19 c19 k19
  have b19 := F19.binds (ps := P_read_rule) fun _ _ _ _ _ _ us hl => match us, hl with | [_], _ => rfl
  have D19 : Df K mg "read_rule" "read_rule" s_read_rule P_read_rule f19 _ := ⟨F19, PySem.W.mg_of X G a19, b19⟩
  have F20 := fun_mk (x := "read_grammar") (qual := "read_grammar") (st := s_read_grammar) l20 c20 k20
  have b20 := F20.binds (ps := P_read_grammar) fun _ _ _ _ _ _ us hl => match us, hl with | [_], _ => rfl
  have D20 : Df K mg "read_grammar" "read_grammar" s_read_grammar P_read_grammar f20 _ := ⟨F20, PySem.W.mg_of X G a20, b20⟩
  have F21 := fun_mk (x := "_law_kinds") (qual := "_law_kinds") (st := s__law_kinds) l21 c21 k21
  have b21 := F21.binds (ps := P__law_kinds) fun _ _ _ _ _ _ us hl => match us, hl with | [_], _ => rfl
  have D21 : Df K mg "_law_kinds" "_law_kinds" s__law_kinds P__law_kinds f21 _ := ⟨F21, PySem.W.mg_of X G a21, b21⟩
  have F22 := fun_mk (x := "shown_rule") (qual := "shown_rule") (st := s_shown_rule) l22 c22 k22
  have b22 := F22.binds (ps := P_shown_rule) fun _ _ _ _ _ _ us hl => match us, hl with | [_], _ => rfl
  have D22 : Df K mg "shown_rule" "shown_rule" s_shown_rule P_shown_rule f22 _ := ⟨F22, PySem.W.mg_of X G a22, b22⟩
  have F23 := fun_mk (x := "shown_grammar") (qual := "shown_grammar") (st := s_shown_grammar) l23 c23 k23
  have b23 := F23.binds (ps := P_shown_grammar) fun _ _ _ _ _ _ us hl => match us, hl with | [_], _ => rfl
  have D23 : Df K mg "shown_grammar" "shown_grammar" s_shown_grammar P_shown_grammar f23 _ := ⟨F23, PySem.W.mg_of X G a23, b23⟩
  have F24 := fun_mk (x := "law") (qual := "law") (st := s_law) l24 c24 k24
  have b24 := F24.binds (ps := P_law) fun _ _ _ _ _ _ us hl => match us, hl with | [_], _ => rfl
  refine ⟨PySem.W.fnOf "law" "law" (defArgs s_law) (defBody s_law) (defScope s_law) .none kV24 dc24 pm24 an24 cd24 ct24, fun s v => .of_eq rfl, fun base _ _ => ?_⟩
  have G0 := ok__law_cell_at (K := ⟨K, l.prog, w⟩) (base := base) F0 T 
  have G1 := ok__law_shown (K := ⟨K, l.prog, w⟩) (base := base) F1 T 
  have G2 := ok__law_heads (K := ⟨K, l.prog, w⟩) (base := base) F2 T 
  have G3 := ok__law_word (K := ⟨K, l.prog, w⟩) (base := base) F3 T 
  have G4 := ok__law_rule (K := ⟨K, l.prog, w⟩) (base := base) F4 T D3 G3
  have G5 := ok__law_rules (K := ⟨K, l.prog, w⟩) (base := base) F5 T D2 G2 D0 G0 D4 G4
  have G6 := ok__law_odd (K := ⟨K, l.prog, w⟩) (base := base) F6 T 
  have G7 := ok__law_long (K := ⟨K, l.prog, w⟩) (base := base) F7 T 
  have G8 := ok__law_text (K := ⟨K, l.prog, w⟩) (base := base) F8 T D1 G1 D5 G5 D0 G0 D6 G6 D7 G7
  have G9 := ok__law_of (K := ⟨K, l.prog, w⟩) (base := base) F9 T 
  have G10 := ok__law_is_head (K := ⟨K, l.prog, w⟩) (base := base) F10 T D9 G9
  have G11 := ok__law_row (K := ⟨K, l.prog, w⟩) (base := base) F11 T D9 G9 D10 G10
  have G12 := ok__law_due (K := ⟨K, l.prog, w⟩) (base := base) F12 T D11 G11 D10 G10
  have G13 := ok_names (K := ⟨K, l.prog, w⟩) (base := base) F13 T 
  have G14 := ok_is_name (K := ⟨K, l.prog, w⟩) (base := base) F14 T 
  have G15 := ok_grammar_of (K := ⟨K, l.prog, w⟩) (base := base) F15 T D13 G13 D14 G14
  have G16 := ok_cost_of (K := ⟨K, l.prog, w⟩) (base := base) F16 T 
  have G17 := ok_made_of (K := ⟨K, l.prog, w⟩) (base := base) F17 T 
  have G18 := ok_is_name_text (K := ⟨K, l.prog, w⟩) (base := base) F18 T D17 G17
  have G19 := ok_read_rule (K := ⟨K, l.prog, w⟩) (base := base) F19 T D16 G16 D18 G18 D17 G17
  have G20 := ok_read_grammar (K := ⟨K, l.prog, w⟩) (base := base) F20 T D15 G15 D19 G19
  have G21 := ok__law_kinds (K := ⟨K, l.prog, w⟩) (base := base) F21 T 
  have G22 := ok_shown_rule (K := ⟨K, l.prog, w⟩) (base := base) F22 T 
  have G23 := ok_shown_grammar (K := ⟨K, l.prog, w⟩) (base := base) F23 T D22 G22
  exact ok_law (K := ⟨K, l.prog, w⟩) F24 T D8 G8 D20 G20 D12 G12 D23 G23 D21 G21
theorem walk {l : PySem.W.OpenLaw} {q : Program} {loose : List Str} {XP : (Str → Option Value) → Heap → Prop} {YP : World → Heap → Prop} {d : DefRec} {K : Params → PySem.W.Frag} (hlaw : ∀ ns : List Int, ns.length ≤ 63 → m_law ns = some true) (hn : l.most = some 63) (hdf : d.params.defaults = [])
    (hY : ∀ (w : World) (h : Heap), YP w h → (K w.params).In h)
    (F : ∀ (w : World) (mg : Str → Option Value) (fa : Addr) (h : Heap), (K w.params).In h → h.Ns mainGlobals mg → mg d.name = some (.ref fa) →
      ∃ fd : FuncData, (∀ (s : Shared) (u : Value), BindsTo s fd ⟨[u], []⟩ [("script", u)]) ∧ ∀ base : Heap, (K w.params).In base → base.Ns mainGlobals mg → FnOk l.prog w (K w.params) mg base CX0 5 fa fd ["script"] (spP ⟨K w.params, l.prog, w⟩ (.last (.list .int)) .o .bool m_law)) :
    PySem.W.WalkO q loose XP YP l.row.toRowW d [] (fun f vs => PySem.call f vs) :=
  L2.walk_of (n := 63) (k := 5) (x := "script") (CX := fun _ => CX0) (sp := fun w => spP ⟨K w.params, l.prog, w⟩ (.last (.list .int)) .o .bool m_law) hn (by decide) hdf ⟨rfl, by decide, by decide⟩ hY F (fun _ _ a ns hl _ hS => law_sp hlaw hl hS) fun _ _ _ _ _ z => z
end Law
namespace Law
open PySem L2 VV
local macro_rules | `(tactic| walk_at "run") => `(tactic| simp (config := {implicitDefEqProofs := false}) only [Gam.mask, reduceIte, runG, iniG, noneG, sNext, sSeq, sSet, sLst, sLput, sExt, sAsgE, ePop, sPut, sPutN, sDApp, sIf, sRet, sRetM, sMove, sApp, sAsg, sUnl, bCons, eNot, bindAll, bName, bCons, e1, e2, e3, eV, fAll, fAny, fSum, eYes, eChain, fShr, fAnd, eC, eNil, eCons, eSnoc, eAnd, eOr, eNot, eIf, eProj, RIx.get, Mem.get, Mem.set, Option.bind_some, Option.bind_none, okIf, fAdd, fSub, fMul, fDiv, fMod, fPow, fLt, fLe, fGt, fGe, fEqI, fNeI, fEqS, fNeS, fEqB, fNeB, fLen, fSmall, fCutL, endOf, if_true, if_false, Bool.false_eq_true, true_and, and_true, Option.isSome_none, Option.isSome_some, decide_true, decide_false, List.length_nil, List.length_cons, Nat.zero_le, Bool.not_true, Bool.not_false])
local macro_rules | `(tactic| walk_at "go") => `(tactic| simp (config := {implicitDefEqProofs := false}) only [Gam.mask, reduceIte, runG, iniG, noneG, sNext, sSeq, sSet, sLst, sLput, sExt, sAsgE, ePop, sPut, sPutN, sDApp, sIf, sRet, sRetM, sMove, sApp, sAsg, sUnl, bCons, eNot, bindAll, bName, bCons, e1, e2, e3, eV, fAll, fAny, fSum, eYes, eChain, fShr, fAnd, eC, eNil, eCons, eSnoc, eAnd, eOr, eNot, eIf, eProj, RIx.get, Mem.get, Mem.set, Option.bind_some, Option.bind_none, okIf, fAdd, fSub, fMul, fDiv, fMod, fPow, fLt, fLe, fGt, fGe, fEqI, fNeI, fEqS, fNeS, fEqB, fNeB, fLen, fSmall, fCutL, endOf, if_true, if_false, Bool.false_eq_true, true_and, and_true, Option.isSome_none, Option.isSome_some, decide_true, decide_false, List.length_nil, List.length_cons, Nat.zero_le, Bool.not_true, Bool.not_false, List.length_nil, Nat.zero_add, Nat.reduceAdd, Nat.reduceLeDiff, Int.reduceLT, Int.reduceLE, Int.reduceEq, Nat.reduceEqDiff, Int.reduceNeg, *])
local macro_rules | `(tactic| walk_at "w") => `(tactic| simp (config := {implicitDefEqProofs := false, dsimp := false}) only [↓Ok_sDpop, ↓Ok_eC, ↓Ok_eNil, ↓Ok_eYes, ↓Ok_eV, ↓Ok_e1, ↓Ok_e2, ↓Ok_e3, ↓Ok_eNot, ↓Ok_eAnd, ↓Ok_eOr, ↓Ok_eIf, ↓Ok_eCons, ↓Ok_eSnoc, ↓Ok_eProj, ↓Ok_eChain, ↓Ok_eChain3, ↓Ok_ePure, ↓Ok_eConsE, ↓Ok_eX1, ↓Ok_eX2, ↓Ok_eX3, ↓Ok_eXProj, ↓Ok_eXAnd, ↓Ok_eXOr, ↓Ok_eXNot, ↓Ok_eXSnoc, ↓Ok_eSomeE, ↓Ok_eIfE, ↓Ok_eMove, ↓Ok_ePop, ↓Ok_ePop0, ↓Ok_ePopH, ↓Ok_eIO, ↓Ok_eIO1, ↓Ok_eIOz, ↓Ok_eScope, ↓Ok_eIO2, ↓Ok_eIO2t, ↓Ok_sNext, ↓Ok_sBreak, ↓Ok_sCont, ↓Ok_sNever, ↓Ok_sIf, ↓Ok_sIfE, ↓Ok_sRet, ↓Ok_sRetE, ↓Ok_sAsg, ↓Ok_sAsgE, ↓Ok_sDrop, ↓Ok_sUnl, ↓Ok_sRetM, ↓Ok_sSet, ↓Ok_sSetX, ↓Ok_sMove, ↓Ok_sLst, ↓Ok_sApp, ↓Ok_sAppE, ↓Ok_sExt, ↓Ok_sLput, ↓Ok_sLputX, ↓Ok_sDputX, ↓Ok_sScope, ↓Ok_sHput, ↓Ok_sPut, ↓Ok_sPutN, ↓Ok_sPutR, ↓Ok_sDApp, ↓Ok_sAlApp, ↓Ok_gSetd, ↓Ok_gGet, ↓Ok_sRaise, ↓Ok_sLift, ↓Ok_eSomeR, ↓Ok_sSetR, ↓Ok_sDropR, ↓Ok_sTry, ↓Ok_cOne, ↓Ok_cTup, ↓Ok_cAs, ↓Ok_sSeq, ↓Ok_endOf, ↓Ok_endIO, ↓Ok_endIO2, ↓Ok_sPub, ↓Ok_sAls, ExcQ_none, ExcQ_some, TryQ_nx, TryQ_bk, TryQ_ct, TryQ_none, TryQ_some, at_self, Fl.lift, Fl.off, noExc, fIsE, Option.map_some, Option.map_none, Ok_some, Ok_none, Ok_bind, Ok_okIf, Ok_guard, Ok_ite, Ok_map, Wif_true, Wif_false, Turn_nx, Turn_ct, Turn_bk, Turn_rt, SeqQ_nx, SeqQ_bk, SeqQ_ct, SeqQ_rt, EndQ_rt, EndQ_nx, EndIO_rt, EndIO_nx, EndIO2_rt, EndIO2_nx, PubQ_nx, PubQ_bk, PubQ_ct, PubQ_rt, AlQ_nx, AlQ_bk, AlQ_ct, AlQ_rt, alEnd, flMask, RIx.put, RIx.get, Gam.mask, reduceIte, bCons, bName, bindAll, Mem.get, Mem.set, fAdd, fSub, fMul, fDiv, fMod, fPow, fShr, fAnd, fLt, fLe, fGt, fGe, fEqI, fNeI, fEqS, fNeS, fEqB, fNeB, fLen, fSmall, fCutL, fCatL, fAll, fAny, fSum, fOne, if_true, if_false, Bool.false_eq_true, true_and, and_true, eq_self, Option.isSome_none, Option.isSome_some, Option.isNone_none, Option.isNone_some, decide_true, decide_false, List.length_nil, List.length_cons, Nat.zero_le, Bool.not_true, Bool.not_false, Bool.true_and, Bool.false_and, Bool.and_true, Bool.and_false, Bool.true_or, Bool.false_or, Nat.zero_add, Nat.reduceAdd, Nat.reduceLeDiff])
local macro_rules | `(tactic| walk_at "ws") => `(tactic| simp (config := {implicitDefEqProofs := false, dsimp := false}) only [↓Ok_sDpop, ↓Ok_eC, ↓Ok_eNil, ↓Ok_eYes, ↓Ok_eV, ↓Ok_e1, ↓Ok_e2, ↓Ok_e3, ↓Ok_eNot, ↓Ok_eAnd, ↓Ok_eOr, ↓Ok_eIf, ↓Ok_eCons, ↓Ok_eSnoc, ↓Ok_eProj, ↓Ok_eChain, ↓Ok_eChain3, ↓Ok_ePure, ↓Ok_eConsE, ↓Ok_eX1, ↓Ok_eX2, ↓Ok_eX3, ↓Ok_eXProj, ↓Ok_eXAnd, ↓Ok_eXOr, ↓Ok_eXNot, ↓Ok_eXSnoc, ↓Ok_eSomeE, ↓Ok_eIfE, ↓Ok_eMove, ↓Ok_ePop, ↓Ok_ePop0, ↓Ok_ePopH, ↓Ok_eIO, ↓Ok_eIO1, ↓Ok_eIOz, ↓Ok_eScope, ↓Ok_eIO2, ↓Ok_eIO2t, ↓Ok_sNext, ↓Ok_sBreak, ↓Ok_sCont, ↓Ok_sNever, ↓Ok_sIf, ↓Ok_sIfE, ↓Ok_sRet, ↓Ok_sRetE, ↓Ok_sAsg, ↓Ok_sAsgE, ↓Ok_sDrop, ↓Ok_sUnl, ↓Ok_sRetM, ↓Ok_sSet, ↓Ok_sSetX, ↓Ok_sMove, ↓Ok_sLst, ↓Ok_sApp, ↓Ok_sAppE, ↓Ok_sExt, ↓Ok_sLput, ↓Ok_sLputX, ↓Ok_sDputX, ↓Ok_sScope, ↓Ok_sHput, ↓Ok_sPut, ↓Ok_sPutN, ↓Ok_sPutR, ↓Ok_sDApp, ↓Ok_sAlApp, ↓Ok_gSetd, ↓Ok_gGet, ↓Ok_sRaise, ↓Ok_sLift, ↓Ok_eSomeR, ↓Ok_sSetR, ↓Ok_sDropR, ↓Ok_sTry, ↓Ok_cOne, ↓Ok_cTup, ↓Ok_cAs, ↓Ok_sSeq, ↓Ok_endOf, ↓Ok_endIO, ↓Ok_endIO2, ↓Ok_sPub, ↓Ok_sAls, ExcQ_none, ExcQ_some, TryQ_nx, TryQ_bk, TryQ_ct, TryQ_none, TryQ_some, at_self, Fl.lift, Fl.off, noExc, fIsE, Option.map_some, Option.map_none, Ok_some, Ok_none, Ok_bind, Ok_okIf, Ok_guard, Ok_ite, Ok_map, Wif_true, Wif_false, Turn_nx, Turn_ct, Turn_bk, Turn_rt, SeqQ_nx, SeqQ_bk, SeqQ_ct, SeqQ_rt, EndQ_rt, EndQ_nx, EndIO_rt, EndIO_nx, EndIO2_rt, EndIO2_nx, PubQ_nx, PubQ_bk, PubQ_ct, PubQ_rt, AlQ_nx, AlQ_bk, AlQ_ct, AlQ_rt, alEnd, flMask, RIx.put, RIx.get, Gam.mask, reduceIte, bCons, bName, bindAll, Mem.get, Mem.set, fAdd, fSub, fMul, fDiv, fMod, fPow, fShr, fAnd, fLt, fLe, fGt, fGe, fEqI, fNeI, fEqS, fNeS, fEqB, fNeB, fLen, fSmall, fCutL, fCatL, fAll, fAny, fSum, fOne, if_true, if_false, Bool.false_eq_true, true_and, and_true, eq_self, Option.isSome_none, Option.isSome_some, Option.isNone_none, Option.isNone_some, decide_true, decide_false, List.length_nil, List.length_cons, Nat.zero_le, Bool.not_true, Bool.not_false, Bool.true_and, Bool.false_and, Bool.and_true, Bool.and_false, Bool.true_or, Bool.false_or, Nat.zero_add, Nat.reduceAdd, Nat.reduceLeDiff, *])
abbrev smallS : Str := Str.ofString "abcdefghijklmnopqrstuvwxyz"
abbrev greatS : Str := Str.ofString "ABCDEFGHIJKLMNOPQRSTUVWXYZ"
theorem small_strok : PyData.strOk smallS = true := by decide +kernel
theorem great_strok : PyData.strOk greatS = true := by decide +kernel
theorem len_cat (a b : Str) : (a ++ b).length = a.length + b.length := Array.size_append
theorem cps_cat (a b : Str) : (a ++ b).cps.toList = a.cps.toList ++ b.cps.toList := Array.toList_append
theorem str_len (x : Str) : x.cps.toList.length = x.length := rfl
def Of (a x : Str) : Prop := ∀ c ∈ x.cps.toList, c ∈ a.cps.toList
theorem Of.ok {a x : Str} (h : Of a x) (ha : PyData.strOk a = true) : PyData.strOk x = true := by
  unfold PyData.strOk at ha ⊢
  rw [Array.all_eq_true'] at ha ⊢
  exact fun c hc => ha c (by simpa using h c (by simpa using hc))
theorem Of.cat {a x y : Str} (h : Of a x) (h' : Of a y) : Of a (x ++ y) := fun c hc => by
  rw [cps_cat] at hc
  exact (List.mem_append.mp hc).elim (h c) (h' c)
def HeadIn (a t : Str) : Prop := ∃ c r, t.cps.toList = c :: r ∧ c ∈ a.cps.toList
theorem HeadIn.cat {a t : Str} (h : HeadIn a t) (u : Str) : HeadIn a (t ++ u) := by
  obtain ⟨c, r, e, m⟩ := h
  exact ⟨c, r ++ u.cps.toList, by rw [cps_cat, e]; rfl, m⟩
theorem head_of {a t : Str} (h : Of a t) (hl : 0 < t.length) : HeadIn a t := by
  cases e : t.cps.toList with
  | nil =>
    have : t.cps.toList.length = 0 := by rw [e]; rfl
    rw [str_len] at this
    omega
  | cons c r => exact ⟨c, r, e, h c (by rw [e]; exact List.mem_cons_self)⟩
theorem small_not_great {c : Nat} (h : c ∈ smallS.cps.toList) : ¬ c ∈ greatS.cps.toList := by
  have : ∀ c ∈ smallS.cps.toList, c ∉ greatS.cps.toList := by decide +kernel
  exact this c h
theorem is_name_cons (x : Str) (c : Nat) (r : List Nat) (hx : x.cps.toList = c :: r) (hl : x.length ≤ 100000) : m_is_name x = some (decide (c ∈ greatS.cps.toList)) := by
  have hne : decide (x = Str.ofString "") = false := by
    refine decide_eq_false fun h => ?_
    rw [h] at hx
    cases hx
  have hix : fIxS x 0 = some ⟨#[c]⟩ := by
    unfold fIxS
    rw [if_pos (lenOk_le hl), hx]
    have : atI (c :: r) ((0 : Nat) : Int) = some c := atI_nat rfl
    rw [show (0 : Int) = ((0 : Nat) : Int) from rfl, this]
    rfl
  rw [m_is_name_at]
  unfold b_is_name
  walk_at "run"
  simp (config := {implicitDefEqProofs := false}) only [hne, Bool.not_false, Bool.not_true, if_true, hix, Option.bind_some, fInS_one]
theorem is_name_great {x : Str} (h : HeadIn greatS x) (hl : x.length ≤ 100000) : m_is_name x = some true := by
  obtain ⟨c, r, e, m⟩ := h
  rw [is_name_cons x c r e hl, decide_eq_true m]
theorem is_name_small {x : Str} (h : HeadIn smallS x) (hl : x.length ≤ 100000) : m_is_name x = some false := by
  obtain ⟨c, r, e, m⟩ := h
  rw [is_name_cons x c r e hl, decide_eq_false (small_not_great m)]
theorem num_len {k n : Nat} (hk : 1 ≤ k) (h : n < 10 ^ k) : (Str.ofString (toString ((n : Nat) : Int))).length ≤ k := by
  rw [show ((n : Nat) : Int) = Int.ofNat n from rfl, PyProof.Rows.text_ofNat, ← str_len]
  show (List.map Char.toNat (Nat.toDigits 10 n)).length ≤ k
  rw [List.length_map]
  exact PyProof.Rows.digits10_le hk h
theorem foldRep_list (c : Nat) : ∀ (n : Nat) (acc : Array Nat), (List.foldl (fun x1 x2 => x1 ++ x2) acc (List.replicate n #[c])).toList = acc.toList ++ List.replicate n c
  | 0, acc => by simp
  | n + 1, acc => by
    rw [List.replicate_succ, List.foldl_cons, foldRep_list c n, Array.toList_append, List.replicate_succ]
    simp
theorem rep_one (c n : Nat) : (repS ⟨#[c]⟩ (n : Int)).cps.toList = List.replicate n c := by
  unfold repS
  by_cases h : n = 0
  · subst h
    rfl
  · rw [if_neg (by omega)]
    by_cases h1 : n = 1
    · subst h1
      rfl
    · rw [if_neg]
      · show (List.foldl (fun x1 x2 => x1 ++ x2) #[] (List.replicate (n : Int).toNat #[c])).toList = _
        rw [foldRep_list]
        rfl
      · rw [Bool.or_eq_true, beq_iff_eq, beq_iff_eq]
        rintro (h2 | h2)
        · omega
        · cases h2
theorem repS_ok {a : Str} {c : Nat} (ha : PyData.strOk a = true) (hc : c ∈ a.cps.toList) (n : Nat) (hn : n ≤ 1000) : ∃ t, fRepS ⟨#[c]⟩ (n : Int) = some t ∧ t.length = n ∧ Of a t := by
  have h1 := rep_one c n
  have h2 : Of a (repS ⟨#[c]⟩ (n : Int)) := fun x hx => by
    rw [h1] at hx
    rw [(List.mem_replicate.mp hx).2]
    exact hc
  refine ⟨repS ⟨#[c]⟩ (n : Int), okIf_true ?_, ?_, h2⟩
  · rw [Bool.and_eq_true]
    refine ⟨decide_eq_true ⟨by omega, by omega, ?_⟩, h2.ok ha⟩
    show 1 * _ ≤ _
    rw [sizeLine_eq]
    simp
    omega
  · rw [← str_len, h1, List.length_replicate]
theorem cat_len {x y : Str} (h : x.length + y.length ≤ 100000) : fCat x y = some (x ++ y) := okIf_true (lenOk_le h)
theorem lt_line {n : Nat} (h : n ≤ 100000) : n < sizeLine := by
  rw [sizeLine_eq]
  omega
theorem catL_ok {α : Type} {a b : List α} (h : a.length + b.length ≤ 100000) : fCatL a b = some (a ++ b) := okIf_true (lenOk_le h)
abbrev RuleT : Type := Str × List Str × Int
def uniq (xs : List Str) : List Str := xs.foldl (fun acc x => if x ∈ acc then acc else acc ++ [x]) []
theorem uniq_snoc (p : List Str) (x : Str) : uniq (p ++ [x]) = if x ∈ uniq p then uniq p else uniq p ++ [x] := by
  unfold uniq
  rw [List.foldl_append]
  rfl
theorem rev_ind {α : Type} {P : List α → Prop} (h0 : P []) (hs : ∀ p x, P p → P (p ++ [x])) (xs : List α) : P xs := by
  have : ∀ ys : List α, P ys.reverse := fun ys => by
    induction ys with
    | nil => exact h0
    | cons y ys ih =>
      rw [List.reverse_cons]
      exact hs _ _ ih
  have := this xs.reverse
  rw [List.reverse_reverse] at this
  exact this
theorem uniq_mem (xs : List Str) : ∀ x, x ∈ uniq xs ↔ x ∈ xs := by
  refine rev_ind (P := fun xs => ∀ x, x ∈ uniq xs ↔ x ∈ xs) (fun x => by simp [uniq]) (fun p y ih x => ?_) xs
  rw [uniq_snoc]
  by_cases h : y ∈ uniq p
  · rw [if_pos h, ih x, List.mem_append, List.mem_singleton]
    exact ⟨.inl, fun z => z.elim id fun z => by rw [z]; exact (ih y).mp h⟩
  · rw [if_neg h, List.mem_append, List.mem_append, List.mem_singleton, ih x]
theorem uniq_len (xs : List Str) : (uniq xs).length ≤ xs.length := by
  refine rev_ind (P := fun xs => (uniq xs).length ≤ xs.length) (by simp [uniq]) (fun p y ih => ?_) xs
  rw [uniq_snoc]
  split
  · simp; omega
  · simp; omega
theorem names_ok (g : List RuleT) (h : g.length ≤ 90000) : m_names g = some (uniq (g.map (·.1))) := by
  have hlp : ∃ Γ', lp_names_1 (some g, some [], none, none, none, ()) = some (.nx Γ') ∧ (fun (pre : List RuleT) (Γ : Gam g_names) => Γ = (none, some (uniq (pre.map (·.1))), none, none, none, ())) g Γ' := by
    rw [lp_names_1_eq]
    refine sFor_inv (fun (pre : List RuleT) (Γ : Gam g_names) => Γ = (none, some (uniq (pre.map (·.1))), none, none, none, ())) (xs := g) ?_ ?_ ?_
    · rfl
    · rfl
    · rintro p r q Γ he rfl
      obtain ⟨name, parts, cost⟩ := r
      have hl : (uniq (p.map (·.1))).length < sizeLine := lt_line (by
        have h1 := uniq_len (p.map (·.1))
        have h2 := congrArg List.length he
        rw [List.length_map] at h1
        simp at h2
        omega)
      have hm : (p ++ [((name, parts, cost) : RuleT)]).map (·.1) = p.map (·.1) ++ [name] := by simp
      rw [hm, uniq_snoc]
      clear hm he
      by_cases hx : name ∈ uniq (p.map (·.1))
      · have hni := fNotInD_mem (t := .str) rfl hx
        rw [if_pos hx]
        refine ⟨(none, some (uniq (p.map (·.1))), some name, some parts, some cost, ()), .inl ?_, rfl⟩
        unfold lb_names_1
        clear hx
        walk_at "go"
      · have hni := fNotInD_not (t := .str) rfl hx
        rw [if_neg hx]
        refine ⟨(none, some (uniq (p.map (·.1)) ++ [name]), some name, some parts, some cost, ()), .inl ?_, rfl⟩
        unfold lb_names_1
        clear hx
        walk_at "go"
  obtain ⟨Γ', e, rfl⟩ := hlp
  rw [m_names_at]
  unfold b_names
  clear h
  walk_at "go"
def PartOk (known : List Str) (p : Str) : Prop := m_is_name p = some false ∨ (m_is_name p = some true ∧ p ∈ known)
def PartBad (known : List Str) (p : Str) : Prop := m_is_name p = some true ∧ p ∉ known
def RuleBad (known : List Str) (r : RuleT) : Prop := r.2.2 < 0 ∨ ∃ p ∈ r.2.1, PartBad known p
theorem PartOk.not_bad {known : List Str} {p : Str} (h : PartOk known p) : ¬ PartBad known p := fun ⟨h1, h2⟩ => by
  rcases h with h | ⟨_, h⟩
  · rw [h] at h1
    cases h1
  · exact h2 h
abbrev NoGrammar : Str := Str.ofString "NoGrammar"
theorem parts_ok (rules : List RuleT) (known parts : List Str) (name : Str) (cost : Int) (h : ∀ p ∈ parts, PartOk known p ∨ PartBad known p) :
    Ok (lp_grammar_of_2 (some rules, some known, some name, some parts, some cost, none, ())) fun r => (r = .nx (some rules, some known, none, none, none, none, ()) ∧ ∀ p ∈ parts, PartOk known p) ∨ ((∃ Γ, r = .rt (NoGrammar, none) Γ) ∧ ∃ p ∈ parts, PartBad known p) := by
  rw [lp_grammar_of_2_eq]
  refine Ok_sFor parts (fun _ : Unit => ((some rules, some known, none, none, none, none, ()) : Gam g_grammar_of)) (fun pre _ => ∀ p ∈ pre, PartOk known p) () (by walk_at "w") rfl (fun p hp => by simp at hp) (fun pre p post _ he hI => ?_) fun _ hI => .inl ⟨rfl, hI⟩
  have hp : p ∈ parts := by rw [he]; simp
  unfold lb_grammar_of_2
  rcases h p hp with h | h
  · rcases h with h1 | ⟨h1, h2⟩
    · clear h he
      walk_at "w"
      rw [h1]
      walk_at "w"
      exact ⟨(), rfl, fun q hq => (List.mem_append.mp hq).elim (hI q) fun hq => by rw [List.mem_singleton.mp hq]; exact .inl h1⟩
    · have hni := fNotInD_mem (t := .str) rfl h2
      clear h he
      walk_at "w"
      rw [h1]
      walk_at "w"
      rw [hni]
      walk_at "w"
      exact ⟨(), rfl, fun q hq => (List.mem_append.mp hq).elim (hI q) fun hq => by rw [List.mem_singleton.mp hq]; exact .inr ⟨h1, h2⟩⟩
  · obtain ⟨h1, h2⟩ := h
    have hni := fNotInD_not (t := .str) rfl h2
    clear h he
    walk_at "w"
    rw [h1]
    walk_at "w"
    rw [hni]
    walk_at "w"
    exact .inr ⟨⟨_, rfl⟩, p, hp, h1, h2⟩
theorem grammar_of_x (g : List RuleT) (h : g.length ≤ 90000) (hp : ∀ r ∈ g, ∀ p ∈ r.2.1, PartOk (uniq (g.map (·.1))) p ∨ PartBad (uniq (g.map (·.1))) p) :
    Ok (m_grammar_of g) fun r => (r = (default, some g) ∧ g ≠ [] ∧ ∀ x ∈ g, ¬ RuleBad (uniq (g.map (·.1))) x) ∨ (r = (NoGrammar, none) ∧ (g = [] ∨ ∃ x ∈ g, RuleBad (uniq (g.map (·.1))) x)) := by
  have hn := names_ok g h
  rw [m_grammar_of_at]
  unfold b_grammar_of
  by_cases h0 : g = []
  · subst h0
    have hq : fEqD (.list (Ty.tup (Ty.cons Ty.str (Ty.cons (Ty.vtup Ty.str) (Ty.last Ty.int))))) ([] : List RuleT) [] = some true := rfl
    walk_at "w"
    rw [hq]
    walk_at "w"
    exact .inr (.inl trivial)
  have hne := fEqD_ne (t := .list (Ty.tup (Ty.cons Ty.str (Ty.cons (Ty.vtup Ty.str) (Ty.last Ty.int))))) rfl h0
  walk_at "w"
  rw [hne]
  walk_at "w"
  rw [hn]
  walk_at "w"
  rw [lp_grammar_of_1_eq]
  refine Ok_sFor g (fun _ : Unit => ((some g, some (uniq (g.map (·.1))), none, none, none, none, ()) : Gam g_grammar_of)) (fun pre _ => ∀ r ∈ pre, ¬ RuleBad (uniq (g.map (·.1))) r) () (by walk_at "w") rfl (fun p hp => by simp at hp) (fun pre r post _ he hI => ?_) fun _ hI => ?_
  · have hr : r ∈ g := by rw [he]; simp
    obtain ⟨name, parts, cost⟩ := r
    unfold lb_grammar_of_1
    walk_at "w"
    refine Wif_dec (fun hc => ?_) fun hc => ?_
    · walk_at "w"
      exact .inr (.inr ⟨_, hr, .inl hc⟩)
    · walk_at "w"
      refine (parts_ok g (uniq (g.map (·.1))) parts name cost (hp _ hr)).mono fun x hx => ?_
      rcases hx with ⟨rfl, hx⟩ | ⟨⟨Γ, rfl⟩, p, hpp, hx⟩
      · refine ⟨(), rfl, fun q hq => (List.mem_append.mp hq).elim (hI q) fun hq => ?_⟩
        rw [List.mem_singleton.mp hq]
        rintro (hb | ⟨p, hpp, hb⟩)
        · exact hc hb
        · exact (hx p hpp).not_bad hb
      · exact .inr ⟨rfl, .inr ⟨_, hr, .inr ⟨p, hpp, hx⟩⟩⟩
  · walk_at "w"
    rw [lc_grammar_of_1_eq]
    refine Ok_eLcM (xs := g) id (by walk_at "w") (by omega) (fun w _ => by walk_at "w"; rfl) ?_
    rw [List.map_id]
    exact .inl ⟨rfl, h0, hI⟩
theorem fLenS_ok {x : Str} (h : x.length ≤ 100000) : fLenS x = some (x.length : Int) := okIf_true (lenOk_le h)
theorem made_of_eq (t s : Str) (h : t.length ≤ 100000) : ∃ b, m_made_of (t, s) = some b ∧ (b = true ↔ (t.length ≠ 0 ∧ t.length ≤ 8) ∧ Of s t) := by
  have hl := fLenS_ok h
  by_cases he : t = Str.ofString ""
  · refine ⟨false, ?_, ?_⟩
    · rw [m_made_of_at]
      unfold b_made_of
      clear h
      subst he
      walk_at "go"
    · subst he
      exact ⟨fun z => (by cases z), fun z => absurd rfl z.1.1⟩
  · by_cases h8 : (8 : Int) < (t.length : Int)
    · refine ⟨false, ?_, ⟨fun z => (by cases z), fun z => by omega⟩⟩
      rw [m_made_of_at]
      unfold b_made_of
      clear h
      walk_at "go"
    · have hlc : lc_made_of_1 (some t, some s, none, ()) = some ((t.cps.toList.map fun c => (⟨#[c]⟩ : Str)).map fun x => !(Builtin.Str.occurrences s x 0 s.length 1).isEmpty) := by
        rw [lc_made_of_1_eq]
        refine eLc_of (xs := t.cps.toList.map fun c => (⟨#[c]⟩ : Str)) rfl (lcL_all (fun x => !(Builtin.Str.occurrences s x 0 s.length 1).isEmpty) _ fun x _ => rfl) (lenOk_le ?_)
        rw [List.length_map, List.length_map, str_len]
        exact h
      refine ⟨((t.cps.toList.map fun c => (⟨#[c]⟩ : Str)).map fun x => !(Builtin.Str.occurrences s x 0 s.length 1).isEmpty).all id, ?_, ?_⟩
      · rw [m_made_of_at]
        unfold b_made_of
        generalize ((t.cps.toList.map fun c => (⟨#[c]⟩ : Str)).map fun x => !(Builtin.Str.occurrences s x 0 s.length 1).isEmpty) = bs at hlc
        clear h
        walk_at "go"
      · have hne : t.length ≠ 0 := fun z => he (by
          have : t.cps = #[] := Array.size_eq_zero_iff.mp z
          cases t
          simp at this
          rw [this]
          rfl)
        rw [List.all_eq_true]
        constructor
        · intro z
          refine ⟨⟨hne, by omega⟩, fun c hc => ?_⟩
          have := z _ (List.mem_map.mpr ⟨⟨#[c]⟩, List.mem_map.mpr ⟨c, hc, rfl⟩, rfl⟩)
          have h1 := fInS_one s c
          unfold fInS at h1
          rw [Option.some.injEq] at h1
          simp only [id] at this
          rw [h1] at this
          exact of_decide_eq_true this
        · rintro ⟨_, ho⟩ b hb
          obtain ⟨x, hx, rfl⟩ := List.mem_map.mp hb
          obtain ⟨c, hc, rfl⟩ := List.mem_map.mp hx
          have h1 := fInS_one s c
          unfold fInS at h1
          rw [Option.some.injEq] at h1
          simp only [id]
          rw [h1]
          exact decide_eq_true (ho c hc)
theorem made_of_true {t s : Str} (h0 : t.length ≠ 0) (h8 : t.length ≤ 8) (ho : Of s t) : m_made_of (t, s) = some true := by
  obtain ⟨b, e, hb⟩ := made_of_eq t s (by omega)
  rw [e, hb.mpr ⟨⟨h0, h8⟩, ho⟩]
abbrev lineS : Str := Str.ofString "_"
abbrev figS : Str := Str.ofString "0123456789"
theorem great_no {c : Nat} (h : c ∈ greatS.cps.toList) : c ≠ 95 ∧ c ≠ 32 ∧ c ≠ 10 := by
  have : ∀ c ∈ greatS.cps.toList, c ≠ 95 ∧ c ≠ 32 ∧ c ≠ 10 := by decide +kernel
  exact this c h
theorem line_tl : TL.tl lineS = [95] := by decide +kernel
theorem fig_strok : PyData.strOk figS = true := by decide +kernel
theorem line_len : lineS.length = 1 := by decide +kernel
theorem name_plain {b : Str} (ho : Of greatS b) (h0 : b.length ≠ 0) (h8 : b.length ≤ 8) : m_is_name_text b = some true := by
  have hp : Txt.partition b lineS = (b, Str.empty, Str.empty) := TL.partition_none line_tl fun h => (great_no (ho 95 h)).1 rfl
  have hf : fPartition b lineS = some (b, Str.empty, Str.empty) := by
    unfold fPartition
    rw [hp]
    refine okIf_true ?_
    simp only [Bool.and_eq_true]
    exact ⟨by decide +kernel, decide_eq_true (by rw [sizeLine_eq]; omega), ho.ok great_strok, by decide +kernel, by decide +kernel⟩
  have hm := made_of_true (s := greatS) h0 h8 ho
  have he : Str.empty = Str.ofString "" := rfl
  rw [m_is_name_text_at]
  unfold b_is_name_text
  clear ho h0 h8 hp
  walk_at "go"
theorem name_line {b n : Str} (ho : Of greatS b) (h0 : b.length ≠ 0) (h8 : b.length ≤ 8) (hn : Of figS n) (hn0 : n.length ≠ 0) (hn4 : n.length ≤ 4) : m_is_name_text (b ++ lineS ++ n) = some true := by
  have hp : Txt.partition (b ++ lineS ++ n) lineS = (b, lineS, n) := TL.partition_app line_tl fun h => (great_no (ho 95 h)).1 rfl
  have hf : fPartition (b ++ lineS ++ n) lineS = some (b, lineS, n) := by
    unfold fPartition
    rw [hp]
    refine okIf_true ?_
    simp only [Bool.and_eq_true]
    exact ⟨by decide +kernel, decide_eq_true (by rw [sizeLine_eq, len_cat, len_cat, line_len]; omega), ho.ok great_strok, by decide +kernel, hn.ok fig_strok⟩
  have hm := made_of_true (s := greatS) h0 h8 ho
  have hm2 := made_of_true (s := figS) hn0 (by omega) hn
  have hl := fLenS_ok (x := n) (by omega)
  have h4 : (n.length : Int) ≤ 4 := by omega
  have hne : ¬ (lineS = Str.ofString "") := by decide +kernel
  rw [m_is_name_text_at]
  unfold b_is_name_text
  clear ho h0 h8 hp hn hn0 hn4
  walk_at "go"
abbrev numT (n : Nat) : Str := Str.ofString (toString ((n : Nat) : Int))
theorem num_tl (n : Nat) : (numT n).cps.toList = TL.numL n := TL.tl_num n
theorem num_figs (n : Nat) : Of figS (numT n) := fun c hc => by
  rw [num_tl] at hc
  have := TL.numL_digits n c hc
  have hall : ∀ d, d < 10 → 48 + d ∈ figS.cps.toList := by decide +kernel
  have := hall (c - 48) (by omega)
  rwa [show 48 + (c - 48) = c from by omega] at this
theorem num_size {n k : Nat} (hk : 0 < k) (h : n < 10 ^ k) : (numT n).length ≤ k := num_len hk h
theorem num_pos_len (n : Nat) : (numT n).length ≠ 0 := fun z => by
  have : (numT n).cps.toList.length = 0 := z
  rw [num_tl] at this
  exact TL.numL_ne n (List.eq_nil_of_length_eq_zero this)
theorem cell_at_ok (script : List Int) (k : Nat) : m__law_cell_at (script, (k : Int)) = some (script.getD k 0) := by
  rw [m__law_cell_at_at]
  unfold b__law_cell_at
  by_cases h : k < script.length
  · have h1 : ((k : Int) < (script.length : Int)) := by omega
    have h2 : atI script (k : Int) = some script[k] := atI_nat (List.getElem?_eq_getElem h)
    have h3 : script.getD k 0 = script[k] := by
      rw [List.getD_eq_getElem?_getD, List.getElem?_eq_getElem h]
      rfl
    walk_at "go"
  · have h1 : ¬ ((k : Int) < (script.length : Int)) := by omega
    have h3 : script.getD k 0 = 0 := by
      rw [List.getD_eq_getElem?_getD, List.getElem?_eq_none (by omega)]
      rfl
    walk_at "go"
abbrev blankS : Str := Str.ofString " "
abbrev feedS : Str := Str.ofString "\n"
theorem blank_tl : TL.tl blankS = [32] := by decide +kernel
theorem feed_tl : TL.tl feedS = [10] := by decide +kernel
theorem joinL_len (S : List Nat) : ∀ parts : List (List Nat), (TL.joinL S parts).length ≤ (parts.map List.length).sum + parts.length * S.length
  | [] => by simp [TL.joinL]
  | [p] => by simp [TL.joinL]
  | p :: q :: r => by
    have ih := joinL_len S (q :: r)
    show (p ++ (S ++ TL.joinL S (q :: r))).length ≤ _
    simp only [List.length_append, List.map_cons, List.sum_cons, List.length_cons, Nat.succ_mul] at ih ⊢
    omega
theorem join_len (y : Str) (parts : List Str) : (Txt.join y parts).length ≤ (parts.map (·.length)).sum + parts.length * y.length := by
  have h := joinL_len (TL.tl y) (parts.map TL.tl)
  rw [← TL.tl_join, ← TL.join_eq, List.map_map, List.length_map] at h
  exact h
theorem sum_le {α : Type} {f : α → Nat} {b : Nat} : ∀ xs : List α, (∀ x ∈ xs, f x ≤ b) → (xs.map f).sum ≤ xs.length * b
  | [], _ => by simp
  | x :: xs, h => by
    have := sum_le xs fun y hy => h y (List.mem_cons_of_mem _ hy)
    have := h x List.mem_cons_self
    simp only [List.map_cons, List.sum_cons, List.length_cons, Nat.succ_mul]
    omega
theorem join_mem (y : Str) : ∀ (parts : List Str) (c : Nat), c ∈ (Txt.join y parts).cps.toList → c ∈ y.cps.toList ∨ ∃ p ∈ parts, c ∈ p.cps.toList := by
  intro parts c h
  have h : c ∈ TL.tl (Txt.join y parts) := h
  rw [TL.join_eq, TL.tl_join] at h
  have key : ∀ ps : List (List Nat), c ∈ TL.joinL (TL.tl y) ps → c ∈ TL.tl y ∨ ∃ p ∈ ps, c ∈ p := by
    intro ps
    induction ps with
    | nil => intro h; simp [TL.joinL] at h
    | cons p ps ih =>
      cases ps with
      | nil => exact fun h => .inr ⟨p, List.mem_cons_self, h⟩
      | cons q r =>
        intro h
        have h : c ∈ p ++ (TL.tl y ++ TL.joinL (TL.tl y) (q :: r)) := h
        rcases List.mem_append.mp h with h | h
        · exact .inr ⟨p, List.mem_cons_self, h⟩
        · rcases List.mem_append.mp h with h | h
          · exact .inl h
          · rcases ih h with h | ⟨z, hz, h⟩
            · exact .inl h
            · exact .inr ⟨z, List.mem_cons_of_mem _ hz, h⟩
  rcases key _ h with h | ⟨z, hz, h⟩
  · exact .inl h
  · obtain ⟨p, hp, rfl⟩ := List.mem_map.mp hz
    exact .inr ⟨p, hp, h⟩
theorem strOk_iff {x : Str} : PyData.strOk x = true ↔ ∀ c ∈ x.cps.toList, c < 0x110000 := by
  unfold PyData.strOk
  rw [Array.all_eq_true']
  exact ⟨fun h c hc => of_decide_eq_true (h c (by simpa using hc)), fun h c hc => decide_eq_true (h c (by simpa using hc))⟩
theorem join_strok {y : Str} {parts : List Str} (hy : PyData.strOk y = true) (hp : ∀ p ∈ parts, PyData.strOk p = true) : PyData.strOk (Txt.join y parts) = true := by
  rw [strOk_iff]
  intro c hc
  rcases join_mem y parts c hc with h | ⟨p, hm, h⟩
  · exact strOk_iff.mp hy c h
  · exact strOk_iff.mp (hp p hm) c h
structure Clean (s : Nat) (b : Nat) (parts : List Str) : Prop where
  ok : ∀ p ∈ parts, PyData.strOk p = true
  free : ∀ p ∈ parts, s ∉ p.cps.toList
  few : parts.length ≤ 1000
  short : ∀ p ∈ parts, p.length ≤ b
theorem fJoin_ok {y : Str} {s b : Nat} {parts : List Str} (hy : TL.tl y = [s]) (hys : PyData.strOk y = true) (hb : b ≤ 10000) (c : Clean s b parts) : fJoin y parts = some (Txt.join y parts) ∧ (Txt.join y parts).length ≤ parts.length * (b + 1) := by
  have yl : y.length = 1 := congrArg List.length hy
  have h1 := sum_le (f := fun p : Str => p.length) parts c.short
  have h2 := join_len y parts
  rw [yl, Nat.mul_one] at h2
  have h3 : parts.length * b ≤ 1000 * 10000 := Nat.mul_le_mul c.few hb
  have h4 := c.few
  have e : parts.length * (b + 1) = parts.length * b + parts.length := Nat.mul_succ _ _
  refine ⟨okIf_true ?_, by omega⟩
  rw [Bool.and_eq_true]
  refine ⟨decide_eq_true ?_, join_strok hys c.ok⟩
  rw [yl, Nat.mul_one]
  omega
theorem fSplit_ok {y : Str} {s b : Nat} {parts : List Str} (hy : TL.tl y = [s]) (hys : y.cps.all (· < 256) = true) (hyo : PyData.strOk y = true) (hb : b ≤ 10000) (c : Clean s b parts) (hne : parts ≠ []) : fSplit (Txt.join y parts) y = some parts := by
  have hs := TL.split_join hy hys hne c.free
  have hj := (fJoin_ok hy hyo hb c).2
  have h3 : parts.length * (b + 1) ≤ 1000 * 10001 := Nat.mul_le_mul c.few (by omega)
  have yl : y.length = 1 := congrArg List.length hy
  unfold fSplit
  rw [hs]
  refine okIf_true ?_
  rw [Bool.and_eq_true, Bool.and_eq_true]
  refine ⟨by rw [yl]; rfl, decide_eq_true (by rw [sizeLine_eq]; omega), ?_⟩
  rw [List.all_eq_true]
  exact c.ok
theorem cut_from2 {α : Type} (a b : α) (r : List α) : cutD (a :: b :: r) (some 2) none = r := by
  unfold cutD
  have e1 : HT.sIx (a :: b :: r).length 0 (some 2) = 2 := by
    unfold HT.sIx
    simp <;> omega
  rw [e1]
  show ((a :: b :: r).drop 2).take ((a :: b :: r).length - 2) = r
  rw [List.drop_succ_cons, List.drop_succ_cons, List.drop_zero, List.take_of_length_le]
  simp
theorem cut_to2 {α : Type} (p : List α) (a b : α) : cutD (p ++ [a, b]) none (some (-2)) = p := by
  unfold cutD
  have e1 : HT.sIx (p ++ [a, b]).length 0 none = 0 := rfl
  have e2 : HT.sIx (p ++ [a, b]).length (p ++ [a, b]).length (some (-2)) = p.length := by
    show (if (-2 : Int) < 0 then ((-2 : Int) + ((p ++ [a, b]).length : Int)).toNat else min (-2 : Int).toNat (p ++ [a, b]).length) = p.length
    rw [if_pos (by decide), List.length_append]
    simp <;> omega
  rw [e1, e2, List.drop_zero, Nat.sub_zero, List.take_left]
theorem at_m1 {α : Type} (p : List α) (a b : α) : atI (p ++ [a, b]) (-1) = some b := by
  unfold atI ixN
  rw [if_neg (by decide), if_pos (by simp; omega)]
  show (p ++ [a, b])[((-1 : Int) + (p ++ [a, b]).length).toNat]? = _
  rw [show ((-1 : Int) + (p ++ [a, b]).length).toNat = p.length + 1 from by simp; omega, List.getElem?_append_right (by omega)]
  simp
theorem at_m2 {α : Type} (p : List α) (a b : α) : atI (p ++ [a, b]) (-2) = some a := by
  unfold atI ixN
  rw [if_neg (by decide), if_pos (by simp <;> omega)]
  show (p ++ [a, b])[((-2 : Int) + (p ++ [a, b]).length).toNat]? = _
  rw [show ((-2 : Int) + (p ++ [a, b]).length).toNat = p.length from by simp; omega, List.getElem?_append_right (by omega)]
  simp
abbrev Rule80 : Type := RuleT
structure NameT (h : Str) : Prop where
  txt : m_is_name_text h = some true
  head : HeadIn greatS h
  b32 : 32 ∉ h.cps.toList
  b10 : 10 ∉ h.cps.toList
  len : h.length ≤ 100
  ok : PyData.strOk h = true
structure WordT (w : Str) : Prop where
  of : Of smallS w
  ne : w.length ≠ 0
  le : w.length ≤ 8
structure RuleT80 (r : Rule80) : Prop where
  name : NameT r.1
  parts : ∀ p ∈ r.2.1, NameT p ∨ WordT p
  few : r.2.1.length ≤ 50
  c0 : 0 ≤ r.2.2
  c1 : r.2.2 < 10 ^ 60
def tokens (r : Rule80) : List Str := if 0 < r.2.2 then (r.1 :: Str.ofString "=" :: r.2.1) ++ [Str.ofString ":", numT r.2.2.toNat] else r.1 :: Str.ofString "=" :: r.2.1
theorem small_no {c : Nat} (h : c ∈ smallS.cps.toList) : c ≠ 58 ∧ c ≠ 32 ∧ c ≠ 10 := by
  have : ∀ c ∈ smallS.cps.toList, c ≠ 58 ∧ c ≠ 32 ∧ c ≠ 10 := by decide +kernel
  exact this c h
theorem part_clean {p : Str} (h : NameT p ∨ WordT p) : PyData.strOk p = true ∧ 32 ∉ p.cps.toList ∧ 10 ∉ p.cps.toList ∧ p.length ≤ 100 := by
  rcases h with h | h
  · exact ⟨h.ok, h.b32, h.b10, h.len⟩
  · exact ⟨h.of.ok small_strok, fun z => (small_no (h.of 32 z)).2.1 rfl, fun z => (small_no (h.of 10 z)).2.2 rfl, Nat.le_trans h.le (by decide)⟩
theorem fig_no {c : Nat} (h : c ∈ figS.cps.toList) : c ≠ 58 ∧ c ≠ 32 ∧ c ≠ 10 := by
  have : ∀ c ∈ figS.cps.toList, c ≠ 58 ∧ c ≠ 32 ∧ c ≠ 10 := by decide +kernel
  exact this c h
theorem token_clean {r : Rule80} (h : RuleT80 r) : ∀ t ∈ tokens r, PyData.strOk t = true ∧ 32 ∉ t.cps.toList ∧ 10 ∉ t.cps.toList ∧ t.length ≤ 100 := by
  have he : PyData.strOk (Str.ofString "=") = true ∧ 32 ∉ (Str.ofString "=").cps.toList ∧ 10 ∉ (Str.ofString "=").cps.toList ∧ (Str.ofString "=").length ≤ 100 := ⟨by decide +kernel, by decide +kernel, by decide +kernel, by decide +kernel⟩
  have hc : PyData.strOk (Str.ofString ":") = true ∧ 32 ∉ (Str.ofString ":").cps.toList ∧ 10 ∉ (Str.ofString ":").cps.toList ∧ (Str.ofString ":").length ≤ 100 := ⟨by decide +kernel, by decide +kernel, by decide +kernel, by decide +kernel⟩
  have hn : PyData.strOk (numT r.2.2.toNat) = true ∧ 32 ∉ (numT r.2.2.toNat).cps.toList ∧ 10 ∉ (numT r.2.2.toNat).cps.toList ∧ (numT r.2.2.toNat).length ≤ 100 := by
    have hf := num_figs r.2.2.toNat
    have hlt : r.2.2.toNat < 10 ^ 60 := by
      have := h.c1
      have := h.c0
      have e : ((10 : Int) ^ 60) = ((10 ^ 60 : Nat) : Int) := by decide +kernel
      rw [e] at *
      omega
    exact ⟨hf.ok fig_strok, fun z => (fig_no (hf 32 z)).2.1 rfl, fun z => (fig_no (hf 10 z)).2.2 rfl, Nat.le_trans (num_size (by decide) hlt) (by decide)⟩
  have hb : ∀ t ∈ r.1 :: Str.ofString "=" :: r.2.1, PyData.strOk t = true ∧ 32 ∉ t.cps.toList ∧ 10 ∉ t.cps.toList ∧ t.length ≤ 100 := fun t ht => by
    rcases List.mem_cons.mp ht with rfl | ht
    · exact part_clean (.inl h.name)
    · rcases List.mem_cons.mp ht with rfl | ht
      · exact he
      · exact part_clean (h.parts t ht)
  intro t ht
  unfold tokens at ht
  split at ht
  · rcases List.mem_append.mp ht with ht | ht
    · exact hb t ht
    · rcases List.mem_cons.mp ht with rfl | ht
      · exact hc
      · rw [List.mem_singleton] at ht
        rw [ht]
        exact hn
  · exact hb t ht
theorem tokens_clean {r : Rule80} (h : RuleT80 r) : Clean 32 100 (tokens r) := ⟨fun p hp => (token_clean h p hp).1, fun p hp => (token_clean h p hp).2.1, by
  have := h.few
  unfold tokens
  split <;> simp <;> omega, fun p hp => (token_clean h p hp).2.2.2⟩
theorem blank_ok : PyData.strOk blankS = true ∧ blankS.cps.all (· < 256) = true := ⟨by decide +kernel, by decide +kernel⟩
theorem feed_ok : PyData.strOk feedS = true ∧ feedS.cps.all (· < 256) = true := ⟨by decide +kernel, by decide +kernel⟩
theorem strI_big {cost : Int} (h0 : 0 ≤ cost) (h1 : cost < 10 ^ 60) : fStrI cost = some (numT cost.toNat) := by
  have e : ((10 : Int) ^ 60) = ((10 ^ 60 : Nat) : Int) := by decide +kernel
  rw [e] at h1
  have h2 : cost.natAbs < 2 ^ 200 := Nat.lt_of_lt_of_le (show cost.natAbs < 10 ^ 60 by omega) (by decide +kernel)
  unfold fStrI
  rw [show (numT cost.toNat) = Str.ofString (toString cost) from by rw [numT, Int.toNat_of_nonneg h0]]
  refine okIf_true (decide_eq_true ?_)
  have := PySem.Flt.log2_lt_of (k := 200) (by decide) h2
  omega
def rowsOf (g : List Rule80) : List Str := g.map fun r => Txt.join blankS (tokens r)
theorem rows_clean {g : List Rule80} (h : ∀ r ∈ g, RuleT80 r) (hl : g.length ≤ 1000) : Clean 10 10000 (rowsOf g) := by
  have row : ∀ r ∈ g, PyData.strOk (Txt.join blankS (tokens r)) = true ∧ 10 ∉ (Txt.join blankS (tokens r)).cps.toList ∧ (Txt.join blankS (tokens r)).length ≤ 10000 := fun r hr => by
    have hc := tokens_clean (h r hr)
    refine ⟨join_strok blank_ok.1 hc.ok, fun z => ?_, ?_⟩
    · rcases join_mem _ _ _ z with z | ⟨p, hp, z⟩
      · have : 10 ∈ ([32] : List Nat) := blank_tl ▸ z
        simp at this
      · exact (token_clean (h r hr) p hp).2.2.1 z
    · have h1 := (fJoin_ok blank_tl blank_ok.1 (by decide) hc).2
      have hf := (h r hr).few
      have : (tokens r).length ≤ 54 := by
        unfold tokens
        split <;> simp <;> omega
      have := Nat.mul_le_mul this (Nat.le_refl 101)
      omega
  refine ⟨fun p hp => ?_, fun p hp => ?_, by unfold rowsOf; rw [List.length_map]; exact hl, fun p hp => ?_⟩
  · obtain ⟨r, hr, rfl⟩ := List.mem_map.mp hp
    exact (row r hr).1
  · obtain ⟨r, hr, rfl⟩ := List.mem_map.mp hp
    exact (row r hr).2.1
  · obtain ⟨r, hr, rfl⟩ := List.mem_map.mp hp
    exact (row r hr).2.2
theorem sign_of {a : Str} {n : Nat} (ha : a.length = n) (hn : 0 < n) (hn' : n ≤ 1000) (i : Int) : ∃ c, fIxS a (i % (n : Int)) = some ⟨#[c]⟩ ∧ c ∈ a.cps.toList := by
  have m0 := Int.emod_nonneg i (show (n : Int) ≠ 0 by omega)
  have m1 := Int.emod_lt_of_pos i (show (0 : Int) < (n : Int) by omega)
  obtain ⟨c, hc, hm⟩ := atI_some (xs := a.cps.toList) (i := i % (n : Int)) m0 (by rw [str_len, ha]; exact m1)
  refine ⟨c, ?_, hm⟩
  unfold fIxS
  rw [if_pos (lenOk_le (by omega)), hc]
  rfl
abbrev emptyS : Str := Str.ofString ""
theorem joinL_nil : ∀ ps : List (List Nat), TL.joinL [] ps = ps.flatten
  | [] => rfl
  | [p] => by simp [TL.joinL]
  | p :: q :: r => by
    show p ++ ([] ++ TL.joinL [] (q :: r)) = _
    rw [joinL_nil (q :: r)]
    rfl
theorem join_signs (cs : List Nat) : (Txt.join emptyS (cs.map fun c => (⟨#[c]⟩ : Str))).cps.toList = cs := by
  show TL.tl _ = cs
  rw [TL.join_eq, TL.tl_join, List.map_map, show TL.tl emptyS = [] from rfl, joinL_nil]
  show (cs.map fun c => [c]).flatten = cs
  induction cs with
  | nil => rfl
  | cons c cs ih => rw [List.map_cons, List.flatten_cons, ih]; rfl
theorem fJoin_signs {a : Str} (ha : PyData.strOk a = true) {cs : List Nat} (hc : ∀ c ∈ cs, c ∈ a.cps.toList) (hl : cs.length ≤ 1000) : ∃ t, fJoin emptyS (cs.map fun c => (⟨#[c]⟩ : Str)) = some t ∧ Of a t ∧ t.length = cs.length := by
  have h1 := join_signs cs
  have h2 : Of a (Txt.join emptyS (cs.map fun c => (⟨#[c]⟩ : Str))) := fun c h => by
    rw [h1] at h
    exact hc c h
  refine ⟨_, okIf_true ?_, h2, ?_⟩
  · rw [Bool.and_eq_true]
    refine ⟨decide_eq_true ?_, h2.ok ha⟩
    have h3 := sum_le (f := fun p : Str => p.length) (b := 1) (cs.map fun c => (⟨#[c]⟩ : Str)) (fun x hx => by
      obtain ⟨c, _, rfl⟩ := List.mem_map.mp hx
      exact Nat.le_refl _)
    rw [List.length_map] at h3 ⊢
    show _ + _ * 0 ≤ _
    omega
  · rw [← str_len, h1]
abbrev eatS : Str := Str.ofString "eatonihsr"
abbrev qxyS : Str := Str.ofString "QXYZABMN"
theorem eat_small {c : Nat} (h : c ∈ eatS.cps.toList) : c ∈ smallS.cps.toList := by
  have : ∀ c ∈ eatS.cps.toList, c ∈ smallS.cps.toList := by decide +kernel
  exact this c h
theorem qxy_great {c : Nat} (h : c ∈ qxyS.cps.toList) : c ∈ greatS.cps.toList := by
  have : ∀ c ∈ qxyS.cps.toList, c ∈ greatS.cps.toList := by decide +kernel
  exact this c h
theorem divOk_small {k : Nat} (h : k < 2 ^ 100) : divOk ((k : Int) + 1) = true := divOk_of 101 (by omega) (by
  have : ((k : Int) + 1).natAbs = k + 1 := by omega
  rw [this, Nat.pow_succ]
  omega) (by decide)
theorem word80_ok (number : Int) : ∃ w, m__law_word number = some w ∧ WordT w := by
  have d5 : divOk 5 = true := by decide +kernel
  obtain ⟨size, hsize⟩ : ∃ s : Nat, (s : Int) = 1 + number / 5 % 8 := ⟨(1 + number / 5 % 8).toNat, Int.toNat_of_nonneg (by omega)⟩
  have hs : 1 ≤ size ∧ size ≤ 8 := by omega
  obtain ⟨f, hf⟩ : ∃ f : Int → Nat, ∀ i, fIxS eatS (i % 9) = some ⟨#[f i]⟩ ∧ f i ∈ eatS.cps.toList := ⟨fun i => (sign_of (a := eatS) (n := 9) (by decide +kernel) (by decide) (by decide) i).choose, fun i => (sign_of (a := eatS) (n := 9) (by decide +kernel) (by decide) (by decide) i).choose_spec⟩
  have hlc : lc__law_word_1 (some number, none, ()) = some ((((rng 0 (size : Int)).map fun k => f (number / (k + 1) + k))).map fun c => (⟨#[c]⟩ : Str)) := by
    rw [lc__law_word_1_eq, List.map_map]
    refine eLc_of (xs := rng 0 (size : Int)) ?_ (lcL_all _ _ fun k hk => ?_) (lenOk_le (by rw [List.length_map, rng_len]; omega))
    · have := fRng1_of (n := size) (by omega)
      rw [hsize] at this ⊢
      clear hf hsize
      walk_at "go"
    · have h1 := (hf (number / (k + 1) + k)).1
      unfold rng at hk
      obtain ⟨j, _, rfl⟩ := List.mem_map.mp hk
      have hj : divOk (0 + (j : Int) + 1) = true := by
        rw [Int.zero_add]
        exact divOk_small (by
          have := List.mem_range.mp (by assumption)
          have h2 : j < 8 := by omega
          exact Nat.lt_trans h2 (by decide))
      have h9 : (0 : Int) < 9 := by decide
      clear hf hk hsize
      walk_at "go"
      rfl
  obtain ⟨t, ht, ho, hl⟩ := fJoin_signs (a := smallS) small_strok (cs := (rng 0 (size : Int)).map fun k => f (number / (k + 1) + k)) (fun c hc => by
    obtain ⟨k, _, rfl⟩ := List.mem_map.mp hc
    exact eat_small (hf _).2) (by rw [List.length_map, rng_len]; omega)
  rw [List.length_map, rng_len] at hl
  refine ⟨t, ?_, ⟨ho, by omega, by omega⟩⟩
  rw [m__law_word_at]
  unfold b__law_word
  generalize ((rng 0 (size : Int)).map fun k => f (number / (k + 1) + k)).map (fun c => (⟨#[c]⟩ : Str)) = W at hlc ht
  clear hf ho
  walk_at "go"
theorem nameT_plain {b : Str} (ho : Of greatS b) (h0 : b.length ≠ 0) (h8 : b.length ≤ 8) : NameT b :=
  ⟨name_plain ho h0 h8, head_of ho (Nat.pos_of_ne_zero h0), fun z => (great_no (ho 32 z)).2.1 rfl, fun z => (great_no (ho 10 z)).2.2 rfl, by omega, ho.ok great_strok⟩
theorem line_no : ∀ c ∈ lineS.cps.toList, c ≠ 32 ∧ c ≠ 10 ∧ c < 0x110000 := by decide +kernel
theorem nameT_line {b n : Str} (ho : Of greatS b) (h0 : b.length ≠ 0) (h8 : b.length ≤ 8) (hn : Of figS n) (hn0 : n.length ≠ 0) (hn4 : n.length ≤ 4) : NameT (b ++ lineS ++ n) := by
  have mem : ∀ c ∈ (b ++ lineS ++ n).cps.toList, c ∈ greatS.cps.toList ∨ c ∈ lineS.cps.toList ∨ c ∈ figS.cps.toList := fun c hc => by
    rw [cps_cat, cps_cat] at hc
    rcases List.mem_append.mp hc with hc | hc
    · rcases List.mem_append.mp hc with hc | hc
      · exact .inl (ho c hc)
      · exact .inr (.inl hc)
    · exact .inr (.inr (hn c hc))
  refine ⟨name_line ho h0 h8 hn hn0 hn4, ((head_of ho (Nat.pos_of_ne_zero h0)).cat _).cat _, fun z => ?_, fun z => ?_, by rw [len_cat, len_cat, line_len]; omega, strOk_append (strOk_append (ho.ok great_strok) (by decide +kernel)) (hn.ok fig_strok)⟩
  · rcases mem 32 z with h | h | h
    · exact (great_no h).2.1 rfl
    · exact (line_no 32 h).1 rfl
    · exact (fig_no h).2.1 rfl
  · rcases mem 10 z with h | h | h
    · exact (great_no h).2.2 rfl
    · exact (line_no 10 h).2.1 rfl
    · exact (fig_no h).2.2 rfl
theorem head_signs (found : Option (List Str)) (c : Int) : ∃ cs : List Nat, lc__law_heads_1 (none, found, some c, none, none, ()) = some (cs.map fun c => (⟨#[c]⟩ : Str)) ∧ (∀ x ∈ cs, x ∈ greatS.cps.toList) ∧ cs.length ≠ 0 ∧ cs.length ≤ 8 := by
  have d9 : divOk 9 = true := by decide +kernel
  obtain ⟨size, hsize⟩ : ∃ s : Nat, (s : Int) = 1 + c / 9 % 8 := ⟨(1 + c / 9 % 8).toNat, Int.toNat_of_nonneg (by omega)⟩
  have hs : 1 ≤ size ∧ size ≤ 8 := by omega
  obtain ⟨f, hf⟩ : ∃ f : Int → Nat, ∀ i, fIxS qxyS (i % 8) = some ⟨#[f i]⟩ ∧ f i ∈ qxyS.cps.toList := ⟨fun i => (sign_of (a := qxyS) (n := 8) (by decide +kernel) (by decide) (by decide) i).choose, fun i => (sign_of (a := qxyS) (n := 8) (by decide +kernel) (by decide) (by decide) i).choose_spec⟩
  refine ⟨(rng 0 (size : Int)).map fun k => f (c / (k + 1) + k * k), ?_, fun x hx => ?_, by rw [List.length_map, rng_len]; omega, by rw [List.length_map, rng_len]; omega⟩
  · rw [lc__law_heads_1_eq, List.map_map]
    refine eLc_of (xs := rng 0 (size : Int)) ?_ (lcL_all _ _ fun k hk => ?_) (lenOk_le (by rw [List.length_map, rng_len]; omega))
    · have := fRng1_of (n := size) (by omega)
      rw [hsize] at this ⊢
      clear hf hsize
      walk_at "go"
    · have h1 := (hf (c / (k + 1) + k * k)).1
      unfold rng at hk
      obtain ⟨j, hjm, rfl⟩ := List.mem_map.mp hk
      have hj8 : j < 8 := by
        have := List.mem_range.mp hjm
        omega
      have hj : divOk (0 + (j : Int) + 1) = true := by
        rw [Int.zero_add]
        exact divOk_small (Nat.lt_trans hj8 (by decide))
      have hmul : mulOk (0 + (j : Int)) (0 + (j : Int)) = true := mulOk_of 4 4 (by omega) (by omega) (by decide)
      have h9 : (0 : Int) < 8 := by decide
      clear hf hk hsize hjm hj8
      walk_at "go"
      rfl
  · obtain ⟨k, _, rfl⟩ := List.mem_map.mp hx
    exact qxy_great (hf _).2
theorem heads_turn (found : List Str) (cell : Int) (hl : found.length ≤ 1000) : ∃ name, NameT name ∧ ∃ Γ', lb__law_heads_1 (none, some found, some cell, none, none, ()) = some (.nx Γ') ∧ Gam.mask [false, true, false, false, false] Γ' = (none, some (if name ∈ found then found else found ++ [name]), none, none, none, ()) := by
  have p40 : powOk 10 40 = true := by decide +kernel
  have d3 : divOk 3 = true := by decide +kernel
  have d70 : divOk 70 = true := by decide +kernel
  have hbig : (0 : Int) < (10 : Int) ^ (40 : Int).toNat := by decide +kernel
  obtain ⟨big, hb⟩ : ∃ b : Int, (10 : Int) ^ (40 : Int).toNat = b := ⟨_, rfl⟩
  rw [hb] at hbig
  have hP : (e2 fPow (eC (10 : Int)) (eC (40 : Int)) : Gam g__law_heads → Option Int) = fun _ => some big := by
    funext Γ
    show okIf (powOk 10 40) ((10 : Int) ^ (40 : Int).toNat) = some big
    rw [p40, hb]
    rfl
  clear p40 hb
  obtain ⟨c, hc⟩ : ∃ c : Int, cell % big = c := ⟨_, rfl⟩
  obtain ⟨cs, hlc, hcs, hc0, hc8⟩ := head_signs (some found) c
  obtain ⟨b, hj, ho, hbl⟩ := fJoin_signs great_strok hcs (by omega)
  have hline : found.length < sizeLine := lt_line (by omega)
  by_cases h3 : c % 3 = 0
  · obtain ⟨z, hz, hzm⟩ := atI_some (xs := [(10 : Int), 10000]) (i := c / 70 % 2) (by omega) (by simp; omega)
    have hz0 : 0 < z ∧ z ≤ 10000 := by
      simp at hzm
      omega
    have v0 := Int.emod_nonneg (c / 3) (show z ≠ 0 by omega)
    have v1 := Int.emod_lt_of_pos (c / 3) hz0.1
    obtain ⟨v, hv⟩ : ∃ v : Int, c / 3 % z = v := ⟨_, rfl⟩
    rw [hv] at v0 v1
    have hs := strI_big v0 (Int.lt_of_lt_of_le (show v < 10000 by omega) (by decide +kernel))
    have hn4 := num_size (n := v.toNat) (k := 4) (by decide) (by omega)
    have hN := nameT_line ho (by omega) (by omega) (num_figs v.toNat) (num_pos_len v.toNat) hn4
    have hk1 : fCat b lineS = some (b ++ lineS) := cat_len (by rw [line_len]; omega)
    have hk2 : fCat (b ++ lineS) (numT v.toNat) = some (b ++ lineS ++ numT v.toNat) := cat_len (by rw [len_cat, line_len]; omega)
    refine ⟨b ++ lineS ++ numT v.toNat, hN, ?_⟩
    have hz1 := hz0.1
    generalize b ++ lineS ++ numT v.toNat = name at hN hk2 ⊢
    clear hN hzm hz0 v0 v1 hn4 hcs hc0 hc8 ho hbl hl
    by_cases hm : name ∈ found
    · have hni := fNotInD_mem (t := .str) rfl hm
      rw [if_pos hm]
      refine ⟨(none, some found, some c, some name, none, ()), ?_, rfl⟩
      clear hm
      unfold lb__law_heads_1
      rw [hP]
      clear hP
      walk_at "go"
    · have hni := fNotInD_not (t := .str) rfl hm
      rw [if_neg hm]
      refine ⟨(none, some (found ++ [name]), some c, some name, none, ()), ?_, rfl⟩
      clear hm
      unfold lb__law_heads_1
      rw [hP]
      clear hP
      walk_at "go"
  · have hN := nameT_plain ho (by omega) (by omega)
    refine ⟨b, hN, ?_⟩
    clear hN hcs hc0 hc8 ho hbl hl
    by_cases hm : b ∈ found
    · have hni := fNotInD_mem (t := .str) rfl hm
      rw [if_pos hm]
      refine ⟨(none, some found, some c, some b, none, ()), ?_, rfl⟩
      clear hm
      unfold lb__law_heads_1
      rw [hP]
      clear hP
      walk_at "go"
    · have hni := fNotInD_not (t := .str) rfl hm
      rw [if_neg hm]
      refine ⟨(none, some (found ++ [b]), some c, some b, none, ()), ?_, rfl⟩
      clear hm
      unfold lb__law_heads_1
      rw [hP]
      clear hP
      walk_at "go"
theorem heads80_ok (cells : List Int) (hl : cells.length ≤ 100) (hne : cells ≠ []) : ∃ hs, m__law_heads cells = some hs ∧ (∀ h ∈ hs, NameT h) ∧ hs.length ≤ cells.length ∧ 0 < hs.length := by
  have hlp : ∃ Γ', lp__law_heads_1 (some cells, some [], none, none, none, ()) = some (.nx Γ') ∧ (fun (pre : List Int) (Γ : Gam g__law_heads) => ∃ hs, Γ = (none, some hs, none, none, none, ()) ∧ (∀ h ∈ hs, NameT h) ∧ hs.length ≤ pre.length ∧ (pre ≠ [] → 0 < hs.length)) cells Γ' := by
    rw [lp__law_heads_1_eq]
    refine sFor_inv (fun (pre : List Int) (Γ : Gam g__law_heads) => ∃ hs, Γ = (none, some hs, none, none, none, ()) ∧ (∀ h ∈ hs, NameT h) ∧ hs.length ≤ pre.length ∧ (pre ≠ [] → 0 < hs.length)) (xs := cells) ?_ ?_ ?_
    · rfl
    · exact ⟨[], rfl, fun h hh => by simp at hh, Nat.le_refl _, fun z => absurd rfl z⟩
    · rintro p x q Γ he ⟨hs, rfl, k1, k2, k3⟩
      have hp : p.length ≤ 100 := by
        have := congrArg List.length he
        simp at this
        omega
      obtain ⟨name, hN, Γ', e1, e2⟩ := heads_turn hs x (by omega)
      refine ⟨Γ', .inl e1, _, e2, fun h hh => ?_, ?_, fun _ => ?_⟩
      · split at hh
        · exact k1 h hh
        · rcases List.mem_append.mp hh with hh | hh
          · exact k1 h hh
          · rw [List.mem_singleton] at hh
            rw [hh]
            exact hN
      · split <;> simp <;> omega
      · split
        · rename_i hm
          exact List.length_pos_of_mem hm
        · simp
  obtain ⟨Γ', e, hs, rfl, k1, k2, k3⟩ := hlp
  refine ⟨hs, ?_, k1, k2, k3 hne⟩
  rw [m__law_heads_at]
  unfold b__law_heads
  clear k1 k2 k3 hl hne
  walk_at "go"
theorem word_no_name {p : Str} (h : WordT p) (h' : NameT p) : False := by
  obtain ⟨c, r, e, hc⟩ := h'.head
  exact small_not_great (h.of c (by rw [e]; exact List.mem_cons_self)) hc
theorem parts80_ok (c : Int) (k : Option Int) (heads : List Str) (name : Str) (hc0 : 0 ≤ c) (hh : ∀ h ∈ heads, NameT h) (hl : 0 < heads.length) (hl' : heads.length ≤ 1000) (big : Int) (hbig : 0 < big) (hP : (e2 fPow (eC (10 : Int)) (eC (20 : Int)) : Gam g__law_rule → Option Int) = fun _ => some big) :
    ∃ parts, lp__law_rule_1 (some c, k, some heads, some name, some [], none, none, ()) = some (.nx (some c, none, some heads, some name, some parts, none, none, ())) ∧ (∀ p ∈ parts, (NameT p ∧ p ∈ heads) ∨ WordT p) ∧ parts.length ≤ 5 := by
  obtain ⟨size, hsize⟩ : ∃ s : Nat, (s : Int) = c % 4 := ⟨(c % 4).toNat, Int.toNat_of_nonneg (by omega)⟩
  have hs : size ≤ 5 := by omega
  have hlp : ∃ Γ', lp__law_rule_1 (some c, k, some heads, some name, some [], none, none, ()) = some (.nx Γ') ∧ (fun (pre : List Int) (Γ : Gam g__law_rule) => ∃ parts, Γ = (some c, none, some heads, some name, some parts, none, none, ()) ∧ (∀ p ∈ parts, (NameT p ∧ p ∈ heads) ∨ WordT p) ∧ parts.length ≤ pre.length) (rng 0 (size : Int)) Γ' := by
    rw [lp__law_rule_1_eq]
    refine sFor_inv (fun (pre : List Int) (Γ : Gam g__law_rule) => ∃ parts, Γ = (some c, none, some heads, some name, some parts, none, none, ()) ∧ (∀ p ∈ parts, (NameT p ∧ p ∈ heads) ∨ WordT p) ∧ parts.length ≤ pre.length) (xs := rng 0 (size : Int)) ?_ ?_ ?_
    · have := fRng1_of (n := size) (by omega)
      rw [hsize] at this ⊢
      have h5 : (0 : Int) < 4 := by decide
      clear hh hP hsize
      walk_at "go"
    · exact ⟨[], rfl, fun p h => by simp at h, Nat.le_refl _⟩
    · rintro pre x q Γ he ⟨parts, rfl, k1, k2⟩
      obtain ⟨hp, rfl⟩ := rng_split he
      have d2 : divOk 2 = true := by decide +kernel
      have hmul : mulOk (pre.length : Int) 7919 = true := mulOk_of 4 13 (by omega) (by decide) (by decide)
      have hdiv : divOk (11 + (pre.length : Int)) = true := divOk_of 10 (by omega) (by omega) (by decide)
      obtain ⟨one, hone⟩ : ∃ o : Int, (c + (pre.length : Int) * 7919) / (11 + (pre.length : Int)) % big = o := ⟨_, rfl⟩
      obtain ⟨w, hw, hwt⟩ := word80_ok (one / 2)
      have m0 := Int.emod_nonneg (one / 2) (show (heads.length : Int) ≠ 0 by omega)
      have m1 := Int.emod_lt_of_pos (one / 2) (show (0 : Int) < (heads.length : Int) by omega)
      obtain ⟨hd, hhd, hhm⟩ := atI_some (xs := heads) m0 m1
      obtain ⟨p, hpx, hpm⟩ := atI_some (xs := [w, hd]) (i := one % 2) (by omega) (by simp; omega)
      have hpos : (0 : Int) < (heads.length : Int) := by omega
      have hline : parts.length < sizeLine := lt_line (by omega)
      have hgood : (NameT p ∧ p ∈ heads) ∨ WordT p := by
        simp only [List.mem_cons, List.not_mem_nil, or_false] at hpm
        rcases hpm with rfl | rfl
        · exact .inr hwt
        · exact .inl ⟨hh _ hhm, hhm⟩
      refine ⟨(some c, none, some heads, some name, some (parts ++ [p]), some (pre.length : Int), some one, ()), .inl ?_, _, rfl, fun y hy => ?_, by simp; omega⟩
      · unfold lb__law_rule_1
        rw [hP]
        clear hP hh hgood hpm hhm hwt k1 k2 he m0 m1 hsize
        walk_at "go"
      · rcases List.mem_append.mp hy with hy | hy
        · exact k1 y hy
        · rw [List.mem_singleton] at hy
          rw [hy]
          exact hgood
  obtain ⟨Γ', e, parts, rfl, k1, k2⟩ := hlp
  exact ⟨parts, e, k1, by rw [rng_len] at k2; omega⟩
theorem cost80_ok (c big : Int) (hb : big = 10 ^ 60) (hc0 : 0 ≤ c) (hc1 : c < 10 ^ 40) : ∃ z, atI [(0 : Int), 0, c / 50 % 12, (c + 1) * (c + 3) % big] (c / 5 % 4) = some z ∧ 0 ≤ z ∧ z < 10 ^ 60 := by
  obtain ⟨z, hz, hm⟩ := atI_some (xs := [(0 : Int), 0, c / 50 % 12, (c + 1) * (c + 3) % big]) (i := c / 5 % 4) (by omega) (by simp; omega)
  have hbp : (0 : Int) < big := by rw [hb]; decide +kernel
  have h12 : (12 : Int) < 10 ^ 60 := by decide +kernel
  have h0 : (0 : Int) < 10 ^ 60 := by decide +kernel
  refine ⟨z, hz, ?_⟩
  rw [List.mem_cons, List.mem_cons, List.mem_cons, List.mem_singleton] at hm
  rcases hm with e | e | e | e
  · rw [e]; exact ⟨Int.le_refl _, h0⟩
  · rw [e]; exact ⟨Int.le_refl _, h0⟩
  · rw [e]
    exact ⟨Int.emod_nonneg _ (by decide), Int.lt_trans (Int.emod_lt_of_pos _ (by decide)) h12⟩
  · rw [e]
    refine ⟨Int.emod_nonneg _ (Int.ne_of_gt hbp), ?_⟩
    have := Int.emod_lt_of_pos ((c + 1) * (c + 3)) hbp
    rwa [hb] at this ⊢
theorem big40 {c : Int} (h0 : 0 ≤ c) (h1 : c < 10 ^ 40) : (c + 1).natAbs < 2 ^ 140 ∧ (c + 3).natAbs < 2 ^ 140 := by
  have e : ((10 : Int) ^ 40) = ((10 ^ 40 : Nat) : Int) := by decide +kernel
  rw [e] at h1
  have h2 : 10 ^ 40 + 10 < 2 ^ 140 := by decide +kernel
  constructor
  · exact Nat.lt_trans (show (c + 1).natAbs < 10 ^ 40 + 10 by omega) h2
  · exact Nat.lt_trans (show (c + 3).natAbs < 10 ^ 40 + 10 by omega) h2
theorem rule80_ok (cell : Int) (k : Nat) (heads : List Str) (hh : ∀ h ∈ heads, NameT h) (hl : 0 < heads.length) (hl' : heads.length ≤ 1000) :
    ∃ r : RuleT, m__law_rule (cell, (k : Int), heads) = some r ∧ RuleT80 r ∧ (∀ p ∈ r.2.1, NameT p → p ∈ heads) ∧ r.1 ∈ heads ∧ ∀ h : k < heads.length, r.1 = heads[k] := by
  have p40 : powOk 10 40 = true := by decide +kernel
  have p20 : powOk 10 20 = true := by decide +kernel
  have p60 : powOk 10 60 = true := by decide +kernel
  have d7 : divOk 7 = true := by decide +kernel
  have d50 : divOk 50 = true := by decide +kernel
  have d5 : divOk 5 = true := by decide +kernel
  obtain ⟨b40, hb40⟩ : ∃ b : Int, (10 : Int) ^ (40 : Int).toNat = b := ⟨_, rfl⟩
  obtain ⟨b20, hb20⟩ : ∃ b : Int, (10 : Int) ^ (20 : Int).toNat = b := ⟨_, rfl⟩
  obtain ⟨b60, hb60⟩ : ∃ b : Int, (10 : Int) ^ (60 : Int).toNat = b := ⟨_, rfl⟩
  have q40 : (0 : Int) < b40 := by rw [← hb40]; decide +kernel
  have q20 : (0 : Int) < b20 := by rw [← hb20]; decide +kernel
  have q60 : (0 : Int) < b60 := by rw [← hb60]; decide +kernel
  have hP40 : (e2 fPow (eC (10 : Int)) (eC (40 : Int)) : Gam g__law_rule → Option Int) = fun _ => some b40 := by
    funext Γ
    show okIf (powOk 10 40) ((10 : Int) ^ (40 : Int).toNat) = some b40
    rw [p40, hb40]
    rfl
  have hP20 : (e2 fPow (eC (10 : Int)) (eC (20 : Int)) : Gam g__law_rule → Option Int) = fun _ => some b20 := by
    funext Γ
    show okIf (powOk 10 20) ((10 : Int) ^ (20 : Int).toNat) = some b20
    rw [p20, hb20]
    rfl
  have hP60 : (e2 fPow (eC (10 : Int)) (eC (60 : Int)) : Gam g__law_rule → Option Int) = fun _ => some b60 := by
    funext Γ
    show okIf (powOk 10 60) ((10 : Int) ^ (60 : Int).toNat) = some b60
    rw [p60, hb60]
    rfl
  obtain ⟨c, hc⟩ : ∃ c : Int, cell % b40 = c := ⟨_, rfl⟩
  have c0 : 0 ≤ c := by rw [← hc]; exact Int.emod_nonneg _ (Int.ne_of_gt q40)
  have c1 : c < 10 ^ 40 := by
    rw [← hc]
    have h1 := Int.emod_lt_of_pos cell q40
    have h2 : b40 = 10 ^ 40 := hb40.symm
    rwa [h2] at h1 ⊢
  obtain ⟨z, hz, z0, z1⟩ := cost80_ok c b60 hb60.symm c0 c1
  have hbig := big40 c0 c1
  have hmul : mulOk (c + 1) (c + 3) = true := mulOk_of 140 140 hbig.1 hbig.2 (by decide)
  have m0 := Int.emod_nonneg (c / 7) (show (heads.length : Int) ≠ 0 by omega)
  have m1 := Int.emod_lt_of_pos (c / 7) (show (0 : Int) < (heads.length : Int) by omega)
  obtain ⟨n0, hn0, hnm⟩ := atI_some (xs := heads) m0 m1
  have hpos : (0 : Int) < (heads.length : Int) := by omega
  obtain ⟨name, hname, hnmem, hnk⟩ : ∃ name, (if (k : Int) < (heads.length : Int) then atI heads (k : Int) else some n0) = some name ∧ name ∈ heads ∧ ∀ h : k < heads.length, name = heads[k] := by
    by_cases h : k < heads.length
    · refine ⟨heads[k], ?_, List.getElem_mem h, fun _ => rfl⟩
      rw [if_pos (by omega)]
      exact atI_nat (List.getElem?_eq_getElem h)
    · refine ⟨n0, ?_, hnm, fun z => absurd z h⟩
      rw [if_neg (by omega)]
  obtain ⟨parts, hlp, k1, k2⟩ := parts80_ok c (some (k : Int)) heads name c0 hh hl hl' b20 q20 hP20
  refine ⟨(name, parts, z), ?_, ⟨hh _ hnmem, fun p hp => (k1 p hp).elim (fun x => .inl x.1) .inr, by show parts.length ≤ 50; omega, z0, z1⟩, fun p hp hN => (k1 p hp).elim (fun x => x.2) fun x => (word_no_name x hN).elim, hnmem, hnk⟩
  rw [m__law_rule_at]
  unfold b__law_rule
  rw [hP40, hP60]
  clear hP40 hP20 hP60 p40 p20 p60 hb40 hb20 hb60 q20 k1 k2 hnk hnmem hnm m0 m1 hbig z0 z1 c0 c1 hh hl hl'
  by_cases h : (k : Int) < (heads.length : Int)
  · rw [if_pos h] at hname
    walk_at "go"
  · rw [if_neg h] at hname
    cases hname
    walk_at "go"
theorem joinL_app (S : List Nat) (a b : List Nat) : ∀ ps : List (List Nat), ps ≠ [] → TL.joinL S (ps ++ [a, b]) = TL.joinL S ps ++ S ++ a ++ S ++ b
  | [], h => absurd rfl h
  | [p], _ => by simp [TL.joinL]
  | p :: q :: r, _ => by
    have ih := joinL_app S a b (q :: r) (by simp)
    show p ++ (S ++ TL.joinL S ((q :: r) ++ [a, b])) = p ++ (S ++ TL.joinL S (q :: r)) ++ S ++ a ++ S ++ b
    rw [ih]
    simp
theorem tl_inj {x y : Str} (h : x.cps.toList = y.cps.toList) : x = y := by
  cases x
  cases y
  simp at h
  rw [h]
theorem colonS_tl : (Str.ofString " : ").cps.toList = [32, 58, 32] := by decide +kernel
theorem colon_tl : (Str.ofString ":").cps.toList = [58] := by decide +kernel
theorem shown_same (name : Str) (parts : List Str) (n : Str) : Txt.join blankS (name :: Str.ofString "=" :: parts) ++ Str.ofString " : " ++ n = Txt.join blankS ((name :: Str.ofString "=" :: parts) ++ [Str.ofString ":", n]) := by
  refine tl_inj ?_
  rw [cps_cat, cps_cat]
  show TL.tl _ ++ _ ++ _ = TL.tl _
  rw [TL.join_eq, TL.join_eq, TL.tl_join, TL.tl_join, List.map_append, blank_tl, colonS_tl]
  show _ = TL.joinL [32] (_ ++ [TL.tl (Str.ofString ":"), TL.tl n])
  rw [joinL_app _ _ _ _ (by simp), show TL.tl (Str.ofString ":") = [58] from colon_tl]
  simp
theorem law_shown_ok (g : List RuleT) (h : ∀ r ∈ g, RuleT80 r) (hl : g.length ≤ 1000) : m__law_shown g = some (Txt.join feedS (rowsOf g)) := by
  have hj := (fJoin_ok feed_tl feed_ok.1 (by decide) (rows_clean h hl)).1
  have hlp : ∃ Γ', lp__law_shown_1 (some g, some [], none, none, none, none, ()) = some (.nx Γ') ∧ (fun (pre : List RuleT) (Γ : Gam g__law_shown) => Γ = (none, some (rowsOf pre), none, none, none, none, ())) g Γ' := by
    rw [lp__law_shown_1_eq]
    refine sFor_inv (fun (pre : List RuleT) (Γ : Gam g__law_shown) => Γ = (none, some (rowsOf pre), none, none, none, none, ())) (xs := g) rfl rfl ?_
    rintro pre r q Γ he rfl
    have hm : r ∈ g := by rw [he]; simp
    have hlen : pre.length < g.length := by rw [he]; simp
    have hr := h r hm
    have hjr := (fJoin_ok blank_tl blank_ok.1 (by decide) (tokens_clean hr)).1
    have hline : (rowsOf pre).length < sizeLine := by
      unfold rowsOf
      rw [List.length_map]
      exact lt_line (by omega)
    have hsnoc : rowsOf (pre ++ [r]) = rowsOf pre ++ [Txt.join blankS (tokens r)] := by
      unfold rowsOf
      rw [List.map_append, List.map_singleton]
    rw [hsnoc]
    clear hsnoc h he hm hlen hj
    obtain ⟨name, parts, cost⟩ := r
    refine ⟨(none, some (rowsOf pre ++ [Txt.join blankS (tokens (name, parts, cost))]), some name, some parts, some cost, some (Txt.join blankS (tokens (name, parts, cost))), ()), .inl ?_, rfl⟩
    have hfew : parts.length ≤ 50 := hr.few
    have hc1 : fCatL [name, Str.ofString "="] parts = some (name :: Str.ofString "=" :: parts) := catL_ok (by simp; omega)
    unfold lb__law_shown_1
    by_cases hc : 0 < cost
    · have ht : tokens (name, parts, cost) = (name :: Str.ofString "=" :: parts) ++ [Str.ofString ":", numT cost.toNat] := if_pos hc
      have hs : fStrI cost = some (numT cost.toNat) := strI_big (hr.c0) (hr.c1)
      have hcl := tokens_clean hr
      have hjl := (fJoin_ok blank_tl blank_ok.1 (by decide) hcl).2
      rw [ht] at hjr hcl hjl ⊢
      have hcl2 : Clean 32 100 (name :: Str.ofString "=" :: parts) := ⟨fun p hp => hcl.ok p (List.mem_append_left _ hp), fun p hp => hcl.free p (List.mem_append_left _ hp), by have := hcl.few; simp at this ⊢; omega, fun p hp => hcl.short p (List.mem_append_left _ hp)⟩
      have hj2 := (fJoin_ok blank_tl blank_ok.1 (by decide) hcl2).1
      have hjl2 := (fJoin_ok blank_tl blank_ok.1 (by decide) hcl2).2
      have hsame := shown_same name parts (numT cost.toNat)
      have hnl : (numT cost.toNat).length ≤ 100 := hcl.short _ (by simp)
      have l3 : (Str.ofString " : ").length = 3 := by decide +kernel
      have hq1 : fCat (Txt.join blankS (name :: Str.ofString "=" :: parts)) (Str.ofString " : ") = some (Txt.join blankS (name :: Str.ofString "=" :: parts) ++ Str.ofString " : ") := okIf_true (lenOk_le (by simp at hjl2 ⊢; omega))
      have hq2 : fCat (Txt.join blankS (name :: Str.ofString "=" :: parts) ++ Str.ofString " : ") (numT cost.toNat) = some (Txt.join blankS ((name :: Str.ofString "=" :: parts) ++ [Str.ofString ":", numT cost.toNat])) := by
        rw [← hsame]
        refine okIf_true (lenOk_le ?_)
        rw [Str.length_append]
        simp at hjl2 ⊢
        omega
      clear hsame hjl hjl2 hcl hcl2 hnl l3 hfew hr ht hjr
      generalize Txt.join blankS ((name :: Str.ofString "=" :: parts) ++ [Str.ofString ":", numT cost.toNat]) = W at hq2 ⊢
      generalize Txt.join blankS (name :: Str.ofString "=" :: parts) ++ Str.ofString " : " = W2 at hq1 hq2
      generalize Txt.join blankS (name :: Str.ofString "=" :: parts) = W3 at hq1 hj2
      generalize name :: Str.ofString "=" :: parts = B at hc1 hj2
      walk_at "go"
    · have ht : tokens (name, parts, cost) = name :: Str.ofString "=" :: parts := if_neg hc
      rw [ht] at hjr ⊢
      clear ht hfew hr
      generalize name :: Str.ofString "=" :: parts = B at hc1 hjr ⊢
      walk_at "go"
  obtain ⟨_, hlp, rfl⟩ := hlp
  rw [m__law_shown_at]
  unfold b__law_shown
  clear h hl
  walk_at "go"
theorem cut_to3 {α : Type} (xs : List α) : (cutD xs (some 1) (some 4)).length ≤ 3 := by
  unfold cutD
  have e1 : HT.sIx xs.length 0 (some 1) = min 1 xs.length := by
    show (if (1 : Int) < 0 then ((1 : Int) + (xs.length : Int)).toNat else min (1 : Int).toNat xs.length) = _
    rw [if_neg (by decide)]
    rfl
  have e2 : HT.sIx xs.length xs.length (some 4) = min 4 xs.length := by
    show (if (4 : Int) < 0 then ((4 : Int) + (xs.length : Int)).toNat else min (4 : Int).toNat xs.length) = _
    rw [if_neg (by decide)]
    rfl
  rw [e1, e2, List.length_take, List.length_drop]
  omega
theorem rules80_ok (script : List Int) (hs : script.length ≤ 63) : ∃ (heads : List Str) (rules : List RuleT), m__law_rules script = some rules ∧ (∀ r ∈ rules, RuleT80 r) ∧ rules ≠ [] ∧ rules.length ≤ 9 ∧ ∀ r ∈ rules, ∀ p ∈ r.2.1, NameT p → p ∈ rules.map (·.1) := by
  have hcell : m__law_cell_at (script, 0) = some (script.getD 0 0) := cell_at_ok script 0
  have hcl := cut_len script (some 1) (some 4)
  have hc3 := cut_to3 script
  have hcat : fCatL (cutD script (some 1) (some 4)) [script.getD 0 0] = some (cutD script (some 1) (some 4) ++ [script.getD 0 0]) := catL_ok (by simp; omega)
  obtain ⟨heads, hh, hN, hl, hpos⟩ := heads80_ok (cutD script (some 1) (some 4) ++ [script.getD 0 0]) (by simp; omega) (by simp)
  have hl100 : heads.length ≤ 4 := by
    rw [List.length_append, List.length_singleton] at hl
    omega
  obtain ⟨more, hmore⟩ : ∃ m : Nat, (m : Int) = script.getD 0 0 / 8 % 6 := ⟨(script.getD 0 0 / 8 % 6).toNat, Int.toNat_of_nonneg (by omega)⟩
  have hm6 : more < 6 := by omega
  have hlp : ∃ Γ', lp__law_rules_1 (some script, some heads, some [], none, ()) = some (.nx Γ') ∧ (fun (pre : List Int) (Γ : Gam g__law_rules) => ∃ rules : List RuleT, Γ = (some script, some heads, some rules, none, ()) ∧ (∀ r ∈ rules, RuleT80 r) ∧ rules.length = pre.length ∧ (∀ r ∈ rules, ∀ p ∈ r.2.1, NameT p → p ∈ heads) ∧ ∀ j, j < pre.length → ∀ h : j < heads.length, heads[j] ∈ rules.map (·.1)) (rng 0 ((heads.length + more : Nat) : Int)) Γ' := by
    rw [lp__law_rules_1_eq]
    refine sFor_inv (fun (pre : List Int) (Γ : Gam g__law_rules) => ∃ rules : List RuleT, Γ = (some script, some heads, some rules, none, ()) ∧ (∀ r ∈ rules, RuleT80 r) ∧ rules.length = pre.length ∧ (∀ r ∈ rules, ∀ p ∈ r.2.1, NameT p → p ∈ heads) ∧ ∀ j, j < pre.length → ∀ h : j < heads.length, heads[j] ∈ rules.map (·.1)) (xs := rng 0 ((heads.length + more : Nat) : Int)) ?_ ?_ ?_
    · have := fRng1_of (n := heads.length + more) (by omega)
      rw [show ((heads.length + more : Nat) : Int) = (heads.length : Int) + script.getD 0 0 / 8 % 6 from by rw [← hmore]; omega] at this ⊢
      have d8 : divOk 8 = true := by decide +kernel
      have h6 : (0 : Int) < 6 := by decide
      clear hN hcat hh hmore hl
      walk_at "go"
    · exact ⟨[], rfl, fun r h => by simp at h, rfl, fun r h => by simp at h, fun j h => by simp at h⟩
    · rintro pre x q Γ he ⟨rules, rfl, k1, k2, k3, k4⟩
      obtain ⟨hp, rfl⟩ := rng_split he
      have hc4 : m__law_cell_at (script, 4 + (pre.length : Int)) = some (script.getD (4 + pre.length) 0) := cell_at_ok script (4 + pre.length)
      obtain ⟨r, hr, g1, g2, g3, g4⟩ := rule80_ok (script.getD (4 + pre.length) 0) pre.length heads hN hpos (by omega)
      have hline : rules.length < sizeLine := lt_line (by omega)
      refine ⟨(some script, some heads, some (rules ++ [r]), some (pre.length : Int), ()), .inl ?_, _, rfl, fun y hy => ?_, by simp [k2], fun y hy p hp hNp => ?_, fun j hj h => ?_⟩
      · unfold lb__law_rules_1
        clear hN k1 k2 k3 k4 g1 g2 g3 g4 he hcat hh hmore hl
        walk_at "go"
      · rcases List.mem_append.mp hy with hy | hy
        · exact k1 y hy
        · rw [List.mem_singleton] at hy
          rw [hy]
          exact g1
      · rcases List.mem_append.mp hy with hy | hy
        · exact k3 y hy p hp hNp
        · rw [List.mem_singleton] at hy
          rw [hy] at hp
          exact g2 p hp hNp
      · rw [List.map_append]
        by_cases hj2 : j < pre.length
        · exact List.mem_append_left _ (k4 j hj2 h)
        · have : j = pre.length := by
            simp at hj
            omega
          subst this
          refine List.mem_append_right _ ?_
          rw [← g4 h]
          simp
  obtain ⟨Γ', e, rules, rfl, k1, k2, k3, k4⟩ := hlp
  rw [rng_len, Int.sub_zero, Int.toNat_natCast] at k2 k4
  refine ⟨heads, rules, ?_, k1, fun z => ?_, by omega, fun r hr p hp hNp => ?_⟩
  · rw [m__law_rules_at]
    unfold b__law_rules
    clear hN k1 k2 k3 k4 hmore hl
    walk_at "go"
  · rw [z] at k2
    simp at k2
    omega
  · have hm := k3 r hr p hp hNp
    obtain ⟨j, hj, ej⟩ := List.getElem_of_mem hm
    rw [← ej]
    exact k4 j (by omega) hj
def partL (s : Nat) : List Nat → List (List Nat)
  | [] => [[]]
  | c :: r => if c = s then [] :: partL s r else match partL s r with
    | [] => [[c]]
    | p :: q => (c :: p) :: q
theorem partL_ne (s : Nat) : ∀ l, partL s l ≠ []
  | [] => by simp [partL]
  | c :: r => by
    unfold partL
    split
    · simp
    · split <;> simp
theorem joinL_cons (S : List Nat) (p : List Nat) {ps : List (List Nat)} (h : ps ≠ []) : TL.joinL S (p :: ps) = p ++ (S ++ TL.joinL S ps) := by
  cases ps with
  | nil => exact absurd rfl h
  | cons q r => rfl
theorem partL_join (s : Nat) : ∀ l, TL.joinL [s] (partL s l) = l
  | [] => rfl
  | c :: r => by
    have ih := partL_join s r
    have hn := partL_ne s r
    unfold partL
    split
    · rename_i e
      rw [joinL_cons _ _ hn, ih, e]
      rfl
    · cases hp : partL s r with
      | nil => exact absurd hp hn
      | cons p q =>
        rw [hp] at ih
        cases q with
        | nil =>
          show TL.joinL [s] [c :: p] = _
          have ih : p = r := ih
          rw [← ih]
          rfl
        | cons q0 q1 =>
          show TL.joinL [s] ((c :: p) :: q0 :: q1) = _
          rw [joinL_cons _ _ (by simp)]
          rw [joinL_cons _ _ (by simp)] at ih
          show c :: (p ++ _) = _
          rw [ih]
theorem partL_mem (s : Nat) : ∀ l, ∀ p ∈ partL s l, s ∉ p ∧ p.length ≤ l.length ∧ ∀ c ∈ p, c ∈ l
  | [], p, hp => by
    have hp : p ∈ [[]] := hp
    rw [List.mem_singleton] at hp
    rw [hp]
    exact ⟨by simp, by simp, fun c hc => by cases hc⟩
  | c :: r, p, hp => by
    have ih := partL_mem s r
    unfold partL at hp
    split at hp
    · rcases List.mem_cons.mp hp with rfl | hp
      · exact ⟨by simp, by simp, fun c hc => by cases hc⟩
      · obtain ⟨a, b, d⟩ := ih p hp
        exact ⟨a, by rw [List.length_cons]; omega, fun x hx => List.mem_cons_of_mem _ (d x hx)⟩
    · rename_i hne
      cases hq : partL s r with
      | nil => exact absurd hq (partL_ne s r)
      | cons p0 q =>
        rw [hq] at hp ih
        have hp : p ∈ (c :: p0) :: q := hp
        rcases List.mem_cons.mp hp with rfl | hp
        · obtain ⟨a, b, d⟩ := ih p0 List.mem_cons_self
          refine ⟨fun z => ?_, by rw [List.length_cons, List.length_cons]; omega, fun x hx => ?_⟩
          · rcases List.mem_cons.mp z with z | z
            · exact hne z.symm
            · exact a z
          · rcases List.mem_cons.mp hx with rfl | hx
            · exact List.mem_cons_self
            · exact List.mem_cons_of_mem _ (d x hx)
        · obtain ⟨a, b, d⟩ := ih p (List.mem_cons_of_mem _ hp)
          exact ⟨a, by rw [List.length_cons]; omega, fun x hx => List.mem_cons_of_mem _ (d x hx)⟩
theorem partL_len (s : Nat) : ∀ l, (partL s l).length ≤ l.length + 1
  | [] => by simp [partL]
  | c :: r => by
    have ih := partL_len s r
    unfold partL
    split
    · rw [List.length_cons, List.length_cons]; omega
    · cases hq : partL s r with
      | nil => simp
      | cons p q =>
        rw [hq] at ih
        show ((c :: p) :: q).length ≤ _
        rw [List.length_cons] at ih ⊢
        rw [List.length_cons]
        omega
def ofL (l : List Nat) : Str := ⟨l.toArray⟩
theorem ofL_tl (l : List Nat) : (ofL l).cps.toList = l := by simp [ofL]
theorem ofL_len (l : List Nat) : (ofL l).length = l.length := by
  show (ofL l).cps.size = _
  simp [ofL]
theorem ofL_inj {x : Str} {l : List Nat} (h : x.cps.toList = l) : x = ofL l := by
  cases x
  simp only [ofL]
  congr 1
  rw [← h]
structure PartsT (s : Nat) (x : Str) (parts : List Str) : Prop where
  ne : parts ≠ []
  few : parts.length ≤ x.length + 1
  free : ∀ p ∈ parts, s ∉ p.cps.toList
  len : ∀ p ∈ parts, p.length ≤ x.length
  mem : ∀ p ∈ parts, ∀ c ∈ p.cps.toList, c ∈ x.cps.toList
  ok : ∀ p ∈ parts, PyData.strOk p = true
theorem split_any {y : Str} {s : Nat} (hy : TL.tl y = [s]) (hys : y.cps.all (· < 256) = true) {x : Str} (hx : PyData.strOk x = true) (hl : x.length ≤ 1000000) : ∃ parts, fSplit x y = some parts ∧ Txt.join y parts = x ∧ PartsT s x parts := by
  obtain ⟨parts, hp⟩ : ∃ parts, parts = (partL s x.cps.toList).map ofL := ⟨_, rfl⟩
  have hm : ∀ p ∈ parts, ∃ l ∈ partL s x.cps.toList, p = ofL l := fun p h => by
    rw [hp] at h
    obtain ⟨l, h1, h2⟩ := List.mem_map.mp h
    exact ⟨l, h1, h2.symm⟩
  have xl : x.cps.toList.length = x.length := str_len x
  have hne : parts ≠ [] := by
    rw [hp]
    exact fun z => partL_ne s _ (List.map_eq_nil_iff.mp z)
  have hj : Txt.join y parts = x := by
    have h1 : (Txt.join y parts).cps.toList = x.cps.toList := by
      show TL.tl (Txt.join y parts) = _
      rw [TL.join_eq, TL.tl_join, hy, hp, List.map_map]
      have : (partL s x.cps.toList).map (TL.tl ∘ ofL) = partL s x.cps.toList := by
        conv => rhs; rw [← List.map_id (partL s x.cps.toList)]
        exact List.map_congr_left fun l _ => ofL_tl l
      rw [this]
      exact partL_join s _
    exact tl_inj h1
  have P : PartsT s x parts := ⟨hne, by rw [hp, List.length_map]; have := partL_len s x.cps.toList; omega, fun p h => by
    obtain ⟨l, h1, rfl⟩ := hm p h
    rw [ofL_tl]
    exact (partL_mem s _ l h1).1, fun p h => by
    obtain ⟨l, h1, rfl⟩ := hm p h
    rw [ofL_len]
    have := (partL_mem s _ l h1).2.1
    omega, fun p h => by
    obtain ⟨l, h1, rfl⟩ := hm p h
    rw [ofL_tl]
    exact (partL_mem s _ l h1).2.2, fun p h => by
    obtain ⟨l, h1, rfl⟩ := hm p h
    rw [strOk_iff, ofL_tl]
    exact fun c hc => strOk_iff.mp hx c ((partL_mem s _ l h1).2.2 c hc)⟩
  have hs : Txt.split x y = parts := by
    rw [← hj]
    exact TL.split_join hy hys hne P.free
  refine ⟨parts, ?_, hj, P⟩
  have yl : y.length = 1 := congrArg List.length hy
  unfold fSplit
  rw [hs]
  refine okIf_true ?_
  rw [Bool.and_eq_true, Bool.and_eq_true]
  refine ⟨by rw [yl]; rfl, decide_eq_true (by rw [sizeLine_eq]; omega), ?_⟩
  rw [List.all_eq_true]
  exact P.ok
theorem numL_all : ∀ (k : Nat) (l : List Nat), l.length = k → (∀ c ∈ l, 48 ≤ c ∧ c ≤ 57) → ∀ c r, l = c :: r → c ≠ 48 → ∃ n, 0 < n ∧ TL.numL n = l ∧ n < 10 ^ k
  | 0, l, hl, _, c, r, e, _ => by rw [e] at hl; cases hl
  | k + 1, l, hl, hd, c, r, e, hc => by
    cases hr : r.reverse with
    | nil =>
      have : r = [] := List.reverse_eq_nil_iff.mp hr
      subst this
      subst e
      have h1 := hd c List.mem_cons_self
      have hk : k = 0 := by simp at hl; omega
      subst hk
      exact ⟨c - 48, by omega, by rw [TL.numL_lt (by omega), show 48 + (c - 48) = c by omega], by omega⟩
    | cons d t =>
      have er : r = t.reverse ++ [d] := by
        have := congrArg List.reverse hr
        rw [List.reverse_reverse, List.reverse_cons] at this
        exact this
      have el : l = (c :: t.reverse) ++ [d] := by rw [e, er]; rfl
      obtain ⟨n, n0, n1, n2⟩ := numL_all k (c :: t.reverse) (by rw [el, List.length_append, List.length_singleton] at hl; omega) (fun x hx => hd x (by rw [el]; exact List.mem_append_left _ hx)) c t.reverse rfl hc
      have h1 := hd d (by rw [el]; exact List.mem_append_right _ List.mem_cons_self)
      refine ⟨10 * n + (d - 48), by omega, ?_, ?_⟩
      · rw [TL.numL_step (by omega), show (10 * n + (d - 48)) / 10 = n by omega, n1, show (10 * n + (d - 48)) % 10 = d - 48 by omega, show 48 + (d - 48) = d by omega, el]
      · rw [Nat.pow_succ]
        omega
theorem fig_range {c : Nat} (h : c ∈ figS.cps.toList) : 48 ≤ c ∧ c ≤ 57 := by
  have : ∀ c ∈ figS.cps.toList, 48 ≤ c ∧ c ≤ 57 := by decide +kernel
  exact this c h
theorem figs_num {t : Str} (h : Of figS t) (h0 : t.length ≠ 0) (h60 : t.length ≤ 60) (hz : ∀ r, t.cps.toList ≠ 48 :: r) : ∃ n, t = numT n ∧ 0 < n ∧ n < 10 ^ 60 := by
  have xl : t.cps.toList.length = t.length := str_len t
  cases hl : t.cps.toList with
  | nil => rw [hl] at xl; exact absurd xl.symm h0
  | cons c r =>
    obtain ⟨n, n0, n1, n2⟩ := numL_all t.length t.cps.toList xl (fun x hx => fig_range (h x hx)) c r hl (fun z => hz r (by rw [hl, z]))
    refine ⟨n, ?_, n0, Nat.lt_of_lt_of_le n2 (Nat.pow_le_pow_right (by decide) h60)⟩
    rw [ofL_inj (x := t) rfl, ← n1, ← num_tl n]
    exact (ofL_inj rfl).symm
theorem signs_all {t s : Str} {F : Option (List Bool)} (h : t.length ≤ 100000) (hF : F = some ((t.cps.toList.map fun c => (⟨#[c]⟩ : Str)).map fun x => !(Builtin.Str.occurrences s x 0 s.length 1).isEmpty)) : ∃ bs, F = some bs ∧ (bs.all id = true ↔ Of s t) := by
  refine ⟨_, hF, ?_⟩
  rw [List.all_eq_true]
  constructor
  · intro z c hc
    have := z _ (List.mem_map.mpr ⟨⟨#[c]⟩, List.mem_map.mpr ⟨c, hc, rfl⟩, rfl⟩)
    have h1 := fInS_one s c
    unfold fInS at h1
    rw [Option.some.injEq] at h1
    simp only [id] at this
    rw [h1] at this
    exact of_decide_eq_true this
  · rintro ho b hb
    obtain ⟨x, hx, rfl⟩ := List.mem_map.mp hb
    obtain ⟨c, hc, rfl⟩ := List.mem_map.mp hx
    have h1 := fInS_one s c
    unfold fInS at h1
    rw [Option.some.injEq] at h1
    simp only [id]
    rw [h1]
    exact decide_eq_true (ho c hc)
theorem law_of_eq (t s : Str) (most : Int) (h : t.length ≤ 100000) : ∃ b, m__law_of (t, s, most) = some b ∧ (b = true ↔ (t.length ≠ 0 ∧ (t.length : Int) ≤ most) ∧ Of s t) := by
  have hl := fLenS_ok h
  have hlc : lc__law_of_1 (some t, some s, some most, none, ()) = some ((t.cps.toList.map fun c => (⟨#[c]⟩ : Str)).map fun x => !(Builtin.Str.occurrences s x 0 s.length 1).isEmpty) := by
    rw [lc__law_of_1_eq]
    refine eLc_of (xs := t.cps.toList.map fun c => (⟨#[c]⟩ : Str)) rfl (lcL_all (fun x => !(Builtin.Str.occurrences s x 0 s.length 1).isEmpty) _ fun x _ => rfl) (lenOk_le ?_)
    rw [List.length_map, List.length_map, str_len]
    exact h
  obtain ⟨bs, hbs, hall⟩ := signs_all h hlc
  clear hlc
  by_cases h0 : (0 : Int) < (t.length : Int)
  · by_cases h1 : (t.length : Int) ≤ most
    · refine ⟨bs.all id, ?_, by rw [hall]; exact ⟨fun z => ⟨⟨by omega, h1⟩, z⟩, fun z => z.2⟩⟩
      rw [m__law_of_at]
      unfold b__law_of
      clear h hall
      walk_at "go"
    · refine ⟨false, ?_, ⟨fun z => (by cases z), fun z => absurd z.1.2 h1⟩⟩
      rw [m__law_of_at]
      unfold b__law_of
      clear h hall
      walk_at "go"
  · refine ⟨false, ?_, ⟨fun z => (by cases z), fun z => by omega⟩⟩
    rw [m__law_of_at]
    unfold b__law_of
    clear h hall
    walk_at "go"
theorem bool_same {a b : Bool} (h : a = true ↔ b = true) : a = b := by
  cases a <;> cases b <;> simp at h <;> rfl
theorem word_case (t : Str) (h : t.length ≤ 100000) : ∃ b, m_made_of (t, smallS) = some b ∧ m__law_of (t, smallS, 8) = some b ∧ (b = true ↔ WordT t) := by
  obtain ⟨b, e, hb⟩ := made_of_eq t smallS h
  obtain ⟨c, e2, hc⟩ := law_of_eq t smallS 8 h
  have : c = b := bool_same (by
    rw [hb, hc]
    exact ⟨fun z => ⟨⟨z.1.1, by omega⟩, z.2⟩, fun z => ⟨⟨z.1.1, by omega⟩, z.2⟩⟩)
  subst this
  exact ⟨c, e, e2, by rw [hb]; exact ⟨fun z => ⟨z.2, z.1.1, z.1.2⟩, fun z => ⟨⟨z.ne, z.le⟩, z.of⟩⟩⟩
theorem name_case (t : Str) (h : t.length ≤ 100000) (hok : PyData.strOk t = true) : ∃ b, m_is_name_text t = some b ∧ m__law_is_head t = some b ∧ (b = true ↔ NameT t) := by
  have fin : ∀ b, m_is_name_text t = some b → (b = true → NameT t) → (b = true ↔ NameT t) := fun b e k => ⟨k, fun n => by
    have := n.txt
    rw [e] at this
    exact Option.some.inj this⟩
  have he : Str.empty = Str.ofString "" := rfl
  by_cases hm : 95 ∈ t.cps.toList
  · obtain ⟨x, y, ex, hx⟩ := List.eq_append_cons_of_mem hm
    obtain ⟨l, rfl⟩ : ∃ l, x = l := ⟨_, rfl⟩
    have et : t = ofL x ++ lineS ++ ofL y := by
      refine tl_inj ?_
      rw [cps_cat, cps_cat, ofL_tl, ofL_tl, show lineS.cps.toList = [95] from line_tl, ex]
      simp
    have hp : Txt.partition (ofL x ++ lineS ++ ofL y) lineS = (ofL x, lineS, ofL y) := TL.partition_app line_tl fun z => hx (by
      have z : 95 ∈ (ofL x).cps.toList := z
      rw [ofL_tl] at z
      exact z)
    have xl : x.length + (1 + y.length) ≤ 100000 := by
      have := congrArg List.length ex
      rw [str_len, List.length_append, List.length_cons] at this
      omega
    have hf : fPartition (ofL x ++ lineS ++ ofL y) lineS = some (ofL x, lineS, ofL y) := by
      unfold fPartition
      rw [hp]
      have hx2 : ∀ z : List Nat, (∀ c ∈ z, c ∈ t.cps.toList) → PyData.strOk (ofL z) = true := fun z hz => by
        rw [strOk_iff, ofL_tl]
        exact fun c hc => strOk_iff.mp hok c (hz c hc)
      refine okIf_true ?_
      simp only [Bool.and_eq_true]
      refine ⟨by decide +kernel, decide_eq_true (by rw [sizeLine_eq, len_cat, len_cat, line_len, ofL_len, ofL_len]; omega), hx2 x fun c hc => by rw [ex]; exact List.mem_append_left _ hc, by decide +kernel, hx2 y fun c hc => by rw [ex]; exact List.mem_append_right _ (List.mem_cons_of_mem _ hc)⟩
    obtain ⟨b1, e1, h1⟩ := made_of_eq (ofL x) greatS (by rw [ofL_len]; omega)
    obtain ⟨c1, f1, g1⟩ := law_of_eq (ofL x) greatS 8 (by rw [ofL_len]; omega)
    obtain rfl : c1 = b1 := bool_same (by
      rw [h1, g1]
      exact ⟨fun z => ⟨⟨z.1.1, by omega⟩, z.2⟩, fun z => ⟨⟨z.1.1, by omega⟩, z.2⟩⟩)
    obtain ⟨b2, e2, h2⟩ := made_of_eq (ofL y) figS (by rw [ofL_len]; omega)
    obtain ⟨c2, f2, g2⟩ := law_of_eq (ofL y) figS 4 (by rw [ofL_len]; omega)
    have hly := fLenS_ok (x := ofL y) (by rw [ofL_len]; omega)
    have hc2 : c2 = (b2 && decide (((ofL y).length : Int) ≤ 4)) := bool_same (by
      rw [g2, Bool.and_eq_true, h2, decide_eq_true_eq]
      exact ⟨fun z => ⟨⟨⟨z.1.1, by omega⟩, z.2⟩, z.1.2⟩, fun z => ⟨⟨z.1.1.1, z.2⟩, z.1.2⟩⟩)
    have hne : ¬ (lineS = Str.ofString "") := by decide +kernel
    have k1 : m_is_name_text t = some (c1 && c2) := by
      rw [et, m_is_name_text_at, hc2]
      unfold b_is_name_text
      clear h1 g1 h2 g2 hx ex xl hp et fin hok h hm
      cases c1 <;> cases b2 <;> by_cases h4 : ((ofL y).length : Int) ≤ 4 <;> walk_at "go" <;> rfl
    have k2 : m__law_is_head t = some (c1 && c2) := by
      rw [et, m__law_is_head_at]
      unfold b__law_is_head
      clear h1 g1 h2 g2 hx ex xl hp et fin hok h hm hc2
      cases c1 <;> cases c2 <;> walk_at "go" <;> rfl
    refine ⟨c1 && c2, k1, k2, fin _ k1 fun z => ?_⟩
    rw [Bool.and_eq_true] at z
    obtain ⟨⟨p1, p2⟩, p3⟩ := h1.mp z.1
    obtain ⟨⟨q1, q2⟩, q3⟩ := g2.mp z.2
    rw [et]
    exact nameT_line p3 p1 p2 q3 q1 (by omega)
  · have hp : Txt.partition t lineS = (t, Str.empty, Str.empty) := TL.partition_none line_tl hm
    have hf : fPartition t lineS = some (t, Str.empty, Str.empty) := by
      unfold fPartition
      rw [hp]
      refine okIf_true ?_
      simp only [Bool.and_eq_true]
      exact ⟨by decide +kernel, decide_eq_true (by rw [sizeLine_eq]; omega), hok, by decide +kernel, by decide +kernel⟩
    obtain ⟨b1, e1, h1⟩ := made_of_eq t greatS h
    obtain ⟨c1, f1, g1⟩ := law_of_eq t greatS 8 h
    obtain rfl : c1 = b1 := bool_same (by
      rw [h1, g1]
      exact ⟨fun z => ⟨⟨z.1.1, by omega⟩, z.2⟩, fun z => ⟨⟨z.1.1, by omega⟩, z.2⟩⟩)
    have k1 : m_is_name_text t = some c1 := by
      rw [m_is_name_text_at]
      unfold b_is_name_text
      clear h1 g1 hp fin hok h hm
      cases c1 <;> walk_at "go"
    have k2 : m__law_is_head t = some c1 := by
      rw [m__law_is_head_at]
      unfold b__law_is_head
      clear h1 g1 hp fin hok h hm
      cases c1 <;> walk_at "go"
    refine ⟨c1, k1, k2, fin _ k1 fun z => ?_⟩
    obtain ⟨⟨p1, p2⟩, p3⟩ := h1.mp z
    exact nameT_plain p3 p1 p2
abbrev NoText : Str := Str.ofString "NoText"
abbrev eqS : Str := Str.ofString "="
abbrev noughtS : Str := Str.ofString "0"
theorem fNotInS_one (s : Str) (c : Nat) : fNotInS ⟨#[c]⟩ s = some (!decide (c ∈ s.cps.toList)) := by
  have h1 := fInS_one s c
  unfold fInS at h1
  unfold fNotInS
  rw [Option.some.inj h1]
theorem cost_loop (t : Str) : Ok (lp_cost_of_1 ((some t, none, ()) : Gam g_cost_of)) fun r => (r = .nx (some t, none, ()) ∧ Of figS t) ∨ ((∃ Γ, r = .rt (NoText, none) Γ) ∧ ¬ Of figS t) := by
  rw [lp_cost_of_1_eq]
  refine Ok_sFor (t.cps.toList.map fun c => (⟨#[c]⟩ : Str)) (fun _ : Unit => ((some t, none, ()) : Gam g_cost_of)) (fun pre _ => ∀ x ∈ pre, ∀ c, x = ⟨#[c]⟩ → c ∈ figS.cps.toList) () (.is rfl) rfl (fun p hp => by cases hp) (fun pre x post _ he hI => ?_) fun _ hI => .inl ⟨rfl, fun c hc => hI ⟨#[c]⟩ (List.mem_map.mpr ⟨c, hc, rfl⟩) c rfl⟩
  have hx : x ∈ t.cps.toList.map fun c => (⟨#[c]⟩ : Str) := by rw [he]; simp
  obtain ⟨d, hd, rfl⟩ := List.mem_map.mp hx
  have hn := fNotInS_one figS d
  clear hx he
  unfold lb_cost_of_1
  walk_at "w"
  rw [hn]
  by_cases hm : d ∈ figS.cps.toList
  · rw [decide_eq_true hm]
    walk_at "w"
    refine ⟨(), rfl, fun x hx c e => ?_⟩
    rcases List.mem_append.mp hx with hx | hx
    · exact hI x hx c e
    · rw [List.mem_singleton] at hx
      rw [hx] at e
      have e2 : [d] = [c] := congrArg (fun s : Str => s.cps.toList) e
      rw [← List.head_eq_of_cons_eq e2]
      exact hm
  · rw [decide_eq_false hm]
    walk_at "w"
    exact .inr ⟨⟨_, rfl⟩, fun z => hm (z d hd)⟩
def CostR (t : Str) (r : Str × Option Int) : Prop := (∃ n : Nat, r = (default, some (n : Int)) ∧ t = numT n ∧ 0 < n ∧ n < 10 ^ 60 ∧ m__law_of (t, figS, 60) = some true ∧ ∃ x, fIxS t 0 = some x ∧ ¬ (x = noughtS)) ∨ (r = (NoText, none) ∧ (m__law_of (t, figS, 60) = some false ∨ (m__law_of (t, figS, 60) = some true ∧ fIxS t 0 = some noughtS)))
theorem cost_case (t : Str) (h : t.length ≤ 100000) : Ok (m_cost_of t) (CostR t) := by
  have hl := fLenS_ok h
  obtain ⟨b, hb, hbi⟩ := law_of_eq t figS 60 h
  have hq : ∀ p : Prop, (¬ ((t.length ≠ 0 ∧ (t.length : Int) ≤ 60) ∧ Of figS t)) → CostR t (NoText, none) := fun p z => .inr ⟨rfl, .inl (by
    rw [hb]
    cases b
    · rfl
    · exact absurd (hbi.mp rfl) z)⟩
  rw [m_cost_of_at]
  unfold b_cost_of
  cases e : t.cps.toList with
  | nil =>
    have ht : t = Str.ofString "" := tl_inj e
    have h0 : t.length = 0 := by rw [ht]; rfl
    walk_at "w"
    rw [decide_eq_true ht]
    walk_at "w"
    exact hq True fun z => z.1.1 h0
  | cons c r =>
    have hne : ¬ (t = Str.ofString "") := fun z => by
      rw [z] at e
      cases e
    walk_at "w"
    rw [decide_eq_false hne]
    walk_at "w"
    rw [hl]
    walk_at "w"
    refine Wif_dec (fun hc => ?_) fun hc => ?_
    · walk_at "w"
      exact hq True fun z => by have := z.1.2; omega
    walk_at "w"
    have hix : fIxS t 0 = some ⟨#[c]⟩ := by
      unfold fIxS
      rw [if_pos (lenOk_le h), e]
      have : atI (c :: r) ((0 : Nat) : Int) = some c := atI_nat rfl
      rw [show (0 : Int) = ((0 : Nat) : Int) from rfl, this]
      rfl
    rw [hix]
    walk_at "w"
    have h0 : t.length ≠ 0 := fun z => by
      have := congrArg List.length e
      rw [str_len, z] at this
      cases this
    refine Wif_dec (fun hd => ?_) fun hd => ?_
    · walk_at "w"
      refine .inr ⟨rfl, ?_⟩
      rw [hb, hix, hd]
      cases b
      · exact .inl rfl
      · exact .inr ⟨rfl, rfl⟩
    · walk_at "w"
      refine (cost_loop t).mono fun x hx => ?_
      rcases hx with ⟨rfl, ho⟩ | ⟨⟨Γ, rfl⟩, ho⟩
      · walk_at "w"
        obtain ⟨n, rfl, n0, n1⟩ := figs_num ho h0 (by omega) (fun r' z => hd (by
          rw [e] at z
          have := List.head_eq_of_cons_eq z
          rw [this]
          decide +kernel))
        have hint : fIntS (numT n) = some (n : Int) := by
          unfold fIntS
          rw [if_pos (by omega)]
          refine TL.int_num ?_
          have hs : (numT n).cps.toList.length ≤ 60 := by rw [str_len]; omega
          rw [num_tl] at hs
          omega
        rw [hint]
        walk_at "w"
        refine .inl ⟨n, rfl, rfl, n0, n1, ?_, _, hix, hd⟩
        rw [hb, hbi.mpr ⟨⟨h0, by omega⟩, ho⟩]
      · walk_at "w"
        exact hq True fun z => ho z.2
noncomputable def rr2 : Gam g_read_rule → Option (Fl (Gam g_read_rule) (Str × Option (den (Ty.tup (Ty.cons Ty.str (Ty.cons (Ty.vtup Ty.str) (Ty.last Ty.int))))))) :=
  (sSeq (sIf (eOr (e2 fLt (e1 fLen (eV (t := (Ty.list Ty.str)) (v_read_rule_words))) (eC (2 : Int))) (eOr (e2 fNeS (e2 atI (eV (t := (Ty.list Ty.str)) (v_read_rule_words)) (eC (1 : Int))) (eC (Str.ofString "="))) (eNot (e1 m_is_name_text (e2 atI (eV (t := (Ty.list Ty.str)) (v_read_rule_words)) (eC (0 : Int))))))) (sRaise (Str.ofString "NoText")) sNext)
  (sSeq lp_read_rule_1
  (sLift (sRet (eCons (e2 atI (eV (t := (Ty.list Ty.str)) (v_read_rule_words)) (eC (0 : Int))) (eCons (e3 fCutL (eV (t := (Ty.list Ty.str)) (v_read_rule_words)) (e1 (fun i => some (some i)) (eC (2 : Int))) (eC none)) (eV (t := Ty.int) (v_read_rule_cost))))))))
noncomputable def lr2 : Gam g__law_row → Option (Fl (Gam g__law_row) (den (Ty.opt (Ty.list Ty.str)))) :=
  (sSeq (sIf (eOr (e2 fLt (e1 fLen (eV (t := (Ty.list Ty.str)) (v__law_row_words))) (eC (2 : Int))) (eOr (e2 fNeS (e2 atI (eV (t := (Ty.list Ty.str)) (v__law_row_words)) (eC (1 : Int))) (eC (Str.ofString "="))) (eNot (e1 m__law_is_head (e2 atI (eV (t := (Ty.list Ty.str)) (v__law_row_words)) (eC (0 : Int))))))) (sRet (eC none)) sNext)
  (sSeq lp__law_row_1
  (sRetE (eSomeE (α := den (Ty.list Ty.str)) (eMove (t := (Ty.list Ty.str)) (v__law_row_words))))))
theorem b_read_rule_sp : b_read_rule =
  (sSeq (sSet (v_read_rule_words) (e2 fSplit (eV (t := Ty.str) (v_read_rule_text)) (eC (Str.ofString " "))))
  (sSeq (sSet (v_read_rule_cost) (eC (0 : Int)))
  (sSeq (sIf (eAnd (e2 fGt (e1 fLen (eV (t := (Ty.list Ty.str)) (v_read_rule_words))) (eC (3 : Int))) (e2 fEqS (e2 atI (eV (t := (Ty.list Ty.str)) (v_read_rule_words)) (e1 (fun a => some (-a)) (eC (2 : Int)))) (eC (Str.ofString ":")))) (sSeq (sSetR (v_read_rule_cost) (e1 m_cost_of (e2 atI (eV (t := (Ty.list Ty.str)) (v_read_rule_words)) (e1 (fun a => some (-a)) (eC (1 : Int))))))
  (sSet (v_read_rule_words) (e3 fCutL (eV (t := (Ty.list Ty.str)) (v_read_rule_words)) (eC none) (e1 (fun i => some (some i)) (e1 (fun a => some (-a)) (eC (2 : Int))))))) sNext)
  rr2))) := rfl
theorem b__law_row_sp : b__law_row =
  (sSeq (sSet (v__law_row_words) (e2 fSplit (eV (t := Ty.str) (v__law_row_row)) (eC (Str.ofString " "))))
  (sSeq (sIf (eAnd (e2 fGt (e1 fLen (eV (t := (Ty.list Ty.str)) (v__law_row_words))) (eC (3 : Int))) (e2 fEqS (e2 atI (eV (t := (Ty.list Ty.str)) (v__law_row_words)) (e1 (fun a => some (-a)) (eC (2 : Int)))) (eC (Str.ofString ":")))) (sSeq (sIf (eOr (eNot (e1 m__law_of (eCons (e2 atI (eV (t := (Ty.list Ty.str)) (v__law_row_words)) (e1 (fun a => some (-a)) (eC (1 : Int)))) (eCons (eC (Str.ofString "0123456789")) (eC (60 : Int)))))) (e2 fEqS (e2 fIxS (e2 atI (eV (t := (Ty.list Ty.str)) (v__law_row_words)) (e1 (fun a => some (-a)) (eC (1 : Int)))) (eC (0 : Int))) (eC (Str.ofString "0")))) (sRet (eC none)) sNext)
  (sSet (v__law_row_words) (e3 fCutL (eV (t := (Ty.list Ty.str)) (v__law_row_words)) (eC none) (e1 (fun i => some (some i)) (e1 (fun a => some (-a)) (eC (2 : Int))))))) sNext)
  lr2)) := rfl
structure Words (W : List Str) : Prop where
  ok : ∀ w ∈ W, PyData.strOk w = true
  len : ∀ w ∈ W, w.length ≤ 100000
  few : W.length ≤ 100001
def GoodP (p : Str) : Prop := NameT p ∨ WordT p
structure GoodB (W : List Str) (name : Str) (parts : List Str) : Prop where
  eq : W = name :: eqS :: parts
  name : NameT name
  parts : ∀ p ∈ parts, GoodP p
theorem rr_loop (W : List Str) (text : Option Str) (cost : Option Int) (a b : Str) (parts : List Str) (hw : Words W) (he : W = a :: b :: parts) : Ok (lp_read_rule_1 ((text, some W, cost, none, ()) : Gam g_read_rule)) fun r => (r = .nx (none, some W, cost, none, ()) ∧ ∀ p ∈ parts, GoodP p) ∨ ((∃ Γ, r = .rt (NoText, none) Γ) ∧ ∃ p ∈ parts, ¬ GoodP p) := by
  have hcf := cut_from2 a b parts
  rw [← he] at hcf
  rw [lp_read_rule_1_eq]
  refine Ok_sFor parts (fun _ : Unit => ((none, some W, cost, none, ()) : Gam g_read_rule)) (fun pre _ => ∀ p ∈ pre, GoodP p) () (by walk_at "w"; exact hcf) rfl (fun p hp => by cases hp) (fun pre p post _ hs hI => ?_) fun _ hI => .inl ⟨rfl, hI⟩
  have hp : p ∈ parts := by rw [hs]; simp
  have hpw : p ∈ W := by rw [he]; simp [hp]
  obtain ⟨b1, e1, _, k1⟩ := word_case p (hw.len p hpw)
  obtain ⟨b2, e2, _, k2⟩ := name_case p (hw.len p hpw) (hw.ok p hpw)
  clear hs hcf
  unfold lb_read_rule_1
  walk_at "w"
  rw [e1]
  have next : GoodP p → ∀ q ∈ pre ++ [p], GoodP q := fun g q hq => (List.mem_append.mp hq).elim (hI q) fun hq => by rw [List.mem_singleton.mp hq]; exact g
  cases b1 with
  | true =>
    walk_at "w"
    exact ⟨(), rfl, next (.inr (k1.mp rfl))⟩
  | false =>
    walk_at "w"
    rw [e2]
    cases b2 with
    | true =>
      walk_at "w"
      exact ⟨(), rfl, next (.inl (k2.mp rfl))⟩
    | false =>
      walk_at "w"
      exact .inr ⟨⟨_, rfl⟩, p, hp, fun g => g.elim (fun g => by cases k2.mpr g) fun g => by cases k1.mpr g⟩
theorem lr_loop (W : List Str) (row : Option Str) (a b : Str) (parts : List Str) (hw : Words W) (he : W = a :: b :: parts) : Ok (lp__law_row_1 ((row, some W, none, ()) : Gam g__law_row)) fun r => (r = .nx (none, some W, none, ()) ∧ ∀ p ∈ parts, GoodP p) ∨ ((∃ Γ, r = .rt none Γ) ∧ ∃ p ∈ parts, ¬ GoodP p) := by
  have hcf := cut_from2 a b parts
  rw [← he] at hcf
  rw [lp__law_row_1_eq]
  refine Ok_sFor parts (fun _ : Unit => ((none, some W, none, ()) : Gam g__law_row)) (fun pre _ => ∀ p ∈ pre, GoodP p) () (by walk_at "w"; exact hcf) rfl (fun p hp => by cases hp) (fun pre p post _ hs hI => ?_) fun _ hI => .inl ⟨rfl, hI⟩
  have hp : p ∈ parts := by rw [hs]; simp
  have hpw : p ∈ W := by rw [he]; simp [hp]
  obtain ⟨b1, _, e1, k1⟩ := word_case p (hw.len p hpw)
  obtain ⟨b2, _, e2, k2⟩ := name_case p (hw.len p hpw) (hw.ok p hpw)
  clear hs hcf
  unfold lb__law_row_1
  walk_at "w"
  rw [e1]
  have next : GoodP p → ∀ q ∈ pre ++ [p], GoodP q := fun g q hq => (List.mem_append.mp hq).elim (hI q) fun hq => by rw [List.mem_singleton.mp hq]; exact g
  cases b1 with
  | true =>
    walk_at "w"
    exact ⟨(), rfl, next (.inr (k1.mp rfl))⟩
  | false =>
    walk_at "w"
    rw [e2]
    cases b2 with
    | true =>
      walk_at "w"
      exact ⟨(), rfl, next (.inl (k2.mp rfl))⟩
    | false =>
      walk_at "w"
      exact .inr ⟨⟨_, rfl⟩, p, hp, fun g => g.elim (fun g => by cases k2.mpr g) fun g => by cases k1.mpr g⟩
theorem rr2_ok (W : List Str) (text : Option Str) (cost : Int) (hw : Words W) : Ok (rr2 ((text, some W, some cost, none, ()) : Gam g_read_rule)) fun r => (∃ name parts, GoodB W name parts ∧ ∃ Γ, r = .rt (default, some (name, parts, cost)) Γ) ∨ ((∃ Γ, r = .rt (NoText, none) Γ) ∧ ¬ ∃ name parts, GoodB W name parts) := by
  unfold rr2
  match W, hw with
  | [], hw =>
    walk_at "w"
    refine Wif_dec (fun _ => ?_) fun hc => absurd (by decide) hc
    walk_at "w"
    exact .inr ⟨⟨_, rfl⟩, fun ⟨_, _, g⟩ => by cases g.eq⟩
  | [a], hw =>
    walk_at "w"
    refine Wif_dec (fun _ => ?_) fun hc => absurd (by decide) hc
    walk_at "w"
    exact .inr ⟨⟨_, rfl⟩, fun ⟨_, _, g⟩ => by cases g.eq⟩
  | a :: b :: parts, hw =>
    have i0 : atI (a :: b :: parts) 0 = some a := atI_nat (j := 0) rfl
    have i1 : atI (a :: b :: parts) 1 = some b := atI_nat (j := 1) rfl
    have hcf := cut_from2 a b parts
    have hlen2 : ¬ (((a :: b :: parts).length : Int) < 2) := by simp; omega
    obtain ⟨W, hW⟩ : ∃ W, W = a :: b :: parts := ⟨_, rfl⟩
    rw [← hW] at i0 i1 hcf hlen2 hw ⊢
    walk_at "w"
    rw [decide_eq_false hlen2]
    walk_at "w"
    rw [i1]
    walk_at "w"
    refine Wif_ndec (fun hc => ?_) fun hc => ?_
    · walk_at "w"
      exact .inr ⟨⟨_, rfl⟩, fun ⟨_, _, g⟩ => hc (by have := g.eq; rw [hW] at this; cases this; rfl)⟩
    walk_at "w"
    rw [i0]
    walk_at "w"
    obtain ⟨b2, e2, _, k2⟩ := name_case a (hw.len a (by rw [hW]; simp)) (hw.ok a (by rw [hW]; simp))
    rw [e2]
    cases b2 with
    | false =>
      walk_at "w"
      exact .inr ⟨⟨_, rfl⟩, fun ⟨_, _, g⟩ => by
        have e := g.eq
        rw [hW] at e
        cases e
        cases k2.mpr g.name⟩
    | true =>
      walk_at "w"
      refine (rr_loop W _ _ a b parts hw hW).mono fun x hx => ?_
      rcases hx with ⟨rfl, hg⟩ | ⟨⟨Γ, rfl⟩, p, hp, hg⟩
      · walk_at "w"
        rw [i0]
        walk_at "w"
        refine .inl ⟨a, parts, ⟨by rw [hW, hc], k2.mp rfl, hg⟩, ?_⟩
        rw [hcf]
        exact ⟨_, rfl⟩
      · walk_at "w"
        exact .inr ⟨⟨_, rfl⟩, fun ⟨_, _, g⟩ => by
          have e := g.eq
          rw [hW] at e
          cases e
          exact hg (g.parts p hp)⟩
theorem lr2_ok (W : List Str) (row : Option Str) (hw : Words W) : Ok (lr2 ((row, some W, none, ()) : Gam g__law_row)) fun r => (∃ name parts, GoodB W name parts ∧ ∃ Γ, r = .rt (some W) Γ) ∨ ((∃ Γ, r = .rt none Γ) ∧ ¬ ∃ name parts, GoodB W name parts) := by
  unfold lr2
  match W, hw with
  | [], hw =>
    walk_at "w"
    refine Wif_dec (fun _ => ?_) fun hc => absurd (by decide) hc
    walk_at "w"
    exact .inr ⟨⟨_, rfl⟩, fun ⟨_, _, g⟩ => by cases g.eq⟩
  | [a], hw =>
    walk_at "w"
    refine Wif_dec (fun _ => ?_) fun hc => absurd (by decide) hc
    walk_at "w"
    exact .inr ⟨⟨_, rfl⟩, fun ⟨_, _, g⟩ => by cases g.eq⟩
  | a :: b :: parts, hw =>
    have i0 : atI (a :: b :: parts) 0 = some a := atI_nat (j := 0) rfl
    have i1 : atI (a :: b :: parts) 1 = some b := atI_nat (j := 1) rfl
    have hlen2 : ¬ (((a :: b :: parts).length : Int) < 2) := by simp; omega
    obtain ⟨W, hW⟩ : ∃ W, W = a :: b :: parts := ⟨_, rfl⟩
    rw [← hW] at i0 i1 hlen2 hw ⊢
    walk_at "w"
    rw [decide_eq_false hlen2]
    walk_at "w"
    rw [i1]
    walk_at "w"
    refine Wif_ndec (fun hc => ?_) fun hc => ?_
    · walk_at "w"
      exact .inr ⟨⟨_, rfl⟩, fun ⟨_, _, g⟩ => hc (by have := g.eq; rw [hW] at this; cases this; rfl)⟩
    walk_at "w"
    rw [i0]
    walk_at "w"
    obtain ⟨b2, _, e2, k2⟩ := name_case a (hw.len a (by rw [hW]; simp)) (hw.ok a (by rw [hW]; simp))
    rw [e2]
    cases b2 with
    | false =>
      walk_at "w"
      exact .inr ⟨⟨_, rfl⟩, fun ⟨_, _, g⟩ => by
        have e := g.eq
        rw [hW] at e
        cases e
        cases k2.mpr g.name⟩
    | true =>
      walk_at "w"
      refine (lr_loop W _ a b parts hw hW).mono fun x hx => ?_
      rcases hx with ⟨rfl, hg⟩ | ⟨⟨Γ, rfl⟩, p, hp, hg⟩
      · walk_at "w"
        exact .inl ⟨a, parts, ⟨by rw [hW, hc], k2.mp rfl, hg⟩, _, rfl⟩
      · walk_at "w"
        exact .inr ⟨⟨_, rfl⟩, fun ⟨_, _, g⟩ => by
          have e := g.eq
          rw [hW] at e
          cases e
          exact hg (g.parts p hp)⟩
abbrev colonS : Str := Str.ofString ":"
theorem GoodB.uniq {W : List Str} {n n' : Str} {p p' : List Str} (g : GoodB W n p) (g' : GoodB W n' p') : n = n' ∧ p = p' := by
  have := g.eq.symm.trans g'.eq
  cases this
  exact ⟨rfl, rfl⟩
theorem rr2_good {W : List Str} {name : Str} {parts : List Str} (g : GoodB W name parts) (text : Option Str) (cost : Int) (hw : Words W) : Ok (rr2 ((text, some W, some cost, none, ()) : Gam g_read_rule)) fun r => ∃ Γ, r = .rt (default, some (name, parts, cost)) Γ := (rr2_ok W text cost hw).mono fun r hr => by
  rcases hr with ⟨n, p, g', h⟩ | ⟨_, h⟩
  · obtain ⟨rfl, rfl⟩ := g.uniq g'
    exact h
  · exact absurd ⟨_, _, g⟩ h
theorem rr2_bad {W : List Str} (g : ¬ ∃ name parts, GoodB W name parts) (text : Option Str) (cost : Int) (hw : Words W) : Ok (rr2 ((text, some W, some cost, none, ()) : Gam g_read_rule)) fun r => ∃ Γ, r = .rt (NoText, none) Γ := (rr2_ok W text cost hw).mono fun r hr => by
  rcases hr with ⟨n, p, g', h⟩ | ⟨h, _⟩
  · exact absurd ⟨_, _, g'⟩ g
  · exact h
theorem lr2_good {W : List Str} {name : Str} {parts : List Str} (g : GoodB W name parts) (row : Option Str) (hw : Words W) : Ok (lr2 ((row, some W, none, ()) : Gam g__law_row)) fun r => ∃ Γ, r = .rt (some W) Γ := (lr2_ok W row hw).mono fun r hr => by
  rcases hr with ⟨n, p, g', h⟩ | ⟨_, h⟩
  · exact h
  · exact absurd ⟨_, _, g⟩ h
theorem lr2_bad {W : List Str} (g : ¬ ∃ name parts, GoodB W name parts) (row : Option Str) (hw : Words W) : Ok (lr2 ((row, some W, none, ()) : Gam g__law_row)) fun r => ∃ Γ, r = .rt none Γ := (lr2_ok W row hw).mono fun r hr => by
  rcases hr with ⟨n, p, g', h⟩ | ⟨h, _⟩
  · exact absurd ⟨_, _, g'⟩ g
  · exact h
theorem joinL_sum (S : List Nat) : ∀ parts : List (List Nat), (parts.map List.length).sum ≤ (TL.joinL S parts).length
  | [] => by simp [TL.joinL]
  | [p] => by simp [TL.joinL]
  | p :: q :: r => by
    have ih := joinL_sum S (q :: r)
    show _ ≤ (p ++ (S ++ TL.joinL S (q :: r))).length
    simp only [List.length_append, List.map_cons, List.sum_cons] at ih ⊢
    omega
theorem join_sum (y : Str) (parts : List Str) : (parts.map (·.length)).sum ≤ (Txt.join y parts).length := by
  have h := joinL_sum (TL.tl y) (parts.map TL.tl)
  rw [← TL.tl_join, ← TL.join_eq, List.map_map] at h
  exact h
theorem fJoin_any {y : Str} {W : List Str} {t : Str} (hy : y.length = 1) (hj : Txt.join y W = t) (ht : PyData.strOk t = true) (hl : t.length ≤ 100000) (hf : W.length ≤ 100001) : fJoin y W = some t := by
  have := join_sum y W
  rw [hj] at this
  unfold fJoin
  rw [hj]
  refine okIf_true ?_
  rw [Bool.and_eq_true]
  refine ⟨decide_eq_true ?_, ht⟩
  rw [hy, Nat.mul_one]
  omega
theorem blank_len : blankS.length = 1 := by decide +kernel
theorem feed_len : feedS.length = 1 := by decide +kernel
theorem shown_any (name : Str) (parts : List Str) (cost : Int) (W : List Str) (t : Str) (h : (cost = 0 ∧ W = name :: eqS :: parts) ∨ (∃ n : Nat, cost = n ∧ 0 < n ∧ n < 10 ^ 60 ∧ W = (name :: eqS :: parts) ++ [colonS, numT n])) (hj : Txt.join blankS W = t) (ht : PyData.strOk t = true) (hl : t.length ≤ 90000) (hf : W.length ≤ 90001) : m_shown_rule (name, parts, cost) = some t := by
  have hq := fJoin_any blank_len hj ht (by omega) (by omega)
  have hlp : parts.length ≤ 90001 := by
    rcases h with ⟨_, rfl⟩ | ⟨n, _, _, _, rfl⟩ <;> simp at hf <;> omega
  have hc1 : fCatL [name, eqS] parts = some (name :: eqS :: parts) := catL_ok (by simp; omega)
  rw [m_shown_rule_at]
  unfold b_shown_rule
  rcases h with ⟨rfl, rfl⟩ | ⟨n, rfl, n0, n1, rfl⟩
  · clear hj ht hl hf hlp
    generalize name :: eqS :: parts = B at hc1 hq
    have h0 : ¬ ((0 : Int) < 0) := by decide
    walk_at "go"
  · have hc2 : fCatL (name :: eqS :: parts) [colonS, numT n] = some ((name :: eqS :: parts) ++ [colonS, numT n]) := catL_ok (by simp; omega)
    have hs : fStrI (n : Int) = some (numT n) := by
      have := strI_big (cost := (n : Int)) (by omega) (by
        have e : ((10 : Int) ^ 60) = ((10 ^ 60 : Nat) : Int) := by decide +kernel
        rw [e]
        omega)
      rw [Int.toNat_natCast] at this
      exact this
    clear hj ht hl hf hlp
    generalize (name :: eqS :: parts) ++ [colonS, numT n] = W at hq hc2
    generalize name :: eqS :: parts = B at hc1 hc2
    have h0 : (0 : Int) < (n : Int) := by omega
    walk_at "go"
def RowR (t : Str) (o : Option (List Str)) (r : Str × Option RuleT) : Prop := (o = none ∧ r = (NoText, none)) ∨ ∃ name parts cost, o = some (name :: eqS :: parts) ∧ r = (default, some (name, parts, cost)) ∧ NameT name ∧ (∀ p ∈ parts, GoodP p) ∧ 0 ≤ cost ∧ m_shown_rule (name, parts, cost) = some t
theorem two_last {α : Type} (W : List α) (h : 2 ≤ W.length) : ∃ B c x, W = B ++ [c, x] := by
  rcases List.eq_nil_or_concat W with rfl | ⟨A, x, rfl⟩
  · simp at h
  rcases List.eq_nil_or_concat A with rfl | ⟨B, c, rfl⟩
  · simp at h
  exact ⟨B, c, x, by simp⟩
theorem law_plain {t : Str} {W : List Str} {o : Option (List Str)} (hsp : fSplit t blankS = some W) (hc : (3 : Int) < (W.length : Int) → ∃ c, atI W (-2) = some c ∧ ¬ (c = colonS)) (h : Ok (lr2 ((some t, some W, none, ()) : Gam g__law_row)) fun r => ∃ Γ, r = .rt o Γ) : m__law_row t = some o := by
  suffices Ok (m__law_row t) (· = o) from this.eq
  rw [m__law_row_at, b__law_row_sp]
  walk_at "w"
  rw [hsp]
  walk_at "w"
  refine Wif_dec (fun h3 => ?_) fun h3 => ?_
  · obtain ⟨c, e, hn⟩ := hc h3
    walk_at "w"
    rw [e]
    walk_at "w"
    rw [decide_eq_false hn]
    walk_at "w"
    refine h.mono fun r hr => ?_
    obtain ⟨Γ, rfl⟩ := hr
    walk_at "w"
  · walk_at "w"
    refine h.mono fun r hr => ?_
    obtain ⟨Γ, rfl⟩ := hr
    walk_at "w"
theorem read_plain {t : Str} {W : List Str} {o : Str × Option RuleT} (hsp : fSplit t blankS = some W) (hc : (3 : Int) < (W.length : Int) → ∃ c, atI W (-2) = some c ∧ ¬ (c = colonS)) (h : Ok (rr2 ((some t, some W, some 0, none, ()) : Gam g_read_rule)) fun r => ∃ Γ, r = .rt o Γ) : m_read_rule t = some o := by
  suffices Ok (m_read_rule t) (· = o) from this.eq
  rw [m_read_rule_at, b_read_rule_sp]
  walk_at "w"
  rw [hsp]
  walk_at "w"
  refine Wif_dec (fun h3 => ?_) fun h3 => ?_
  · obtain ⟨c, e, hn⟩ := hc h3
    walk_at "w"
    rw [e]
    walk_at "w"
    rw [decide_eq_false hn]
    walk_at "w"
    refine h.mono fun r hr => ?_
    obtain ⟨Γ, rfl⟩ := hr
    walk_at "w"
  · walk_at "w"
    refine h.mono fun r hr => ?_
    obtain ⟨Γ, rfl⟩ := hr
    walk_at "w"
theorem law_cost {t : Str} {B : List Str} {x : Str} {o : Option (List Str)} (hsp : fSplit t blankS = some (B ++ [colonS, x])) (h3 : (3 : Int) < ((B ++ [colonS, x]).length : Int)) {r : Str × Option Int} (hr : CostR x r) (h : r.2 ≠ none → Ok (lr2 ((some t, some B, none, ()) : Gam g__law_row)) fun r => ∃ Γ, r = .rt o Γ) (h' : r.2 = none → o = none) : m__law_row t = some o := by
  have j1 := at_m1 B colonS x
  have j2 := at_m2 B colonS x
  have j3 := cut_to2 B colonS x
  suffices Ok (m__law_row t) (· = o) from this.eq
  generalize B ++ [colonS, x] = W at *
  rw [m__law_row_at, b__law_row_sp]
  walk_at "w"
  rw [hsp]
  walk_at "w"
  rw [decide_eq_true h3]
  walk_at "w"
  rw [j2]
  walk_at "w"
  rw [j1]
  walk_at "w"
  rcases hr with ⟨n, rfl, _, _, _, e, y, e2, hy⟩ | ⟨rfl, e | ⟨e, e2⟩⟩
  · rw [e]
    walk_at "w"
    rw [j1]
    walk_at "w"
    rw [e2]
    walk_at "w"
    rw [decide_eq_false hy]
    walk_at "w"
    rw [j3]
    refine (h (by simp)).mono fun r hr => ?_
    obtain ⟨Γ, rfl⟩ := hr
    walk_at "w"
  · rw [e]
    walk_at "w"
    exact (h' rfl).symm
  · rw [e]
    walk_at "w"
    rw [j1]
    walk_at "w"
    rw [e2]
    walk_at "w"
    exact (h' rfl).symm
theorem read_cost {t : Str} {B : List Str} {x : Str} {o : Str × Option RuleT} (hsp : fSplit t blankS = some (B ++ [colonS, x])) (h3 : (3 : Int) < ((B ++ [colonS, x]).length : Int)) {r : Str × Option Int} (hr : m_cost_of x = some r) (h : ∀ n, r.2 = some n → Ok (rr2 ((some t, some B, some n, none, ()) : Gam g_read_rule)) fun r => ∃ Γ, r = .rt o Γ) (h' : r.2 = none → o = (r.1, none)) : m_read_rule t = some o := by
  have j1 := at_m1 B colonS x
  have j2 := at_m2 B colonS x
  have j3 := cut_to2 B colonS x
  suffices Ok (m_read_rule t) (· = o) from this.eq
  generalize B ++ [colonS, x] = W at *
  obtain ⟨r1, r2⟩ := r
  rw [m_read_rule_at, b_read_rule_sp]
  walk_at "w"
  rw [hsp]
  walk_at "w"
  rw [decide_eq_true h3]
  walk_at "w"
  rw [j2]
  walk_at "w"
  rw [j1]
  walk_at "w"
  rw [hr]
  cases r2 with
  | none =>
    walk_at "w"
    exact (h' rfl).symm
  | some n =>
    walk_at "w"
    rw [j3]
    refine (h n rfl).mono fun r hr => ?_
    obtain ⟨Γ, rfl⟩ := hr
    walk_at "w"
theorem row_any (t : Str) (ht : PyData.strOk t = true) (hl : t.length ≤ 90000) : ∃ o r, m__law_row t = some o ∧ m_read_rule t = some r ∧ RowR t o r := by
  obtain ⟨W, hsp, hj, P⟩ := split_any blank_tl blank_ok.2 ht (by omega)
  have hf := P.few
  have hw : Words W := ⟨P.ok, fun w h => Nat.le_trans (P.len w h) (by omega), by omega⟩
  by_cases hc : (3 : Int) < (W.length : Int) ∧ ∃ B x, W = B ++ [colonS, x]
  · obtain ⟨h3, B, x, hB⟩ := hc
    have hwB : Words B := ⟨fun w h => hw.ok w (by rw [hB]; exact List.mem_append_left _ h), fun w h => hw.len w (by rw [hB]; exact List.mem_append_left _ h), by have := hw.few; rw [hB] at this; simp at this; omega⟩
    have hxl : x.length ≤ 100000 := hw.len x (by rw [hB]; simp)
    obtain ⟨r, hr, hR⟩ := cost_case x hxl
    have hsp2 := hsp
    rw [hB] at hsp2
    have h32 := h3
    rw [hB] at h32
    by_cases hg : ∃ name parts, GoodB B name parts
    · obtain ⟨name, parts, g⟩ := hg
      have hR' := hR
      rcases hR' with ⟨n, rfl, hx, n0, n1, _⟩ | ⟨rfl, _⟩
      · refine ⟨some B, (default, some (name, parts, (n : Int))), law_cost hsp2 h32 hR (fun _ => lr2_good g _ hwB) (fun z => by cases z), read_cost hsp2 h32 hr (fun m e => ?_) (fun z => by cases z), .inr ⟨name, parts, (n : Int), by rw [g.eq], rfl, g.name, g.parts, by omega, ?_⟩⟩
        · cases e
          exact rr2_good g _ _ hwB
        · exact shown_any name parts _ W t (.inr ⟨n, rfl, n0, n1, by rw [hB, g.eq, hx]⟩) hj ht hl (by omega)
      · exact ⟨none, (NoText, none), law_cost hsp2 h32 hR (fun z => absurd rfl z) (fun _ => rfl), read_cost hsp2 h32 hr (fun m e => by cases e) (fun _ => rfl), .inl ⟨rfl, rfl⟩⟩
    · have hR' := hR
      rcases hR' with ⟨n, rfl, _⟩ | ⟨rfl, _⟩
      · exact ⟨none, (NoText, none), law_cost hsp2 h32 hR (fun _ => lr2_bad hg _ hwB) (fun _ => rfl), read_cost hsp2 h32 hr (fun m e => rr2_bad hg _ _ hwB) (fun z => by cases z), .inl ⟨rfl, rfl⟩⟩
      · exact ⟨none, (NoText, none), law_cost hsp2 h32 hR (fun z => absurd rfl z) (fun _ => rfl), read_cost hsp2 h32 hr (fun m e => by cases e) (fun _ => rfl), .inl ⟨rfl, rfl⟩⟩
  · have hc : (3 : Int) < (W.length : Int) → ∃ c, atI W (-2) = some c ∧ ¬ (c = colonS) := fun h3 => by
      obtain ⟨B, c, x, rfl⟩ := two_last W (by omega)
      exact ⟨c, at_m2 B c x, fun z => hc ⟨h3, B, x, by rw [z]⟩⟩
    by_cases hg : ∃ name parts, GoodB W name parts
    · obtain ⟨name, parts, g⟩ := hg
      exact ⟨some W, (default, some (name, parts, 0)), law_plain hsp hc (lr2_good g _ hw), read_plain hsp hc (rr2_good g _ _ hw), .inr ⟨name, parts, 0, by rw [g.eq], rfl, g.name, g.parts, Int.le_refl _, shown_any name parts 0 W t (.inl ⟨rfl, g.eq⟩) hj ht hl (by omega)⟩⟩
    · exact ⟨none, (NoText, none), law_plain hsp hc (lr2_bad hg _ hw), read_plain hsp hc (rr2_bad hg _ _ hw), .inl ⟨rfl, rfl⟩⟩
structure GoodR (r : RuleT) : Prop where
  name : NameT r.1
  parts : ∀ p ∈ r.2.1, GoodP p
  c0 : 0 ≤ r.2.2
abbrev rowO (r : RuleT) : Option (List Str) := some (r.1 :: eqS :: r.2.1)
abbrev G1 (t : Str) : Gam g__law_due := (some t, none, none, none, none, none, ())
theorem rows_case (Γ : Gam g__law_due) (Γ2 : Gam g_read_grammar) : ∀ R : List Str, (∀ p ∈ R, PyData.strOk p = true ∧ p.length ≤ 90000) → ∃ os q, lcL (bName (t := Ty.str) (v__law_due_row)) eYes (e1 m__law_row (eV (t := Ty.str) (v__law_due_row))) Γ R = some os ∧ lcLR (bName (t := Ty.str) (v_read_grammar_row)) eYes (e1 m_read_rule (eV (t := Ty.str) (v_read_grammar_row))) Γ2 R = some q ∧ os.length = R.length ∧ ((none ∈ os ∧ q = (NoText, none)) ∨ ∃ g : List RuleT, os = g.map rowO ∧ q = (default, some g) ∧ (∀ r ∈ g, GoodR r) ∧ g.map m_shown_rule = R.map some)
  | [], _ => ⟨[], (default, some []), rfl, rfl, rfl, .inr ⟨[], rfl, rfl, fun r h => (by cases h), rfl⟩⟩
  | p :: R, h => by
    obtain ⟨os, q, e1', e2', hl, hq⟩ := rows_case Γ Γ2 R fun x hx => h x (List.mem_cons_of_mem _ hx)
    obtain ⟨o, r, h1, h2, hr⟩ := row_any p (h p List.mem_cons_self).1 (h p List.mem_cons_self).2
    have k1 : lcL (bName (t := Ty.str) (v__law_due_row)) eYes (e1 m__law_row (eV (t := Ty.str) (v__law_due_row))) Γ (p :: R) = some (o :: os) := by
      show (some true).bind _ = _
      rw [Option.bind_some, if_pos rfl]
      show (m__law_row p).bind _ = _
      rw [h1, Option.bind_some, e1']
      rfl
    rcases hr with ⟨rfl, rfl⟩ | ⟨name, parts, cost, rfl, rfl, n1, n2, n3, n4⟩
    · refine ⟨none :: os, (NoText, none), k1, ?_, by simp [hl], .inl ⟨List.mem_cons_self, rfl⟩⟩
      show (some true).bind _ = _
      rw [Option.bind_some, if_pos rfl]
      show (m_read_rule p).bind _ = _
      rw [h2]
      rfl
    · have k2 : lcLR (bName (t := Ty.str) (v_read_grammar_row)) eYes (e1 m_read_rule (eV (t := Ty.str) (v_read_grammar_row))) Γ2 (p :: R) = some (q.1, q.2.map ((name, parts, cost) :: ·)) := by
        show (some true).bind _ = _
        rw [Option.bind_some, if_pos rfl]
        show (m_read_rule p).bind _ = _
        rw [h2, Option.bind_some]
        show (lcLR _ eYes _ Γ2 R).bind _ = _
        rw [e2']
        rfl
      refine ⟨_, _, k1, k2, by simp [hl], ?_⟩
      rcases hq with ⟨m, rfl⟩ | ⟨g, rfl, rfl, g1, g2⟩
      · exact .inl ⟨List.mem_cons_of_mem _ m, rfl⟩
      · refine .inr ⟨(name, parts, cost) :: g, rfl, rfl, fun r hr => ?_, ?_⟩
        · rcases List.mem_cons.mp hr with rfl | hr
          · exact ⟨n1, n2, n3⟩
          · exact g1 r hr
        · rw [List.map_cons, List.map_cons, n4, g2]
def Bad (g : List RuleT) : Prop := ∃ r ∈ g, ∃ p ∈ r.2.1, NameT p ∧ p ∉ g.map (·.1)
theorem GoodP.len {p : Str} (h : GoodP p) : p.length ≤ 100 := (part_clean h).2.2.2
theorem GoodP.ok {p : Str} (h : GoodP p) : PyData.strOk p = true := (part_clean h).1
theorem due_inner (heads : List Str) (a b : Str) (parts : List Str) (hp : ∀ p ∈ parts, GoodP p) : Ok (lp__law_due_2 ((none, none, none, some heads, some (some (a :: b :: parts)), none, ()) : Gam g__law_due)) fun r => (r = .nx (none, none, none, some heads, none, none, ()) ∧ ∀ p ∈ parts, ¬ (NameT p ∧ p ∉ heads)) ∨ ((∃ Γ, r = .rt (Str.ofString "grammar") Γ) ∧ ∃ p ∈ parts, NameT p ∧ p ∉ heads) := by
  have hcf := cut_from2 a b parts
  rw [lp__law_due_2_eq]
  generalize a :: b :: parts = W at hcf ⊢
  refine Ok_sFor parts (fun _ : Unit => ((none, none, none, some heads, none, none, ()) : Gam g__law_due)) (fun pre _ => ∀ p ∈ pre, ¬ (NameT p ∧ p ∉ heads)) () (by walk_at "w"; exact hcf) rfl (fun p hp => by cases hp) (fun pre p post _ hs hI => ?_) fun _ hI => .inl ⟨rfl, hI⟩
  have hm : p ∈ parts := by rw [hs]; simp
  have hg := hp p hm
  obtain ⟨c, _, e, k⟩ := name_case p (Nat.le_trans hg.len (by decide)) hg.ok
  have next : ¬ (NameT p ∧ p ∉ heads) → ∀ q ∈ pre ++ [p], ¬ (NameT q ∧ q ∉ heads) := fun g q hq => (List.mem_append.mp hq).elim (hI q) fun hq => by rw [List.mem_singleton.mp hq]; exact g
  clear hcf hs
  unfold lb__law_due_2
  walk_at "w"
  rw [e]
  cases c with
  | false =>
    walk_at "w"
    exact ⟨(), rfl, next fun z => by cases k.mpr z.1⟩
  | true =>
    walk_at "w"
    by_cases hh : p ∈ heads
    · rw [fNotInD_mem (t := .str) rfl hh]
      walk_at "w"
      exact ⟨(), rfl, next fun z => z.2 hh⟩
    · rw [fNotInD_not (t := .str) rfl hh]
      walk_at "w"
      exact .inr ⟨⟨_, rfl⟩, p, hm, k.mp rfl, hh⟩
theorem due_outer (heads : List Str) (g : List RuleT) (hg : ∀ r ∈ g, GoodR r) (Γ : Gam g__law_due) (h0 : Γ = (none, some (g.map rowO), none, some heads, none, none, ()) ∨ ∃ t, Γ = (t, some (g.map rowO), none, some heads, none, none, ())) : Ok (lp__law_due_1 Γ) fun r => (r = .nx (none, none, none, some heads, none, none, ()) ∧ ∀ r ∈ g, ∀ p ∈ r.2.1, ¬ (NameT p ∧ p ∉ heads)) ∨ ((∃ Γ, r = .rt (Str.ofString "grammar") Γ) ∧ ∃ r ∈ g, ∃ p ∈ r.2.1, NameT p ∧ p ∉ heads) := by
  obtain ⟨t, rfl⟩ : ∃ t, Γ = (t, some (g.map rowO), none, some heads, none, none, ()) := h0.elim (fun h => ⟨none, h⟩) id
  rw [lp__law_due_1_eq]
  refine Ok_sFor (g.map rowO) (fun _ : Unit => ((none, none, none, some heads, none, none, ()) : Gam g__law_due)) (fun pre _ => ∀ o ∈ pre, ∀ r : RuleT, o = rowO r → ∀ p ∈ r.2.1, ¬ (NameT p ∧ p ∉ heads)) () (.is rfl) rfl (fun p hp => by cases hp) (fun pre o post _ hs hI => ?_) fun _ hI => .inl ⟨rfl, fun r hr => hI _ (List.mem_map.mpr ⟨r, hr, rfl⟩) r rfl⟩
  have hm : o ∈ g.map rowO := by rw [hs]; simp
  obtain ⟨r, hr, rfl⟩ := List.mem_map.mp hm
  obtain ⟨name, parts, cost⟩ := r
  refine (due_inner heads name eqS parts (hg _ hr).parts).mono fun x hx => ?_
  rcases hx with ⟨rfl, h⟩ | ⟨⟨Γ, rfl⟩, h⟩
  · refine ⟨(), rfl, fun o ho r' e => ?_⟩
    rcases List.mem_append.mp ho with ho | ho
    · exact hI o ho r' e
    · rw [List.mem_singleton] at ho
      rw [ho] at e
      obtain ⟨n', p', c'⟩ := r'
      cases e
      exact h
  · exact .inr ⟨⟨_, rfl⟩, _, hr, h⟩
abbrev textS : Str := Str.ofString "text"
abbrev grammarS : Str := Str.ofString "grammar"
abbrev goodS : Str := Str.ofString "good"
theorem heads_of (Γ : Gam g__law_due) : ∀ g : List RuleT, lcL (bName (t := (Ty.opt (Ty.list Ty.str))) (v__law_due_words)) eYes (e2 atI (e1 (fun (o : Option (den (Ty.list Ty.str))) => o) (eV (t := (Ty.opt (Ty.list Ty.str))) (v__law_due_words))) (eC (0 : Int))) Γ (g.map rowO) = some (g.map (·.1))
  | [] => rfl
  | r :: g => by
    show (some true).bind _ = _
    rw [Option.bind_some, if_pos rfl]
    show (atI (r.1 :: eqS :: r.2.1) 0).bind _ = _
    rw [show atI (r.1 :: eqS :: r.2.1) 0 = some r.1 from atI_nat (j := 0) rfl, Option.bind_some, heads_of Γ g]
    rfl
theorem partX {known : List Str} {p : Str} (h : GoodP p) : PartOk known p ∨ PartBad known p := by
  rcases h with h | h
  · have e := is_name_great h.head (Nat.le_trans h.len (by decide))
    by_cases hm : p ∈ known
    · exact .inl (.inr ⟨e, hm⟩)
    · exact .inr ⟨e, hm⟩
  · exact .inl (.inl (is_name_small (head_of h.of (Nat.pos_of_ne_zero h.ne)) (Nat.le_trans h.le (by decide))))
theorem bad_iff {g : List RuleT} (hg : ∀ r ∈ g, GoodR r) : Bad g ↔ ∃ x ∈ g, RuleBad (uniq (g.map (·.1))) x := by
  constructor
  · rintro ⟨r, hr, p, hp, hn, hk⟩
    exact ⟨r, hr, .inr ⟨p, hp, is_name_great hn.head (Nat.le_trans hn.len (by decide)), fun z => hk ((uniq_mem _ p).mp z)⟩⟩
  · rintro ⟨r, hr, hb⟩
    rcases hb with hb | ⟨p, hp, h1, h2⟩
    · exact absurd (hg r hr).c0 (by omega)
    · refine ⟨r, hr, p, hp, ?_, fun z => h2 ((uniq_mem _ p).mpr z)⟩
      rcases (hg r hr).parts p hp with h | h
      · exact h
      · rw [is_name_small (head_of h.of (Nat.pos_of_ne_zero h.ne)) (Nat.le_trans h.le (by decide))] at h1
        cases h1
theorem shown_all (Γ : Gam g_shown_grammar) : ∀ (g : List RuleT) (R : List Str), g.map m_shown_rule = R.map some → lcL (bName (t := (Ty.tup (Ty.cons Ty.str (Ty.cons (Ty.vtup Ty.str) (Ty.last Ty.int))))) (v_shown_grammar_rule)) eYes (e1 m_shown_rule (eV (t := (Ty.tup (Ty.cons Ty.str (Ty.cons (Ty.vtup Ty.str) (Ty.last Ty.int))))) (v_shown_grammar_rule))) Γ g = some R
  | [], [], _ => rfl
  | [], _ :: _, h => by cases h
  | _ :: _, [], h => by cases h
  | r :: g, p :: R, h => by
    rw [List.map_cons, List.map_cons] at h
    obtain ⟨h1, h2⟩ := List.cons.inj h
    show (some true).bind _ = _
    rw [Option.bind_some, if_pos rfl]
    show (m_shown_rule r).bind _ = _
    rw [h1, Option.bind_some, shown_all Γ g R h2]
    rfl
theorem due_case (t : Str) (ht : PyData.strOk t = true) (hl : t.length ≤ 80000) : ∃ due q, m__law_due t = some due ∧ m_read_grammar t = some q ∧ ((due = textS ∧ q = (NoText, none)) ∨ (due = grammarS ∧ q = (NoGrammar, none)) ∨ ∃ g, due = goodS ∧ q = (default, some g) ∧ m_shown_grammar g = some t) := by
  obtain ⟨R, hsp, hj, P⟩ := split_any feed_tl feed_ok.2 ht (by omega)
  have hf := P.few
  obtain ⟨os, q, h1, h2, hol, hq⟩ := rows_case (some t, none, none, none, none, none, ()) (some t, none, ()) R fun p hp => ⟨P.ok p hp, Nat.le_trans (P.len p hp) (Nat.le_trans hl (by decide))⟩
  have hlc : lc__law_due_1 ((some t, none, none, none, none, none, ()) : Gam g__law_due) = some os := by
    rw [lc__law_due_1_eq]
    exact eLc_of (xs := R) hsp h1 (lenOk_le (by omega))
  have hlr : eLcR (e2 fSplit (eV (t := Ty.str) (v_read_grammar_text)) (eC (Str.ofString "\n"))) (bName (t := Ty.str) (v_read_grammar_row)) (Gam.mask [true, false]) eYes (e1 m_read_rule (eV (t := Ty.str) (v_read_grammar_row))) ((some t, none, ()) : Gam g_read_grammar) = some q := by
    show (fSplit t feedS).bind _ = _
    rw [hsp, Option.bind_some, okIf_true (lenOk_le (by omega)), Option.bind_some]
    exact h2
  rcases hq with ⟨hn, rfl⟩ | ⟨g, rfl, rfl, hg, hsh⟩
  · refine ⟨textS, (NoText, none), ?_, ?_, .inl ⟨rfl, rfl⟩⟩
    · suffices Ok (m__law_due t) (· = textS) from this.eq
      rw [m__law_due_at]
      unfold b__law_due
      walk_at "w"
      rw [hlc]
      walk_at "w"
      rw [fInD_mem (t := .opt (.list .str)) rfl hn]
      walk_at "w"
    · rw [m_read_grammar_at]
      show endOf (sRet (eBindR m_grammar_of _) _) = _
      unfold sRet eBindR
      rw [hlr]
      rfl
  · have hgl : g.length ≤ 80001 := by
      rw [List.length_map] at hol
      omega
    have hlh : lc__law_due_2 ((some t, some (g.map rowO), none, none, none, none, ()) : Gam g__law_due) = some (g.map (·.1)) := by
      rw [lc__law_due_2_eq]
      exact eLc_of (xs := g.map rowO) rfl (heads_of _ g) (lenOk_le (by rw [List.length_map]; omega))
    have hnn : none ∉ g.map rowO := fun z => by
      obtain ⟨r, _, e⟩ := List.mem_map.mp z
      cases e
    have hR : g.length = R.length := by rw [← hol, List.length_map]
    have hne : g ≠ [] := fun z => P.ne (List.length_eq_zero_iff.mp (by rw [← hR, z]; rfl))
    have hd : Ok (m__law_due t) fun d => (d = grammarS ∧ Bad g) ∨ (d = goodS ∧ ¬ Bad g) := by
      rw [m__law_due_at]
      unfold b__law_due
      walk_at "w"
      rw [hlc]
      walk_at "w"
      rw [fInD_not (t := .opt (.list .str)) rfl hnn]
      walk_at "w"
      rw [hlh]
      walk_at "w"
      refine (due_outer (g.map (·.1)) g hg _ (.inr ⟨_, rfl⟩)).mono fun x hx => ?_
      rcases hx with ⟨rfl, h⟩ | ⟨⟨Γ, rfl⟩, h⟩
      · walk_at "w"
        exact .inr fun ⟨r, hr, p, hp, z⟩ => h r hr p hp z
      · walk_at "w"
        exact .inl h
    have hgo := grammar_of_x g (by omega) fun r hr p hp => partX ((hg r hr).parts p hp)
    have hrg : ∀ q, m_grammar_of g = some q → m_read_grammar t = some q := fun q e => by
      rw [m_read_grammar_at]
      show endOf (sRet (eBindR m_grammar_of _) _) = _
      unfold sRet eBindR
      rw [hlr]
      show endOf ((m_grammar_of g).bind _) = _
      rw [e]
      rfl
    have hsg : m_shown_grammar g = some t := by
      have hq := fJoin_any feed_len hj ht (by omega) (by omega)
      have hlc2 : lc_shown_grammar_1 ((some g, none, ()) : Gam g_shown_grammar) = some R := by
        rw [lc_shown_grammar_1_eq]
        exact eLc_of (xs := g) rfl (shown_all _ g R hsh) (lenOk_le (by omega))
      rw [m_shown_grammar_at]
      unfold b_shown_grammar
      clear hd hgo hrg hlh hlc h1 h2 hnn hlr hsh hg hj
      walk_at "go"
    obtain ⟨d, ed, hd⟩ := hd
    obtain ⟨q, eq, hq⟩ := hgo
    refine ⟨d, q, ed, hrg q eq, ?_⟩
    rcases hd with ⟨rfl, hb⟩ | ⟨rfl, hb⟩
    · rcases hq with ⟨rfl, _, k⟩ | ⟨rfl, _⟩
      · obtain ⟨x, hx, hb⟩ := (bad_iff hg).mp hb
        exact absurd hb (k x hx)
      · exact .inr (.inl ⟨rfl, rfl⟩)
    · rcases hq with ⟨rfl, _, _⟩ | ⟨rfl, z | z⟩
      · exact .inr (.inr ⟨g, rfl, rfl, hsg⟩)
      · exact absurd z hne
      · exact absurd ((bad_iff hg).mpr z) hb
def RowT (t : Str) : Prop := PyData.strOk t = true ∧ 10 ∉ t.cps.toList ∧ t.length ≤ 1000
def oddL : List Str := [Str.ofString "", Str.ofString "S", Str.ofString "S =a", Str.ofString "S= a", Str.ofString "= a", Str.ofString "s = a", Str.ofString "S = a :", Str.ofString "S = a : 0", Str.ofString "S = a : 07", Str.ofString "S = a : x", Str.ofString "S : 3"] ++ [Str.ofString "S = : 4", Str.ofString "S = a  b", Str.ofString "S = a ", Str.ofString " S = a", Str.ofString "S = a : 3 b", Str.ofString "S = a1", Str.ofString "S = Aa", Str.ofString "S = a = b"] ++ [Str.ofString "S = a : -1", Str.ofString "S_ = a", Str.ofString "S_12345 = a", Str.ofString "_1 = a", Str.ofString "S_1 = a", Str.ofString "ABCDEFGHI = a"] ++ [Str.ofString "S = abcdefghi", Str.ofString "S_1a = a", Str.ofString "S = a : : 3"]
theorem oddL_ok : ∀ t ∈ oddL, PyData.strOk t = true ∧ 10 ∉ t.cps.toList ∧ t.length ≤ 1000 := by decide +kernel
theorem odd_ok (cell : Int) : Ok (m__law_odd cell) RowT := by
  obtain ⟨t, ht, hm⟩ := atI_some (xs := oddL) (i := cell % 28) (by omega) (by rw [show (oddL.length : Int) = 28 from by decide +kernel]; omega)
  have h28 : divOk 28 = true := by decide +kernel
  rw [m__law_odd_at]
  unfold b__law_odd
  walk_at "w"
  refine ⟨by decide +kernel, by decide +kernel, by decide +kernel, by decide +kernel, ?_⟩
  refine Ok.of (a := t) ht ?_
  walk_at "w"
  exact oddL_ok t hm
theorem row_cat {x y : Str} (hx : PyData.strOk x = true ∧ 10 ∉ x.cps.toList) (hy : PyData.strOk y = true ∧ 10 ∉ y.cps.toList) (hl : x.length + y.length ≤ 1000) : RowT (x ++ y) := ⟨strOk_append hx.1 hy.1, fun z => by
  rw [cps_cat] at z
  exact (List.mem_append.mp z).elim hx.2 hy.2, by rw [len_cat]; exact hl⟩
theorem long_ok (cell : Int) : Ok (m__law_long cell) RowT := by
  have e0 : Str.ofString "0" = ⟨#[48]⟩ := by decide +kernel
  obtain ⟨n, hn⟩ : ∃ n : Nat, (n : Int) = 59 + cell % 2 := ⟨(59 + cell % 2).toNat, Int.toNat_of_nonneg (by omega)⟩
  have hn60 : n ≤ 60 := by omega
  obtain ⟨z, hz, hzl, hzo⟩ := repS_ok (a := figS) (c := 48) fig_strok (by decide +kernel) n (by omega)
  have z2 : PyData.strOk z = true ∧ 10 ∉ z.cps.toList := ⟨hzo.ok fig_strok, fun h => (fig_no (hzo 10 h)).2.2 rfl⟩
  have l1 : (Str.ofString "1").length = 1 := by decide +kernel
  have hf : RowT (Str.ofString "1" ++ z) := row_cat ⟨by decide +kernel, by decide +kernel⟩ z2 (by omega)
  have hfl : (Str.ofString "1" ++ z).length ≤ 100 := by rw [len_cat]; omega
  have hc1 := cat_len (x := Str.ofString "1") (y := z) (by omega)
  generalize Str.ofString "1" ++ z = figs at *
  have l8 : (Str.ofString "S = a : ").length = 8 := by decide +kernel
  have hg : RowT (Str.ofString "S = a : " ++ figs) := row_cat ⟨by decide +kernel, by decide +kernel⟩ ⟨hf.1, hf.2.1⟩ (by omega)
  have hc2 := cat_len (x := Str.ofString "S = a : ") (y := figs) (by omega)
  generalize Str.ofString "S = a : " ++ figs = row at *
  obtain ⟨t, ht, hm⟩ := atI_some (xs := [row, Str.ofString "S = NOWHERE", Str.ofString "S = b NOWHERE_9 : 5", Str.ofString "NOWHERE = NOWHERE"]) (i := cell / 2 % 4) (by omega) (by simp; omega)
  have hall : ∀ t ∈ [Str.ofString "S = NOWHERE", Str.ofString "S = b NOWHERE_9 : 5", Str.ofString "NOWHERE = NOWHERE"], PyData.strOk t = true ∧ 10 ∉ t.cps.toList ∧ t.length ≤ 1000 := by decide +kernel
  have hT : RowT t := by
    rcases List.mem_cons.mp hm with rfl | hm
    · exact hg
    · exact hall t hm
  rw [m__law_long_at]
  unfold b__law_long
  walk_at "w"
  refine ⟨by decide, ?_⟩
  rw [← hn, e0, hz]
  walk_at "w"
  rw [hc1]
  walk_at "w"
  rw [hc2]
  walk_at "w"
  refine ⟨by decide +kernel, by decide, ?_⟩
  rw [ht]
  walk_at "w"
  exact hT
theorem cutS_mem {x : Str} {lo hi : Option Int} {c : Nat} (h : c ∈ (cutS x lo hi).cps.toList) : c ∈ x.cps.toList := by
  have e1 : (cutS x lo hi).cps.toList = (x.cps.toList.drop (HT.sIx x.length 0 lo)).take (HT.sIx x.length x.length hi - HT.sIx x.length 0 lo) := by
    unfold cutS
    simp
  rw [e1] at h
  exact List.mem_of_mem_drop (List.mem_of_mem_take h)
theorem cutS_ok {x : Str} (lo hi : Option Int) (h : PyData.strOk x = true) : PyData.strOk (cutS x lo hi) = true := by
  rw [strOk_iff] at h ⊢
  exact fun c hc => h c (cutS_mem hc)
theorem fCutS_ok {x : Str} (lo hi : Option Int) (h : x.length ≤ 100000) : fCutS x lo hi = some (cutS x lo hi) := okIf_true (lenOk_le h)
theorem cut_both {α : Type} (xs : List α) (i j : Int) (h0 : 0 ≤ i) (h : i ≤ j) : (cutD xs none (some i)).length + (cutD xs (some j) none).length ≤ xs.length := by
  obtain ⟨a, rfl⟩ := Int.eq_ofNat_of_zero_le h0
  obtain ⟨b, rfl⟩ := Int.eq_ofNat_of_zero_le (Int.le_trans h0 h)
  unfold cutD
  rw [HT.sIx_none, HT.sIx_none, HT.sIx_nat, HT.sIx_nat]
  simp only [List.length_take, List.length_drop]
  omega
theorem cutS_both (x : Str) (i j : Int) (h0 : 0 ≤ i) (h : i ≤ j) : (cutS x none (some i)).length + (cutS x (some j) none).length ≤ x.length := by
  have e1 : ∀ lo hi, (cutS x lo hi).cps.toList = cutD x.cps.toList lo hi := fun lo hi => by
    unfold cutS cutD
    simp
    rfl
  have := cut_both x.cps.toList i j h0 h
  rw [← e1, ← e1, str_len, str_len, str_len] at this
  exact this
theorem rows_clean2 {g : List Rule80} (h : ∀ r ∈ g, RuleT80 r) (hl : g.length ≤ 9) : Clean 10 5454 (rowsOf g) := by
  have hc := rows_clean h (by omega)
  refine ⟨hc.ok, hc.free, hc.few, fun p hp => ?_⟩
  obtain ⟨r, hr, rfl⟩ := List.mem_map.mp hp
  have h1 := (fJoin_ok blank_tl blank_ok.1 (by decide) (tokens_clean (h r hr))).2
  have hf := (h r hr).few
  have : (tokens r).length ≤ 54 := by
    unfold tokens
    split <;> simp <;> omega
  have := Nat.mul_le_mul this (Nat.le_refl 101)
  omega
noncomputable def lt2 : Gam g__law_text → Option (Fl (Gam g__law_text) (den Ty.str)) :=
  (sSeq (sSet (v__law_text_text) (e2 fJoin (eC (Str.ofString "\n")) (eV (t := (Ty.list Ty.str)) (v__law_text_rows))))
  (sSeq (sSet (v__law_text_sign) (e2 fIxS (eC (Str.ofString "abSXQ_019:= \n	.-+(){")) (e2 fMod (e2 fDiv (eV (t := Ty.int) (v__law_text_cell)) (eC (30 : Int))) (eC (20 : Int)))))
  (sSeq (sSet (v__law_text_at) (e2 fMod (eV (t := Ty.int) (v__law_text_place)) (e2 fAdd (e1 fLenS (eV (t := Ty.str) (v__law_text_text))) (eC (1 : Int)))))
  (sSeq (sIf (eOr (e2 fEqI (eV (t := Ty.int) (v__law_text_way)) (eC (2 : Int))) (e2 fEqI (eV (t := Ty.int) (v__law_text_way)) (eC (3 : Int)))) (sRet (e2 fCat (e2 fCat (e3 fCutS (eV (t := Ty.str) (v__law_text_text)) (eC none) (e1 (fun i => some (some i)) (eV (t := Ty.int) (v__law_text_at)))) (eV (t := Ty.str) (v__law_text_sign))) (e3 fCutS (eV (t := Ty.str) (v__law_text_text)) (e1 (fun i => some (some i)) (eV (t := Ty.int) (v__law_text_at))) (eC none)))) sNext)
  (sSeq (sIf (e2 fEqI (eV (t := Ty.int) (v__law_text_way)) (eC (4 : Int))) (sRet (e2 fCat (e3 fCutS (eV (t := Ty.str) (v__law_text_text)) (eC none) (e1 (fun i => some (some i)) (eV (t := Ty.int) (v__law_text_at)))) (e3 fCutS (eV (t := Ty.str) (v__law_text_text)) (e1 (fun i => some (some i)) (e2 fAdd (eV (t := Ty.int) (v__law_text_at)) (eC (1 : Int)))) (eC none)))) sNext)
  (sSeq (sIf (e2 fEqI (eV (t := Ty.int) (v__law_text_way)) (eC (5 : Int))) (sRet (e2 fCat (e2 fCat (e3 fCutS (eV (t := Ty.str) (v__law_text_text)) (eC none) (e1 (fun i => some (some i)) (eV (t := Ty.int) (v__law_text_at)))) (eV (t := Ty.str) (v__law_text_sign))) (e3 fCutS (eV (t := Ty.str) (v__law_text_text)) (e1 (fun i => some (some i)) (e2 fAdd (eV (t := Ty.int) (v__law_text_at)) (eC (1 : Int)))) (eC none)))) sNext)
  (sRet (eV (t := Ty.str) (v__law_text_text)))))))))
theorem b__law_text_sp : b__law_text =
  (sSeq (sSet (v__law_text_rows) (e2 fSplit (e1 m__law_shown (e1 m__law_rules (eV (t := (Ty.list Ty.int)) (v__law_text_script)))) (eC (Str.ofString "\n"))))
  (sSeq (sSet (v__law_text_way) (e2 fMod (e2 fDiv (e1 m__law_cell_at (eCons (eV (t := (Ty.list Ty.int)) (v__law_text_script)) (eC (0 : Int)))) (eC (48 : Int))) (eC (8 : Int))))
  (sSeq (sSet (v__law_text_cell) (e1 m__law_cell_at (eCons (eV (t := (Ty.list Ty.int)) (v__law_text_script)) (eC (12 : Int)))))
  (sSeq (sSet (v__law_text_place) (e1 m__law_cell_at (eCons (eV (t := (Ty.list Ty.int)) (v__law_text_script)) (eC (13 : Int)))))
  (sSeq (sIf (e2 fLt (eV (t := Ty.int) (v__law_text_way)) (eC (2 : Int))) (sSeq (sSet (v__law_text_at) (e2 fMod (eV (t := Ty.int) (v__law_text_place)) (e2 fAdd (e1 fLen (eV (t := (Ty.list Ty.str)) (v__law_text_rows))) (eC (1 : Int)))))
  (sSet (v__law_text_rows) (e2 fCatL (e2 fCatL (e3 fCutL (eV (t := (Ty.list Ty.str)) (v__law_text_rows)) (eC none) (e1 (fun i => some (some i)) (eV (t := Ty.int) (v__law_text_at)))) (e1 fSmall (eSnoc (eSel2 m__law_odd m__law_long (eV (t := Ty.int) (v__law_text_way)) (eV (t := Ty.int) (v__law_text_cell))) eNil))) (e3 fCutL (eV (t := (Ty.list Ty.str)) (v__law_text_rows)) (e1 (fun i => some (some i)) (eV (t := Ty.int) (v__law_text_at))) (eC none))))) sNext)
  lt2))))) := rfl
theorem lt2_ok (sc : Option (List Int)) (rows : List Str) (way cell place : Int) (a : Option Int) (hcl : Clean 10 5454 rows) (hrl : rows.length ≤ 10) : Ok (lt2 ((sc, some rows, some way, some cell, some place, a, none, none, ()) : Gam g__law_text)) fun f => ∃ t Γ, f = .rt t Γ ∧ PyData.strOk t = true ∧ t.length ≤ 80000 := by
  obtain ⟨hj, hjl⟩ := fJoin_ok feed_tl feed_ok.1 (by decide) hcl
  have hjo := join_strok feed_ok.1 hcl.ok
  have hjl : (Txt.join feedS rows).length ≤ 60000 := by
    have := Nat.mul_le_mul hrl (Nat.le_refl 5455)
    omega
  generalize Txt.join feedS rows = text at hj hjl hjo
  clear hcl
  have hl := fLenS_ok (x := text) (by omega)
  unfold lt2
  walk_at "w"
  rw [hj]
  walk_at "w"
  obtain ⟨c, hc, hcm⟩ := sign_of (a := Str.ofString "abSXQ_019:= \n\t.-+(){") (n := 20) (by decide +kernel) (by decide) (by decide) (cell / 30)
  have hsg : PyData.strOk (⟨#[c]⟩ : Str) = true := by
    rw [strOk_iff]
    intro x hx
    rw [show x = c from by simpa using hx]
    have : ∀ c ∈ (Str.ofString "abSXQ_019:= \n\t.-+(){").cps.toList, c < 0x110000 := by decide +kernel
    exact this c hcm
  have hsl : (⟨#[c]⟩ : Str).length = 1 := rfl
  refine ⟨by decide +kernel, by decide, ?_⟩
  have hc' : fIxS (Str.ofString "abSXQ_019:= \n\t.-+(){") (cell / 30 % 20) = some ⟨#[c]⟩ := hc
  generalize (⟨#[c]⟩ : Str) = sg at hc' hsg hsl
  rw [hc']
  walk_at "w"
  rw [hl]
  walk_at "w"
  refine ⟨decide_eq_true (by omega), ?_⟩
  have hi0 : 0 ≤ place % ((text.length : Int) + 1) := Int.emod_nonneg _ (by omega)
  generalize place % ((text.length : Int) + 1) = i at hi0 ⊢
  have q1 := fCutS_ok none (some i) (x := text) (by omega)
  have q2 := fCutS_ok (some i) none (x := text) (by omega)
  have q3 := fCutS_ok (some (i + 1)) none (x := text) (by omega)
  have o1 := cutS_ok none (some i) hjo
  have o2 := cutS_ok (some i) none hjo
  have o3 := cutS_ok (some (i + 1)) none hjo
  have l2 := cutS_both text i i hi0 (Int.le_refl _)
  have l3 := cutS_both text i (i + 1) hi0 (by omega)
  generalize cutS text none (some i) = A at *
  generalize cutS text (some i) none = B at *
  generalize cutS text (some (i + 1)) none = C at *
  have a1 := cat_len (x := A) (y := sg) (by omega)
  have a2 := cat_len (x := A ++ sg) (y := B) (by rw [len_cat]; omega)
  have a3 := cat_len (x := A ++ sg) (y := C) (by rw [len_cat]; omega)
  have a4 := cat_len (x := A) (y := C) (by omega)
  have f2 : PyData.strOk (A ++ sg ++ B) = true ∧ (A ++ sg ++ B).length ≤ 80000 := ⟨strOk_append (strOk_append o1 hsg) o2, by rw [len_cat, len_cat]; omega⟩
  have f3 : PyData.strOk (A ++ sg ++ C) = true ∧ (A ++ sg ++ C).length ≤ 80000 := ⟨strOk_append (strOk_append o1 hsg) o3, by rw [len_cat, len_cat]; omega⟩
  have f4 : PyData.strOk (A ++ C) = true ∧ (A ++ C).length ≤ 80000 := ⟨strOk_append o1 o3, by rw [len_cat]; omega⟩
  refine Wif_dec (fun _ => ?_) fun _ => ?_
  · walk_at "w"
    rw [q1]
    walk_at "w"
    rw [a1]
    walk_at "w"
    rw [q2]
    walk_at "w"
    rw [a2]
    walk_at "w"
    exact ⟨_, _, rfl, f2⟩
  walk_at "w"
  refine Wif_dec (fun _ => ?_) fun _ => ?_
  · walk_at "w"
    rw [q1]
    walk_at "w"
    rw [a1]
    walk_at "w"
    rw [q2]
    walk_at "w"
    rw [a2]
    walk_at "w"
    exact ⟨_, _, rfl, f2⟩
  walk_at "w"
  refine Wif_dec (fun _ => ?_) fun _ => ?_
  · walk_at "w"
    rw [q1]
    walk_at "w"
    rw [q3]
    walk_at "w"
    rw [a4]
    walk_at "w"
    exact ⟨_, _, rfl, f4⟩
  walk_at "w"
  refine Wif_dec (fun _ => ?_) fun _ => ?_
  · walk_at "w"
    rw [q1]
    walk_at "w"
    rw [a1]
    walk_at "w"
    rw [q3]
    walk_at "w"
    rw [a3]
    walk_at "w"
    exact ⟨_, _, rfl, f3⟩
  walk_at "w"
  exact ⟨_, _, rfl, hjo, by omega⟩
theorem law_text_ok (script : List Int) (h : script.length ≤ 63) : Ok (m__law_text script) fun t => PyData.strOk t = true ∧ t.length ≤ 80000 := by
  obtain ⟨heads, rules, hr, k1, k0, kl, kp⟩ := rules80_ok script h
  have h1 := law_shown_ok rules k1 (by omega)
  have hcl := rows_clean2 k1 kl
  have hsp := fSplit_ok feed_tl feed_ok.2 feed_ok.1 (by decide) hcl (by
    unfold rowsOf
    exact fun e => k0 (List.map_eq_nil_iff.mp e))
  have hrl : (rowsOf rules).length ≤ 9 := by
    unfold rowsOf
    rw [List.length_map]
    exact kl
  have c0 : m__law_cell_at (script, 0) = some (script.getD 0 0) := cell_at_ok script 0
  have c12 : m__law_cell_at (script, 12) = some (script.getD 12 0) := cell_at_ok script 12
  have c13 : m__law_cell_at (script, 13) = some (script.getD 13 0) := cell_at_ok script 13
  obtain ⟨way, hway⟩ : ∃ w : Int, script.getD 0 0 / 48 % 8 = w := ⟨_, rfl⟩
  generalize script.getD 0 0 = s0 at c0 hway
  generalize script.getD 12 0 = cell at c12
  generalize script.getD 13 0 = place at c13
  generalize rowsOf rules = rows at hcl hsp h1 hrl
  rw [m__law_text_at]
  rw [b__law_text_sp]
  walk_at "w"
  rw [hr]
  walk_at "w"
  rw [h1]
  walk_at "w"
  rw [hsp]
  walk_at "w"
  rw [c0]
  walk_at "w"
  refine ⟨by decide +kernel, by decide, ?_⟩
  rw [c12]
  walk_at "w"
  rw [c13]
  walk_at "w"
  rw [hway]
  refine Wif_dec (fun hw => ?_) fun hw => ?_
  · walk_at "w"
    refine ⟨decide_eq_true (by omega), ?_⟩
    have hi0 : 0 ≤ place % ((rows.length : Int) + 1) := Int.emod_nonneg _ (by omega)
    generalize place % ((rows.length : Int) + 1) = i at hi0
    obtain ⟨row, hrow, hR⟩ : ∃ row, eSel2 m__law_odd m__law_long (eV (t := Ty.int) (v__law_text_way)) (eV (t := Ty.int) (v__law_text_cell)) ((some script, some rows, some way, some cell, some place, some i, none, none, ()) : Gam g__law_text) = some row ∧ RowT row := by
      have h8 : way = 0 ∨ way = 1 := by omega
      show ∃ row, (if way = 0 then m__law_odd cell else if way = 1 then m__law_long cell else none) = some row ∧ RowT row
      rcases h8 with rfl | rfl
      · obtain ⟨t, e, h⟩ := odd_ok cell
        exact ⟨t, by rw [if_pos rfl]; exact e, h⟩
      · obtain ⟨t, e, h⟩ := long_ok cell
        exact ⟨t, by rw [if_neg (by decide), if_pos rfl]; exact e, h⟩
    rw [hrow]
    walk_at "w"
    have hb := cut_both rows i i hi0 (Int.le_refl _)
    refine ⟨lenOk_le (by omega), lenOk_le (by rw [List.length_append, List.length_singleton]; omega), ?_⟩
    have hcl2 : Clean 10 5454 (cutD rows none (some i) ++ [row] ++ cutD rows (some i) none) := by
      have key : ∀ p ∈ cutD rows none (some i) ++ [row] ++ cutD rows (some i) none, p ∈ rows ∨ p = row := fun p hp => by
        rcases List.mem_append.mp hp with hp | hp
        · rcases List.mem_append.mp hp with hp | hp
          · exact .inl (cut_mem hp)
          · exact .inr (List.mem_singleton.mp hp)
        · exact .inl (cut_mem hp)
      refine ⟨fun p hp => ?_, fun p hp => ?_, ?_, fun p hp => ?_⟩
      · rcases key p hp with h | rfl
        · exact hcl.ok p h
        · exact hR.1
      · rcases key p hp with h | rfl
        · exact hcl.free p h
        · exact hR.2.1
      · rw [List.length_append, List.length_append, List.length_singleton]
        omega
      · rcases key p hp with h | rfl
        · exact hcl.short p h
        · exact Nat.le_trans hR.2.2 (by decide)
    refine (lt2_ok _ _ way cell place _ hcl2 (by rw [List.length_append, List.length_append, List.length_singleton]; omega)).mono fun f hf => ?_
    obtain ⟨t, Γ, rfl, h1, h2⟩ := hf
    walk_at "w"
    exact ⟨h1, h2⟩
  · walk_at "w"
    refine (lt2_ok _ rows way cell place _ hcl (by omega)).mono fun f hf => ?_
    obtain ⟨t, Γ, rfl, h1, h2⟩ := hf
    walk_at "w"
    exact ⟨h1, h2⟩
theorem et1 (a b : Bool) : ETab.at_ [(Str.ofString "NoGrammar", a), (Str.ofString "NoText", b)] NoText = some b := by
  cases a <;> cases b <;> decide +kernel
theorem kinds_text : m__law_kinds NoText = some [true, false, false, false, false, false] := by
  rw [m__law_kinds_at]
  suffices Ok (endOf (b__law_kinds (some NoText, none, ()))) (· = [true, false, false, false, false, false]) from this.eq
  unfold b__law_kinds
  walk_at "w"
  rw [et1]
  walk_at "w"
  rw [et1]
  walk_at "w"
  rw [et1]
  walk_at "w"
  rw [et1]
  walk_at "w"
  rw [et1]
  walk_at "w"
  rw [et1]
  walk_at "w"
  exact ⟨by decide +kernel, rfl⟩
theorem kinds_grammar : m__law_kinds NoGrammar = some [false, true, false, false, false, false] := by
  rw [m__law_kinds_at]
  suffices Ok (endOf (b__law_kinds (some NoGrammar, none, ()))) (· = [false, true, false, false, false, false]) from this.eq
  unfold b__law_kinds
  walk_at "w"
  exact ⟨by decide +kernel, rfl⟩
theorem law_true (script : List Int) (h : script.length ≤ 63) : m_law script = some true := by
  suffices Ok (m_law script) (· = true) from this.eq
  obtain ⟨t, ht, hok, hl⟩ := law_text_ok script h
  obtain ⟨due, q, hd, hq, hc⟩ := due_case t hok hl
  rw [m_law_at]
  unfold b_law
  walk_at "w"
  rw [ht]
  walk_at "w"
  rw [hq]
  rcases hc with ⟨rfl, rfl⟩ | ⟨rfl, rfl⟩ | ⟨g, rfl, rfl, hs⟩
  · walk_at "w"
    rw [et1]
    walk_at "w"
    rw [hd]
    walk_at "w"
    rw [decide_eq_false (show ¬ (textS = Str.ofString "good") by decide +kernel)]
    walk_at "w"
    rw [et1]
    walk_at "w"
    rw [kinds_text]
    walk_at "w"
    rw [decide_eq_false (show ¬ (textS = Str.ofString "grammar") by decide +kernel), fEqD_same (t := .list .bool) rfl]
    walk_at "w"
  · walk_at "w"
    rw [hd]
    walk_at "w"
    rw [decide_eq_false (show ¬ (grammarS = Str.ofString "good") by decide +kernel)]
    walk_at "w"
    rw [kinds_grammar]
    walk_at "w"
    rw [decide_eq_false (show ¬ (grammarS = Str.ofString "text") by decide +kernel), fEqD_same (t := .list .bool) rfl]
    walk_at "w"
  · walk_at "w"
    rw [hd]
    walk_at "w"
    rw [hs]
    walk_at "w"
end Law
open PySem PySem.W PyProof.Rows
set_option maxRecDepth 100000 in
set_option maxHeartbeats 0 in
theorem PySem.Challenge.cw_readgrove_k81_no_grammars_holds : PySem.Challenge.rw_readgrove_k81_no_grammars.Holds := by
  w_on; o_law; k_head; (case hw => w_witness2)
  k_fill
  refine Law.walk (l := PySem.Challenge.rw_readgrove_k81_no_grammars) Law.law_true rfl rfl (fun w h Y => PySem.W.kIn_of Y) ?F
  case F =>
    intro w mg fa h KX G hmg
    refine' Law.all_mk KX G hmg ?a0 ?l0 ?c0 ?k0 ?a1 ?l1 ?c1 ?k1 ?a2 ?l2 ?c2 ?k2 ?a3 ?l3 ?c3 ?k3 ?a4 ?l4 ?c4 ?k4 ?a5 ?l5 ?c5 ?k5 ?a6 ?l6 ?c6 ?k6 ?a7 ?l7 ?c7 ?k7 ?a8 ?l8 ?c8 ?k8 ?a9 ?l9 ?c9 ?k9 ?a10 ?l10 ?c10 ?k10 ?a11 ?l11 ?c11 ?k11 ?a12 ?l12 ?c12 ?k12 ?a13 ?l13 ?c13 ?k13 ?a14 ?l14 ?c14 ?k14 ?a15 ?l15 ?c15 ?k15 ?a16 ?l16 ?c16 ?k16 ?a17 ?l17 ?c17 ?k17 ?a18 ?l18 ?c18 ?k18 ?a19 ?l19 ?c19 ?k19 ?a20 ?l20 ?c20 ?k20 ?a21 ?l21 ?c21 ?k21 ?a22 ?l22 ?c22 ?k22 ?a23 ?l23 ?c23 ?k23 ?a24 ?l24 ?c24 ?k24 ?b_ValueError ?b_all ?b_int ?b_isinstance ?b_len ?b_list ?b_range ?b_str ?b_tuple ?c_FIGURES ?c_GREAT_grammars ?c_GREAT_texts ?c_LONGEST ?c_MOST_FIGURES ?c_SMALL ?ea_Endless ?ek_Endless ?ex_Endless ?et_Endless ?eg_Endless ?eh_Endless ?es_Endless ?ed_Endless ?el_Endless ?em_Endless ?ea_GroveError ?ek_GroveError ?ex_GroveError ?et_GroveError ?eg_GroveError ?eh_GroveError ?es_GroveError ?ed_GroveError ?el_GroveError ?em_GroveError ?ea_NoGrammar ?ek_NoGrammar ?ex_NoGrammar ?et_NoGrammar ?eg_NoGrammar ?eh_NoGrammar ?es_NoGrammar ?ed_NoGrammar ?el_NoGrammar ?em_NoGrammar ?ea_NoOrder ?ek_NoOrder ?ex_NoOrder ?et_NoOrder ?eg_NoOrder ?eh_NoOrder ?es_NoOrder ?ed_NoOrder ?el_NoOrder ?em_NoOrder ?ea_NoReading ?ek_NoReading ?ex_NoReading ?et_NoReading ?eg_NoReading ?eh_NoReading ?es_NoReading ?ed_NoReading ?el_NoReading ?em_NoReading ?ea_NoText ?ek_NoText ?ex_NoText ?et_NoText ?eg_NoText ?eh_NoText ?es_NoText ?ed_NoText ?el_NoText ?em_NoText ?ea_TooMany ?ek_TooMany ?ex_TooMany ?et_TooMany ?eg_TooMany ?eh_TooMany ?es_TooMany ?ed_TooMany ?el_TooMany ?em_TooMany ?eo_spec ?eo_take ?i_NoGrammar_Endless ?q_NoGrammar_Endless ?i_NoGrammar_GroveError ?i_NoGrammar_NoGrammar ?i_NoGrammar_NoOrder ?q_NoGrammar_NoOrder ?i_NoGrammar_NoReading ?q_NoGrammar_NoReading ?i_NoGrammar_NoText ?q_NoGrammar_NoText ?i_NoGrammar_TooMany ?q_NoGrammar_TooMany ?i_NoText_Endless ?q_NoText_Endless ?i_NoText_GroveError ?i_NoText_NoGrammar ?q_NoText_NoGrammar ?i_NoText_NoOrder ?q_NoText_NoOrder ?i_NoText_NoReading ?q_NoText_NoReading ?i_NoText_NoText ?i_NoText_TooMany ?q_NoText_TooMany ?j_NoGrammar_ValueError ?j_NoText_ValueError ?n_Endless ?n_NoGrammar ?n_NoOrder ?n_NoReading ?n_NoText ?n_TooMany
    (case a0 => k_is)
    (case l0 => k_is)
    (case c0 => k_is)
    (case k0 => k_is)
    (case a1 => k_is)
    (case l1 => k_is)
    (case c1 => k_is)
    (case k1 => k_is)
    (case a2 => k_is)
    (case l2 => k_is)
    (case c2 => k_is)
    (case k2 => k_is)
    (case a3 => k_is)
    (case l3 => k_is)
    (case c3 => k_is)
    (case k3 => k_is)
    (case a4 => k_is)
    (case l4 => k_is)
    (case c4 => k_is)
    (case k4 => k_is)
    (case a5 => k_is)
    (case l5 => k_is)
    (case c5 => k_is)
    (case k5 => k_is)
    (case a6 => k_is)
    (case l6 => k_is)
    (case c6 => k_is)
    (case k6 => k_is)
    (case a7 => k_is)
    (case l7 => k_is)
    (case c7 => k_is)
    (case k7 => k_is)
    (case a8 => k_is)
    (case l8 => k_is)
    (case c8 => k_is)
    (case k8 => k_is)
    (case a9 => k_is)
    (case l9 => k_is)
    (case c9 => k_is)
    (case k9 => k_is)
    (case a10 => k_is)
    (case l10 => k_is)
    (case c10 => k_is)
    (case k10 => k_is)
    (case a11 => k_is)
    (case l11 => k_is)
    (case c11 => k_is)
    (case k11 => k_is)
    (case a12 => k_is)
    (case l12 => k_is)
    (case c12 => k_is)
    (case k12 => k_is)
    (case a13 => k_is)
    (case l13 => k_is)
    (case c13 => k_is)
    (case k13 => k_is)
    (case a14 => k_is)
    (case l14 => k_is)
    (case c14 => k_is)
    (case k14 => k_is)
    (case a15 => k_is)
    (case l15 => k_is)
    (case c15 => k_is)
    (case k15 => k_is)
    (case a16 => k_is)
    (case l16 => k_is)
    (case c16 => k_is)
    (case k16 => k_is)
    (case a17 => k_is)
    (case l17 => k_is)
    (case c17 => k_is)
    (case k17 => k_is)
    (case a18 => k_is)
    (case l18 => k_is)
    (case c18 => k_is)
    (case k18 => k_is)
    (case a19 => k_is)
    (case l19 => k_is)
    (case c19 => k_is)
    (case k19 => k_is)
    (case a20 => k_is)
    (case l20 => k_is)
    (case c20 => k_is)
    (case k20 => k_is)
    (case a21 => k_is)
    (case l21 => k_is)
    (case c21 => k_is)
    (case k21 => k_is)
    (case a22 => k_is)
    (case l22 => k_is)
    (case c22 => k_is)
    (case k22 => k_is)
    (case a23 => k_is)
    (case l23 => k_is)
    (case c23 => k_is)
    (case k23 => k_is)
    (case a24 => k_is)
    (case l24 => k_is)
    (case c24 => k_is)
    (case k24 => k_is)
    (case b_ValueError => k_is)
    (case b_all => k_is)
    (case b_int => k_is)
    (case b_isinstance => k_is)
    (case b_len => k_is)
    (case b_list => k_is)
    (case b_range => k_is)
    (case b_str => k_is)
    (case b_tuple => k_is)
    (case c_FIGURES => k_is)
    (case c_GREAT_grammars => k_is)
    (case c_GREAT_texts => k_is)
    (case c_LONGEST => k_is)
    (case c_MOST_FIGURES => k_is)
    (case c_SMALL => k_is)
    (case ea_Endless => k_is)
    (case ek_Endless => k_is)
    (case ex_Endless => k_exc)
    (case et_Endless => k_is)
    (case eg_Endless => k_is)
    (case eh_Endless => k_is)
    (case es_Endless => k_is)
    (case ed_Endless => k_is)
    (case el_Endless => k_is)
    (case em_Endless => k_is)
    (case ea_GroveError => k_is)
    (case ek_GroveError => k_is)
    (case ex_GroveError => k_exc)
    (case et_GroveError => k_is)
    (case eg_GroveError => k_is)
    (case eh_GroveError => k_is)
    (case es_GroveError => k_is)
    (case ed_GroveError => k_is)
    (case el_GroveError => k_is)
    (case em_GroveError => k_is)
    (case ea_NoGrammar => k_is)
    (case ek_NoGrammar => k_is)
    (case ex_NoGrammar => k_exc)
    (case et_NoGrammar => k_is)
    (case eg_NoGrammar => k_is)
    (case eh_NoGrammar => k_is)
    (case es_NoGrammar => k_is)
    (case ed_NoGrammar => k_is)
    (case el_NoGrammar => k_is)
    (case em_NoGrammar => k_is)
    (case ea_NoOrder => k_is)
    (case ek_NoOrder => k_is)
    (case ex_NoOrder => k_exc)
    (case et_NoOrder => k_is)
    (case eg_NoOrder => k_is)
    (case eh_NoOrder => k_is)
    (case es_NoOrder => k_is)
    (case ed_NoOrder => k_is)
    (case el_NoOrder => k_is)
    (case em_NoOrder => k_is)
    (case ea_NoReading => k_is)
    (case ek_NoReading => k_is)
    (case ex_NoReading => k_exc)
    (case et_NoReading => k_is)
    (case eg_NoReading => k_is)
    (case eh_NoReading => k_is)
    (case es_NoReading => k_is)
    (case ed_NoReading => k_is)
    (case el_NoReading => k_is)
    (case em_NoReading => k_is)
    (case ea_NoText => k_is)
    (case ek_NoText => k_is)
    (case ex_NoText => k_exc)
    (case et_NoText => k_is)
    (case eg_NoText => k_is)
    (case eh_NoText => k_is)
    (case es_NoText => k_is)
    (case ed_NoText => k_is)
    (case el_NoText => k_is)
    (case em_NoText => k_is)
    (case ea_TooMany => k_is)
    (case ek_TooMany => k_is)
    (case ex_TooMany => k_exc)
    (case et_TooMany => k_is)
    (case eg_TooMany => k_is)
    (case eh_TooMany => k_is)
    (case es_TooMany => k_is)
    (case ed_TooMany => k_is)
    (case el_TooMany => k_is)
    (case em_TooMany => k_is)
    (case eo_spec => k_is)
    (case eo_take => k_is)
    (case i_NoGrammar_Endless => k_is)
    (case q_NoGrammar_Endless => decide)
    (case i_NoGrammar_GroveError => k_is)
    (case i_NoGrammar_NoGrammar => k_is)
    (case i_NoGrammar_NoOrder => k_is)
    (case q_NoGrammar_NoOrder => decide)
    (case i_NoGrammar_NoReading => k_is)
    (case q_NoGrammar_NoReading => decide)
    (case i_NoGrammar_NoText => k_is)
    (case q_NoGrammar_NoText => decide)
    (case i_NoGrammar_TooMany => k_is)
    (case q_NoGrammar_TooMany => decide)
    (case i_NoText_Endless => k_is)
    (case q_NoText_Endless => decide)
    (case i_NoText_GroveError => k_is)
    (case i_NoText_NoGrammar => k_is)
    (case q_NoText_NoGrammar => decide)
    (case i_NoText_NoOrder => k_is)
    (case q_NoText_NoOrder => decide)
    (case i_NoText_NoReading => k_is)
    (case q_NoText_NoReading => decide)
    (case i_NoText_NoText => k_is)
    (case i_NoText_TooMany => k_is)
    (case q_NoText_TooMany => decide)
    (case j_NoGrammar_ValueError => k_is)
    (case j_NoText_ValueError => k_is)
    (case n_Endless => k_is)
    (case n_NoGrammar => k_is)
    (case n_NoOrder => k_is)
    (case n_NoReading => k_is)
    (case n_NoText => k_is)
    (case n_TooMany => k_is)
