import PyProof.Rows.All
import Wide.All
import OpenK.AllK
import Wide.FinOn
import HandS.ForMost
import HandS.Exc
import HandS.ExcOwn
import HandS.WordsExc
import HandS.ExcIs
import KE.KeyNested
import KE.SortData
import KE.SortLaws
import KE.KDictCopyH
import KE.KDictSum
import KE.KDictWalk
import HandS.SetKeys
import HandS.SetFor
import HandS.Strs
import KE.KRevSl
import PyProof.ListNew
import KE.KRevIter
import HandS.RevTup
import HandS.Rev
import HandS.DictComp
import HandS.WordsDict
import PyProof.EqAt
import PyProof.NeData
import PyProof.EqLayable
import PyProof.Rows.EqDataRows
import HandS.Iter
import KE.GoesEnum
import KE.GoesNew
import KE.KDictPairs
import HandS.Dict
import HandS.List
import PyProof.AutoSeq1
import KE.LtData
import HandS.Deep
import KE.DataMinMax
import KE.DataFind
import PyProof.P3Eq
import PyProof.Rows.CallKwBuiltin
import HandS.TryMany
import HandS.ExcValue
import KE.KTryMore
import HandS.DictTup
import HandS.DictEq
import PyProof.DictMoreH
import HandS.More
import HandS.WideBits
import HandS.Conv
import PyProof.ListRange
import PyProof.LongRange
import HandS.Zip
import HandS.MapObj
import KE.KDictZip
import PyProof.ZipIter
import HandS.Wide
import HandS.IsInst
import HandS.NoneIn
import HandS.TupLen
import HandS.TupAny
import KE.DataAny
import HandS.Codes
import PySem.Challenge.RW_readgrove_k62_refused_with_empty_rules
set_option Elab.async false
set_option linter.all false
set_option maxRecDepth 100000
namespace VV
structure KW where
  K : PySem.W.Frag
  P : PySem.Program
  w : PySem.World
instance : CoeOut KW PySem.W.Frag := ⟨KW.K⟩
open PySem L2
inductive Ty where
  | non | bool | int | str | any | exn
  | alt (a b : Ty) | opt (t : Ty) | vtup (t : Ty) | list (t : Ty) | dict (k v : Ty) | own (t : Ty)
  | hl (b : Ty) | ins (C : Addr) (ks : List Str) (b : Ty) | tup (b : Ty) | last (a : Ty) | cons (a b : Ty)
  deriving DecidableEq
@[reducible] def den : Ty → Type
  | .non => Unit
  | .bool => Bool
  | .int => Int
  | .str => Str
  | .any => PyData
  | .exn => Str
  | .alt a b => Sum (den a) (den b)
  | .opt t => Option (den t)
  | .vtup t => List (den t)
  | .list t => List (den t)
  | .dict k v => List (den k × den v)
  | .own t => den t
  | .hl b => den b
  | .ins _ _ b => den b
  | .tup b => den b
  | .last a => den a
  | .cons a b => den a × den b
def Ty.frz : Ty → Bool
  | .non => true
  | .bool => true
  | .int => true
  | .str => true
  | .any => true
  | .exn => true
  | .alt a b => a.frz && b.frz
  | .opt t => t.frz
  | .vtup t => t.frz
  | .list _ => false
  | .dict _ _ => false
  | .own _ => false
  | .hl _ => false
  | .ins _ _ _ => false
  | .tup b => b.frz
  | .last a => a.frz
  | .cons a b => a.frz && b.frz
def Ty.isOwn : Ty → Bool
  | .own _ => true
  | _ => false
def clsNm (C : Addr) : Str := if C = 0 then "Making" else "Desk"
def nkRows : (b : Ty) → den b → Option (List (Str × List Str))
  | .list (.tup (.cons .str (.last (.vtup .str)))), d => some d
  | _, _ => none
def nkOf (q : Str × List Str) : NestedKey := .tup [.text q.1, .tup (q.2.map .text)]
def nkHO (w : World) (a : Addr) (xs : List ((Str × List Str) × Addr)) : HO := .ext fun h => (a == sysModules) = false ∧ ∃ (o : Obj) (es : Array DictEntry) (ep : Nat), h.get? a = some o ∧ o.ExactDict ∧ o.data = .dict es ep ∧ es.toList = xs.map fun x => (⟨(nkOf x.1).hash w, .ref x.2, .bool true⟩ : DictEntry)
def NkAt (H : Hp) (q : Str × List Str) (b : Addr) : Prop := ∃ c, H b = some (.tup [.str q.1, .ref c]) ∧ H c = some (.tup (q.2.map .str))
mutual
def dv (H : Hp) : PyData → V → Prop
  | .none, v => v = .non
  | .bool b, v => v = .bl b
  | .int i, v => v = .int i
  | .str x, v => v = .str x ∧ PyData.strOk x = true
  | .list _, _ => False
  | .tuple ds, v => ∃ a vs, v = .ref a ∧ H a = some (.tup vs) ∧ dvs H ds vs
  | .dict _, _ => False
def dvs (H : Hp) : List PyData → List V → Prop
  | [], vs => vs = []
  | d :: ds, vs => ∃ v r, vs = v :: r ∧ dv H d v ∧ dvs H ds r
end
def keyS : (k : Ty) → den k → Option Key
  | .int, i => some (.inl i)
  | .str, x => some (.inr x)
  | _, _ => none
def keyRow : (b : Ty) → den b → Option (List Key)
  | .last a, d => (keyS a d).map fun k => [k]
  | .cons a b, d => do
    let k ← keyS a d.1
    let r ← keyRow b d.2
    pure (k :: r)
  | _, _ => none
def keyVs (t : Ty) : List (den t) → Option (List Key)
  | [] => some []
  | d :: r => do
    let k ← keyS t d
    let s ← keyVs t r
    pure (k :: s)
def keyT : (k : Ty) → den k → Option (List Key)
  | .tup b, d => keyRow b d
  | .vtup t, d => keyVs t d
  | _, _ => none
def Ty.tk : Ty → Bool
  | .tup _ => true
  | .vtup _ => true
  | _ => false
def F2 {α β : Type} (P : α → β → Prop) : List α → List β → Prop
  | [], [] => True
  | v :: vs, d :: ds => P v d ∧ F2 P vs ds
  | _, _ => False
def F3 {α β : Type} (P : α → β → List Addr → Prop) : List α → List β → List Addr → Prop
  | [], [], f => f = []
  | v :: vs, d :: ds, f => ∃ f1 f2, f = f1 ++ f2 ∧ P v d f1 ∧ F3 P vs ds f2
  | _, _, _ => False
theorem F2.imp {α β : Type} {P P' : α → β → Prop} (h : ∀ v d, P v d → P' v d) : ∀ {vs : List α} {ds : List β}, F2 P vs ds → F2 P' vs ds
  | [], [], q => q
  | v :: vs, d :: ds, q => ⟨h v d q.1, F2.imp h q.2⟩
  | [], _ :: _, q => q.elim
  | _ :: _, [], q => q.elim
theorem F2.length {α β : Type} {P : α → β → Prop} : ∀ {vs : List α} {ds : List β}, F2 P vs ds → vs.length = ds.length
  | [], [], _ => rfl
  | _ :: vs, _ :: ds, q => by
    have := F2.length (P := P) q.2
    simp [this]
  | [], _ :: _, q => q.elim
  | _ :: _, [], q => q.elim
theorem F2.append {α β : Type} {P : α → β → Prop} : ∀ {vs : List α} {ds : List β} {ws : List α} {es : List β}, F2 P vs ds → F2 P ws es → F2 P (vs ++ ws) (ds ++ es)
  | [], [], _, _, _, q => q
  | _ :: _, _ :: _, _, _, p, q => ⟨p.1, F2.append p.2 q⟩
  | [], _ :: _, _, _, p, _ => p.elim
  | _ :: _, [], _, _, p, _ => p.elim
theorem F2.get {α β : Type} {P : α → β → Prop} : ∀ {vs : List α} {ds : List β} {i : Nat} {d : β}, F2 P vs ds → ds[i]? = some d → ∃ v, vs[i]? = some v ∧ P v d
  | v :: vs, e :: ds, 0, d, q, h => by
    simp at h
    subst h
    exact ⟨v, rfl, q.1⟩
  | v :: vs, e :: ds, i + 1, d, q, h => by
    obtain ⟨w, h1, h2⟩ := F2.get (i := i) (d := d) q.2 (by simpa using h)
    exact ⟨w, by simpa using h1, h2⟩
  | [], [], _, _, _, h => by simp at h
  | [], _ :: _, _, _, q, _ => q.elim
  | _ :: _, [], _, _, q, _ => q.elim
theorem F2.get' {α β : Type} {P : α → β → Prop} : ∀ {vs : List α} {ds : List β} {i : Nat} {v : α}, F2 P vs ds → vs[i]? = some v → ∃ d, ds[i]? = some d ∧ P v d
  | v :: vs, e :: ds, 0, d, q, h => by
    simp at h
    subst h
    exact ⟨e, rfl, q.1⟩
  | v :: vs, e :: ds, i + 1, d, q, h => by
    obtain ⟨w, h1, h2⟩ := F2.get' (i := i) (v := d) q.2 (by simpa using h)
    exact ⟨w, by simpa using h1, h2⟩
  | [], [], _, _, _, h => by simp at h
  | [], _ :: _, _, _, q, _ => q.elim
  | _ :: _, [], _, _, q, _ => q.elim
theorem F2.take {α β : Type} {P : α → β → Prop} : ∀ {vs : List α} {ds : List β} (n : Nat), F2 P vs ds → F2 P (vs.take n) (ds.take n)
  | _, _, 0, _ => by simp [F2]
  | [], [], _ + 1, _ => by simp [F2]
  | v :: vs, d :: ds, n + 1, q => ⟨q.1, F2.take n q.2⟩
  | [], _ :: _, _, q => q.elim
  | _ :: _, [], _, q => q.elim
theorem F2.drop {α β : Type} {P : α → β → Prop} : ∀ {vs : List α} {ds : List β} (n : Nat), F2 P vs ds → F2 P (vs.drop n) (ds.drop n)
  | _, _, 0, q => by simpa using q
  | [], [], _ + 1, _ => by simp [F2]
  | v :: vs, d :: ds, n + 1, q => by simpa using F2.drop n q.2
  | [], _ :: _, _, q => q.elim
  | _ :: _, [], _, q => q.elim
theorem F2.reverse {α β : Type} {P : α → β → Prop} : ∀ {vs : List α} {ds : List β}, F2 P vs ds → F2 P vs.reverse ds.reverse
  | [], [], q => q
  | v :: vs, d :: ds, q => by
    simp only [List.reverse_cons]
    exact F2.append (F2.reverse q.2) ⟨q.1, trivial⟩
  | [], _ :: _, q => q.elim
  | _ :: _, [], q => q.elim
theorem F3.imp {α β : Type} {P P' : α → β → List Addr → Prop} : ∀ {vs : List α} {ds : List β} {f : List Addr}, (∀ v d g, (∀ a ∈ g, a ∈ f) → P v d g → P' v d g) → F3 P vs ds f → F3 P' vs ds f
  | [], [], _, _, q => q
  | v :: vs, d :: ds, f, h, q => by
    obtain ⟨f1, f2, rfl, p, r⟩ := q
    exact ⟨f1, f2, rfl, h v d f1 (fun a ha => List.mem_append_left _ ha) p, F3.imp (fun v d g hg x => h v d g (fun a ha => List.mem_append_right _ (hg a ha)) x) r⟩
  | [], _ :: _, _, _, q => q.elim
  | _ :: _, [], _, _, q => q.elim
theorem F3.to2 {α β : Type} {P : α → β → List Addr → Prop} {P' : α → β → Prop} : ∀ {vs : List α} {ds : List β} {f : List Addr}, (∀ v d g, (∀ a ∈ g, a ∈ f) → P v d g → P' v d) → F3 P vs ds f → F2 P' vs ds
  | [], [], _, _, _ => True.intro
  | v :: vs, d :: ds, f, h, q => by
    obtain ⟨f1, f2, rfl, p, r⟩ := q
    exact ⟨h v d f1 (fun a ha => List.mem_append_left _ ha) p, F3.to2 (fun v d g hg x => h v d g (fun a ha => List.mem_append_right _ (hg a ha)) x) r⟩
  | [], _ :: _, _, _, q => q.elim
  | _ :: _, [], _, _, q => q.elim
theorem F3.of2 {α β : Type} {P : α → β → List Addr → Prop} {P' : α → β → Prop} (h : ∀ v d, P' v d → P v d []) : ∀ {vs : List α} {ds : List β}, F2 P' vs ds → F3 P vs ds []
  | [], [], _ => rfl
  | v :: vs, d :: ds, q => ⟨[], [], rfl, h v d q.1, F3.of2 h q.2⟩
  | [], _ :: _, q => q.elim
  | _ :: _, [], q => q.elim
theorem F3.nil_of {α β : Type} {P : α → β → List Addr → Prop} (h : ∀ v d f, P v d f → f = []) : ∀ {vs : List α} {ds : List β} {f : List Addr}, F3 P vs ds f → f = []
  | [], [], _, q => q
  | v :: vs, d :: ds, _, q => by
    obtain ⟨f1, f2, rfl, p, r⟩ := q
    rw [h v d f1 p, F3.nil_of h r]
    rfl
  | [], _ :: _, _, q => q.elim
  | _ :: _, [], _, q => q.elim
theorem F3.append {α β : Type} {P : α → β → List Addr → Prop} : ∀ {vs : List α} {ds : List β} {f : List Addr} {ws : List α} {es : List β} {g : List Addr}, F3 P vs ds f → F3 P ws es g → F3 P (vs ++ ws) (ds ++ es) (f ++ g)
  | [], [], _, _, _, _, p, q => by
    have p : _ = _ := p
    subst p
    exact q
  | v :: vs, d :: ds, _, _, _, _, p, q => by
    obtain ⟨f1, f2, rfl, p, r⟩ := p
    exact ⟨f1, f2 ++ _, by rw [List.append_assoc], p, F3.append r q⟩
  | [], _ :: _, _, _, _, _, p, _ => p.elim
  | _ :: _, [], _, _, _, _, p, _ => p.elim
theorem F3.length {α β : Type} {P : α → β → List Addr → Prop} : ∀ {vs : List α} {ds : List β} {f : List Addr}, F3 P vs ds f → vs.length = ds.length
  | [], [], _, _ => rfl
  | _ :: vs, _ :: ds, _, q => by
    obtain ⟨f1, f2, rfl, p, r⟩ := q
    have := F3.length r
    simp [this]
  | [], _ :: _, _, q => q.elim
  | _ :: _, [], _, q => q.elim
def ExK (cls : Value) (a : Addr) : HO := .ext fun h => ∃ (oe : Obj) (vs : Array Value), h.get? a = some oe ∧ Zc cls none oe ∧ oe.data = .fields vs
def NstD (w : World) (H : Hp) (a : Addr) (ks : List (Str × List Str)) : Prop :=
  ks.length ≤ sizeLine ∧ ks.Nodup ∧ (∀ C, H a ≠ some (ExK C a)) ∧ ((ks = [] ∧ H a = some (.dK [])) ∨ ∃ xs, xs.map (·.1) = ks ∧ (∀ x ∈ xs, NkAt H x.1 x.2) ∧ H a = some (nkHO w a xs))
def ClsN (K : PySem.W.Frag) (d : Str) (C : Addr) : Prop := PySem.W.nsIn K PySem.mainGlobals d = some (some (.ref C))
theorem ClsN.inj {K : PySem.W.Frag} {d : Str} {C C' : Addr} (h : ClsN K d C) (h' : ClsN K d C') : C = C' := by
  unfold ClsN at h h'
  rw [h] at h'
  cases h'
  rfl
abbrev Reg := Addr → Prop
structure Stb (H H' : Hp) : Prop where
  tup : ∀ a xs, H a = some (.tup xs) → H' a = some (.tup xs)
  frl : ∀ a o xs, H a = some (.frz o (.lst xs)) → H' a = some (.frz o (.lst xs))
  frt : ∀ a o xs, H a = some (.frz o (.tup xs)) → H' a = some (.frz o (.tup xs))
  ext : ∀ a C, H a = some (ExK C a) → H' a = some (ExK C a)
theorem Stb.refl (H : Hp) : Stb H H := ⟨fun _ _ h => h, fun _ _ _ h => h, fun _ _ _ h => h, fun _ _ h => h⟩
theorem Stb.trans {H H1 H2 : Hp} (a : Stb H H1) (b : Stb H1 H2) : Stb H H2 := ⟨fun c x h => b.tup c x (a.tup c x h), fun c o x h => b.frl c o x (a.frl c o x h), fun c o x h => b.frt c o x (a.frt c o x h), fun c φ h => b.ext c φ (a.ext c φ h)⟩
theorem Stb.of_same {H H' : Hp} (s : Same H H') : Stb H H' := ⟨fun _ _ h => s _ _ h, fun _ _ _ h => s _ _ h, fun _ _ _ h => s _ _ h, fun _ _ h => s _ _ h⟩
def mutO : HO → Bool
  | .tup _ => false
  | .ext _ => false
  | .frz _ _ => false
  | _ => true
theorem Stb.upd {H : Hp} {a : Addr} {o u : HO} (h : H a = some o) (m : mutO o = true) : Stb H (upd H a u) := by
  refine ⟨fun b xs e => ?_, fun b q xs e => ?_, fun b q xs e => ?_, fun b φ e => ?_⟩ <;>
  · by_cases hb : b = a
    · subst hb
      rw [h] at e
      rw [Option.some.inj e] at m
      cases m
    · rw [upd_ne hb]
      exact e
theorem NkAt.stb {H H' : Hp} {q : Str × List Str} {b : Addr} (s : Stb H H') (h : NkAt H q b) : NkAt H' q b := by
  obtain ⟨c, h1, h2⟩ := h
  exact ⟨c, s.tup _ _ h1, s.tup _ _ h2⟩
theorem NstD.stb {w : World} {H H' : Hp} {a : Addr} {ks : List (Str × List Str)} (s : Stb H H') (e : H' a = H a) (h : NstD w H a ks) : NstD w H' a ks := by
  obtain ⟨h1, h2, h3, h4⟩ := h
  refine ⟨h1, h2, by rw [e]; exact h3, ?_⟩
  rw [e]
  rcases h4 with h4 | ⟨xs, k1, k2, k3⟩
  · exact .inl h4
  · exact .inr ⟨xs, k1, fun x hx => (k2 x hx).stb s, k3⟩
theorem NstD.upd {w : World} {H : Hp} {a : Addr} {ks : List (Str × List Str)} {u : HO} (h : NstD w H a ks) : Stb H (upd H a u) := by
  obtain ⟨_, _, h3, h4⟩ := h
  have nt : ∀ xs, H a ≠ some (.tup xs) := fun xs z => by
    rcases h4 with ⟨_, e⟩ | ⟨_, _, _, e⟩ <;> rw [z] at e <;> cases e
  have nf : ∀ o v, H a ≠ some (.frz o v) := fun o v z => by
    rcases h4 with ⟨_, e⟩ | ⟨_, _, _, e⟩ <;> rw [z] at e <;> cases e
  refine ⟨fun b xs e => ?_, fun b q xs e => ?_, fun b q xs e => ?_, fun b C e => ?_⟩
  · rw [upd_ne (fun z => nt xs (by subst z; exact e) : b ≠ a)]; exact e
  · rw [upd_ne (fun z => nf _ _ (by subst z; exact e) : b ≠ a)]; exact e
  · rw [upd_ne (fun z => nf _ _ (by subst z; exact e) : b ≠ a)]; exact e
  · rw [upd_ne (fun z => h3 C (by subst z; exact e) : b ≠ a)]; exact e
def stripD : Option HO → Option HO
  | some (.frz _ (.dK k)) => some (.dK k)
  | some (.frz _ (.dT k)) => some (.dT k)
  | o => o
theorem strip_lst {H : Hp} {a : Addr} {vs : List V} (h : stripD (H a) = some (.lst vs)) : H a = some (.lst vs) := by
  unfold stripD at h
  split at h <;> first | exact h | cases h
theorem strip_dK {H : Hp} {a : Addr} {k : List (Key × V)} (h : stripD (H a) = some (.dK k)) : H a = some (.dK k) ∨ ∃ o, H a = some (.frz o (.dK k)) := by
  unfold stripD at h
  split at h
  · rename_i e; cases h; exact .inr ⟨_, e⟩
  · cases h
  · exact .inl h
theorem strip_dT {H : Hp} {a : Addr} {k : List (List Key × V)} (h : stripD (H a) = some (.dT k)) : H a = some (.dT k) ∨ ∃ o, H a = some (.frz o (.dT k)) := by
  unfold stripD at h
  split at h
  · cases h
  · rename_i e; cases h; exact .inr ⟨_, e⟩
  · exact .inl h
theorem strip_of {H : Hp} {a : Addr} {o : HO} (h : H a = some o) (m : mutO o = true) : stripD (H a) = some o := by
  rw [h]
  cases o <;> first | rfl | cases m
theorem strip_some {x : Option HO} {o : HO} (h : stripD x = some o) : x.isSome = true := by
  cases x with
  | none => cases h
  | some y => rfl
theorem same_new {H : Hp} {a : Addr} {o : HO} (h : H a = none) : Same H (L2.upd H a o) := fun b q e => by
  rw [upd_ne (ne_of_none e h)]
  exact e
def LstR (K : PySem.W.Frag) (H : Hp) (R : Reg) (a : Addr) (vs : List V) : Prop :=
  (R a ∧ stripD (H a) = some (.lst vs)) ∨ (∃ o, H a = some (.frz o (.lst vs))) ∨
    ∃ (o : Obj) (its : Array Value) (n : Nat), K.lookup a = some o ∧ o.cls = .type "list" ∧ o.dict = none ∧ o.data = .seq its n ∧ its.size ≤ sizeLine ∧ Vals vs its.toList
section
variable (K : KW) (H : Hp)
def DicK (R : Reg) (a : Addr) (kvs : List (Key × V)) : Prop := R a ∧ stripD (H a) = some (.dK kvs)
def DicT (R : Reg) (a : Addr) (kvs : List (List Key × V)) : Prop := R a ∧ stripD (H a) = some (.dT kvs)
def rS (R : Reg) : (t : Ty) → (V → den t → Prop) × (List V → den t → Prop)
  | .non => (fun v _ => v = .non, fun _ _ => False)
  | .bool => (fun v d => v = .bl d, fun _ _ => False)
  | .int => (fun v d => v = .int d, fun _ _ => False)
  | .str => (fun v d => v = .str d ∧ PyData.strOk d = true, fun _ _ => False)
  | .any => (fun v d => dv H d v, fun _ _ => False)
  | .exn => (fun v d => ∃ a C, v = .ref a ∧ H a = some (ExK (.ref C) a) ∧ ClsN K d C, fun _ _ => False)
  | .alt a b => (fun v d => match d with
      | .inl x => (rS R a).1 v x
      | .inr y => (rS R b).1 v y, fun _ _ => False)
  | .opt t => (fun v d => match d with
      | none => v = .non
      | some x => v ≠ .non ∧ (rS R t).1 v x, fun _ _ => False)
  | .vtup t => (fun v d => ∃ a vs, v = .ref a ∧ H a = some (.tup vs) ∧ F2 (rS R t).1 vs d, fun _ _ => False)
  | .list t => (fun v d => ∃ a vs, v = .ref a ∧ LstR K H R a vs ∧ F2 (rS R t).1 vs d, fun _ _ => False)
  | .dict k t => (fun v d => ∃ a, v = .ref a ∧
      ((k.tk = false ∧ ∃ kvs, DicK H R a kvs ∧ F2 (fun p q => keyS k q.1 = some p.1 ∧ (rS R t).1 p.2 q.2) kvs d) ∨
       (k.tk = true ∧ ∃ kvs, DicT H R a kvs ∧ F2 (fun p q => keyT k q.1 = some p.1 ∧ (rS R t).1 p.2 q.2) kvs d)), fun _ _ => False)
  | .own t => rS R t
  | .hl b => (fun v d => ∃ a vs, v = .ref a ∧ LstR K H R a vs ∧ (rS R b).2 vs d, fun _ _ => False)
  | .ins _ _ _ => (fun v _ => ∃ a, v = .ref a, fun _ _ => False)
  | .tup b => (fun v d => ∃ a vs, v = .ref a ∧ H a = some (.tup vs) ∧ (rS R b).2 vs d, fun _ _ => False)
  | .last a => (fun _ _ => False, fun vs d => ∃ v, vs = [v] ∧ (rS R a).1 v d)
  | .cons a b => (fun _ _ => False, fun vs d => ∃ v r, vs = v :: r ∧ (rS R a).1 v d.1 ∧ (rS R b).2 r d.2)
def kid {α : Type} (own : Bool) (s : V → α → Prop) (o : V → α → List Addr → Prop) : V → α → List Addr → Prop := fun v d f => o v d f ∨ (own = false ∧ f = [] ∧ s v d)
def rO (L : Reg) : (t : Ty) → (V → den t → List Addr → Prop) × (List V → den t → List Addr → Prop)
  | .non => (fun v _ f => f = [] ∧ v = .non, fun _ _ _ => False)
  | .bool => (fun v d f => f = [] ∧ v = .bl d, fun _ _ _ => False)
  | .int => (fun v d f => f = [] ∧ v = .int d, fun _ _ _ => False)
  | .str => (fun v d f => f = [] ∧ v = .str d ∧ PyData.strOk d = true, fun _ _ _ => False)
  | .any => (fun v d f => f = [] ∧ dv H d v, fun _ _ _ => False)
  | .exn => (fun v d f => f = [] ∧ ∃ a C, v = .ref a ∧ H a = some (ExK (.ref C) a) ∧ ClsN K d C, fun _ _ _ => False)
  | .alt a b => (fun v d f => match d with
      | .inl x => (rO L a).1 v x f
      | .inr y => (rO L b).1 v y f, fun _ _ _ => False)
  | .opt t => (fun v d f => match d with
      | none => f = [] ∧ v = .non
      | some x => v ≠ .non ∧ kid t.isOwn (rS K H L t).1 (rO L t).1 v x f, fun _ _ _ => False)
  | .vtup t => (fun v d f => ∃ a vs, v = .ref a ∧ H a = some (.tup vs) ∧ F3 (kid t.isOwn (rS K H L t).1 (rO L t).1) vs d f, fun _ _ _ => False)
  | .list t => (fun v d f => ∃ a vs g, v = .ref a ∧ f = a :: g ∧ H a = some (.lst vs) ∧ F3 (kid t.isOwn (rS K H L t).1 (rO L t).1) vs d g, fun _ _ _ => False)
  | .dict k t => (fun v d f => ∃ a g, v = .ref a ∧ f = a :: g ∧
      ((k.tk = false ∧ ∃ kvs, H a = some (.dK kvs) ∧ F3 (fun p q g => keyS k q.1 = some p.1 ∧ kid t.isOwn (rS K H L t).1 (rO L t).1 p.2 q.2 g) kvs d g) ∨
       (k.tk = true ∧ ∃ kvs, H a = some (.dT kvs) ∧ F3 (fun p q g => keyT k q.1 = some p.1 ∧ kid t.isOwn (rS K H L t).1 (rO L t).1 p.2 q.2 g) kvs d g)), fun _ _ _ => False)
  | .own t => rO L t
  | .hl b => (fun v d f => ∃ a vs g, v = .ref a ∧ f = a :: g ∧ H a = some (.lst vs) ∧ (rO L b).2 vs d g, fun _ _ _ => False)
  | .ins C ks b => (fun v d f => (ks = [] ∧ ∃ a qs, v = .ref a ∧ f = [a] ∧ nkRows b d = some qs ∧ NstD K.w H a qs) ∨
      (ks ≠ [] ∧ ∃ C' a dx fs g, v = .ref a ∧ f = a :: dx :: g ∧ ClsN K (clsNm C) C' ∧ H a = some (.ins C' dx fs) ∧ H dx = some (.own a) ∧ fs.map (·.1) = ks ∧ (rO L b).2 (fs.map (·.2)) d g), fun _ _ _ => False)
  | .tup b => (fun v d f => ∃ a vs, v = .ref a ∧ H a = some (.tup vs) ∧ (rO L b).2 vs d f, fun _ _ _ => False)
  | .last a => (fun _ _ _ => False, fun vs d f => ∃ v, vs = [v] ∧ kid a.isOwn (rS K H L a).1 (rO L a).1 v d f)
  | .cons a b => (fun _ _ _ => False, fun vs d f => ∃ v r f1 f2, vs = v :: r ∧ f = f1 ++ f2 ∧ kid a.isOwn (rS K H L a).1 (rO L a).1 v d.1 f1 ∧ (rO L b).2 r d.2 f2)
end
section
variable {K : KW} {H H' : Hp} {R R' L L' : Reg}
mutual
theorem dv_mono (s : Stb H H') : ∀ (d : PyData) (v : V), dv H d v → dv H' d v
  | .none, _, h => h
  | .bool _, _, h => h
  | .int _, _, h => h
  | .str _, _, h => h
  | .list _, _, h => h.elim
  | .tuple ds, _, h => by
    obtain ⟨a, vs, e, h1, h2⟩ := h
    exact ⟨a, vs, e, s.tup _ _ h1, dvs_mono s ds vs h2⟩
  | .dict _, _, h => h.elim
theorem dvs_mono (s : Stb H H') : ∀ (ds : List PyData) (vs : List V), dvs H ds vs → dvs H' ds vs
  | [], _, h => h
  | d :: ds, _, h => by
    obtain ⟨v, r, e, h1, h2⟩ := h
    exact ⟨v, r, e, dv_mono s d v h1, dvs_mono s ds r h2⟩
end
mutual
theorem dv_dp : ∀ (d : PyData) (v : V), dv H d v → Dp K H v d
  | .none, _, h => by cases h; exact .non
  | .bool _, _, h => by cases h; exact .bl _
  | .int _, _, h => by cases h; exact .int _
  | .str _, _, h => by obtain ⟨rfl, _⟩ := h; exact .str _
  | .list _, _, h => h.elim
  | .tuple ds, _, h => by
    obtain ⟨a, vs, rfl, h1, h2⟩ := h
    exact .tup (.of h1) (dvs_dp ds vs h2)
  | .dict _, _, h => h.elim
theorem dvs_dp : ∀ (ds : List PyData) (vs : List V), dvs H ds vs → DpAll K H vs ds
  | [], _, h => by cases h; exact .nil
  | d :: ds, _, h => by
    obtain ⟨v, r, rfl, h1, h2⟩ := h
    exact .cons (dv_dp d v h1) (dvs_dp ds r h2)
end
def Cov (H H' : Hp) (R R' : Reg) : Prop := ∀ a o, R a → stripD (H a) = some o → R' a ∧ stripD (H' a) = some o
theorem Cov.refl (H : Hp) (R : Reg) : Cov H H R R := fun _ _ h e => ⟨h, e⟩
theorem Cov.of_same (s : Same H H') (h : ∀ a, R a → (H a).isSome = true → R' a) : Cov H H' R R' := fun a o hr e => by
  refine ⟨h a hr (strip_some e), ?_⟩
  cases q : H a with
  | none => rw [q] at e; cases e
  | some x => rw [s _ _ q, ← q]; exact e
theorem Cov.of_reg (h : ∀ a, R a → (H a).isSome = true → R' a) : Cov H H R R' := Cov.of_same (Same.refl H) h
theorem LstR.mono {a : Addr} {vs : List V} (hc : Cov H H' R R') (hs : Stb H H') (h : LstR K H R a vs) : LstR K H' R' a vs := by
  rcases h with ⟨h1, h2⟩ | ⟨o, h⟩ | h
  · exact .inl (hc _ _ h1 h2)
  · exact .inr (.inl ⟨o, hs.frl _ _ _ h⟩)
  · exact .inr (.inr h)
theorem LstR.seq {a : Addr} {vs : List V} (h : LstR K H R a vs) : SqL K H a vs := by
  rcases h with ⟨h1, h2⟩ | ⟨o, h⟩ | h
  · exact .inl (.inl (strip_lst h2))
  · exact .inl (.inr ⟨o, h⟩)
  · exact .inr h
theorem LstR.of_seq {a : Addr} {vs : List V} (h : SqL K H a vs) : LstR K H (fun a => (H a).isSome = true) a vs := by
  rcases h with (h | ⟨o, h⟩) | h
  · exact .inl ⟨by show (H a).isSome = true; rw [h]; rfl, by rw [h]; rfl⟩
  · exact .inr (.inl ⟨o, h⟩)
  · exact .inr (.inr h)
theorem DicK.mono {a : Addr} {kvs : List (Key × V)} (hc : Cov H H' R R') (h : DicK H R a kvs) : DicK H' R' a kvs := hc _ _ h.1 h.2
theorem DicT.mono {a : Addr} {kvs : List (List Key × V)} (hc : Cov H H' R R') (h : DicT H R a kvs) : DicT H' R' a kvs := hc _ _ h.1 h.2
theorem rS_mono (hc : Cov H H' R R') (hs : Stb H H') : ∀ t : Ty,
    (∀ v d, (rS K H R t).1 v d → (rS K H' R' t).1 v d) ∧ (∀ vs d, (rS K H R t).2 vs d → (rS K H' R' t).2 vs d) := by
  intro t
  induction t with
  | non => exact ⟨fun _ _ h => h, fun _ _ h => h⟩
  | bool => exact ⟨fun _ _ h => h, fun _ _ h => h⟩
  | int => exact ⟨fun _ _ h => h, fun _ _ h => h⟩
  | str => exact ⟨fun _ _ h => h, fun _ _ h => h⟩
  | any => exact ⟨fun v d h => dv_mono hs d v h, fun _ _ h => h⟩
  | exn => exact ⟨fun v d ⟨a, C, e, h, c⟩ => ⟨a, C, e, hs.ext _ _ h, c⟩, fun _ _ h => h⟩
  | alt a b iha ihb =>
    refine ⟨fun v d h => ?_, fun _ _ h => h⟩
    cases d with
    | inl x => exact iha.1 v x h
    | inr x => exact ihb.1 v x h
  | opt t ih =>
    refine ⟨fun v d h => ?_, fun _ _ h => h⟩
    cases d with
    | none => exact h
    | some x => exact ⟨h.1, ih.1 v x h.2⟩
  | vtup t ih =>
    refine ⟨fun v d h => ?_, fun _ _ h => h⟩
    obtain ⟨a, vs, e, h1, h2⟩ := h
    exact ⟨a, vs, e, hs.tup _ _ h1, h2.imp ih.1⟩
  | list t ih =>
    refine ⟨fun v d h => ?_, fun _ _ h => h⟩
    obtain ⟨a, vs, e, h1, h2⟩ := h
    exact ⟨a, vs, e, h1.mono hc hs, h2.imp ih.1⟩
  | dict k t _ ih =>
    refine ⟨fun v d h => ?_, fun _ _ h => h⟩
    obtain ⟨a, e, ⟨k1, kvs, h1, h2⟩ | ⟨k1, kvs, h1, h2⟩⟩ := h
    · exact ⟨a, e, .inl ⟨k1, kvs, h1.mono hc, h2.imp fun p q x => ⟨x.1, ih.1 _ _ x.2⟩⟩⟩
    · exact ⟨a, e, .inr ⟨k1, kvs, h1.mono hc, h2.imp fun p q x => ⟨x.1, ih.1 _ _ x.2⟩⟩⟩
  | own t ih => exact ih
  | hl b ih =>
    refine ⟨fun v d h => ?_, fun _ _ h => h⟩
    obtain ⟨a, vs, e, h1, h2⟩ := h
    exact ⟨a, vs, e, h1.mono hc hs, ih.2 _ _ h2⟩
  | ins C ks b ih => exact ⟨fun v d h => h, fun _ _ h => h⟩
  | tup b ih =>
    refine ⟨fun v d h => ?_, fun _ _ h => h⟩
    obtain ⟨a, vs, e, h1, h2⟩ := h
    exact ⟨a, vs, e, hs.tup _ _ h1, ih.2 _ _ h2⟩
  | last a ih =>
    refine ⟨fun _ _ h => h, fun vs d h => ?_⟩
    obtain ⟨v, e, h⟩ := h
    exact ⟨v, e, ih.1 _ _ h⟩
  | cons a b iha ihb =>
    refine ⟨fun _ _ h => h, fun vs d h => ?_⟩
    obtain ⟨v, r, e, h1, h2⟩ := h
    exact ⟨v, r, e, iha.1 _ _ h1, ihb.2 _ _ h2⟩
theorem kid_mono {α : Type} {own : Bool} {s s' : V → α → Prop} {o o' : V → α → List Addr → Prop} {f : List Addr} {v : V} {d : α} (h1 : s v d → s' v d) (h2 : o v d f → o' v d f) (h : kid own s o v d f) : kid own s' o' v d f := by
  rcases h with h | ⟨h3, h4, h⟩
  · exact .inl (h2 h)
  · exact .inr ⟨h3, h4, h1 h⟩
theorem rO_mono (hc : Cov H H' L L') (hs : Stb H H') : ∀ t : Ty,
    (∀ v d f, (∀ a ∈ f, H' a = H a) → (rO K H L t).1 v d f → (rO K H' L' t).1 v d f) ∧ (∀ vs d f, (∀ a ∈ f, H' a = H a) → (rO K H L t).2 vs d f → (rO K H' L' t).2 vs d f) := by
  intro t
  have sm : ∀ t v d, (rS K H L t).1 v d → (rS K H' L' t).1 v d := fun t => (rS_mono hc hs t).1
  induction t with
  | non => exact ⟨fun _ _ _ _ h => h, fun _ _ _ _ h => h⟩
  | bool => exact ⟨fun _ _ _ _ h => h, fun _ _ _ _ h => h⟩
  | int => exact ⟨fun _ _ _ _ h => h, fun _ _ _ _ h => h⟩
  | str => exact ⟨fun _ _ _ _ h => h, fun _ _ _ _ h => h⟩
  | any => exact ⟨fun v d f _ h => ⟨h.1, dv_mono hs d v h.2⟩, fun _ _ _ _ h => h⟩
  | exn => exact ⟨fun v d f _ ⟨z, a, C, e, h, c⟩ => ⟨z, a, C, e, hs.ext _ _ h, c⟩, fun _ _ _ _ h => h⟩
  | alt a b iha ihb =>
    refine ⟨fun v d f hf h => ?_, fun _ _ _ _ h => h⟩
    cases d with
    | inl x => exact iha.1 v x f hf h
    | inr x => exact ihb.1 v x f hf h
  | opt t ih =>
    refine ⟨fun v d f hf h => ?_, fun _ _ _ _ h => h⟩
    cases d with
    | none => exact h
    | some x => exact ⟨h.1, kid_mono (sm t v x) (ih.1 v x f hf) h.2⟩
  | vtup t ih =>
    refine ⟨fun v d f hf h => ?_, fun _ _ _ _ h => h⟩
    obtain ⟨a, vs, e, h1, h2⟩ := h
    exact ⟨a, vs, e, hs.tup _ _ h1, h2.imp fun v d g hg x => kid_mono (sm t v d) (ih.1 v d g fun a ha => hf a (hg a ha)) x⟩
  | list t ih =>
    refine ⟨fun v d f hf h => ?_, fun _ _ _ _ h => h⟩
    obtain ⟨a, vs, g, e, rfl, h1, h2⟩ := h
    exact ⟨a, vs, g, e, rfl, (hf a List.mem_cons_self).trans h1, h2.imp fun v d g' hg x => kid_mono (sm t v d) (ih.1 v d g' fun a ha => hf a (List.mem_cons_of_mem _ (hg a ha))) x⟩
  | dict k t _ ih =>
    refine ⟨fun v d f hf h => ?_, fun _ _ _ _ h => h⟩
    obtain ⟨a, g, e, rfl, ⟨k1, kvs, h1, h2⟩ | ⟨k1, kvs, h1, h2⟩⟩ := h
    · exact ⟨a, g, e, rfl, .inl ⟨k1, kvs, (hf a List.mem_cons_self).trans h1, h2.imp fun p q g' hg x => ⟨x.1, kid_mono (sm t _ _) (ih.1 _ _ g' fun a ha => hf a (List.mem_cons_of_mem _ (hg a ha))) x.2⟩⟩⟩
    · exact ⟨a, g, e, rfl, .inr ⟨k1, kvs, (hf a List.mem_cons_self).trans h1, h2.imp fun p q g' hg x => ⟨x.1, kid_mono (sm t _ _) (ih.1 _ _ g' fun a ha => hf a (List.mem_cons_of_mem _ (hg a ha))) x.2⟩⟩⟩
  | own t ih => exact ih
  | hl b ih =>
    refine ⟨fun v d f hf h => ?_, fun _ _ _ _ h => h⟩
    obtain ⟨a, vs, g, e, rfl, h1, h2⟩ := h
    exact ⟨a, vs, g, e, rfl, (hf a List.mem_cons_self).trans h1, ih.2 _ _ _ (fun a ha => hf a (List.mem_cons_of_mem _ ha)) h2⟩
  | ins C ks b ih =>
    refine ⟨fun v d f hf h => ?_, fun _ _ _ _ h => h⟩
    rcases h with ⟨hk, a, qs, e, rfl, h1, h2⟩ | ⟨hk, C', a, dx, fs, g, e, rfl, h0, h1, h2, h3, h4⟩
    · exact .inl ⟨hk, a, qs, e, rfl, h1, h2.stb hs (hf a List.mem_cons_self)⟩
    · exact .inr ⟨hk, C', a, dx, fs, g, e, rfl, h0, (hf a List.mem_cons_self).trans h1, (hf dx (List.mem_cons_of_mem _ List.mem_cons_self)).trans h2, h3, ih.2 _ _ _ (fun a ha => hf a (List.mem_cons_of_mem _ (List.mem_cons_of_mem _ ha))) h4⟩
  | tup b ih =>
    refine ⟨fun v d f hf h => ?_, fun _ _ _ _ h => h⟩
    obtain ⟨a, vs, e, h1, h2⟩ := h
    exact ⟨a, vs, e, hs.tup _ _ h1, ih.2 _ _ _ hf h2⟩
  | last a ih =>
    refine ⟨fun _ _ _ _ h => h, fun vs d f hf h => ?_⟩
    obtain ⟨v, e, h⟩ := h
    exact ⟨v, e, kid_mono (sm a v d) (ih.1 v d f hf) h⟩
  | cons a b iha ihb =>
    refine ⟨fun _ _ _ _ h => h, fun vs d f hf h => ?_⟩
    obtain ⟨v, r, f1, f2, e, rfl, h1, h2⟩ := h
    exact ⟨v, r, f1, f2, e, rfl, kid_mono (sm a v d.1) (iha.1 v d.1 f1 fun a ha => hf a (List.mem_append_left _ ha)) h1, ihb.2 _ _ _ (fun a ha => hf a (List.mem_append_right _ ha)) h2⟩
theorem kid_s {t : Ty} {f : List Addr} {v : V} {d : den t} (hL : ∀ a, L a → R a) (h2 : (rO K H L t).1 v d f → (rS K H R t).1 v d) (h : kid t.isOwn (rS K H L t).1 (rO K H L t).1 v d f) : (rS K H R t).1 v d := by
  rcases h with h | ⟨_, _, h⟩
  · exact h2 h
  · exact (rS_mono (Cov.of_reg fun a h _ => hL a h) (Stb.refl H) t).1 v d h
theorem rO_s (hL : ∀ a, L a → R a) : ∀ t : Ty,
    (∀ v d f, (∀ a ∈ f, R a) → (rO K H L t).1 v d f → (rS K H R t).1 v d) ∧ (∀ vs d f, (∀ a ∈ f, R a) → (rO K H L t).2 vs d f → (rS K H R t).2 vs d) := by
  intro t
  induction t with
  | non => exact ⟨fun _ _ _ _ h => h.2, fun _ _ _ _ h => h⟩
  | bool => exact ⟨fun _ _ _ _ h => h.2, fun _ _ _ _ h => h⟩
  | int => exact ⟨fun _ _ _ _ h => h.2, fun _ _ _ _ h => h⟩
  | str => exact ⟨fun _ _ _ _ h => h.2, fun _ _ _ _ h => h⟩
  | any => exact ⟨fun v d f _ h => h.2, fun _ _ _ _ h => h⟩
  | exn => exact ⟨fun v d f _ h => h.2, fun _ _ _ _ h => h⟩
  | alt a b iha ihb =>
    refine ⟨fun v d f hf h => ?_, fun _ _ _ _ h => h⟩
    cases d with
    | inl x => exact iha.1 v x f hf h
    | inr x => exact ihb.1 v x f hf h
  | opt t ih =>
    refine ⟨fun v d f hf h => ?_, fun _ _ _ _ h => h⟩
    cases d with
    | none => exact h.2
    | some x => exact ⟨h.1, kid_s hL (ih.1 v x f hf) h.2⟩
  | vtup t ih =>
    refine ⟨fun v d f hf h => ?_, fun _ _ _ _ h => h⟩
    obtain ⟨a, vs, e, h1, h2⟩ := h
    exact ⟨a, vs, e, h1, h2.to2 fun v d g hg x => kid_s hL (ih.1 v d g fun a ha => hf a (hg a ha)) x⟩
  | list t ih =>
    refine ⟨fun v d f hf h => ?_, fun _ _ _ _ h => h⟩
    obtain ⟨a, vs, g, e, rfl, h1, h2⟩ := h
    exact ⟨a, vs, e, .inl ⟨hf a List.mem_cons_self, strip_of h1 rfl⟩, h2.to2 fun v d g' hg x => kid_s hL (ih.1 v d g' fun a ha => hf a (List.mem_cons_of_mem _ (hg a ha))) x⟩
  | dict k t _ ih =>
    refine ⟨fun v d f hf h => ?_, fun _ _ _ _ h => h⟩
    obtain ⟨a, g, e, rfl, ⟨k1, kvs, h1, h2⟩ | ⟨k1, kvs, h1, h2⟩⟩ := h
    · exact ⟨a, e, .inl ⟨k1, kvs, ⟨hf a List.mem_cons_self, strip_of h1 rfl⟩, h2.to2 fun p q g' hg x => ⟨x.1, kid_s hL (ih.1 _ _ g' fun a ha => hf a (List.mem_cons_of_mem _ (hg a ha))) x.2⟩⟩⟩
    · exact ⟨a, e, .inr ⟨k1, kvs, ⟨hf a List.mem_cons_self, strip_of h1 rfl⟩, h2.to2 fun p q g' hg x => ⟨x.1, kid_s hL (ih.1 _ _ g' fun a ha => hf a (List.mem_cons_of_mem _ (hg a ha))) x.2⟩⟩⟩
  | own t ih => exact ih
  | hl b ih =>
    refine ⟨fun v d f hf h => ?_, fun _ _ _ _ h => h⟩
    obtain ⟨a, vs, g, e, rfl, h1, h2⟩ := h
    exact ⟨a, vs, e, .inl ⟨hf a List.mem_cons_self, strip_of h1 rfl⟩, ih.2 _ _ _ (fun a ha => hf a (List.mem_cons_of_mem _ ha)) h2⟩
  | ins C ks b ih =>
    refine ⟨fun v d f hf h => ?_, fun _ _ _ _ h => h⟩
    rcases h with ⟨_, a, _, e, _⟩ | ⟨_, _, a, _, _, _, e, _⟩
    · exact ⟨a, e⟩
    · exact ⟨a, e⟩
  | tup b ih =>
    refine ⟨fun v d f hf h => ?_, fun _ _ _ _ h => h⟩
    obtain ⟨a, vs, e, h1, h2⟩ := h
    exact ⟨a, vs, e, h1, ih.2 _ _ _ hf h2⟩
  | last a ih =>
    refine ⟨fun _ _ _ _ h => h, fun vs d f hf h => ?_⟩
    obtain ⟨v, e, h⟩ := h
    exact ⟨v, e, kid_s hL (ih.1 v d f hf) h⟩
  | cons a b iha ihb =>
    refine ⟨fun _ _ _ _ h => h, fun vs d f hf h => ?_⟩
    obtain ⟨v, r, f1, f2, e, rfl, h1, h2⟩ := h
    exact ⟨v, r, e, kid_s hL (iha.1 v d.1 f1 fun a ha => hf a (List.mem_append_left _ ha)) h1, ihb.2 _ _ _ (fun a ha => hf a (List.mem_append_right _ ha)) h2⟩
theorem rS_frz : ∀ t : Ty, t.frz = true → (∀ v d, (rS K H R t).1 v d → (rS K H R' t).1 v d) ∧ (∀ vs d, (rS K H R t).2 vs d → (rS K H R' t).2 vs d) := by
  intro t
  induction t with
  | non => exact fun _ => ⟨fun _ _ h => h, fun _ _ h => h⟩
  | bool => exact fun _ => ⟨fun _ _ h => h, fun _ _ h => h⟩
  | int => exact fun _ => ⟨fun _ _ h => h, fun _ _ h => h⟩
  | str => exact fun _ => ⟨fun _ _ h => h, fun _ _ h => h⟩
  | any => exact fun _ => ⟨fun _ _ h => h, fun _ _ h => h⟩
  | exn => exact fun _ => ⟨fun _ _ h => h, fun _ _ h => h⟩
  | alt a b iha ihb =>
    intro q
    simp only [Ty.frz, Bool.and_eq_true] at q
    refine ⟨fun v d h => ?_, fun _ _ h => h⟩
    cases d with
    | inl x => exact (iha q.1).1 v x h
    | inr x => exact (ihb q.2).1 v x h
  | opt t ih =>
    intro q
    refine ⟨fun v d h => ?_, fun _ _ h => h⟩
    cases d with
    | none => exact h
    | some x => exact ⟨h.1, (ih q).1 v x h.2⟩
  | vtup t ih =>
    intro q
    refine ⟨fun v d h => ?_, fun _ _ h => h⟩
    obtain ⟨a, vs, e, h1, h2⟩ := h
    exact ⟨a, vs, e, h1, h2.imp (ih q).1⟩
  | list t ih => exact fun q => absurd q (by simp [Ty.frz])
  | dict k t _ ih => exact fun q => absurd q (by simp [Ty.frz])
  | own t ih => exact fun q => absurd q (by simp [Ty.frz])
  | hl b ih => exact fun q => absurd q (by simp [Ty.frz])
  | ins C ks b ih => exact fun q => absurd q (by simp [Ty.frz])
  | tup b ih =>
    intro q
    refine ⟨fun v d h => ?_, fun _ _ h => h⟩
    obtain ⟨a, vs, e, h1, h2⟩ := h
    exact ⟨a, vs, e, h1, (ih q).2 _ _ h2⟩
  | last a ih =>
    intro q
    refine ⟨fun _ _ h => h, fun vs d h => ?_⟩
    obtain ⟨v, e, h⟩ := h
    exact ⟨v, e, (ih q).1 _ _ h⟩
  | cons a b iha ihb =>
    intro q
    simp only [Ty.frz, Bool.and_eq_true] at q
    refine ⟨fun _ _ h => h, fun vs d h => ?_⟩
    obtain ⟨v, r, e, h1, h2⟩ := h
    exact ⟨v, r, e, (iha q.1).1 _ _ h1, (ihb q.2).2 _ _ h2⟩
theorem rO_frz : ∀ t : Ty, t.frz = true → (∀ v d f, (rO K H L t).1 v d f → f = [] ∧ (rS K H R t).1 v d) ∧ (∀ vs d f, (rO K H L t).2 vs d f → f = [] ∧ (rS K H R t).2 vs d) := by
  intro t
  have kd : ∀ t : Ty, t.frz = true → (∀ v d f, (rO K H L t).1 v d f → f = [] ∧ (rS K H R t).1 v d) → ∀ v d f, kid t.isOwn (rS K H L t).1 (rO K H L t).1 v d f → f = [] ∧ (rS K H R t).1 v d := fun t q ih v d f h => by
    rcases h with h | ⟨_, e, h⟩
    · exact ih v d f h
    · exact ⟨e, (rS_frz t q).1 v d h⟩
  induction t with
  | non => exact fun _ => ⟨fun _ _ _ h => h, fun _ _ _ h => h.elim⟩
  | bool => exact fun _ => ⟨fun _ _ _ h => h, fun _ _ _ h => h.elim⟩
  | int => exact fun _ => ⟨fun _ _ _ h => h, fun _ _ _ h => h.elim⟩
  | str => exact fun _ => ⟨fun _ _ _ h => h, fun _ _ _ h => h.elim⟩
  | any => exact fun _ => ⟨fun _ _ _ h => h, fun _ _ _ h => h.elim⟩
  | exn => exact fun _ => ⟨fun _ _ _ h => h, fun _ _ _ h => h.elim⟩
  | alt a b iha ihb =>
    intro q
    simp only [Ty.frz, Bool.and_eq_true] at q
    refine ⟨fun v d f h => ?_, fun _ _ _ h => h.elim⟩
    cases d with
    | inl x => exact (iha q.1).1 v x f h
    | inr x => exact (ihb q.2).1 v x f h
  | opt t ih =>
    intro q
    refine ⟨fun v d f h => ?_, fun _ _ _ h => h.elim⟩
    cases d with
    | none => exact h
    | some x =>
      have := kd t q (ih q).1 v x f h.2
      exact ⟨this.1, h.1, this.2⟩
  | vtup t ih =>
    intro q
    refine ⟨fun v d f h => ?_, fun _ _ _ h => h.elim⟩
    obtain ⟨a, vs, e, h1, h2⟩ := h
    exact ⟨h2.nil_of fun v d f x => (kd t q (ih q).1 v d f x).1, a, vs, e, h1, h2.to2 fun v d g _ x => (kd t q (ih q).1 v d g x).2⟩
  | list t ih => exact fun q => absurd q (by simp [Ty.frz])
  | dict k t _ ih => exact fun q => absurd q (by simp [Ty.frz])
  | own t ih => exact fun q => absurd q (by simp [Ty.frz])
  | hl b ih => exact fun q => absurd q (by simp [Ty.frz])
  | ins C ks b ih => exact fun q => absurd q (by simp [Ty.frz])
  | tup b ih =>
    intro q
    refine ⟨fun v d f h => ?_, fun _ _ _ h => h.elim⟩
    obtain ⟨a, vs, e, h1, h2⟩ := h
    have := (ih q).2 _ _ _ h2
    exact ⟨this.1, a, vs, e, h1, this.2⟩
  | last a ih =>
    intro q
    refine ⟨fun _ _ _ h => h.elim, fun vs d f h => ?_⟩
    obtain ⟨v, e, h⟩ := h
    have := kd a q (ih q).1 v d f h
    exact ⟨this.1, v, e, this.2⟩
  | cons a b iha ihb =>
    intro q
    simp only [Ty.frz, Bool.and_eq_true] at q
    refine ⟨fun _ _ _ h => h.elim, fun vs d f h => ?_⟩
    obtain ⟨v, r, f1, f2, e, rfl, h1, h2⟩ := h
    have h1' := kd a q.1 (iha q.1).1 v d.1 f1 h1
    have h2' := (ihb q.2).2 _ _ _ h2
    exact ⟨by rw [h1'.1, h2'.1]; rfl, v, r, e, h1'.2, h2'.2⟩
theorem rS_o : ∀ t : Ty, t.frz = true → (∀ v d, (rS K H R t).1 v d → (rO K H L t).1 v d []) ∧ (∀ vs d, (rS K H R t).2 vs d → (rO K H L t).2 vs d []) := by
  intro t
  induction t with
  | non => exact fun _ => ⟨fun _ _ h => ⟨rfl, h⟩, fun _ _ h => h⟩
  | bool => exact fun _ => ⟨fun _ _ h => ⟨rfl, h⟩, fun _ _ h => h⟩
  | int => exact fun _ => ⟨fun _ _ h => ⟨rfl, h⟩, fun _ _ h => h⟩
  | str => exact fun _ => ⟨fun _ _ h => ⟨rfl, h⟩, fun _ _ h => h⟩
  | any => exact fun _ => ⟨fun _ _ h => ⟨rfl, h⟩, fun _ _ h => h⟩
  | exn => exact fun _ => ⟨fun _ _ h => ⟨rfl, h⟩, fun _ _ h => h⟩
  | alt a b iha ihb =>
    intro q
    simp only [Ty.frz, Bool.and_eq_true] at q
    refine ⟨fun v d h => ?_, fun _ _ h => h⟩
    cases d with
    | inl x => exact (iha q.1).1 v x h
    | inr x => exact (ihb q.2).1 v x h
  | opt t ih =>
    intro q
    refine ⟨fun v d h => ?_, fun _ _ h => h⟩
    cases d with
    | none => exact ⟨rfl, h⟩
    | some x => exact ⟨h.1, .inl ((ih q).1 v x h.2)⟩
  | vtup t ih =>
    intro q
    refine ⟨fun v d h => ?_, fun _ _ h => h⟩
    obtain ⟨a, vs, e, h1, h2⟩ := h
    exact ⟨a, vs, e, h1, F3.of2 (fun v d x => .inl ((ih q).1 v d x)) h2⟩
  | list t ih => exact fun q => absurd q (by simp [Ty.frz])
  | dict k t _ ih => exact fun q => absurd q (by simp [Ty.frz])
  | own t ih => exact fun q => absurd q (by simp [Ty.frz])
  | hl b ih => exact fun q => absurd q (by simp [Ty.frz])
  | ins C ks b ih => exact fun q => absurd q (by simp [Ty.frz])
  | tup b ih =>
    intro q
    refine ⟨fun v d h => ?_, fun _ _ h => h⟩
    obtain ⟨a, vs, e, h1, h2⟩ := h
    exact ⟨a, vs, e, h1, (ih q).2 _ _ h2⟩
  | last a ih =>
    intro q
    refine ⟨fun _ _ h => h, fun vs d h => ?_⟩
    obtain ⟨v, e, h⟩ := h
    exact ⟨v, e, .inl ((ih q).1 _ _ h)⟩
  | cons a b iha ihb =>
    intro q
    simp only [Ty.frz, Bool.and_eq_true] at q
    refine ⟨fun _ _ h => h, fun vs d h => ?_⟩
    obtain ⟨v, r, e, h1, h2⟩ := h
    exact ⟨v, r, [], [], e, rfl, .inl ((iha q.1).1 _ _ h1), (ihb q.2).2 _ _ h2⟩
end
end VV
namespace L2
open PySem PySem.Spec PySem.W PyProof.Rows
section
variable {X : Cx}
structure SortOk {β : Type} (enc : β → PyData) (bs : List β) : Prop where
  al : AllAlike (bs.map enc)
  so : Sortable (bs.map enc)
  dep : ∀ b ∈ bs, (enc b).depth ≤ 60
variable {pins : List (Addr × Obj)} {σ : St} {H : Hp} {s : Shared}
end
end L2
namespace L2
open PySem PySem.Spec PySem.W PyProof.Rows
def isDct : HO → Bool
  | .dK _ => true
  | .dT _ => true
  | _ => false
def lenOf : HO → Nat
  | .dK kvs => kvs.length
  | .dT kvs => kvs.length
  | _ => 0
section
variable {X : Cx} {pins : List (Addr × Obj)} {σ : St} {H : Hp} {s : Shared} {d : Addr} {u : HO}
end
section
variable {P : Program} {w : World} {K : PySem.W.Frag} {tg : Expr} {d : Addr} {od : Obj} {u : HO} {ep : Nat}
end
section
variable {X : Cx} {tg e : Expr} {td : TE} {apos cpos : Pos} {pins : List (Addr × Obj)} {σ : St} {s : Shared}
end
section
variable {X : Cx} {pins : List (Addr × Obj)} {σ : St} {H : Hp} {s : Shared} {d : Addr} {u : HO}
end
end L2
namespace L2
open PySem PySem.Spec PySem.W PyProof.Rows
section
variable {X : Cx} {o e f : Expr} {td ty tx : TE} {apos cpos : Pos}
end
section
variable {P : Program} {w : World} {A : Around} {E : Value → Shared → Prop} {s : Shared}
end
section
variable {X : Cx}
end
end L2
namespace L2
open PySem PySem.Spec PySem.W PyProof.Rows
section
variable {X : Cx} {a b c d e : Expr} {ta tb tc td te : TE} {pos p2 : Pos}
end
end L2
set_option maxHeartbeats 1000000
namespace RT
open PySem PySem.Spec PyProof.Rows
section
variable {prog : Program} {w : World} {A : Around} {E : Value → Shared → Prop} {s : Shared}
end
structure Drains (prog : Program) (w : World) (T : String) (I : Addr) (fp : List Addr) (n : Nat) (P : Nat → Value → Prop) (Z : Nat → Heap → Prop) : Prop where
  cls : ∀ i h, Z i h → ∃ o, h.get? I = some o ∧ o.cls = .type T
  nl : (Value.type T == Value.type "list") = false
  nt : (Value.type T == Value.type "tuple") = false
  hint : ∀ (A : Around) (E : Value → Shared → Prop) (s : Shared) (Q : Bool → Shared → Prop), Z 0 s.heap → (∀ k tk, Q k { s with toks := tk }) → wpAny (model prog w) A (Builtin.List.listLengthHint (.ref I)) Q E s
  walk : ∀ A : Around, A.handled = none → Walks prog w A I fp [I] n P Z
section
variable {prog : Program} {w : World} {A : Around} {E : Value → Shared → Prop} {s : Shared} {T : String} {I : Addr} {fp : List Addr} {n : Nat} {P : Nat → Value → Prop} {Z : Nat → Heap → Prop}
end
end RT
namespace L2
open PySem PySem.Spec PySem.W PyProof.Rows RT
section
variable {X : Cx}
def HasK (H : Hp) (a : Addr) (ks : List (Key × V)) : Prop := H a = some (.dK ks) ∨ ∃ o, H a = some (.frz o (.dK ks))
theorem HasK.ok {pins : List (Addr × Obj)} {σ : St} {H : Hp} {s : Shared} {a : Addr} {ks : List (Key × V)} (I : Inv X pins σ H s) (h : HasK H a ks) : (a == sysModules) = false ∧ ∃ va, KV ks va ∧ s.heap.DictOf (mixKind X.prog X.w) a va := by
  rcases h with h | ⟨o, h⟩
  · obtain ⟨_, y, va, r, d⟩ := (show ObjOk X.prog X.w H s.heap a (.dK ks) from I.hok a _ h)
    exact ⟨y, va, r, d⟩
  · obtain ⟨_, _, y, va, r, d⟩ := (show ObjOk X.prog X.w H s.heap a (.frz o (.dK ks)) from I.hok a _ h)
    exact ⟨y, va, r, d⟩
def rLenK : List V → Hp → VK → Prop := fun xs H Q => ∃ a ks, xs = [V.ref a] ∧ HasK H a ks ∧ Q (.int ks.length) H
theorem call_lenK : CallR X (.builtin "len") rLenK := by
  intro pins s σ H xs us Q I r h
  obtain ⟨a, ks, rfl, ha, q⟩ := h
  obtain ⟨u, rfl, ru⟩ := vals1 r
  cases ru
  exact d_len I ha fun t s2 I2 => ⟨V.int (ks.length : Nat), H, I2, ⟨t, rfl⟩, q⟩
end
end L2
namespace L2
open PySem PySem.SeqAt
section
variable {X : Cx}
def rEqM (K : PySem.W.Frag) : R2 := fun x y H Q => ∃ d e, Dp K H x d ∧ Dp K H y e ∧ d.canLay0 = true ∧ e.canLay0 = true ∧ min d.depth e.depth ≤ 64 ∧ Q (.bl (PyData.eqv d e)) H
theorem op_eqM (hu : X.A.units + 64 < cLine) : OpR X (compareOp .Eq) (rEqM X.K) := by
  intro pins s σ H x y v u Q I rx ry h
  obtain ⟨d, e, hd, he, l1, l2, dp, q⟩ := h
  obtain ⟨as, h1⟩ := Dp.reads I _ _ _ hd rx
  obtain ⟨bs, h2⟩ := Dp.reads I _ _ _ he ry
  exact compareEq_reads h1 h2 l1 l2 (by omega) (fin_bl I q rfl)
end
end L2
set_option maxHeartbeats 1000000
namespace EN
open PySem PySem.Spec PySem.W PyProof.Rows L2
end EN
namespace L2
open PySem PySem.Spec PyProof.Rows
section
variable {X : Cx}
structure PairT (K : PySem.W.Frag) (H : Hp) (p : Addr) (q : Addr × List Key × V) : Prop where
  tup : SqT K H p [.ref q.1, q.2.2]
  key : H q.1 = some (.tup (q.2.1.map kV))
end
end L2
namespace L2
open PySem PySem.Spec PyProof.Rows
section
variable {X : Cx}
end
end L2
namespace PySem
open AutoSeq1
end PySem
namespace L2
open PySem PySem.Spec PyProof.Rows
section
variable {X : Cx}
end
end L2
namespace L2
open PySem PySem.SeqAt
section
variable {X : Cx}
end
end L2
namespace L2
open PySem PySem.Spec PySem.W PyProof.Rows
section
variable {X : Cx}
end
end L2
set_option maxHeartbeats 1000000
namespace RT
open PySem PySem.Spec PyProof.Rows
section
variable {prog : Program} {w : World} {A : Around} {E : Value → Shared → Prop} {s : Shared} {I : Addr} {fp : List Addr} {n : Nat} {P : Nat → Value → Prop} {Z : Nat → Heap → Prop}
end
end RT
namespace L2
open PySem PySem.Spec PySem.W PyProof.Rows RT
section
variable {X : Cx}
end
end L2
namespace L2
open PySem PySem.Spec PySem.W PyProof.Rows
section
variable {X : Cx} {x : Str} {p pos : Pos} {e : Expr} {es : List Expr} {kws : List Keyword} {ks : List Str} {t tk : TA} {id : String} {r : List V → List V → Hp → VK → Prop}
end
end L2
set_option maxHeartbeats 1000000
namespace L2
open PySem PySem.Spec PyProof.Rows VV
section
variable {X : Cx} {pins : List (Addr × Obj)} {σ : St} {H : Hp} {sI s s' : Shared} {B : Heap} {a : Addr} {o : HO}
theorem exK_ok {P : Program} {w : World} {h : Heap} {cls : Value} {oe : Obj} {vs : Array Value} (e : h.get? a = some oe) (z : Zc cls none oe) (d : oe.data = .fields vs) : ObjOk P w H h a (ExK cls a) :=
  ⟨⟨oe, vs, e, z, d⟩, ⟨oe, e⟩, fun _ _ ⟨o, v, q, r⟩ k => ⟨o, v, k o q, r⟩⟩
theorem Inv.landedX (I : Inv X pins σ H sI) (nb : ∀ b o, sI.heap.get? b = some o → b ∉ frs X.stack → B.get? b = some o) (st : B.StaysIn s'.heap) (up : sI.heap.UpToSlots s'.heap) (os : s'.os = sI.os) (ag : AllBare s'.gens)
    (ha : sI.heap.get? a = none) (na : H a = none) (new : ObjOk X.prog X.w (upd H a o) s'.heap a o) : Inv X pins σ (upd H a o) s' := by
  have nf : ∀ b ∈ frs X.stack, ∀ o, sI.heap.get? b = some o → ∃ sl, s'.heap.get? b = some { o with slots := sl } := fun b hb o e => by
    obtain ⟨_, o', e', hd⟩ := I.stack.mem hb
    rw [e] at e'; cases e'
    exact up b o e hd
  have J := I.call (ch := []) (h' := s'.heap) (g' := s'.gens) (t' := s'.toks) (d' := s'.drawn) (H' := upd H a o)
    ⟨fun b o e _ hb _ => st b o (nb b o e hb), fun b o e _ hb _ => nf b hb o e, fun b o' e n _ => by rw [upd_ne (fun z => by rw [z, ha] at e; cases e)]; exact n, fun b o e _ => by
      by_cases hb : b ∈ frs X.stack
      · obtain ⟨sl, q⟩ := nf b hb o e
        exact ⟨_, q⟩
      · exact ⟨o, st b o (nb b o e hb)⟩, fun b xs e => by rw [upd_ne (ne_of_none e na)]; exact e, fun b _ _ e => by rw [upd_ne (ne_of_none e na)]; exact e, fun b ps e => ⟨#[], by rw [upd_ne (ne_of_none e na), e]; simp⟩⟩
    (HOk.laidN (I.inGround nb) st na new) ag (fun _ z => nomatch z)
  obtain ⟨a1, a2, a3, a4, a5⟩ := s'
  have e5 : a5 = sI.os := os
  subst e5
  exact J
theorem Inv.suite0 (I : Inv X pins σ H s) (b : Addr) : Inv (X.suite b (X.pn ++ pins)) [] σ H s :=
  ⟨I.ok.suite _ _, I.os, I.bare, I.base, I.loc, I.cell, I.free, I.freeC, fun p hp => I.pin p (by rw [List.append_nil] at hp; exact hp), I.hok, I.len⟩
theorem Inv.unsuite0 {b : Addr} {pn' : List (Addr × Obj)} (I : Inv (X.suite b (X.pn ++ pins)) pn' σ H s) (ok : X.Ok) : Inv X pins σ H s :=
  ⟨ok, I.os, I.bare, I.base, I.loc, I.cell, I.free, I.freeC, fun p hp => I.pin p (List.mem_append_left _ hp), I.hok, I.len⟩
end
theorem flyZ_keeps {B h h' : Heap} {l : List Env} {e : Addr} {Z : Obj → Prop} (R : HandSPX.FlyingZ B l e Z h) (k : ∀ b o, h.get? b = some o → h'.get? b = some o) : HandSPX.FlyingZ B l e Z h' := by
  obtain ⟨f1, f2, f3, oe, vs, T, oT, ts, he, hz, hd, h1, hn, hne, hT, hdT, h3⟩ := R
  exact ⟨fun b o q => k b o (f1 b o q), f2, f3.of_keeps fun b o q _ => ⟨o, k b o q, rfl⟩, oe, vs, T, oT, ts, k _ _ he, hz, hd, h1, hn, hne, k _ _ hT, hdT, h3⟩
def none5 (K : PySem.W.Frag) (cls : Value) (cs : List Value) : Prop := ∀ c ∈ cs, PySem.W.exmOne K cls c = some false
theorem exm_tup5 {M : Model} {K : PySem.W.Frag} {c1 c2 c3 c4 c5 cls : Value} {tp e : Addr} {h : Heap} (X : K.In h) (LT : PySem.W.Looks M h (typeOf (.ref e)) cls) (hp : h.get? tp = some { cls := .type "tuple", data := .seq [c1, c2, c3, c4, c5].toArray })
    (hx : none5 K cls [c1, c2, c3, c4, c5]) : PySem.W.Looks M h (excMatches (.ref e) (.ref tp)) false := by
  intro A Q E s k₀ q
  obtain ⟨hh, g, d, tk, os⟩ := s
  have k : ∀ b o, h.get? b = some o → hh.get? b = some o := k₀
  have LT0 : PySem.W.Looks M h (isInstance (.ref tp) (.type "tuple")) true := ((PySem.W.Looks.ld hp).andThen .now).andThen (PySem.W.Looks.of_pure isSubtype_tuple_tuple)
  obtain ⟨e1, S1⟩ := PySem.W.exm_cls (M := M) X (hx c1 (by simp))
  obtain ⟨e2, S2⟩ := PySem.W.exm_cls (M := M) X (hx c2 (by simp))
  obtain ⟨e3, S3⟩ := PySem.W.exm_cls (M := M) X (hx c3 (by simp))
  obtain ⟨e4, S4⟩ := PySem.W.exm_cls (M := M) X (hx c4 (by simp))
  obtain ⟨e5, S5⟩ := PySem.W.exm_cls (M := M) X (hx c5 (by simp))
  have e1 := e1.keeps k
  have S1 := S1.keeps k
  have e2 := e2.keeps k
  have S2 := S2.keeps k
  have e3 := e3.keeps k
  have S3 := S3.keeps k
  have e4 := e4.keeps k
  have S4 := S4.keeps k
  have e5 := e5.keeps k
  have S5 := S5.keeps k
  have LT := LT.keeps k
  have LT0 := LT0.keeps k
  have hp' := k _ _ hp
  unfold excMatches
  refine wpAny_bind (LT0.at ?_)
  dsimp only
  rw [if_pos rfl]
  first
    | refine wpAny_bind (wpAny_seqItems hp' rfl ?_)
    | refine wpAny_bind (wpAny_bind (wpAny_seqItems hp' rfl (wpAny_pure ?_)))
  dsimp only [Option.getD_some, Option.getD]
  repeat (first | simp only [List.forIn_cons, List.forIn_nil, Bool.not_true, Bool.false_eq_true, if_false, if_true] | lk)
  exact q
inductive Cla where
  | mk (c : Value) (i : Option Nat) (ts : TS)
  | none5 (cs : List Value)
def offD (D : Ends) : Option Nat → Ends
  | none => D
  | some i => { nx := fun σ' H' => D.nx (σ'.set i none) H', rt := D.rt, bk := fun σ' H' => D.bk (σ'.set i none) H', ct := fun σ' H' => D.ct (σ'.set i none) H' }
def onS (σ : St) (a : Addr) : Option Nat → St
  | none => σ
  | some i => σ.set i (some (.ref a))
def wKeep (K : PySem.W.Frag) (Wout : WX) (D : Ends) : List Cla → WX
  | [] => Wout
  | .mk c i ts :: r => fun cls d σ H => ∃ b, PySem.W.exmOne K cls c = some b ∧ (b = true → d = none ∧ ∀ a, H a = none → ts (offD D i) (onS σ a i) (upd H a (ExK cls a))) ∧ (b = false → wKeep K Wout D r cls d σ H)
  | .none5 cs :: r => fun cls d σ H => none5 K cls cs ∧ wKeep K Wout D r cls d σ H
inductive ClsOk (X : Cx) : List ExceptHandler → List Cla → Prop
  | nil : ClsOk X [] []
  | one {x : Str} {c : Value} {ts : TS} {b₀ : Stmt} {suite : List Stmt} {np pos' : Pos} {hds : List ExceptHandler} {l : List Cla} (hc : Names X x c)
      (hsu : ∀ (a : Addr) (pn : List (Addr × Obj)), PSs (X.suite a pn) (b₀ :: suite) ts) (r : ClsOk X hds l) :
      ClsOk X (.ExceptHandler (some (.Name x np)) none (b₀ :: suite) pos' :: hds) (.mk c none ts :: l)
  | as_ {x n : Str} {c : Value} {i : Nat} {ts : TS} {b₀ : Stmt} {suite : List Stmt} {np pos' : Pos} {hds : List ExceptHandler} {l : List Cla} (hc : Names X x c) (hi : X.N[i]? = some n) (hln : X.env.kindOf n = some .local)
      (hsu : ∀ (a : Addr) (pn : List (Addr × Obj)), PSs (X.suite a pn) (b₀ :: suite) ts) (r : ClsOk X hds l) :
      ClsOk X (.ExceptHandler (some (.Name x np)) (some n) (b₀ :: suite) pos' :: hds) (.mk c (some i) ts :: l)
  | tup5 {x1 x2 x3 x4 x5 : Str} {c1 c2 c3 c4 c5 : Value} {nm : Option Str} {b₀ : Stmt} {suite : List Stmt} {p1 p2 p3 p4 p5 tpos pos' : Pos} {kk : Nat} {hds : List ExceptHandler} {l : List Cla} (h1 : Names X x1 c1) (h2 : Names X x2 c2) (h3 : Names X x3 c3) (h4 : Names X x4 c4) (h5 : Names X x5 c5) (r : ClsOk X hds l) :
      ClsOk X (.ExceptHandler (some (.Tuple [.Name x1 p1, .Name x2 p2, .Name x3 p3, .Name x4 p4, .Name x5 p5] kk tpos)) nm (b₀ :: suite) pos' :: hds) (.none5 [c1, c2, c3, c4, c5] :: l)
section
variable {X : Cx} {body : List Stmt} {h₀ : ExceptHandler} {hds : List ExceptHandler} {l : List Cla} {pos : Pos} {tb : WX → TS} {Wout : WX}
theorem ps_try_keep (hs : X.stack = X.env :: X.outer) (hf : X.env.frame = some X.env.locals) (hN : X.N.Nodup) (tk : Takes X Wout)
    (hb : ∀ (W : WX) (pn : List (Addr × Obj)) (xe : Value → Shared → Prop), Takes (X.tr pn xe) W → PassesOwn (model X.prog X.w) X.A X.env xe → PSs (X.tr pn xe) body (tb W))
    (hh : ClsOk X (h₀ :: hds) l) : PS X (.Try body (h₀ :: hds) [] [] pos) (fun D σ H => tb (wKeep X.K Wout D l) D σ H) := by
  refine ⟨fun pins s σ H D I h => ?_⟩
  have ok := I.ok
  have hfr : X.A.frames = some (X.env :: X.outer) := by rw [ok.frames, hs]
  refine wpAny_Try_except ?_
  refine wpAny_mono ((hb (wKeep X.K Wout D l) (X.pn ++ pins) (fun e s₁ => wpAny (model X.prog X.w) X.A (noteFrame e X.env) (fun _ s₂ => wpAny (model X.prog X.w) X.A (setFlight e none) (fun _ s₃ =>
    wpAny (model X.prog X.w) X.A (handleBy e X.env (h₀ :: hds)) (SP X pins D) X.xe s₃) X.xe s₂) X.xe s₁) (fun u s' xx => ?_) PassesOwn.looking).run [] s σ H D (I.toTry _) h) (fun f s1 hsp => ?_) (fun e s1 he => he)
  · -- the catch
    obtain ⟨a, B, sI, pins', σ', H', cls, d, rfl, J', nb, up, sky, na, os, ag, w⟩ := xx
    have J : Inv X pins σ' H' sI := J'.ofTry ok
    have sky' : Sky B (X.env :: X.outer) a (Zc cls d) X.env.locals s'.heap := by rw [← hs]; exact sky
    show wpAny (model X.prog X.w) X.A (noteFrame (.ref a) X.env) _ _ _
    refine Sky.land Zc.steady hfr hf sky' fun h3' fl3' up3' => ?_
    have go : ∀ {hds' : List ExceptHandler} {l' : List Cla}, ClsOk X hds' l' → wKeep X.K Wout D l' cls d σ' H' → ∀ h3 : Heap, HandSPX.FlyingZ B (X.env :: X.outer) a (Zc cls d) h3 → s'.heap.UpToSlots h3 →
        wpAny (model X.prog X.w) X.A (handleBy (.ref a) X.env hds') (SP X pins D) X.xe { s' with heap := h3 } := by
      intro hds' l' hk
      induction hk with
      | nil =>
        intro w h3 fl3 up3
        have J3 : Inv X pins σ' H' { s' with heap := h3 } := J.landed nb fl3.1 (up.trans up3) os ag
        obtain ⟨oe3, vs3, he3, hz3, hd3⟩ := fl3.there
        have notFr : ∀ {h : Heap} {o : Obj} {vs : Array Value}, h.FunFrames B (X.env :: X.outer) → h.get? a = some o → o.data = .fields vs → a ∉ frs (X.env :: X.outer) := fun {h o vs} ff e dd hm => by
          obtain ⟨_, o', e', hnf⟩ := ff.mem hm
          rw [e] at e'; cases e'
          exact hnf _ dd
        have nfr := notFr fl3.2.2.1 he3 hd3
        have nL : a ≠ X.env.locals := fun z => nfr (List.mem_filterMap.mpr ⟨X.env, List.mem_cons_self, by rw [hf, z]⟩)
        have nF : a ∉ X.fs := fun hm => by
          obtain ⟨e, he, q⟩ := List.mem_filterMap.mp hm
          exact nfr (List.mem_filterMap.mpr ⟨e, List.mem_cons_of_mem _ he, q⟩)
        have hsa : sI.heap.get? a = none := by
          cases q : sI.heap.get? a with
          | none => rfl
          | some o =>
            have z := nb a o q (by rw [hs]; exact nfr)
            rw [fl3.2.1] at z
            cases z
        have S3 := J3.suite he3 hd3 na nL nF
        refine wpAny_handleBy_nil ?_
        obtain ⟨k1, k2, k3, oe, vs, T, oT, ts', he, hz, hd, h1, hr⟩ := id fl3
        unfold PySem.passOn
        refine wpAny_bind (wpAny_field he hd h1 ?_)
        rw [if_neg (show ¬ ((Value.ref T == Value.none) = true) from by simp)]
        have fin : wpAny (model X.prog X.w) X.A (setFlight (.ref a) X.env.frame) (fun _ s4 => wpAny (model X.prog X.w) X.A (throw (.ref a) : Sem Flow) (SP X pins D) X.xe s4) X.xe { s' with heap := h3 } := by
          rw [hf]
          refine HandSPX.setFlight_upZ fl3 fun h4 hh4 up4 => wpAny_throw (tk _ _ ?_)
          exact ⟨a, B, sI, pins, σ', H', cls, d, rfl, J, nb, (up.trans up3).trans up4, .inr (.inr (by rw [hs]; exact hh4)), na, os, ag, w⟩
        first
          | exact wpAny_bind (wpAny_pure (wpAny_bind fin))
          | exact wpAny_bind fin
      | @one x c ts b₀ suite np pos' hds2 l2 hc hsu r ih =>
        intro w h3 fl3 up3
        have J3 : Inv X pins σ' H' { s' with heap := h3 } := J.landed nb fl3.1 (up.trans up3) os ag
        obtain ⟨oe3, vs3, he3, hz3, hd3⟩ := fl3.there
        have notFr : ∀ {h : Heap} {o : Obj} {vs : Array Value}, h.FunFrames B (X.env :: X.outer) → h.get? a = some o → o.data = .fields vs → a ∉ frs (X.env :: X.outer) := fun {h o vs} ff e dd hm => by
          obtain ⟨_, o', e', hnf⟩ := ff.mem hm
          rw [e] at e'; cases e'
          exact hnf _ dd
        have nfr := notFr fl3.2.2.1 he3 hd3
        have nL : a ≠ X.env.locals := fun z => nfr (List.mem_filterMap.mpr ⟨X.env, List.mem_cons_self, by rw [hf, z]⟩)
        have nF : a ∉ X.fs := fun hm => by
          obtain ⟨e, he, q⟩ := List.mem_filterMap.mp hm
          exact nfr (List.mem_filterMap.mpr ⟨e, List.mem_cons_of_mem _ he, q⟩)
        have hsa : sI.heap.get? a = none := by
          cases q : sI.heap.get? a with
          | none => rfl
          | some o =>
            have z := nb a o q (by rw [hs]; exact nfr)
            rw [fl3.2.1] at z
            cases z
        have S3 := J3.suite he3 hd3 na nL nF
        obtain ⟨b, hb1, hyes, hno⟩ := w
        refine wpAny_handleBy_cons (codeAny_handlers_test ?_) (by intro q; cases q)
        have LT : PySem.W.Looks (model X.prog X.w) h3 (typeOf (.ref a)) cls := fun A Q E s k q => wpAny_typeOf_ref (k _ _ he3) (by rw [hz3.1]; exact q)
        have LM := PySem.W.exm_one (M := model X.prog X.w) (J3.kIn) LT hb1
        have test : ∀ {Q : Value → Shared → Prop} {E : Value → Shared → Prop}, Q c { s' with heap := h3 } → wpAny (model X.prog X.w) (X.A.mark (some (.ref a))) (eval (.Name x np) X.env) Q E { s' with heap := h3 } := fun {Q E} q => by
          obtain ⟨hg, hdbg, hm | ⟨hm, hv, hnn⟩⟩ := hc
          · exact ld_glob (X := X.suite a ((a, oe3) :: (X.pn ++ pins))) S3 hg hm q hdbg
          · exact ld_blt (X := X.suite a ((a, oe3) :: (X.pn ++ pins))) S3 hg hm hv q hnn hdbg
        refine test (LM.here ?_)
        cases b with
        | true =>
          refine codeAny_handlers_suite ?_
          refine HandSPX.lands_againZ fl3 fun h4 fl4 up4 => ?_
          obtain ⟨dn, hyes2⟩ := hyes rfl
          cases dn
          obtain ⟨oe4, vs4, he4, hz4, hd4⟩ := fl4.there
          have J4 : Inv X pins σ' (upd H' a (ExK cls a)) { s' with heap := h4 } := J.landedX nb fl4.1 ((up.trans up3).trans up4) os ag hsa na (exK_ok he4 hz4 hd4)
          refine wpAny_mono ((hsu a (X.pn ++ pins)).run [] _ _ _ _ (J4.suite0 a) (hyes2 a na)) (fun f s6 hsp => ?_) (fun _ _ z => False.elim z)
          cases f with
          | next =>
            obtain ⟨σ6, H6, S6, q6⟩ := hsp
            exact ⟨_, _, S6.unsuite0 ok, q6⟩
          | brk =>
            obtain ⟨σ6, H6, S6, q6⟩ := hsp
            exact ⟨_, _, S6.unsuite0 ok, q6⟩
          | cont =>
            obtain ⟨σ6, H6, S6, q6⟩ := hsp
            exact ⟨_, _, S6.unsuite0 ok, q6⟩
          | ret u =>
            obtain ⟨v6, σ6, H6, S6, r6, q6⟩ := hsp
            exact ⟨_, _, _, S6.unsuite0 ok, r6, q6⟩
        | false =>
          show wpAny _ X.A (handleBy (.ref a) X.env hds2) _ _ _
          exact ih (hno rfl) h3 fl3 up3
      | @as_ x n c i ts b₀ suite np pos' hds2 l2 hc hi hln hsu r ih =>
        intro w h3 fl3 up3
        have J3 : Inv X pins σ' H' { s' with heap := h3 } := J.landed nb fl3.1 (up.trans up3) os ag
        obtain ⟨oe3, vs3, he3, hz3, hd3⟩ := fl3.there
        have notFr : ∀ {h : Heap} {o : Obj} {vs : Array Value}, h.FunFrames B (X.env :: X.outer) → h.get? a = some o → o.data = .fields vs → a ∉ frs (X.env :: X.outer) := fun {h o vs} ff e dd hm => by
          obtain ⟨_, o', e', hnf⟩ := ff.mem hm
          rw [e] at e'; cases e'
          exact hnf _ dd
        have nfr := notFr fl3.2.2.1 he3 hd3
        have nL : a ≠ X.env.locals := fun z => nfr (List.mem_filterMap.mpr ⟨X.env, List.mem_cons_self, by rw [hf, z]⟩)
        have nF : a ∉ X.fs := fun hm => by
          obtain ⟨e, he, q⟩ := List.mem_filterMap.mp hm
          exact nfr (List.mem_filterMap.mpr ⟨e, List.mem_cons_of_mem _ he, q⟩)
        have hsa : sI.heap.get? a = none := by
          cases q : sI.heap.get? a with
          | none => rfl
          | some o =>
            have z := nb a o q (by rw [hs]; exact nfr)
            rw [fl3.2.1] at z
            cases z
        have S3 := J3.suite he3 hd3 na nL nF
        obtain ⟨b, hb1, hyes, hno⟩ := w
        have hloc : Loc X.env.scope n := .inl hln
        refine wpAny_handleBy_cons (codeAny_handlers_test ?_) (by intro q; cases q)
        have LT : PySem.W.Looks (model X.prog X.w) h3 (typeOf (.ref a)) cls := fun A Q E s k q => wpAny_typeOf_ref (k _ _ he3) (by rw [hz3.1]; exact q)
        have LM := PySem.W.exm_one (M := model X.prog X.w) (J3.kIn) LT hb1
        have test : ∀ {Q : Value → Shared → Prop} {E : Value → Shared → Prop}, Q c { s' with heap := h3 } → wpAny (model X.prog X.w) (X.A.mark (some (.ref a))) (eval (.Name x np) X.env) Q E { s' with heap := h3 } := fun {Q E} q => by
          obtain ⟨hg, hdbg, hm | ⟨hm, hv, hnn⟩⟩ := hc
          · exact ld_glob (X := X.suite a ((a, oe3) :: (X.pn ++ pins))) S3 hg hm q hdbg
          · exact ld_blt (X := X.suite a ((a, oe3) :: (X.pn ++ pins))) S3 hg hm hv q hnn hdbg
        refine test (LM.here ?_)
        cases b with
        | true =>
          refine codeAny_handlers_suite_as ?_
          refine HandSPX.lands_againZ fl3 fun h4 fl4 up4 => ?_
          obtain ⟨dn, hyes2⟩ := hyes rfl
          cases dn
          obtain ⟨oe4, vs4, he4, hz4, hd4⟩ := fl4.there
          have J4 : Inv X pins σ' (upd H' a (ExK cls a)) { s' with heap := h4 } := J.landedX nb fl4.1 ((up.trans up3).trans up4) os ag hsa na (exK_ok he4 hz4 hd4)
          refine store_ok (X := X.suite a (X.pn ++ pins)) (v := .ref a) (J4.suite0 a) hN hi hloc rfl (fun s5 S5 => ?_) (.inr hln)
          refine wpAny_mono ((hsu a (X.pn ++ pins)).run [] s5 _ _ _ S5 (hyes2 a na)) (fun f s6 hsp => ?_) (fun _ _ z => False.elim z)
          have end_ : ∀ {σ6 : St} {H6 : Hp} {Q : Shared → Prop}, Inv (X.suite a (X.pn ++ pins)) [] σ6 H6 s6 → (∀ s7, Inv X pins (σ6.set i none) H6 s7 → Q s7) →
              wpAny (model X.prog X.w) X.A (do bindName X.env n .none; unbindBehindTheSuite X.env n pos') (fun _ s7 => Q s7) X.xe s6 := fun {σ6 H6 Q} S6 hq => gone_ok (S6.unsuite0 ok) hN hi hln hq
          cases f with
          | next =>
            obtain ⟨σ6, H6, S6, q6⟩ := hsp
            exact end_ S6 fun s7 J7 => ⟨_, _, J7, q6⟩
          | brk =>
            obtain ⟨σ6, H6, S6, q6⟩ := hsp
            exact end_ S6 fun s7 J7 => ⟨_, _, J7, q6⟩
          | cont =>
            obtain ⟨σ6, H6, S6, q6⟩ := hsp
            exact end_ S6 fun s7 J7 => ⟨_, _, J7, q6⟩
          | ret u =>
            obtain ⟨v6, σ6, H6, S6, r6, q6⟩ := hsp
            exact end_ S6 fun s7 J7 => ⟨_, _, _, J7, r6, q6⟩
        | false =>
          show wpAny _ X.A (handleBy (.ref a) X.env hds2) _ _ _
          exact ih (hno rfl) h3 fl3 up3
      | @tup5 x1 x2 x3 x4 x5 c1 c2 c3 c4 c5 nm b₀ suite p1 p2 p3 p4 p5 tpos pos' kk hds2 l2 hc1 hc2 hc3 hc4 hc5 r ih =>
        intro w h3 fl3 up3
        have J3 : Inv X pins σ' H' { s' with heap := h3 } := J.landed nb fl3.1 (up.trans up3) os ag
        obtain ⟨oe3, vs3, he3, hz3, hd3⟩ := fl3.there
        have notFr : ∀ {h : Heap} {o : Obj} {vs : Array Value}, h.FunFrames B (X.env :: X.outer) → h.get? a = some o → o.data = .fields vs → a ∉ frs (X.env :: X.outer) := fun {h o vs} ff e dd hm => by
          obtain ⟨_, o', e', hnf⟩ := ff.mem hm
          rw [e] at e'; cases e'
          exact hnf _ dd
        have nfr := notFr fl3.2.2.1 he3 hd3
        have nL : a ≠ X.env.locals := fun z => nfr (List.mem_filterMap.mpr ⟨X.env, List.mem_cons_self, by rw [hf, z]⟩)
        have nF : a ∉ X.fs := fun hm => by
          obtain ⟨e, he, q⟩ := List.mem_filterMap.mp hm
          exact nfr (List.mem_filterMap.mpr ⟨e, List.mem_cons_of_mem _ he, q⟩)
        have hsa : sI.heap.get? a = none := by
          cases q : sI.heap.get? a with
          | none => rfl
          | some o =>
            have z := nb a o q (by rw [hs]; exact nfr)
            rw [fl3.2.1] at z
            cases z
        have S3 := J3.suite he3 hd3 na nL nF
        obtain ⟨hb1, hno⟩ := w
        refine wpAny_handleBy_cons (codeAny_handlers_test ?_) (by intro q; cases q)
        have LT : PySem.W.Looks (model X.prog X.w) h3 (typeOf (.ref a)) cls := fun A Q E s k q => wpAny_typeOf_ref (k _ _ he3) (by rw [hz3.1]; exact q)
        have test : ∀ {x : Str} {np : Pos} {c : Value} (hc : Names X x c) {Q : Value → Shared → Prop} {E : Value → Shared → Prop}, Q c { s' with heap := h3 } → wpAny (model X.prog X.w) (X.A.mark (some (.ref a))) (eval (.Name x np) X.env) Q E { s' with heap := h3 } := fun {x np c} hc {Q E} q => by
          obtain ⟨hg, hdbg, hm | ⟨hm, hv, hnn⟩⟩ := hc
          · exact ld_glob (X := X.suite a ((a, oe3) :: (X.pn ++ pins))) S3 hg hm q hdbg
          · exact ld_blt (X := X.suite a ((a, oe3) :: (X.pn ++ pins))) S3 hg hm hv q hnn hdbg
        refine wpAny_Tuple ?_
        refine wpAny_items_cons (test hc1 ?_)
        refine wpAny_items_cons (test hc2 ?_)
        refine wpAny_items_cons (test hc3 ?_)
        refine wpAny_items_cons (test hc4 ?_)
        refine wpAny_items_cons (test hc5 ?_)
        refine wpAny_items_nil ⟨by size_fits, ?_⟩
        have kp : ∀ q o, h3.get? q = some o → (h3.push { cls := .type "tuple", data := .seq [c1, c2, c3, c4, c5].toArray }).get? q = some o := fun _ _ z => Heap.get?_push_of_some _ z
        refine (exm_tup5 (J3.kIn.keeps kp) (LT.keeps kp) (Heap.get?_push_size h3 rfl) hb1).here ?_
        show wpAny _ X.A (handleBy (.ref a) X.env hds2) _ _ _
        exact ih hno _ (flyZ_keeps fl3 kp) (up3.trans (Heap.UpToSlots.of_keeps kp))
    exact go hh w h3' fl3' up3'
  · cases f with
    | next =>
      obtain ⟨σ', H', J', q⟩ := hsp
      exact wpAny_execs_nil ⟨σ', H', J'.ofTry ok, q⟩
    | brk =>
      obtain ⟨σ', H', J', q⟩ := hsp
      exact ⟨σ', H', J'.ofTry ok, q⟩
    | cont =>
      obtain ⟨σ', H', J', q⟩ := hsp
      exact ⟨σ', H', J'.ofTry ok, q⟩
    | ret u =>
      obtain ⟨v, σ', H', J', r, q⟩ := hsp
      exact ⟨v, σ', H', J'.ofTry ok, r, q⟩
end
end L2
namespace L2
open PySem PySem.Spec PyProof.Rows
section
variable {X : Cx}
section
variable {prog : Program} {w : World} {A : Around} {E : Value → Shared → Prop} {s : Shared}
end
end
end L2
namespace PySem
open AutoSeq1 (wpAny_loadPart')
section
variable {prg : Program} {w : World} {A : Around} {E : Value → Shared → Prop} {s : Shared}
end
end PySem
namespace VV
open PySem L2
open PySem.Spec
open PyProof.Rows hiding St
section
variable {X : Cx} {e : Expr} {te : St → Hp → (Int → Int → Hp → Prop) → Prop}
end
end VV
namespace VV
open PySem PySem.Spec PyProof.Rows L2
section
variable {P : Program} {w : World} {H : Hp} {h : Heap}
theorem nk_all : ∀ {xs : List Str} {us : List Value}, Vals (xs.map V.str) us → NestedAll h (xs.map NestedKey.text) us
  | [], _, r => by cases r; exact .nil
  | x :: xs, _, r => by
    cases r with
    | cons r t =>
      obtain ⟨k, rfl⟩ := (show ∃ t, _ = Value.str x t from r)
      exact .cons (.text x k) (nk_all t)
theorem nk_dep : ∀ xs : List Str, NestedKey.depthAll (xs.map NestedKey.text) = 0
  | [] => rfl
  | x :: xs => by
    rw [List.map_cons, NestedKey.depthAll, nk_dep xs]
    rfl
theorem nk_deep (q : Str × List Str) : (nkOf q).depth ≤ 8 := by
  unfold nkOf
  simp only [NestedKey.depth, NestedKey.depthAll, nk_dep]
  decide
theorem nk_inj {q q' : Str × List Str} (e : nkOf q = nkOf q') : q = q' := by
  unfold nkOf at e
  have e1 := NestedKey.tup.inj e
  have e2 := (List.cons.inj e1).1
  have e3 := NestedKey.tup.inj (List.cons.inj (List.cons.inj e1).2).1
  have e4 : q.2 = q'.2 := by
    have inj : ∀ {l m : List Str}, l.map NestedKey.text = m.map NestedKey.text → l = m := by
      intro l
      induction l with
      | nil =>
        intro m z
        cases m with
        | nil => rfl
        | cons _ _ => cases z
      | cons a l ih =>
        intro m z
        cases m with
        | nil => cases z
        | cons b m =>
          rw [List.map_cons, List.map_cons] at z
          have z1 := List.cons.inj z
          rw [NestedKey.text.inj z1.1, ih z1.2]
    exact inj e3
  have e5 := NestedKey.text.inj e2
  cases q
  cases q'
  dsimp only at e4 e5
  rw [e4, e5]
theorem nk_is {q : Str × List Str} {b : Addr} (ok : HOk P w H h) (k : NkAt H q b) : (nestedKind P w).is h (nkOf q) b := by
  obtain ⟨c, h1, h2⟩ := k
  obtain ⟨_, its, r, o, g1, g2, n, g3⟩ := (show ObjOk P w H h b (.tup [.str q.1, .ref c]) from ok b _ h1)
  obtain ⟨_, jts, r2, o2, k1, k2, n2, k3⟩ := (show ObjOk P w H h c (.tup (q.2.map .str)) from ok c _ h2)
  refine ⟨.tup g1 g2 g3 ?_, nk_deep q⟩
  obtain ⟨u1, u2, rfl, ra, rb⟩ := vals2 r
  obtain ⟨t, rfl⟩ := (show ∃ t, u1 = Value.str q.1 t from ra)
  obtain rfl : u2 = Value.ref c := rb
  refine .cons (.text q.1 t) (.cons (.tup k1 k2 k3 ?_) .nil)
  exact nk_all (by simpa using r2)
theorem nk_at (q : Str × List Str) : ∀ xs : List ((Str × List Str) × Addr), (atKey (xs.map fun x => (nkOf x.1, x.2, Value.bool true)) (nkOf q)).isSome = decide (q ∈ xs.map (·.1))
  | [] => by simp [atKey]
  | x :: xs => by
    have ih := nk_at q xs
    unfold atKey at ih ⊢
    rw [List.map_cons, List.find?_cons, List.map_cons]
    by_cases e : x.1 = q
    · have e1 : decide (nkOf x.1 = nkOf q) = true := decide_eq_true (by rw [e])
      rw [e1]
      subst e
      exact (decide_eq_true List.mem_cons_self).symm
    · have e1 : decide (nkOf x.1 = nkOf q) = false := decide_eq_false fun z => e (nk_inj z)
      rw [e1]
      refine ih.trans ?_
      by_cases m : q ∈ xs.map (·.1)
      · rw [decide_eq_true m, decide_eq_true (List.mem_cons_of_mem _ m)]
      · rw [decide_eq_false m, decide_eq_false fun z => (List.mem_cons.mp z).elim (fun z => e z.symm) m]
theorem nst_dict {a : Addr} {ks : List (Str × List Str)} (ok : HOk P w H h) (n : NstD w H a ks) : (a == sysModules) = false ∧ ∃ xs : List ((Str × List Str) × Addr), xs.map (·.1) = ks ∧ (∀ x ∈ xs, NkAt H x.1 x.2) ∧
    h.DictOfH (nestedKind P w) a (xs.map fun x => (nkOf x.1, x.2, Value.bool true)) := by
  obtain ⟨_, nd, _, ⟨rfl, e⟩ | ⟨xs, e1, e2, e⟩⟩ := n
  · obtain ⟨_, y, vs, r, o, es, ep, g1, g2, g3, g4, g5, g6⟩ := dk_of ok e
    cases r
    refine ⟨y, [], rfl, (fun x hx => absurd hx (by simp)), o, es, ep, g1, g2, g3, ?_, (fun x hx => absurd hx (by simp)), List.nodup_nil⟩
    cases he : es.toList with
    | nil => rfl
    | cons z l =>
      rw [he] at g5
      cases g5
  · obtain ⟨⟨hs, o, es, ep, g1, g2, g3, g4⟩, _, _⟩ := (show ObjOk P w H h a (nkHO w a xs) from ok a _ e)
    refine ⟨hs, xs, e1, e2, o, es, ep, g1, g2, g3, ?_, fun x hx => ?_, ?_⟩
    · rw [g4, List.map_map]
      rfl
    · obtain ⟨z, hz, rfl⟩ := List.mem_map.mp hx
      exact nk_is ok (e2 z hz)
    · have : (xs.map fun x => (nkOf x.1, x.2, Value.bool true)).map (·.1) = ks.map nkOf := by
        rw [← e1, List.map_map, List.map_map]
        rfl
      rw [this]
      exact (List.pairwise_map.mpr (nd.imp fun {a b} h z => h (nk_inj z)))
end
def rNotInN (w : World) : R2 := fun x y H Q => ∃ (a b : Addr) (q : Str × List Str) (ks : List (Str × List Str)), x = .ref b ∧ y = .ref a ∧ NkAt H q b ∧ NstD w H a ks ∧ Q (.bl (!decide (q ∈ ks))) H
section
variable {X : Cx}
theorem room_nk {A : Around} (hu : A.units + 64 < cLine) : (nestedKind X.prog X.w).room A.in1 := by
  show A.in1.units + 8 < cLine
  rw [Around.in1_units]
  omega
theorem op_nnin (hu : X.A.units + 64 < cLine) : OpR X (compareOp .NotIn) (rNotInN X.w) := by
  intro pins s σ H x y u v Q I rx ry h
  obtain ⟨a, b, q, ks, rfl, rfl, hk, hd, q1⟩ := h
  cases (show u = Value.ref b from rx)
  cases (show v = Value.ref a from ry)
  obtain ⟨hsys, xs, e1, e2, dd⟩ := nst_dict I.hok hd
  refine wpAny_notIn_heap (room_nk hu) (nk_is I.hok hk) hsys dd ?_
  rw [nk_at, e1]
  exact ⟨.bl _, H, I.tok _, rfl, q1⟩
def sNPut (w : World) (td ty tv : TE) : TS := fun D σ H => tv σ H fun v H1 => td σ H1 fun x H2 => ty σ H2 fun y H3 => ∃ (a b : Addr) (q : Str × List Str) (ks : List (Str × List Str)), v = .bl true ∧ x = .ref a ∧ y = .ref b ∧ NkAt H3 q b ∧ NstD w H3 a ks ∧ q ∉ ks ∧ ks.length < sizeLine ∧
  ∀ o, NstD w (upd H3 a o) a (ks ++ [q]) → D.nx σ (upd H3 a o)
theorem ps_nput {o i value : Expr} {pos pos' : Pos} {td ty tv : TE} (hu : X.A.units + 64 < cLine) (ho : PE X o td) (hi : PE X i ty) (hv : PE X value tv) (hs : swapsWith value (some (.Subscript o i pos')) pos.line X.env = pure false) :
    PS X (.Assign [.Subscript o i pos'] value pos) (sNPut X.w td ty tv) := by
  refine ⟨fun pins s σ H D I h => ?_⟩
  refine wpAny_Assign_Subscript (thn (hv.run pins s σ H _ I h) fun r s1 ⟨v, H1, I1, rv, q1⟩ => thn (ho.run pins s1 σ H1 _ I1 q1) fun u s2 ⟨x, H2, I2, rx, q2⟩ => thn (hi.run pins s2 σ H2 _ I2 q2) fun iv s3 ⟨y, H3, I3, ry, a, b, q, ks, ev, ex, ey, hk, hd, hq, hl, q3⟩ => ?_) hs
  subst ev ex ey
  obtain rfl : u = Value.ref a := rx
  obtain rfl : iv = Value.ref b := ry
  obtain rfl : r = Value.bool true := rv
  obtain ⟨hsys, xs, e1, e2, dd⟩ := nst_dict I3.hok hd
  have hz : (xs.map fun x => (nkOf x.1, x.2, Value.bool true)).length ≤ sizeLine := by
    have : ks.length = xs.length := by rw [← e1, List.length_map]
    rw [List.length_map]
    omega
  have hn : atKey (xs.map fun x => (nkOf x.1, x.2, Value.bool true)) (nkOf q) = none := by
    have := nk_at q xs
    rw [e1, decide_eq_false hq] at this
    exact Option.isSome_eq_false_iff.mp this |> Option.isNone_iff_eq_none.mp
  refine wpAny_setItem_heap (hsz := hz) (room_nk hu) (nk_is I3.hok hk) dd fun h' dd' hs' => ?_
  rw [storedH_new hn] at dd'
  obtain ⟨ob, es, ep, g1, g2, g3, g4, _, _⟩ := dd'
  have hφ : (a == sysModules) = false ∧ ∃ (o : Obj) (es : Array DictEntry) (ep : Nat), h'.get? a = some o ∧ o.ExactDict ∧ o.data = .dict es ep ∧ es.toList = (xs ++ [(q, b)]).map fun x => (⟨(nkOf x.1).hash X.w, .ref x.2, .bool true⟩ : DictEntry) := by
    refine ⟨hsys, ob, es, ep, g1, g2, g3, ?_⟩
    rw [g4, List.map_append, List.map_append, List.map_map]
    rfl
  have mu : Mut (H3 a) := by
    obtain ⟨_, _, _, ⟨_, e⟩ | ⟨_, _, _, e⟩⟩ := hd
    · rw [e]; exact True.intro
    · rw [e]; exact True.intro
  have nt : ∀ c ys, H3 c = some (.tup ys) → upd H3 a (nkHO X.w a (xs ++ [(q, b)])) c = some (.tup ys) := fun c ys ec => by
    have : c ≠ a := fun z => by
      subst z
      rw [ec] at mu
      exact mu
    rw [upd_ne this]
    exact ec
  have new : ObjOk X.prog X.w (upd H3 a (nkHO X.w a (xs ++ [(q, b)]))) h' a (nkHO X.w a (xs ++ [(q, b)])) :=
    ⟨hφ, ⟨ob, g1⟩, fun h1 h2 ⟨z1, o1, es1, ep1, z2, z3⟩ k => ⟨z1, o1, es1, ep1, k _ z2, z3⟩⟩
  refine ⟨σ, _, d_write I3 mu hs' ⟨ob, g1⟩ new, q3 _ ⟨?_, ?_, fun C z => ?_, .inr ⟨xs ++ [(q, b)], ?_, fun x hx => ?_, upd_same⟩⟩⟩
  · rw [List.length_append, List.length_singleton]
    omega
  · refine List.nodup_append.mpr ⟨hd.2.1, by simp, fun x hx y hy z => ?_⟩
    rw [List.mem_singleton] at hy
    subst hy
    exact hq (z ▸ hx)
  · rw [upd_same] at z
    have z1 : HO.ext _ = HO.ext _ := Option.some.inj z
    have z2 := HO.ext.inj z1
    have z3 := (congrFun z2 h').mp hφ
    obtain ⟨oe, vs, y1, _, y2⟩ := z3
    rw [g1] at y1
    cases y1
    rw [g3] at y2
    cases y2
  · rw [List.map_append, e1]
    rfl
  · rcases List.mem_append.mp hx with hx | hx
    · obtain ⟨c, k1, k2⟩ := e2 x hx
      exact ⟨c, nt _ _ k1, nt _ _ k2⟩
    · rw [List.mem_singleton] at hx
      subst hx
      obtain ⟨c, k1, k2⟩ := hk
      exact ⟨c, nt _ _ k1, nt _ _ k2⟩
end
end VV
namespace PySem
theorem nolen_zip : typeLookup (.type "zip") "__len__" = pure none := by rw [typeLookup_type, builtinLookup_eq_fast]; kernel_rfl
theorem nohint_zip : typeLookup (.type "zip") "__length_hint__" = pure none := by rw [typeLookup_type, builtinLookup_eq_fast]; kernel_rfl
theorem nA {a b : Nat} (h : a ≠ b) : @Ne Addr a b := h
def ZipSt (h : Heap) (I l1 l2 k : Nat) : Prop :=
  ((IsZip h (I + 4) (I + 2) (I + 3) .none ∧ ∃ a b, IsPair h (I + 3) a b) ∨ ∃ (T : Addr) (f : Bool) (oT : Obj), IsZipHeld h (I + 4) (I + 2) (I + 3) T f ∧ h.get? T = some oT) ∧
  IsPair h (I + 2) (.ref I) (.ref (I + 1)) ∧ h.IsListIter I l1 k ∧ h.IsListIter (I + 1) l2 k
theorem ZipSt.keep {h h' : Heap} {I l1 l2 k S : Nat} (st : ZipSt h I l1 l2 k) (hS : I + 4 < S) (kp : ∀ b o, b ≠ S → h.get? b = some o → h'.get? b = some o) (he : ∃ o, h'.get? S = some o) : ZipSt h' I l1 l2 k := by
  obtain ⟨st, h2, h3, h4⟩ := st
  refine ⟨?_, kp (I + 2) _ (nA (by omega)) h2, h3.at fun o e => kp I _ (nA (by omega)) e, h4.at fun o e => kp (I + 1) _ (nA (by omega)) e⟩
  rcases st with ⟨a, x, y, b⟩ | ⟨T, f, oT, a, b⟩
  · exact .inl ⟨kp (I + 4) _ (nA (by omega)) a, x, y, kp (I + 3) _ (nA (by omega)) b⟩
  · by_cases e : T = S
    · obtain ⟨o, ho⟩ := he
      exact .inr ⟨T, f, o, kp (I + 4) _ (nA (by omega)) a, by rw [e]; exact ho⟩
    · exact .inr ⟨T, f, oT, kp (I + 4) _ (nA (by omega)) a, kp _ _ e b⟩
structure MadeZ (xs ys : Array Value) (lo : Addr) (h : Heap) (as : List Addr) : Prop where
  rise : as.Pairwise (· < ·)
  above : ∀ a ∈ as, lo < a
  pairs : ∀ (j : Nat) (a : Addr), as[j]? = some a → ∃ x y, xs[j]? = some x ∧ ys[j]? = some y ∧ h.get? a = some { cls := .type "tuple", data := .seq #[x, y] }
theorem MadeZ.there {xs ys : Array Value} {lo : Addr} {h : Heap} {as : List Addr} (g : MadeZ xs ys lo h as) {a : Addr} (ha : a ∈ as) : a < h.objs.size := by
  obtain ⟨j, hj⟩ := List.mem_iff_getElem?.mp ha
  obtain ⟨_, _, _, _, e⟩ := g.pairs j a hj
  exact Heap.lt_size e
section
variable {prog : Program} {w : World} {A : Around} {E : Value → Shared → Prop} {s : Shared} {I l1 l2 : Nat} {xs ys : Array Value}
theorem zs_next {k : Nat} {x y : Value} {Q : Option Value → Shared → Prop} (h1 : l1 < I) (h2 : l2 < I) (st : ZipSt s.heap I l1 l2 k) (hl1 : s.heap.IsList l1 xs) (hl2 : s.heap.IsList l2 ys) (hx : xs[k]? = some x) (hy : ys[k]? = some y)
    (hQ : ∀ h', ZipSt h' I l1 l2 (k + 1) → IsPair h' s.heap.objs.size x y → h'.objs.size = s.heap.objs.size + 1 →
      (∀ c o, c ≠ I → c ≠ I + 1 → c ≠ I + 3 → c ≠ I + 4 → s.heap.get? c = some o → h'.get? c = some o) → Q (some (.ref s.heap.objs.size)) { s with heap := h' }) :
    wpAny (model prog w) A (pyNext (.ref (I + 4))) Q E s := by
  have D : ZipApart (I + 4) (I + 2) (I + 3) I (I + 1) l1 l2 := PySem.W.ktu_apart I l1 l2 h1 h2
  obtain ⟨⟨hz, a, b, hTO⟩ | ⟨T, f, oT, hz, hT⟩, hTI, i1, i2⟩ := st
  · refine wpAny_pyNext_zip_item D hz hTI hTO i1 i2 hl1 hl2 hx hy fun h' a1 a2 a3 a4 a5 a6 a7 => hQ h' ⟨.inr ⟨_, false, _, a1, a5⟩, a7 (I + 2) _ (nA (by omega)) (nA (by omega)) (nA (by omega)) (nA (by omega)) hTI, a3, a4⟩ a5 a6 fun c o c1 c2 c3 c4 e => a7 c o c4 c3 c1 c2 e
  · refine wpAny_pyNext_zip_item_held D hz hT hTI i1 i2 hl1 hl2 hx hy fun h' a1 a3 a4 a5 a6 a7 => hQ h' ⟨.inr ?_, a7 (I + 2) _ (nA (by omega)) (nA (by omega)) (nA (by omega)) hTI, a3, a4⟩ a5 a6 fun c o c1 c2 c3 c4 e => a7 c o c4 c1 c2 e
    by_cases e1 : T = I + 4
    · exact ⟨T, true, _, a1, by rw [e1]; rw [e1] at a1; exact a1⟩
    by_cases e2 : T = I
    · obtain ⟨o, ho, _⟩ := a3
      exact ⟨T, true, o, a1, by rw [e2]; exact ho⟩
    by_cases e3 : T = I + 1
    · obtain ⟨o, ho, _⟩ := a4
      exact ⟨T, true, o, a1, by rw [e3]; exact ho⟩
    exact ⟨T, true, oT, a1, a7 T oT e1 e2 e3 hT⟩
theorem zs_end {k : Nat} {Q : Option Value → Shared → Prop} (hh : A.handled = none) (h1 : l1 < I) (h2 : l2 < I) (st : ZipSt s.heap I l1 l2 k) (hl1 : s.heap.IsList l1 xs) (hl2 : s.heap.IsList l2 ys) (he : xs[k]? = none ∨ ys[k]? = none)
    (hQ : ∀ h', (∀ c o, c ≠ I → c ≠ I + 1 → c ≠ I + 3 → c ≠ I + 4 → s.heap.get? c = some o → h'.get? c = some o) → Q none { s with heap := h' }) :
    wpAny (model prog w) A (pyNext (.ref (I + 4))) Q E s := by
  have D : ZipApart (I + 4) (I + 2) (I + 3) I (I + 1) l1 l2 := PySem.W.ktu_apart I l1 l2 h1 h2
  obtain ⟨⟨hz, a, b, hTO⟩ | ⟨T, f, oT, hz, hT⟩, hTI, i1, i2⟩ := st
  · exact wpAny_pyNext_zip_end hh D hz hTI hTO i1 i2 hl1 hl2 he fun h' a7 => hQ h' fun c o c1 c2 c3 c4 e => a7 c o c4 c3 c1 c2 e
  · exact wpAny_pyNext_zip_end_held hh D hz hT hTI i1 i2 hl1 hl2 he fun h' a7 => hQ h' fun c o c1 c2 c3 c4 e => a7 c o c4 c1 c2 e
theorem zs_loop {S n : Nat} {R : Result → Shared → Prop} (hh : A.handled = none) (h1 : l1 < I) (h2 : l2 < I) (hS4 : I + 4 < S) (n1 : xs.size = n) (n2 : ys.size = n) (hn : n ≤ sizeLine) (res : Value) {h₁ : Heap}
    (hR : ∀ h' tk acc c as, (∀ b o, b < I → h₁.get? b = some o → h'.get? b = some o) → h'.get? S = some { cls := .type "list", dict := none, data := .seq acc c, slots := #[] } → as.length = n → MadeZ xs ys S h' as →
      acc.toList = as.map Value.ref → R (.ok (.ret res)) { s with heap := h', toks := tk }) :
    ∀ (k i : Nat) (h : Heap) (tk c : Nat) (acc : Array Value) (as : List Addr), n - i = k → i ≤ n → ZipSt h I l1 l2 i → h.IsList l1 xs → h.IsList l2 ys → (∀ b o, b < I → h₁.get? b = some o → h.get? b = some o) →
      h.get? S = some { cls := .type "list", dict := none, data := .seq acc c, slots := #[] } → acc.toList = as.map Value.ref → as.length = i → MadeZ xs ys S h as → S < h.objs.size →
      codeAny (model prog w) A (.builtin "list.extend.loop" ⟨[.ref S, .ref (I + 4), res], []⟩) R { s with heap := h, toks := tk } := by
  intro k
  induction k with
  | zero =>
    intro i h tk c acc as hk hi hst hA hB hkeep hS hacc hal hG hIs
    refine codeAny_builtin PySem.F.entry_extend_loop ?_
    rw [Around.under_plainId PySem.F.plain_extend_loop _]
    show wpAny _ A.in1 (pyNext (.ref (I + 4)) >>= _) _ _ _
    refine wpAny_bind (zs_end (s := { s with heap := h, toks := tk }) (A := A.in1) hh h1 h2 hst hA hB (.inl (Array.getElem?_eq_none (by omega))) fun h' he => ?_)
    refine wpAny_pure (hR h' tk acc c as (fun b o hb e => he b o (nA (by omega)) (nA (by omega)) (nA (by omega)) (nA (by omega)) (hkeep b o hb e)) (he S _ (nA (by omega)) (nA (by omega)) (nA (by omega)) (nA (by omega)) hS) (by omega) ⟨hG.rise, hG.above, fun j a hj => ?_⟩ hacc)
    obtain ⟨x, y, e1, e2, e3⟩ := hG.pairs j a hj
    have : @LT.lt Nat _ S a := hG.above a (List.mem_of_getElem? hj)
    exact ⟨x, y, e1, e2, he a _ (nA (by omega)) (nA (by omega)) (nA (by omega)) (nA (by omega)) e3⟩
  | succ k ih =>
    intro i h tk c acc as hk hi hst hA hB hkeep hS hacc hal hG hIs
    have hlt : i < n := by omega
    have hsz : acc.size = i := by rw [← Array.length_toList, hacc, List.length_map, hal]
    have e1 : xs[i]? = some (xs[i]'(by omega)) := Array.getElem?_eq_getElem _
    have e2 : ys[i]? = some (ys[i]'(by omega)) := Array.getElem?_eq_getElem _
    refine codeAny_builtin PySem.F.entry_extend_loop ?_
    rw [Around.under_plainId PySem.F.plain_extend_loop _]
    show wpAny _ A.in1 (pyNext (.ref (I + 4)) >>= _) _ _ _
    refine wpAny_bind (zs_next (s := { s with heap := h, toks := tk }) h1 h2 hst hA hB e1 e2 fun h' hst' ht hz hkp => ?_)
    dsimp only at ht hz hkp ⊢
    have hS' := hkp S _ (nA (by omega)) (nA (by omega)) (nA (by omega)) (nA (by omega)) hS
    have up : ∀ b o, b ≠ S → h'.get? b = some o → (h'.update S (Obj.mapSeq (·.push (Value.ref h.objs.size)))).get? b = some o := fun b o hb e => (Heap.get?_update_other _ _ (Ne.symm hb)).trans e
    have hSl : S < h.objs.size := Heap.lt_size hS
    have hS2 := Heap.get?_update_self (Obj.mapSeq (·.push (Value.ref h.objs.size))) hS' rfl
    have low : ∀ {l : Nat} {zs : Array Value}, l < I → h.IsList l zs → (h'.update S (Obj.mapSeq (·.push (Value.ref h.objs.size)))).IsList l zs := fun {l zs} hl ⟨o, ho, r⟩ => ⟨o, up l o (nA (by omega)) (hkp l o (nA (by omega)) (nA (by omega)) (nA (by omega)) (nA (by omega)) ho), r⟩
    show wpAny _ A.in1 (updateSeq S (·.push (Value.ref h.objs.size)) >>= _) _ _ _
    refine wpAny_bind ?_
    refine wpAny_updateSeq hS' rfl (wpAny_pure ⟨plainId_quiet PySem.F.plain_extend_loop _, ih (i + 1) _ tk _ (acc.push (Value.ref h.objs.size)) (as ++ [h.objs.size]) (by omega) hlt (hst'.keep hS4 up ⟨_, hS2⟩) (low h1 hA) (low h2 hB)
      (fun b o hb e => up b o (nA (by omega)) (hkp b o (nA (by omega)) (nA (by omega)) (nA (by omega)) (nA (by omega)) (hkeep b o hb e))) hS2 (by rw [Array.toList_push, hacc, List.map_append]; rfl) (by rw [List.length_append, hal]; rfl) ⟨?_, ?_, ?_⟩ ?_⟩) (by rw [hsz]; omega) (by show (acc.push (Value.ref h.objs.size)).size ≤ sizeLine + 1; rw [Array.size_push, hsz]; omega)
    · refine List.pairwise_append.mpr ⟨hG.rise, List.pairwise_singleton _ _, fun a ha b hb => ?_⟩
      rw [List.mem_singleton.mp hb]
      exact hG.there ha
    · intro a ha
      rcases List.mem_append.mp ha with ha | ha
      · exact hG.above a ha
      · rw [List.mem_singleton.mp ha]; exact hIs
    · intro j b hj
      rcases Nat.lt_trichotomy j as.length with q | q | q
      · rw [List.getElem?_append_left q] at hj
        obtain ⟨x, y, e1, e2, e3⟩ := hG.pairs j b hj
        have hb : @LT.lt Nat _ S b := hG.above b (List.mem_of_getElem? hj)
        exact ⟨x, y, e1, e2, up b _ (nA (by omega)) (hkp b _ (nA (by omega)) (nA (by omega)) (nA (by omega)) (nA (by omega)) e3)⟩
      · subst q
        have hb : h.objs.size = b := by simpa using hj
        subst hb
        exact ⟨_, _, by rw [hal]; exact e1, by rw [hal]; exact e2, up _ _ (Nat.ne_of_gt hSl) ht⟩
      · have hnone : (as ++ [h.objs.size])[j]? = none := List.getElem?_eq_none (by rw [List.length_append, List.length_singleton]; omega)
        rw [hnone] at hj; cases hj
    · have e : (h'.update S (Obj.mapSeq (·.push (Value.ref h.objs.size)))).get? h.objs.size = _ := up _ _ (Nat.ne_of_gt hSl) ht
      exact Nat.lt_trans hIs (Heap.lt_size e)
theorem zs_init {S n : Nat} {R : Result → Shared → Prop} (hh : A.handled = none) (h1 : l1 < I) (h2 : l2 < I) (hS4 : I + 4 < S) (n1 : xs.size = n) (n2 : ys.size = n) (hn : n ≤ sizeLine) (st : ZipSt s.heap I l1 l2 0) (hA : s.heap.IsList l1 xs) (hB : s.heap.IsList l2 ys) (hX : s.heap.get? S = some { cls := .type "list", data := .seq #[] })
    (hR : ∀ h' tk acc c as, (∀ b o, b < I → s.heap.get? b = some o → h'.get? b = some o) → h'.get? S = some { cls := .type "list", dict := none, data := .seq acc c, slots := #[] } → as.length = n → MadeZ xs ys S h' as →
      acc.toList = as.map Value.ref → R (.ok (.ret .none)) { s with heap := h', toks := tk }) :
    wpAny (model prog w) A.in1 (Builtin.«list.__init__» ⟨[.ref S, .ref (I + 4)], []⟩) (fun fin s2 => match fin with
      | .done f => R (.ok f) s2
      | .again c2 => c2.quiet = true ∧ codeAny (model prog w) A c2 R s2) (fun e s2 => R (.error e) s2) s := by
  have hSz : S ≠ I + 4 := by omega
  show wpAny _ _ (do
    let old ← Builtin.List.listItems (.ref S)
    Builtin.List.listUpdate (.ref S) (fun _ => #[])
    letGo old.toList.reverse
    Builtin.List.listExtendWith (.ref S) (.ref (I + 4)) .none) _ _ s
  refine wpAny_bind ?_
  unfold Builtin.List.listItems
  refine wpAny_bind (wpAny_seqItems hX rfl (wpAny_pure ?_))
  show wpAny _ _ (updateSeq S (fun _ => #[]) >>= fun _ => letGo (#[] : Array Value).toList.reverse >>= fun _ => Builtin.List.listExtendWith (.ref S) (.ref (I + 4)) .none) _ _ s
  refine wpAny_bind (wpAny_updateSeq hX rfl ?_)
  have hX2 := Heap.get?_update_self (Obj.mapSeq (fun _ => (#[] : Array Value))) hX rfl
  have oth : ∀ b o, b ≠ S → s.heap.get? b = some o → (s.heap.update S (Obj.mapSeq (fun _ => (#[] : Array Value)))).get? b = some o := fun b o hne e => (Heap.get?_update_other _ _ (Ne.symm hne)).trans e
  refine wpAny_bind (wpAny_letGo ?_)
  have st2 := st.keep hS4 oth ⟨_, hX2⟩
  have low : ∀ {l : Nat} {zs : Array Value} {h' : Heap}, l < I → (∀ b o, b ≠ S → s.heap.get? b = some o → h'.get? b = some o) → s.heap.IsList l zs → h'.IsList l zs := fun {l zs h'} hl k ⟨o, ho, r⟩ => ⟨o, k l o (by omega) ho, r⟩
  have tz : ∀ {h : Heap} {tk : Nat}, ZipSt h I l1 l2 0 → Shared.TypeIs { s with heap := h, toks := tk } (.ref (I + 4)) "zip" := fun {h tk} z => by
    rcases z.1 with ⟨a, _⟩ | ⟨T, f, oT, a, _⟩
    · exact ⟨_, a, rfl⟩
    · exact ⟨_, a, rfl⟩
  have go : ∀ (h : Heap) (c1 tk : Nat), ZipSt h I l1 l2 0 → (∀ b o, b ≠ S → s.heap.get? b = some o → h.get? b = some o) → h.get? S = some { cls := .type "list", data := .seq #[] c1 } → codeAny (model prog w) A (.builtin "list.extend.loop" ⟨[.ref S, .ref (I + 4), .none], []⟩) R { s with heap := h, toks := tk } := fun h c1 tk z k hS =>
    zs_loop (h₁ := s.heap) hh h1 h2 hS4 n1 n2 hn .none (fun h' tk' acc c as a1 a2 a3 a4 a5 => hR h' tk' acc c as a1 a2 a3 a4 a5) n 0 h tk c1 #[] [] (Nat.sub_zero _) (Nat.zero_le _) z (low h1 k hA) (low h2 k hB) (fun b o hb e => k b o (by omega) e) hS rfl rfl
      ⟨List.Pairwise.nil, (fun _ ha => nomatch ha), (fun j a hj => by simp at hj)⟩ (Heap.lt_size hS)
  unfold Builtin.List.listExtendWith
  refine wpAny_bind (wpAny_typeOf (tz (tk := s.toks) st2) ?_)
  have q1 : Builtin.List.listSameRef (.ref S) (.ref (I + 4)) = false := by
    simp [Builtin.List.listSameRef, hSz]
  have q2 : (Value.type "zip" == Value.type "list") = false := by decide
  have q3 : (Value.type "zip" == Value.type "tuple") = false := by decide
  simp only [q1, q2, q3, Bool.or_false, Bool.false_eq_true, if_false]
  have hz : ∃ f0, IsZip (s.heap.update S (Obj.mapSeq (fun _ => (#[] : Array Value)))) (I + 4) (I + 2) (I + 3) f0 ∨ ∃ T f, IsZipHeld (s.heap.update S (Obj.mapSeq (fun _ => (#[] : Array Value)))) (I + 4) (I + 2) (I + 3) T f := by
    rcases st2.1 with ⟨a, _⟩ | ⟨T, f, oT, a, _⟩
    · exact ⟨_, .inl a⟩
    · exact ⟨.none, .inr ⟨T, f, a⟩⟩
  refine wpAny_bind (wpAny_pyIter_slot (tz (tk := s.toks) st2) F.slot_zip_iter (wpAny_call_entry F.slot_zip_iter (tz (tk := s.toks) st2) F.entry_zip_iter ?_ (F.args_zip_iter_1 _)))
  show wpAny _ _ (ret (.ref (I + 4))) _ _ _
  refine wpAny_pure ⟨_, rfl, "zip", _, tz (tk := s.toks) st2, F.slot_zip_next.lookup, ?_⟩
  refine wpAny_bind (wpAny_holding ?_)
  unfold Builtin.List.listLengthHint
  refine wpAny_bind (wpAny_specialOf (tz (tk := s.toks) st2) nolen_zip ?_)
  show wpAny _ A.in1 (specialOf (Value.ref (I + 4)) (Str.ofString "__length_hint__") >>= _) _ _ _
  refine wpAny_bind (wpAny_specialOf (tz (tk := s.toks) st2) nohint_zip ?_)
  refine wpAny_pure ?_
  refine wpAny_ite_split (fun _ => ?_) (fun _ => wpAny_pure ⟨plainId_quiet F.plain_extend_loop _, go _ _ _ st2 oth hX2⟩)
  refine wpAny_bind (wpAny_rule (wpAny_bind ?_))
  show wpAny _ _ (updateSeq S (·.push .none) >>= fun _ => updateSeq S (·.pop)) _ _ _
  refine wpAny_bind (wpAny_updateSeq hX2 rfl ?_)
  have hX3 := Heap.get?_update_self (Obj.mapSeq (·.push Value.none)) hX2 rfl
  refine wpAny_updateSeq (hz := by seq_fits) hX3 rfl ?_
  have hX4 := Heap.get?_update_self (Obj.mapSeq (·.pop)) hX3 rfl
  have o3 : ∀ b o, b ≠ S → s.heap.get? b = some o → (((s.heap.update S (Obj.mapSeq (fun _ => (#[] : Array Value)))).update S (Obj.mapSeq (·.push Value.none))).update S (Obj.mapSeq (·.pop))).get? b = some o :=
    fun b o hne e => (Heap.get?_update_other _ _ (Ne.symm hne)).trans ((Heap.get?_update_other _ _ (Ne.symm hne)).trans (oth b o hne e))
  exact wpAny_pure ⟨plainId_quiet F.plain_extend_loop _, go _ _ _ (st.keep hS4 o3 ⟨_, hX4⟩) o3 hX4⟩
theorem zs_call {n : Nat} {Q : Value → Shared → Prop} (hh : A.handled = none) (h1 : l1 < I) (h2 : l2 < I) (hI : I + 4 < s.heap.objs.size) (n1 : xs.size = n) (n2 : ys.size = n) (hn : n ≤ sizeLine) (st : ZipSt s.heap I l1 l2 0) (hA : s.heap.IsList l1 xs) (hB : s.heap.IsList l2 ys)
    (hQ : ∀ h' tk acc c as, (∀ b o, b < I → s.heap.get? b = some o → h'.get? b = some o) → h'.get? s.heap.objs.size = some { cls := .type "list", dict := none, data := .seq acc c, slots := #[] } → as.length = n → MadeZ xs ys s.heap.objs.size h' as →
      acc.toList = as.map Value.ref → Q (.ref s.heap.objs.size) { s with heap := h', toks := tk }) :
    wpAny (model prog w) A (call (.type "list") [.ref (I + 4)]) Q E s := by
  refine callType_codes (Q₁ := fun o s1 => o = .ref s.heap.objs.size ∧ s1 = { s with heap := s.heap.push { cls := .type "list", data := .seq #[] } }) F.called_list (F.typeCall_list_1 _) F.entry_list_init (code_list_new _ ⟨rfl, rfl⟩) fun o s1 z => ?_
  obtain ⟨rfl, rfl⟩ := z
  have hX : (s.heap.push { cls := .type "list", data := .seq #[] }).get? s.heap.objs.size = some { cls := .type "list", data := .seq #[] } := Heap.get?_push_size _ rfl
  have kp : ∀ b o, s.heap.get? b = some o → (s.heap.push { cls := .type "list", data := .seq #[] }).get? b = some o := fun b o e => Heap.get?_push_of_some _ e
  have low : ∀ {l : Nat} {zs : Array Value}, s.heap.IsList l zs → (s.heap.push { cls := .type "list", data := .seq #[] }).IsList l zs := fun {l zs} ⟨o, ho, r⟩ => ⟨o, kp l o ho, r⟩
  refine ⟨⟨_, hX, rfl⟩, F.args_list_init_2 _ _, zs_init (A := A.in1) (s := { s with heap := s.heap.push { cls := .type "list", data := .seq #[] } }) hh h1 h2 hI n1 n2 hn (st.keep hI (fun b o _ e => kp b o e) ⟨_, hX⟩) (low hA) (low hB) hX fun h' tk acc c as a1 a2 a3 a4 a5 => ?_⟩
  exact ⟨rfl, hQ h' tk acc c as (fun b o hb e => a1 b o hb (kp b o e)) a2 a3 a4 a5⟩
end
end PySem
namespace VV
open PySem L2
open PySem.Spec
open PyProof.Rows hiding St
section
variable {X : Cx} {e e2 : Expr} {ta : TA}
theorem vals_back {xs : List V} {us : List Value} {j : Nat} {u : Value} (r : Vals xs us) (e : us[j]? = some u) : ∃ v, xs[j]? = some v ∧ RelV v u := by
  have hj : j < xs.length := by
    have := (List.getElem?_eq_some_iff.mp e).1
    have := r.length
    omega
  obtain ⟨u', h1, h2⟩ := r.get (List.getElem?_eq_getElem hj)
  rw [e] at h1
  cases h1
  exact ⟨_, List.getElem?_eq_getElem hj, h2⟩
def tLZip (K : PySem.W.Frag) (ta : TA) : TE := fun σ H Q => ta σ H fun vs H1 => ∃ (a b : Addr) (xs ys : List V), vs = [.ref a, .ref b] ∧ SqL K H1 a xs ∧ SqL K H1 b ys ∧ xs.length = ys.length ∧
  ∀ (H2 : Hp) (q : Addr) (as : List Addr), (∀ b o, H1 b = some o → H2 b = some o) → H1 q = none → as.length = xs.length → (∀ (j : Nat) (a : Addr), as[j]? = some a → ∃ x y, xs[j]? = some x ∧ ys[j]? = some y ∧ H2 a = some (.tup [x, y])) → H2 q = some (.lst (as.map .ref)) → Q (.ref q) H2
theorem pe_lzip {p p2 pos pos2 : Pos} (hc : X.calm = true) (hg : Gl X "list") (hm : X.mg "list" = none) (hg2 : Gl X "zip") (hm2 : X.mg "zip" = none) (ha : PA X [e, e2] ta)
    (na : starEach [Expr.Call (.Name "zip" p2) [e, e2] [] pos2] X.env = (false, eval (.Call (.Name "zip" p2) [e, e2] [] pos2) X.env) :: starEach [] X.env := by rfl)
    (hs : starEach [e, e2] X.env = (false, eval e X.env) :: starEach [e2] X.env := by rfl) (hpl : (backTo pos2 (starEach [e2] X.env)).any (·.1) = false := by rfl) :
    PE X (.Call (.Name "list" p) [.Call (.Name "zip" p2) [e, e2] [] pos2] [] pos) (tLZip X.K ta) := by
  refine ⟨fun pins s σ H Q I h => Call_ (ld_blt I hg hm boot_list (PyProof.Rows.callWith_type1 (args_cons (Call_ (ld_blt I hg2 hm2 PyProof.Rows.boot_zip (PyProof.Rows.callWith_type1 (thn (ha.run pos2 pins s σ H _ I h) fun us s1 ⟨vs, H1, I1, r1, a, b, xs, ys, ex, hqx, hqy, hl, q⟩ => ?_) hs hpl))) na) na))⟩
  subst ex
  cases r1 with
  | cons r rr =>
    cases rr with
    | cons r' rr =>
      cases rr
      cases r
      cases r'
      obtain ⟨its, rv, p1, z1⟩ := I1.list hqx
      obtain ⟨its2, rv2, p2, _⟩ := I1.list hqy
      refine call_zip_2 p1.isList p2.isList fun h' hz hTI hTO i1 i2 hsz hk => args_nil ?_
      have la : a < s1.heap.objs.size := p1.lt
      have lb : b < s1.heap.objs.size := p2.lt
      have len1 := rv.length
      have len2 := rv2.length
      have low : ∀ {l : Nat} {zs : Array Value}, s1.heap.IsList l zs → h'.IsList l zs := fun {l zs} ⟨o, ho, r⟩ => ⟨o, hk l o ho, r⟩
      refine zs_call (s := { s1 with heap := h' }) (I := s1.heap.objs.size) (n := xs.length) (I1.ok.hd hc) la lb (by show s1.heap.objs.size + 4 < h'.objs.size; omega) (by simp; omega) (by simp; omega) z1 ⟨.inl ⟨hz, _, _, hTO⟩, hTI, i1, i2⟩ (low p1.isList) (low p2.isList) fun h2 tk acc c as k2 eS hal G eacc => ?_
      have S0 : h'.objs.size = s1.heap.objs.size + 5 := hsz
      dsimp only at eS G k2 ⊢
      have I2 : Inv X pins σ H1 { s1 with heap := h2, toks := tk } := I1.kept fun b o e => k2 b o (Heap.lt_size e) (hk b o e)
      have hS : s1.heap.objs.size ≤ h'.objs.size := by omega
      have nS : H1 h'.objs.size = none := I1.hok.fresh hS
      have I3 : Inv X pins σ (upd H1 h'.objs.size (.lst (as.map .ref))) { s1 with heap := h2, toks := tk } :=
        I2.take (h' := h2) (t' := tk) (fun b ob _ e => e) (I1.fpOk hS nS) (show ObjOk X.prog X.w _ _ _ (.lst (as.map .ref)) from ⟨by rw [List.length_map, hal]; exact z1, acc.toList, c, by
          rw [eacc]
          clear eacc hal G
          induction as with
          | nil => exact .nil
          | cons a as ih => exact .cons rfl ih, by
          rw [Array.toArray_toList]
          exact eS⟩)
      obtain ⟨H2, I4, k4, t4⟩ := DX.takeT (P := fun a vs => ∀ j : Nat, as[j]? = some a → ∃ x y, xs[j]? = some x ∧ ys[j]? = some y ∧ vs = [x, y]) I1 as (upd H1 h'.objs.size (.lst (as.map .ref))) I3 (G.rise.imp fun h => Nat.ne_of_lt h) fun a ha => by
        have hab : @LT.lt Nat _ h'.objs.size a := G.above a ha
        obtain ⟨j, hj⟩ := List.mem_iff_getElem?.mp ha
        obtain ⟨x, y, e1, e2, e3⟩ := G.pairs j a hj
        rw [List.getElem?_toArray] at e1 e2
        obtain ⟨vx, hx, rx⟩ := vals_back rv e1
        obtain ⟨vy, hy, ry⟩ := vals_back rv2 e2
        refine ⟨by omega, (upd_ne (Nat.ne_of_gt hab)).trans (I1.hok.fresh (by omega)), [vx, vy], fun j' hj' => ?_, fun H2 => ⟨by show 2 ≤ sizeLine; decide, [x, y], .cons rx (.cons ry .nil), ⟨_, e3, rfl, _, rfl⟩⟩⟩
        have nd : as.Nodup := G.rise.imp fun h => Nat.ne_of_lt h
        have : j' = j := by
          have h1 := (List.getElem?_eq_some_iff.mp hj').1
          exact (List.getElem?_inj h1 nd).mp (hj'.trans hj.symm)
        subst this
        exact ⟨vx, vy, hx, hy, rfl⟩
      refine ⟨.ref h'.objs.size, H2, I4, rfl, q H2 h'.objs.size as (fun b o e => k4 b o (by rw [upd_ne (ne_of_none e nS)]; exact e)) nS hal (fun j a hj => ?_) (k4 _ _ upd_same)⟩
      obtain ⟨vs, hv, hH⟩ := t4 a (List.mem_of_getElem? hj)
      obtain ⟨x, y, e1, e2, rfl⟩ := hv j hj
      exact ⟨x, y, e1, e2, hH⟩
end
end VV
namespace VV
open PySem L2
@[reducible] def Gam : List Ty → Type
  | [] => Unit
  | t :: ts => Option (den t) × Gam ts
inductive Mem : List Ty → Ty → Type where
  | z {t : Ty} {ts : List Ty} : Mem (t :: ts) t
  | s {u t : Ty} {ts : List Ty} : Mem ts t → Mem (u :: ts) t
def Mem.ix : {ts : List Ty} → {t : Ty} → Mem ts t → Nat
  | _, _, .z => 0
  | _, _, .s i => i.ix + 1
def Mem.get : {ts : List Ty} → {t : Ty} → Mem ts t → Gam ts → Option (den t)
  | _, _, .z, Γ => Γ.1
  | _, _, .s i, Γ => i.get Γ.2
def Mem.set : {ts : List Ty} → {t : Ty} → Mem ts t → Option (den t) → Gam ts → Gam ts
  | _, _, .z, d, Γ => (d, Γ.2)
  | _, _, .s i, d, Γ => (Γ.1, i.set d Γ.2)
def Gam.mask : {ts : List Ty} → List Bool → Gam ts → Gam ts
  | [], _, _ => ()
  | _ :: _, [], Γ => Γ
  | _ :: _, b :: bs, Γ => (if b then Γ.1 else none, Gam.mask bs Γ.2)
theorem Mem.set_set : ∀ {ts : List Ty} {t : Ty} (i : Mem ts t) (d e : Option (den t)) (Γ : Gam ts), i.set d (i.set e Γ) = i.set d Γ
  | _, _, .z, _, _, _ => rfl
  | _, _, .s i, d, e, Γ => by
    show (Γ.1, i.set d (i.set e Γ.2)) = (Γ.1, i.set d Γ.2)
    rw [Mem.set_set i]
theorem Mem.get_set : ∀ {ts : List Ty} {t : Ty} (i : Mem ts t) (d : Option (den t)) (Γ : Gam ts), i.get (i.set d Γ) = d
  | _, _, .z, _, _ => rfl
  | _, _, .s i, d, Γ => Mem.get_set i d Γ.2
theorem Mem.get_set_ne : ∀ {ts : List Ty} {t u : Ty} (i : Mem ts t) (j : Mem ts u) (d : Option (den t)) (Γ : Gam ts), i.ix ≠ j.ix → j.get (i.set d Γ) = j.get Γ
  | _, _, _, .z, .z, _, _, h => absurd rfl h
  | _, _, _, .z, .s j, _, _, _ => rfl
  | _, _, _, .s i, .z, _, _, _ => rfl
  | _, _, _, .s i, .s j, d, Γ, h => Mem.get_set_ne i j d Γ.2 fun e => h (congrArg (· + 1) e)
inductive Md where
  | o | l | w | f | k | r
  deriving DecidableEq
def Md.hard : Md → Bool
  | .f => true
  | .k => true
  | _ => false
def Md.fixd : Md → Bool
  | .f => true
  | .k => true
  | .r => true
  | _ => false
def Md.own : Md → Bool
  | .o => true
  | .r => true
  | _ => false
section
variable (K : KW) (H : Hp) (S0 L : Reg)
def repM : Md → (t : Ty) → V → den t → List Addr → Prop
  | .o, t, v, d, f => (rO K H L t).1 v d f
  | .l, t, v, d, f => f = [] ∧ (rS K H L t).1 v d
  | .w, t, v, d, f => f = [] ∧ (rS K H (fun a => S0 a ∨ L a) t).1 v d
  | .f, t, v, d, f => f = [] ∧ (rS K H (fun a => S0 a ∨ L a) t).1 v d
  | .k, t, v, d, f => (rO K H L t).1 v d f
  | .r, t, v, d, f => (rO K H L t).1 v d f
def slot (m : Md) (t : Ty) : Option (den t) → Option V → List Addr → Prop
  | none, _, f => f = []
  | some d, s, f => ∃ v, s = some v ∧ repM K H S0 L m t v d f
def rG : List Md → (ts : List Ty) → Gam ts → St → List Addr → Prop
  | [], [], _, σ, fp => σ = [] ∧ fp = []
  | m :: ms, t :: ts, Γ, s :: σ, fp => ∃ f1 f2, fp = f1 ++ f2 ∧ slot K H S0 L m t Γ.1 s f1 ∧ rG ms ts Γ.2 σ f2
  | _, _, _, _, _ => False
end
section
variable {K : KW} {H H' : Hp} {S0 L L' : Reg}
theorem repM_mono {m : Md} {t : Ty} {v : V} {d : den t} {f : List Addr} (hS : Cov H H' S0 S0) (hL : Cov H H' L L') (hs : Stb H H') (hf : ∀ a ∈ f, H' a = H a) (h : repM K H S0 L m t v d f) : repM K H' S0 L' m t v d f := by
  have hw : Cov H H' (fun a => S0 a ∨ L a) (fun a => S0 a ∨ L' a) := fun a o hr e => by
    rcases hr with hr | hr
    · exact ⟨.inl (hS a o hr e).1, (hS a o hr e).2⟩
    · exact ⟨.inr (hL a o hr e).1, (hL a o hr e).2⟩
  cases m with
  | o => exact (rO_mono hL hs t).1 v d f hf h
  | k => exact (rO_mono hL hs t).1 v d f hf h
  | r => exact (rO_mono hL hs t).1 v d f hf h
  | l => exact ⟨h.1, (rS_mono hL hs t).1 v d h.2⟩
  | w => exact ⟨h.1, (rS_mono hw hs t).1 v d h.2⟩
  | f => exact ⟨h.1, (rS_mono hw hs t).1 v d h.2⟩
theorem slot_mono {m : Md} {t : Ty} {d : Option (den t)} {s : Option V} {f : List Addr} (hS : Cov H H' S0 S0) (hL : Cov H H' L L') (hs : Stb H H') (hf : ∀ a ∈ f, H' a = H a) (h : slot K H S0 L m t d s f) : slot K H' S0 L' m t d s f := by
  cases d with
  | none => exact h
  | some d =>
    obtain ⟨v, e, h⟩ := h
    exact ⟨v, e, repM_mono hS hL hs hf h⟩
theorem rG_mono (hS : Cov H H' S0 S0) (hL : Cov H H' L L') (hs : Stb H H') : ∀ {ms : List Md} {ts : List Ty} {Γ : Gam ts} {σ : St} {fp : List Addr}, (∀ a ∈ fp, H' a = H a) → rG K H S0 L ms ts Γ σ fp → rG K H' S0 L' ms ts Γ σ fp
  | [], [], _, _, _, _, h => h
  | m :: ms, t :: ts, Γ, s :: σ, fp, hf, h => by
    obtain ⟨f1, f2, rfl, h1, h2⟩ := h
    exact ⟨f1, f2, rfl, slot_mono hS hL hs (fun a ha => hf a (List.mem_append_left _ ha)) h1, rG_mono hS hL hs (fun a ha => hf a (List.mem_append_right _ ha)) h2⟩
  | [], _ :: _, _, _, _, _, h => h.elim
  | _ :: _, [], _, _, _, _, h => h.elim
  | _ :: _, _ :: _, _, [], _, _, h => h.elim
theorem rG_focus : ∀ {ts : List Ty} {t : Ty} (i : Mem ts t) {ms : List Md} {m : Md} {Γ : Gam ts} {σ : St} {fp : List Addr}, rG K H S0 L ms ts Γ σ fp → ms[i.ix]? = some m →
    ∃ s f fa fb, σ[i.ix]? = some s ∧ slot K H S0 L m t (i.get Γ) s f ∧ fp = fa ++ (f ++ fb) ∧ ∀ d' s' f', slot K H S0 L m t d' s' f' → rG K H S0 L ms ts (i.set d' Γ) (σ.set i.ix s') (fa ++ (f' ++ fb))
  | _ :: _, _, .z, m :: ms, m', Γ, s :: σ, fp, h, hm => by
    obtain ⟨f1, f2, rfl, h1, h2⟩ := h
    have e : m = m' := by simpa [Mem.ix] using hm
    subst e
    exact ⟨s, f1, [], f2, rfl, h1, rfl, fun d' s' f' q => ⟨f', f2, rfl, q, h2⟩⟩
  | _ :: _, _, .s i, m :: ms, m', Γ, s :: σ, fp, h, hm => by
    obtain ⟨f1, f2, rfl, h1, h2⟩ := h
    obtain ⟨s', f, fa, fb, e1, e2, rfl, e3⟩ := rG_focus i h2 (by simpa [Mem.ix] using hm)
    refine ⟨s', f, f1 ++ fa, fb, by simpa [Mem.ix] using e1, e2, by simp, fun d' s'' f' q => ⟨f1, fa ++ (f' ++ fb), by simp, h1, ?_⟩⟩
    exact e3 d' s'' f' q
  | _ :: _, _, _, [], _, _, _, _, h, _ => h.elim
  | _ :: _, _, _, _ :: _, _, _, [], _, h, _ => h.elim
theorem rG_mask : ∀ {ms : List Md} {ts : List Ty} {Γ : Gam ts} {σ : St} {fp : List Addr} (bs : List Bool), rG K H S0 L ms ts Γ σ fp → ∃ fp', rG K H S0 L ms ts (Gam.mask bs Γ) σ fp' ∧ fp'.Sublist fp
  | [], [], _, _, _, _, h => ⟨_, h, List.Sublist.refl _⟩
  | m :: ms, t :: ts, Γ, s :: σ, fp, [], h => ⟨fp, h, List.Sublist.refl _⟩
  | m :: ms, t :: ts, Γ, s :: σ, fp, b :: bs, h => by
    obtain ⟨f1, f2, rfl, h1, h2⟩ := h
    obtain ⟨f2', h3, h4⟩ := rG_mask bs h2
    cases b with
    | true => exact ⟨f1 ++ f2', ⟨f1, f2', rfl, h1, h3⟩, List.Sublist.append (List.Sublist.refl _) h4⟩
    | false => exact ⟨f2', ⟨[], f2', rfl, rfl, h3⟩, h4.trans (List.sublist_append_right _ _)⟩
  | [], _ :: _, _, _, _, _, h => h.elim
  | _ :: _, [], _, _, _, _, h => h.elim
  | _ :: _, _ :: _, _, [], _, _, h => h.elim
end
structure Ent where
  H0 : Hp
  S0 : Reg
  io : List Addr
structure Good (E : Ent) (L : Reg) (H : Hp) (a : Addr) : Prop where
  new : E.H0 a = none ∨ a ∈ E.io
  nl : ¬ L a
  ns : ¬ E.S0 a
  at_ : (H a).isSome = true
structure Own (K : KW) (E : Ent) (L : Reg) (ms : List Md) (ts : List Ty) (Γ : Gam ts) (σ : St) (H : Hp) (xt : List Addr) : Prop where
  ex : ∃ fp, rG K H E.S0 L ms ts Γ σ fp ∧ (fp ++ xt).Nodup ∧ ∀ a ∈ fp ++ xt, Good E L H a
  fr : ∀ a o, E.H0 a = some o → a ∉ E.io → H a = some o
  lr : ∀ a, L a → (E.H0 a = none ∨ a ∈ E.io) ∧ (H a).isSome = true
  s0 : ∀ a, E.S0 a → (E.H0 a).isSome = true ∧ a ∉ E.io
  iod : ∀ a ∈ E.io, (H a).isSome = true
section
variable {K : KW} {E : Ent} {L L' : Reg} {ms : List Md} {ts : List Ty} {Γ : Gam ts} {σ : St} {H H' : Hp} {xt : List Addr}
theorem isSome_some {α : Type} {x : Option α} (h : x.isSome = true) : ∃ y, x = some y := Option.isSome_iff_exists.mp h
theorem same_at {a : Addr} (s : Same H H') (h : (H a).isSome = true) : H' a = H a := by
  obtain ⟨o, e⟩ := isSome_some h
  rw [e]
  exact s _ _ e
theorem Own.covS (o : Own K E L ms ts Γ σ H xt) (fr : ∀ a o, E.H0 a = some o → a ∉ E.io → H' a = some o) : Cov H H' E.S0 E.S0 := fun a q hr e => by
  obtain ⟨h1, h2⟩ := o.s0 a hr
  obtain ⟨y, hy⟩ := isSome_some h1
  refine ⟨hr, ?_⟩
  rw [fr a y hy h2, ← o.fr a y hy h2]
  exact e
theorem Own.same (o : Own K E L ms ts Γ σ H xt) (s : Same H H') : Own K E L ms ts Γ σ H' xt := by
  obtain ⟨fp, g, nd, gd⟩ := o.ex
  have fr : ∀ a q, E.H0 a = some q → a ∉ E.io → H' a = some q := fun a q h1 h2 => s _ _ (o.fr a q h1 h2)
  refine ⟨⟨fp, rG_mono (o.covS fr) (Cov.of_same s fun a h _ => h) (Stb.of_same s) (fun a ha => same_at s (gd a (List.mem_append_left _ ha)).at_) g, nd, fun a ha => ?_⟩, fr, fun a h => ?_, o.s0, fun a h => ?_⟩
  · obtain ⟨h1, h2, h3, h4⟩ := gd a ha
    exact ⟨h1, h2, h3, by rw [same_at s h4]; exact h4⟩
  · obtain ⟨h1, h2⟩ := o.lr a h
    exact ⟨h1, by rw [same_at s h2]; exact h2⟩
  · rw [same_at s (o.iod a h)]
    exact o.iod a h
theorem Own.drop (o : Own K E L ms ts Γ σ H xt) : Own K E L ms ts Γ σ H [] := by
  obtain ⟨fp, g, nd, gd⟩ := o.ex
  refine ⟨⟨fp, g, ?_, fun a ha => gd a (List.mem_append_left _ (by simpa using ha))⟩, o.fr, o.lr, o.s0, o.iod⟩
  rw [List.append_nil]
  exact (List.nodup_append.mp nd).1
theorem Own.mask (o : Own K E L ms ts Γ σ H xt) (bs : List Bool) : Own K E L ms ts (Gam.mask bs Γ) σ H xt := by
  obtain ⟨fp, g, nd, gd⟩ := o.ex
  obtain ⟨fp', g', sb⟩ := rG_mask bs g
  refine ⟨⟨fp', g', nd.sublist (sb.append (List.Sublist.refl _)), fun a ha => gd a ?_⟩, o.fr, o.lr, o.s0, o.iod⟩
  rcases List.mem_append.mp ha with h | h
  · exact List.mem_append_left _ (sb.subset h)
  · exact List.mem_append_right _ h
theorem Own.fresh (o : Own K E L ms ts Γ σ H xt) {a : Addr} (h : H a = none) : E.H0 a = none ∧ ¬ L a ∧ ¬ E.S0 a := by
  refine ⟨?_, fun q => ?_, fun q => ?_⟩
  · cases e : E.H0 a with
    | none => rfl
    | some y =>
      by_cases hi : a ∈ E.io
      · have := o.iod a hi
        rw [h] at this
        cases this
      · rw [o.fr a y e hi] at h
        cases h
  · have := (o.lr a q).2
    rw [h] at this
    cases this
  · obtain ⟨h1, h2⟩ := o.s0 a q
    obtain ⟨y, e⟩ := isSome_some h1
    rw [o.fr a y e h2] at h
    cases h
theorem Own.focus {t : Ty} (i : Mem ts t) {m : Md} (o : Own K E L ms ts Γ σ H xt) (hm : ms[i.ix]? = some m) :
    ∃ s f, σ[i.ix]? = some s ∧ slot K H E.S0 L m t (i.get Γ) s f ∧ f.Nodup ∧ (∀ a ∈ f, Good E L H a ∧ a ∉ xt) ∧
    ∀ (H' : Hp) (L' : Reg) (d' : Option (den t)) (s' : Option V) (f' xt' : List Addr), (∀ a, (H a).isSome = true → a ∉ f → a ∉ xt → H' a = H a) → Stb H H' → (∀ a, L a → L' a) → (∀ a, L' a → L a ∨ a ∈ f ∨ a ∈ xt ∨ H a = none) →
      (∀ a, (H a).isSome = true → (H' a).isSome = true) → (∀ a, L' a → (E.H0 a = none ∨ a ∈ E.io) ∧ (H' a).isSome = true) → slot K H' E.S0 L' m t d' s' f' → (f' ++ xt').Nodup → (∀ a ∈ f' ++ xt', (a ∈ f ∨ a ∈ xt ∨ H a = none) ∧ ¬ L' a ∧ (H' a).isSome = true) →
      Own K E L' ms ts (i.set d' Γ) (σ.set i.ix s') H' xt' := by
  obtain ⟨fp, g, nd, gd⟩ := id o.ex
  obtain ⟨s, f, fa, fb, e1, e2, rfl, e3⟩ := rG_focus i g hm
  have nd1 := List.nodup_append.mp nd
  have nd2 := List.nodup_append.mp nd1.1
  have nd3 := List.nodup_append.mp nd2.2.1
  have fxt : ∀ a ∈ f, a ∉ xt := fun a ha hx => nd1.2.2 a (List.mem_append_right _ (List.mem_append_left _ ha)) a hx rfl
  refine ⟨s, f, e1, e2, nd3.1, fun a ha => ⟨gd a (List.mem_append_left _ (List.mem_append_right _ (List.mem_append_left _ ha))), fxt a ha⟩, fun H' L' d' s' f' xt' c1 c2 c3 c4 c9 c5 c6 c7 c8 => ?_⟩
  have fr : ∀ a q, E.H0 a = some q → a ∉ E.io → H' a = some q := fun a q h1 h2 => by
    have h3 := o.fr a q h1 h2
    have nf : ∀ a', a' = a → Good E L H a' → False := fun a' e z => by
      subst e
      rcases z.new with z | z
      · rw [h1] at z; cases z
      · exact h2 z
    rw [c1 a (by rw [h3]; rfl) (fun z => nf a rfl (gd a (List.mem_append_left _ (List.mem_append_right _ (List.mem_append_left _ z))))) (fun z => nf a rfl (gd a (List.mem_append_right _ z)))]
    exact h3
  -- the other names' cells
  have oth : ∀ a, a ∈ fa ∨ a ∈ fb → a ∈ fa ++ (f ++ fb) ∧ a ∉ f ∧ a ∉ xt := fun a h => by
    rcases h with h | h
    · exact ⟨List.mem_append_left _ h, fun z => nd2.2.2 a h a (List.mem_append_left _ z) rfl, fun z => nd1.2.2 a (List.mem_append_left _ h) a z rfl⟩
    · exact ⟨List.mem_append_right _ (List.mem_append_right _ h), fun z => nd3.2.2 a z a h rfl, fun z => nd1.2.2 a (List.mem_append_right _ (List.mem_append_right _ h)) a z rfl⟩
  have othg : ∀ a, a ∈ fa ∨ a ∈ fb → Good E L H a := fun a h => gd a (List.mem_append_left _ (oth a h).1)
  have othc : ∀ a, a ∈ fa ∨ a ∈ fb → H' a = H a := fun a h => c1 a (othg a h).at_ (oth a h).2.1 (oth a h).2.2
  have covL : Cov H H' L L' := fun a q h e => by
    refine ⟨c3 a h, ?_⟩
    have h2 := (o.lr a h).2
    rw [c1 a h2 (fun z => (gd a (List.mem_append_left _ (List.mem_append_right _ (List.mem_append_left _ z)))).nl h) (fun z => (gd a (List.mem_append_right _ z)).nl h)]
    exact e
  have g0 := e3 none s [] rfl
  have g1 : rG K H' E.S0 L' ms ts (i.set none Γ) (σ.set i.ix s) (fa ++ ([] ++ fb)) := rG_mono (o.covS fr) covL c2 (fun a ha => othc a (by
    rcases List.mem_append.mp ha with h | h
    · exact .inl h
    · exact .inr (by simpa using h))) g0
  obtain ⟨s2, f2, fa2, fb2, q1, q2, q3, q4⟩ := rG_focus i g1 hm
  rw [Mem.get_set] at q2
  have q2 : f2 = [] := q2
  subst q2
  have g2 := q4 d' s' f' c6
  rw [Mem.set_set, List.set_set] at g2
  have e4 : fa2 ++ fb2 = fa ++ fb := by simpa using q3.symm
  have mem4 : ∀ a, a ∈ fa2 ∨ a ∈ fb2 → a ∈ fa ∨ a ∈ fb := fun a h => by
    have : a ∈ fa2 ++ fb2 := List.mem_append.mpr h
    rw [e4] at this
    exact List.mem_append.mp this
  have ndo : (fa2 ++ fb2).Nodup := by
    rw [e4]
    exact List.nodup_append.mpr ⟨nd2.1, nd3.2.1, fun a ha b hb => nd2.2.2 a ha b (List.mem_append_right _ hb)⟩
  have ndo2 := List.nodup_append.mp ndo
  have apart : ∀ a, a ∈ fa2 ∨ a ∈ fb2 → a ∉ f' ++ xt' := fun a h z => by
    have h' := mem4 a h
    rcases (c8 a z).1 with q | q | q
    · exact (oth a h').2.1 q
    · exact (oth a h').2.2 q
    · have := (othg a h').at_
      rw [q] at this
      cases this
  have c7' := List.nodup_append.mp c7
  refine ⟨⟨_, g2, ?_, fun a ha => ?_⟩, fr, c5, o.s0, fun a h => c9 a (o.iod a h)⟩
  · rw [List.append_assoc, List.append_assoc]
    refine List.nodup_append.mpr ⟨ndo2.1, List.nodup_append.mpr ⟨c7'.1, List.nodup_append.mpr ⟨ndo2.2.1, c7'.2.1, fun a ha b hb e => ?_⟩, fun a ha b hb e => ?_⟩, fun a ha b hb e => ?_⟩
    · subst e; exact apart a (.inr ha) (List.mem_append_right _ hb)
    · subst e
      rcases List.mem_append.mp hb with z | z
      · exact apart a (.inr z) (List.mem_append_left _ ha)
      · exact c7'.2.2 a ha a z rfl
    · subst e
      rcases List.mem_append.mp hb with z | z
      · exact apart a (.inl ha) (List.mem_append_left _ z)
      · rcases List.mem_append.mp z with z | z
        · exact ndo2.2.2 a ha a z rfl
        · exact apart a (.inl ha) (List.mem_append_right _ z)
  · have cases' : (a ∈ fa2 ∨ a ∈ fb2) ∨ a ∈ f' ++ xt' := by
      simp only [List.mem_append] at ha ⊢
      rcases ha with (h | h | h) | h
      · exact .inl (.inl h)
      · exact .inr (.inl h)
      · exact .inl (.inr h)
      · exact .inr (.inr h)
    rcases cases' with h | h
    · have h' := mem4 a h
      have gg := othg a h'
      refine ⟨gg.new, fun z => ?_, gg.ns, by rw [othc a h']; exact gg.at_⟩
      rcases c4 a z with q | q | q | q
      · exact gg.nl q
      · exact (oth a h').2.1 q
      · exact (oth a h').2.2 q
      · have := gg.at_
        rw [q] at this
        cases this
    · obtain ⟨q1, q2, q3⟩ := c8 a h
      rcases q1 with q | q | q
      · have gg := gd a (List.mem_append_left _ (List.mem_append_right _ (List.mem_append_left _ q)))
        exact ⟨gg.new, q2, gg.ns, q3⟩
      · have gg := gd a (List.mem_append_right _ q)
        exact ⟨gg.new, q2, gg.ns, q3⟩
      · have ff := o.fresh q
        exact ⟨.inl ff.1, q2, ff.2.2, q3⟩
end
inductive Em where
  | o | l | w | b
  deriving DecidableEq
def Nw (H H' : Hp) (R : Reg) : Prop := ∀ a, R a → H a = none ∧ (H' a).isSome = true
section
variable (K : KW) (E : Ent) (L : Reg) (H H' : Hp)
def Rep : Em → (t : Ty) → V → den t → Prop
  | .o, t, v, d => ∃ f Lr, (rO K H' (fun a => L a ∨ Lr a) t).1 v d f ∧ f.Nodup ∧ Nw H H' (· ∈ f) ∧ Nw H H' Lr ∧ ∀ a ∈ f, ¬ Lr a
  | .l, t, v, d => ∃ Lr, (rS K H' (fun a => L a ∨ Lr a) t).1 v d ∧ Nw H H' Lr
  | .w, t, v, d => ∃ Lr, (rS K H' (fun a => E.S0 a ∨ L a ∨ Lr a) t).1 v d ∧ Nw H H' Lr
  | .b, t, v, d => (rS K H' (fun _ => True) t).1 v d
def Rep2 : Em → (t : Ty) → List V → den t → Prop
  | .o, t, v, d => ∃ f Lr, (rO K H' (fun a => L a ∨ Lr a) t).2 v d f ∧ f.Nodup ∧ Nw H H' (· ∈ f) ∧ Nw H H' Lr ∧ ∀ a ∈ f, ¬ Lr a
  | .l, t, v, d => ∃ Lr, (rS K H' (fun a => L a ∨ Lr a) t).2 v d ∧ Nw H H' Lr
  | .w, t, v, d => ∃ Lr, (rS K H' (fun a => E.S0 a ∨ L a ∨ Lr a) t).2 v d ∧ Nw H H' Lr
  | .b, t, v, d => (rS K H' (fun _ => True) t).2 v d
end
def Em.le : Em → Em → Bool
  | .o, _ => true
  | .l, .o => false
  | .l, _ => true
  | .w, .w => true
  | .w, .b => true
  | .b, .b => true
  | _, _ => false
section
variable {K : KW} {E : Ent} {L L' : Reg} {H H1 H2 : Hp}
theorem Rep.le {m m' : Em} (h : m.le m' = true) {t : Ty} {v : V} {d : den t} (r : Rep K E L H H1 m t v d) : Rep K E L H H1 m' t v d := by
  have ol : Rep K E L H H1 .o t v d → Rep K E L H H1 .l t v d := fun ⟨f, Lr, h1, h2, h3, h4, h5⟩ =>
    ⟨fun a => Lr a ∨ a ∈ f, (rO_s (fun a h => by rcases h with h | h; exact .inl h; exact .inr (.inl h)) t).1 v d f (fun a ha => .inr (.inr ha)) h1, fun a ha => by rcases ha with q | q; exact h4 a q; exact h3 a q⟩
  have lw : Rep K E L H H1 .l t v d → Rep K E L H H1 .w t v d := fun ⟨Lr, h1, h2⟩ => ⟨Lr, (rS_mono (Cov.of_reg fun a h _ => .inr h) (Stb.refl _) t).1 v d h1, h2⟩
  have wb : Rep K E L H H1 .w t v d → Rep K E L H H1 .b t v d := fun ⟨Lr, h1, h2⟩ => (rS_mono (Cov.of_reg fun a h _ => True.intro) (Stb.refl _) t).1 v d h1
  cases m <;> cases m' <;> first | exact r | exact absurd h (by decide) | exact ol r | exact lw r | exact wb r | exact lw (ol r) | exact wb (lw r) | exact wb (lw (ol r))
theorem Rep.frz {t : Ty} (q : t.frz = true) (m : Em) {R : Reg} {v : V} {d : den t} (r : (rS K H1 R t).1 v d) : Rep K E L H H1 m t v d := by
  cases m with
  | o => exact ⟨[], fun _ => False, (rS_o t q).1 v d r, List.nodup_nil, fun a h => by simp at h, fun a h => h.elim, fun a h => by simp at h⟩
  | l => exact ⟨fun _ => False, (rS_frz t q).1 v d r, fun a h => h.elim⟩
  | w => exact ⟨fun _ => False, (rS_frz t q).1 v d r, fun a h => h.elim⟩
  | b => exact (rS_frz t q).1 v d r
theorem Rep.same {m : Em} {t : Ty} {v : V} {d : den t} (s : Same H1 H2) (r : Rep K E L H H1 m t v d) : Rep K E L H H2 m t v d := by
  have nw : ∀ {R : Reg}, Nw H H1 R → Nw H H2 R := fun {R} h a ha => ⟨(h a ha).1, by rw [same_at s (h a ha).2]; exact (h a ha).2⟩
  cases m with
  | o =>
    obtain ⟨f, Lr, h1, h2, h3, h4, h5⟩ := r
    exact ⟨f, Lr, (rO_mono (Cov.of_same s fun a h _ => h) (Stb.of_same s) t).1 v d f (fun a ha => same_at s (h3 a ha).2) h1, h2, nw h3, nw h4, h5⟩
  | l =>
    obtain ⟨Lr, h1, h2⟩ := r
    exact ⟨Lr, (rS_mono (Cov.of_same s fun a h _ => h) (Stb.of_same s) t).1 v d h1, nw h2⟩
  | w =>
    obtain ⟨Lr, h1, h2⟩ := r
    exact ⟨Lr, (rS_mono (Cov.of_same s fun a h _ => h) (Stb.of_same s) t).1 v d h1, nw h2⟩
  | b => exact (rS_mono (Cov.of_same s fun a h _ => h) (Stb.of_same s) t).1 v d r
theorem Rep.older {m : Em} {t : Ty} {v : V} {d : den t} (s : Same H H1) (r : Rep K E L H1 H2 m t v d) : Rep K E L H H2 m t v d := by
  have nw : ∀ {R : Reg}, Nw H1 H2 R → Nw H H2 R := fun {R} h a ha => ⟨s.free (h a ha).1, (h a ha).2⟩
  cases m with
  | o =>
    obtain ⟨f, Lr, h1, h2, h3, h4, h5⟩ := r
    exact ⟨f, Lr, h1, h2, nw h3, nw h4, h5⟩
  | l =>
    obtain ⟨Lr, h1, h2⟩ := r
    exact ⟨Lr, h1, nw h2⟩
  | w =>
    obtain ⟨Lr, h1, h2⟩ := r
    exact ⟨Lr, h1, nw h2⟩
  | b => exact r
end
section
variable (K : KW) (ms : List Md) (ts : List Ty)
def RP (te : TE) (m : Em) (t : Ty) (F : Gam ts → Option (den t)) : Prop :=
  ∀ (E : Ent) (L : Reg) (Γ : Gam ts) (σ : St) (H : Hp) (xt : List Addr) (Q : VK) (d : den t), Own K E L ms ts Γ σ H xt → F Γ = some d → (∀ v H', Same H H' → Rep K E L H H' m t v d → Q v H') → te σ H Q
def RA (ta : TA) (m : Em) (b : Ty) (F : Gam ts → Option (den b)) : Prop :=
  ∀ (E : Ent) (L : Reg) (Γ : Gam ts) (σ : St) (H : Hp) (xt : List Addr) (Q : List V → Hp → Prop) (d : den b), Own K E L ms ts Γ σ H xt → F Γ = some d → (∀ vs H', Same H H' → Rep2 K E L H H' m b vs d → Q vs H') → ta σ H Q
def RT (tt : TT) (F : Gam ts → Option Bool) : Prop :=
  ∀ (E : Ent) (L : Reg) (Γ : Gam ts) (σ : St) (H : Hp) (xt : List Addr) (Q : Bool → Hp → Prop) (c : Bool), Own K E L ms ts Γ σ H xt → F Γ = some c → (∀ H', Same H H' → Q c H') → tt σ H Q
end
inductive Fl (τ ρ : Type) where
  | nx (γ : τ) | bk (γ : τ) | ct (γ : τ) | rt (r : ρ) (γ : τ)
def KeepF (ms : List Md) (ts : List Ty) (Γ Γ' : Gam ts) (σ σ' : St) : Prop := (∀ (t : Ty) (i : Mem ts t) (m : Md), ms[i.ix]? = some m → m.hard = true → i.get Γ' = i.get Γ) ∧ ∀ (n : Nat) (m : Md), ms[n]? = some m → m.fixd = true → σ'[n]? = σ[n]?
theorem KeepF.refl {ms : List Md} {ts : List Ty} {Γ : Gam ts} {σ : St} : KeepF ms ts Γ Γ σ σ := ⟨fun _ _ _ _ _ => rfl, fun _ _ _ _ => rfl⟩
theorem KeepF.trans {ms : List Md} {ts : List Ty} {Γ Γ1 Γ2 : Gam ts} {σ σ1 σ2 : St} (a : KeepF ms ts Γ Γ1 σ σ1) (b : KeepF ms ts Γ1 Γ2 σ1 σ2) : KeepF ms ts Γ Γ2 σ σ2 := ⟨fun t i m h hh => (b.1 t i m h hh).trans (a.1 t i m h hh), fun n m h hh => (b.2 n m h hh).trans (a.2 n m h hh)⟩
theorem hard_fixd {m : Md} (h : m.hard = true) : m.fixd = true := by cases m <;> first | rfl | cases h
structure Ev (ms : List Md) (ts : List Ty) (L : Reg) (Γ : Gam ts) (σ : St) (H : Hp) (L' : Reg) (Γ' : Gam ts) (σ' : St) (H' : Hp) : Prop where
  sub : ∀ a, L a → L' a
  cell : ∀ a o, L a → H a = some o → H' a = some o
  stb : Stb H H'
  keep : KeepF ms ts Γ Γ' σ σ'
theorem Ev.trans {ms : List Md} {ts : List Ty} {L L1 L2 : Reg} {Γ Γ1 Γ2 : Gam ts} {σ σ1 σ2 : St} {H H1 H2 : Hp} (a : Ev ms ts L Γ σ H L1 Γ1 σ1 H1) (b : Ev ms ts L1 Γ1 σ1 H1 L2 Γ2 σ2 H2) : Ev ms ts L Γ σ H L2 Γ2 σ2 H2 :=
  ⟨fun c h => b.sub c (a.sub c h), fun c o h e => b.cell c o (a.sub c h) (a.cell c o h e), a.stb.trans b.stb, a.keep.trans b.keep⟩
theorem Ev.same {ms : List Md} {ts : List Ty} {L : Reg} {Γ : Gam ts} {σ : St} {H H' : Hp} (s : Same H H') : Ev ms ts L Γ σ H L Γ σ H' :=
  ⟨fun _ h => h, fun _ _ _ e => s _ _ e, Stb.of_same s, KeepF.refl⟩
inductive Rm where
  | o | l | w
  | x (W : WX) (m : Rm)
def Rm.tag : Rm → Nat
  | .o => 0
  | .l => 1
  | .w => 2
  | .x _ m => m.tag
instance : BEq Rm := ⟨fun a b => a.tag == b.tag⟩
def Rm.plain : Rm → Bool
  | .x _ _ => false
  | _ => true
abbrev excT (ρ : Ty) : Ty := .cons .str (.last (.opt ρ))
section
variable (K : KW) (E : Ent)
def RRep0 (L : Reg) (H' : Hp) : Rm → (ρ : Ty) → V → den ρ → List Addr → Prop
  | .x _ _, _, _, _, _ => False
  | .o, ρ, v, d, xt => (rO K H' L ρ).1 v d xt
  | .l, ρ, v, d, xt => xt = [] ∧ (rS K H' L ρ).1 v d
  | .w, ρ, v, d, xt => xt = [] ∧ (rS K H' (fun a => E.S0 a ∨ L a) ρ).1 v d
def RRep (L : Reg) (H' : Hp) : Rm → (ρ : Ty) → V → den ρ → List Addr → Prop
  | .x _ m, .cons .str (.last (.opt t)), v, d, xt => (match d.2 with
    | none => xt = []
    | some r => RRep0 K E L H' m t v r xt)
  | m, ρ, v, d, xt => RRep0 K E L H' m ρ v d xt
def wN (W : WX) (nm : Str) (σ : St) (H : Hp) : Prop := ∀ C, ClsN K nm C → W (.ref C) none σ H
def RDel : Rm → (ρ : Ty) → den ρ → VK → V → St → Hp → Prop
  | .x W _, .cons .str (.last (.opt _)), d, Q, v, σ, H => (match d.2 with
    | none => wN K W d.1 σ H
    | some _ => Q v H)
  | _, _, _, Q, v, _, H => Q v H
theorem RDel_plain {rm : Rm} (h : rm.plain = true) {ρ : Ty} {d : den ρ} {Q : VK} {v : V} {σ : St} {H : Hp} : RDel K rm ρ d Q v σ H ↔ Q v H := by
  cases rm <;> first | exact Iff.rfl | cases h
theorem RRep0.chg {E' : Ent} {L : Reg} {H : Hp} {rm : Rm} {ρ : Ty} {v : V} {d : den ρ} {xt : List Addr} (hr : (rm != .w || ρ.frz) = true) (r : RRep0 K E L H rm ρ v d xt) : RRep0 K E' L H rm ρ v d xt := by
  cases rm with
  | o => exact r
  | l => exact r
  | w =>
    have hf : ρ.frz = true := hr
    exact ⟨r.1, (rS_frz ρ hf).1 v d r.2⟩
  | x W m => exact r.elim
theorem RRep.chg {E' : Ent} {L : Reg} {H : Hp} {rm : Rm} {ρ : Ty} {v : V} {d : den ρ} {xt : List Addr} (hr : (rm != .w || ρ.frz) = true) (r : RRep K E L H rm ρ v d xt) : RRep K E' L H rm ρ v d xt := by
  cases rm with
  | o => exact r
  | l => exact r
  | w =>
    have hf : ρ.frz = true := hr
    exact ⟨r.1, (rS_frz ρ hf).1 v d r.2⟩
  | x W m =>
    unfold RRep at r ⊢
    split at r
    · rename_i t q
      cases q
      split at r
      · exact r
      · exact RRep0.chg K E hr r
    · exact r.elim
def Post (ms : List Md) (ts : List Ty) (rm : Rm) (ρ : Ty) (L : Reg) (Γ : Gam ts) (σ : St) (H : Hp) (D : Ends) : Fl (Gam ts) (den ρ) → Prop
  | .nx Γ' => ∀ L' σ' H', Own K E L' ms ts Γ' σ' H' [] → Ev ms ts L Γ σ H L' Γ' σ' H' → D.nx σ' H'
  | .bk Γ' => ∀ L' σ' H', Own K E L' ms ts Γ' σ' H' [] → Ev ms ts L Γ σ H L' Γ' σ' H' → D.bk σ' H'
  | .ct Γ' => ∀ L' σ' H', Own K E L' ms ts Γ' σ' H' [] → Ev ms ts L Γ σ H L' Γ' σ' H' → D.ct σ' H'
  | .rt d Γ' => ∀ L' σ' H' v xt, Own K E L' ms ts Γ' σ' H' xt → Ev ms ts L Γ σ H L' Γ' σ' H' → RRep K E L' H' rm ρ v d xt → RDel K rm ρ d D.rt v σ' H'
end
def RS (K : KW) (ms : List Md) (ts : List Ty) (st : TS) (rm : Rm) (ρ : Ty) (F : Gam ts → Option (Fl (Gam ts) (den ρ))) : Prop :=
  ∀ (E : Ent) (L : Reg) (Γ : Gam ts) (σ : St) (H : Hp) (D : Ends) (f : Fl (Gam ts) (den ρ)), Own K E L ms ts Γ σ H [] → F Γ = some f → Post K E ms ts rm ρ L Γ σ H D f → st D σ H
def RE (K : KW) (ms : List Md) (ts : List Ty) (te : TE) (m : Em) (t : Ty) (F : Gam ts → Option (den t × Gam ts)) : Prop :=
  ∀ (E : Ent) (L : Reg) (Γ : Gam ts) (σ : St) (H : Hp) (Q : VK) (d : den t) (Γ' : Gam ts), Own K E L ms ts Γ σ H [] → F Γ = some (d, Γ') →
    (∀ v L' H' xt, Own K E L' ms ts Γ' σ H' xt → Ev ms ts L Γ σ H L' Γ' σ H' → (match m with
      | .o => (rO K H' L' t).1 v d xt
      | .l => xt = [] ∧ (rS K H' L' t).1 v d
      | .w => xt = [] ∧ (rS K H' (fun a => E.S0 a ∨ L' a) t).1 v d
      | .b => xt = [] ∧ (rS K H' (fun _ => True) t).1 v d) → Q v H') → te σ H Q
end VV
namespace VV
open PySem L2
def eC {G α : Type} (d : α) : G → Option α := fun _ => some d
def eV {ts : List Ty} {t : Ty} (i : Mem ts t) : Gam ts → Option (den t) := fun Γ => i.get Γ
def e1 {G α β : Type} (f : α → Option β) (Fa : G → Option α) : G → Option β := fun Γ => (Fa Γ).bind f
def e2 {G α β γ : Type} (f : α → β → Option γ) (Fa : G → Option α) (Fb : G → Option β) : G → Option γ := fun Γ => (Fa Γ).bind fun a => (Fb Γ).bind fun b => f a b
def e3 {G α β γ δ : Type} (f : α → β → γ → Option δ) (Fa : G → Option α) (Fb : G → Option β) (Fc : G → Option γ) : G → Option δ := fun Γ => (Fa Γ).bind fun a => (Fb Γ).bind fun b => (Fc Γ).bind fun c => f a b c
def eIf {G α : Type} (Fc : G → Option Bool) (Fa Fb : G → Option α) : G → Option α := fun Γ => (Fc Γ).bind fun c => if c = true then Fa Γ else Fb Γ
def eAnd {G : Type} (Fa Fb : G → Option Bool) : G → Option Bool := fun Γ => (Fa Γ).bind fun c => if c = true then Fb Γ else some false
def eOr {G : Type} (Fa Fb : G → Option Bool) : G → Option Bool := fun Γ => (Fa Γ).bind fun c => if c = true then some true else Fb Γ
def eNot {G : Type} (Fa : G → Option Bool) : G → Option Bool := fun Γ => (Fa Γ).bind fun c => some (!c)
def eCons {G α β : Type} (Fa : G → Option α) (Fb : G → Option β) : G → Option (α × β) := fun Γ => (Fa Γ).bind fun a => (Fb Γ).bind fun b => some (a, b)
def eNil {G α : Type} : G → Option (List α) := fun _ => some []
def eSnoc {G α : Type} (Fa : G → Option α) (Fb : G → Option (List α)) : G → Option (List α) := fun Γ => (Fa Γ).bind fun a => (Fb Γ).bind fun b => some (a :: b)
def okIf {α : Type} (c : Bool) (a : α) : Option α := if c then some a else none
section
variable {K : KW} {ms : List Md} {ts : List Ty} {E : Ent} {L : Reg} {Γ : Gam ts} {σ : St} {H H' : Hp} {xt : List Addr}
theorem bind_some {α β : Type} {x : Option α} {f : α → Option β} {b : β} (h : x.bind f = some b) : ∃ a, x = some a ∧ f a = some b := by
  cases x with
  | none => cases h
  | some a => exact ⟨a, rfl, h⟩
theorem rp_le {te : TE} {m m' : Em} {t : Ty} {F : Gam ts → Option (den t)} (h : RP K ms ts te m t F) (hl : m.le m' = true := by rfl) : RP K ms ts te m' t F :=
  fun E L Γ σ H xt Q d o e q => h E L Γ σ H xt Q d o e fun v H' s r => q v H' s (r.le hl)
theorem rp_frz {te : TE} {m : Em} (m' : Em) {t : Ty} {F : Gam ts → Option (den t)} (h : RP K ms ts te m t F) (hf : t.frz = true := by rfl) : RP K ms ts te m' t F :=
  fun E L Γ σ H xt Q d o e q => h E L Γ σ H xt Q d o e fun v H' s r => q v H' s (Rep.frz hf m' (r.le (m' := .b) (by cases m <;> rfl)))
theorem Rep.b {m : Em} {t : Ty} {v : V} {d : den t} {H1 : Hp} (r : Rep K E L H H1 m t v d) : (rS K H1 (fun _ => True) t).1 v d := r.le (m' := .b) (by cases m <;> rfl)
theorem Own.look {t : Ty} (i : Mem ts t) {m : Md} {d : den t} (o : Own K E L ms ts Γ σ H xt) (hm : ms[i.ix]? = some m) (hd : i.get Γ = some d) : ∃ v f, σ[i.ix]? = some (some v) ∧ repM K H E.S0 L m t v d f ∧ ∀ a ∈ f, Good E L H a := by
  obtain ⟨s, f, e1, e2, _, e4, _⟩ := o.focus i hm
  rw [hd] at e2
  obtain ⟨v, rfl, r⟩ := e2
  exact ⟨v, f, e1, r, fun a ha => (e4 a ha).1⟩
theorem repM_b {m : Md} {t : Ty} {v : V} {d : den t} {f : List Addr} {S0 : Reg} (h : repM K H S0 L m t v d f) : (rS K H (fun _ => True) t).1 v d := by
  cases m with
  | o => exact (rO_s (fun _ _ => True.intro) t).1 v d f (fun _ _ => True.intro) h
  | k => exact (rO_s (fun _ _ => True.intro) t).1 v d f (fun _ _ => True.intro) h
  | r => exact (rO_s (fun _ _ => True.intro) t).1 v d f (fun _ _ => True.intro) h
  | l => exact (rS_mono (Cov.of_reg fun _ _ _ => True.intro) (Stb.refl H) t).1 v d h.2
  | w => exact (rS_mono (Cov.of_reg fun _ _ _ => True.intro) (Stb.refl H) t).1 v d h.2
  | f => exact (rS_mono (Cov.of_reg fun _ _ _ => True.intro) (Stb.refl H) t).1 v d h.2
theorem rp_var {t : Ty} (i : Mem ts t) {n : Nat} {m : Md} (hm : ms[i.ix]? = some m := by rfl) (hn : i.ix = n := by rfl) : RP K ms ts (tVar n) .b t (eV i) := fun E L Γ σ H xt Q d o e q => by
  subst hn
  obtain ⟨v, f, h1, h2, _⟩ := o.look i hm e
  exact ⟨v, h1, q v H (Same.refl H) (repM_b h2)⟩
theorem rp_varw {t : Ty} (i : Mem ts t) {n : Nat} {m : Md} (hm : ms[i.ix]? = some m := by rfl) (hk : (m == .w || m == .f || m == .l) = true := by rfl) (hn : i.ix = n := by rfl) : RP K ms ts (tVar n) .w t (eV i) := fun E L Γ σ H xt Q d o e q => by
  subst hn
  obtain ⟨v, f, h1, h2, _⟩ := o.look i hm e
  have wk : ∀ {R : Reg}, (∀ a, R a → E.S0 a ∨ L a) → (rS K H R t).1 v d → Rep K E L H H .w t v d := fun hR r =>
    ⟨fun _ => False, (rS_mono (Cov.of_reg fun a h _ => (hR a h).elim .inl fun z => .inr (.inl z)) (Stb.refl H) t).1 v d r, fun _ h => h.elim⟩
  refine ⟨v, h1, q v H (Same.refl H) ?_⟩
  cases m with
  | o => exact absurd hk (by decide)
  | k => exact absurd hk (by decide)
  | r => exact absurd hk (by decide)
  | l => exact wk (fun a h => .inr h) h2.2
  | w => exact wk (fun a h => h) h2.2
  | f => exact wk (fun a h => h) h2.2
theorem rp_varl {t : Ty} (i : Mem ts t) {n : Nat} (hm : ms[i.ix]? = some .l := by rfl) (hn : i.ix = n := by rfl) : RP K ms ts (tVar n) .l t (eV i) := fun E L Γ σ H xt Q d o e q => by
  subst hn
  obtain ⟨v, f, h1, h2, _⟩ := o.look i hm e
  exact ⟨v, h1, q v H (Same.refl H) ⟨fun _ => False, (rS_mono (Cov.of_reg fun a h _ => .inl h) (Stb.refl H) t).1 v d h2.2, fun _ h => h.elim⟩⟩
theorem rep_atom {m : Em} {t : Ty} {v : V} {d : den t} (hf : t.frz = true) (h : (rS K H' (fun _ => True) t).1 v d) : Rep K E L H H' m t v d := Rep.frz hf m h
theorem rp_const {m : Em} {t : Ty} {v : V} {d : den t} (hf : t.frz = true) (h : ∀ H, (rS K H (fun _ => True) t).1 v d) : RP K ms ts (tC v) m t (eC d) := fun E L Γ σ H xt Q d' o e q => by
  cases e
  exact q v H (Same.refl H) (rep_atom hf (h H))
theorem rp_int {m : Em} {i : Int} : RP K ms ts (tC (.int i)) m .int (eC i) := rp_const rfl fun _ => rfl
theorem rp_bool {m : Em} {b : Bool} : RP K ms ts (tC (.bl b)) m .bool (eC b) := rp_const rfl fun _ => rfl
theorem rp_str {m : Em} {x : Str} (h : PyData.strOk x = true := by decide +kernel) : RP K ms ts (tC (.str x)) m .str (eC x) := rp_const rfl fun _ => ⟨rfl, h⟩
def Ty.solid : Ty → Bool
  | .alt _ _ => false
  | .non => false
  | .any => false
  | .opt _ => false
  | .own _ => false
  | _ => true
theorem rS_solid {R : Reg} {t : Ty} (h : t.solid = true) {v : V} {d : den t} (r : (rS K H R t).1 v d) : v ≠ .non := by
  cases t with
  | bool => rintro rfl; cases r
  | int => rintro rfl; cases r
  | str => rintro rfl; cases r.1
  | exn => obtain ⟨a, C, rfl, _⟩ := r; exact fun z => by cases z
  | vtup t => obtain ⟨a, _, rfl, _⟩ := r; exact fun z => by cases z
  | list t => obtain ⟨a, _, rfl, _⟩ := r; exact fun z => by cases z
  | hl b => obtain ⟨a, _, rfl, _⟩ := r; exact fun z => by cases z
  | ins C ks b => obtain ⟨a, rfl⟩ := r; exact fun z => by cases z
  | dict k t => obtain ⟨a, rfl, _⟩ := r; exact fun z => by cases z
  | tup b => obtain ⟨a, _, rfl, _⟩ := r; exact fun z => by cases z
  | last a => exact r.elim
  | cons a b => exact r.elim
  | _ => cases h
theorem rp_some {te : TE} {m : Em} {t : Ty} {F : Gam ts → Option (den t)} (h : RP K ms ts te m t F) (hs : t.solid = true := by rfl) : RP K ms ts te m (.opt t) (e1 (fun d => some (some d)) F) := fun E L Γ σ H xt Q d o e q => by
  obtain ⟨d', e1, e2⟩ := bind_some e
  cases e2
  refine h E L Γ σ H xt Q d' o e1 fun v H' s r => q v H' s ?_
  have ne : v ≠ .non := rS_solid hs r.b
  cases m with
  | o =>
    obtain ⟨f, Lr, h1, h2, h3⟩ := r
    exact ⟨f, Lr, ⟨ne, .inl h1⟩, h2, h3⟩
  | l =>
    obtain ⟨Lr, h1, h2⟩ := r
    exact ⟨Lr, ⟨ne, h1⟩, h2⟩
  | w =>
    obtain ⟨Lr, h1, h2⟩ := r
    exact ⟨Lr, ⟨ne, h1⟩, h2⟩
  | b => exact ⟨ne, r⟩
def V2 (K : KW) (r : R2) (m : Em) (t1 t2 t : Ty) (f : den t1 → den t2 → Option (den t)) : Prop :=
  ∀ (E : Ent) (L : Reg) (H : Hp) (v w : V) (a : den t1) (b : den t2) (c : den t) (Q : VK), (rS K H (fun _ => True) t1).1 v a → (rS K H (fun _ => True) t2).1 w b → f a b = some c → (∀ v' H', Same H H' → Rep K E L H H' m t v' c → Q v' H') → r v w H Q
theorem rp_op {r : R2} {m m1 m2 : Em} {t1 t2 t : Ty} {f : den t1 → den t2 → Option (den t)} {ta tb : TE} {Fa : Gam ts → Option (den t1)} {Fb : Gam ts → Option (den t2)} (hv : V2 K r m t1 t2 t f) (ha : RP K ms ts ta m1 t1 Fa) (hb : RP K ms ts tb m2 t2 Fb) :
    RP K ms ts (tOp r ta tb) m t (e2 f Fa Fb) := fun E L Γ σ H xt Q d o e q => by
  obtain ⟨a, ea, e⟩ := bind_some e
  obtain ⟨b, eb, e⟩ := bind_some e
  refine ha E L Γ σ H xt _ a o ea fun v H1 s1 r1 => ?_
  refine hb E L Γ σ H1 xt _ b (o.same s1) eb fun w H2 s2 r2 => ?_
  refine hv E L H2 v w a b d Q ((rS_mono (Cov.of_same s2 fun _ h _ => h) (Stb.of_same s2) t1).1 v a r1.b) r2.b e fun v' H3 s3 r3 => ?_
  exact q v' H3 ((s1.trans s2).trans s3) (r3.older (s1.trans s2))
theorem v2_I0 {m : Em} {g : Int → Int → Int} : V2 K (rI0 fun i j => .int (g i j)) m .int .int .int (fun a b => some (g a b)) := fun E L H v w a b c Q ra rb e q => by
  cases e
  exact ⟨a, b, ra, rb, q _ H (Same.refl H) (rep_atom rfl rfl)⟩
theorem v2_I {m : Em} {C : Int → Int → Prop} {k : Int → Int → Bool} (hk : ∀ i j, k i j = true → C i j) {g : Int → Int → Int} : V2 K (rI C fun i j => .int (g i j)) m .int .int .int (fun a b => okIf (k a b) (g a b)) := fun E L H v w a b c Q ra rb e q => by
  dsimp only [okIf] at e
  split at e
  · rename_i h
    cases e
    exact ⟨a, b, ra, rb, hk a b h, q _ H (Same.refl H) (rep_atom rfl rfl)⟩
  · cases e
theorem v2_B0 {m : Em} {g : Int → Int → Bool} : V2 K (rI0 fun i j => .bl (g i j)) m .int .int .bool (fun a b => some (g a b)) := fun E L H v w a b c Q ra rb e q => by
  cases e
  exact ⟨a, b, ra, rb, q _ H (Same.refl H) (rep_atom rfl rfl)⟩
abbrev fAdd (a b : Int) : Option Int := some (a + b)
abbrev fSub (a b : Int) : Option Int := some (a - b)
def mulOk (a b : Int) : Bool := decide (a.natAbs.log2 + b.natAbs.log2 < 1000000)
def divOk (b : Int) : Bool := decide (0 < b ∧ b.natAbs.log2 < 9000)
abbrev fMul (a b : Int) : Option Int := okIf (mulOk a b) (a * b)
abbrev fDiv (a b : Int) : Option Int := okIf (divOk b) (a / b)
abbrev fMod (a b : Int) : Option Int := okIf (decide (0 < b)) (a % b)
def powOk (a b : Int) : Bool := decide (0 ≤ b ∧ b ≤ 1000000 ∧ a.natAbs < 2 ^ 64)
abbrev fPow (a b : Int) : Option Int := okIf (powOk a b) (a ^ b.toNat)
theorem v_add {m : Em} : V2 K (rI0 fun i j => .int (i + j)) m .int .int .int fAdd := v2_I0
theorem v_sub {m : Em} : V2 K (rI0 fun i j => .int (i - j)) m .int .int .int fSub := v2_I0
theorem v_mul {m : Em} : V2 K (rI CMulW fun i j => .int (i * j)) m .int .int .int fMul := v2_I fun i j h => by have h := of_decide_eq_true h; exact h
theorem v_div {m : Em} : V2 K (rI CDivW fun i j => .int (i / j)) m .int .int .int fDiv := v2_I (k := fun _ b => divOk b) fun i j h => by have h := of_decide_eq_true h; exact h
theorem v_mod {m : Em} : V2 K (rI (fun _ j => 0 < j) fun i j => .int (i % j)) m .int .int .int fMod := v2_I (k := fun _ b => decide (0 < b)) fun i j h => of_decide_eq_true h
theorem v_pow {m : Em} : V2 K (rI CPow fun i j => .int (i ^ j.toNat)) m .int .int .int fPow := v2_I fun i j h => by have h := of_decide_eq_true h; exact h
abbrev fLt (a b : Int) : Option Bool := some (decide (a < b))
abbrev fLe (a b : Int) : Option Bool := some (decide (a ≤ b))
abbrev fGt (a b : Int) : Option Bool := some (decide (b < a))
abbrev fGe (a b : Int) : Option Bool := some (decide (b ≤ a))
theorem v_lt {m : Em} : V2 K (rI0 fun i j => .bl (decide (i < j))) m .int .int .bool fLt := v2_B0
theorem v_gt {m : Em} : V2 K (rI0 fun i j => .bl (decide (j < i))) m .int .int .bool fGt := v2_B0
theorem v_ge {m : Em} : V2 K (rI0 fun i j => .bl (decide (j ≤ i))) m .int .int .bool fGe := v2_B0
abbrev fEqI (a b : Int) : Option Bool := some (decide (a = b))
abbrev fNeI (a b : Int) : Option Bool := some (!decide (a = b))
abbrev fEqS (a b : Str) : Option Bool := some (decide (a = b))
abbrev fNeS (a b : Str) : Option Bool := some (!decide (a = b))
abbrev fEqB (a b : Bool) : Option Bool := some (decide (a = b))
abbrev fNeB (a b : Bool) : Option Bool := some (!decide (a = b))
theorem v_eqI {m : Em} : V2 K rEq m .int .int .bool fEqI := fun E L H v w a b c Q ra rb e q => by
  cases e; cases ra; cases rb
  refine ⟨rfl, q _ H (Same.refl H) (rep_atom rfl ?_)⟩
  show V.bl _ = V.bl _
  simp
theorem v_eqS {m : Em} : V2 K rEq m .str .str .bool fEqS := fun E L H v w a b c Q ra rb e q => by
  obtain ⟨rfl, _⟩ := ra; obtain ⟨rfl, _⟩ := rb; cases e
  refine ⟨rfl, q _ H (Same.refl H) (rep_atom rfl ?_)⟩
  show V.bl _ = V.bl _
  simp
theorem v_neS {m : Em} : V2 K rNe m .str .str .bool fNeS := fun E L H v w a b c Q ra rb e q => by
  obtain ⟨rfl, _⟩ := ra; obtain ⟨rfl, _⟩ := rb; cases e
  refine ⟨rfl, q _ H (Same.refl H) (rep_atom rfl ?_)⟩
  show V.bl _ = V.bl _
  simp
theorem v_neB {m : Em} : V2 K rNe m .bool .bool .bool fNeB := fun E L H v w a b c Q ra rb e q => by
  cases e; cases ra; cases rb
  refine ⟨rfl, q _ H (Same.refl H) (rep_atom rfl ?_)⟩
  show V.bl _ = V.bl _
  simp
def lenOk (n : Nat) : Bool := decide (n ≤ sizeLine)
def fCat (a b : Str) : Option Str := okIf (lenOk (a.length + b.length)) (a ++ b)
theorem strOk_append {a b : Str} (h : PyData.strOk a = true) (h' : PyData.strOk b = true) : PyData.strOk (a ++ b) = true := by
  unfold PyData.strOk at *
  show (a.cps ++ b.cps).all _ = true
  rw [Array.all_append, h, h']
  rfl
theorem v_cat {m : Em} : V2 K (fun x y H Q => ∃ i j, x = .str i ∧ y = .str j ∧ i.length + j.length ≤ sizeLine ∧ Q (.str (i ++ j)) H) m .str .str .str fCat := fun E L H v w a b c Q ra rb e q => by
  unfold fCat okIf at e
  split at e
  · rename_i h
    cases e
    exact ⟨a, b, ra.1, rb.1, of_decide_eq_true h, q _ H (Same.refl H) (rep_atom rfl ⟨rfl, strOk_append ra.2 rb.2⟩)⟩
  · cases e
def fInS (a b : Str) : Option Bool := some (!(Builtin.Str.occurrences b a 0 b.length 1).isEmpty)
theorem v_inS {m : Em} : V2 K (fun x y H Q => ∃ i j, x = .str i ∧ y = .str j ∧ Q (.bl (!(Builtin.Str.occurrences j i 0 j.length 1).isEmpty)) H) m .str .str .bool fInS := fun E L H v w a b c Q ra rb e q => by
  cases e
  exact ⟨a, b, ra.1, rb.1, q _ H (Same.refl H) (rep_atom rfl rfl)⟩
theorem rp_neg {m m1 : Em} {ta : TE} {Fa : Gam ts → Option Int} (ha : RP K ms ts ta m1 .int Fa) : RP K ms ts (tUn (rU fun i => .int (-i)) ta) m .int (e1 (fun a => some (-a)) Fa) := fun E L Γ σ H xt Q d o e q => by
  obtain ⟨a, ea, e⟩ := bind_some e
  cases e
  exact ha E L Γ σ H xt _ a o ea fun v H1 s1 r1 => ⟨a, r1.b, q _ H1 s1 (rep_atom rfl rfl)⟩
theorem rt_val {te : TE} {m : Em} {F : Gam ts → Option Bool} (h : RP K ms ts te m .bool F) : RT K ms ts (tB te) F := fun E L Γ σ H xt Q c o e q => h E L Γ σ H xt _ c o e fun v H' s r => ⟨c, r.b, q H' s⟩
theorem rt_test {te : TE} {m : Em} {F : Gam ts → Option Bool} (h : RP K ms ts te m .bool F) : RT K ms ts (tTest te) F := rt_val h
theorem rt_and {ta tb : TT} {Fa Fb : Gam ts → Option Bool} (ha : RT K ms ts ta Fa) (hb : RT K ms ts tb Fb) : RT K ms ts (tAnd ta tb) (eAnd Fa Fb) := fun E L Γ σ H xt Q c o e q => by
  obtain ⟨a, ea, e⟩ := bind_some e
  refine ha E L Γ σ H xt _ a o ea fun H1 s1 => ?_
  cases a with
  | true =>
    rw [if_pos rfl] at e ⊢
    exact hb E L Γ σ H1 xt _ c (o.same s1) e fun H2 s2 => q H2 (s1.trans s2)
  | false =>
    rw [if_neg Bool.false_ne_true] at e ⊢
    cases e
    exact q H1 s1
theorem rt_or {ta tb : TT} {Fa Fb : Gam ts → Option Bool} (ha : RT K ms ts ta Fa) (hb : RT K ms ts tb Fb) : RT K ms ts (tOr ta tb) (eOr Fa Fb) := fun E L Γ σ H xt Q c o e q => by
  obtain ⟨a, ea, e⟩ := bind_some e
  refine ha E L Γ σ H xt _ a o ea fun H1 s1 => ?_
  cases a with
  | true =>
    rw [if_pos rfl] at e ⊢
    cases e
    exact q H1 s1
  | false =>
    rw [if_neg Bool.false_ne_true] at e ⊢
    exact hb E L Γ σ H1 xt _ c (o.same s1) e fun H2 s2 => q H2 (s1.trans s2)
theorem rt_not {ta : TT} {Fa : Gam ts → Option Bool} (ha : RT K ms ts ta Fa) : RT K ms ts (tNot ta) (eNot Fa) := fun E L Γ σ H xt Q c o e q => by
  obtain ⟨a, ea, e⟩ := bind_some e
  cases e
  exact ha E L Γ σ H xt _ a o ea fun H1 s1 => q H1 s1
theorem rp_and {m m1 m2 : Em} {ta tb : TE} {Fa Fb : Gam ts → Option Bool} (ha : RP K ms ts ta m1 .bool Fa) (hb : RP K ms ts tb m2 .bool Fb) : RP K ms ts (tAndV ta tb) m .bool (eAnd Fa Fb) := fun E L Γ σ H xt Q c o e q => by
  obtain ⟨a, ea, e⟩ := bind_some e
  refine ha E L Γ σ H xt _ a o ea fun v H1 s1 r1 => ⟨a, r1.b, ?_⟩
  cases a with
  | true =>
    rw [if_pos rfl] at e ⊢
    exact hb E L Γ σ H1 xt _ c (o.same s1) e fun w H2 s2 r2 => q w H2 (s1.trans s2) (rep_atom rfl r2.b)
  | false =>
    rw [if_neg Bool.false_ne_true] at e ⊢
    cases e
    exact q _ H1 s1 (rep_atom rfl rfl)
theorem rp_or {m m1 m2 : Em} {ta tb : TE} {Fa Fb : Gam ts → Option Bool} (ha : RP K ms ts ta m1 .bool Fa) (hb : RP K ms ts tb m2 .bool Fb) : RP K ms ts (tOrV ta tb) m .bool (eOr Fa Fb) := fun E L Γ σ H xt Q c o e q => by
  obtain ⟨a, ea, e⟩ := bind_some e
  refine ha E L Γ σ H xt _ a o ea fun v H1 s1 r1 => ⟨a, r1.b, ?_⟩
  cases a with
  | true =>
    rw [if_pos rfl] at e ⊢
    cases e
    exact q _ H1 s1 (rep_atom rfl rfl)
  | false =>
    rw [if_neg Bool.false_ne_true] at e ⊢
    exact hb E L Γ σ H1 xt _ c (o.same s1) e fun w H2 s2 r2 => q w H2 (s1.trans s2) (rep_atom rfl r2.b)
theorem rp_not {m m1 : Em} {ta : TE} {Fa : Gam ts → Option Bool} (ha : RP K ms ts ta m1 .bool Fa) : RP K ms ts (tNotV ta) m .bool (eNot Fa) := fun E L Γ σ H xt Q c o e q => by
  obtain ⟨a, ea, e⟩ := bind_some e
  cases e
  exact ha E L Γ σ H xt _ a o ea fun v H1 s1 r1 => ⟨a, r1.b, q _ H1 s1 (rep_atom rfl rfl)⟩
theorem ra_one {m : Em} {t : Ty} {te : TE} {F : Gam ts → Option (den t)} (h : RP K ms ts te m t F) : RA K ms ts (tCons te tNil) m (.last t) F := fun E L Γ σ H xt Q d o e q => by
  refine h E L Γ σ H xt _ d o e fun v H' s r => q [v] H' s ?_
  cases m with
  | o =>
    obtain ⟨f, Lr, h1, h2⟩ := r
    exact ⟨f, Lr, ⟨v, rfl, .inl h1⟩, h2⟩
  | l =>
    obtain ⟨Lr, h1, h2⟩ := r
    exact ⟨Lr, ⟨v, rfl, h1⟩, h2⟩
  | w =>
    obtain ⟨Lr, h1, h2⟩ := r
    exact ⟨Lr, ⟨v, rfl, h1⟩, h2⟩
  | b => exact ⟨v, rfl, r⟩
theorem ra_cons {m : Em} {t b : Ty} {te : TE} {ta : TA} {F : Gam ts → Option (den t)} {G : Gam ts → Option (den b)} (h : RP K ms ts te m t F) (hr : RA K ms ts ta m b G) : RA K ms ts (tCons te ta) m (.cons t b) (eCons F G) := fun E L Γ σ H xt Q d o e q => by
  obtain ⟨a, ea, e⟩ := bind_some e
  obtain ⟨r, er, e⟩ := bind_some e
  cases e
  refine h E L Γ σ H xt _ a o ea fun v H1 s1 r1 => hr E L Γ σ H1 xt _ r (o.same s1) er fun vs H2 s2 r2 => q (v :: vs) H2 (s1.trans s2) ?_
  have nwo : ∀ {R : Reg}, Nw H1 H2 R → Nw H H2 R := fun {R} h a ha => ⟨s1.free (h a ha).1, (h a ha).2⟩
  have nwe : ∀ {R : Reg}, Nw H H1 R → Nw H H2 R := fun {R} h a ha => ⟨(h a ha).1, by rw [same_at s2 (h a ha).2]; exact (h a ha).2⟩
  have apart : ∀ {R R' : Reg}, Nw H H1 R → Nw H1 H2 R' → ∀ a, R a → ¬ R' a := fun {R R'} h h' a ha hb => by
    have := (h a ha).2
    rw [(h' a hb).1] at this
    cases this
  cases m with
  | o =>
    obtain ⟨f, Lr, h1, h2, h3, h4, h5⟩ := r1
    obtain ⟨g, Ls, k1, k2, k3, k4, k5⟩ := r2
    have e1 : (rO K H2 (fun a => L a ∨ (Lr a ∨ Ls a)) t).1 v a f := (rO_mono (Cov.of_same s2 fun a h _ => h.elim .inl fun z => .inr (.inl z)) (Stb.of_same s2) t).1 v a f (fun a ha => same_at s2 (h3 a ha).2) h1
    have e2 : (rO K H2 (fun a => L a ∨ (Lr a ∨ Ls a)) b).2 vs r g := (rO_mono (Cov.of_reg fun a h _ => h.elim .inl fun z => .inr (.inr z)) (Stb.refl _) b).2 vs r g (fun _ _ => rfl) k1
    refine ⟨f ++ g, fun a => Lr a ∨ Ls a, ⟨v, vs, f, g, rfl, rfl, .inl e1, e2⟩, List.nodup_append.mpr ⟨h2, k2, fun a ha b hb z => ?_⟩, fun a ha => ?_, fun a ha => ?_, fun a ha => ?_⟩
    · subst z
      exact apart h3 k3 a ha hb
    · rcases List.mem_append.mp ha with z | z
      · exact nwe h3 a z
      · exact nwo k3 a z
    · rcases ha with z | z
      · exact nwe h4 a z
      · exact nwo k4 a z
    · rcases List.mem_append.mp ha with z | z
      · exact fun y => y.elim (h5 a z) (apart h3 k4 a z)
      · exact fun y => y.elim (fun y => apart h4 k3 a y z) (k5 a z)
  | l =>
    obtain ⟨Lr, h1, h2⟩ := r1
    obtain ⟨Ls, k1, k2⟩ := r2
    refine ⟨fun a => Lr a ∨ Ls a, ⟨v, vs, rfl, (rS_mono (Cov.of_same s2 fun a h _ => h.elim .inl fun z => .inr (.inl z)) (Stb.of_same s2) t).1 v a h1, (rS_mono (Cov.of_reg fun a h _ => h.elim .inl fun z => .inr (.inr z)) (Stb.refl _) b).2 vs r k1⟩, fun a ha => ?_⟩
    rcases ha with z | z
    · exact nwe h2 a z
    · exact nwo k2 a z
  | w =>
    obtain ⟨Lr, h1, h2⟩ := r1
    obtain ⟨Ls, k1, k2⟩ := r2
    refine ⟨fun a => Lr a ∨ Ls a, ⟨v, vs, rfl, (rS_mono (Cov.of_same s2 fun a h _ => h.elim .inl fun z => z.elim (fun z => .inr (.inl z)) fun z => .inr (.inr (.inl z))) (Stb.of_same s2) t).1 v a h1,
      (rS_mono (Cov.of_reg fun a h _ => h.elim .inl fun z => z.elim (fun z => .inr (.inl z)) fun z => .inr (.inr (.inr z))) (Stb.refl _) b).2 vs r k1⟩, fun a ha => ?_⟩
    rcases ha with z | z
    · exact nwe h2 a z
    · exact nwo k2 a z
  | b => exact ⟨v, vs, rfl, (rS_mono (Cov.of_same s2 fun a h _ => h) (Stb.of_same s2) t).1 v a r1, r2⟩
def rowLen : Ty → Nat
  | .last _ => 1
  | .cons _ b => rowLen b + 1
  | .own t => rowLen t
  | _ => 0
theorem row_length {R : Reg} : ∀ (b : Ty) (vs : List V) (d : den b), (rS K H R b).2 vs d → vs.length = rowLen b
  | .last a, _, _, h => by obtain ⟨v, rfl, _⟩ := h; rfl
  | .cons a b, _, _, h => by
    obtain ⟨v, r, rfl, _, h2⟩ := h
    have := row_length b r _ h2
    simp [rowLen, this]
  | .non, _, _, h => h.elim
  | .bool, _, _, h => h.elim
  | .int, _, _, h => h.elim
  | .str, _, _, h => h.elim
  | .any, _, _, h => h.elim
  | .alt _ _, _, _, h => h.elim
  | .exn, _, _, h => h.elim
  | .opt _, _, _, h => h.elim
  | .vtup _, _, _, h => h.elim
  | .list _, _, _, h => h.elim
  | .dict _ _, _, _, h => h.elim
  | .own t, vs, d, h => row_length t vs d h
  | .hl _, _, _, h => h.elim
  | .ins _ _ _, _, _, h => h.elim
  | .tup _, _, _, h => h.elim
end
end VV
namespace VV
open PySem L2
noncomputable def hide {α : Type} (a : α) : α := Classical.choose (⟨a, rfl⟩ : ∃ b, b = a)
theorem hide_eq {α : Type} (a : α) : hide a = a := Classical.choose_spec (⟨a, rfl⟩ : ∃ b, b = a)
section
variable {K : KW} {E : Ent} {ms : List Md} {ts : List Ty} {L L1 : Reg} {Γ Γ1 : Gam ts} {σ σ1 : St} {H H' H1 : Hp} {xt : List Addr} {rm : Rm} {ρ : Ty}
def sNext {G ρ : Type} : G → Option (Fl G ρ) := fun Γ => some (.nx Γ)
def sSeq {G ρ : Type} (F F' : G → Option (Fl G ρ)) : G → Option (Fl G ρ) := fun Γ => (F Γ).bind fun r => match r with
  | .nx Γ' => F' Γ'
  | r => some r
def sIf {G ρ : Type} (c : G → Option Bool) (F F' : G → Option (Fl G ρ)) : G → Option (Fl G ρ) := fun Γ => (c Γ).bind fun b => if b = true then F Γ else F' Γ
def sBreak {G ρ : Type} : G → Option (Fl G ρ) := fun Γ => some (.bk Γ)
def sCont {G ρ : Type} : G → Option (Fl G ρ) := fun Γ => some (.ct Γ)
def sSet {ρ : Type} {ts : List Ty} {t : Ty} (i : Mem ts t) (F : Gam ts → Option (den t)) : Gam ts → Option (Fl (Gam ts) ρ) := fun Γ => (F Γ).bind fun d => some (.nx (i.set (some d) Γ))
def sRet {G ρ : Type} (F : G → Option ρ) : G → Option (Fl G ρ) := fun Γ => (F Γ).bind fun d => some (.rt d Γ)
def sRetM {ts : List Ty} {t : Ty} (i : Mem ts t) : Gam ts → Option (Fl (Gam ts) (den t)) := fun Γ => (i.get Γ).bind fun d => some (.rt d (i.set none Γ))
def sDrop {G ρ α : Type} (F : G → Option α) : G → Option (Fl G ρ) := fun Γ => (F Γ).bind fun _ => some (.nx Γ)
theorem Post.later {D : Ends} {f : Fl (Gam ts) (den ρ)} (p : Post K E ms ts rm ρ L Γ σ H D f) (e : Ev ms ts L Γ σ H L1 Γ1 σ1 H1) : Post K E ms ts rm ρ L1 Γ1 σ1 H1 D f := by
  cases f with
  | nx Γ' => exact fun L' σ' H' o e' => p L' σ' H' o (e.trans e')
  | bk Γ' => exact fun L' σ' H' o e' => p L' σ' H' o (e.trans e')
  | ct Γ' => exact fun L' σ' H' o e' => p L' σ' H' o (e.trans e')
  | rt d Γ' => exact fun L' σ' H' v xt o e' => p L' σ' H' v xt o (e.trans e')
theorem rs_hide {t : TS} {F : Gam ts → Option (Fl (Gam ts) (den ρ))} (h : RS K ms ts t rm ρ F) : RS K ms ts t rm ρ (hide F) := by
  rw [hide_eq]
  exact h
theorem rs_next : RS K ms ts tNext rm ρ sNext := fun E L Γ σ H D f o e p => by
  cases e
  exact p L σ H o (Ev.same (Same.refl H))
theorem rs_seq {t u : TS} {F F' : Gam ts → Option (Fl (Gam ts) (den ρ))} (h : RS K ms ts t rm ρ F) (h' : RS K ms ts u rm ρ F') : RS K ms ts (tSeq t u) rm ρ (sSeq F F') := fun E L Γ σ H D f o e p => by
  obtain ⟨r, e1, e2⟩ := bind_some e
  refine h E L Γ σ H _ r o e1 ?_
  cases r with
  | nx Γ1 => exact fun L1 σ1 H1 o1 ev1 => h' E L1 Γ1 σ1 H1 D f o1 e2 (p.later ev1)
  | bk Γ1 => cases e2; exact fun L1 σ1 H1 o1 ev1 => p L1 σ1 H1 o1 ev1
  | ct Γ1 => cases e2; exact fun L1 σ1 H1 o1 ev1 => p L1 σ1 H1 o1 ev1
  | rt d Γ1 => cases e2; exact fun L1 σ1 H1 v xt o1 ev1 r1 => p L1 σ1 H1 v xt o1 ev1 r1
theorem rs_if {tc : TT} {t u : TS} {c : Gam ts → Option Bool} {F F' : Gam ts → Option (Fl (Gam ts) (den ρ))} (hc : RT K ms ts tc c) (h : RS K ms ts t rm ρ F) (h' : RS K ms ts u rm ρ F') : RS K ms ts (tIfS tc t u) rm ρ (sIf c F F') := fun E L Γ σ H D f o e p => by
  obtain ⟨b, e1, e2⟩ := bind_some e
  refine hc E L Γ σ H [] _ b o e1 fun H1 s1 => ?_
  cases b with
  | true =>
    rw [if_pos rfl] at e2 ⊢
    exact h E L Γ σ H1 D f (o.same s1) e2 (p.later (Ev.same s1))
  | false =>
    rw [if_neg Bool.false_ne_true] at e2 ⊢
    exact h' E L Γ σ H1 D f (o.same s1) e2 (p.later (Ev.same s1))
theorem rs_drop {te : TE} {m : Em} {t : Ty} {F : Gam ts → Option (den t)} (h : RP K ms ts te m t F) : RS K ms ts (tDrop te) rm ρ (sDrop F) := fun E L Γ σ H D f o e p => by
  obtain ⟨d, e1, e2⟩ := bind_some e
  cases e2
  exact h E L Γ σ H [] _ d o e1 fun v H1 s1 _ => p L σ H1 (o.same s1) (Ev.same s1)
theorem keepF_set {t : Ty} (i : Mem ts t) {m : Md} (hm : ms[i.ix]? = some m) (hk : m.fixd = false) (d : Option (den t)) (s : Option V) : KeepF ms ts Γ (i.set d Γ) σ (σ.set i.ix s) := by
  have ne : ∀ n m', ms[n]? = some m' → m'.fixd = true → i.ix ≠ n := fun n m' hj hh z => by
    rw [z, hj] at hm
    cases hm
    rw [hk] at hh
    cases hh
  exact ⟨fun u j m' hj hh => Mem.get_set_ne i j d Γ (ne _ m' hj (hard_fixd hh)), fun n m' hj hh => List.getElem?_set_ne (ne n m' hj hh)⟩
theorem Own.temp {f : List Addr} {Lr : Reg} (o : Own K E L ms ts Γ σ H []) (s : Same H H') (nf : f.Nodup) (hf : Nw H H' (· ∈ f)) (hl : Nw H H' Lr) (hd : ∀ a ∈ f, ¬ Lr a) : Own K E (fun a => L a ∨ Lr a) ms ts Γ σ H' f := by
  have o1 := o.same s
  obtain ⟨fp, g, nd, gd⟩ := id o.ex
  obtain ⟨fp1, g1, nd1, gd1⟩ := id o1.ex
  rw [List.append_nil] at nd gd
  have fre : ∀ a, H a = none → a ∉ fp := fun a h z => by
    have := (gd a z).at_
    rw [h] at this
    cases this
  refine ⟨⟨fp, rG_mono (o.covS fun a q h1 h2 => s _ _ (o.fr a q h1 h2)) (Cov.of_same s fun a h _ => .inl h) (Stb.of_same s) (fun a ha => same_at s (gd a ha).at_) g, ?_, fun a ha => ?_⟩, o1.fr, fun a h => ?_, o.s0, o1.iod⟩
  · exact List.nodup_append.mpr ⟨nd, nf, fun a ha b hb z => by subst z; exact fre a (hf a hb).1 ha⟩
  · rcases List.mem_append.mp ha with h | h
    · have g := gd a h
      exact ⟨g.new, fun z => z.elim g.nl fun z => fre a (hl a z).1 h, g.ns, by rw [same_at s g.at_]; exact g.at_⟩
    · have ff := o.fresh (hf a h).1
      exact ⟨.inl ff.1, fun z => z.elim ff.2.1 (hd a h), ff.2.2, (hf a h).2⟩
  · rcases h with h | h
    · exact o1.lr a h
    · exact ⟨.inl (o.fresh (hl a h).1).1, (hl a h).2⟩
def Md.em : Md → Em
  | .o => .o
  | .l => .l
  | .w => .w
  | .f => .b
  | .k => .b
  | .r => .b
theorem Own.store {t : Ty} (i : Mem ts t) {m : Md} {v : V} {d : den t} (o : Own K E L ms ts Γ σ H []) (hm : ms[i.ix]? = some m) (hk : m.fixd = false) (s : Same H H') (r : Rep K E L H H' m.em t v d) :
    ∃ L', Own K E L' ms ts (i.set (some d) Γ) (σ.set i.ix (some v)) H' [] ∧ Ev ms ts L Γ σ H L' (i.set (some d) Γ) (σ.set i.ix (some v)) H' := by
  obtain ⟨s0, f0, e1, e2, e3, e4, e5⟩ := o.focus i hm
  have same1 : ∀ a, (H a).isSome = true → H' a = H a := fun a h => same_at s h
  have up : ∀ a, (H a).isSome = true → (H' a).isSome = true := fun a h => by rw [same1 a h]; exact h
  have ev : ∀ (L' : Reg), (∀ a, L a → L' a) → Ev ms ts L Γ σ H L' (i.set (some d) Γ) (σ.set i.ix (some v)) H' := fun L' hL => ⟨hL, fun a q _ h => s _ _ h, Stb.of_same s, keepF_set i hm hk _ _⟩
  have go : ∀ (L' : Reg) (f : List Addr), (∀ a, L a → L' a) → (∀ a, L' a → L a ∨ H a = none) → (∀ a, L' a → (H' a).isSome = true) → repM K H' E.S0 L' m t v d f → f.Nodup → (∀ a ∈ f, H a = none ∧ ¬ L' a ∧ (H' a).isSome = true) →
      ∃ L', Own K E L' ms ts (i.set (some d) Γ) (σ.set i.ix (some v)) H' [] ∧ Ev ms ts L Γ σ H L' (i.set (some d) Γ) (σ.set i.ix (some v)) H' := fun L' f c3 c4 c5 c6 c7 c8 => by
    refine ⟨L', e5 H' L' (some d) (some v) f [] (fun a h _ _ => same1 a h) (Stb.of_same s) c3 (fun a h => (c4 a h).elim .inl fun z => .inr (.inr (.inr z))) up (fun a h => ⟨?_, c5 a h⟩) ⟨v, rfl, c6⟩ (by simpa using c7) fun a ha => ?_, ev L' c3⟩
    · rcases c4 a h with z | z
      · exact (o.lr a z).1
      · exact .inl (o.fresh z).1
    · have ha : a ∈ f := by simpa using ha
      exact ⟨.inr (.inr (c8 a ha).1), (c8 a ha).2⟩
  have lift : ∀ {R : Reg}, Nw H H' R → ∀ a, L a ∨ R a → (H' a).isSome = true := fun {R} h a z => z.elim (fun z => up a (o.lr a z).2) fun z => (h a z).2
  cases m with
  | o =>
    obtain ⟨f, Lr, h1, h2, h3, h4, h5⟩ := r
    exact go (fun a => L a ∨ Lr a) f (fun a h => .inl h) (fun a h => h.elim .inl fun z => .inr (h4 a z).1) (lift h4) h1 h2 fun a ha => ⟨(h3 a ha).1, fun z => z.elim (o.fresh (h3 a ha).1).2.1 (h5 a ha), (h3 a ha).2⟩
  | l =>
    obtain ⟨Lr, h1, h4⟩ := r
    exact go (fun a => L a ∨ Lr a) [] (fun a h => .inl h) (fun a h => h.elim .inl fun z => .inr (h4 a z).1) (lift h4) ⟨rfl, h1⟩ List.nodup_nil fun a ha => by simp at ha
  | w =>
    obtain ⟨Lr, h1, h4⟩ := r
    exact go (fun a => L a ∨ Lr a) [] (fun a h => .inl h) (fun a h => h.elim .inl fun z => .inr (h4 a z).1) (lift h4) ⟨rfl, h1⟩ List.nodup_nil fun a ha => by simp at ha
  | f => exact absurd hk (by decide)
  | k => exact absurd hk (by decide)
  | r => exact absurd hk (by decide)
theorem rs_set {t : Ty} (i : Mem ts t) {n : Nat} {m : Md} {te : TE} {F : Gam ts → Option (den t)} (h : RP K ms ts te m.em t F) (hm : ms[i.ix]? = some m := by rfl) (hk : m.fixd = false := by rfl) (hn : i.ix = n := by rfl) :
    RS K ms ts (tAsg te (gName n)) rm ρ (sSet i F) := fun E L Γ σ H D f o e p => by
  subst hn
  obtain ⟨d, e1, e2⟩ := bind_some e
  cases e2
  refine h E L Γ σ H [] _ d o e1 fun v H1 s1 r1 => ?_
  obtain ⟨L', o', ev⟩ := o.store i hm hk s1 r1
  exact p L' _ H1 o' ev
def Rm.em : Rm → Em
  | .o => .o
  | .l => .l
  | .w => .w
  | .x _ m => m.em
theorem rs_ret {te : TE} {F : Gam ts → Option (den ρ)} (h : RP K ms ts te rm.em ρ F) (hpl : rm.plain = true := by rfl) : RS K ms ts (tRet te) rm ρ (sRet F) := fun E L Γ σ H D f o e p => by
  obtain ⟨d, e1, e2⟩ := bind_some e
  cases e2
  refine h E L Γ σ H [] _ d o e1 fun v H1 s1 r1 => ?_
  have ev : ∀ Lr : Reg, Ev ms ts L Γ σ H (fun a => L a ∨ Lr a) Γ σ H1 := fun Lr => ⟨fun a h => .inl h, fun a q _ h => s1 _ _ h, Stb.of_same s1, KeepF.refl⟩
  cases rm with
  | o =>
    obtain ⟨f, Lr, h1, h2, h3, h4, h5⟩ := r1
    exact p _ σ H1 v f (o.temp s1 h2 h3 h4 h5) (ev Lr) h1
  | l =>
    obtain ⟨Lr, h1, h4⟩ := r1
    exact p _ σ H1 v [] (o.temp s1 List.nodup_nil (fun a ha => by simp at ha) h4 fun a ha => by simp at ha) (ev Lr) ⟨rfl, h1⟩
  | w =>
    obtain ⟨Lr, h1, h4⟩ := r1
    exact p _ σ H1 v [] (o.temp s1 List.nodup_nil (fun a ha => by simp at ha) h4 fun a ha => by simp at ha) (ev Lr) ⟨rfl, h1⟩
  | x W m => cases hpl
theorem Own.take {t : Ty} (i : Mem ts t) {d : den t} (o : Own K E L ms ts Γ σ H []) (hm : ms[i.ix]? = some .o) (hd : i.get Γ = some d) : ∃ v f, σ[i.ix]? = some (some v) ∧ (rO K H L t).1 v d f ∧ Own K E L ms ts (i.set none Γ) σ H f := by
  obtain ⟨s0, f0, e1, e2, e3, e4, e5⟩ := o.focus i hm
  rw [hd] at e2
  obtain ⟨v, rfl, r⟩ := e2
  refine ⟨v, f0, e1, r, ?_⟩
  have := e5 H L none (some v) [] f0 (fun a h _ _ => rfl) (Stb.refl H) (fun _ h => h) (fun _ h => .inl h) (fun _ h => h) (fun a h => o.lr a h) rfl (by simpa using e3) fun a ha => by
    have ha : a ∈ f0 := by simpa using ha
    exact ⟨.inl ha, (e4 a ha).1.nl, (e4 a ha).1.at_⟩
  have es : σ.set i.ix (some v) = σ := by
    refine List.ext_getElem? fun n => ?_
    by_cases hn : n = i.ix
    · subst hn
      rw [List.getElem?_set_self (List.getElem?_eq_some_iff.mp e1).1]
      exact e1.symm
    · rw [List.getElem?_set_ne (Ne.symm hn)]
  rw [es] at this
  exact this
theorem keepF_set0 {t : Ty} (i : Mem ts t) {m : Md} (hm : ms[i.ix]? = some m) (hk : m.hard = false) (d : Option (den t)) : KeepF ms ts Γ (i.set d Γ) σ σ := ⟨fun u j m' hj hh => by
  have ne : i.ix ≠ j.ix := fun z => by
    rw [z, hj] at hm
    cases hm
    rw [hk] at hh
    cases hh
  exact Mem.get_set_ne i j d Γ ne, fun _ _ _ _ => rfl⟩
theorem repM_own {S0 : Reg} {m : Md} (h : m.own = true) {t : Ty} {v : V} {d : den t} {f : List Addr} : repM K H S0 L m t v d f ↔ (rO K H L t).1 v d f := by cases m <;> first | exact Iff.rfl | cases h
theorem own_hard {m : Md} (h : m.own = true) : m.hard = false := by cases m <;> first | rfl | cases h
theorem rs_retm (i : Mem ts ρ) {n : Nat} (hm : ms[i.ix]? = some .o := by rfl) (hn : i.ix = n := by rfl) : RS K ms ts (tRet (tVar n)) .o ρ (sRetM i) := fun E L Γ σ H D f o e p => by
  subst hn
  obtain ⟨d, e1, e2⟩ := bind_some e
  cases e2
  obtain ⟨v, f, h1, h2, h3⟩ := o.take i hm e1
  exact ⟨v, h1, p L σ H v f h3 ⟨fun _ h => h, fun _ _ _ h => h, Stb.refl H, keepF_set0 i hm rfl none⟩ h2⟩
def sMove {ρ : Type} {ts : List Ty} {t : Ty} (i j : Mem ts t) : Gam ts → Option (Fl (Gam ts) ρ) := fun Γ => (j.get Γ).bind fun d => some (.nx (i.set (some d) (j.set none Γ)))
theorem rs_move {t : Ty} (i j : Mem ts t) {n k : Nat} {m : Md} (hj : ms[j.ix]? = some .o := by rfl) (hm : ms[i.ix]? = some m := by rfl) (hk : m.fixd = false := by rfl) (hn : i.ix = n := by rfl) (hjk : j.ix = k := by rfl) :
    RS K ms ts (tAsg (tVar k) (gName n)) rm ρ (sMove i j) := fun E L Γ σ H D f o e p => by
  subst hn
  subst hjk
  obtain ⟨d, e1, e2⟩ := bind_some e
  cases e2
  obtain ⟨v, f, h1, h2, h3⟩ := o.take j hj e1
  obtain ⟨s0, f0, q1, q2, q3, q4, q5⟩ := h3.focus i hm
  obtain ⟨fp, _, ndx, gdx⟩ := h3.ex
  have nf : f.Nodup := (List.nodup_append.mp ndx).2.1
  have gf : ∀ a ∈ f, Good E L H a := fun a ha => gdx a (List.mem_append_right _ ha)
  have kp : KeepF ms ts Γ (i.set (some d) (j.set none Γ)) σ (σ.set i.ix (some v)) := (keepF_set0 (Γ := Γ) (σ := σ) j hj rfl none).trans (keepF_set (Γ := j.set none Γ) (σ := σ) i hm hk (some d) (some v))
  refine ⟨v, h1, ?_⟩
  have go : ∀ (L' : Reg) (f' : List Addr), (∀ a, L a → L' a) → (∀ a, L' a → L a ∨ a ∈ f) → (∀ a, L' a → (E.H0 a = none ∨ a ∈ E.io) ∧ (H a).isSome = true) → repM K H E.S0 L' m t v d f' → f'.Nodup → (∀ a ∈ f', a ∈ f ∧ ¬ L' a) → D.nx (σ.set i.ix (some v)) H := fun L' f' c3 c4 c5 c6 c7 c8 => by
    refine p L' _ H (q5 H L' (some d) (some v) f' [] (fun _ _ _ _ => rfl) (Stb.refl H) c3 (fun a h => (c4 a h).elim .inl fun z => .inr (.inr (.inl z))) (fun _ h => h) c5 ⟨v, rfl, c6⟩ (by simpa using c7) fun a ha => ?_) ⟨c3, fun _ _ _ h => h, Stb.refl H, kp⟩
    have ha : a ∈ f' := by simpa using ha
    exact ⟨.inr (.inl (c8 a ha).1), (c8 a ha).2, (gf a (c8 a ha).1).at_⟩
  cases m with
  | o => exact go L f (fun _ h => h) (fun _ h => .inl h) (fun a h => o.lr a h) h2 nf fun a ha => ⟨ha, (gf a ha).nl⟩
  | l => exact go (fun a => L a ∨ a ∈ f) [] (fun _ h => .inl h) (fun _ h => h) (fun a h => h.elim (o.lr a) fun z => ⟨(gf a z).new, (gf a z).at_⟩) ⟨rfl, (rO_s (fun _ h => .inl h) t).1 v d f (fun a h => .inr h) h2⟩ List.nodup_nil fun a ha => by simp at ha
  | w => exact go (fun a => L a ∨ a ∈ f) [] (fun _ h => .inl h) (fun _ h => h) (fun a h => h.elim (o.lr a) fun z => ⟨(gf a z).new, (gf a z).at_⟩) ⟨rfl, (rO_s (fun _ h => .inr (.inl h)) t).1 v d f (fun a h => .inr (.inr h)) h2⟩ List.nodup_nil fun a ha => by simp at ha
  | f => exact absurd hk (by decide)
  | k => exact absurd hk (by decide)
  | r => exact absurd hk (by decide)
def forL {G ρ α : Type} (bind : α → G → G) (mask : G → G) (body : G → Option (Fl G ρ)) : List α → G → Option (Fl G ρ)
  | [], Γ => some (.nx Γ)
  | x :: xs, Γ => (body (bind x Γ)).bind fun r => match r with
    | .nx Γ' => forL bind mask body xs (mask Γ')
    | .ct Γ' => forL bind mask body xs (mask Γ')
    | .bk Γ' => some (.nx (mask Γ'))
    | .rt r Γ' => some (.rt r Γ')
def sFor {G ρ α : Type} (F : G → Option (List α)) (bind : α → G → G) (mask : G → G) (body : G → Option (Fl G ρ)) : G → Option (Fl G ρ) := fun Γ => (F Γ).bind fun xs => forL bind mask body xs (mask Γ)
def reg (w : Bool) (E : Ent) (L : Reg) : Reg := if w then (fun a => E.S0 a ∨ L a) else L
structure IterOk (K : KW) (R : Reg) (t : Ty) (J : It) (ds : List (den t)) (Z : Hp → Prop) : Prop where
  keep : ∀ H H', Cov H H' R R → Stb H H' → Z H → Z H'
  go : ∀ i H, Z H → i < ds.length → J.go i H
  stop : ∀ H, Z H → J.stop ds.length H
  yld : ∀ i H x H', i < ds.length → Z H → J.yld i H x H' → Same H H' ∧ ∃ d, ds[i]? = some d ∧ (rS K H' R t).1 x d
def RI (K : KW) (ms : List Md) (ts : List Ty) (wi : TI) (w : Bool) (t : Ty) (F : Gam ts → Option (List (den t))) : Prop :=
  ∀ (E : Ent) (L : Reg) (Γ : Gam ts) (σ : St) (H : Hp) (xt : List Addr) (R : It → Hp → Prop) (ds : List (den t)), Own K E L ms ts Γ σ H xt → F Γ = some ds →
    (∀ J H' Lr Z, Same H H' → Nw H H' Lr → IterOk K (reg w E fun a => L a ∨ Lr a) t J ds Z → Z H' → R J H') → wi σ H R
def RG (K : KW) (ms : List Md) (ts : List Ty) (g : TG) (w : Bool) (t : Ty) (B : den t → Gam ts → Gam ts) : Prop :=
  ∀ (E : Ent) (L : Reg) (Γ : Gam ts) (σ : St) (H : Hp) (Q : St → Hp → Prop) (x : V) (d : den t), Own K E L ms ts Γ σ H [] → (rS K H (reg w E L) t).1 x d →
    (∀ σ', Own K E L ms ts (B d Γ) σ' H [] → Ev ms ts L Γ σ H L (B d Γ) σ' H → Q σ' H) → g x σ H Q
def RGs (K : KW) (ms : List Md) (ts : List Ty) (g : TGs) (w : Bool) (b : Ty) (B : den b → Gam ts → Gam ts) : Prop :=
  ∀ (E : Ent) (L : Reg) (Γ : Gam ts) (σ : St) (H : Hp) (Q : St → Hp → Prop) (xs : List V) (d : den b), Own K E L ms ts Γ σ H [] → (rS K H (reg w E L) b).2 xs d →
    (∀ σ', Own K E L ms ts (B d Γ) σ' H [] → Ev ms ts L Γ σ H L (B d Γ) σ' H → Q σ' H) → g xs σ H Q
def bName {ts : List Ty} {t : Ty} (i : Mem ts t) : den t → Gam ts → Gam ts := fun d Γ => i.set (some d) Γ
def bCons {G α β : Type} (B : α → G → G) (B' : β → G → G) : α × β → G → G := fun d Γ => B' d.2 (B d.1 Γ)
def okTg (w : Bool) (m : Md) (t : Ty) : Bool := match m with
  | .o => t.frz
  | .l => !w || t.frz
  | .w => true
  | .f => false
  | .k => false
  | .r => false
theorem rg_name {w : Bool} {t : Ty} (i : Mem ts t) {n : Nat} {m : Md} (hm : ms[i.ix]? = some m := by rfl) (hk : okTg w m t = true := by rfl) (hn : i.ix = n := by rfl) : RG K ms ts (gName n) w t (bName i) := fun E L Γ σ H Q x d o r q => by
  subst hn
  obtain ⟨s0, f0, e1, e2, e3, e4, e5⟩ := o.focus i hm
  have hkf : m.fixd = false := by
    cases m <;> first | rfl | exact absurd hk (by simp [okTg])
  refine q _ (e5 H L (some d) (some x) [] [] (fun _ _ _ _ => rfl) (Stb.refl H) (fun _ h => h) (fun _ h => .inl h) (fun _ h => h) (fun a h => o.lr a h) ⟨x, rfl, ?_⟩ (by simp) (fun a ha => by simp at ha)) ⟨fun _ h => h, fun _ _ _ h => h, Stb.refl H, keepF_set i hm hkf _ _⟩
  have toW : (rS K H (reg w E L) t).1 x d → (rS K H (fun a => E.S0 a ∨ L a) t).1 x d := fun r => by
    cases w with
    | true => exact r
    | false => exact (rS_mono (Cov.of_reg fun a h _ => .inr h) (Stb.refl H) t).1 x d r
  cases m with
  | o => exact (rS_o t hk).1 x d r
  | l =>
    refine ⟨rfl, ?_⟩
    cases w with
    | false => exact r
    | true => exact (rS_frz t (by simpa [okTg] using hk)).1 x d r
  | w => exact ⟨rfl, toW r⟩
  | f => exact absurd hk (by simp [okTg])
  | k => exact absurd hk (by simp [okTg])
  | r => exact absurd hk (by simp [okTg])
theorem rgs_one {w : Bool} {t : Ty} {g : TG} {B : den t → Gam ts → Gam ts} (h : RG K ms ts g w t B) : RGs K ms ts (gCons g gNil) w (.last t) B := fun E L Γ σ H Q xs d o r q => by
  obtain ⟨v, rfl, r⟩ := r
  exact ⟨v, [], rfl, h E L Γ σ H _ v d o r fun σ' o' e' => ⟨rfl, q σ' o' e'⟩⟩
theorem rgs_cons {w : Bool} {t b : Ty} {g : TG} {gs : TGs} {B : den t → Gam ts → Gam ts} {B' : den b → Gam ts → Gam ts} (h : RG K ms ts g w t B) (h' : RGs K ms ts gs w b B') : RGs K ms ts (gCons g gs) w (.cons t b) (bCons B B') := fun E L Γ σ H Q xs d o r q => by
  obtain ⟨v, vs, rfl, r1, r2⟩ := r
  refine ⟨v, vs, rfl, h E L Γ σ H _ v d.1 o r1 fun σ' o' e' => ?_⟩
  exact h' E L (B d.1 Γ) σ' H Q vs d.2 o' r2 fun σ2 o2 e2 => q σ2 o2 (e'.trans e2)
theorem rg_tup {w : Bool} {b : Ty} {gs : TGs} {n : Nat} {B : den b → Gam ts → Gam ts} (h : RGs K ms ts gs w b B) (hn : rowLen b = n := by rfl) : RG K ms ts (gTup K n gs) w (.tup b) B := fun E L Γ σ H Q x d o r q => by
  obtain ⟨a, vs, rfl, h1, h2⟩ := r
  exact ⟨a, vs, rfl, .of h1, (row_length b vs d h2).trans hn, h E L Γ σ H Q vs d o h2 q⟩
def okMask : List Md → List Bool → Bool
  | [], _ => true
  | _, [] => true
  | m :: ms, b :: bs => (b || !m.hard) && okMask ms bs
theorem mask_get : ∀ {ts : List Ty} {t : Ty} (i : Mem ts t) (ms : List Md) (bs : List Bool) (Γ : Gam ts), okMask ms bs = true → (∃ m, ms[i.ix]? = some m ∧ m.hard = true) → i.get (Gam.mask bs Γ) = i.get Γ
  | _ :: _, _, .z, m :: ms, b :: bs, Γ, h, hm => by
    obtain ⟨m', e, hh⟩ := hm
    have e : m = m' := by simpa [Mem.ix] using e
    subst e
    simp only [okMask, Bool.and_eq_true] at h
    have hb : b = true := by simpa [hh] using h.1
    subst hb
    rfl
  | _ :: _, _, .s i, m :: ms, b :: bs, Γ, h, hm => by
    simp only [okMask, Bool.and_eq_true] at h
    exact mask_get i ms bs Γ.2 h.2 (by simpa [Mem.ix] using hm)
  | _ :: _, _, .z, _, [], _, _, _ => rfl
  | _ :: _, _, .s i, _, [], _, _, _ => rfl
  | _, _, .z, [], _, _, _, hm => by simp at hm
  | _, _, .s i, [], _, _, _, hm => by simp at hm
theorem Ev.mask {L' : Reg} {Γ' : Gam ts} {σ' : St} {bs : List Bool} (hb : okMask ms bs = true) (e : Ev ms ts L Γ σ H L' Γ' σ' H') : Ev ms ts L Γ σ H L' (Gam.mask bs Γ') σ' H' :=
  ⟨e.sub, e.cell, e.stb, fun t i m h hh => (mask_get i ms bs Γ' hb ⟨m, h, hh⟩).trans (e.keep.1 t i m h hh), e.keep.2⟩
theorem Ev.cov {w : Bool} {L' : Reg} {Γ' : Gam ts} {σ' : St} (o : Own K E L ms ts Γ σ H xt) {xt' : List Addr} (o' : Own K E L' ms ts Γ' σ' H' xt') (e : Ev ms ts L Γ σ H L' Γ' σ' H') : Cov H H' (reg w E L) (reg w E L) := by
  have covL : Cov H H' L L := fun a q h x => by
    refine ⟨h, ?_⟩
    cases z : H a with
    | none => rw [z] at x; cases x
    | some y => rw [e.cell a y h z, ← z]; exact x
  cases w with
  | false => exact covL
  | true =>
    intro a q h x
    rcases h with h | h
    · exact ⟨.inl h, (o.covS o'.fr a q h x).2⟩
    · exact ⟨.inr h, (covL a q h x).2⟩
theorem rs_for {w : Bool} {t : Ty} {wi : TI} {g : TG} {tb : TS} {F : Gam ts → Option (List (den t))} {B : den t → Gam ts → Gam ts} {body : Gam ts → Option (Fl (Gam ts) (den ρ))} (bs : List Bool) (hi : RI K ms ts wi w t F) (hg : RG K ms ts g w t B) (hb : RS K ms ts tb rm ρ body)
    (hm : okMask ms bs = true := by rfl) : RS K ms ts (tFor wi g tb) rm ρ (sFor F B (Gam.mask bs) body) := fun E L Γ σ H D f o e p => by
  obtain ⟨ds, e1, e2⟩ := bind_some e
  refine hi E L Γ σ H [] _ ds o e1 fun J H1 Lr Z s1 nw it z1 => ?_
  have o1 : Own K E (fun a => L a ∨ Lr a) ms ts Γ σ H1 [] := o.temp s1 List.nodup_nil (fun a ha => by simp at ha) nw fun a ha => by simp at ha
  have ev1 : Ev ms ts L Γ σ H (fun a => L a ∨ Lr a) Γ σ H1 := ⟨fun a h => .inl h, fun a q _ h => s1 _ _ h, Stb.of_same s1, KeepF.refl⟩
  have p1 := p.later ev1
  have o1m := o1.mask bs
  refine ⟨fun i m σ' H' => m = ds.length - i ∧ i ≤ ds.length ∧ ∃ L' Γ', Own K E L' ms ts Γ' σ' H' [] ∧ Ev ms ts (fun a => L a ∨ Lr a) Γ σ H1 L' Γ' σ' H' ∧ forL B (Gam.mask bs) body (ds.drop i) Γ' = some f,
    ⟨ds.length, by simp, Nat.zero_le _, _, Gam.mask bs Γ, o1m, (Ev.same (Same.refl H1)).mask hm, by simpa using e2⟩, ?_⟩
  rintro i m σ2 H2 ⟨rfl, hle, L2, Γ2, o2, ev2, e3⟩
  have z2 : Z H2 := it.keep H1 H2 (ev2.cov o1 o2) ev2.stb z1
  by_cases hlt : i < ds.length
  · refine .inr ⟨it.go i H2 z2 hlt, fun σ' H' => ∃ L' Γ', Own K E L' ms ts Γ' σ' H' [] ∧ Ev ms ts (fun a => L a ∨ Lr a) Γ σ H1 L' Γ' σ' H' ∧ forL B (Gam.mask bs) body (ds.drop (i + 1)) Γ' = some f, fun σ' H' h => ⟨ds.length - (i + 1), by omega, rfl, hlt, h⟩, fun x H3 hy => ?_⟩
    obtain ⟨s3, d, hd, rd⟩ := it.yld i H2 x H3 hlt z2 hy
    have ed : ds.drop i = d :: ds.drop (i + 1) := by
      have hd' : ds[i] = d := by
        have := List.getElem?_eq_getElem hlt
        rw [this] at hd
        exact Option.some.inj hd
      rw [List.drop_eq_getElem_cons hlt, hd']
    rw [ed] at e3
    obtain ⟨r, e4, e5⟩ := bind_some (show (body (B d Γ2)).bind _ = some f from e3)
    have o3 := o2.same s3
    have ev3 : Ev ms ts (fun a => L a ∨ Lr a) Γ σ H1 L2 Γ2 σ2 H3 := ev2.trans (Ev.same s3)
    refine hg E L2 Γ2 σ2 H3 _ x d o3 ((rS_mono (Cov.of_reg fun a h _ => (by
      cases w with
      | false => exact ev3.sub a h
      | true => exact h.elim .inl fun z => .inr (ev3.sub a z) : reg w E L2 a)) (Stb.refl H3) t).1 x d rd) fun σ4 o4 ev4 => ?_
    refine hb E L2 (B d Γ2) σ4 H3 _ r o4 e4 ?_
    have evb := ev3.trans ev4
    cases r with
    | nx Γ5 => exact fun L5 σ5 H5 o5 ev5 => ⟨L5, Gam.mask bs Γ5, o5.mask bs, (evb.trans ev5).mask hm, e5⟩
    | ct Γ5 => exact fun L5 σ5 H5 o5 ev5 => ⟨L5, Gam.mask bs Γ5, o5.mask bs, (evb.trans ev5).mask hm, e5⟩
    | bk Γ5 =>
      have e6 : Fl.nx (Gam.mask bs Γ5) = f := Option.some.inj e5
      subst e6
      exact fun L5 σ5 H5 o5 ev5 => p1 L5 σ5 H5 (o5.mask bs) ((evb.trans ev5).mask hm)
    | rt d5 Γ5 =>
      have e6 : Fl.rt d5 Γ5 = f := Option.some.inj e5
      subst e6
      exact fun L5 σ5 H5 v5 xt5 o5 ev5 r5 => p1 L5 σ5 H5 v5 xt5 o5 (evb.trans ev5) r5
  · have hi : i = ds.length := by omega
    subst hi
    rw [List.drop_length] at e3
    have e4 : Fl.nx Γ2 = f := Option.some.inj e3
    subst e4
    exact .inl ⟨it.stop H2 z2, p1 L2 σ2 H2 o2 ev2⟩
end
end VV
namespace VV
open PySem L2
open PyProof.Rows hiding St
section
variable {K : KW} {E : Ent} {ms : List Md} {ts : List Ty} {L L1 : Reg} {Γ Γ1 : Gam ts} {σ σ1 : St} {H H' H1 : Hp} {xt : List Addr} {rm : Rm} {ρ : Ty}
def whileN {G ρ : Type} (c : G → Option Bool) (mask : G → G) (body : G → Option (Fl G ρ)) : Nat → G → Option (Fl G ρ)
  | 0, _ => none
  | n + 1, Γ => (c Γ).bind fun b => if b = true then (body Γ).bind fun r => match r with
      | .nx Γ' => whileN c mask body n (mask Γ')
      | .ct Γ' => whileN c mask body n (mask Γ')
      | .bk Γ' => some (.nx (mask Γ'))
      | .rt r Γ' => some (.rt r Γ')
    else some (.nx Γ)
theorem whileN_succ {G ρ : Type} {c : G → Option Bool} {mask : G → G} {body : G → Option (Fl G ρ)} : ∀ {n : Nat} {Γ : G} {r : Fl G ρ}, whileN c mask body n Γ = some r → whileN c mask body (n + 1) Γ = some r
  | 0, _, _, h => by cases h
  | n + 1, Γ, r, h => by
    rw [whileN] at h ⊢
    obtain ⟨b, e1, e2⟩ := bind_some h
    rw [e1]
    show (if b = true then _ else _) = _
    cases b with
    | false => exact e2
    | true =>
      rw [if_pos rfl] at e2 ⊢
      obtain ⟨r', e3, e4⟩ := bind_some e2
      rw [e3]
      cases r' with
      | nx Γ' => exact whileN_succ e4
      | ct Γ' => exact whileN_succ e4
      | bk Γ' => exact e4
      | rt d Γ' => exact e4
theorem whileN_add {G ρ : Type} {c : G → Option Bool} {mask : G → G} {body : G → Option (Fl G ρ)} {n : Nat} {Γ : G} {r : Fl G ρ} (h : whileN c mask body n Γ = some r) : ∀ k : Nat, whileN c mask body (n + k) Γ = some r
  | 0 => h
  | k + 1 => whileN_succ (whileN_add h k)
theorem whileN_det {G ρ : Type} {c : G → Option Bool} {mask : G → G} {body : G → Option (Fl G ρ)} {n m : Nat} {Γ : G} {r r' : Fl G ρ} (h : whileN c mask body n Γ = some r) (h' : whileN c mask body m Γ = some r') : r = r' := by
  have a := whileN_add h m
  have b := whileN_add h' n
  rw [Nat.add_comm m n] at b
  rw [a] at b
  exact Option.some.inj b
open Classical in
noncomputable def sWhile {G ρ : Type} (c : G → Option Bool) (mask : G → G) (body : G → Option (Fl G ρ)) : G → Option (Fl G ρ) := fun Γ =>
  if h : ∃ r n, whileN c mask body n (mask Γ) = some r then some (Classical.choose h) else none
theorem sWhile_of {G ρ : Type} {c : G → Option Bool} {mask : G → G} {body : G → Option (Fl G ρ)} {n : Nat} {Γ : G} {r : Fl G ρ} (h : whileN c mask body n (mask Γ) = some r) : sWhile c mask body Γ = some r := by
  have hx : ∃ r n, whileN c mask body n (mask Γ) = some r := ⟨r, n, h⟩
  unfold sWhile
  rw [dif_pos hx]
  obtain ⟨m, hm⟩ := Classical.choose_spec hx
  rw [whileN_det hm h]
theorem sWhile_some {G ρ : Type} {c : G → Option Bool} {mask : G → G} {body : G → Option (Fl G ρ)} {Γ : G} {r : Fl G ρ} (h : sWhile c mask body Γ = some r) : ∃ n, whileN c mask body n (mask Γ) = some r := by
  unfold sWhile at h
  split at h
  · rename_i hx
    obtain ⟨m, hm⟩ := Classical.choose_spec hx
    rw [Option.some.inj h] at hm
    exact ⟨m, hm⟩
  · cases h
theorem rs_while {tc : TT} {tb : TS} {c : Gam ts → Option Bool} {body : Gam ts → Option (Fl (Gam ts) (den ρ))} (bs : List Bool) (hc : RT K ms ts tc c) (hb : RS K ms ts tb rm ρ body) (hm : okMask ms bs = true := by rfl) : RS K ms ts (tWhile tc tb) rm ρ (sWhile c (Gam.mask bs) body) := fun E L Γ σ H D f o e p => by
  obtain ⟨n, e⟩ := sWhile_some e
  refine ⟨fun m σ' H' => ∃ L' Γ', Own K E L' ms ts Γ' σ' H' [] ∧ Ev ms ts L Γ σ H L' Γ' σ' H' ∧ whileN c (Gam.mask bs) body m Γ' = some f, ⟨n, L, Gam.mask bs Γ, o.mask bs, (Ev.same (Same.refl H)).mask hm, e⟩, ?_⟩
  rintro m σ2 H2 ⟨L2, Γ2, o2, ev2, e2⟩
  cases m with
  | zero => cases e2
  | succ m =>
    rw [whileN] at e2
    obtain ⟨b, e3, e4⟩ := bind_some e2
    refine hc E L2 Γ2 σ2 H2 [] _ b o2 e3 fun H3 s3 => ?_
    have ev3 := ev2.trans (Ev.same (ms := ms) (ts := ts) (L := L2) (Γ := Γ2) (σ := σ2) s3)
    cases b with
    | false =>
      rw [if_neg Bool.false_ne_true] at e4 ⊢
      have e5 : Fl.nx Γ2 = f := Option.some.inj e4
      subst e5
      exact p L2 σ2 H3 (o2.same s3) ev3
    | true =>
      rw [if_pos rfl] at e4 ⊢
      obtain ⟨r, e5, e6⟩ := bind_some e4
      refine ⟨fun σ' H' => ∃ L' Γ', Own K E L' ms ts Γ' σ' H' [] ∧ Ev ms ts L Γ σ H L' Γ' σ' H' ∧ whileN c (Gam.mask bs) body m Γ' = some f, fun σ' H' h => ⟨m, Nat.lt_succ_self m, h⟩, ?_⟩
      refine hb E L2 Γ2 σ2 H3 _ r (o2.same s3) e5 ?_
      cases r with
      | nx Γ5 => exact fun L5 σ5 H5 o5 ev5 => ⟨L5, Gam.mask bs Γ5, o5.mask bs, (ev3.trans ev5).mask hm, e6⟩
      | ct Γ5 => exact fun L5 σ5 H5 o5 ev5 => ⟨L5, Gam.mask bs Γ5, o5.mask bs, (ev3.trans ev5).mask hm, e6⟩
      | bk Γ5 =>
        have e7 : Fl.nx (Gam.mask bs Γ5) = f := Option.some.inj e6
        subst e7
        exact fun L5 σ5 H5 o5 ev5 => p L5 σ5 H5 (o5.mask bs) ((ev3.trans ev5).mask hm)
      | rt d5 Γ5 =>
        have e7 : Fl.rt d5 Γ5 = f := Option.some.inj e6
        subst e7
        exact fun L5 σ5 H5 v5 xt5 o5 ev5 r5 => p L5 σ5 H5 v5 xt5 o5 (ev3.trans ev5) r5
theorem iter_list {R : Reg} {t : Ty} {a : Addr} {ds : List (den t)} : IterOk K R t (Itl K a) ds (fun H => (rS K H R (.list t)).1 (.ref a) ds) where
  keep := fun H H' c s h => (rS_mono c s (.list t)).1 _ _ h
  go := fun i H h hi => by
    obtain ⟨b, vs, e, h1, h2⟩ := h
    cases e
    have hl := h2.length
    exact ⟨vs, vs[i]'(by omega), h1.seq, List.getElem?_eq_getElem _⟩
  stop := fun H h => by
    obtain ⟨b, vs, e, h1, h2⟩ := h
    cases e
    exact ⟨vs, h1.seq, Nat.le_of_eq h2.length⟩
  yld := fun i H x H' hlt h hy => by
    obtain ⟨b, vs, e, h1, h2⟩ := h
    cases e
    obtain ⟨rfl, hx⟩ := hy
    obtain ⟨d, hd, r⟩ := h2.get' (hx vs h1.seq)
    exact ⟨Same.refl _, d, hd, r⟩
theorem reg_rep {w : Bool} {t : Ty} {v : V} {d : den t} (r : Rep K E L H H1 (if w then .w else .l) t v d) : ∃ Lr, (rS K H1 (reg w E fun a => L a ∨ Lr a) t).1 v d ∧ Nw H H1 Lr := by
  cases w with
  | true =>
    obtain ⟨Lr, h1, h2⟩ := r
    exact ⟨Lr, h1, h2⟩
  | false =>
    obtain ⟨Lr, h1, h2⟩ := r
    exact ⟨Lr, h1, h2⟩
theorem ri_list {w : Bool} {t : Ty} {te : TE} {F : Gam ts → Option (List (den t))} (h : RP K ms ts te (if w then .w else .l) (.list t) F) : RI K ms ts (iList K te) w t F := fun E L Γ σ H xt R ds o e q => by
  refine h E L Γ σ H xt _ ds o e fun v H1 s1 r1 => ?_
  obtain ⟨Lr, h1, h2⟩ := reg_rep r1
  obtain ⟨a, vs, rfl, h3, h4⟩ := id h1
  exact ⟨a, rfl, ⟨vs, h3.seq⟩, q _ H1 Lr _ s1 h2 iter_list h1⟩
theorem iter_vtup {R : Reg} {t : Ty} {a : Addr} {ds : List (den t)} : IterOk K R t (Itt K a) ds (fun H => (rS K H R (.vtup t)).1 (.ref a) ds) where
  keep := fun H H' c s h => (rS_mono c s (.vtup t)).1 _ _ h
  go := fun i H h hi => by
    obtain ⟨b, vs, e, h1, h2⟩ := h
    cases e
    have hl := h2.length
    exact ⟨vs, vs[i]'(by omega), .of h1, List.getElem?_eq_getElem _⟩
  stop := fun H h => by
    obtain ⟨b, vs, e, h1, h2⟩ := h
    cases e
    exact ⟨vs, .of h1, Nat.le_of_eq h2.length⟩
  yld := fun i H x H' hlt h hy => by
    obtain ⟨b, vs, e, h1, h2⟩ := h
    cases e
    obtain ⟨rfl, hx⟩ := hy
    obtain ⟨d, hd, r⟩ := h2.get' (hx vs (.of h1))
    exact ⟨Same.refl _, d, hd, r⟩
theorem ri_vtup {w : Bool} {t : Ty} {te : TE} {F : Gam ts → Option (List (den t))} (h : RP K ms ts te (if w then .w else .l) (.vtup t) F) : RI K ms ts (iTup K te) w t F := fun E L Γ σ H xt R ds o e q => by
  refine h E L Γ σ H xt _ ds o e fun v H1 s1 r1 => ?_
  obtain ⟨Lr, h1, h2⟩ := reg_rep r1
  obtain ⟨a, vs, rfl, h3, h4⟩ := id h1
  exact ⟨a, rfl, ⟨vs, .of h3⟩, q _ H1 Lr _ s1 h2 iter_vtup h1⟩
def rng (lo hi : Int) : List Int := (List.range (hi - lo).toNat).map fun (k : Nat) => lo + (k : Int)
theorem rng_get {lo hi : Int} {i : Nat} (h : i < (hi - lo).toNat) : (rng lo hi)[i]? = some (lo + (i : Int)) := by
  unfold rng
  rw [List.getElem?_map, List.getElem?_range h]
  rfl
theorem rng_len {lo hi : Int} : (rng lo hi).length = (hi - lo).toNat := by simp [rng]
theorem iter_rng {R : Reg} {lo hi : Int} : IterOk K R .int (Itr lo (hi - lo).toNat) (rng lo hi) (fun _ => True) where
  keep := fun _ _ _ _ h => h
  go := fun i H _ hi => by rw [rng_len] at hi; exact hi
  stop := fun H _ => by rw [rng_len]; exact Nat.le_refl _
  yld := fun i H x H' hlt _ hy => by
    obtain ⟨rfl, rfl⟩ := hy
    rw [rng_len] at hlt
    exact ⟨Same.refl _, _, rng_get hlt, rfl⟩
def fRng1 (n : Int) : Option (List Int) := okIf (decide (-(2 ^ 62) ≤ n ∧ n < 2 ^ 62)) (rng 0 n)
theorem ri_rng1 {w : Bool} {ta : TA} {m : Em} {F : Gam ts → Option Int} (h : RA K ms ts ta m (.last .int) F) : RI K ms ts (iRng1 ta) w .int (e1 fRng1 F) := fun E L Γ σ H xt R ds o e q => by
  obtain ⟨n, en, e⟩ := bind_some e
  dsimp only [fRng1, okIf] at e
  split at e
  · rename_i hb
    cases e
    have hb := of_decide_eq_true hb
    refine h E L Γ σ H xt _ n o en fun vs H1 s1 r1 => ?_
    obtain ⟨v, rfl, rv⟩ : ∃ v, vs = [v] ∧ v = .int n := by
      cases m with
      | o =>
        obtain ⟨f, Lr, ⟨v, e1, k⟩, _⟩ := r1
        rcases k with k | ⟨_, _, k⟩
        · exact ⟨v, e1, k.2⟩
        · exact ⟨v, e1, k⟩
      | l => obtain ⟨Lr, ⟨v, e1, k⟩, _⟩ := r1; exact ⟨v, e1, k⟩
      | w => obtain ⟨Lr, ⟨v, e1, k⟩, _⟩ := r1; exact ⟨v, e1, k⟩
      | b => obtain ⟨v, e1, k⟩ := r1; exact ⟨v, e1, k⟩
    subst rv
    refine ⟨n, rfl, hb.1, hb.2, q _ H1 (fun _ => False) (fun _ => True) s1 (fun a h => h.elim) ?_ True.intro⟩
    have := iter_rng (K := K) (R := reg w E fun a => L a ∨ False) (lo := 0) (hi := n)
    rw [Int.sub_zero] at this
    exact this
  · cases e
def rowTys : Ty → List Ty
  | .last a => [a]
  | .cons a b => a :: rowTys b
  | _ => []
def noneG : (ls : List Ty) → Gam ls
  | [] => ()
  | _ :: ls => (none, noneG ls)
def iniG : (b : Ty) → (ls : List Ty) → den b → Gam (rowTys b ++ ls)
  | .last _, ls, d => (some d, noneG ls)
  | .cons _ b, ls, d => (some d.1, iniG b ls d.2)
  | .non, ls, _ => noneG ls
  | .bool, ls, _ => noneG ls
  | .int, ls, _ => noneG ls
  | .str, ls, _ => noneG ls
  | .any, ls, _ => noneG ls
  | .exn, ls, _ => noneG ls
  | .alt _ _, ls, _ => noneG ls
  | .opt _, ls, _ => noneG ls
  | .vtup _, ls, _ => noneG ls
  | .list _, ls, _ => noneG ls
  | .dict _ _, ls, _ => noneG ls
  | .own _, ls, _ => noneG ls
  | .hl _, ls, _ => noneG ls
  | .ins _ _ _, ls, _ => noneG ls
  | .tup _, ls, _ => noneG ls
def okMs : Ty → List Ty → List Md → Bool
  | .last _, ls, m :: ms => (m == .w || m == .f) && ms.length == ls.length
  | .cons _ b, ls, m :: ms => (m == .w || m == .f) && okMs b ls ms
  | _, _, _ => false
theorem rG_none : ∀ {ls : List Ty} {ms : List Md} {S0 L : Reg}, ms.length = ls.length → rG K H S0 L ms ls (noneG ls) (List.replicate ls.length none) []
  | [], [], _, _, _ => ⟨rfl, rfl⟩
  | _ :: ls, m :: ms, _, _, h => ⟨[], [], rfl, rfl, rG_none (by simpa using h)⟩
  | [], _ :: _, _, _, h => by simp at h
  | _ :: _, [], _, _, h => by simp at h
theorem rG_ini {S0 L : Reg} : ∀ (b : Ty) (ls : List Ty) (ms : List Md) (vs : List V) (d : den b), okMs b ls ms = true → (rS K H S0 b).2 vs d → rG K H S0 L ms (rowTys b ++ ls) (iniG b ls d) (vs.map some ++ List.replicate ls.length none) []
  | .last a, ls, m :: ms, vs, d, hk, h => by
    obtain ⟨v, rfl, r⟩ := h
    simp only [okMs, Bool.and_eq_true, Bool.or_eq_true, beq_iff_eq] at hk
    have r' : (rS K H (fun a => S0 a ∨ L a) a).1 v d := (rS_mono (Cov.of_reg fun a h _ => .inl h) (Stb.refl H) a).1 v d r
    refine ⟨[], [], rfl, ⟨v, rfl, ?_⟩, rG_none hk.2⟩
    rcases hk.1 with rfl | rfl
    · exact ⟨rfl, r'⟩
    · exact ⟨rfl, r'⟩
  | .cons a b, ls, m :: ms, vs, d, hk, h => by
    obtain ⟨v, r, rfl, r1, r2⟩ := h
    simp only [okMs, Bool.and_eq_true, Bool.or_eq_true, beq_iff_eq] at hk
    have r' : (rS K H (fun a => S0 a ∨ L a) a).1 v d.1 := (rS_mono (Cov.of_reg fun a h _ => .inl h) (Stb.refl H) a).1 v d.1 r1
    refine ⟨[], [], rfl, ⟨v, rfl, ?_⟩, rG_ini b ls ms r d.2 hk.2 r2⟩
    rcases hk.1 with rfl | rfl
    · exact ⟨rfl, r'⟩
    · exact ⟨rfl, r'⟩
  | .last _, _, [], _, _, hk, _ => by simp [okMs] at hk
  | .cons _ _, _, [], _, _, hk, _ => by simp [okMs] at hk
  | .non, _, _, _, _, hk, _ => by simp [okMs] at hk
  | .bool, _, _, _, _, hk, _ => by simp [okMs] at hk
  | .int, _, _, _, _, hk, _ => by simp [okMs] at hk
  | .str, _, _, _, _, hk, _ => by simp [okMs] at hk
  | .any, _, _, _, _, hk, _ => by simp [okMs] at hk
  | .exn, _, _, _, _, hk, _ => by simp [okMs] at hk
  | .alt _ _, _, _, _, _, hk, _ => by simp [okMs] at hk
  | .opt _, _, _, _, _, hk, _ => by simp [okMs] at hk
  | .vtup _, _, _, _, _, hk, _ => by simp [okMs] at hk
  | .list _, _, _, _, _, hk, _ => by simp [okMs] at hk
  | .dict _ _, _, _, _, _, hk, _ => by simp [okMs] at hk
  | .own _, _, _, _, _, hk, _ => by simp [okMs] at hk
  | .hl _, _, _, _, _, hk, _ => by simp [okMs] at hk
  | .ins _ _ _, _, _, _, _, hk, _ => by simp [okMs] at hk
  | .tup _, _, _, _, _, hk, _ => by simp [okMs] at hk
def CRep (K : KW) (S : Reg) (H H' : Hp) : Rm → (ρ : Ty) → V → den ρ → Prop
  | .o, ρ, v, d => ∃ f Lr, (rO K H' Lr ρ).1 v d f ∧ f.Nodup ∧ Nw H H' (· ∈ f) ∧ Nw H H' Lr ∧ ∀ a ∈ f, ¬ Lr a
  | .l, ρ, v, d => ∃ Lr, (rS K H' Lr ρ).1 v d ∧ Nw H H' Lr
  | .w, ρ, v, d => ∃ Lr, (rS K H' (fun a => S a ∨ Lr a) ρ).1 v d ∧ Nw H H' Lr
  | .x _ _, _, _, _ => False
def spP (K : KW) (b : Ty) (rm : Rm) (ρ : Ty) (m : den b → Option (den ρ)) : Sp := fun vs H Q _ => ∃ (S : Reg) (d : den b) (r : den ρ), (∀ a, S a → (H a).isSome = true) ∧ (rS K H S b).2 vs d ∧ m d = some r ∧ ∀ v' H', Same H H' → CRep K S H H' rm ρ v' r → Q v' H'
def endOf {G ρ : Type} : Option (Fl G ρ) → Option ρ
  | some (.rt r _) => some r
  | _ => none
def runG {ρ : Type} (b : Ty) (ls : List Ty) (F : Gam (rowTys b ++ ls) → Option (Fl (Gam (rowTys b ++ ls)) ρ)) (d : den b) : Option ρ := endOf (F (iniG b ls d))
theorem fn_ok {P : Program} {w : World} {mg : Str → Option Value} {base : Heap} {x qual : Str} {st : Stmt} {f : Addr} {fd : FuncData} {N ps : List Str} {k : Nat} {b : Ty} (ls : List Ty) (ms : List Md) {m : den b → Option (den ρ)} {F : Gam (rowTys b ++ ls) → Option (Fl (Gam (rowTys b ++ ls)) (den ρ))}
    (Fn : Fun K x qual st f fd) (S : FnScope N ps (defScope st)) (hps : ps.length = rowLen b) (hN : N.length = rowLen b + ls.length) (hms : okMs b ls ms = true) (hm : ∀ d, m d = runG b ls F d)
    (hbody : ∀ (cdv : Value) (A : Around) (outer : List Env) (s : Shared) (H : Hp) (E : XK), Room k (A.deeper (envOfC qual (defScope st) s.heap.objs.size f cdv)) →
      ∃ t, PSs (cxOf CX0 P w K mg base N qual (defScope st) f cdv A outer s H E).nox (defBody st) t ∧ RS K ms (rowTys b ++ ls) t rm ρ F) (hpl : rm.plain = true := by rfl) : FnOk P w K mg base CX0 (k + 1) f fd ps (spP K b rm ρ m) := by
  refine Fn.ok S (fun vs H Q E h => ?_) (fun cdv A outer s H vs Q E hr h => ?_)
  · obtain ⟨S, d, r, _, h2, _⟩ := h
    rw [row_length b vs d h2, hps]
  · obtain ⟨S, d, r, h1, h2, h3, h4⟩ := h
    obtain ⟨t, ht, hrs⟩ := hbody cdv A outer s H E hr
    refine ⟨t, ht, ?_⟩
    rw [hm d] at h3
    unfold runG at h3
    have hl := row_length b vs d h2
    have es : L2.start N vs = vs.map some ++ List.replicate ls.length none := by
      unfold L2.start
      rw [hl, hN, Nat.add_sub_cancel_left]
    rw [es]
    obtain ⟨fl, e1, e2⟩ : ∃ fl, F (iniG b ls d) = some fl ∧ endOf (some fl) = some r := by
      cases e : F (iniG b ls d) with
      | none => rw [e] at h3; cases h3
      | some fl => rw [e] at h3; exact ⟨fl, rfl, h3⟩
    cases fl with
    | nx _ => cases e2
    | bk _ => cases e2
    | ct _ => cases e2
    | rt r' Γ' =>
      cases e2
      have o : Own K ⟨H, S, []⟩ (fun _ => False) ms (rowTys b ++ ls) (iniG b ls d) (vs.map some ++ List.replicate ls.length none) H [] :=
        ⟨⟨[], rG_ini b ls ms vs d hms h2, by simp, fun a ha => by simp at ha⟩, fun a o h _ => h, fun a h => h.elim, fun a h => ⟨h1 a h, by simp⟩, fun a h => by simp at h⟩
      refine hrs ⟨H, S, []⟩ _ _ _ H _ _ o e1 fun L' σ' H' v xt o' ev rr => ?_
      have s' : Same H H' := fun a q h => o'.fr a q h (by simp)
      have nwL : Nw H H' L' := fun a h => ⟨(o'.lr a h).1.elim id fun z => by simp at z, (o'.lr a h).2⟩
      refine (RDel_plain K hpl).mpr (h4 v H' s' ?_)
      cases rm with
      | o =>
        obtain ⟨fp, _, nd, gd⟩ := o'.ex
        exact ⟨xt, L', rr, (List.nodup_append.mp nd).2.1, fun a ha => ⟨(gd a (List.mem_append_right _ ha)).new.elim id fun z => by simp at z, (gd a (List.mem_append_right _ ha)).at_⟩, nwL, fun a ha => (gd a (List.mem_append_right _ ha)).nl⟩
      | l => exact ⟨L', rr.2, nwL⟩
      | w => exact ⟨L', rr.2, nwL⟩
      | x W m => cases hpl
theorem Rep2.b {m : Em} {t : Ty} {vs : List V} {d : den t} (r : Rep2 K E L H H1 m t vs d) : (rS K H1 (fun _ => True) t).2 vs d := by
  cases m with
  | o =>
    obtain ⟨f, Lr, h1, _⟩ := r
    exact (rO_s (fun _ _ => True.intro) t).2 vs d f (fun _ _ => True.intro) h1
  | l =>
    obtain ⟨Lr, h1, _⟩ := r
    exact (rS_mono (Cov.of_reg fun _ _ _ => True.intro) (Stb.refl _) t).2 vs d h1
  | w =>
    obtain ⟨Lr, h1, _⟩ := r
    exact (rS_mono (Cov.of_reg fun _ _ _ => True.intro) (Stb.refl _) t).2 vs d h1
  | b => exact r
theorem rp_call {b : Ty} {mA : Em} {ta : TA} {m : den b → Option (den ρ)} {F : Gam ts → Option (den b)} {X : XK} (hk : (rm == .o || rm == .l) = true) (h : RA K ms ts ta mA b F) : RP K ms ts (tCall (spP K b rm ρ m) [] X ta) rm.em ρ (e1 m F) := fun E L Γ σ H xt Q d o e q => by
  obtain ⟨a, ea, e⟩ := bind_some e
  refine h E L Γ σ H xt _ a o ea fun vs H1 s1 r1 => ?_
  rw [List.append_nil]
  refine ⟨fun a => (H1 a).isSome = true, a, d, fun _ h => h, (rS_mono (Cov.of_reg fun _ _ h => h) (Stb.refl _) b).2 vs a r1.b, e, fun v' H2 s2 r2 => ?_⟩
  refine q v' H2 (s1.trans s2) (Rep.older s1 ?_)
  cases rm with
  | o =>
    obtain ⟨f, Lr, h1, h2, h3, h4, h5⟩ := r2
    exact ⟨f, Lr, (rO_mono (Cov.of_reg fun a h _ => .inr h) (Stb.refl _) ρ).1 v' d f (fun _ _ => rfl) h1, h2, h3, h4, h5⟩
  | l =>
    obtain ⟨Lr, h1, h2⟩ := r2
    exact ⟨Lr, (rS_mono (Cov.of_reg fun a h _ => .inr h) (Stb.refl _) ρ).1 v' d h1, h2⟩
  | w => exact absurd hk (by decide)
  | x W m => exact r2.elim
theorem f2_ints : ∀ ns : List Int, F2 (rS K H (fun a => (H a).isSome = true) .int).1 (ns.map V.int) ns
  | [] => True.intro
  | _ :: ns => ⟨rfl, f2_ints ns⟩
theorem law_sp {m : den (.last (.list .int)) → Option (den .bool)} (hm : ∀ ns : List Int, ns.length ≤ 63 → m ns = some true) {a : Addr} {ns : List Int} {X : XK} (hl : ns.length ≤ 63) (hS : SqL K H a (ns.map V.int)) : spP K (.last (.list .int)) .o .bool m [.ref a] H (fun v _ => v = .bl true) X :=
  ⟨fun a => (H a).isSome = true, ns, true, fun _ h => h, ⟨.ref a, rfl, a, ns.map V.int, rfl, LstR.of_seq hS, f2_ints ns⟩, hm ns hl, fun v' H' _ cr => by
    obtain ⟨f, Lr, h, _⟩ := cr
    exact h.2⟩
structure Df (K : PySem.W.Frag) (mg : Str → Option Value) (x qual : Str) (st : Stmt) (ps : List Str) (f : Addr) (fd : FuncData) : Prop where
  fn : Fun K x qual st f fd
  gl : mg x = some (.ref f)
  bi : Binds K fd ps []
theorem hu65 {k : Nat} {A : Around} (hr : Room k A) : A.units + 65 < cLine := by
  have := hr.un
  omega
end
end VV
namespace VV
open PySem L2
open PyProof.Rows hiding St
section
variable {K : KW} {E : Ent} {ms : List Md} {ts : List Ty} {L L1 : Reg} {Γ Γ1 : Gam ts} {σ σ1 : St} {H H' H1 H2 : Hp} {xt : List Addr} {rm : Rm} {ρ : Ty}
def RepL (K : KW) (E : Ent) (L : Reg) (H H' : Hp) : Em → (t : Ty) → List V → List (den t) → Prop
  | .o, t, vs, ds => ∃ f Lr, F3 (kid t.isOwn (rS K H' (fun a => L a ∨ Lr a) t).1 (rO K H' (fun a => L a ∨ Lr a) t).1) vs ds f ∧ f.Nodup ∧ Nw H H' (· ∈ f) ∧ Nw H H' Lr ∧ ∀ a ∈ f, ¬ Lr a
  | .l, t, vs, ds => ∃ Lr, F2 (rS K H' (fun a => L a ∨ Lr a) t).1 vs ds ∧ Nw H H' Lr
  | .w, t, vs, ds => ∃ Lr, F2 (rS K H' (fun a => E.S0 a ∨ L a ∨ Lr a) t).1 vs ds ∧ Nw H H' Lr
  | .b, t, vs, ds => F2 (rS K H' (fun _ => True) t).1 vs ds
def RL (K : KW) (ms : List Md) (ts : List Ty) (ta : TA) (m : Em) (t : Ty) (F : Gam ts → Option (List (den t))) : Prop :=
  ∀ (E : Ent) (L : Reg) (Γ : Gam ts) (σ : St) (H : Hp) (xt : List Addr) (Q : List V → Hp → Prop) (d : List (den t)), Own K E L ms ts Γ σ H xt → F Γ = some d → (∀ vs H', Same H H' → RepL K E L H H' m t vs d → Q vs H') → ta σ H Q
theorem rl_nil {m : Em} {t : Ty} : RL K ms ts tNil m t eNil := fun E L Γ σ H xt Q d o e q => by
  cases e
  refine q [] H (Same.refl H) ?_
  cases m with
  | o => exact ⟨[], fun _ => False, rfl, List.nodup_nil, fun a h => by simp at h, fun a h => h.elim, fun a h => by simp at h⟩
  | l => exact ⟨fun _ => False, True.intro, fun a h => h.elim⟩
  | w => exact ⟨fun _ => False, True.intro, fun a h => h.elim⟩
  | b => exact True.intro
theorem nw_old {R : Reg} (s1 : Same H H1) (h : Nw H1 H2 R) : Nw H H2 R := fun a ha => ⟨s1.free (h a ha).1, (h a ha).2⟩
theorem nw_on {R : Reg} (s2 : Same H1 H2) (h : Nw H H1 R) : Nw H H2 R := fun a ha => ⟨(h a ha).1, by rw [same_at s2 (h a ha).2]; exact (h a ha).2⟩
theorem nw_apart {R R' : Reg} (h : Nw H H1 R) (h' : Nw H1 H2 R') : ∀ a, R a → ¬ R' a := fun a ha hb => by
  have := (h a ha).2
  rw [(h' a hb).1] at this
  cases this
theorem rl_cons {m : Em} {t : Ty} {te : TE} {ta : TA} {F : Gam ts → Option (den t)} {G : Gam ts → Option (List (den t))} (h : RP K ms ts te m t F) (hr : RL K ms ts ta m t G) : RL K ms ts (tCons te ta) m t (eSnoc F G) := fun E L Γ σ H xt Q d o e q => by
  obtain ⟨a, ea, e⟩ := bind_some e
  obtain ⟨r, er, e⟩ := bind_some e
  cases e
  refine h E L Γ σ H xt _ a o ea fun v H1 s1 r1 => hr E L Γ σ H1 xt _ r (o.same s1) er fun vs H2 s2 r2 => q (v :: vs) H2 (s1.trans s2) ?_
  cases m with
  | o =>
    obtain ⟨f, Lr, h1, h2, h3, h4, h5⟩ := r1
    obtain ⟨g, Ls, k1, k2, k3, k4, k5⟩ := r2
    have e1 : (rO K H2 (fun a => L a ∨ (Lr a ∨ Ls a)) t).1 v a f := (rO_mono (Cov.of_same s2 fun a h _ => h.elim .inl fun z => .inr (.inl z)) (Stb.of_same s2) t).1 v a f (fun a ha => same_at s2 (h3 a ha).2) h1
    have e2 : F3 (kid t.isOwn (rS K H2 (fun a => L a ∨ (Lr a ∨ Ls a)) t).1 (rO K H2 (fun a => L a ∨ (Lr a ∨ Ls a)) t).1) vs r g := k1.imp fun v d g' _ x => kid_mono ((rS_mono (Cov.of_reg fun a h _ => h.elim .inl fun z => .inr (.inr z)) (Stb.refl _) t).1 v d) ((rO_mono (Cov.of_reg fun a h _ => h.elim .inl fun z => .inr (.inr z)) (Stb.refl _) t).1 v d g' fun _ _ => rfl) x
    refine ⟨f ++ g, fun a => Lr a ∨ Ls a, ⟨f, g, rfl, .inl e1, e2⟩, List.nodup_append.mpr ⟨h2, k2, fun a ha b hb z => ?_⟩, fun a ha => ?_, fun a ha => ?_, fun a ha => ?_⟩
    · subst z
      exact nw_apart h3 k3 a ha hb
    · rcases List.mem_append.mp ha with z | z
      · exact nw_on s2 h3 a z
      · exact nw_old s1 k3 a z
    · rcases ha with z | z
      · exact nw_on s2 h4 a z
      · exact nw_old s1 k4 a z
    · rcases List.mem_append.mp ha with z | z
      · exact fun y => y.elim (h5 a z) (nw_apart h3 k4 a z)
      · exact fun y => y.elim (fun y => nw_apart h4 k3 a y z) (k5 a z)
  | l =>
    obtain ⟨Lr, h1, h2⟩ := r1
    obtain ⟨Ls, k1, k2⟩ := r2
    refine ⟨fun a => Lr a ∨ Ls a, ⟨(rS_mono (Cov.of_same s2 fun a h _ => h.elim .inl fun z => .inr (.inl z)) (Stb.of_same s2) t).1 v a h1, k1.imp fun v d x => (rS_mono (Cov.of_reg fun a h _ => h.elim .inl fun z => .inr (.inr z)) (Stb.refl _) t).1 v d x⟩, fun a ha => ?_⟩
    rcases ha with z | z
    · exact nw_on s2 h2 a z
    · exact nw_old s1 k2 a z
  | w =>
    obtain ⟨Lr, h1, h2⟩ := r1
    obtain ⟨Ls, k1, k2⟩ := r2
    refine ⟨fun a => Lr a ∨ Ls a, ⟨(rS_mono (Cov.of_same s2 fun a h _ => h.elim .inl fun z => z.elim (fun z => .inr (.inl z)) fun z => .inr (.inr (.inl z))) (Stb.of_same s2) t).1 v a h1,
      k1.imp fun v d x => (rS_mono (Cov.of_reg fun a h _ => h.elim .inl fun z => z.elim (fun z => .inr (.inl z)) fun z => .inr (.inr (.inr z))) (Stb.refl _) t).1 v d x⟩, fun a ha => ?_⟩
    rcases ha with z | z
    · exact nw_on s2 h2 a z
    · exact nw_old s1 k2 a z
  | b => exact ⟨(rS_mono (Cov.of_same s2 fun a h _ => h) (Stb.of_same s2) t).1 v a r1, r2⟩
def rowSmall (b : Ty) : Bool := decide (rowLen b ≤ 1000)
theorem line_1000 {n : Nat} (h : n ≤ 1000) : n ≤ sizeLine := by rw [sizeLine_eq]; omega
theorem Rep2.len {m : Em} {b : Ty} {vs : List V} {d : den b} (r : Rep2 K E L H H1 m b vs d) : vs.length = rowLen b := row_length b vs d r.b
theorem rp_tup {m : Em} {b : Ty} {ta : TA} {F : Gam ts → Option (den b)} (h : RA K ms ts ta m b F) (hs : rowSmall b = true := by rfl) : RP K ms ts (tTup ta) m (.tup b) F := fun E L Γ σ H xt Q d o e q => by
  refine h E L Γ σ H xt _ d o e fun vs H1 s1 r1 => ?_
  refine ⟨by rw [r1.len]; exact line_1000 (of_decide_eq_true hs), fun p hp => ?_⟩
  have s2 : Same H1 (upd H1 p (.tup vs)) := same_new hp
  refine q (.ref p) _ (s1.trans s2) ?_
  cases m with
  | o =>
    obtain ⟨f, Lr, h1, h2, h3, h4, h5⟩ := r1
    exact ⟨f, Lr, ⟨p, vs, rfl, upd_same, (rO_mono (Cov.of_same s2 fun a h _ => h) (Stb.of_same s2) b).2 vs d f (fun a ha => same_at s2 (h3 a ha).2) h1⟩, h2, nw_on s2 h3, nw_on s2 h4, h5⟩
  | l =>
    obtain ⟨Lr, h1, h2⟩ := r1
    exact ⟨Lr, ⟨p, vs, rfl, upd_same, (rS_mono (Cov.of_same s2 fun a h _ => h) (Stb.of_same s2) b).2 vs d h1⟩, nw_on s2 h2⟩
  | w =>
    obtain ⟨Lr, h1, h2⟩ := r1
    exact ⟨Lr, ⟨p, vs, rfl, upd_same, (rS_mono (Cov.of_same s2 fun a h _ => h) (Stb.of_same s2) b).2 vs d h1⟩, nw_on s2 h2⟩
  | b => exact ⟨p, vs, rfl, upd_same, (rS_mono (Cov.of_same s2 fun a h _ => h) (Stb.of_same s2) b).2 vs d r1⟩
theorem RepL.len {m : Em} {t : Ty} {vs : List V} {d : List (den t)} (r : RepL K E L H H1 m t vs d) : vs.length = d.length := by
  cases m with
  | o => obtain ⟨f, Lr, h1, _⟩ := r; exact h1.length
  | l => obtain ⟨Lr, h1, _⟩ := r; exact h1.length
  | w => obtain ⟨Lr, h1, _⟩ := r; exact h1.length
  | b => exact F2.length r
def fSmall {α : Type} (d : List α) : Option (List α) := okIf (decide (d.length ≤ 1000)) d
theorem rp_vtup {m : Em} {t : Ty} {ta : TA} {F : Gam ts → Option (List (den t))} (h : RL K ms ts ta m t F) : RP K ms ts (tTup ta) m (.vtup t) (e1 fSmall F) := fun E L Γ σ H xt Q d o e q => by
  obtain ⟨d', e1, e2⟩ := bind_some e
  dsimp only [fSmall, okIf] at e2
  split at e2
  · rename_i hz
    cases e2
    refine h E L Γ σ H xt _ d o e1 fun vs H1 s1 r1 => ?_
    refine ⟨by rw [r1.len]; exact line_1000 (of_decide_eq_true hz), fun p hp => ?_⟩
    have s2 : Same H1 (upd H1 p (.tup vs)) := same_new hp
    refine q (.ref p) _ (s1.trans s2) ?_
    cases m with
    | o =>
      obtain ⟨f, Lr, h1, h2, h3, h4, h5⟩ := r1
      exact ⟨f, Lr, ⟨p, vs, rfl, upd_same, h1.imp fun v d g hg x => kid_mono ((rS_mono (Cov.of_same s2 fun a h _ => h) (Stb.of_same s2) t).1 v d) ((rO_mono (Cov.of_same s2 fun a h _ => h) (Stb.of_same s2) t).1 v d g fun a ha => same_at s2 (h3 a (hg a ha)).2) x⟩, h2, nw_on s2 h3, nw_on s2 h4, h5⟩
    | l =>
      obtain ⟨Lr, h1, h2⟩ := r1
      exact ⟨Lr, ⟨p, vs, rfl, upd_same, h1.imp (rS_mono (Cov.of_same s2 fun a h _ => h) (Stb.of_same s2) t).1⟩, nw_on s2 h2⟩
    | w =>
      obtain ⟨Lr, h1, h2⟩ := r1
      exact ⟨Lr, ⟨p, vs, rfl, upd_same, h1.imp (rS_mono (Cov.of_same s2 fun a h _ => h) (Stb.of_same s2) t).1⟩, nw_on s2 h2⟩
    | b => exact ⟨p, vs, rfl, upd_same, F2.imp (rS_mono (Cov.of_same s2 fun a h _ => h) (Stb.of_same s2) t).1 r1⟩
  · cases e2
theorem rp_list {t : Ty} {ta : TA} {F : Gam ts → Option (List (den t))} (h : RL K ms ts ta .o t F) : RP K ms ts (tLst ta) .o (.list t) (e1 fSmall F) := fun E L Γ σ H xt Q d o e q => by
  obtain ⟨d', e1, e2⟩ := bind_some e
  dsimp only [fSmall, okIf] at e2
  split at e2
  · rename_i hz
    cases e2
    refine h E L Γ σ H xt _ d o e1 fun vs H1 s1 r1 => ?_
    refine ⟨by rw [r1.len]; exact line_1000 (of_decide_eq_true hz), fun p hp => ?_⟩
    have s2 : Same H1 (upd H1 p (.lst vs)) := same_new hp
    refine q (.ref p) _ (s1.trans s2) ?_
    obtain ⟨f, Lr, h1, h2, h3, h4, h5⟩ := r1
    have pf : p ∉ f := fun z => by
      have := (h3 p z).2
      rw [hp] at this
      cases this
    have pl : ¬ Lr p := fun z => by
      have := (h4 p z).2
      rw [hp] at this
      cases this
    refine ⟨p :: f, Lr, ⟨p, vs, f, rfl, rfl, upd_same, h1.imp fun v d g hg x => kid_mono ((rS_mono (Cov.of_same s2 fun a h _ => h) (Stb.of_same s2) t).1 v d) ((rO_mono (Cov.of_same s2 fun a h _ => h) (Stb.of_same s2) t).1 v d g fun a ha => same_at s2 (h3 a (hg a ha)).2) x⟩,
      List.nodup_cons.mpr ⟨pf, h2⟩, fun a ha => ?_, nw_on s2 h4, fun a ha => ?_⟩
    · rcases List.mem_cons.mp ha with rfl | ha
      · exact ⟨s1.free hp, by rw [upd_same]; rfl⟩
      · exact nw_on s2 h3 a ha
    · rcases List.mem_cons.mp ha with rfl | ha
      · exact pl
      · exact h5 a ha
  · cases e2
theorem rp_dnewK {k t : Ty} (hk : k.tk = false := by rfl) : RP K ms ts tDNewK .o (.dict k t) eNil := fun E L Γ σ H xt Q d o e q => by
  cases e
  refine fun p hp => q (.ref p) _ (same_new hp) ⟨[p], fun _ => False, ⟨p, [], rfl, rfl, .inl ⟨hk, [], upd_same, rfl⟩⟩, by simp, fun a ha => ?_, fun a h => h.elim, fun a _ h => h⟩
  have ha : a = p := by simpa using ha
  subst ha
  exact ⟨hp, by rw [upd_same]; rfl⟩
theorem f2_atI {α : Type} {P : V → α → Prop} {vs : List V} {ds : List α} {i : Int} {d : α} (h : F2 P vs ds) (e : atI ds i = some d) : ∃ v, atI vs i = some v ∧ P v d := by
  unfold atI at e ⊢
  rw [h.length]
  obtain ⟨j, e1, e2⟩ := bind_some e
  obtain ⟨v, h1, h2⟩ := h.get e2
  exact ⟨v, by rw [e1]; exact h1, h2⟩
theorem v_ixL {t : Ty} : V2 K (rIxL K) .b (.list t) .int t atI := fun E L H v w a b c Q ra rb e q => by
  obtain ⟨p, vs, rfl, h1, h2⟩ := ra
  cases rb
  obtain ⟨x, h3, h4⟩ := f2_atI h2 e
  exact ⟨p, vs, b, x, rfl, rfl, h1.seq, h3, q x H (Same.refl H) h4⟩
theorem v_ixV {t : Ty} : V2 K (rIxT K) .b (.vtup t) .int t atI := fun E L H v w a b c Q ra rb e q => by
  obtain ⟨p, vs, rfl, h1, h2⟩ := ra
  cases rb
  obtain ⟨x, h3, h4⟩ := f2_atI h2 e
  exact ⟨p, vs, b, x, rfl, rfl, .of h1, h3, q x H (Same.refl H) h4⟩
def fIxS (x : Str) (i : Int) : Option Str := if lenOk x.length = true then (atI x.cps.toList i).map fun c => ⟨#[c]⟩ else none
theorem mem_atI {α : Type} {xs : List α} {i : Int} {x : α} (h : atI xs i = some x) : x ∈ xs := by
  obtain ⟨j, _, h2⟩ := bind_some (show (ixN xs.length i).bind (fun j => xs[j]?) = some x from h)
  exact List.mem_of_getElem? h2
theorem v_ixS {m : Em} : V2 K rIxS m .str .int .str fIxS := fun E L H v w a b c Q ra rb e q => by
  obtain ⟨rfl, hok⟩ := ra
  cases rb
  dsimp only [fIxS] at e
  split at e
  · rename_i hz
    obtain ⟨x, h1, h2⟩ := Option.map_eq_some_iff.mp e
    exact ⟨a, b, x, rfl, rfl, of_decide_eq_true hz, h1, q _ H (Same.refl H) (rep_atom rfl (by
      rw [← h2]
      refine ⟨rfl, ?_⟩
      have := mem_atI h1
      unfold PyData.strOk at hok ⊢
      rw [Array.all_eq_true'] at hok
      simpa using hok x (by simpa using this)))⟩
  · cases e
inductive RIx : Ty → Ty → Type where
  | one {a : Ty} : RIx (.last a) a
  | z {a b : Ty} : RIx (.cons a b) a
  | s {a b t : Ty} : RIx b t → RIx (.cons a b) t
def RIx.ix : {b t : Ty} → RIx b t → Nat
  | _, _, .one => 0
  | _, _, .z => 0
  | _, _, .s r => r.ix + 1
def RIx.get : {b t : Ty} → RIx b t → den b → den t
  | _, _, .one, d => d
  | _, _, .z, d => d.1
  | _, _, .s r, d => r.get d.2
theorem row_get {R : Reg} : ∀ {b t : Ty} (r : RIx b t) {vs : List V} {d : den b}, (rS K H R b).2 vs d → ∃ v, vs[r.ix]? = some v ∧ (rS K H R t).1 v (r.get d)
  | _, _, .one, _, _, h => by
    obtain ⟨v, rfl, h⟩ := h
    exact ⟨v, rfl, h⟩
  | _, _, .z, _, _, h => by
    obtain ⟨v, r, rfl, h1, _⟩ := h
    exact ⟨v, rfl, h1⟩
  | _, _, .s r, _, _, h => by
    obtain ⟨v, vs, rfl, _, h2⟩ := h
    obtain ⟨x, e1, e2⟩ := row_get r h2
    exact ⟨x, by simpa [RIx.ix] using e1, e2⟩
def eProj {G : Type} {b t : Ty} (r : RIx b t) (F : G → Option (den b)) : G → Option (den t) := fun Γ => (F Γ).bind fun d => some (r.get d)
theorem rp_proj {b t : Ty} {m : Em} {ta : TE} {F : Gam ts → Option (den b)} (r : RIx b t) (n : Nat) {i : Int} (h : RP K ms ts ta m (.tup b) F) (hn : r.ix = n := by rfl) (hi : i = (n : Int) := by rfl) : RP K ms ts (tOp (rIxT K) ta (tC (.int i))) .b t (eProj r F) := fun E L Γ σ H xt Q d o e q => by
  obtain ⟨a, ea, e⟩ := bind_some e
  cases e
  subst hn
  subst hi
  refine h E L Γ σ H xt _ a o ea fun v H1 s1 r1 => ?_
  obtain ⟨p, vs, rfl, h1, h2⟩ := r1.b
  obtain ⟨x, h3, h4⟩ := row_get r h2
  exact ⟨p, vs, _, x, rfl, rfl, .of h1, atI_nat h3, q x H1 s1 h4⟩
def RO (K : KW) (ms : List Md) (ts : List Ty) (to : TO) (F : Gam ts → Option (Option Int)) : Prop :=
  ∀ (E : Ent) (L : Reg) (Γ : Gam ts) (σ : St) (H : Hp) (xt : List Addr) (Q : Option Int → Hp → Prop) (d : Option Int), Own K E L ms ts Γ σ H xt → F Γ = some d → (∀ H', Same H H' → Q d H') → to σ H Q
theorem ro_none : RO K ms ts tNoPart (eC none) := fun E L Γ σ H xt Q d o e q => by
  cases e
  exact q H (Same.refl H)
theorem ro_some {te : TE} {m : Em} {F : Gam ts → Option Int} (h : RP K ms ts te m .int F) : RO K ms ts (tPart te) (e1 (fun i => some (some i)) F) := fun E L Γ σ H xt Q d o e q => by
  obtain ⟨a, ea, e⟩ := bind_some e
  cases e
  exact h E L Γ σ H xt _ a o ea fun v H1 s1 r1 => ⟨a, r1.b, q H1 s1⟩
def cutD {α : Type} (xs : List α) (lo hi : Option Int) : List α := (xs.drop (HT.sIx xs.length 0 lo)).take (HT.sIx xs.length xs.length hi - HT.sIx xs.length 0 lo)
theorem f2_cut {α : Type} {P : V → α → Prop} {vs : List V} {ds : List α} {lo hi : Option Int} (h : F2 P vs ds) : F2 P (cutV vs lo hi) (cutD ds lo hi) := by
  unfold cutV cutD
  rw [h.length]
  exact (h.drop _).take _
abbrev fCutL {α : Type} (xs : List α) (lo hi : Option Int) : Option (List α) := some (cutD xs lo hi)
theorem rp_sliceL {t : Ty} {m : Em} {te : TE} {tl th : TO} {F : Gam ts → Option (List (den t))} {Fl Fh : Gam ts → Option (Option Int)} (h : RP K ms ts te m (.list t) F) (hl : RO K ms ts tl Fl) (hh : RO K ms ts th Fh) (hf : t.frz = true := by rfl) :
    RP K ms ts (tSl (rSlL K) te tl th) .o (.list t) (e3 fCutL F Fl Fh) := fun E L Γ σ H xt Q d o e q => by
  obtain ⟨a, ea, e⟩ := bind_some e
  obtain ⟨lo, el, e⟩ := bind_some e
  obtain ⟨hi, eh, e⟩ := bind_some e
  cases e
  refine h E L Γ σ H xt _ a o ea fun v H1 s1 r1 => ?_
  refine hl E L Γ σ H1 xt _ lo (o.same s1) el fun H2 s2 => ?_
  refine hh E L Γ σ H2 xt _ hi ((o.same s1).same s2) eh fun H3 s3 => ?_
  have s13 := s2.trans s3
  obtain ⟨p, vs, rfl, h1, h2⟩ := (rS_mono (Cov.of_same s13 fun _ h _ => h) (Stb.of_same s13) (.list t)).1 v a r1.b
  refine ⟨p, vs, rfl, h1.seq, fun l hn => ?_⟩
  have s4 : Same H3 (upd H3 l (.lst (cutV vs lo hi))) := same_new hn
  refine q (.ref l) _ (s1.trans (s13.trans s4)) ⟨[l], fun _ => False, ⟨l, _, [], rfl, rfl, upd_same, F3.of2 (fun v d x => .inl ((rS_o t hf).1 v d x)) ((f2_cut h2).imp (rS_mono (Cov.of_same s4 fun _ h _ => h) (Stb.of_same s4) t).1)⟩, by simp, fun a ha => ?_, fun a h => h.elim, fun a _ h => h⟩
  have ha : a = l := by simpa using ha
  subst ha
  exact ⟨(s1.trans s13).free hn, by rw [upd_same]; rfl⟩
def fLen {α : Type} (xs : List α) : Option Int := some xs.length
theorem rp_lenL {t : Ty} {m m' : Em} {te : TE} {F : Gam ts → Option (List (den t))} (h : RP K ms ts te m' (.list t) F) : RP K ms ts (tCB (fun xs H Q => ∃ x n, xs = [x] ∧ LenV K x H n ∧ Q (.int n) H) (tCons te tNil)) m .int (e1 fLen F) := fun E L Γ σ H xt Q d o e q => by
  obtain ⟨a, ea, e⟩ := bind_some e
  cases e
  refine h E L Γ σ H xt _ a o ea fun v H1 s1 r1 => ?_
  obtain ⟨p, vs, rfl, h1, h2⟩ := r1.b
  exact ⟨_, _, rfl, .inl ⟨vs, h1.seq, rfl⟩, q _ H1 s1 (rep_atom rfl (by rw [h2.length]; rfl))⟩
theorem rp_lenV {t : Ty} {m m' : Em} {te : TE} {F : Gam ts → Option (List (den t))} (h : RP K ms ts te m' (.vtup t) F) : RP K ms ts (tCB (fun xs H Q => ∃ x n, xs = [x] ∧ LenV K x H n ∧ Q (.int n) H) (tCons te tNil)) m .int (e1 fLen F) := fun E L Γ σ H xt Q d o e q => by
  obtain ⟨a, ea, e⟩ := bind_some e
  cases e
  refine h E L Γ σ H xt _ a o ea fun v H1 s1 r1 => ?_
  obtain ⟨p, vs, rfl, h1, h2⟩ := r1.b
  exact ⟨_, _, rfl, .inr ⟨vs, .of h1, rfl⟩, q _ H1 s1 (rep_atom rfl (by rw [h2.length]; rfl))⟩
def sApp {ρ : Type} {ts : List Ty} {t : Ty} (i : Mem ts (.list t)) (F : Gam ts → Option (den t)) : Gam ts → Option (Fl (Gam ts) ρ) := fun Γ => (i.get Γ).bind fun xs => (F Γ).bind fun d => if xs.length < sizeLine then some (.nx (i.set (some (xs ++ [d])) Γ)) else none
theorem rs_app {t : Ty} (i : Mem ts (.list t)) {n : Nat} {te : TE} {F : Gam ts → Option (den t)} (h : RP K ms ts te .o t F) {mo : Md} (hm : ms[i.ix]? = some mo := by rfl) (ho : mo.own = true := by rfl) (hn : i.ix = n := by rfl) : RS K ms ts (tDrop (tBM K "list" rAppend (tVar n) (tCons te tNil))) rm ρ (sApp i F) := fun E L Γ σ H D f o e p => by
  subst hn
  obtain ⟨xs, e1, e⟩ := bind_some e
  obtain ⟨d, e2, e⟩ := bind_some e
  split at e
  · rename_i hz
    cases e
    obtain ⟨s0, f0, q1, q2, q3, q4, q5⟩ := o.focus i hm
    rw [e1] at q2
    obtain ⟨v, rfl, q2⟩ := q2
    obtain ⟨a, vs, g, rfl, rfl, hl, hk⟩ := (repM_own ho).mp q2
    refine ⟨_, q1, .inl ⟨rfl, vs, .of hl⟩, h E L Γ σ H [] _ d o e2 fun w H1 s1 r1 => ?_⟩
    obtain ⟨fd, Lr, h1, h2, h3, h4, h5⟩ := r1
    have hl1 := s1 _ _ hl
    refine ⟨a, vs, w, rfl, rfl, hl1, by rw [hk.length]; exact hz, ?_⟩
    have hnd := List.nodup_cons.mp q3
    have ga := (q4 a List.mem_cons_self).1
    have gg : ∀ b ∈ g, Good E L H b := fun b hb => (q4 b (List.mem_cons_of_mem _ hb)).1
    have na : ∀ b ∈ fd, b ≠ a := fun b hb z => by
      subst z
      have := (h3 b hb).1
      rw [hl] at this
      cases this
    have st : Stb H (upd H1 a (.lst (vs ++ [w]))) := (Stb.of_same s1).trans (Stb.upd hl1 rfl)
    have oth : ∀ b, (H b).isSome = true → b ≠ a → upd H1 a (.lst (vs ++ [w])) b = H b := fun b hb hne => by rw [upd_ne hne]; exact same_at s1 hb
    have covL : Cov H (upd H1 a (.lst (vs ++ [w]))) L (fun b => L b ∨ Lr b) := fun b q hb x => by
      refine ⟨.inl hb, ?_⟩
      rw [oth b (o.lr b hb).2 fun z => ga.nl (z ▸ hb)]
      exact x
    have cov1 : Cov H1 (upd H1 a (.lst (vs ++ [w]))) (fun b => L b ∨ Lr b) (fun b => L b ∨ Lr b) := fun b q hb x => by
      refine ⟨hb, ?_⟩
      have hne : b ≠ a := fun z => by
        subst z
        rcases hb with hb | hb
        · exact ga.nl hb
        · have := (h4 b hb).1
          rw [hl] at this
          cases this
      rw [upd_ne hne]
      exact x
    have k1 : F3 (kid t.isOwn (rS K (upd H1 a (.lst (vs ++ [w]))) (fun b => L b ∨ Lr b) t).1 (rO K (upd H1 a (.lst (vs ++ [w]))) (fun b => L b ∨ Lr b) t).1) vs xs g :=
      hk.imp fun v d g' hg x => kid_mono ((rS_mono covL st t).1 v d) ((rO_mono covL st t).1 v d g' fun b hb => oth b (gg b (hg b hb)).at_ fun z => hnd.1 (z ▸ hg b hb)) x
    have k2 : (rO K (upd H1 a (.lst (vs ++ [w]))) (fun b => L b ∨ Lr b) t).1 w d fd := (rO_mono cov1 (Stb.upd hl1 rfl) t).1 w d fd (fun b hb => upd_ne (na b hb)) h1
    have k3 := F3.append k1 (show F3 _ [w] [d] fd from ⟨fd, [], by simp, .inl k2, rfl⟩)
    have up : ∀ b, (H1 b).isSome = true → (upd H1 a (.lst (vs ++ [w])) b).isSome = true := fun b hb => by
      by_cases z : b = a
      · rw [z, upd_same]; rfl
      · rw [upd_ne z]; exact hb
    have upH : ∀ b, (H b).isSome = true → (upd H1 a (.lst (vs ++ [w])) b).isSome = true := fun b hb => up b (by rw [same_at s1 hb]; exact hb)
    have gfd : ∀ b ∈ g, b ∉ fd := fun b hb z => by
      have := (gg b hb).at_
      rw [(h3 b z).1] at this
      cases this
    have o' := q5 (upd H1 a (.lst (vs ++ [w]))) (fun b => L b ∨ Lr b) (some (xs ++ [d])) (some (.ref a)) (a :: (g ++ fd)) [] (fun b hb hnf _ => oth b hb fun z => hnf (z ▸ List.mem_cons_self)) st (fun _ h => .inl h)
      (fun b hb => hb.elim .inl fun z => .inr (.inr (.inr (h4 b z).1))) upH
      (fun b hb => hb.elim (fun z => ⟨(o.lr b z).1, upH b (o.lr b z).2⟩) fun z => ⟨.inl (o.fresh (h4 b z).1).1, up b (h4 b z).2⟩)
      ⟨.ref a, rfl, (repM_own ho).mpr ⟨a, vs ++ [w], g ++ fd, rfl, rfl, upd_same, k3⟩⟩
      (by
        rw [List.append_nil]
        refine List.nodup_cons.mpr ⟨fun z => ?_, List.nodup_append.mpr ⟨hnd.2, h2, fun b hb c hc z => gfd b hb (z ▸ hc)⟩⟩
        rcases List.mem_append.mp z with z | z
        · exact hnd.1 z
        · exact na a z rfl)
      (fun b hb => by
        have hb : b ∈ a :: (g ++ fd) := by simpa using hb
        rcases List.mem_cons.mp hb with rfl | hb
        · refine ⟨.inl List.mem_cons_self, fun z => z.elim ga.nl fun z => ?_, by rw [upd_same]; rfl⟩
          have := (h4 b z).1
          rw [hl] at this
          cases this
        · rcases List.mem_append.mp hb with hb | hb
          · refine ⟨.inl (List.mem_cons_of_mem _ hb), fun z => z.elim (gg b hb).nl fun z => ?_, upH b (gg b hb).at_⟩
            have := (gg b hb).at_
            rw [(h4 b z).1] at this
            cases this
          · exact ⟨.inr (.inr (h3 b hb).1), fun z => z.elim (o.fresh (h3 b hb).1).2.1 (h5 b hb), up b (h3 b hb).2⟩)
    have es : σ.set i.ix (some (V.ref a)) = σ := by
      refine List.ext_getElem? fun n => ?_
      by_cases hn : n = i.ix
      · subst hn
        rw [List.getElem?_set_self (List.getElem?_eq_some_iff.mp q1).1]
        exact q1.symm
      · rw [List.getElem?_set_ne (Ne.symm hn)]
    rw [es] at o'
    refine p _ σ _ o' ⟨fun _ h => .inl h, fun b q hb x => ?_, st, keepF_set0 i hm (own_hard ho) _⟩
    rw [oth b (o.lr b hb).2 fun z => ga.nl (z ▸ hb)]
    exact x
  · cases e
end
end VV
namespace L2
open PySem PySem.Spec PyProof.Rows
section
variable {X : Cx}
def rCatR (K : PySem.W.Frag) : R2 := fun x y H Q => ∃ l b xs zs, x = .ref l ∧ y = .ref b ∧ SqL K H l xs ∧ SqL K H b zs ∧ xs.length + zs.length ≤ sizeLine ∧ ∀ p, H p = none → Q (.ref p) (upd H p (.lst (xs ++ zs)))
theorem op_catR : OpR X (binaryOp .Add) (rCatR X.K) := by
  intro pins s σ H x y v u Q I rx ry h
  obtain ⟨l, b, xs, zs, rfl, rfl, hH, hB, hz, q⟩ := h
  cases rx
  cases ry
  obtain ⟨its, r, pl, _⟩ := I.list hH
  obtain ⟨its2, r2, pl2, _⟩ := I.list hB
  have hl := r.length
  have hl2 := r2.length
  obtain ⟨⟨cls, dd, data, sl⟩, ho, hc, n, hd⟩ := id pl.isList
  obtain ⟨⟨cls2, dd2, data2, sl2⟩, ho2, hc2, n2, hd2⟩ := id pl2.isList
  simp only at hc hd hc2 hd2
  subst hc hd hc2 hd2
  have ea : its.toArray ++ its2.toArray = (its ++ its2).toArray := by simp
  refine concat_meets ⟨_, ho, rfl⟩ ⟨_, ho2, rfl⟩ noFill_list_add seq_list_add PySem.F.slot_list_add PySem.F.entry_list_add (PySem.F.args_list_add_2 _ _) (PyProof.Rows.list_addW l b its.toArray its2.toArray n n2 dd dd2 sl sl2 (by rw [List.size_toArray, List.size_toArray]; omega)) ⟨ho, ho2, ?_⟩
  rw [ea]
  exact ⟨.ref _, _, I.lnew (t' := s.toks) (r.append r2) (by rw [List.length_append]; omega), rfl, q _ I.fresh⟩
theorem foldRep_size {α : Type} (a : Array α) : ∀ (k : Nat) (acc : Array α), (List.foldl (fun x1 x2 => x1 ++ x2) acc (List.replicate k a)).size = acc.size + k * a.size
  | 0, acc => by simp
  | k + 1, acc => by
    rw [List.replicate_succ, List.foldl_cons, foldRep_size a k, Array.size_append, Nat.succ_mul]
    omega
def repS (x : Str) (n : Int) : Str := if n < 1 then Str.empty else if (n == 1 || x.length == 0) = true then x else ⟨(List.replicate n.toNat x.cps).foldl (· ++ ·) #[]⟩
def rRepS : R2 := fun x y H Q => ∃ z n, x = .str z ∧ y = .int n ∧ -(2 ^ 31) < n ∧ n < 2 ^ 31 ∧ z.length * n.toNat ≤ sizeLine ∧ Q (.str (repS z n)) H
theorem op_repS : OpR X (binaryOp .Mult) rRepS := by
  intro pins s σ H x y v u Q I rx ry h
  obtain ⟨z, n, rfl, rfl, h1, h2, h3, q⟩ := h
  obtain ⟨t, rfl⟩ := rx
  obtain ⟨t', rfl⟩ := ry
  have hz : sizeLine = 16777216 := sizeLine_eq
  refine PySem.P.mul_str ?_ (fun h4 _ => ?_) (fun h4 _ => ?_) ?_
  · rw [decide_eq_false (by omega), decide_eq_false (by omega)]; rfl
  · have hn : (0 : Int) < n := by omega
    intro hc
    have h5 : (z.length : Int) * n ≤ 16777216 := by
      have : ((z.length * n.toNat : Nat) : Int) ≤ 16777216 := by omega
      rwa [Int.natCast_mul, Int.toNat_of_nonneg (by omega)] at this
    have h6 : (z.length : Int) ≤ (2 ^ 63 - 1) / n := by
      refine (Int.le_ediv_iff_mul_le hn).mpr ?_
      omega
    omega
  · unfold Builtin.Str.tooLong
    simp only [decide_eq_false_iff_not]
    omega
  · unfold repS at q
    by_cases hn : n < 1
    · rw [if_pos hn] at q ⊢
      exact ⟨by decide, ⟨.str _, H, I.tok _, ⟨_, rfl⟩, q⟩⟩
    · rw [if_neg hn] at q ⊢
      split at q
      · rename_i h4
        rw [if_pos h4]
        exact ⟨.str z, H, I, ⟨_, rfl⟩, q⟩
      · rename_i h4
        rw [if_neg h4]
        refine ⟨?_, ⟨.str _, H, I.tok _, ⟨_, rfl⟩, q⟩⟩
        show (List.foldl (fun x1 x2 => x1 ++ x2) #[] (List.replicate n.toNat z.cps)).size ≤ sizeLine
        rw [foldRep_size]
        have : z.length = z.cps.size := rfl
        rw [Nat.mul_comm, ← this]
        simpa using h3
end
end L2
namespace VV
open PySem L2
open PyProof.Rows hiding St
section
variable {K : KW} {E : Ent} {ms : List Md} {ts : List Ty} {L L1 : Reg} {Γ Γ1 : Gam ts} {σ σ1 : St} {H H' H1 H2 : Hp} {xt : List Addr} {rm : Rm} {ρ : Ty}
def kindOf : (t : Ty) → den t → String
  | .non, _ => "NoneType"
  | .bool, _ => "bool"
  | .int, _ => "int"
  | .str, _ => "str"
  | .any, d => match d with
    | .none => "NoneType"
    | .bool _ => "bool"
    | .int _ => "int"
    | .str _ => "str"
    | .list _ => "list"
    | .tuple _ => "tuple"
    | .dict _ => "dict"
  | .exn, _ => ""
  | .alt a b, d => match d with
    | .inl x => kindOf a x
    | .inr y => kindOf b y
  | .opt t, d => match d with
    | none => "NoneType"
    | some x => kindOf t x
  | .vtup _, _ => "tuple"
  | .list _, _ => "list"
  | .dict _ _, _ => "dict"
  | .own t, d => kindOf t d
  | .hl _, _ => "list"
  | .ins _ _ _, _ => ""
  | .tup _, _ => "tuple"
  | .last _, _ => ""
  | .cons _ _, _ => ""
theorem strOk_ofString (s : String) : PyData.strOk (Str.ofString s) = true := by
  unfold PyData.strOk
  rw [Str.ofString_eq_toList]
  simp only [List.all_toArray, List.all_map, List.all_eq_true, Function.comp, decide_eq_true_eq]
  intro c _
  have := c.valid
  show c.val.toNat < 1114112
  rcases this with h | ⟨_, h⟩
  · exact Nat.lt_trans h (by decide)
  · exact h
def fStrI (i : Int) : Option Str := okIf (decide (i.natAbs.log2 < 1920)) (Str.ofString (toString i))
theorem rp_strI {m m' : Em} {te : TE} {F : Gam ts → Option Int} (h : RP K ms ts te m' .int F) : RP K ms ts (tCB (fun xs H Q => ∃ i, xs = [.int i] ∧ i.natAbs.log2 < 1920 ∧ Q (.str (toString i)) H) (tCons te tNil)) m .str (e1 fStrI F) := fun E L Γ σ H xt Q d o e q => by
  obtain ⟨a, ea, e⟩ := bind_some e
  dsimp only [fStrI, okIf] at e
  split at e
  · rename_i hz
    cases e
    refine h E L Γ σ H xt _ a o ea fun v H1 s1 r1 => ?_
    cases (show v = .int a from r1.b)
    exact ⟨a, rfl, of_decide_eq_true hz, q _ H1 s1 (rep_atom rfl ⟨rfl, strOk_ofString _⟩)⟩
  · cases e
def fUpper (a : Str) : Option Str := okIf (decide (a.length ≤ 5592405) && PyData.strOk (Txt.upper a)) (Txt.upper a)
theorem rp_upper {m m' : Em} {te : TE} {F : Gam ts → Option Str} (h : RP K ms ts te m' .str F) : RP K ms ts (tM0 (fun x xs H Q => ∃ a, x = .str a ∧ xs = [] ∧ a.length ≤ 5592405 ∧ Q (.str (Txt.upper a)) H) te) m .str (e1 fUpper F) := fun E L Γ σ H xt Q d o e q => by
  obtain ⟨a, ea, e⟩ := bind_some e
  dsimp only [fUpper, okIf] at e
  split at e
  · rename_i hz
    cases e
    rw [Bool.and_eq_true] at hz
    refine h E L Γ σ H xt _ a o ea fun v H1 s1 r1 => ?_
    cases (show v = .str a from r1.b.1)
    exact ⟨⟨a, rfl⟩, a, rfl, rfl, of_decide_eq_true hz.1, q _ H1 s1 (rep_atom rfl ⟨rfl, hz.2⟩)⟩
  · cases e
def fRepS (x : Str) (n : Int) : Option Str := okIf (decide (-(2 ^ 31) < n ∧ n < 2 ^ 31 ∧ x.length * n.toNat ≤ sizeLine) && PyData.strOk (repS x n)) (repS x n)
theorem v_repS {m : Em} : V2 K rRepS m .str .int .str fRepS := fun E L H v w a b c Q ra rb e q => by
  dsimp only [fRepS, okIf] at e
  split at e
  · rename_i hz
    cases e
    rw [Bool.and_eq_true] at hz
    have h1 := of_decide_eq_true hz.1
    exact ⟨a, b, ra.1, rb, h1.1, h1.2.1, h1.2.2, q _ H (Same.refl H) (rep_atom rfl ⟨rfl, hz.2⟩)⟩
  · cases e
def fCatL {α : Type} (a b : List α) : Option (List α) := okIf (lenOk (a.length + b.length)) (a ++ b)
theorem rp_cat {t : Ty} {m1 m2 : Em} {ta tb : TE} {Fa Fb : Gam ts → Option (List (den t))} (ha : RP K ms ts ta m1 (.list t) Fa) (hb : RP K ms ts tb m2 (.list t) Fb) (hf : t.frz = true := by rfl) : RP K ms ts (tOp (rCatR K) ta tb) .o (.list t) (e2 fCatL Fa Fb) := fun E L Γ σ H xt Q d o e q => by
  obtain ⟨a, ea, e⟩ := bind_some e
  obtain ⟨b, eb, e⟩ := bind_some e
  dsimp only [fCatL, okIf] at e
  split at e
  · rename_i hz
    cases e
    refine ha E L Γ σ H xt _ a o ea fun v H1 s1 r1 => ?_
    refine hb E L Γ σ H1 xt _ b (o.same s1) eb fun w H2 s2 r2 => ?_
    obtain ⟨p, vs, rfl, h1, h2⟩ := (rS_mono (Cov.of_same s2 fun _ h _ => h) (Stb.of_same s2) (.list t)).1 v a r1.b
    obtain ⟨p', ws, rfl, h3, h4⟩ := r2.b
    refine ⟨p, p', vs, ws, rfl, rfl, h1.seq, h3.seq, by rw [h2.length, h4.length]; exact of_decide_eq_true hz, fun l hn => ?_⟩
    have s4 : Same H2 (upd H2 l (.lst (vs ++ ws))) := same_new hn
    refine q (.ref l) _ ((s1.trans s2).trans s4) ⟨[l], fun _ => False, ⟨l, _, [], rfl, rfl, upd_same, F3.of2 (fun v d x => .inl ((rS_o t hf).1 v d x)) ((F2.append h2 h4).imp (rS_mono (Cov.of_same s4 fun _ h _ => h) (Stb.of_same s4) t).1)⟩, by simp, fun a ha => ?_, fun a h => h.elim, fun a _ h => h⟩
    have ha : a = l := by simpa using ha
    subst ha
    exact ⟨(s1.trans s2).free hn, by rw [upd_same]; rfl⟩
  · cases e
def sAsg {G ρ α : Type} (F : G → Option α) (B : α → G → G) : G → Option (Fl G ρ) := fun Γ => (F Γ).bind fun d => some (.nx (B d Γ))
theorem rs_asg {w : Bool} {t : Ty} {te : TE} {g : TG} {F : Gam ts → Option (den t)} {B : den t → Gam ts → Gam ts} (h : RP K ms ts te (if w then .w else .l) t F) (hg : RG K ms ts g w t B) : RS K ms ts (tAsg te g) rm ρ (sAsg F B) := fun E L Γ σ H D f o e p => by
  obtain ⟨d, e1, e2⟩ := bind_some e
  cases e2
  refine h E L Γ σ H [] _ d o e1 fun v H1 s1 r1 => ?_
  obtain ⟨Lr, h1, h2⟩ := reg_rep r1
  have o1 : Own K E (fun a => L a ∨ Lr a) ms ts Γ σ H1 [] := o.temp s1 List.nodup_nil (fun a ha => by simp at ha) h2 fun a ha => by simp at ha
  have ev1 : Ev ms ts L Γ σ H (fun a => L a ∨ Lr a) Γ σ H1 := ⟨fun a h => .inl h, fun a q _ h => s1 _ _ h, Stb.of_same s1, KeepF.refl⟩
  exact hg E _ Γ σ H1 _ v d o1 h1 fun σ' o' e' => p _ σ' H1 o' (ev1.trans e')
def bindAll {G α : Type} : List (α → G → G) → List α → G → G
  | B :: Bs, d :: ds, Γ => bindAll Bs ds (B d Γ)
  | _, _, Γ => Γ
def RGl (K : KW) (ms : List Md) (ts : List Ty) (g : TGs) (w : Bool) (t : Ty) (Bs : List (den t → Gam ts → Gam ts)) : Prop :=
  ∀ (E : Ent) (L : Reg) (Γ : Gam ts) (σ : St) (H : Hp) (Q : St → Hp → Prop) (xs : List V) (d : List (den t)), Own K E L ms ts Γ σ H [] → F2 (rS K H (reg w E L) t).1 xs d → d.length = Bs.length →
    (∀ σ', Own K E L ms ts (bindAll Bs d Γ) σ' H [] → Ev ms ts L Γ σ H L (bindAll Bs d Γ) σ' H → Q σ' H) → g xs σ H Q
theorem rgl_nil {w : Bool} {t : Ty} : RGl K ms ts gNil w t [] := fun E L Γ σ H Q xs d o r hl q => by
  cases d with
  | cons _ _ => simp at hl
  | nil =>
    cases xs with
    | cons _ _ => exact r.elim
    | nil => exact ⟨rfl, q σ o (Ev.same (Same.refl H))⟩
theorem rgl_cons {w : Bool} {t : Ty} {g : TG} {gs : TGs} {B : den t → Gam ts → Gam ts} {Bs : List (den t → Gam ts → Gam ts)} (h : RG K ms ts g w t B) (h' : RGl K ms ts gs w t Bs) : RGl K ms ts (gCons g gs) w t (B :: Bs) := fun E L Γ σ H Q xs d o r hl q => by
  cases d with
  | nil => simp at hl
  | cons d ds =>
    cases xs with
    | nil => exact r.elim
    | cons v vs =>
      refine ⟨v, vs, rfl, h E L Γ σ H _ v d o r.1 fun σ' o' e' => ?_⟩
      exact h' E L (B d Γ) σ' H Q vs ds o' r.2 (by simpa using hl) fun σ2 o2 e2 => q σ2 o2 (e'.trans e2)
def sUnl {G ρ α : Type} (F : G → Option (List α)) (Bs : List (α → G → G)) : G → Option (Fl G ρ) := fun Γ => (F Γ).bind fun d => if d.length = Bs.length then some (.nx (bindAll Bs d Γ)) else none
theorem rs_unl {w : Bool} {t : Ty} {te : TE} {gs : TGs} {n : Nat} {F : Gam ts → Option (List (den t))} {Bs : List (den t → Gam ts → Gam ts)} (h : RP K ms ts te (if w then .w else .l) (.list t) F) (hg : RGl K ms ts gs w t Bs) (hn : Bs.length = n := by rfl) :
    RS K ms ts (tAsg te (gUnl K n gs)) rm ρ (sUnl F Bs) := fun E L Γ σ H D f o e p => by
  obtain ⟨d, e1, e2⟩ := bind_some e
  split at e2
  · rename_i hl
    cases e2
    refine h E L Γ σ H [] _ d o e1 fun v H1 s1 r1 => ?_
    obtain ⟨Lr, h1, h2⟩ := reg_rep r1
    obtain ⟨a, vs, rfl, h3, h4⟩ := h1
    have o1 : Own K E (fun a => L a ∨ Lr a) ms ts Γ σ H1 [] := o.temp s1 List.nodup_nil (fun a ha => by simp at ha) h2 fun a ha => by simp at ha
    have ev1 : Ev ms ts L Γ σ H (fun a => L a ∨ Lr a) Γ σ H1 := ⟨fun a h => .inl h, fun a q _ h => s1 _ _ h, Stb.of_same s1, KeepF.refl⟩
    exact ⟨a, vs, rfl, h3.seq, by rw [h4.length, hl, hn], hg E _ Γ σ H1 _ vs d o1 h4 hl fun σ' o' e' => p _ σ' H1 o' (ev1.trans e')⟩
  · cases e2
def emb : (t : Ty) → (den t → PyData) × (den t → List PyData)
  | .non => (fun _ => .none, fun _ => [])
  | .bool => (fun b => .bool b, fun _ => [])
  | .int => (fun i => .int i, fun _ => [])
  | .str => (fun x => .str x, fun _ => [])
  | .any => (fun d => d, fun _ => [])
  | .exn => (fun _ => .none, fun _ => [])
  | .alt a b => (fun d => match d with
      | .inl x => (emb a).1 x
      | .inr y => (emb b).1 y, fun _ => [])
  | .opt t => (fun d => match d with
      | none => .none
      | some x => (emb t).1 x, fun _ => [])
  | .vtup t => (fun d => .tuple (d.map (emb t).1), fun _ => [])
  | .list t => (fun d => .list (d.map (emb t).1), fun _ => [])
  | .dict _ _ => (fun _ => .dict [], fun _ => [])
  | .own t => emb t
  | .hl b => (fun d => .list ((emb b).2 d), fun _ => [])
  | .ins _ _ _ => (fun _ => .none, fun _ => [])
  | .tup b => (fun d => .tuple ((emb b).2 d), fun _ => [])
  | .last a => (fun _ => .none, fun d => [(emb a).1 d])
  | .cons a b => (fun _ => .none, fun d => (emb a).1 d.1 :: (emb b).2 d.2)
def Ty.cmp : Ty → Bool
  | .any => false
  | .exn => false
  | .alt a b => a.cmp && b.cmp
  | .dict _ _ => false
  | .opt t => t.cmp
  | .vtup t => t.cmp
  | .list t => t.cmp
  | .own t => t.cmp
  | .hl b => b.cmp
  | .ins _ _ _ => false
  | .tup b => b.cmp
  | .last a => a.cmp
  | .cons a b => a.cmp && b.cmp
  | _ => true
def Ty.dep : Ty → Nat
  | .alt a b => max a.dep b.dep
  | .opt t => t.dep
  | .vtup t => t.dep + 1
  | .list t => t.dep + 1
  | .own t => t.dep
  | .hl b => b.dep + 1
  | .tup b => b.dep + 1
  | .last a => a.dep
  | .cons a b => max a.dep b.dep
  | _ => 0
theorem f2_dp {t : Ty} {P : V → den t → Prop} (h : ∀ v d, P v d → Dp K H v ((emb t).1 d)) : ∀ {vs : List V} {ds : List (den t)}, F2 P vs ds → DpAll K H vs (ds.map (emb t).1)
  | [], [], _ => .nil
  | v :: vs, d :: ds, q => .cons (h v d q.1) (f2_dp h q.2)
  | [], _ :: _, q => q.elim
  | _ :: _, [], q => q.elim
theorem rS_dp {R : Reg} : ∀ t : Ty, t.cmp = true → (∀ v d, (rS K H R t).1 v d → Dp K H v ((emb t).1 d)) ∧ (∀ vs d, (rS K H R t).2 vs d → DpAll K H vs ((emb t).2 d)) := by
  intro t
  induction t with
  | non => exact fun _ => ⟨fun v d h => by cases h; exact .non, fun _ _ h => h.elim⟩
  | bool => exact fun _ => ⟨fun v d h => by cases h; exact .bl _, fun _ _ h => h.elim⟩
  | int => exact fun _ => ⟨fun v d h => by cases h; exact .int _, fun _ _ h => h.elim⟩
  | str => exact fun _ => ⟨fun v d h => by cases h.1; exact .str _, fun _ _ h => h.elim⟩
  | any => exact fun q => by cases q
  | exn => exact fun q => by cases q
  | alt a b iha ihb =>
    intro q
    simp only [Ty.cmp, Bool.and_eq_true] at q
    refine ⟨fun v d h => ?_, fun _ _ h => h.elim⟩
    cases d with
    | inl x => exact (iha q.1).1 v x h
    | inr x => exact (ihb q.2).1 v x h
  | opt t ih =>
    intro q
    refine ⟨fun v d h => ?_, fun _ _ h => h.elim⟩
    cases d with
    | none => cases (show v = .non from h); exact .non
    | some x => exact (ih q).1 v x h.2
  | vtup t ih =>
    intro q
    refine ⟨fun v d h => ?_, fun _ _ h => h.elim⟩
    obtain ⟨a, vs, rfl, h1, h2⟩ := h
    exact .tup (.of h1) (f2_dp (ih q).1 h2)
  | list t ih =>
    intro q
    refine ⟨fun v d h => ?_, fun _ _ h => h.elim⟩
    obtain ⟨a, vs, rfl, h1, h2⟩ := h
    exact .lst h1.seq (f2_dp (ih q).1 h2)
  | dict k t _ ih => exact fun q => by cases q
  | own t ih => exact ih
  | ins C ks b ih => exact fun q => by cases q
  | hl b ih =>
    intro q
    refine ⟨fun v d h => ?_, fun _ _ h => h.elim⟩
    obtain ⟨a, vs, rfl, h1, h2⟩ := h
    exact .lst h1.seq ((ih q).2 vs d h2)
  | tup b ih =>
    intro q
    refine ⟨fun v d h => ?_, fun _ _ h => h.elim⟩
    obtain ⟨a, vs, rfl, h1, h2⟩ := h
    exact .tup (.of h1) ((ih q).2 vs d h2)
  | last a ih =>
    intro q
    refine ⟨fun _ _ h => h.elim, fun vs d h => ?_⟩
    obtain ⟨v, rfl, h⟩ := h
    exact .cons ((ih q).1 v d h) .nil
  | cons a b iha ihb =>
    intro q
    simp only [Ty.cmp, Bool.and_eq_true] at q
    refine ⟨fun _ _ h => h.elim, fun vs d h => ?_⟩
    obtain ⟨v, r, rfl, h1, h2⟩ := h
    exact .cons ((iha q.1).1 v d.1 h1) ((ihb q.2).2 r d.2 h2)
theorem canLayAll_map {t : Ty} {P : V → den t → Prop} {n : Nat} (h : ∀ v d, P v d → ((emb t).1 d).canLay0 = true ∧ ((emb t).1 d).depth ≤ n) : ∀ {vs : List V} {ds : List (den t)}, F2 P vs ds → PyData.canLayAll0 (ds.map (emb t).1) = true ∧ PyData.depthAll (ds.map (emb t).1) ≤ n
  | [], [], _ => ⟨by simp [PyData.canLayAll0], by simp [PyData.depthAll]⟩
  | v :: vs, d :: ds, q => by
    have h1 := h v d q.1
    have h2 := canLayAll_map h q.2
    simp only [List.map_cons, PyData.canLayAll0, PyData.depthAll, Bool.and_eq_true]
    exact ⟨⟨h1.1, h2.1⟩, Nat.max_le.mpr ⟨h1.2, h2.2⟩⟩
  | [], _ :: _, q => q.elim
  | _ :: _, [], q => q.elim
theorem rS_lay {R : Reg} : ∀ t : Ty, t.cmp = true → (∀ v d, (rS K H R t).1 v d → ((emb t).1 d).canLay0 = true ∧ ((emb t).1 d).depth ≤ t.dep) ∧ (∀ vs d, (rS K H R t).2 vs d → PyData.canLayAll0 ((emb t).2 d) = true ∧ PyData.depthAll ((emb t).2 d) ≤ t.dep) := by
  intro t
  induction t with
  | non => exact fun _ => ⟨fun v d h => by simp [emb, PyData.canLay0, PyData.depth], fun _ _ h => h.elim⟩
  | bool => exact fun _ => ⟨fun v d h => by simp [emb, PyData.canLay0, PyData.depth], fun _ _ h => h.elim⟩
  | int => exact fun _ => ⟨fun v d h => by simp [emb, PyData.canLay0, PyData.depth], fun _ _ h => h.elim⟩
  | str => exact fun _ => ⟨fun v d h => by simpa [emb, PyData.canLay0, PyData.depth] using h.2, fun _ _ h => h.elim⟩
  | any => exact fun q => by cases q
  | exn => exact fun q => by cases q
  | alt a b iha ihb =>
    intro q
    simp only [Ty.cmp, Bool.and_eq_true] at q
    refine ⟨fun v d h => ?_, fun _ _ h => h.elim⟩
    cases d with
    | inl x =>
      have := (iha q.1).1 v x h
      simp only [emb, Ty.dep]
      exact ⟨this.1, Nat.le_trans this.2 (Nat.le_max_left _ _)⟩
    | inr x =>
      have := (ihb q.2).1 v x h
      simp only [emb, Ty.dep]
      exact ⟨this.1, Nat.le_trans this.2 (Nat.le_max_right _ _)⟩
  | opt t ih =>
    intro q
    refine ⟨fun v d h => ?_, fun _ _ h => h.elim⟩
    cases d with
    | none => simp [emb, PyData.canLay0, PyData.depth]
    | some x => exact (ih q).1 v x h.2
  | vtup t ih =>
    intro q
    refine ⟨fun v d h => ?_, fun _ _ h => h.elim⟩
    obtain ⟨a, vs, rfl, h1, h2⟩ := h
    have := canLayAll_map (ih q).1 h2
    simp only [emb, PyData.canLay0, PyData.depth, Ty.dep]
    exact ⟨this.1, by omega⟩
  | list t ih =>
    intro q
    refine ⟨fun v d h => ?_, fun _ _ h => h.elim⟩
    obtain ⟨a, vs, rfl, h1, h2⟩ := h
    have := canLayAll_map (ih q).1 h2
    simp only [emb, PyData.canLay0, PyData.depth, Ty.dep]
    exact ⟨this.1, by omega⟩
  | dict k t _ ih => exact fun q => by cases q
  | own t ih => exact ih
  | ins C ks b ih => exact fun q => by cases q
  | hl b ih =>
    intro q
    refine ⟨fun v d h => ?_, fun _ _ h => h.elim⟩
    obtain ⟨a, vs, rfl, h1, h2⟩ := h
    have := (ih q).2 vs d h2
    simp only [emb, PyData.canLay0, PyData.depth, Ty.dep]
    exact ⟨this.1, by omega⟩
  | tup b ih =>
    intro q
    refine ⟨fun v d h => ?_, fun _ _ h => h.elim⟩
    obtain ⟨a, vs, rfl, h1, h2⟩ := h
    have := (ih q).2 vs d h2
    simp only [emb, PyData.canLay0, PyData.depth, Ty.dep]
    exact ⟨this.1, by omega⟩
  | last a ih =>
    intro q
    refine ⟨fun _ _ h => h.elim, fun vs d h => ?_⟩
    obtain ⟨v, rfl, h⟩ := h
    have := (ih q).1 v d h
    simp only [emb, PyData.canLayAll0, PyData.depthAll, Ty.dep, Bool.and_true]
    exact ⟨this.1, by omega⟩
  | cons a b iha ihb =>
    intro q
    simp only [Ty.cmp, Bool.and_eq_true] at q
    refine ⟨fun _ _ h => h.elim, fun vs d h => ?_⟩
    obtain ⟨v, r, rfl, h1, h2⟩ := h
    have k1 := (iha q.1).1 v d.1 h1
    have k2 := (ihb q.2).2 r d.2 h2
    simp only [emb, PyData.canLayAll0, PyData.depthAll, Ty.dep, Bool.and_eq_true]
    exact ⟨⟨k1.1, k2.1⟩, by omega⟩
theorem shaped_of {R : Reg} {t : Ty} (q : t.cmp = true) (hd : t.dep ≤ 64) {v : V} {d : den t} (h : (rS K H R t).1 v d) : SeqAt.shaped ((emb t).1 d) = true := by
  have := (rS_lay t q).1 v d h
  unfold SeqAt.shaped
  rw [this.1, Bool.true_and]
  exact decide_eq_true (by omega)
def fEqD (t : Ty) (a b : den t) : Option Bool := some (PyData.eqv ((emb t).1 a) ((emb t).1 b))
def fNeD (t : Ty) (a b : den t) : Option Bool := some (!PyData.eqv ((emb t).1 a) ((emb t).1 b))
def okCmp (t : Ty) : Bool := t.cmp && decide (t.dep ≤ 60)
theorem okCmp_of {t : Ty} (h : okCmp t = true) : t.cmp = true ∧ t.dep ≤ 60 := by
  rw [okCmp, Bool.and_eq_true] at h
  exact ⟨h.1, of_decide_eq_true h.2⟩
theorem v_eqD {m : Em} {t : Ty} (hk : okCmp t = true) : V2 K (rEqD K) m t t .bool (fEqD t) := fun E L H v w a b c Q ra rb e q => by
  cases e
  obtain ⟨k1, k2⟩ := okCmp_of hk
  exact ⟨_, _, (rS_dp t k1).1 v a ra, (rS_dp t k1).1 w b rb, shaped_of k1 (by omega) ra, shaped_of k1 (by omega) rb, q _ H (Same.refl H) (rep_atom rfl rfl)⟩
theorem v_neD {m : Em} {t : Ty} (hk : okCmp t = true) : V2 K (rNeD K) m t t .bool (fNeD t) := fun E L H v w a b c Q ra rb e q => by
  cases e
  obtain ⟨k1, k2⟩ := okCmp_of hk
  exact ⟨_, _, (rS_dp t k1).1 v a ra, (rS_dp t k1).1 w b rb, shaped_of k1 (by omega) ra, shaped_of k1 (by omega) rb, q _ H (Same.refl H) (rep_atom rfl rfl)⟩
def fInD (t : Ty) (a : den t) (b : List (den t)) : Option Bool := some (b.any fun z => PyData.eqv ((emb t).1 z) ((emb t).1 a))
def fNotInD (t : Ty) (a : den t) (b : List (den t)) : Option Bool := some (!b.any fun z => PyData.eqv ((emb t).1 z) ((emb t).1 a))
theorem v_inD {m : Em} {t : Ty} (hk : okCmp t = true) : V2 K (rInD K) m t (.list t) .bool (fInD t) := fun E L H v w a b c Q ra rb e q => by
  cases e
  obtain ⟨k1, k2⟩ := okCmp_of hk
  refine ⟨_, b.map (emb t).1, (rS_dp t k1).1 v a ra, (rS_dp (.list t) k1).1 w b rb, shaped_of k1 (by omega) ra, shaped_of (t := .list t) k1 (by simp only [Ty.dep]; omega) rb, q _ H (Same.refl H) (rep_atom rfl ?_)⟩
  show V.bl _ = V.bl _
  rw [List.any_map]
  rfl
theorem v_notInD {m : Em} {t : Ty} (hk : okCmp t = true) : V2 K (rNotInD K) m t (.list t) .bool (fNotInD t) := fun E L H v w a b c Q ra rb e q => by
  cases e
  obtain ⟨k1, k2⟩ := okCmp_of hk
  refine ⟨_, b.map (emb t).1, (rS_dp t k1).1 v a ra, (rS_dp (.list t) k1).1 w b rb, shaped_of k1 (by omega) ra, shaped_of (t := .list t) k1 (by simp only [Ty.dep]; omega) rb, q _ H (Same.refl H) (rep_atom rfl ?_)⟩
  show V.bl _ = V.bl _
  rw [List.any_map]
  rfl
end
end VV
namespace VV
open PySem L2
open PyProof.Rows hiding St
section
variable {K : KW} {E : Ent} {ms : List Md} {ts : List Ty} {L L1 : Reg} {Γ Γ1 : Gam ts} {σ σ1 : St} {H H' H0 H1 H2 : Hp} {xt : List Addr} {rm : Rm} {ρ : Ty}
theorem RepL.nil {m : Em} {t : Ty} : RepL K E L H H' m t [] [] := by
  cases m with
  | o => exact ⟨[], fun _ => False, rfl, List.nodup_nil, fun a h => by simp at h, fun a h => h.elim, fun a h => by simp at h⟩
  | l => exact ⟨fun _ => False, True.intro, fun a h => h.elim⟩
  | w => exact ⟨fun _ => False, True.intro, fun a h => h.elim⟩
  | b => exact True.intro
theorem RepL.on {m : Em} {t : Ty} {vs : List V} {ds : List (den t)} (hm : (m == .b) = false) (hc : ∀ R : Reg, (∀ a, R a → E.S0 a ∨ L a ∨ (H0 a = none ∧ (H a).isSome = true)) → Cov H H' R R) (hs : Stb H H') (hn : ∀ a, H0 a = none → (H a).isSome = true → H' a = H a) (r : RepL K E L H0 H m t vs ds) : RepL K E L H0 H' m t vs ds := by
  have nw : ∀ {R : Reg}, Nw H0 H R → Nw H0 H' R := fun {R} h a ha => ⟨(h a ha).1, by rw [hn a (h a ha).1 (h a ha).2]; exact (h a ha).2⟩
  cases m with
  | o =>
    obtain ⟨f, Lr, h1, h2, h3, h4, h5⟩ := r
    have cv : Cov H H' (fun a => L a ∨ Lr a) (fun a => L a ∨ Lr a) := hc _ fun a h => h.elim (fun z => .inr (.inl z)) fun z => .inr (.inr (h4 a z))
    exact ⟨f, Lr, h1.imp fun v d g hg x => kid_mono ((rS_mono cv hs t).1 v d) ((rO_mono cv hs t).1 v d g fun a ha => hn a (h3 a (hg a ha)).1 (h3 a (hg a ha)).2) x, h2, nw h3, nw h4, h5⟩
  | l =>
    obtain ⟨Lr, h1, h2⟩ := r
    exact ⟨Lr, h1.imp fun v d x => (rS_mono (hc _ fun a h => h.elim (fun z => .inr (.inl z)) fun z => .inr (.inr (h2 a z))) hs t).1 v d x, nw h2⟩
  | w =>
    obtain ⟨Lr, h1, h2⟩ := r
    exact ⟨Lr, h1.imp fun v d x => (rS_mono (hc _ fun a h => h.elim .inl fun h => h.elim (fun z => .inr (.inl z)) fun z => .inr (.inr (h2 a z))) hs t).1 v d x, nw h2⟩
  | b => exact absurd hm (by decide)
theorem RepL.same {m : Em} {t : Ty} {vs : List V} {ds : List (den t)} (hm : (m == .b) = false) (s : Same H H') (r : RepL K E L H0 H m t vs ds) : RepL K E L H0 H' m t vs ds :=
  r.on hm (fun R _ => Cov.of_same s fun a h _ => h) (Stb.of_same s) fun a _ h => same_at s h
theorem RepL.upd {m : Em} {t : Ty} {vs : List V} {ds : List (den t)} {D : Addr} {o u : HO} (hm : (m == .b) = false) (hD : H D = some o) (mo : mutO o = true) (h0 : (H0 D).isSome = true) (hl : ¬ L D) (hS : ¬ E.S0 D) (r : RepL K E L H0 H m t vs ds) : RepL K E L H0 (upd H D u) m t vs ds := by
  refine r.on hm (fun R hR a q h e => ⟨h, ?_⟩) (Stb.upd hD mo) fun a h1 h2 => upd_ne fun z => ?_
  · rw [upd_ne fun z => ?_]
    · exact e
    · subst z
      rcases hR a h with z | z | z
      · exact hS z
      · exact hl z
      · rw [z.1] at h0
        cases h0
  · subst z
    rw [h1] at h0
    cases h0
theorem F3.snoc {α β : Type} {P : α → β → List Addr → Prop} {vs : List α} {ds : List β} {f : List Addr} {v : α} {d : β} {g : List Addr} (h : F3 P vs ds f) (q : P v d g) : F3 P (vs ++ [v]) (ds ++ [d]) (f ++ g) := F3.append h ⟨g, [], by simp, q, rfl⟩
theorem F2.snoc {α β : Type} {P : α → β → Prop} {vs : List α} {ds : List β} {v : α} {d : β} (h : F2 P vs ds) (q : P v d) : F2 P (vs ++ [v]) (ds ++ [d]) := F2.append h ⟨q, True.intro⟩
theorem RepL.snoc {m : Em} {t : Ty} {vs : List V} {ds : List (den t)} {v : V} {d : den t} (hm : (m == .b) = false) (s : Same H H') (h0 : ∀ a, H a = none → H0 a = none) (r : RepL K E L H0 H m t vs ds) (q : Rep K E L H H' m t v d) : RepL K E L H0 H' m t (vs ++ [v]) (ds ++ [d]) := by
  have r1 := r.same hm s
  have nw : ∀ {R : Reg}, Nw H H' R → Nw H0 H' R := fun {R} h a ha => ⟨h0 a (h a ha).1, (h a ha).2⟩
  cases m with
  | o =>
    obtain ⟨f, Lr, h1, h2, h3, h4, h5⟩ := r
    obtain ⟨g, Ls, k1, k2, k3, k4, k5⟩ := q
    have cv : Cov H H' (fun a => L a ∨ Lr a) (fun a => L a ∨ (Lr a ∨ Ls a)) := Cov.of_same s fun a h _ => h.elim .inl fun z => .inr (.inl z)
    have cg : Cov H' H' (fun a => L a ∨ Ls a) (fun a => L a ∨ (Lr a ∨ Ls a)) := Cov.of_reg fun a h _ => h.elim .inl fun z => .inr (.inr z)
    refine ⟨f ++ g, fun a => Lr a ∨ Ls a, F3.snoc (h1.imp fun v d g hg x => kid_mono ((rS_mono cv (Stb.of_same s) t).1 v d) ((rO_mono cv (Stb.of_same s) t).1 v d g fun a ha => same_at s (h3 a (hg a ha)).2) x) (.inl ((rO_mono cg (Stb.refl _) t).1 v d g (fun _ _ => rfl) k1)), List.nodup_append.mpr ⟨h2, k2, fun a ha b hb z => ?_⟩, fun a ha => ?_, fun a ha => ?_, fun a ha => ?_⟩
    · subst z
      exact nw_apart h3 k3 a ha hb
    · rcases List.mem_append.mp ha with z | z
      · exact nw_on s h3 a z
      · exact nw k3 a z
    · rcases ha with z | z
      · exact nw_on s h4 a z
      · exact nw k4 a z
    · rcases List.mem_append.mp ha with z | z
      · exact fun y => y.elim (h5 a z) (nw_apart h3 k4 a z)
      · exact fun y => y.elim (fun y => nw_apart h4 k3 a y z) (k5 a z)
  | l =>
    obtain ⟨Lr, h1, h2⟩ := r1
    obtain ⟨Ls, k1, k2⟩ := q
    refine ⟨fun a => Lr a ∨ Ls a, F2.snoc (h1.imp fun v d x => (rS_mono (Cov.of_reg fun a h _ => h.elim .inl fun z => .inr (.inl z)) (Stb.refl _) t).1 v d x) ((rS_mono (Cov.of_reg fun a h _ => h.elim .inl fun z => .inr (.inr z)) (Stb.refl _) t).1 v d k1), fun a ha => ha.elim (h2 a) (nw k2 a)⟩
  | w =>
    obtain ⟨Lr, h1, h2⟩ := r1
    obtain ⟨Ls, k1, k2⟩ := q
    refine ⟨fun a => Lr a ∨ Ls a, F2.snoc (h1.imp fun v d x => (rS_mono (Cov.of_reg fun a h _ => h.elim .inl fun z => z.elim (fun z => .inr (.inl z)) fun z => .inr (.inr (.inl z))) (Stb.refl _) t).1 v d x)
      ((rS_mono (Cov.of_reg fun a h _ => h.elim .inl fun z => z.elim (fun z => .inr (.inl z)) fun z => .inr (.inr (.inr z))) (Stb.refl _) t).1 v d k1), fun a ha => ha.elim (h2 a) (nw k2 a)⟩
  | b => exact absurd hm (by decide)
theorem RepL.list {m : Em} {t : Ty} {vs : List V} {ds : List (den t)} {D : Addr} {Lr : Reg} (hm : (m == .b) = false) (s : Same H H1) (nl : Nw H H1 Lr) (hD : H1 D = none) (s1 : Same H1 H') (hv : H' D = some (.lst vs)) (r : RepL K E (fun a => L a ∨ Lr a) (L2.upd H1 D (.lst [])) H' m t vs ds) : Rep K E L H H' m (.list t) (.ref D) ds := by
  have nf : ∀ {R : Reg}, Nw (L2.upd H1 D (.lst [])) H' R → Nw H H' R ∧ ¬ R D := fun {R} h => ⟨fun a ha => by
    have := (h a ha).1
    have ne : a ≠ D := fun z => by
      subst z
      rw [upd_same] at this
      cases this
    rw [upd_ne ne] at this
    exact ⟨s.free this, (h a ha).2⟩, fun z => by
    have := (h D z).1
    rw [upd_same] at this
    cases this⟩
  have nl' : Nw H H' Lr := nw_on s1 nl
  have dl : ¬ Lr D := fun z => by
    have := (nl D z).2
    rw [hD] at this
    cases this
  have dn : H D = none ∧ (H' D).isSome = true := ⟨s.free hD, by rw [hv]; rfl⟩
  have as : ∀ {Ls : Reg}, ∀ a, (L a ∨ Lr a) ∨ Ls a → L a ∨ (Lr a ∨ Ls a) := fun a h => h.elim (fun h => h.elim .inl fun z => .inr (.inl z)) fun z => .inr (.inr z)
  cases m with
  | o =>
    obtain ⟨f, Ls, h1, h2, h3, h4, h5⟩ := r
    have cv : Cov H' H' (fun a => (L a ∨ Lr a) ∨ Ls a) (fun a => L a ∨ (Lr a ∨ Ls a)) := Cov.of_reg fun a h _ => as a h
    refine ⟨D :: f, fun a => Lr a ∨ Ls a, ⟨D, vs, f, rfl, rfl, hv, h1.imp fun v d g hg x => kid_mono ((rS_mono cv (Stb.refl _) t).1 v d) ((rO_mono cv (Stb.refl _) t).1 v d g fun _ _ => rfl) x⟩, List.nodup_cons.mpr ⟨(nf h3).2, h2⟩, fun a ha => ?_, fun a ha => ha.elim (nl' a) ((nf h4).1 a), fun a ha => ?_⟩
    · rcases List.mem_cons.mp ha with rfl | ha
      · exact dn
      · exact (nf h3).1 a ha
    · rcases List.mem_cons.mp ha with rfl | ha
      · exact fun z => z.elim dl (nf h4).2
      · refine fun z => z.elim (fun z => ?_) (h5 a ha)
        have h6 := (nl a z).2
        have h7 := (h3 a ha).1
        have ne : a ≠ D := fun z => by
          subst z
          rw [upd_same] at h7
          cases h7
        rw [upd_ne ne] at h7
        rw [h7] at h6
        cases h6
  | l =>
    obtain ⟨Ls, h1, h2⟩ := r
    refine ⟨fun a => (Lr a ∨ Ls a) ∨ a = D, ⟨D, vs, rfl, .inl ⟨.inr (.inr rfl), by rw [hv]; rfl⟩, h1.imp fun v d x => (rS_mono (Cov.of_reg fun a h _ => (as a h).elim .inl fun z => .inr (.inl z)) (Stb.refl _) t).1 v d x⟩, fun a ha => ?_⟩
    rcases ha with (ha | ha) | rfl
    · exact nl' a ha
    · exact (nf h2).1 a ha
    · exact dn
  | w =>
    obtain ⟨Ls, h1, h2⟩ := r
    refine ⟨fun a => (Lr a ∨ Ls a) ∨ a = D, ⟨D, vs, rfl, .inl ⟨.inr (.inr (.inr rfl)), by rw [hv]; rfl⟩, h1.imp fun v d x => (rS_mono (Cov.of_reg fun a h _ => h.elim .inl fun h => .inr ((as a h).elim .inl fun z => .inr (.inl z))) (Stb.refl _) t).1 v d x⟩, fun a ha => ?_⟩
    rcases ha with (ha | ha) | rfl
    · exact nl' a ha
    · exact (nf h2).1 a ha
    · exact dn
  | b => exact absurd hm (by decide)
theorem wipe_in {i : Nat} : ∀ {vs : List Nat} {σ : St}, i ∈ vs → i < σ.length → (wipe σ vs)[i]? = some none
  | v :: vs, σ, h, hl => by
    unfold wipe
    by_cases hv : v = i
    · subst hv
      rw [List.getElem?_set_self (by rw [wipe_length]; exact hl)]
    · rw [List.getElem?_set_ne hv]
      exact wipe_in ((List.mem_cons.mp h).resolve_left fun z => hv z.symm) hl
  | [], _, h, _ => by simp at h
theorem wipe_ext {vs : List Nat} {σ σ' : St} (hl : σ.length = σ'.length) (h : ∀ j, j ∉ vs → σ[j]? = σ'[j]?) : wipe σ vs = wipe σ' vs := by
  refine List.ext_getElem? fun j => ?_
  by_cases hj : j ∈ vs
  · by_cases hb : j < σ.length
    · rw [wipe_in hj hb, wipe_in hj (by omega)]
    · rw [List.getElem?_eq_none (by rw [wipe_length]; omega), List.getElem?_eq_none (by rw [wipe_length]; omega)]
  · rw [wipe_out hj, wipe_out hj]
    exact h j hj
theorem wipe_wipe (σ : St) (vs : List Nat) : wipe (wipe σ vs) vs = wipe σ vs := wipe_ext (wipe_length σ vs) fun j hj => wipe_out hj
def GW (g : TG) (vs : List Nat) : Prop := ∀ (x : V) (σ : St) (H : Hp) (Q : St → Hp → Prop), g x σ H Q → g x σ H fun σ' H' => wipe σ' vs = wipe σ vs ∧ Q σ' H'
def GWs (g : TGs) (vs : List Nat) : Prop := ∀ (xs : List V) (σ : St) (H : Hp) (Q : St → Hp → Prop), g xs σ H Q → g xs σ H fun σ' H' => wipe σ' vs = wipe σ vs ∧ Q σ' H'
def MonG (g : TG) : Prop := ∀ (x : V) (σ : St) (H : Hp) (Q Q' : St → Hp → Prop), (∀ σ' H', Q σ' H' → Q' σ' H') → g x σ H Q → g x σ H Q'
theorem gw_name {i : Nat} {vs : List Nat} (h : vs.contains i = true := by rfl) : GW (gName i) vs := fun x σ H Q q => by
  refine ⟨wipe_ext List.length_set fun j hj => List.getElem?_set_ne fun z => hj ?_, q⟩
  rw [← z]
  exact List.contains_iff_mem.mp h
theorem gws_nil {vs : List Nat} : GWs gNil vs := fun xs σ H Q q => ⟨q.1, rfl, q.2⟩
theorem gws_cons {g : TG} {gs : TGs} {vs : List Nat} (h : GW g vs) (hm : MonG g) (hs : GWs gs vs) : GWs (gCons g gs) vs := fun xs σ H Q q => by
  obtain ⟨v, r, rfl, q⟩ := q
  refine ⟨v, r, rfl, hm v σ H _ _ (fun σ' H' z => ?_) (h v σ H _ q)⟩
  have := hs r σ' H' Q z.2
  rw [z.1] at this
  exact this
theorem mg_name {i : Nat} : MonG (gName i) := fun _ _ _ _ _ h q => h _ _ q
theorem gw_tup {n : Nat} {gs : TGs} {vs : List Nat} (h : GWs gs vs) : GW (gTup K n gs) vs := fun x σ H Q q => by
  obtain ⟨a, xs, e, h1, h2, q⟩ := q
  exact ⟨a, xs, e, h1, h2, h xs σ H Q q⟩
theorem rG_unset {S0 : Reg} : ∀ {ms : List Md} {ts : List Ty} {Γ : Gam ts} {σ : St} {fp : List Addr} (bs : List Bool) (v : Nat), bs[v]? = some false → rG K H S0 L ms ts (Gam.mask bs Γ) σ fp → rG K H S0 L ms ts (Gam.mask bs Γ) (σ.set v none) fp
  | [], [], _, σ, _, bs, v, hv, h => by
    obtain ⟨h1, h2⟩ := h
    subst h1
    exact ⟨rfl, h2⟩
  | m :: ms, t :: ts, Γ, s :: σ, fp, b :: bs, 0, hv, h => by
    have e : b = false := by simpa using hv
    subst e
    obtain ⟨f1, f2, rfl, h1, h2⟩ := h
    exact ⟨f1, f2, rfl, h1, h2⟩
  | m :: ms, t :: ts, Γ, s :: σ, fp, b :: bs, v + 1, hv, h => by
    obtain ⟨f1, f2, rfl, h1, h2⟩ := h
    exact ⟨f1, f2, rfl, h1, rG_unset (Γ := Γ.2) bs v (by simpa using hv) h2⟩
  | _ :: _, _ :: _, _, _ :: _, _, [], _, hv, _ => by simp at hv
  | [], _ :: _, _, _, _, _, _, _, h => h.elim
  | _ :: _, [], _, _, _, _, _, _, h => h.elim
  | _ :: _, _ :: _, _, [], _, [], _, hv, _ => by simp at hv
  | _ :: _, _ :: _, _, [], _, _ :: _, _, _, h => h.elim
theorem rG_wipe {S0 : Reg} {fp : List Addr} {bs : List Bool} : ∀ (vs : List Nat), (∀ v ∈ vs, bs[v]? = some false) → rG K H S0 L ms ts (Gam.mask bs Γ) σ fp → rG K H S0 L ms ts (Gam.mask bs Γ) (wipe σ vs) fp
  | [], _, h => h
  | v :: vs, hv, h => rG_unset bs v (hv v List.mem_cons_self) (rG_wipe vs (fun w hw => hv w (List.mem_cons_of_mem _ hw)) h)
theorem Own.wipe {bs : List Bool} {vs : List Nat} (hv : ∀ v ∈ vs, bs[v]? = some false) (o : Own K E L ms ts (Gam.mask bs Γ) σ H xt) : Own K E L ms ts (Gam.mask bs Γ) (wipe σ vs) H xt := by
  obtain ⟨fp, g, nd, gd⟩ := o.ex
  exact ⟨⟨fp, rG_wipe vs hv g, nd, gd⟩, o.fr, o.lr, o.s0, o.iod⟩
def lcL {G α β : Type} (bind : α → G → G) (cond : G → Option Bool) (elt : G → Option β) (Γ : G) : List α → Option (List β)
  | [] => some []
  | x :: xs => (cond (bind x Γ)).bind fun b => if b = true then (elt (bind x Γ)).bind fun y => (lcL bind cond elt Γ xs).bind fun r => some (y :: r) else lcL bind cond elt Γ xs
def eLc {G α β : Type} (src : G → Option (List α)) (bind : α → G → G) (mask : G → G) (cond : G → Option Bool) (elt : G → Option β) : G → Option (List β) := fun Γ => (src Γ).bind fun xs => (lcL bind cond elt (mask Γ) xs).bind fun r => okIf (lenOk r.length) r
def eYes {G : Type} : G → Option Bool := fun _ => some true
theorem rt_yes : RT K ms ts tYes eYes := fun E L Γ σ H xt Q c o e q => by
  cases e
  exact q H (Same.refl H)
structure IterS (K : KW) (R : Reg) (t : Ty) (J : It) (ds : List (den t)) (Z : Hp → Prop) : Prop where
  keep : ∀ H H', Same H H' → Z H → Z H'
  go : ∀ i H, Z H → i < ds.length → J.go i H
  stop : ∀ H, Z H → J.stop ds.length H
  yld : ∀ i H x H', i < ds.length → Z H → J.yld i H x H' → Same H H' ∧ ∃ d, ds[i]? = some d ∧ (rS K H' R t).1 x d
def RIS (K : KW) (ms : List Md) (ts : List Ty) (wi : TI) (w : Bool) (t : Ty) (F : Gam ts → Option (List (den t))) : Prop :=
  ∀ (E : Ent) (L : Reg) (Γ : Gam ts) (σ : St) (H : Hp) (xt : List Addr) (R : It → Hp → Prop) (ds : List (den t)), Own K E L ms ts Γ σ H xt → F Γ = some ds →
    (∀ J H' Lr Z, Same H H' → Nw H H' Lr → IterS K (reg w E fun a => L a ∨ Lr a) t J ds Z → Z H' → R J H') → wi σ H R
theorem ris_of {w : Bool} {t : Ty} {wi : TI} {F : Gam ts → Option (List (den t))} (h : RI K ms ts wi w t F) : RIS K ms ts wi w t F := fun E L Γ σ H xt R ds o e q =>
  h E L Γ σ H xt R ds o e fun J H' Lr Z s n it z => q J H' Lr Z s n ⟨fun H H' s => it.keep H H' (Cov.of_same s fun _ h _ => h) (Stb.of_same s), it.go, it.stop, it.yld⟩ z
theorem ris_list {w : Bool} {t : Ty} {m : Em} {te : TE} {F : Gam ts → Option (List (den t))} (h : RP K ms ts te m (.list t) F) (hf : t.frz = true := by rfl) : RIS K ms ts (iList K te) w t F := fun E L Γ σ H xt R ds o e q => by
  refine h E L Γ σ H xt _ ds o e fun v H1 s1 r1 => ?_
  obtain ⟨a, vs, rfl, h1, h2⟩ := id r1.b
  refine ⟨a, rfl, ⟨vs, h1.seq⟩, q _ H1 (fun _ => False) (fun H => (rS K H (fun _ => True) (.list t)).1 (.ref a) ds) s1 (fun a h => h.elim) ⟨fun H H' s z => (rS_mono (Cov.of_same s fun _ h _ => h) (Stb.of_same s) (.list t)).1 _ _ z, iter_list.go, iter_list.stop, fun i H x H' hlt z hy => ?_⟩ r1.b⟩
  obtain ⟨s, d, hd, r⟩ := (iter_list (K := K) (R := fun _ => True) (t := t) (a := a) (ds := ds)).yld i H x H' hlt z hy
  exact ⟨s, d, hd, (rS_frz t hf).1 x d r⟩
theorem rp_hide {te : TE} {m : Em} {t : Ty} {F : Gam ts → Option (den t)} (h : RP K ms ts te m t F) : RP K ms ts te m t (hide F) := by
  rw [hide_eq]
  exact h
def okLc (m : Em) (bs : List Bool) (vs : List Nat) : Bool := !(m == .b) && vs.all fun v => bs[v]? == some false
theorem rp_lc {w : Bool} {m : Em} {t u : Ty} {wi : TI} {g : TG} {tt : TT} {te : TE} {src : Gam ts → Option (List (den t))} {B : den t → Gam ts → Gam ts} {cond : Gam ts → Option Bool} {elt : Gam ts → Option (den u)} (bs : List Bool) (vs : List Nat)
    (hi : RIS K ms ts wi w t src) (hg : RG K ms ts g w t B) (hw : GW g vs) (hc : RT K ms ts tt cond) (he : RP K ms ts te m u elt) (hk : okLc m bs vs = true := by rfl) : RP K ms ts (tLc wi g tt te vs) m (.list u) (eLc src B (Gam.mask bs) cond elt) := fun E L Γ σ H xt Q d o e q => by
  obtain ⟨xs, e1, e⟩ := bind_some e
  obtain ⟨r, e2, e⟩ := bind_some e
  simp only [okLc, Bool.and_eq_true, Bool.not_eq_true', List.all_eq_true, beq_iff_eq] at hk
  obtain ⟨hm, hv⟩ := hk
  dsimp only [okIf] at e
  split at e
  · rename_i hz
    cases e
    have hz := of_decide_eq_true hz
    have o0 := o.drop
    refine hi E L Γ σ H [] _ xs o0 e1 fun J H1 Lr Z s1 nw it z1 => fun D hD => ?_
    have o1 : Own K E (fun a => L a ∨ Lr a) ms ts (Gam.mask bs Γ) (L2.wipe σ vs) H1 [] := Own.wipe hv ((o0.temp s1 List.nodup_nil (fun a ha => by simp at ha) nw fun a ha => by simp at ha).mask bs)
    have fD := o1.fresh hD
    refine ⟨fun i k H' => k = xs.length - i ∧ i ≤ xs.length ∧ Same H1 H' ∧ ∃ acc ds rest, H' D = some (.lst acc) ∧ RepL K E (fun a => L a ∨ Lr a) (L2.upd H1 D (.lst [])) H' m u acc ds ∧ lcL B cond elt (Gam.mask bs Γ) (xs.drop i) = some rest ∧ d = ds ++ rest,
      ⟨xs.length, rfl, Nat.zero_le _, same_new hD, [], [], d, upd_same, RepL.nil, e2, rfl⟩, ?_⟩
    rintro i k H' ⟨rfl, hle, sH, acc, ds, rest, hDa, rl, e4, rfl⟩
    have z' : Z H' := it.keep H1 H' sH z1
    by_cases hlt : i < xs.length
    · refine .inr ⟨it.go i H' z' hlt, fun H'' => Same H1 H'' ∧ ∃ acc ds' rest', H'' D = some (.lst acc) ∧ RepL K E (fun a => L a ∨ Lr a) (L2.upd H1 D (.lst [])) H'' m u acc ds' ∧ lcL B cond elt (Gam.mask bs Γ) (xs.drop (i + 1)) = some rest' ∧ ds ++ rest = ds' ++ rest',
        fun H'' h => ⟨xs.length - (i + 1), by omega, rfl, hlt, h⟩, fun x H3 hy => ?_⟩
      obtain ⟨s3, dd, hd, rd⟩ := it.yld i H' x H3 hlt z' hy
      have ed : xs.drop i = dd :: xs.drop (i + 1) := by
        have hd' : xs[i] = dd := by
          have := List.getElem?_eq_getElem hlt
          rw [this] at hd
          exact Option.some.inj hd
        rw [List.drop_eq_getElem_cons hlt, hd']
      rw [ed] at e4
      obtain ⟨b, e5, e6⟩ := bind_some (show (cond (B dd (Gam.mask bs Γ))).bind _ = some rest from e4)
      have o3 := o1.same (sH.trans s3)
      have main := hw x (L2.wipe σ vs) H3 _ (hg E _ (Gam.mask bs Γ) (L2.wipe σ vs) H3 (fun σ2 H2 => tt σ2 H2 fun b H3 => if b = true then te σ2 H3 fun y H4 => ∃ acc, H4 D = some (.lst acc) ∧ acc.length < sizeLine ∧ (fun H'' => Same H1 H'' ∧ ∃ acc ds' rest', H'' D = some (.lst acc) ∧ RepL K E (fun a => L a ∨ Lr a) (L2.upd H1 D (.lst [])) H'' m u acc ds' ∧ lcL B cond elt (Gam.mask bs Γ) (xs.drop (i + 1)) = some rest' ∧ ds ++ rest = ds' ++ rest') (L2.upd H4 D (.lst (acc ++ [y]))) else (fun H'' => Same H1 H'' ∧ ∃ acc ds' rest', H'' D = some (.lst acc) ∧ RepL K E (fun a => L a ∨ Lr a) (L2.upd H1 D (.lst [])) H'' m u acc ds' ∧ lcL B cond elt (Gam.mask bs Γ) (xs.drop (i + 1)) = some rest' ∧ ds ++ rest = ds' ++ rest') H3) x dd o3 rd fun σ4 o4 ev4 => ?_)
      · rw [wipe_wipe] at main
        exact main
      · refine hc E _ _ σ4 H3 [] _ b o4 e5 fun H5 s5 => ?_
        have s35 : Same H' H5 := s3.trans s5
        cases b with
        | false =>
          rw [if_neg Bool.false_ne_true] at e6 ⊢
          exact ⟨sH.trans s35, acc, ds, rest, s35 _ _ hDa, rl.same hm s35, e6, rfl⟩
        | true =>
          rw [if_pos rfl] at e6 ⊢
          obtain ⟨y, e7, e8⟩ := bind_some e6
          obtain ⟨r', e9, e10⟩ := bind_some e8
          cases e10
          refine he E _ _ σ4 H5 [] _ y (o4.same s5) e7 fun v H6 s6 r6 => ?_
          have s36 : Same H' H6 := s35.trans s6
          have hD6 := s36 _ _ hDa
          refine ⟨acc, hD6, ?_, fun a q h => ?_, acc ++ [v], ds ++ [y], r', upd_same, ?_, e9, by simp⟩
          · have := rl.len
            simp only [List.length_append, List.length_cons] at hz
            omega
          · have ne : a ≠ D := fun z => by
              subst z
              rw [hD] at h
              cases h
            rw [upd_ne ne]
            exact (sH.trans s36) a q h
          · refine RepL.upd hm hD6 rfl (by rw [upd_same]; rfl) fD.2.1 fD.2.2 (RepL.snoc hm s6 (fun a h => ?_) (rl.same hm s35) r6)
            have ne : a ≠ D := fun z => by
              subst z
              rw [s35 _ _ hDa] at h
              cases h
            rw [upd_ne ne]
            exact (sH.trans s35).free h
    · have hi' : i = xs.length := by omega
      subst hi'
      rw [List.drop_length] at e4
      cases e4
      refine .inl ⟨it.stop H' z', q (.ref D) H' (s1.trans sH) ?_⟩
      rw [List.append_nil]
      exact rl.list hm s1 nw hD sH hDa
  · cases e
end
end VV
namespace VV
open PySem L2
open PyProof.Rows hiding St
section
variable {K : KW} {E : Ent} {ms : List Md} {ts : List Ty} {L L1 : Reg} {Γ Γ1 : Gam ts} {σ σ1 : St} {H H' H0 H1 H2 : Hp} {xt : List Addr} {rm : Rm} {ρ : Ty}
theorem rep_newL {t : Ty} {R : Reg} {l : Addr} {vs : List V} {d : List (den t)} (hf : t.frz = true) (s : Same H H1) (hn : H1 l = none) (h : F2 (rS K H1 R t).1 vs d) : Same H (upd H1 l (.lst vs)) ∧ Rep K E L H (upd H1 l (.lst vs)) .o (.list t) (.ref l) d := by
  have s4 : Same H1 (upd H1 l (.lst vs)) := same_new hn
  refine ⟨s.trans s4, [l], fun _ => False, ⟨l, _, [], rfl, rfl, upd_same, F3.of2 (fun v d x => .inl ((rS_o t hf).1 v d x)) (h.imp (rS_mono (Cov.of_same s4 fun _ h _ => h) (Stb.of_same s4) t).1)⟩, by simp, fun a ha => ?_, fun a h => h.elim, fun a _ h => h⟩
  have ha : a = l := by simpa using ha
  subst ha
  exact ⟨s.free hn, by rw [upd_same]; rfl⟩
theorem rep_newT {t : Ty} {R : Reg} {l : Addr} {vs : List V} {d : List (den t)} (m : Em) (hf : t.frz = true) (s : Same H H1) (hn : H1 l = none) (h : F2 (rS K H1 R t).1 vs d) : Same H (upd H1 l (.tup vs)) ∧ Rep K E L H (upd H1 l (.tup vs)) m (.vtup t) (.ref l) d := by
  have s4 : Same H1 (upd H1 l (.tup vs)) := same_new hn
  exact ⟨s.trans s4, Rep.frz (t := .vtup t) hf m (R := R) ⟨l, vs, rfl, upd_same, h.imp (rS_mono (Cov.of_same s4 fun _ h _ => h) (Stb.of_same s4) t).1⟩⟩
abbrev rLen (K : PySem.W.Frag) : List V → Hp → VK → Prop := fun xs H Q => ∃ x n, xs = [x] ∧ LenV K x H n ∧ Q (.int n) H
abbrev rListOf (K : PySem.W.Frag) : List V → Hp → VK → Prop := fun xs H Q => ∃ p ys, xs = [.ref p] ∧ (SqL K H p ys ∨ SqT K H p ys) ∧ ∀ l, H l = none → Q (.ref l) (upd H l (.lst ys))
abbrev rTupOf (K : PySem.W.Frag) : List V → Hp → VK → Prop := fun xs H Q => ∃ p ys, xs = [.ref p] ∧ ((SqL K H p ys ∧ ∀ l, H l = none → Q (.ref l) (upd H l (.tup ys))) ∨ (SqT K H p ys ∧ Q (.ref p) H))
theorem rp_listL {t : Ty} {m : Em} {te : TE} {F : Gam ts → Option (List (den t))} (h : RP K ms ts te m (.list t) F) (hf : t.frz = true := by rfl) : RP K ms ts (tCB (rListOf K) (tCons te tNil)) .o (.list t) F := fun E L Γ σ H xt Q d o e q => by
  refine h E L Γ σ H xt _ d o e fun v H1 s1 r1 => ?_
  obtain ⟨p, vs, rfl, h1, h2⟩ := r1.b
  refine ⟨p, vs, rfl, .inl h1.seq, fun l hn => ?_⟩
  obtain ⟨s, r⟩ := rep_newL (E := E) (L := L) hf s1 hn h2
  exact q _ _ s r
theorem rp_tupL {t : Ty} {m m' : Em} {te : TE} {F : Gam ts → Option (List (den t))} (h : RP K ms ts te m' (.list t) F) (hf : t.frz = true := by rfl) : RP K ms ts (tCB (rTupOf K) (tCons te tNil)) m (.vtup t) F := fun E L Γ σ H xt Q d o e q => by
  refine h E L Γ σ H xt _ d o e fun v H1 s1 r1 => ?_
  obtain ⟨p, vs, rfl, h1, h2⟩ := r1.b
  refine ⟨p, vs, rfl, .inl ⟨h1.seq, fun l hn => ?_⟩⟩
  obtain ⟨s, r⟩ := rep_newT (E := E) (L := L) m hf s1 hn h2
  exact q _ _ s r
theorem rp_tupV {t : Ty} {m m' : Em} {te : TE} {F : Gam ts → Option (List (den t))} (h : RP K ms ts te m' (.vtup t) F) (hf : t.frz = true := by rfl) : RP K ms ts (tCB (rTupOf K) (tCons te tNil)) m (.vtup t) F := fun E L Γ σ H xt Q d o e q => by
  refine h E L Γ σ H xt _ d o e fun v H1 s1 r1 => ?_
  obtain ⟨p, vs, rfl, h1, h2⟩ := id r1.b
  exact ⟨p, vs, rfl, .inr ⟨.of h1, q _ _ s1 (Rep.frz (t := .vtup t) hf m r1.b)⟩⟩
theorem f2_nil {α β : Type} {P : α → β → Prop} {vs : List α} {ds : List β} (h : F2 P vs ds) : vs = [] ↔ ds = [] := by
  cases vs <;> cases ds <;> first | exact h.elim | simp
theorem v_catT {m : Em} {t : Ty} (hf : t.frz = true := by rfl) : V2 K (rCatA K) m (.vtup t) (.vtup t) (.vtup t) fCatL := fun E L H v w a b c Q ra rb e q => by
  dsimp only [fCatL, okIf] at e
  split at e
  · rename_i hz
    cases e
    obtain ⟨p, vs, rfl, h1, h2⟩ := id ra
    obtain ⟨p', ws, rfl, h3, h4⟩ := id rb
    refine ⟨p, p', vs, ws, rfl, rfl, .of h1, .of h3, by rw [h2.length, h4.length]; exact of_decide_eq_true hz, fun z => ?_, fun z z' => ?_, fun z z' l hn => ?_⟩
    · have := (f2_nil h2).mp z
      subst this
      exact q _ H (Same.refl H) (Rep.frz (t := .vtup t) hf m rb)
    · have := (f2_nil h4).mp z'
      subst this
      rw [List.append_nil] at q
      exact q _ H (Same.refl H) (Rep.frz (t := .vtup t) hf m ra)
    · obtain ⟨s, r⟩ := rep_newT (E := E) (L := L) m hf (Same.refl H) hn (F2.append h2 h4)
      exact q _ _ s r
  · cases e
theorem cut_whole {α : Type} {xs : List α} {lo hi : Option Int} (h : HT.sIx xs.length 0 lo = 0 ∧ HT.sIx xs.length xs.length hi = xs.length) : cutD xs lo hi = xs := by
  unfold cutD
  rw [h.1, h.2]
  simp
theorem rp_sliceT {t : Ty} {m m' : Em} {te : TE} {tl th : TO} {F : Gam ts → Option (List (den t))} {Fl Fh : Gam ts → Option (Option Int)} (h : RP K ms ts te m (.vtup t) F) (hl : RO K ms ts tl Fl) (hh : RO K ms ts th Fh) (hf : t.frz = true := by rfl) :
    RP K ms ts (tSl (rSlA K) te tl th) m' (.vtup t) (e3 fCutL F Fl Fh) := fun E L Γ σ H xt Q d o e q => by
  obtain ⟨a, ea, e⟩ := bind_some e
  obtain ⟨lo, el, e⟩ := bind_some e
  obtain ⟨hi, eh, e⟩ := bind_some e
  cases e
  refine h E L Γ σ H xt _ a o ea fun v H1 s1 r1 => ?_
  refine hl E L Γ σ H1 xt _ lo (o.same s1) el fun H2 s2 => ?_
  refine hh E L Γ σ H2 xt _ hi ((o.same s1).same s2) eh fun H3 s3 => ?_
  have s13 := s2.trans s3
  have r3 := (rS_mono (Cov.of_same s13 fun _ h _ => h) (Stb.of_same s13) (.vtup t)).1 v a r1.b
  obtain ⟨p, vs, rfl, h1, h2⟩ := id r3
  refine ⟨p, vs, rfl, .of h1, fun z => ?_, fun z l hn => ?_⟩
  · rw [h2.length] at z
    rw [cut_whole z] at q
    exact q _ _ (s1.trans s13) (Rep.frz (t := .vtup t) hf m' r3)
  · obtain ⟨s, r⟩ := rep_newT (E := E) (L := L) m' hf (s1.trans s13) hn (f2_cut (lo := lo) (hi := hi) h2)
    exact q _ _ s r
def fRepL {α : Type} (d : List α) (n : Int) : Option (List α) := okIf (decide (-(2 ^ 62) ≤ n ∧ n < 2 ^ 62 ∧ d.length * n.toNat ≤ sizeLine)) (List.replicate n.toNat d).flatten
theorem f2_rep {α β : Type} {P : α → β → Prop} {vs : List α} {ds : List β} (h : F2 P vs ds) : ∀ n, F2 P (List.replicate n vs).flatten (List.replicate n ds).flatten
  | 0 => True.intro
  | n + 1 => by
    rw [List.replicate_succ, List.replicate_succ, List.flatten_cons, List.flatten_cons]
    exact F2.append h (f2_rep h n)
theorem rp_rep {t : Ty} {m2 : Em} {ta tb : TE} {Fa : Gam ts → Option (List (den t))} {Fb : Gam ts → Option Int} (ha : RP K ms ts ta .o (.list t) Fa) (hb : RP K ms ts tb m2 .int Fb) (hf : t.frz = true := by rfl) : RP K ms ts (tOp rRep ta tb) .o (.list t) (e2 fRepL Fa Fb) := fun E L Γ σ H xt Q d o e q => by
  obtain ⟨a, ea, e⟩ := bind_some e
  obtain ⟨b, eb, e⟩ := bind_some e
  dsimp only [fRepL, okIf] at e
  split at e
  · rename_i hz
    cases e
    have hz := of_decide_eq_true hz
    refine ha E L Γ σ H xt _ a o ea fun v H1 s1 r1 => ?_
    refine hb E L Γ σ H1 xt _ b (o.same s1) eb fun w H2 s2 r2 => ?_
    obtain ⟨f, Lr, ⟨p, vs, g, rfl, rfl, h1, h2⟩, _⟩ := r1
    have h1' := s2 _ _ h1
    have h4 : F2 (rS K H2 (fun _ => True) t).1 vs a := h2.to2 fun v d g _ x => (rS_mono (R := fun _ => True) (Cov.of_same s2 fun _ h _ => h) (Stb.of_same s2) t).1 v d (x.elim (fun y => (rO_s (fun _ _ => True.intro) t).1 v d g (fun _ _ => True.intro) y) fun y => (rS_mono (Cov.of_reg fun _ _ _ => True.intro) (Stb.refl _) t).1 v d y.2.2)
    cases (show w = .int b from r2.b)
    refine ⟨p, b, vs, rfl, rfl, h1', by omega, by omega, by rw [h4.length]; exact hz.2.2, fun l hn => ?_⟩
    obtain ⟨s, r⟩ := rep_newL (E := E) (L := L) hf (s1.trans s2) hn (f2_rep h4 b.toNat)
    exact q _ _ s r
  · cases e
end
end VV
namespace VV
open PySem L2
open PyProof.Rows hiding St
section
variable {K : KW} {E : Ent} {ms : List Md} {ts : List Ty} {L L1 : Reg} {Γ Γ1 : Gam ts} {σ σ1 : St} {H H' H0 H1 H2 : Hp} {xt : List Addr} {rm : Rm} {ρ : Ty}
abbrev Kid (K : KW) (H : Hp) (L : Reg) (t : Ty) : V → den t → List Addr → Prop := kid t.isOwn (rS K H L t).1 (rO K H L t).1
theorem set_same {α : Type} {σ : List α} {n : Nat} {x : α} (h : σ[n]? = some x) : σ.set n x = σ := by
  refine List.ext_getElem? fun k => ?_
  by_cases hn : k = n
  · subst hn
    rw [List.getElem?_set_self (List.getElem?_eq_some_iff.mp h).1]
    exact h.symm
  · rw [List.getElem?_set_ne (Ne.symm hn)]
theorem Own.lst {t : Ty} (i : Mem ts (.list t)) {xs : List (den t)} (o : Own K E L ms ts Γ σ H []) {mo : Md} (hm : ms[i.ix]? = some mo) (ho : mo.own = true) (hx : i.get Γ = some xs) :
    ∃ a vs g, σ[i.ix]? = some (some (.ref a)) ∧ H a = some (.lst vs) ∧ F3 (Kid K H L t) vs xs g ∧ (a :: g).Nodup ∧ (∀ b ∈ a :: g, Good E L H b) ∧
    ∀ (H1 : Hp) (fd : List Addr) (Lr : Reg) (vs' : List V) (ds' : List (den t)) (g' : List Addr), Same H H1 → Nw H H1 (· ∈ fd) → Nw H H1 Lr → (∀ b ∈ fd, ¬ Lr b) → F3 (Kid K H1 (fun b => L b ∨ Lr b) t) vs' ds' g' → g'.Nodup → (∀ b ∈ g', b ∈ g ∨ b ∈ fd) →
      Own K E (fun b => L b ∨ Lr b) ms ts (i.set (some ds') Γ) σ (upd H1 a (.lst vs')) [] ∧ Ev ms ts L Γ σ H (fun b => L b ∨ Lr b) (i.set (some ds') Γ) σ (upd H1 a (.lst vs')) := by
  obtain ⟨s0, f0, q1, q2, q3, q4, q5⟩ := o.focus i hm
  rw [hx] at q2
  obtain ⟨v, rfl, q2⟩ := q2
  obtain ⟨a, vs, g, rfl, rfl, hl, hk⟩ := (repM_own ho).mp q2
  have hnd := List.nodup_cons.mp q3
  have ga := (q4 a List.mem_cons_self).1
  have gg : ∀ b ∈ g, Good E L H b := fun b hb => (q4 b (List.mem_cons_of_mem _ hb)).1
  refine ⟨a, vs, g, q1, hl, hk, q3, fun b hb => (q4 b hb).1, fun H1 fd Lr vs' ds' g' s1 h3 h4 h5 k0 n0 m0 => ?_⟩
  have hl1 := s1 _ _ hl
  have na : ∀ b ∈ fd, b ≠ a := fun b hb z => by
    subst z
    have := (h3 b hb).1
    rw [hl] at this
    cases this
  have st : Stb H (upd H1 a (.lst vs')) := (Stb.of_same s1).trans (Stb.upd hl1 rfl)
  have oth : ∀ b, (H b).isSome = true → b ≠ a → upd H1 a (.lst vs') b = H b := fun b hb hne => by rw [upd_ne hne]; exact same_at s1 hb
  have cov1 : Cov H1 (upd H1 a (.lst vs')) (fun b => L b ∨ Lr b) (fun b => L b ∨ Lr b) := fun b q hb x => by
    refine ⟨hb, ?_⟩
    have hne : b ≠ a := fun z => by
      subst z
      rcases hb with hb | hb
      · exact ga.nl hb
      · have := (h4 b hb).1
        rw [hl] at this
        cases this
    rw [upd_ne hne]
    exact x
  have ga' : ∀ b ∈ g', b ≠ a := fun b hb z => by
    rcases m0 b hb with q | q
    · exact hnd.1 (z ▸ q)
    · exact na b q z
  have k1 : F3 (Kid K (upd H1 a (.lst vs')) (fun b => L b ∨ Lr b) t) vs' ds' g' :=
    k0.imp fun v d g2 hg x => kid_mono ((rS_mono cov1 (Stb.upd hl1 rfl) t).1 v d) ((rO_mono cov1 (Stb.upd hl1 rfl) t).1 v d g2 fun b hb => upd_ne (ga' b (hg b hb))) x
  have up : ∀ b, (H1 b).isSome = true → (upd H1 a (.lst vs') b).isSome = true := fun b hb => by
    by_cases z : b = a
    · rw [z, upd_same]; rfl
    · rw [upd_ne z]; exact hb
  have upH : ∀ b, (H b).isSome = true → (upd H1 a (.lst vs') b).isSome = true := fun b hb => up b (by rw [same_at s1 hb]; exact hb)
  have o' := q5 (upd H1 a (.lst vs')) (fun b => L b ∨ Lr b) (some ds') (some (.ref a)) (a :: g') [] (fun b hb hnf _ => oth b hb fun z => hnf (z ▸ List.mem_cons_self)) st (fun _ h => .inl h)
    (fun b hb => hb.elim .inl fun z => .inr (.inr (.inr (h4 b z).1))) upH
    (fun b hb => hb.elim (fun z => ⟨(o.lr b z).1, upH b (o.lr b z).2⟩) fun z => ⟨.inl (o.fresh (h4 b z).1).1, up b (h4 b z).2⟩)
    ⟨.ref a, rfl, (repM_own ho).mpr ⟨a, vs', g', rfl, rfl, upd_same, k1⟩⟩
    (by
      rw [List.append_nil]
      exact List.nodup_cons.mpr ⟨fun z => ga' a z rfl, n0⟩)
    (fun b hb => by
      have hb : b ∈ a :: g' := by simpa using hb
      rcases List.mem_cons.mp hb with rfl | hb
      · refine ⟨.inl List.mem_cons_self, fun z => z.elim ga.nl fun z => ?_, by rw [upd_same]; rfl⟩
        have := (h4 b z).1
        rw [hl] at this
        cases this
      · rcases m0 b hb with hb | hb
        · refine ⟨.inl (List.mem_cons_of_mem _ hb), fun z => z.elim (gg b hb).nl fun z => ?_, upH b (gg b hb).at_⟩
          have := (gg b hb).at_
          rw [(h4 b z).1] at this
          cases this
        · exact ⟨.inr (.inr (h3 b hb).1), fun z => z.elim (o.fresh (h3 b hb).1).2.1 (h5 b hb), up b (h3 b hb).2⟩)
  rw [set_same q1] at o'
  refine ⟨o', fun _ h => .inl h, fun b q hb x => ?_, st, keepF_set0 i hm (own_hard ho) _⟩
  rw [oth b (o.lr b hb).2 fun z => ga.nl (z ▸ hb)]
  exact x
theorem kid_frz {t : Ty} (hf : t.frz = true) {R : Reg} {v : V} {d : den t} (r : (rS K H R t).1 v d) : Kid K H L t v d [] := .inl ((rS_o t hf).1 v d r)
theorem kids_frz {t : Ty} (hf : t.frz = true) {R : Reg} {vs : List V} {ds : List (den t)} (h : F2 (rS K H R t).1 vs ds) : F3 (Kid K H L t) vs ds [] := F3.of2 (fun v d x => kid_frz hf x) h
theorem kids_s {t : Ty} {vs : List V} {ds : List (den t)} {g : List Addr} (h : F3 (Kid K H L t) vs ds g) : F2 (rS K H (fun _ => True) t).1 vs ds := h.to2 fun v d g _ x => x.elim (fun y => (rO_s (fun _ _ => True.intro) t).1 v d g (fun _ _ => True.intro) y) fun y => (rS_mono (Cov.of_reg fun _ _ _ => True.intro) (Stb.refl _) t).1 v d y.2.2
theorem F2.set {α β : Type} {P : α → β → Prop} {v : α} {d : β} (q : P v d) : ∀ {vs : List α} {ds : List β} (j : Nat), F2 P vs ds → F2 P (vs.set j v) (ds.set j d)
  | [], [], _, h => h
  | _ :: _, _ :: _, 0, h => ⟨q, h.2⟩
  | _ :: _, _ :: _, j + 1, h => ⟨h.1, F2.set q j h.2⟩
  | [], _ :: _, _, h => h.elim
  | _ :: _, [], _, h => h.elim
def sLput {ρ : Type} {ts : List Ty} {t : Ty} (i : Mem ts (.list t)) (F : Gam ts → Option (den t)) (G : Gam ts → Option Int) : Gam ts → Option (Fl (Gam ts) ρ) := fun Γ => (i.get Γ).bind fun xs => (F Γ).bind fun d => (G Γ).bind fun k => (ixN xs.length k).bind fun j => some (.nx (i.set (some (xs.set j d)) Γ))
theorem rs_lput {t : Ty} (i : Mem ts (.list t)) {n : Nat} {m m' : Em} {te ti : TE} {F : Gam ts → Option (den t)} {G : Gam ts → Option Int} (h : RP K ms ts te m t F) (h' : RP K ms ts ti m' .int G) (hf : t.frz = true := by rfl) {mo : Md} (hm : ms[i.ix]? = some mo := by rfl) (ho : mo.own = true := by rfl) (hn : i.ix = n := by rfl) :
    RS K ms ts (tAsg te (gSub (tVar n) ti rSetL)) rm ρ (sLput i F G) := fun E L Γ σ H D f o e p => by
  subst hn
  obtain ⟨xs, e1, e⟩ := bind_some e
  obtain ⟨d, e2, e⟩ := bind_some e
  obtain ⟨k, e3, e⟩ := bind_some e
  obtain ⟨j, e4, e⟩ := bind_some e
  cases e
  obtain ⟨a, vs, g, q1, hl, hk, hnd, gd, go⟩ := o.lst i hm ho e1
  refine h E L Γ σ H [] _ d o e2 fun v H1 s1 r1 => ⟨_, q1, h' E L Γ σ H1 [] _ k (o.same s1) e3 fun w H2 s2 r2 => ?_⟩
  cases (show w = .int k from r2.b)
  have s12 := s1.trans s2
  have hv := kids_s hk
  refine ⟨a, vs, k, j, rfl, rfl, s12 _ _ hl, by rw [hv.length]; exact e4, ?_⟩
  have r3 := (rS_mono (Cov.of_same s2 fun _ h _ => h) (Stb.of_same s2) t).1 v d r1.b
  have hv2 : F2 (rS K H2 (fun _ => True) t).1 vs xs := hv.imp (rS_mono (Cov.of_same s12 fun _ h _ => h) (Stb.of_same s12) t).1
  obtain ⟨o', ev⟩ := go H2 [] (fun _ => False) (vs.set j v) (xs.set j d) [] s12 (fun a h => by simp at h) (fun a h => h.elim) (fun a h => by simp at h) (kids_frz hf (F2.set r3 j hv2)) List.nodup_nil (fun a h => by simp at h)
  exact p _ σ _ o' ev
def sLst {ρ : Type} {ts : List Ty} {t : Ty} (i : Mem ts (.list t)) (g : List (den t) → List (den t)) : Gam ts → Option (Fl (Gam ts) ρ) := fun Γ => (i.get Γ).bind fun xs => some (.nx (i.set (some (g xs)) Γ))
def sExt {ρ : Type} {ts : List Ty} {t : Ty} (i : Mem ts (.list t)) (F : Gam ts → Option (List (den t))) : Gam ts → Option (Fl (Gam ts) ρ) := fun Γ => (i.get Γ).bind fun xs => (F Γ).bind fun d => if lenOk (xs.length + d.length) = true then some (.nx (i.set (some (xs ++ d)) Γ)) else none
theorem rS_stb {t : Ty} (hf : t.frz = true) {R R' : Reg} {v : V} {d : den t} (s : Stb H H') (r : (rS K H R t).1 v d) : (rS K H' R' t).1 v d :=
  (rS_mono (R := fun _ => False) (fun a o h _ => h.elim) s t).1 v d ((rS_frz t hf).1 v d r)
def ePop {ts : List Ty} {t : Ty} (i : Mem ts (.list t)) : Gam ts → Option (den t × Gam ts) := fun Γ => (i.get Γ).bind fun xs => xs.getLast?.bind fun d => some (d, i.set (some xs.dropLast) Γ)
def sAsgE {G ρ α : Type} (F : G → Option (α × G)) (B : α → G → G) : G → Option (Fl G ρ) := fun Γ => (F Γ).bind fun d => some (.nx (B d.1 d.2))
theorem rs_dropE {t : Ty} {te : TE} {F : Gam ts → Option (den t × Gam ts)} (h : RE K ms ts te .l t F) : RS K ms ts (tDrop te) rm ρ (sAsgE F fun _ Γ => Γ) := fun E L Γ σ H D f o e p => by
  obtain ⟨⟨d, Γ'⟩, e1, e2⟩ := bind_some e
  cases e2
  refine h E L Γ σ H _ d Γ' o e1 fun v L' H1 xt o1 ev1 r1 => ?_
  obtain ⟨rfl, r1⟩ := r1
  exact p L' σ H1 o1 ev1
def enumD {α : Type} (xs : List α) : List (Int × α) := (List.range xs.length).zipWith (fun (k : Nat) x => ((k : Int), x)) xs
theorem enum_get {α : Type} {xs : List α} {i : Nat} {x : α} (h : xs[i]? = some x) : (enumD xs)[i]? = some ((i : Int), x) := by
  have hi := (List.getElem?_eq_some_iff.mp h).1
  unfold enumD
  rw [List.getElem?_zipWith, List.getElem?_range hi, h]
theorem enum_len {α : Type} (xs : List α) : (enumD xs).length = xs.length := by simp [enumD]
theorem iter_enum {R : Reg} {t : Ty} {a : Addr} {ds : List (den t)} : IterOk K R (.tup (.cons .int (.last t))) (Ite K a) (enumD ds) (fun H => (rS K H R (.list t)).1 (.ref a) ds) where
  keep := fun H H' c s h => (rS_mono c s (.list t)).1 _ _ h
  go := fun i H h hi => by
    obtain ⟨b, vs, e, h1, h2⟩ := h
    cases e
    have hl := h2.length
    rw [enum_len] at hi
    exact ⟨vs, vs[i]'(by omega), h1.seq, List.getElem?_eq_getElem _⟩
  stop := fun H h => by
    obtain ⟨b, vs, e, h1, h2⟩ := h
    cases e
    exact ⟨vs, h1.seq, by rw [enum_len]; exact Nat.le_of_eq h2.length⟩
  yld := fun i H x H' hlt h hy => by
    obtain ⟨b, vs, e, h1, h2⟩ := h
    cases e
    obtain ⟨T, y, rfl, hn, rfl, hx⟩ := hy
    obtain ⟨d, hd, r⟩ := h2.get' (hx vs h1.seq)
    have s : Same H (upd H T (.tup [.int (i : Nat), y])) := same_new hn
    exact ⟨s, _, enum_get hd, T, _, rfl, upd_same, _, _, rfl, rfl, _, rfl, (rS_mono (Cov.of_same s fun _ h _ => h) (Stb.of_same s) t).1 y d r⟩
abbrev fEnum {α : Type} (xs : List α) : Option (List (Int × α)) := some (enumD xs)
theorem ri_enum {w : Bool} {t : Ty} {te : TE} {F : Gam ts → Option (List (den t))} (h : RP K ms ts te (if w then .w else .l) (.list t) F) : RI K ms ts (iEnum K (tCons te tNil)) w (.tup (.cons .int (.last t))) (e1 fEnum F) := fun E L Γ σ H xt R ds o e q => by
  obtain ⟨d, e1, e2⟩ := bind_some e
  cases e2
  refine h E L Γ σ H xt _ d o e1 fun v H1 s1 r1 => ?_
  obtain ⟨Lr, h1, h2⟩ := reg_rep r1
  obtain ⟨a, vs, rfl, h3, h4⟩ := id h1
  exact ⟨a, vs, rfl, h3.seq, q _ H1 Lr _ s1 h2 iter_enum h1⟩
end
end VV
namespace VV
open PySem L2
open PyProof.Rows hiding St
section
variable {K : KW} {E : Ent} {ms ms' : List Md} {ts : List Ty} {L L1 : Reg} {Γ Γ1 : Gam ts} {σ σ1 : St} {H H' H0 H1 H2 : Hp} {xt : List Addr} {rm : Rm} {ρ : Ty}
def okKeep : List Md → List Md → Bool
  | [], [] => true
  | m :: ms, m' :: ms' => (m == m' || (m == .o && m' == .k)) && okKeep ms ms'
  | _, _ => false
theorem rG_keep {S0 : Reg} : ∀ {ms ms' : List Md} {ts : List Ty} {Γ : Gam ts} {σ : St} {fp : List Addr}, okKeep ms ms' = true → (rG K H S0 L ms ts Γ σ fp ↔ rG K H S0 L ms' ts Γ σ fp)
  | [], [], [], _, _, _, _ => Iff.rfl
  | [], [], _ :: _, _, _, _, _ => Iff.rfl
  | m :: ms, m' :: ms', [], _, _, _, _ => Iff.rfl
  | m :: ms, m' :: ms', t :: ts, Γ, [], _, _ => Iff.rfl
  | m :: ms, m' :: ms', t :: ts, Γ, s :: σ, fp, hk => by
    simp only [okKeep, Bool.and_eq_true, Bool.or_eq_true, beq_iff_eq] at hk
    have ih : ∀ fp, rG K H S0 L ms ts Γ.2 σ fp ↔ rG K H S0 L ms' ts Γ.2 σ fp := fun fp => rG_keep hk.2
    have hs : ∀ f, slot K H S0 L m t Γ.1 s f ↔ slot K H S0 L m' t Γ.1 s f := fun f => by
      rcases hk.1 with h | ⟨h, h'⟩
      · rw [h]
      · subst h
        subst h'
        exact Iff.rfl
    constructor
    · rintro ⟨f1, f2, e, h1, h2⟩
      exact ⟨f1, f2, e, (hs f1).mp h1, (ih f2).mp h2⟩
    · rintro ⟨f1, f2, e, h1, h2⟩
      exact ⟨f1, f2, e, (hs f1).mpr h1, (ih f2).mpr h2⟩
  | [], _ :: _, _, _, _, _, hk => by simp [okKeep] at hk
  | _ :: _, [], _, _, _, _, hk => by simp [okKeep] at hk
theorem own_keep (hk : okKeep ms ms' = true) : Own K E L ms ts Γ σ H xt ↔ Own K E L ms' ts Γ σ H xt := by
  constructor
  · intro o
    obtain ⟨fp, g, r⟩ := o.ex
    exact ⟨⟨fp, (rG_keep hk).mp g, r⟩, o.fr, o.lr, o.s0, o.iod⟩
  · intro o
    obtain ⟨fp, g, r⟩ := o.ex
    exact ⟨⟨fp, (rG_keep hk).mpr g, r⟩, o.fr, o.lr, o.s0, o.iod⟩
theorem keep_get : ∀ {ms ms' : List Md} {n : Nat} {m : Md}, okKeep ms ms' = true → ms[n]? = some m → m.fixd = true → ms'[n]? = some m
  | m :: ms, m' :: ms', 0, x, hk, h, hh => by
    simp only [okKeep, Bool.and_eq_true, Bool.or_eq_true, beq_iff_eq] at hk
    have e : m = x := by simpa using h
    subst e
    rcases hk.1 with h | ⟨h, h'⟩
    · rw [h]; rfl
    · subst h
      cases hh
  | m :: ms, m' :: ms', n + 1, x, hk, h, hh => by
    simp only [okKeep, Bool.and_eq_true] at hk
    simpa using keep_get (n := n) hk.2 (by simpa using h) hh
  | [], _, _, _, _, h, _ => by simp at h
  | _ :: _, [], _, _, hk, _, _ => by simp [okKeep] at hk
theorem Ev.keeps {L' : Reg} {Γ' : Gam ts} {σ' : St} (hk : okKeep ms ms' = true) (e : Ev ms' ts L Γ σ H L' Γ' σ' H') : Ev ms ts L Γ σ H L' Γ' σ' H' := ⟨e.sub, e.cell, e.stb, fun t i m h hh => e.keep.1 t i m (keep_get hk h (hard_fixd hh)) hh, fun n m h hh => e.keep.2 n m (keep_get hk h hh) hh⟩
theorem rs_keep {st : TS} {F : Gam ts → Option (Fl (Gam ts) (den ρ))} (ms' : List Md) (h : RS K ms' ts st rm ρ F) (hk : okKeep ms ms' = true := by rfl) : RS K ms ts st rm ρ F := fun E L Γ σ H D f o e p => by
  refine h E L Γ σ H D f ((own_keep hk).mp o) e ?_
  cases f with
  | nx Γ' => exact fun L' σ' H' o' e' => p L' σ' H' ((own_keep hk).mpr o') (e'.keeps hk)
  | bk Γ' => exact fun L' σ' H' o' e' => p L' σ' H' ((own_keep hk).mpr o') (e'.keeps hk)
  | ct Γ' => exact fun L' σ' H' o' e' => p L' σ' H' ((own_keep hk).mpr o') (e'.keeps hk)
  | rt d Γ' => exact fun L' σ' H' v xt o' e' => p L' σ' H' v xt ((own_keep hk).mpr o') (e'.keeps hk)
structure IterG (K : KW) (E : Ent) (ms : List Md) (ts : List Ty) (L : Reg) (Γ : Gam ts) (σ : St) (H1 : Hp) (R : Reg) (t : Ty) (J : It) (ds : List (den t)) (Z : Hp → Prop) : Prop where
  keep : ∀ L2 Γ2 σ2 H2, Own K E L2 ms ts Γ2 σ2 H2 [] → Ev ms ts L Γ σ H1 L2 Γ2 σ2 H2 → Z H1 → Z H2
  go : ∀ i H, Z H → i < ds.length → J.go i H
  stop : ∀ H, Z H → J.stop ds.length H
  yld : ∀ i H x H', i < ds.length → Z H → J.yld i H x H' → Same H H' ∧ ∃ d, ds[i]? = some d ∧ (rS K H' R t).1 x d
def RIG (K : KW) (ms : List Md) (ts : List Ty) (wi : TI) (w : Bool) (t : Ty) (F : Gam ts → Option (List (den t))) : Prop :=
  ∀ (E : Ent) (L : Reg) (Γ : Gam ts) (σ : St) (H : Hp) (R : It → Hp → Prop) (ds : List (den t)), Own K E L ms ts Γ σ H [] → F Γ = some ds →
    (∀ J H' Lr Z, Same H H' → Nw H H' Lr → IterG K E ms ts (fun a => L a ∨ Lr a) Γ σ H' (reg w E fun a => L a ∨ Lr a) t J ds Z → Z H' → R J H') → wi σ H R
theorem Own.nw {Lr : Reg} (o : Own K E L ms ts Γ σ H []) (s : Same H H1) (n : Nw H H1 Lr) : Own K E (fun a => L a ∨ Lr a) ms ts Γ σ H1 [] := o.temp s List.nodup_nil (fun a ha => by simp at ha) n fun a ha => by simp at ha
theorem rig_name {w : Bool} {t u : Ty} (i : Mem ts (.list t)) {J : Addr → Nat → It} {f : List (den t) → List (den u)} (hm : ms[i.ix]? = some .k := by rfl)
    (it : ∀ (R : Reg) (a : Addr) (ds : List (den t)), IterOk K R u (J a ds.length) (f ds) (fun H => (rS K H R (.list t)).1 (.ref a) ds)) (hf : u.frz = true)
    {σ : St} {E : Ent} {L : Reg} {Γ : Gam ts} {H : Hp} {R : It → Hp → Prop} {ds : List (den t)} (o : Own K E L ms ts Γ σ H []) (e : i.get Γ = some ds)
    (q : ∀ J H' Lr Z, Same H H' → Nw H H' Lr → IterG K E ms ts (fun a => L a ∨ Lr a) Γ σ H' (reg w E fun a => L a ∨ Lr a) u J (f ds) Z → Z H' → R J H') :
    ∃ a vs, σ[i.ix]? = some (some (.ref a)) ∧ SqL K H a vs ∧ vs.length = ds.length ∧ R (J a ds.length) H := by
  obtain ⟨v, fp, h1, h2, _⟩ := o.look i hm e
  have h3 := repM_b h2
  obtain ⟨a, vs, rfl, h4, h5⟩ := id h3
  have I := it (fun _ => True) a ds
  refine ⟨a, vs, h1, h4.seq, h5.length, q _ H (fun _ => False) (fun H => (rS K H (fun _ => True) (.list t)).1 (.ref a) ds) (Same.refl H) (fun a h => h.elim) ⟨fun L2 Γ2 σ2 H2 o2 ev _ => ?_, I.go, I.stop, fun k H x H' hlt z hy => ?_⟩ h3⟩
  · have k1 := ev.keep.1 _ i .k hm rfl
    have k2 := ev.keep.2 _ .k hm rfl
    obtain ⟨v', f', h6, h7, _⟩ := o2.look i hm (k1.trans e)
    rw [k2, h1] at h6
    cases h6
    exact repM_b h7
  · obtain ⟨s, d, hd, r⟩ := I.yld k H x H' hlt z hy
    exact ⟨s, d, hd, (rS_frz u hf).1 x d r⟩
theorem rig_list {w : Bool} {t : Ty} (i : Mem ts (.list t)) {n : Nat} (hf : t.frz = true := by rfl) (hm : ms[i.ix]? = some .k := by rfl) (hn : i.ix = n := by rfl) : RIG K ms ts (iList K (tVar n)) w t (eV i) := fun E L Γ σ H R ds o e q => by
  subst hn
  obtain ⟨a, vs, h1, h2, h3, h4⟩ := rig_name (J := fun a _ => Itl K a) (f := id) i hm (fun R a ds => iter_list) hf o e q
  exact ⟨_, h1, a, rfl, ⟨vs, h2⟩, h4⟩
theorem rs_forG {w : Bool} {t : Ty} {wi : TI} {g : TG} {tb : TS} {F : Gam ts → Option (List (den t))} {B : den t → Gam ts → Gam ts} {body : Gam ts → Option (Fl (Gam ts) (den ρ))} (bs : List Bool) (hi : RIG K ms ts wi w t F) (hg : RG K ms ts g w t B) (hb : RS K ms ts tb rm ρ body)
    (hm : okMask ms bs = true := by rfl) : RS K ms ts (tFor wi g tb) rm ρ (sFor F B (Gam.mask bs) body) := fun E L Γ σ H D f o e p => by
  obtain ⟨ds, e1, e2⟩ := bind_some e
  refine hi E L Γ σ H _ ds o e1 fun J H1 Lr Z s1 nw it z1 => ?_
  have o1 : Own K E (fun a => L a ∨ Lr a) ms ts Γ σ H1 [] := o.nw s1 nw
  have ev1 : Ev ms ts L Γ σ H (fun a => L a ∨ Lr a) Γ σ H1 := ⟨fun a h => .inl h, fun a q _ h => s1 _ _ h, Stb.of_same s1, KeepF.refl⟩
  have p1 := p.later ev1
  have o1m := o1.mask bs
  refine ⟨fun i m σ' H' => m = ds.length - i ∧ i ≤ ds.length ∧ ∃ L' Γ', Own K E L' ms ts Γ' σ' H' [] ∧ Ev ms ts (fun a => L a ∨ Lr a) Γ σ H1 L' Γ' σ' H' ∧ forL B (Gam.mask bs) body (ds.drop i) Γ' = some f,
    ⟨ds.length, by simp, Nat.zero_le _, _, Gam.mask bs Γ, o1m, (Ev.same (Same.refl H1)).mask hm, by simpa using e2⟩, ?_⟩
  rintro i m σ2 H2 ⟨rfl, hle, L2, Γ2, o2, ev2, e3⟩
  have z2 : Z H2 := it.keep L2 Γ2 σ2 H2 o2 ev2 z1
  by_cases hlt : i < ds.length
  · refine .inr ⟨it.go i H2 z2 hlt, fun σ' H' => ∃ L' Γ', Own K E L' ms ts Γ' σ' H' [] ∧ Ev ms ts (fun a => L a ∨ Lr a) Γ σ H1 L' Γ' σ' H' ∧ forL B (Gam.mask bs) body (ds.drop (i + 1)) Γ' = some f, fun σ' H' h => ⟨ds.length - (i + 1), by omega, rfl, hlt, h⟩, fun x H3 hy => ?_⟩
    obtain ⟨s3, d, hd, rd⟩ := it.yld i H2 x H3 hlt z2 hy
    have ed : ds.drop i = d :: ds.drop (i + 1) := by
      have hd' : ds[i] = d := by
        have := List.getElem?_eq_getElem hlt
        rw [this] at hd
        exact Option.some.inj hd
      rw [List.drop_eq_getElem_cons hlt, hd']
    rw [ed] at e3
    obtain ⟨r, e4, e5⟩ := bind_some (show (body (B d Γ2)).bind _ = some f from e3)
    have o3 := o2.same s3
    have ev3 : Ev ms ts (fun a => L a ∨ Lr a) Γ σ H1 L2 Γ2 σ2 H3 := ev2.trans (Ev.same s3)
    refine hg E L2 Γ2 σ2 H3 _ x d o3 ((rS_mono (Cov.of_reg fun a h _ => (by
      cases w with
      | false => exact ev3.sub a h
      | true => exact h.elim .inl fun z => .inr (ev3.sub a z) : reg w E L2 a)) (Stb.refl H3) t).1 x d rd) fun σ4 o4 ev4 => ?_
    refine hb E L2 (B d Γ2) σ4 H3 _ r o4 e4 ?_
    have evb := ev3.trans ev4
    cases r with
    | nx Γ5 => exact fun L5 σ5 H5 o5 ev5 => ⟨L5, Gam.mask bs Γ5, o5.mask bs, (evb.trans ev5).mask hm, e5⟩
    | ct Γ5 => exact fun L5 σ5 H5 o5 ev5 => ⟨L5, Gam.mask bs Γ5, o5.mask bs, (evb.trans ev5).mask hm, e5⟩
    | bk Γ5 =>
      have e6 : Fl.nx (Gam.mask bs Γ5) = f := Option.some.inj e5
      subst e6
      exact fun L5 σ5 H5 o5 ev5 => p1 L5 σ5 H5 (o5.mask bs) ((evb.trans ev5).mask hm)
    | rt d5 Γ5 =>
      have e6 : Fl.rt d5 Γ5 = f := Option.some.inj e5
      subst e6
      exact fun L5 σ5 H5 v5 xt5 o5 ev5 r5 => p1 L5 σ5 H5 v5 xt5 o5 (evb.trans ev5) r5
  · have hi : i = ds.length := by omega
    subst hi
    rw [List.drop_length] at e3
    have e4 : Fl.nx Γ2 = f := Option.some.inj e3
    subst e4
    exact .inl ⟨it.stop H2 z2, p1 L2 σ2 H2 o2 ev2⟩
end
end VV
namespace VV
open PySem L2
open PyProof.Rows hiding St
section
variable {K : KW} {E : Ent} {ms ms' : List Md} {ts : List Ty} {L L1 : Reg} {Γ Γ1 : Gam ts} {σ σ1 : St} {H H' H0 H1 H2 : Hp} {xt : List Addr} {rm : Rm} {ρ : Ty}
def tNever : TS := fun _ _ _ => False
theorem ps_never {X : Cx} {st : Stmt} : PS X st tNever := ⟨fun _ _ _ _ _ _ h => h.elim⟩
def sNever {G ρ : Type} : G → Option (Fl G ρ) := fun _ => none
theorem rs_never : RS K ms ts tNever rm ρ sNever := fun E L Γ σ H D f o e p => by cases e
theorem pg_tupK {X : Cx} (K : PySem.W.Frag) (hK : X.K = K) {es : List Expr} {k : Nat} {pos : Pos} {t : TGs} {n : Nat} (hc : X.calm = true) (h : PGs X es t)
    (hn : (assignEach es X.env).length = n := by rfl) (hst : (assignEach es X.env).findIdx? (·.1) = none := by rfl) : PG X (.Tuple es k pos) (gTup K n t) := by
  subst hK
  exact pg_tup hc h hn hst
theorem pi_listK {X : Cx} (K : PySem.W.Frag) (hK : X.K = K) {tg l : Expr} {tl : TE} (hl : PE X l tl) : PI X tg l (iList K tl) := by
  subst hK
  exact pi_list hl
theorem pi_tupK {X : Cx} (K : PySem.W.Frag) (hK : X.K = K) {tg l : Expr} {tl : TE} (hl : PE X l tl) : PI X tg l (iTup K tl) := by
  subst hK
  exact pi_tup hl
abbrev fShr (a b : Int) : Option Int := okIf (decide (0 ≤ b)) (a / 2 ^ b.toNat)
abbrev fAnd (a b : Int) : Option Int := some (Builtin.bitAnd a b)
theorem v_shr {m : Em} : V2 K (rI (fun _ j => 0 ≤ j) fun i j => .int (i / 2 ^ j.toNat)) m .int .int .int fShr := v2_I (k := fun _ b => decide (0 ≤ b)) fun i j h => of_decide_eq_true h
theorem v_and {m : Em} : V2 K (rI0 fun i j => .int (Builtin.bitAnd i j)) m .int .int .int fAnd := v2_I0
def eChain {G α β γ : Type} (f : α → β → Option Bool) (g : β → γ → Option Bool) (Fa : G → Option α) (Fb : G → Option β) (Fc : G → Option γ) : G → Option Bool := fun Γ => (Fa Γ).bind fun a => (Fb Γ).bind fun b => (f a b).bind fun k => if k = true then (Fc Γ).bind fun c => g b c else some false
def getBy {α β κ : Type} [DecidableEq κ] (key : α → Option κ) (d : List (α × β)) (x : α) : Option β := (d.find? fun q => decide (key q.1 = key x)).map (·.2)
def putBy {α β κ : Type} [DecidableEq κ] (key : α → Option κ) (d : List (α × β)) (x : α) (y : β) : List (α × β) := if (d.any fun q => decide (key q.1 = key x)) = true then d.map (fun q => if key q.1 = key x then (q.1, y) else q) else d ++ [(x, y)]
def okRow : Ty → Bool
  | .last a => a == .int || a == .str
  | .cons a b => (a == .int || a == .str) && okRow b
  | _ => false
def okKey : Ty → Bool
  | .int => true
  | .str => true
  | .tup b => okRow b
  | .vtup t => t == .int || t == .str
  | _ => false
theorem key_atom {R : Reg} {a : Ty} (h : (a == .int || a == .str) = true) {v : V} {d : den a} (r : (rS K H R a).1 v d) : ∃ k, v = kV k ∧ keyS a d = some k := by
  cases a <;> first | cases h | skip
  · exact ⟨.inl d, r, rfl⟩
  · exact ⟨.inr d, r.1, rfl⟩
theorem key_row {R : Reg} : ∀ {b : Ty}, okRow b = true → ∀ {vs : List V} {d : den b}, (rS K H R b).2 vs d → ∃ ks : List Key, vs = ks.map kV ∧ keyRow b d = some ks
  | .last a, h, vs, d, r => by
    obtain ⟨v, rfl, r⟩ := r
    obtain ⟨k, e1, e2⟩ := key_atom (a := a) h r
    exact ⟨[k], by rw [e1]; rfl, by unfold keyRow; rw [e2]; rfl⟩
  | .cons a b, h, vs, d, r => by
    simp only [okRow, Bool.and_eq_true] at h
    obtain ⟨v, w, rfl, r1, r2⟩ := r
    obtain ⟨k, e1, e2⟩ := key_atom (a := a) h.1 r1
    obtain ⟨ks, e3, e4⟩ := key_row h.2 r2
    exact ⟨k :: ks, by rw [e1, e3]; rfl, by unfold keyRow; rw [e2, e4]; rfl⟩
  | .non, h, _, _, _ => by cases h
  | .bool, h, _, _, _ => by cases h
  | .int, h, _, _, _ => by cases h
  | .str, h, _, _, _ => by cases h
  | .any, h, _, _, _ => by cases h
  | .alt _ _, h, _, _, _ => by cases h
  | .exn, h, _, _, _ => by cases h
  | .opt _, h, _, _, _ => by cases h
  | .vtup _, h, _, _, _ => by cases h
  | .list _, h, _, _, _ => by cases h
  | .dict _ _, h, _, _, _ => by cases h
  | .own _, h, _, _, _ => by cases h
  | .hl _, h, _, _, _ => by cases h
  | .ins _ _ _, h, _, _, _ => by cases h
  | .tup _, h, _, _, _ => by cases h
theorem key_vs {R : Reg} {t : Ty} (h : (t == .int || t == .str) = true) : ∀ {vs : List V} {ds : List (den t)}, F2 (rS K H R t).1 vs ds → ∃ ks : List Key, vs = ks.map kV ∧ keyVs t ds = some ks
  | [], [], _ => ⟨[], rfl, rfl⟩
  | v :: vs, d :: ds, r => by
    obtain ⟨k, e1, e2⟩ := key_atom (a := t) h r.1
    obtain ⟨ks, e3, e4⟩ := key_vs h r.2
    exact ⟨k :: ks, by rw [e1, e3]; rfl, by unfold keyVs; rw [e2, e4]; rfl⟩
  | [], _ :: _, r => r.elim
  | _ :: _, [], r => r.elim
theorem key_of {R : Reg} {k : Ty} (h : okKey k = true) {v : V} {d : den k} (r : (rS K H R k).1 v d) : (k.tk = false ∧ ∃ x, v = kV x ∧ keyS k d = some x) ∨ (k.tk = true ∧ ∃ ks b, v = .ref b ∧ H b = some (.tup (ks.map kV)) ∧ keyT k d = some ks) := by
  cases k <;> first | cases h | skip
  · exact .inl ⟨rfl, key_atom (a := .int) rfl r⟩
  · exact .inl ⟨rfl, key_atom (a := .str) rfl r⟩
  · obtain ⟨a, vs, rfl, h1, h2⟩ := r
    obtain ⟨ks, rfl, e⟩ := key_vs (by exact h) h2
    exact .inr ⟨rfl, ks, a, rfl, h1, e⟩
  · obtain ⟨a, vs, rfl, h1, h2⟩ := r
    obtain ⟨ks, rfl, e⟩ := key_row (by exact h) h2
    exact .inr ⟨rfl, ks, a, rfl, h1, e⟩
theorem val_of {α β κ : Type} [DecidableEq κ] {key : α → Option κ} {P : V → β → Prop} {x : α} {k : κ} (hx : key x = some k) : ∀ {kvs : List (κ × V)} {d : List (α × β)}, F2 (fun p q => key q.1 = some p.1 ∧ P p.2 q.2) kvs d →
    (getBy key d x = none ∧ valV kvs k = none) ∨ ∃ v y, getBy key d x = some y ∧ valV kvs k = some v ∧ P v y
  | [], [], _ => .inl ⟨rfl, rfl⟩
  | p :: kvs, q :: d, h => by
    obtain ⟨⟨h1, h2⟩, h3⟩ := h
    by_cases e : p.1 = k
    · refine .inr ⟨p.2, q.2, ?_, valV_pos e, h2⟩
      unfold getBy
      rw [List.find?_cons_of_pos (by rw [h1, hx, e]; exact decide_eq_true rfl)]
      rfl
    · have ih := val_of hx h3
      rw [valV_neg e]
      have : getBy key (q :: d) x = getBy key d x := by
        unfold getBy
        rw [List.find?_cons_of_neg (by rw [h1, hx, decide_eq_true_eq]; exact fun z => e (Option.some.inj z))]
      rw [this]
      exact ih
  | [], _ :: _, h => h.elim
  | _ :: _, [], h => h.elim
def fGetK {k : Ty} {β : Type} (d : List (den k × β)) (x : den k) : Option β := if k.tk = true then getBy (keyT k) d x else getBy (keyS k) d x
abbrev fInK {k : Ty} {β : Type} (x : den k) (d : List (den k × β)) : Option Bool := some (fGetK d x).isSome
abbrev fNotInK {k : Ty} {β : Type} (x : den k) (d : List (den k × β)) : Option Bool := some (!(fGetK d x).isSome)
theorem rd_of_strip {a : Addr} {kvs : List (Key × V)} (h : stripD (H a) = some (.dK kvs)) : Rd H a (.dK kvs) := (strip_dK h).elim .inl .inr
theorem rd_of_stripT {a : Addr} {kvs : List (List Key × V)} (h : stripD (H a) = some (.dT kvs)) : Rd H a (.dT kvs) := (strip_dT h).elim .inl .inr
theorem dget_of {k t : Ty} (hk : okKey k = true) {R R' : Reg} {a : Addr} {d : List (den k × den t)} {y : V} {x : den k} (h : (rS K H R (.dict k t)).1 (.ref a) d) (h' : (rS K H R' k).1 y x) :
    (fGetK d x = none ∧ DGet H a y none) ∨ ∃ v z, fGetK d x = some z ∧ DGet H a y (some v) ∧ (rS K H R t).1 v z := by
  obtain ⟨b, eb, h⟩ := h
  cases eb
  unfold fGetK
  rcases key_of hk h' with ⟨k1, key, rfl, ek⟩ | ⟨k1, ks, c, rfl, hc, ek⟩
  · rcases h with ⟨_, kvs, h1, h2⟩ | ⟨k2, _⟩
    · rw [k1, if_neg Bool.false_ne_true]
      rcases val_of ek h2 with ⟨g1, g2⟩ | ⟨v, z, g1, g2, g3⟩
      · exact .inl ⟨g1, .inl ⟨kvs, key, rd_of_strip h1.2, rfl, g2.symm⟩⟩
      · exact .inr ⟨v, z, g1, .inl ⟨kvs, key, rd_of_strip h1.2, rfl, g2.symm⟩, g3⟩
    · rw [k1] at k2
      cases k2
  · rcases h with ⟨k2, _⟩ | ⟨_, kvs, h1, h2⟩
    · rw [k1] at k2
      cases k2
    · rw [if_pos k1]
      rcases val_of ek h2 with ⟨g1, g2⟩ | ⟨v, z, g1, g2, g3⟩
      · exact .inl ⟨g1, .inr ⟨kvs, ks, c, rd_of_stripT h1.2, rfl, hc, g2.symm⟩⟩
      · exact .inr ⟨v, z, g1, .inr ⟨kvs, ks, c, rd_of_stripT h1.2, rfl, hc, g2.symm⟩, g3⟩
theorem dict_ref {k t : Ty} {R : Reg} {v : V} {d : List (den k × den t)} (h : (rS K H R (.dict k t)).1 v d) : ∃ a, v = .ref a := by
  obtain ⟨b, eb, _⟩ := h
  exact ⟨b, eb⟩
theorem rs_on {t : Ty} {v : V} {d : den t} (s : Same H H1) (r : (rS K H (fun _ => True) t).1 v d) : (rS K H1 (fun _ => True) t).1 v d := (rS_mono (Cov.of_same s fun _ h _ => h) (Stb.of_same s) t).1 v d r
theorem rp_dget {k t : Ty} {m1 m2 : Em} {td ty : TE} {F : Gam ts → Option (List (den k × den t))} {G : Gam ts → Option (den k)} (h : RP K ms ts td m1 (.dict k t) F) (h' : RP K ms ts ty m2 k G) (hk : okKey k = true := by rfl) : RP K ms ts (tDGet td ty) .b t (e2 (fGetK (k := k)) F G) := fun E L Γ σ H xt Q d o e q => by
  obtain ⟨a, ea, e⟩ := bind_some e
  obtain ⟨x, ex, e⟩ := bind_some e
  refine h E L Γ σ H xt _ a o ea fun v H1 s1 r1 => h' E L Γ σ H1 xt _ x (o.same s1) ex fun w H2 s2 r2 => ?_
  obtain ⟨p, rfl⟩ := dict_ref (k := k) (t := t) r1.b
  rcases dget_of hk (rs_on (t := .dict k t) s2 r1.b) r2.b with ⟨g1, _⟩ | ⟨v, z, g1, g2, g3⟩
  · rw [g1] at e
    cases e
  · rw [g1] at e
    cases e
    exact ⟨p, v, rfl, g2, q v H2 (s1.trans s2) g3⟩
theorem rp_din {k t : Ty} {m m1 m2 : Em} {td ty : TE} {F : Gam ts → Option (List (den k × den t))} {G : Gam ts → Option (den k)} (h' : RP K ms ts ty m2 k G) (h : RP K ms ts td m1 (.dict k t) F) (hk : okKey k = true := by rfl) : RP K ms ts (tDIn ty td) m .bool (e2 (fInK (k := k)) G F) := fun E L Γ σ H xt Q d o e q => by
  obtain ⟨x, ex, e⟩ := bind_some e
  obtain ⟨a, ea, e⟩ := bind_some e
  refine h' E L Γ σ H xt _ x o ex fun w H1 s1 r1 => h E L Γ σ H1 xt _ a (o.same s1) ea fun v H2 s2 r2 => ?_
  obtain ⟨p, rfl⟩ := dict_ref (k := k) (t := t) r2.b
  rcases dget_of hk r2.b (rs_on s2 r1.b) with ⟨g1, g2⟩ | ⟨v, z, g1, g2, g3⟩
  · rw [fInK, g1] at e
    cases e
    exact ⟨p, none, rfl, g2, q _ H2 (s1.trans s2) (rep_atom rfl rfl)⟩
  · rw [fInK, g1] at e
    cases e
    exact ⟨p, some v, rfl, g2, q _ H2 (s1.trans s2) (rep_atom rfl rfl)⟩
theorem rp_dnotin {k t : Ty} {m m1 m2 : Em} {td ty : TE} {F : Gam ts → Option (List (den k × den t))} {G : Gam ts → Option (den k)} (h' : RP K ms ts ty m2 k G) (h : RP K ms ts td m1 (.dict k t) F) (hk : okKey k = true := by rfl) : RP K ms ts (tDNotIn ty td) m .bool (e2 (fNotInK (k := k)) G F) := fun E L Γ σ H xt Q d o e q => by
  obtain ⟨x, ex, e⟩ := bind_some e
  obtain ⟨a, ea, e⟩ := bind_some e
  refine h' E L Γ σ H xt _ x o ex fun w H1 s1 r1 => h E L Γ σ H1 xt _ a (o.same s1) ea fun v H2 s2 r2 => ?_
  obtain ⟨p, rfl⟩ := dict_ref (k := k) (t := t) r2.b
  rcases dget_of hk r2.b (rs_on s2 r1.b) with ⟨g1, g2⟩ | ⟨v, z, g1, g2, g3⟩
  · rw [fNotInK, g1] at e
    cases e
    exact ⟨p, none, rfl, g2, q _ H2 (s1.trans s2) (rep_atom rfl rfl)⟩
  · rw [fNotInK, g1] at e
    cases e
    exact ⟨p, some v, rfl, g2, q _ H2 (s1.trans s2) (rep_atom rfl rfl)⟩
end
end VV
namespace VV
open PySem L2
open PyProof.Rows hiding St
section
variable {K : KW} {E : Ent} {ms ms' : List Md} {ts : List Ty} {L L1 : Reg} {Γ Γ1 : Gam ts} {σ σ1 : St} {H H' H0 H1 H2 : Hp} {xt : List Addr} {rm : Rm} {ρ : Ty}
theorem Own.chg {t : Ty} (i : Mem ts t) {d : den t} (o : Own K E L ms ts Γ σ H []) {mo : Md} (hm : ms[i.ix]? = some mo) (ho : mo.own = true) (hx : i.get Γ = some d) :
    ∃ v f, σ[i.ix]? = some (some v) ∧ (rO K H L t).1 v d f ∧ f.Nodup ∧ (∀ b ∈ f, Good E L H b) ∧
    ∀ (H1 H2 : Hp) (fd : List Addr) (Lr : Reg) (d' : den t) (f' : List Addr), Same H H1 → Nw H H1 (· ∈ fd) → Nw H H1 Lr → (∀ b ∈ fd, ¬ Lr b) → (∀ b, (H1 b).isSome = true → b ∉ f → H2 b = H1 b) → (∀ b, (H1 b).isSome = true → (H2 b).isSome = true) → Stb H1 H2 →
      (rO K H2 (fun b => L b ∨ Lr b) t).1 v d' f' → f'.Nodup → (∀ b ∈ f', b ∈ f ∨ b ∈ fd) →
      Own K E (fun b => L b ∨ Lr b) ms ts (i.set (some d') Γ) σ H2 [] ∧ Ev ms ts L Γ σ H (fun b => L b ∨ Lr b) (i.set (some d') Γ) σ H2 := by
  obtain ⟨s0, f, q1, q2, q3, q4, q5⟩ := o.focus i hm
  rw [hx] at q2
  obtain ⟨v, rfl, hr⟩ := q2
  replace hr := (repM_own ho).mp hr
  have gg : ∀ b ∈ f, Good E L H b := fun b hb => (q4 b hb).1
  refine ⟨v, f, q1, hr, q3, gg, fun H1 H2 fd Lr d' f' s1 h3 h4 h5 oth1 up st1 k0 n0 m0 => ?_⟩
  have st : Stb H H2 := (Stb.of_same s1).trans st1
  have oth : ∀ b, (H b).isSome = true → b ∉ f → H2 b = H b := fun b hb hne => by rw [oth1 b (by rw [same_at s1 hb]; exact hb) hne]; exact same_at s1 hb
  have upH : ∀ b, (H b).isSome = true → (H2 b).isSome = true := fun b hb => up b (by rw [same_at s1 hb]; exact hb)
  have o' := q5 H2 (fun b => L b ∨ Lr b) (some d') (some v) f' [] (fun b hb hnf _ => oth b hb hnf) st (fun _ h => .inl h)
    (fun b hb => hb.elim .inl fun z => .inr (.inr (.inr (h4 b z).1))) upH
    (fun b hb => hb.elim (fun z => ⟨(o.lr b z).1, upH b (o.lr b z).2⟩) fun z => ⟨.inl (o.fresh (h4 b z).1).1, up b (h4 b z).2⟩)
    ⟨v, rfl, (repM_own ho).mpr k0⟩ (by rw [List.append_nil]; exact n0)
    (fun b hb => by
      have hb : b ∈ f' := by simpa using hb
      rcases m0 b hb with hb | hb
      · refine ⟨.inl hb, fun z => z.elim (gg b hb).nl fun z => ?_, upH b (gg b hb).at_⟩
        have := (gg b hb).at_
        rw [(h4 b z).1] at this
        cases this
      · exact ⟨.inr (.inr (h3 b hb).1), fun z => z.elim (o.fresh (h3 b hb).1).2.1 (h5 b hb), up b (h3 b hb).2⟩)
  rw [set_same q1] at o'
  refine ⟨o', fun _ h => .inl h, fun b q hb x => ?_, st, keepF_set0 i hm (own_hard ho) _⟩
  rw [oth b (o.lr b hb).2 fun z => (gg b z).nl hb]
  exact x
theorem upd_oth {a : Addr} {u : HO} {f : List Addr} (h : a ∈ f) : ∀ b, (H b).isSome = true → b ∉ f → upd H a u b = H b := fun b _ hb => upd_ne fun z => hb (z ▸ h)
theorem upd_up {a : Addr} {u : HO} : ∀ b, (H b).isSome = true → (upd H a u b).isSome = true := fun b hb => by
  by_cases z : b = a
  · rw [z, upd_same]; rfl
  · rw [upd_ne z]; exact hb
theorem f2_put {α β κ : Type} [DecidableEq κ] {key : α → Option κ} {P : V → β → Prop} {x : α} {k : κ} {v : V} {y : β} (hx : key x = some k) (hv : P v y) {kvs : List (κ × V)} {d : List (α × β)} (h : F2 (fun p q => key q.1 = some p.1 ∧ P p.2 q.2) kvs d) :
    F2 (fun p q => key q.1 = some p.1 ∧ P p.2 q.2) (putK kvs k v) (putBy key d x y) := by
  have ha : ∀ {kvs : List (κ × V)} {d : List (α × β)}, F2 (fun p q => key q.1 = some p.1 ∧ P p.2 q.2) kvs d → (kvs.any fun kv => decide (kv.1 = k)) = (d.any fun q => decide (key q.1 = key x)) := by
    intro kvs
    induction kvs with
    | nil =>
      intro d h
      cases d with
      | nil => rfl
      | cons _ _ => exact h.elim
    | cons p kvs ih =>
      intro d h
      cases d with
      | nil => exact h.elim
      | cons q d =>
        rw [List.any_cons, List.any_cons, ih h.2, h.1.1, hx]
        congr 1
        by_cases e : p.1 = k
        · rw [decide_eq_true e, decide_eq_true (congrArg some e)]
        · rw [decide_eq_false e, decide_eq_false fun z => e (Option.some.inj z)]
  have hmap : ∀ {kvs : List (κ × V)} {d : List (α × β)}, F2 (fun p q => key q.1 = some p.1 ∧ P p.2 q.2) kvs d → F2 (fun p q => key q.1 = some p.1 ∧ P p.2 q.2) (kvs.map (fun kv => if kv.1 = k then (kv.1, v) else kv)) (d.map (fun q => if key q.1 = key x then (q.1, y) else q)) := by
    intro kvs
    induction kvs with
    | nil =>
      intro d h
      cases d with
      | nil => exact True.intro
      | cons _ _ => exact h.elim
    | cons p kvs ih =>
      intro d h
      cases d with
      | nil => exact h.elim
      | cons q d =>
        refine ⟨?_, ih h.2⟩
        show key (if key q.1 = key x then (q.1, y) else q).1 = some (if p.1 = k then (p.1, v) else p).1 ∧ P (if p.1 = k then (p.1, v) else p).2 (if key q.1 = key x then (q.1, y) else q).2
        by_cases e : p.1 = k
        · rw [if_pos e, if_pos (by rw [h.1.1, hx, e])]
          exact ⟨h.1.1, hv⟩
        · rw [if_neg e, if_neg (by rw [h.1.1, hx]; exact fun z => e (Option.some.inj z))]
          exact h.1
  unfold putK putBy
  rw [ha h]
  split
  · exact hmap h
  · exact F2.append h ⟨⟨hx, hv⟩, True.intro⟩
def fPutK {k : Ty} {β : Type} (d : List (den k × β)) (x : den k) (y : β) : List (den k × β) := if k.tk = true then putBy (keyT k) d x y else putBy (keyS k) d x y
def sPut {ρ : Type} {ts : List Ty} {k t : Ty} (i : Mem ts (.dict k t)) (F : Gam ts → Option (den t)) (G : Gam ts → Option (den k)) : Gam ts → Option (Fl (Gam ts) ρ) := fun Γ => (i.get Γ).bind fun d => (F Γ).bind fun y => (G Γ).bind fun x => if d.length < sizeLine then some (.nx (i.set (some (fPutK d x y)) Γ)) else none
theorem rs_dput {k t : Ty} (i : Mem ts (.dict k t)) {n : Nat} {m m' : Em} {tv ty : TE} {F : Gam ts → Option (den t)} {G : Gam ts → Option (den k)} (h : RP K ms ts tv m t F) (h' : RP K ms ts ty m' k G) (hf : t.frz = true := by rfl) (hk : okKey k = true := by rfl) {mo : Md} (hm : ms[i.ix]? = some mo := by rfl) (ho : mo.own = true := by rfl) (hn : i.ix = n := by rfl) :
    RS K ms ts (sDPut (tVar n) ty tv) rm ρ (sPut i F G) := fun E L Γ σ H D f o e p => by
  subst hn
  obtain ⟨d, e1, e⟩ := bind_some e
  obtain ⟨y, e2, e⟩ := bind_some e
  obtain ⟨x, e3, e⟩ := bind_some e
  split at e
  · rename_i hz
    cases e
    obtain ⟨v0, f0, q1, hr, hnd, gd, go⟩ := o.chg i hm ho e1
    obtain ⟨a, g, rfl, rfl, hr⟩ := hr
    have ga := gd a List.mem_cons_self
    refine h E L Γ σ H [] _ y o e2 fun v H1 s1 r1 => ⟨_, q1, h' E L Γ σ H1 [] _ x (o.same s1) e3 fun w H2 s2 r2 => ?_⟩
    have s12 := s1.trans s2
    have rv := rs_on s2 r1.b
    have fk : ∀ {p : V} {q : den t} {c : List Addr}, Kid K H L t p q c → (rS K H2 (fun _ => True) t).1 p q := fun x => rs_on s12 (x.elim (fun y => (rO_s (fun _ _ => True.intro) t).1 _ _ _ (fun _ _ => True.intro) y) fun y => (rS_mono (Cov.of_reg fun _ _ _ => True.intro) (Stb.refl _) t).1 _ _ y.2.2)
    rcases key_of hk r2.b with ⟨k1, key, rfl, ek⟩ | ⟨k1, ks, c, rfl, hc, ek⟩
    · rcases hr with ⟨_, kvs, hl, hk3⟩ | ⟨k2, _⟩
      · have h2 : F2 (fun p q => keyS k q.1 = some p.1 ∧ (rS K H2 (fun _ => True) t).1 p.2 q.2) kvs d := hk3.to2 fun p q c _ z => ⟨z.1, fk z.2⟩
        have st : Stb H2 (upd H2 a (.dK (putK kvs key v))) := Stb.upd (s12 _ _ hl) rfl
        have h3 := (f2_put (P := fun p q => (rS K H2 (fun _ => True) t).1 p q) ek rv h2).imp (P' := fun p q => keyS k q.1 = some p.1 ∧ (rS K (upd H2 a (.dK (putK kvs key v))) (fun _ => False) t).1 p.2 q.2) fun p q z => ⟨z.1, rS_stb hf st z.2⟩
        obtain ⟨o', ev⟩ := go H2 (upd H2 a (.dK (putK kvs key v))) [] (fun _ => False) (fPutK d x y) [a] s12 (fun a h => by simp at h) (fun a h => h.elim) (fun a h => by simp at h) (upd_oth List.mem_cons_self) upd_up st
          ⟨a, [], rfl, rfl, .inl ⟨k1, _, upd_same, by
            unfold fPutK
            rw [k1, if_neg Bool.false_ne_true]
            exact F3.of2 (fun p q z => ⟨z.1, kid_frz hf z.2⟩) h3⟩⟩ (by simp) (fun b hb => .inl (by
            rw [List.mem_singleton] at hb
            exact hb ▸ List.mem_cons_self))
        exact ⟨a, _, rfl, .inl ⟨kvs, key, s12 _ _ hl, rfl, by rw [h2.length]; exact hz, rfl⟩, p _ σ _ o' ev⟩
      · rw [k1] at k2
        cases k2
    · rcases hr with ⟨k2, _⟩ | ⟨_, kvs, hl, hk3⟩
      · rw [k1] at k2
        cases k2
      · have h2 : F2 (fun p q => keyT k q.1 = some p.1 ∧ (rS K H2 (fun _ => True) t).1 p.2 q.2) kvs d := hk3.to2 fun p q c _ z => ⟨z.1, fk z.2⟩
        have st : Stb H2 (upd H2 a (.dT (putK kvs ks v))) := Stb.upd (s12 _ _ hl) rfl
        have h3 := (f2_put (P := fun p q => (rS K H2 (fun _ => True) t).1 p q) ek rv h2).imp (P' := fun p q => keyT k q.1 = some p.1 ∧ (rS K (upd H2 a (.dT (putK kvs ks v))) (fun _ => False) t).1 p.2 q.2) fun p q z => ⟨z.1, rS_stb hf st z.2⟩
        obtain ⟨o', ev⟩ := go H2 (upd H2 a (.dT (putK kvs ks v))) [] (fun _ => False) (fPutK d x y) [a] s12 (fun a h => by simp at h) (fun a h => h.elim) (fun a h => by simp at h) (upd_oth List.mem_cons_self) upd_up st
          ⟨a, [], rfl, rfl, .inr ⟨k1, _, upd_same, by
            unfold fPutK
            rw [if_pos k1]
            exact F3.of2 (fun p q z => ⟨z.1, kid_frz hf z.2⟩) h3⟩⟩ (by simp) (fun b hb => .inl (by
            rw [List.mem_singleton] at hb
            exact hb ▸ List.mem_cons_self))
        exact ⟨a, _, rfl, .inr ⟨kvs, ks, c, s12 _ _ hl, rfl, hc, by rw [h2.length]; exact hz, rfl⟩, p _ σ _ o' ev⟩
  · cases e
def sPutN {ρ : Type} {ts : List Ty} {k t : Ty} (i : Mem ts (.dict k t)) (F : Gam ts → Option (den t)) (G : Gam ts → Option (den k)) : Gam ts → Option (Fl (Gam ts) ρ) := fun Γ => (i.get Γ).bind fun d => (F Γ).bind fun y => (G Γ).bind fun x => if d.length < sizeLine ∧ (fGetK d x).isSome = false then some (.nx (i.set (some (d ++ [(x, y)])) Γ)) else none
end
end VV
namespace VV
open PySem L2
open PyProof.Rows hiding St
section
variable {K : KW} {E : Ent} {ms ms' : List Md} {ts : List Ty} {L L1 : Reg} {Γ Γ1 : Gam ts} {σ σ1 : St} {H H' H0 H1 H2 : Hp} {xt : List Addr} {rm : Rm} {ρ : Ty}
def updBy {α β κ : Type} [DecidableEq κ] (key : α → Option κ) : List (α × β) → α → β → List (α × β)
  | [], _, _ => []
  | q :: d, x, z => if key q.1 = key x then (q.1, z) :: d else q :: updBy key d x z
def fUpdK {k : Ty} {β : Type} (d : List (den k × β)) (x : den k) (y : β) : List (den k × β) := if k.tk = true then updBy (keyT k) d x y else updBy (keyS k) d x y
def sDApp {ρ : Type} {ts : List Ty} {k u : Ty} (i : Mem ts (.dict k (.own (.list u)))) (G : Gam ts → Option (den k)) (F : Gam ts → Option (den u)) : Gam ts → Option (Fl (Gam ts) ρ) := fun Γ => (i.get Γ).bind fun d => (G Γ).bind fun x => (fGetK (β := List (den u)) d x).bind fun xs => (F Γ).bind fun y => if xs.length < sizeLine then some (.nx (i.set (some (fUpdK (β := List (den u)) d x (xs ++ [y]))) Γ)) else none
theorem rp_own {te : TE} {m : Em} {t : Ty} {F : Gam ts → Option (den t)} (h : RP K ms ts te m t F) : RP K ms ts te m (.own t) F := fun E L Γ σ H xt Q d o e q => h E L Γ σ H xt Q d o e fun v H' s r => q v H' s (by cases m <;> exact r)
end
end VV
namespace VV
open PySem L2
open PyProof.Rows hiding St
section
variable {K : KW} {E : Ent} {ms ms' : List Md} {ts : List Ty} {L L1 : Reg} {Γ Γ1 : Gam ts} {σ σ1 : St} {H H' H0 H1 H2 : Hp} {xt : List Addr} {rm : Rm} {ρ : Ty}
def fPartition (a b : Str) : Option (Str × Str × Str) := okIf ((b.length != 0) && (decide (a.length ≤ sizeLine) && (PyData.strOk (Txt.partition a b).1 && (PyData.strOk (Txt.partition a b).2.1 && PyData.strOk (Txt.partition a b).2.2)))) ((Txt.partition a b).1, (Txt.partition a b).2.1, (Txt.partition a b).2.2)
abbrev rPartition : V → List V → Hp → VK → Prop := fun x xs H Q => ∃ a b, x = .str a ∧ xs = [.str b] ∧ (b.length == 0) = false ∧ a.length ≤ sizeLine ∧
      ∀ p, H p = none → Q (.ref p) (upd H p (.tup [.str (Txt.partition a b).1, .str (Txt.partition a b).2.1, .str (Txt.partition a b).2.2]))
theorem rp_partition {m m1 m2 : Em} {to te : TE} {F G : Gam ts → Option Str} (h : RP K ms ts to m1 .str F) (h' : RP K ms ts te m2 .str G) : RP K ms ts (tM1 rPartition to te) m (.tup (.cons .str (.cons .str (.last .str)))) (e2 fPartition F G) := fun E L Γ σ H xt Q d o e q => by
  obtain ⟨a, ea, e⟩ := bind_some e
  obtain ⟨b, eb, e⟩ := bind_some e
  dsimp only [fPartition, okIf] at e
  split at e
  · rename_i hz
    cases e
    simp only [Bool.and_eq_true] at hz
    refine h E L Γ σ H xt _ a o ea fun v H1 s1 r1 => ?_
    cases (show v = .str a from r1.b.1)
    refine ⟨⟨a, rfl⟩, h' E L Γ σ H1 xt _ b (o.same s1) eb fun w H2 s2 r2 => ?_⟩
    cases (show w = .str b from r2.b.1)
    refine ⟨a, b, rfl, rfl, by simpa using hz.1, of_decide_eq_true hz.2.1, fun p hp => ?_⟩
    refine q _ _ ((s1.trans s2).trans (same_new hp)) (Rep.frz (R := fun _ => True) rfl m ⟨p, _, rfl, upd_same, _, _, rfl, ⟨rfl, hz.2.2.1⟩, _, _, rfl, ⟨rfl, hz.2.2.2.1⟩, _, rfl, rfl, hz.2.2.2.2⟩)
  · cases e
end
end VV
namespace L2
open PySem PySem.Spec PyProof.Rows
section
variable {X : Cx}
def rAllD (K : PySem.W.Frag) : List V → Hp → VK → Prop := fun xs H Q => ∃ (a : Addr) (ds : List PyData), xs = [.ref a] ∧ Dp K H (.ref a) (.list ds) ∧ PyData.plainAll ds = true ∧ (∀ x ∈ ds, x.fits63) ∧ Q (.bl (ds.all PyData.truthy)) H
def rAnyD (K : PySem.W.Frag) : List V → Hp → VK → Prop := fun xs H Q => ∃ (a : Addr) (ds : List PyData), xs = [.ref a] ∧ Dp K H (.ref a) (.list ds) ∧ PyData.plainAll ds = true ∧ (∀ x ∈ ds, x.fits63) ∧ Q (.bl (ds.any PyData.truthy)) H
theorem call_allD (hc : X.calm = true) : CallR X (.builtin "all") (rAllD X.K) := by
  intro pins s σ H xs us Q I r h
  obtain ⟨a, ds, rfl, hl, hp, hf, q⟩ := h
  cases r with
  | cons r rt =>
    cases rt
    cases r
    cases hl with
    | lst hs ha =>
      obtain ⟨its, rv, pl, hz⟩ := I.list hs
      obtain ⟨as, h4⟩ := Dp.readsAll I ds _ its ha rv
      exact PySem.W.all_list_data (I.ok.hd hc) pl.isList h4 hp hf fun h' tk hk => ⟨.bl _, H, I.kept (t' := tk) hk, rfl, q⟩
theorem call_anyD (hc : X.calm = true) : CallR X (.builtin "any") (rAnyD X.K) := by
  intro pins s σ H xs us Q I r h
  obtain ⟨a, ds, rfl, hl, hp, hf, q⟩ := h
  cases r with
  | cons r rt =>
    cases rt
    cases r
    cases hl with
    | lst hs ha =>
      obtain ⟨its, rv, pl, hz⟩ := I.list hs
      obtain ⟨as, h4⟩ := Dp.readsAll I ds _ its ha rv
      exact PySem.W.any_list_data (I.ok.hd hc) pl.isList h4 hp hf fun h' tk hk => ⟨.bl _, H, I.kept (t' := tk) hk, rfl, q⟩
end
end L2
namespace VV
open PySem L2
open PyProof.Rows hiding St
section
variable {K : KW} {E : Ent} {ms ms' : List Md} {ts : List Ty} {L L1 : Reg} {Γ Γ1 : Gam ts} {σ σ1 : St} {H H' H0 H1 H2 : Hp} {xt : List Addr} {rm : Rm} {ρ : Ty}
theorem bools_ok (ds : List Bool) : PyData.plainAll (ds.map (emb .bool).1) = true ∧ (∀ x ∈ ds.map (emb .bool).1, x.fits63) ∧ (ds.map (emb .bool).1).all PyData.truthy = ds.all id ∧ (ds.map (emb .bool).1).any PyData.truthy = ds.any id := by
  refine ⟨?_, fun x hx => ?_, by rw [List.all_map]; rfl, by rw [List.any_map]; rfl⟩
  · induction ds with
    | nil => rfl
    | cons d ds ih =>
      rw [List.map_cons, PyData.plainAll, ih]
      rfl
  · obtain ⟨b, _, rfl⟩ := List.mem_map.mp hx
    exact True.intro
abbrev fAll (d : List Bool) : Option Bool := some (d.all id)
abbrev fAny (d : List Bool) : Option Bool := some (d.any id)
theorem rp_all {m m' : Em} {te : TE} {F : Gam ts → Option (List Bool)} (h : RP K ms ts te m' (.list .bool) F) : RP K ms ts (tCB (rAllD K) (tCons te tNil)) m .bool (e1 fAll F) := fun E L Γ σ H xt Q d o e q => by
  obtain ⟨a, ea, e⟩ := bind_some e
  cases e
  refine h E L Γ σ H xt _ a o ea fun v H1 s1 r1 => ?_
  have hd := (rS_dp (.list .bool) rfl).1 v a r1.b
  obtain ⟨p, vs, rfl, _⟩ := r1.b
  obtain ⟨k1, k2, k3, _⟩ := bools_ok a
  exact ⟨p, _, rfl, hd, k1, k2, by rw [k3]; exact q _ H1 s1 (rep_atom rfl rfl)⟩
theorem rp_any_ {m m' : Em} {te : TE} {F : Gam ts → Option (List Bool)} (h : RP K ms ts te m' (.list .bool) F) : RP K ms ts (tCB (rAnyD K) (tCons te tNil)) m .bool (e1 fAny F) := fun E L Γ σ H xt Q d o e q => by
  obtain ⟨a, ea, e⟩ := bind_some e
  cases e
  refine h E L Γ σ H xt _ a o ea fun v H1 s1 r1 => ?_
  have hd := (rS_dp (.list .bool) rfl).1 v a r1.b
  obtain ⟨p, vs, rfl, _⟩ := r1.b
  obtain ⟨k1, k2, _, k3⟩ := bools_ok a
  exact ⟨p, _, rfl, hd, k1, k2, by rw [k3]; exact q _ H1 s1 (rep_atom rfl rfl)⟩
end
end VV
namespace VV
open PySem L2
open PyProof.Rows hiding St
section
variable {K : KW} {E : Ent} {ms ms' : List Md} {ts : List Ty} {L L1 : Reg} {Γ Γ1 : Gam ts} {σ σ1 : St} {H H' H0 H1 H2 : Hp} {xt : List Addr} {rm : Rm} {ρ : Ty}
abbrev fSum (d : List Int) : Option Int := some d.sum
end
end VV
namespace VV
open PySem L2
open PyProof.Rows hiding St
section
variable {K : KW} {E : Ent} {ms ms' : List Md} {ts : List Ty} {L L1 : Reg} {Γ Γ1 : Gam ts} {σ σ1 : St} {H H' H0 H1 H2 : Hp} {xt : List Addr} {rm : Rm} {ρ : Ty}
end
end VV
namespace VV
open PySem L2
open PyProof.Rows hiding St
section
variable {K : KW} {E : Ent} {ms ms' : List Md} {ts : List Ty} {L L1 : Reg} {Γ Γ1 : Gam ts} {σ σ1 : St} {H H' H0 H1 H2 : Hp} {xt : List Addr} {rm : Rm} {ρ : Ty}
structure LockAt (H H2 : Hp) (a : Addr) : Prop where
  oth : ∀ b, b ≠ a → H2 b = H b
  strip : stripD (H2 a) = stripD (H a)
  isD : ∃ u, stripD (H a) = some u ∧ isDct u = true
theorem strip_isD {x : Option HO} {u : HO} (h : stripD x = some u) (hu : isDct u = true) : x = some u ∨ ∃ od, x = some (.frz od u) := by
  cases u with
  | dK kvs => exact strip_dK (H := fun _ => x) (a := 0) h
  | dT kvs => exact strip_dT (H := fun _ => x) (a := 0) h
  | _ => cases hu
theorem LockAt.symm {a : Addr} (l : LockAt H H2 a) : LockAt H2 H a := ⟨fun b h => (l.oth b h).symm, l.strip.symm, by rw [l.strip]; exact l.isD⟩
theorem LockAt.all {a : Addr} (l : LockAt H H2 a) (b : Addr) : stripD (H2 b) = stripD (H b) := by
  by_cases h : b = a
  · rw [h]; exact l.strip
  · rw [l.oth b h]
theorem LockAt.some {a : Addr} (l : LockAt H H2 a) (b : Addr) : (H2 b).isSome = (H b).isSome := by
  by_cases h : b = a
  · subst h
    obtain ⟨u, hu, _⟩ := l.isD
    have h1 := strip_some hu
    rw [← l.strip] at hu
    rw [h1, strip_some hu]
  · rw [l.oth b h]
theorem LockAt.cov {a : Addr} (l : LockAt H H2 a) (R : Reg) : Cov H H2 R R := fun b o h e => ⟨h, by rw [l.all]; exact e⟩
theorem LockAt.covU {a : Addr} (l : LockAt H H2 a) {R R' : Reg} (hR : ∀ b, R b → R' b) : Cov H H2 R R' := fun b o h e => ⟨hR b h, by rw [l.all]; exact e⟩
theorem LockAt.ne {a b : Addr} {o : HO} (l : LockAt H H2 a) (h : H b = Option.some o) (hn : ∀ u, isDct u = true → o ≠ u ∧ ∀ od, o ≠ .frz od u) : b ≠ a := fun z => by
  subst z
  obtain ⟨u, hu, hd⟩ := l.isD
  rcases strip_isD hu hd with q | ⟨od, q⟩
  · rw [h] at q; exact (hn u hd).1 (Option.some.inj q)
  · rw [h] at q; exact (hn u hd).2 od (Option.some.inj q)
theorem LockAt.stb {a : Addr} (l : LockAt H H2 a) : Stb H H2 := by
  refine ⟨fun b xs h => ?_, fun b o xs h => ?_, fun b o xs h => ?_, fun b φ h => ?_⟩ <;>
  · rw [l.oth b (l.ne h fun u hu => ⟨fun z => (by cases u <;> first | (cases z; done) | (cases hu; done)), fun od z => (by cases u <;> first | (cases z; done) | (cases hu; done))⟩)]
    exact h
def Ent.lock (E : Ent) (H2 : Hp) (a : Addr) : Ent := ⟨fun b => if b = a ∧ (E.H0 a).isSome = true then H2 a else E.H0 b, E.S0, E.io⟩
theorem lock_out {a b : Addr} (h : b ≠ a) : (E.lock H2 a).H0 b = E.H0 b := if_neg fun z => h z.1
theorem lock_none {a b : Addr} (h : E.H0 b = none) : (E.lock H2 a).H0 b = none := by
  show (if _ then _ else _) = none
  rw [if_neg]
  · exact h
  · rintro ⟨rfl, z⟩
    rw [h] at z
    cases z
theorem lock_in {a : Addr} (h : (E.H0 a).isSome = true) : (E.lock H2 a).H0 a = H2 a := if_pos ⟨rfl, h⟩
theorem Own.lock {a : Addr} (l : LockAt H H2 a) (hs : ∀ b, E.H0 b = none ∨ b = a ∨ True) (o : Own K E L ms ts Γ σ H xt) (hreg : E.S0 a ∨ L a) : Own K (E.lock H2 a) L ms ts Γ σ H2 xt := by
  obtain ⟨fp, g, nd, gd⟩ := id o.ex
  have na : ∀ b ∈ fp ++ xt, b ≠ a := fun b hb z => by
    subst z
    exact hreg.elim (gd b hb).ns (gd b hb).nl
  refine ⟨⟨fp, rG_mono (l.cov _) (l.cov _) l.stb (fun b hb => l.oth b (na b (List.mem_append_left _ hb))) g, nd, fun b hb => ?_⟩, fun b q h1 h2 => ?_, fun b h => ?_, fun b h => ?_, fun b h => by rw [l.some]; exact o.iod b h⟩
  · have ga := gd b hb
    exact ⟨ga.new.elim (fun z => .inl (lock_none z)) .inr, ga.nl, ga.ns, by rw [l.some]; exact ga.at_⟩
  · by_cases hb : b = a
    · subst hb
      by_cases hx : (E.H0 b).isSome = true
      · rw [lock_in hx] at h1
        exact h1
      · have hn : E.H0 b = none := by simpa using hx
        rw [lock_none hn] at h1
        cases h1
    · rw [lock_out hb] at h1
      rw [l.oth b hb]
      exact o.fr b q h1 h2
  · obtain ⟨h1, h2⟩ := o.lr b h
    exact ⟨h1.elim (fun z => .inl (lock_none z)) .inr, by rw [l.some]; exact h2⟩
  · obtain ⟨h1, h2⟩ := o.s0 b h
    refine ⟨?_, h2⟩
    by_cases hb : b = a
    · subst hb
      rw [lock_in h1, l.some]
      obtain ⟨q, hq⟩ := isSome_some h1
      rw [o.fr b q hq h2]
      rfl
    · rw [lock_out hb]
      exact h1
end
end VV
namespace VV
open PySem L2
open PyProof.Rows hiding St
section
variable {K : KW} {E : Ent} {ms ms' : List Md} {ts : List Ty} {L L1 : Reg} {Γ Γ1 : Gam ts} {σ σ1 : St} {H H' H0 H1 H2 : Hp} {xt : List Addr} {rm : Rm} {ρ : Ty}
structure DW (K : KW) (k t u : Ty) (f : List (den k × den t) → Option (List (den u))) (J : Addr → Obj → HO → It) : Prop where
  ok : okKey k = true
  len : ∀ d ds, f d = some ds → ds.length = d.length
  go : ∀ i H a od v, H a = some (.frz od v) → i < lenOf v → (J a od v).go i H
  stop : ∀ H a od v, H a = some (.frz od v) → (J a od v).stop (lenOf v) H
  yld : ∀ (R : Reg) H a od v d ds i x H', H a = some (.frz od v) → (rS K H R (.dict k t)).1 (.ref a) d → f d = some ds → (J a od v).yld i H x H' → Same H H' ∧ ∃ e, ds[i]? = some e ∧ (rS K H' R u).1 x e
theorem okIf_some {α : Type} {c : Bool} {a b : α} (h : okIf c a = some b) : c = true ∧ a = b := by
  unfold okIf at h
  split at h
  · rename_i q; exact ⟨q, Option.some.inj h⟩
  · cases h
theorem RRep.lock {a : Addr} {H3 H4 : Hp} (l : LockAt H3 H4 a) {v : V} {d : den ρ} {E' : Ent} (hE : E'.S0 = E.S0) (hx : ∀ b ∈ xt, b ≠ a) (hpl : rm.plain = true) (r : RRep K E' L H3 rm ρ v d xt) : RRep K E L H4 rm ρ v d xt := by
  cases rm with
  | o => exact (rO_mono (l.cov _) l.stb ρ).1 v d xt (fun b hb => l.oth b (hx b hb)) r
  | l => exact ⟨r.1, (rS_mono (l.cov _) l.stb ρ).1 v d r.2⟩
  | w => exact ⟨r.1, (rS_mono (l.covU fun b h => by rw [← hE]; exact h) l.stb ρ).1 v d r.2⟩
  | x W m => cases hpl
theorem Rep.lock {a : Addr} {H3 H4 : Hp} {m : Em} {t : Ty} {v : V} {d : den t} {E' : Ent} (l0 : LockAt H H0 a) (l : LockAt H3 H4 a) (hE : E'.S0 = E.S0) (ra : E.S0 a ∨ L a) (hH : (H a).isSome = true) (r : Rep K E' L H0 H3 m t v d) : Rep K E L H H4 m t v d := by
  have nw : ∀ {R : Reg}, Nw H0 H3 R → Nw H H4 R := fun {R} n b hb => by
    obtain ⟨n1, n2⟩ := n b hb
    refine ⟨?_, by rw [l.some]; exact n2⟩
    have := l0.some b
    rw [n1] at this
    cases hq : H b with
    | none => rfl
    | some y => rw [hq] at this; cases this
  cases m with
  | o =>
    obtain ⟨f, Lr, h1, h2, h3, h4, h5⟩ := r
    refine ⟨f, Lr, (rO_mono (l.cov _) l.stb t).1 v d f (fun b hb => l.oth b fun z => ?_) h1, h2, nw h3, nw h4, h5⟩
    subst z
    have := (nw h3 b hb).1
    rw [this] at hH
    cases hH
  | l =>
    obtain ⟨Lr, h1, h2⟩ := r
    exact ⟨Lr, (rS_mono (l.cov _) l.stb t).1 v d h1, nw h2⟩
  | w =>
    obtain ⟨Lr, h1, h2⟩ := r
    exact ⟨Lr, (rS_mono (l.covU fun b h => by rw [← hE]; exact h) l.stb t).1 v d h1, nw h2⟩
  | b => exact (rS_mono (l.cov _) l.stb t).1 v d r
end
end VV
namespace VV
open PySem L2
open PyProof.Rows hiding St
open PySem.W (dataLe AllAlike Sortable)
section
variable {K : KW} {E : Ent} {ms ms' : List Md} {ts : List Ty} {L L1 : Reg} {Γ Γ1 : Gam ts} {σ σ1 : St} {H H' H0 H1 H2 : Hp} {xt : List Addr} {rm : Rm} {ρ : Ty}
inductive RDrop : Ty → Nat → Ty → Type where
  | z {b : Ty} : RDrop b 0 b
  | s {a b c : Ty} {n : Nat} : RDrop b n c → RDrop (.cons a b) (n + 1) c
def RDrop.get : {b c : Ty} → {n : Nat} → RDrop b n c → den b → den c
  | _, _, _, .z, d => d
  | _, _, _, .s r, d => r.get d.2
inductive Hom : Ty → Ty → Type where
  | one {t : Ty} : Hom (.last t) t
  | more {t b : Ty} : Hom b t → Hom (.cons t b) t
def Hom.lst : {b t : Ty} → Hom b t → den b → List (den t)
  | _, _, .one, d => [d]
  | _, _, .more h, d => d.1 :: h.lst d.2
def fOne {α β : Type} (k : α) (v : β) : Option (List (α × β)) := some [(k, v)]
end
end VV
namespace VV
open PySem L2
open PyProof.Rows hiding St
section
variable {K : KW} {E : Ent} {ms ms' : List Md} {ts : List Ty} {L L1 : Reg} {Γ Γ1 : Gam ts} {σ σ1 : St} {H H' H0 H1 H2 : Hp} {xt : List Addr} {rm : Rm} {ρ : Ty}
def DAt {k : Ty} (H : Hp) (a : Addr) (x : den k) (v : V) : Prop := (k.tk = false ∧ ∃ kvs kk, H a = some (.dK kvs) ∧ keyS k x = some kk ∧ valV kvs kk = some v) ∨ (k.tk = true ∧ ∃ kvs kk, H a = some (.dT kvs) ∧ keyT k x = some kk ∧ valV kvs kk = some v)
def alEnd {ts : List Ty} {k t : Ty} {τ : Type} (i : Mem ts (.dict k (.own t))) (j : Mem ts t) (x : den k) (d : List (den k × den t)) (f : Gam ts → τ) (Γ : Gam ts) : Option τ := (j.get Γ).bind fun y => some (f (i.set (some (fUpdK (β := den t) d x y)) (j.set none Γ)))
def sAls {ρ : Type} {ts : List Ty} {k t : Ty} (i : Mem ts (.dict k (.own t))) (j : Mem ts t) (G : Gam ts → Option (den k × List (den k × den t))) (body : Gam ts → Option (Fl (Gam ts) ρ)) : Gam ts → Option (Fl (Gam ts) ρ) := fun Γ => (G Γ).bind fun q => (fGetK (β := den t) q.2 q.1).bind fun y => (body (j.set (some y) (i.set none Γ))).bind fun r => match r with
  | .nx Γ' => alEnd i j q.1 q.2 Fl.nx Γ'
  | .bk Γ' => alEnd i j q.1 q.2 Fl.bk Γ'
  | .ct Γ' => alEnd i j q.1 q.2 Fl.ct Γ'
  | .rt r Γ' => alEnd i j q.1 q.2 (Fl.rt r) Γ'
end
end VV
namespace VV
open PySem L2
open PyProof.Rows hiding St
section
variable {K : KW} {E : Ent} {ms ms' : List Md} {ts : List Ty} {L L1 : Reg} {Γ Γ1 : Gam ts} {σ σ1 : St} {H H' H0 H1 H2 : Hp} {xt : List Addr} {rm : Rm} {ρ : Ty}
def gGet {ts : List Ty} {k t : Ty} (i : Mem ts (.dict k (.own t))) (F : Gam ts → Option (den k)) : Gam ts → Option (den k × List (den k × den t)) := fun Γ => (F Γ).bind fun x => (i.get Γ).bind fun d => if (fGetK (β := den t) d x).isSome = true then some (x, d) else none
def gSetd {ts : List Ty} {k t : Ty} (i : Mem ts (.dict k (.own t))) (F : Gam ts → Option (den k)) (D : Gam ts → Option (den t)) : Gam ts → Option (den k × List (den k × den t)) := fun Γ => (i.get Γ).bind fun d => (F Γ).bind fun x => (D Γ).bind fun y => if d.length < sizeLine then some (x, if (fGetK (β := den t) d x).isSome = true then d else d ++ [(x, y)]) else none
end
end VV
namespace VV
open PySem L2
open PyProof.Rows hiding St
def Ty.pureO : Ty → Bool
  | .alt _ _ => false
  | .opt t => t.frz || (t.isOwn && t.pureO)
  | .vtup t => t.frz || (t.isOwn && t.pureO)
  | .list t => t.frz || (t.isOwn && t.pureO)
  | .dict _ t => t.frz || (t.isOwn && t.pureO)
  | .own t => t.pureO
  | .hl b => b.pureO
  | .ins _ _ b => b.pureO
  | .tup b => b.pureO
  | .last a => a.frz || (a.isOwn && a.pureO)
  | .cons a b => (a.frz || (a.isOwn && a.pureO)) && b.pureO
  | _ => true
section
variable {K : KW} {E : Ent} {ms ms' : List Md} {ts : List Ty} {L L1 : Reg} {Γ Γ1 : Gam ts} {σ σ1 : St} {H H' H0 H1 H2 : Hp} {xt : List Addr} {rm : Rm} {ρ : Ty}
theorem kid_pure {t : Ty} (hp : (t.frz || (t.isOwn && t.pureO)) = true) (ih : t.pureO = true → ∀ v d f, (rO K H L t).1 v d f → (rO K H L1 t).1 v d f) {v : V} {d : den t} {f : List Addr} (h : Kid K H L t v d f) : Kid K H L1 t v d f := by
  by_cases hf : t.frz = true
  · rcases h with h | ⟨_, e, h⟩
    · obtain ⟨e, r⟩ := (rO_frz (R := L1) t hf).1 v d f h
      rw [e]
      exact .inl ((rS_o t hf).1 v d r)
    · rw [e]
      exact .inl ((rS_o t hf).1 v d h)
  · have hq : t.isOwn = true ∧ t.pureO = true := by
      rw [Bool.or_eq_true, Bool.and_eq_true] at hp
      exact hp.resolve_left hf
    rcases h with h | ⟨h, _⟩
    · exact .inl (ih hq.2 v d f h)
    · rw [hq.1] at h
      cases h
theorem rO_pure : ∀ t : Ty, t.pureO = true → (∀ v d f, (rO K H L t).1 v d f → (rO K H L1 t).1 v d f) ∧ (∀ vs d f, (rO K H L t).2 vs d f → (rO K H L1 t).2 vs d f) := by
  intro t
  induction t with
  | non => exact fun _ => ⟨fun _ _ _ h => h, fun _ _ _ h => h.elim⟩
  | bool => exact fun _ => ⟨fun _ _ _ h => h, fun _ _ _ h => h.elim⟩
  | int => exact fun _ => ⟨fun _ _ _ h => h, fun _ _ _ h => h.elim⟩
  | str => exact fun _ => ⟨fun _ _ _ h => h, fun _ _ _ h => h.elim⟩
  | any => exact fun _ => ⟨fun _ _ _ h => h, fun _ _ _ h => h.elim⟩
  | exn => exact fun _ => ⟨fun _ _ _ h => h, fun _ _ _ h => h.elim⟩
  | alt a b iha ihb => exact fun q => by cases q
  | opt t ih =>
    intro q
    refine ⟨fun v d f h => ?_, fun _ _ _ h => h.elim⟩
    cases d with
    | none => exact h
    | some x => exact ⟨h.1, kid_pure q (fun z => (ih z).1) h.2⟩
  | vtup t ih =>
    intro q
    refine ⟨fun v d f h => ?_, fun _ _ _ h => h.elim⟩
    obtain ⟨a, vs, e, h1, h2⟩ := h
    exact ⟨a, vs, e, h1, h2.imp fun v d g _ x => kid_pure q (fun z => (ih z).1) x⟩
  | list t ih =>
    intro q
    refine ⟨fun v d f h => ?_, fun _ _ _ h => h.elim⟩
    obtain ⟨a, vs, g, e, rfl, h1, h2⟩ := h
    exact ⟨a, vs, g, e, rfl, h1, h2.imp fun v d g _ x => kid_pure q (fun z => (ih z).1) x⟩
  | dict k t _ ih =>
    intro q
    refine ⟨fun v d f h => ?_, fun _ _ _ h => h.elim⟩
    obtain ⟨a, g, e, rfl, ⟨k1, kvs, h1, h2⟩ | ⟨k1, kvs, h1, h2⟩⟩ := h
    · exact ⟨a, g, e, rfl, .inl ⟨k1, kvs, h1, h2.imp fun p q' g _ x => ⟨x.1, kid_pure q (fun z => (ih z).1) x.2⟩⟩⟩
    · exact ⟨a, g, e, rfl, .inr ⟨k1, kvs, h1, h2.imp fun p q' g _ x => ⟨x.1, kid_pure q (fun z => (ih z).1) x.2⟩⟩⟩
  | own t ih => exact ih
  | hl b ih =>
    intro q
    refine ⟨fun v d f h => ?_, fun _ _ _ h => h.elim⟩
    obtain ⟨a, vs, g, e, rfl, h1, h2⟩ := h
    exact ⟨a, vs, g, e, rfl, h1, (ih q).2 _ _ _ h2⟩
  | ins C ks b ih =>
    intro q
    refine ⟨fun v d f h => ?_, fun _ _ _ h => h.elim⟩
    rcases h with h | ⟨hk, C', a, dx, fs, g, e, rfl, h0, h1, h2, h3, h4⟩
    · exact .inl h
    · exact .inr ⟨hk, C', a, dx, fs, g, e, rfl, h0, h1, h2, h3, (ih q).2 _ _ _ h4⟩
  | tup b ih =>
    intro q
    refine ⟨fun v d f h => ?_, fun _ _ _ h => h.elim⟩
    obtain ⟨a, vs, e, h1, h2⟩ := h
    exact ⟨a, vs, e, h1, (ih q).2 _ _ _ h2⟩
  | last a ih =>
    intro q
    refine ⟨fun _ _ _ h => h.elim, fun vs d f h => ?_⟩
    obtain ⟨v, e, h⟩ := h
    exact ⟨v, e, kid_pure q (fun z => (ih z).1) h⟩
  | cons a b iha ihb =>
    intro q
    simp only [Ty.pureO, Bool.and_eq_true] at q
    refine ⟨fun _ _ _ h => h.elim, fun vs d f h => ?_⟩
    obtain ⟨v, r, f1, f2, e, rfl, h1, h2⟩ := h
    exact ⟨v, r, f1, f2, e, rfl, kid_pure q.1 (fun z => (iha z).1) h1, (ihb q.2).2 _ _ _ h2⟩
def rHole (K : KW) (H : Hp) (R : Reg) : {b t : Ty} → RIx b t → V → List V → den b → Prop
  | _, _, .one, v, vs, _ => vs = [v]
  | .cons _ b, _, .z, v, vs, d => ∃ r, vs = v :: r ∧ (rS K H R b).2 r d.2
  | .cons a _, _, .s r, v, vs, d => ∃ x w, vs = x :: w ∧ (rS K H R a).1 x d.1 ∧ rHole K H R r v w d.2
def RetIO (K : KW) (H' : Hp) (S Lr : Reg) : Rm → (ρ : Ty) → V → den ρ → List Addr → Prop
  | .o, ρ, v, d, g => (rO K H' Lr ρ).1 v d g
  | .l, ρ, v, d, g => g = [] ∧ (rS K H' Lr ρ).1 v d
  | .w, ρ, v, d, g => g = [] ∧ (rS K H' (fun a => S a ∨ Lr a) ρ).1 v d
  | .x _ _, _, _, _, _ => False
def spIO (K : KW) (b : Ty) {tio : Ty} (r : RIx b tio) (rm : Rm) (ρ : Ty) (m : den b → Option (den ρ × den tio)) : Sp := fun vs H Q _ => ∃ (S : Reg) (v : V) (d : den b) (f : List Addr) (res : den ρ × den tio), (∀ a, S a → (H a).isSome = true ∧ a ∉ f) ∧ f.Nodup ∧ (∀ a ∈ f, (H a).isSome = true) ∧
  rHole K H S r v vs d ∧ (rO K H (fun _ => False) tio).1 v (r.get d) f ∧ m d = some res ∧
  ∀ v' H' f' g Lr, (∀ a o, H a = some o → a ∉ f → H' a = some o) → Stb H H' → (∀ a ∈ f, (H' a).isSome = true) → (rO K H' Lr tio).1 v res.2 f' → RetIO K H' S Lr rm ρ v' res.1 g → (f' ++ g).Nodup → (∀ a ∈ f' ++ g, (a ∈ f ∨ H a = none) ∧ ¬ Lr a ∧ (H' a).isSome = true) → (∀ a, Lr a → (a ∈ f ∨ H a = none) ∧ (H' a).isSome = true) → Q v' H'
theorem hole_len {R : Reg} : ∀ {b t : Ty} (r : RIx b t) {v : V} {vs : List V} {d : den b}, rHole K H R r v vs d → vs.length = rowLen b
  | _, _, .one, _, _, _, h => by rw [h]; rfl
  | .cons _ b, _, .z, _, _, _, hh => by
    obtain ⟨r, h, h2⟩ := hh
    have := row_length b r _ h2
    rw [h]
    simp [rowLen, this]
  | .cons _ b, _, .s r, _, _, _, hh => by
    obtain ⟨x, w, h, _, h2⟩ := hh
    have := hole_len r h2
    rw [h]
    simp [rowLen, this]
def okMsIO : {b t : Ty} → RIx b t → List Ty → List Md → Bool
  | _, _, .one, ls, m :: ms => m == .r && ms.length == ls.length
  | .cons _ b, _, .z, ls, m :: ms => m == .r && okMs b ls ms
  | .cons _ _, _, .s r, ls, m :: ms => (m == .w || m == .f) && okMsIO r ls ms
  | _, _, _, _, [] => false
def ixIO : {b t : Ty} → (r : RIx b t) → (ls : List Ty) → Mem (rowTys b ++ ls) t
  | _, _, .one, _ => .z
  | .cons _ _, _, .z, _ => .z
  | .cons _ _, _, .s r, ls => .s (ixIO r ls)
theorem rG_iniIO {S0 L : Reg} : ∀ {b t : Ty} (r : RIx b t) (ls : List Ty) (ms : List Md) (v : V) (vs : List V) (d : den b) (f : List Addr), okMsIO r ls ms = true → rHole K H S0 r v vs d → (rO K H L t).1 v (r.get d) f → rG K H S0 L ms (rowTys b ++ ls) (iniG b ls d) (vs.map some ++ List.replicate ls.length none) f
  | _, _, .one, ls, m :: ms, v, vs, d, f, hk, h, ho => by
    simp only [okMsIO, Bool.and_eq_true, beq_iff_eq] at hk
    obtain ⟨rfl, hl⟩ := hk
    have h : vs = [v] := h
    subst h
    exact ⟨f, [], by simp, ⟨v, rfl, ho⟩, rG_none hl⟩
  | .cons _ b, _, .z, ls, m :: ms, v, vs, d, f, hk, h, ho => by
    simp only [okMsIO, Bool.and_eq_true, beq_iff_eq] at hk
    obtain ⟨rfl, hl⟩ := hk
    obtain ⟨w, rfl, h2⟩ := h
    exact ⟨f, [], by simp, ⟨v, rfl, ho⟩, rG_ini b ls ms w d.2 hl h2⟩
  | .cons a _, _, .s r, ls, m :: ms, v, vs, d, f, hk, h, ho => by
    simp only [okMsIO, Bool.and_eq_true, Bool.or_eq_true, beq_iff_eq] at hk
    obtain ⟨x, w, rfl, h1, h2⟩ := h
    have r' : (rS K H (fun a => S0 a ∨ L a) a).1 x d.1 := (rS_mono (Cov.of_reg fun a h _ => .inl h) (Stb.refl H) a).1 x d.1 h1
    refine ⟨[], f, by simp, ⟨x, rfl, ?_⟩, rG_iniIO r ls ms v w d.2 f hk.2 h2 ho⟩
    rcases hk.1 with rfl | rfl
    · exact ⟨rfl, r'⟩
    · exact ⟨rfl, r'⟩
  | _, _, .one, _, [], _, _, _, _, hk, _, _ => by simp [okMsIO] at hk
  | _, _, .z, _, [], _, _, _, _, hk, _, _ => by simp [okMsIO] at hk
  | _, _, .s _, _, [], _, _, _, _, hk, _, _ => by simp [okMsIO] at hk
def endIO {ts : List Ty} {tio : Ty} {ρ : Type} (i : Mem ts tio) (fall : Option ρ) : Option (Fl (Gam ts) ρ) → Option (ρ × den tio)
  | some (.rt r Γ) => (i.get Γ).map fun x => (r, x)
  | some (.nx Γ) => fall.bind fun r => (i.get Γ).map fun x => (r, x)
  | _ => none
def runIO {ρ : Type} {b tio : Ty} (r : RIx b tio) (ls : List Ty) (fall : Option ρ) (F : Gam (rowTys b ++ ls) → Option (Fl (Gam (rowTys b ++ ls)) ρ)) (d : den b) : Option (ρ × den tio) := endIO (ixIO r ls) fall (F (iniG b ls d))
theorem get_r : ∀ {b t : Ty} (r : RIx b t) (ls : List Ty) (ms : List Md), okMsIO r ls ms = true → ms[(ixIO r ls).ix]? = some .r
  | _, _, .one, ls, m :: ms, hk => by
    simp only [okMsIO, Bool.and_eq_true, beq_iff_eq] at hk
    rw [hk.1]
    rfl
  | .cons _ b, _, .z, ls, m :: ms, hk => by
    simp only [okMsIO, Bool.and_eq_true, beq_iff_eq] at hk
    rw [hk.1]
    rfl
  | .cons a _, _, .s r, ls, m :: ms, hk => by
    simp only [okMsIO, Bool.and_eq_true] at hk
    have := get_r r ls ms hk.2
    simpa [ixIO, Mem.ix] using this
  | _, _, .one, _, [], hk => by simp [okMsIO] at hk
  | _, _, .z, _, [], hk => by simp [okMsIO] at hk
  | _, _, .s _, _, [], hk => by simp [okMsIO] at hk
theorem hole_at {R : Reg} : ∀ {b t : Ty} (r : RIx b t) (ls : List Ty) {v : V} {vs : List V} {d : den b}, rHole K H R r v vs d → ∀ tl : St, (vs.map some ++ tl)[(ixIO r ls).ix]? = some (some v)
  | _, _, .one, ls, v, vs, d, h, tl => by
    have h : vs = [v] := h
    subst h
    rfl
  | .cons _ b, _, .z, ls, v, vs, d, h, tl => by
    obtain ⟨w, rfl, _⟩ := h
    rfl
  | .cons a _, _, .s r, ls, v, vs, d, h, tl => by
    obtain ⟨x, w, rfl, _, h2⟩ := h
    have := hole_at r ls h2 tl
    simpa [ixIO, Mem.ix] using this
theorem fn_okIO {P : Program} {w : World} {mg : Str → Option Value} {base : Heap} {x qual : Str} {st : Stmt} {f : Addr} {fd : FuncData} {N ps : List Str} {k : Nat} {b tio : Ty} (r : RIx b tio) (ls : List Ty) (ms : List Md) (fall : Option (den ρ)) {m : den b → Option (den ρ × den tio)} {F : Gam (rowTys b ++ ls) → Option (Fl (Gam (rowTys b ++ ls)) (den ρ))}
    (Fn : Fun K x qual st f fd) (S : FnScope N ps (defScope st)) (hps : ps.length = rowLen b) (hN : N.length = rowLen b + ls.length) (hms : okMsIO r ls ms = true) (hm : ∀ d, m d = runIO r ls fall F d) (hfall : ∀ z, fall = some z → ∀ H Sx Lr, RetIO K H Sx Lr rm ρ .non z [])
    (hbody : ∀ (cdv : Value) (A : Around) (outer : List Env) (s : Shared) (H : Hp) (E : XK), Room k (A.deeper (envOfC qual (defScope st) s.heap.objs.size f cdv)) →
      ∃ t, PSs (cxOf CX0 P w K mg base N qual (defScope st) f cdv A outer s H E).nox (defBody st) t ∧ RS K ms (rowTys b ++ ls) t rm ρ F) (hpl : rm.plain = true := by rfl) : FnOk P w K mg base CX0 (k + 1) f fd ps (spIO K b r rm ρ m) := by
  refine Fn.ok S (fun vs H Q E h => ?_) (fun cdv A outer s H vs Q E hr h => ?_)
  · obtain ⟨S, v, d, f, res, _, _, _, h2, _⟩ := h
    rw [hole_len r h2, hps]
  · obtain ⟨S, v, d, fc, res, c1, c2, c3, c4, c5, c6, c7⟩ := h
    obtain ⟨t, ht, hrs⟩ := hbody cdv A outer s H E hr
    refine ⟨t, ht, ?_⟩
    rw [hm d] at c6
    unfold runIO at c6
    have hl := hole_len r c4
    have es : L2.start N vs = vs.map some ++ List.replicate ls.length none := by
      unfold L2.start
      rw [hl, hN, Nat.add_sub_cancel_left]
    rw [es]
    have o : Own K ⟨H, S, fc⟩ (fun _ => False) ms (rowTys b ++ ls) (iniG b ls d) (vs.map some ++ List.replicate ls.length none) H [] :=
      ⟨⟨fc, rG_iniIO r ls ms v vs d fc hms c4 c5, by rw [List.append_nil]; exact c2, fun a ha => by
        have ha : a ∈ fc := by simpa using ha
        exact ⟨.inr ha, id, fun z => (c1 a z).2 ha, c3 a ha⟩⟩, fun a o h _ => h, fun a h => h.elim, fun a h => ⟨(c1 a h).1, (c1 a h).2⟩, fun a h => c3 a h⟩
    have hir := get_r r ls ms hms
    have h0 := hole_at r ls c4 (List.replicate ls.length none)
    -- what is left at the end
    have fin : ∀ {L' Γ' σ' H' xt v'} {z : den ρ}, Own K ⟨H, S, fc⟩ L' ms (rowTys b ++ ls) Γ' σ' H' xt → Ev ms (rowTys b ++ ls) (fun _ => False) (iniG b ls d) (vs.map some ++ List.replicate ls.length none) H L' Γ' σ' H' → RetIO K H' S L' rm ρ v' z xt → ((ixIO r ls).get Γ').map (fun y => (z, y)) = some res → Q v' H' := fun {L' Γ' σ' H' xt v' z} o' ev rr e => by
      obtain ⟨y, ey, rfl⟩ := Option.map_eq_some_iff.mp e
      obtain ⟨s1, f1, q1, q2, q3, q4, _⟩ := o'.focus (ixIO r ls) hir
      rw [ey] at q2
      obtain ⟨v1, rfl, q2⟩ := q2
      have q2 : (rO K H' L' tio).1 v1 y f1 := q2
      rw [ev.keep.2 _ .r hir rfl, h0] at q1
      cases q1
      obtain ⟨fp, _, nd, gd⟩ := o'.ex
      have gx : ∀ a ∈ xt, Good ⟨H, S, fc⟩ L' H' a := fun a ha => gd a (List.mem_append_right _ ha)
      refine c7 v' H' f1 xt L' (fun a o h1 h2 => o'.fr a o h1 h2) ev.stb (fun a ha => o'.iod a ha) q2 rr ?_ (fun a ha => ?_) fun a ha => ?_
      · exact List.nodup_append.mpr ⟨q3, (List.nodup_append.mp nd).2.1, fun a ha b hb z => (q4 a ha).2 (z ▸ hb)⟩
      · have g : Good ⟨H, S, fc⟩ L' H' a := (List.mem_append.mp ha).elim (fun h => (q4 a h).1) (gx a)
        exact ⟨g.new.elim .inr .inl, g.nl, g.at_⟩
      · obtain ⟨g1, g2⟩ := o'.lr a ha
        exact ⟨g1.elim .inr .inl, g2⟩
    cases e : F (iniG b ls d) with
    | none => rw [e] at c6; cases c6
    | some fl =>
      rw [e] at c6
      cases fl with
      | bk _ => cases c6
      | ct _ => cases c6
      | nx Γ' =>
        obtain ⟨z, ez, c6⟩ := bind_some (show fall.bind _ = some res from c6)
        exact hrs ⟨H, S, fc⟩ _ _ _ H _ _ o e fun L' σ' H' o' ev => fin o' ev (hfall z ez H' S L') c6
      | rt z Γ' =>
        refine hrs ⟨H, S, fc⟩ _ _ _ H _ _ o e fun L' σ' H' v' xt o' ev rr => (RDel_plain K hpl).mpr (fin o' ev ?_ c6)
        cases rm with
        | o => exact rr
        | l => exact rr
        | w => exact rr
        | x W m => cases hpl
def RAIO (K : KW) (ms : List Md) (ts : List Ty) (ta : TA) {b tio : Ty} (r : RIx b tio) (i : Mem ts tio) (F : Gam ts → Option (den b)) : Prop :=
  ∀ (E : Ent) (L : Reg) (Γ : Gam ts) (σ : St) (H : Hp) (xt : List Addr) (Q : List V → Hp → Prop) (d : den b), Own K E L ms ts Γ σ H xt → F Γ = some d →
    (∀ vs H' v Lr, Same H H' → Nw H H' Lr → σ[i.ix]? = some (some v) → i.get Γ = some (r.get d) → rHole K H' (fun a => E.S0 a ∨ L a ∨ Lr a) r v vs d → Q vs H') → ta σ H Q
theorem raio_here {tio b : Ty} (i : Mem ts tio) {n : Nat} {mi : Md} {ta : TA} {G : Gam ts → Option (den b)} (h : RA K ms ts ta .w b G) (hm : ms[i.ix]? = some mi := by rfl) (hn : i.ix = n := by rfl) : RAIO K ms ts (tCons (tVar n) ta) (RIx.z : RIx (.cons tio b) tio) i (eCons (eV i) G) := fun E L Γ σ H xt Q d o e q => by
  subst hn
  obtain ⟨x, e1, e⟩ := bind_some e
  obtain ⟨y, e2, e⟩ := bind_some e
  cases e
  obtain ⟨v, f, h1, _, _⟩ := o.look i hm e1
  refine ⟨v, h1, h E L Γ σ H xt _ y o e2 fun vs H1 s1 r1 => ?_⟩
  obtain ⟨Lr, r1, nw⟩ := r1
  exact q (v :: vs) H1 v Lr s1 nw h1 e1 ⟨vs, rfl, r1⟩
def eIO {ts : List Ty} {b tio : Ty} {ρ : Type} (i : Mem ts tio) (m : den b → Option (ρ × den tio)) (F : Gam ts → Option (den b)) : Gam ts → Option (ρ × Gam ts) := fun Γ => (F Γ).bind fun d => (m d).bind fun res => some (res.1, i.set (some res.2) Γ)
theorem re_callIO {b tio : Ty} {r : RIx b tio} {i : Mem ts tio} {ta : TA} {m : den b → Option (den ρ × den tio)} {F : Gam ts → Option (den b)} {X : XK} {mi : Md} (h : RAIO K ms ts ta r i F) (hm : ms[i.ix]? = some mi := by rfl) (hmo : mi.own = true := by rfl) (hp : tio.pureO = true := by rfl) : RE K ms ts (tCall (spIO K b r rm ρ m) [] X ta) rm.em ρ (eIO i m F) := fun E L Γ σ H Q d Γ' o e q => by
  obtain ⟨a, ea, e⟩ := bind_some e
  obtain ⟨res, er, e⟩ := bind_some e
  cases e
  refine h E L Γ σ H [] _ a o ea fun vs H1 v Lr s1 nw k1 k2 k3 => ?_
  rw [List.append_nil]
  obtain ⟨s0, f, q1, q2, q3, q4, q5⟩ := o.focus i hm
  rw [k2] at q2
  obtain ⟨v1, rfl, q2⟩ := q2
  rw [k1] at q1
  cases q1
  have q2 := (repM_own hmo).mp q2
  have f1 : ∀ c ∈ f, (H1 c).isSome = true := fun c hc => by rw [same_at s1 (q4 c hc).1.at_]; exact (q4 c hc).1.at_
  have sm : ∀ c, (H c).isSome = true → (H1 c).isSome = true := fun c hc => by rw [same_at s1 hc]; exact hc
  have hS : ∀ c, (E.S0 c ∨ L c ∨ Lr c) → (H1 c).isSome = true := fun c hc => by
    rcases hc with w | w | w
    · obtain ⟨g1, g2⟩ := o.s0 c w
      obtain ⟨y, hy⟩ := isSome_some g1
      exact sm c (by rw [o.fr c y hy g2]; rfl)
    · exact sm c (o.lr c w).2
    · exact (nw c w).2
  refine ⟨fun c => E.S0 c ∨ L c ∨ Lr c, v, a, f, res, fun c hc => ⟨hS c hc, fun z => ?_⟩, q3, f1, k3, (rO_pure tio hp).1 v _ f ((rO_mono (Cov.of_same s1 fun _ h _ => h) (Stb.of_same s1) tio).1 v _ f (fun c hc => same_at s1 (q4 c hc).1.at_) q2), er, fun v' H2 f' g Ls c1 c2 c3 c4 c5 c6 c7 c8 => ?_⟩
  · rcases hc with w | w | w
    · exact (q4 c z).1.ns w
    · exact (q4 c z).1.nl w
    · have := (q4 c z).1.at_
      rw [(nw c w).1] at this
      cases this
  · have old : ∀ c, (H c).isSome = true → c ∉ f → H2 c = H c := fun c h1 h2 => by
      obtain ⟨y, hy⟩ := isSome_some h1
      rw [hy]
      exact c1 c y (s1 _ _ hy) h2
    have up : ∀ c, (H c).isSome = true → (H2 c).isSome = true := fun c h1 => by
      by_cases hc : c ∈ f
      · exact c3 c hc
      · rw [old c h1 hc]
        exact h1
    have d8 : ∀ c, (Ls c ∨ Lr c) → (c ∈ f ∨ H c = none) ∧ (H2 c).isSome = true := fun c h => h.elim (fun z => ⟨(c8 c z).1.elim .inl fun y => .inr (s1.free y), (c8 c z).2⟩) fun z => by
      have nfc : c ∉ f := fun w => by
        have := (q4 c w).1.at_
        rw [(nw c z).1] at this
        cases this
      obtain ⟨y, hy⟩ := isSome_some (nw c z).2
      exact ⟨.inr (nw c z).1, by rw [c1 c y hy nfc]; rfl⟩
    have d7 : ∀ c ∈ f' ++ g, (c ∈ f ∨ H c = none) ∧ ¬ (Ls c ∨ Lr c) ∧ (H2 c).isSome = true := fun c hc => by
      obtain ⟨d1, d2, d3⟩ := c7 c hc
      refine ⟨d1.elim .inl fun y => .inr (s1.free y), fun h => h.elim d2 fun z => ?_, d3⟩
      rcases d1 with y | y
      · have := (q4 c y).1.at_
        rw [(nw c z).1] at this
        cases this
      · have := (nw c z).2
        rw [y] at this
        cases this
    have own' : ∀ xt', (f' ++ xt').Nodup → (∀ c ∈ xt', c ∈ g) → Own K E (fun c => L c ∨ (Ls c ∨ Lr c)) ms ts (i.set (some res.2) Γ) σ H2 xt' := fun xt' nd hx => by
      have o' := q5 H2 (fun c => L c ∨ (Ls c ∨ Lr c)) (some res.2) (some v) f' xt' (fun c h1 h2 _ => old c h1 h2) ((Stb.of_same s1).trans c2) (fun _ h => .inl h) (fun c h => h.elim .inl fun z => .inr ((d8 c z).1.elim .inl fun y => .inr (.inr y))) up
        (fun c h => h.elim (fun z => ⟨(o.lr c z).1, up c (o.lr c z).2⟩) fun z => ⟨(d8 c z).1.elim (fun y => (q4 c y).1.new) fun y => .inl (o.fresh y).1, (d8 c z).2⟩)
        ⟨v, rfl, (repM_own hmo).mpr ((rO_mono (Cov.of_reg fun c h _ => .inr (.inl h)) (Stb.refl _) tio).1 v _ f' (fun _ _ => rfl) c4)⟩ nd (fun c hc => by
          have hm : c ∈ f' ++ g := by
            rcases List.mem_append.mp hc with h | h
            · exact List.mem_append_left _ h
            · exact List.mem_append_right _ (hx c h)
          obtain ⟨d1, d2, d3⟩ := d7 c hm
          refine ⟨d1.elim .inl fun y => .inr (.inr y), fun z => z.elim (fun z => ?_) d2, d3⟩
          rcases d1 with y | y
          · exact (q4 c y).1.nl z
          · have := (o.lr c z).2
            rw [y] at this
            cases this)
      rw [set_same k1] at o'
      exact o'
    have ev : Ev ms ts L Γ σ H (fun c => L c ∨ (Ls c ∨ Lr c)) (i.set (some res.2) Γ) σ H2 := ⟨fun _ h => .inl h, fun c y h1 h2 => by
      rw [old c (by rw [h2]; rfl) fun z => (q4 c z).1.nl h1]
      exact h2, (Stb.of_same s1).trans c2, keepF_set0 i hm (own_hard hmo) _⟩
    have nf := List.nodup_append.mp c6
    have nil : Own K E (fun c => L c ∨ (Ls c ∨ Lr c)) ms ts (i.set (some res.2) Γ) σ H2 [] := own' [] (by rw [List.append_nil]; exact nf.1) (fun _ h => by cases h)
    cases rm with
    | o => exact q v' _ H2 g (own' g c6 fun _ h => h) ev ((rO_mono (Cov.of_reg fun c h _ => .inr (.inl h)) (Stb.refl _) ρ).1 v' _ g (fun _ _ => rfl) c5)
    | l => exact q v' _ H2 [] nil ev ⟨rfl, (rS_mono (Cov.of_reg fun c h _ => .inr (.inl h)) (Stb.refl _) ρ).1 v' _ c5.2⟩
    | w => exact q v' _ H2 [] nil ev ⟨rfl, (rS_mono (Cov.of_reg fun c h _ => h.elim (fun z => z.elim .inl fun z => .inr (z.elim .inl fun z => .inr (.inr z))) fun z => .inr (.inr (.inl z))) (Stb.refl _) ρ).1 v' _ c5.2⟩
    | x W m => exact c5.elim
def sIfE {G ρ : Type} (c : G → Option (Bool × G)) (F F' : G → Option (Fl G ρ)) : G → Option (Fl G ρ) := fun Γ => (c Γ).bind fun b => if b.1 = true then F b.2 else F' b.2
theorem re_l {te : TE} {t : Ty} {F : Gam ts → Option (den t × Gam ts)} (h : RE K ms ts te .o t F) : RE K ms ts te .l t F := fun E L Γ σ H Q d Γ' o e q => h E L Γ σ H Q d Γ' o e fun v L' H' xt o' ev r => by
  obtain ⟨fp, g, nd, gd⟩ := id o'.ex
  have gx : ∀ a ∈ xt, Good E L' H' a := fun a ha => gd a (List.mem_append_right _ ha)
  refine q v (fun a => L' a ∨ a ∈ xt) H' [] ⟨⟨fp, rG_mono (L' := fun a => L' a ∨ a ∈ xt) (Cov.refl _ _) (Cov.of_reg fun a h _ => .inl h) (Stb.refl _) (fun _ _ => rfl) g, by rw [List.append_nil]; exact (List.nodup_append.mp nd).1, fun a ha => ?_⟩, o'.fr, fun a ha => ha.elim (o'.lr a) fun z => ⟨(gx a z).new, (gx a z).at_⟩, o'.s0, o'.iod⟩ ⟨fun a h => .inl (ev.sub a h), ev.cell, ev.stb, ev.keep⟩ ⟨rfl, (rO_s (fun a h => .inl h) t).1 v d xt (fun a h => .inr h) r⟩
  have ha : a ∈ fp := by simpa using ha
  have ga := gd a (List.mem_append_left _ ha)
  exact ⟨ga.new, fun z => z.elim ga.nl fun z => (List.nodup_append.mp nd).2.2 a ha a z rfl, ga.ns, ga.at_⟩
end
end VV
namespace VV
open PySem L2
open PyProof.Rows hiding St
section
variable {K : KW} {E : Ent} {ms ms' : List Md} {ts : List Ty} {L L1 : Reg} {Γ Γ1 : Gam ts} {σ σ1 : St} {H H' H0 H1 H2 : Hp} {xt : List Addr} {rm : Rm} {ρ : Ty}
def eMove {ts : List Ty} {t : Ty} (i : Mem ts t) : Gam ts → Option (den t × Gam ts) := fun Γ => (i.get Γ).bind fun d => some (d, i.set none Γ)
def eSomeE {G α : Type} (F : G → Option (α × G)) : G → Option (Option α × G) := fun Γ => (F Γ).bind fun p => some (some p.1, p.2)
def sRetE {G ρ : Type} (F : G → Option (ρ × G)) : G → Option (Fl G ρ) := fun Γ => (F Γ).bind fun p => some (.rt p.1 p.2)
theorem rs_retE {te : TE} {F : Gam ts → Option (den ρ × Gam ts)} (h : RE K ms ts te .o ρ F) : RS K ms ts (tRet te) .o ρ (sRetE F) := fun E L Γ σ H D f o e p => by
  obtain ⟨⟨d, Γ1⟩, e1, e2⟩ := bind_some e
  cases e2
  exact h E L Γ σ H _ d Γ1 o e1 fun v L' H' xt o' ev r => p L' σ H' v xt o' ev r
end
end VV
namespace VV
open PySem L2
open PyProof.Rows hiding St
section
variable {K : KW} {E : Ent} {ms ms' : List Md} {ts : List Ty} {L L1 : Reg} {Γ Γ1 : Gam ts} {σ σ1 : St} {H H' H0 H1 H2 : Hp} {xt : List Addr} {rm : Rm} {ρ : Ty}
def eChain3 {G α β γ δ : Type} (f : α → β → Option Bool) (g : β → γ → Option Bool) (h : γ → δ → Option Bool) (Fa : G → Option α) (Fb : G → Option β) (Fc : G → Option γ) (Fd : G → Option δ) : G → Option Bool := fun Γ => (Fa Γ).bind fun a => (Fb Γ).bind fun b => (f a b).bind fun k => if k = true then (Fc Γ).bind fun c => (g b c).bind fun k2 => if k2 = true then (Fd Γ).bind fun d => h c d else some false else some false
end
end VV
namespace VV
open PySem L2
open PyProof.Rows hiding St
section
variable {K : KW} {E : Ent} {ms ms' : List Md} {ts : List Ty} {L L1 : Reg} {Γ Γ1 : Gam ts} {σ σ1 : St} {H H' H0 H1 H2 : Hp} {xt : List Addr} {rm : Rm} {ρ : Ty}
theorem rl_lo {t : Ty} {ta : TA} {F : Gam ts → Option (List (den t))} (h : RL K ms ts ta .l t F) (hw : t.isOwn = false := by rfl) : RL K ms ts ta .o t F := fun E L Γ σ H xt Q d o e q => h E L Γ σ H xt Q d o e fun vs H1 s1 r1 => q vs H1 s1 (by
  obtain ⟨Lr, h1, h2⟩ := r1
  exact ⟨[], Lr, F3.of2 (fun v d r => .inr ⟨hw, rfl, r⟩) h1, List.nodup_nil, fun a ha => by simp at ha, h2, fun a ha => by simp at ha⟩)
end
end VV
namespace VV
open PySem L2
open PyProof.Rows hiding St
section
variable {K : KW} {E : Ent} {ms ms' : List Md} {ts : List Ty} {L L1 : Reg} {Γ Γ1 : Gam ts} {σ σ1 : St} {H H' H0 H1 H2 : Hp} {xt : List Addr} {rm : Rm} {ρ : Ty}
def Ty.cmpA : Ty → Bool
  | .alt a b => a.cmpA && b.cmpA
  | .dict _ _ => false
  | .exn => false
  | .opt t => t.cmpA
  | .vtup t => t.cmpA
  | .list t => t.cmpA
  | .own t => t.cmpA
  | .hl b => b.cmpA
  | .ins _ _ _ => false
  | .tup b => b.cmpA
  | .last a => a.cmpA
  | .cons a b => a.cmpA && b.cmpA
  | _ => true
theorem rS_dpA {R : Reg} : ∀ t : Ty, t.cmpA = true → (∀ v d, (rS K H R t).1 v d → Dp K H v ((emb t).1 d)) ∧ (∀ vs d, (rS K H R t).2 vs d → DpAll K H vs ((emb t).2 d)) := by
  intro t
  induction t with
  | non => exact fun _ => ⟨fun v d h => by cases h; exact .non, fun _ _ h => h.elim⟩
  | bool => exact fun _ => ⟨fun v d h => by cases h; exact .bl _, fun _ _ h => h.elim⟩
  | int => exact fun _ => ⟨fun v d h => by cases h; exact .int _, fun _ _ h => h.elim⟩
  | str => exact fun _ => ⟨fun v d h => by cases h.1; exact .str _, fun _ _ h => h.elim⟩
  | any => exact fun _ => ⟨fun v d h => dv_dp d v h, fun _ _ h => h.elim⟩
  | exn => exact fun q => by cases q
  | alt a b iha ihb =>
    intro q
    simp only [Ty.cmpA, Bool.and_eq_true] at q
    refine ⟨fun v d h => ?_, fun _ _ h => h.elim⟩
    cases d with
    | inl x => exact (iha q.1).1 v x h
    | inr x => exact (ihb q.2).1 v x h
  | opt t ih =>
    refine fun q => ⟨fun v d h => ?_, fun _ _ h => h.elim⟩
    cases d with
    | none => cases (show v = .non from h); exact .non
    | some x => exact (ih q).1 v x h.2
  | vtup t ih =>
    refine fun q => ⟨fun v d h => ?_, fun _ _ h => h.elim⟩
    obtain ⟨a, vs, rfl, h1, h2⟩ := h
    exact .tup (.of h1) (f2_dp (ih q).1 h2)
  | list t ih =>
    refine fun q => ⟨fun v d h => ?_, fun _ _ h => h.elim⟩
    obtain ⟨a, vs, rfl, h1, h2⟩ := h
    exact .lst h1.seq (f2_dp (ih q).1 h2)
  | dict k t _ ih => exact fun q => by cases q
  | own t ih => exact ih
  | ins C ks b ih => exact fun q => by cases q
  | hl b ih =>
    refine fun q => ⟨fun v d h => ?_, fun _ _ h => h.elim⟩
    obtain ⟨a, vs, rfl, h1, h2⟩ := h
    exact .lst h1.seq ((ih q).2 vs d h2)
  | tup b ih =>
    refine fun q => ⟨fun v d h => ?_, fun _ _ h => h.elim⟩
    obtain ⟨a, vs, rfl, h1, h2⟩ := h
    exact .tup (.of h1) ((ih q).2 vs d h2)
  | last a ih =>
    refine fun q => ⟨fun _ _ h => h.elim, fun vs d h => ?_⟩
    obtain ⟨v, rfl, h⟩ := h
    exact .cons ((ih q).1 v d h) .nil
  | cons a b iha ihb =>
    intro q
    simp only [Ty.cmpA, Bool.and_eq_true] at q
    refine ⟨fun _ _ h => h.elim, fun vs d h => ?_⟩
    obtain ⟨v, r, rfl, h1, h2⟩ := h
    exact .cons ((iha q.1).1 v d.1 h1) ((ihb q.2).2 r d.2 h2)
def shp2 (d e : PyData) : Bool := d.canLay0 && e.canLay0 && decide (min d.depth e.depth ≤ 64)
theorem shp2_of {d e : PyData} (h : shp2 d e = true) : d.canLay0 = true ∧ e.canLay0 = true ∧ min d.depth e.depth ≤ 64 := by
  unfold shp2 at h
  rw [Bool.and_eq_true, Bool.and_eq_true] at h
  exact ⟨h.1.1, h.1.2, of_decide_eq_true h.2⟩
def fEqA (t : Ty) (a b : den t) : Option Bool := okIf (shp2 ((emb t).1 a) ((emb t).1 b)) (PyData.eqv ((emb t).1 a) ((emb t).1 b))
theorem v_eqA {m : Em} {t : Ty} (hk : t.cmpA = true) : V2 K (rEqM K) m t t .bool (fEqA t) := fun E L H v w a b c Q ra rb e q => by
  obtain ⟨h1, rfl⟩ := okIf_some e
  obtain ⟨h1, h2, h3⟩ := shp2_of h1
  exact ⟨_, _, (rS_dpA t hk).1 v a ra, (rS_dpA t hk).1 w b rb, h1, h2, h3, q _ H (Same.refl H) (rep_atom rfl rfl)⟩
theorem dvs_f2 : ∀ {ds : List PyData} {vs : List V}, dvs H ds vs ↔ F2 (fun v d => dv H d v) vs ds
  | [], [] => ⟨fun _ => True.intro, fun _ => rfl⟩
  | [], v :: vs => ⟨fun h => (by cases h), fun h => h.elim⟩
  | d :: ds, [] => ⟨fun h => (by obtain ⟨_, _, e, _⟩ := h; cases e), fun h => h.elim⟩
  | d :: ds, v :: vs => by
    constructor
    · rintro ⟨v', r, e, h1, h2⟩
      cases e
      exact ⟨h1, dvs_f2.mp h2⟩
    · rintro ⟨h1, h2⟩
      exact ⟨v, vs, rfl, h1, dvs_f2.mpr h2⟩
theorem f2_map {α β γ : Type} {P : α → γ → Prop} {f : β → γ} : ∀ {xs : List α} {ys : List β}, F2 (fun x y => P x (f y)) xs ys → F2 P xs (ys.map f)
  | [], [], _ => True.intro
  | x :: xs, y :: ys, h => ⟨h.1, f2_map h.2⟩
  | [], _ :: _, h => h.elim
  | _ :: _, [], h => h.elim
def Ty.frzD : Ty → Bool
  | .exn => false
  | .alt a b => a.frzD && b.frzD
  | .opt t => t.frzD
  | .vtup t => t.frzD
  | .tup b => b.frzD
  | .last a => a.frzD
  | .cons a b => a.frzD && b.frzD
  | t => t.frz
theorem rS_dv {R : Reg} : ∀ t : Ty, t.frzD = true → (∀ v d, (rS K H R t).1 v d → dv H ((emb t).1 d) v) ∧ (∀ vs d, (rS K H R t).2 vs d → dvs H ((emb t).2 d) vs) := by
  intro t
  induction t with
  | non => exact fun _ => ⟨fun v d h => h, fun _ _ h => h.elim⟩
  | bool => exact fun _ => ⟨fun v d h => h, fun _ _ h => h.elim⟩
  | int => exact fun _ => ⟨fun v d h => h, fun _ _ h => h.elim⟩
  | str => exact fun _ => ⟨fun v d h => h, fun _ _ h => h.elim⟩
  | any => exact fun _ => ⟨fun v d h => h, fun _ _ h => h.elim⟩
  | exn => exact fun q => by cases q
  | alt a b iha ihb =>
    intro q
    simp only [Ty.frzD, Bool.and_eq_true] at q
    refine ⟨fun v d h => ?_, fun _ _ h => h.elim⟩
    cases d with
    | inl x => exact (iha q.1).1 v x h
    | inr x => exact (ihb q.2).1 v x h
  | opt t ih =>
    refine fun q => ⟨fun v d h => ?_, fun _ _ h => h.elim⟩
    cases d with
    | none => exact h
    | some x => exact (ih q).1 v x h.2
  | vtup t ih =>
    refine fun q => ⟨fun v d h => ?_, fun _ _ h => h.elim⟩
    obtain ⟨a, vs, rfl, h1, h2⟩ := h
    exact ⟨a, vs, rfl, h1, dvs_f2.mpr (f2_map (h2.imp (ih q).1))⟩
  | list t ih => exact fun q => by cases q
  | dict k t _ ih => exact fun q => by cases q
  | own t ih => exact fun q => by cases q
  | hl b ih => exact fun q => by cases q
  | ins C ks b ih => exact fun q => by cases q
  | tup b ih =>
    refine fun q => ⟨fun v d h => ?_, fun _ _ h => h.elim⟩
    obtain ⟨a, vs, rfl, h1, h2⟩ := h
    exact ⟨a, vs, rfl, h1, (ih q).2 vs d h2⟩
  | last a ih =>
    refine fun q => ⟨fun _ _ h => h.elim, fun vs d h => ?_⟩
    obtain ⟨v, rfl, h⟩ := h
    exact ⟨v, [], rfl, (ih q).1 v d h, rfl⟩
  | cons a b iha ihb =>
    intro q
    simp only [Ty.frzD, Bool.and_eq_true] at q
    refine ⟨fun _ _ h => h.elim, fun vs d h => ?_⟩
    obtain ⟨v, r, rfl, h1, h2⟩ := h
    exact ⟨v, r, rfl, (iha q.1).1 v d.1 h1, (ihb q.2).2 r d.2 h2⟩
theorem rp_any {t : Ty} {m m1 : Em} {te : TE} {F : Gam ts → Option (den t)} (h : RP K ms ts te m1 t F) (hf : t.frzD = true := by rfl) : RP K ms ts te m .any (e1 (fun d => some ((emb t).1 d)) F) := fun E L Γ σ H xt Q d o e q => by
  obtain ⟨a, ea, e⟩ := bind_some e
  cases e
  exact h E L Γ σ H xt Q a o ea fun v H1 s1 r1 => q v H1 s1 (rep_atom rfl ((rS_dv t hf).1 v a r1.b))
inductive AllAny : Ty → Nat → Prop
  | one : AllAny (.last .any) 1
  | more {b : Ty} {n : Nat} : AllAny b n → AllAny (.cons .any b) (n + 1)
end
section
variable {K : KW} {rm : Rm} {ρ : Ty}
end
end VV
namespace VV
open PySem L2
open PyProof.Rows hiding St
section
variable {K : KW} {E : Ent} {ms ms' : List Md} {ts : List Ty} {L L1 : Reg} {Γ Γ1 : Gam ts} {σ σ1 : St} {H H' H0 H1 H2 : Hp} {xt : List Addr} {rm : Rm} {ρ : Ty}
def sAppE {ρ : Type} {ts : List Ty} {t : Ty} (i : Mem ts (.list t)) (F : Gam ts → Option (den t × Gam ts)) : Gam ts → Option (Fl (Gam ts) ρ) := fun Γ => (i.get Γ).bind fun _ => (F Γ).bind fun p => (i.get p.2).bind fun xs => if xs.length < sizeLine then some (.nx (i.set (some (xs ++ [p.1])) p.2)) else none
end
end VV
namespace VV
open PySem L2
open PyProof.Rows hiding St
section
variable {K : KW} {E : Ent} {ms ms' : List Md} {ts : List Ty} {L L1 : Reg} {Γ Γ1 : Gam ts} {σ σ1 : St} {H H' H0 H1 H2 : Hp} {xt : List Addr} {rm : Rm} {ρ : Ty}
def ePure {G α : Type} (F : G → Option α) : G → Option (α × G) := fun Γ => (F Γ).bind fun d => some (d, Γ)
def eConsE {G α β : Type} (F : G → Option (α × G)) (F' : G → Option (β × G)) : G → Option ((α × β) × G) := fun Γ => (F Γ).bind fun p => (F' p.2).bind fun q => some ((p.1, q.1), q.2)
end
end VV
namespace VV
open PySem L2
open PyProof.Rows hiding St
section
variable {K : KW} {E : Ent} {ms ms' : List Md} {ts : List Ty} {L L1 : Reg} {Γ Γ1 : Gam ts} {σ σ1 : St} {H H' H0 H1 H2 : Hp} {xt : List Addr}
theorem hasK_of {k t : Ty} {R : Reg} {v : V} {d : List (den k × den t)} (hk : k.tk = false) (h : (rS K H R (.dict k t)).1 v d) : ∃ a ks, v = .ref a ∧ HasK H a ks ∧ ks.length = d.length := by
  obtain ⟨a, rfl, h⟩ := h
  rcases h with ⟨_, ks, hd, f⟩ | ⟨z, _⟩
  · exact ⟨a, ks, rfl, strip_dK hd.2, f.length⟩
  · rw [hk] at z
    cases z
theorem rp_lenDK {k t : Ty} {m m' : Em} {te : TE} {F : Gam ts → Option (List (den k × den t))} (h : RP K ms ts te m' (.dict k t) F) (hk : k.tk = false := by rfl) : RP K ms ts (tCB rLenK (tCons te tNil)) m .int (e1 fLen F) := fun E L Γ σ H xt Q d o e q => by
  obtain ⟨a, ea, e⟩ := bind_some e
  cases e
  refine h E L Γ σ H xt _ a o ea fun v H1 s1 r1 => ?_
  obtain ⟨p, ks, rfl, hp, lp⟩ := hasK_of hk r1.b
  exact ⟨p, ks, rfl, hp, q _ H1 s1 (rep_atom rfl (by rw [lp]; rfl))⟩
end
end VV
namespace VV
open PySem L2
open PyProof.Rows hiding St
section
variable {K : KW} {E : Ent} {ms ms' : List Md} {ts : List Ty} {L L1 : Reg} {Γ Γ1 : Gam ts} {σ σ1 : St} {H H' H0 H1 H2 : Hp} {xt : List Addr} {rm : Rm} {ρ : Ty}
def Held (K : KW) (E : Ent) (ms : List Md) (ts : List Ty) (L : Reg) (Γ : Gam ts) (σ : St) (H : Hp) (f : List Addr) (P : Hp → Prop) : Prop :=
  ∀ (L2 : Reg) (Γ2 : Gam ts) (H2 : Hp) (x2 : List Addr), Own K E L2 ms ts Γ2 σ H2 x2 → Ev ms ts L Γ σ H L2 Γ2 σ H2 → (∀ a ∈ f, H2 a = H a) → P H2
theorem Ev.rfl' : Ev ms ts L Γ σ H L Γ σ H := Ev.same (Same.refl H)
theorem Held.now {f : List Addr} {P : Hp → Prop} (h : Held K E ms ts L Γ σ H f P) (o : Own K E L ms ts Γ σ H xt) : P H := h L Γ H xt o Ev.rfl' fun _ _ => rfl
def eX2 {G α β γ : Type} (f : α → β → Option γ) (A : G → Option (α × G)) (B : G → Option (β × G)) : G → Option (γ × G) := fun Γ => (A Γ).bind fun p => (B p.2).bind fun q => (f p.1 q.1).bind fun c => some (c, q.2)
def eX1 {G α γ : Type} (f : α → Option γ) (A : G → Option (α × G)) : G → Option (γ × G) := fun Γ => (A Γ).bind fun p => (f p.1).bind fun c => some (c, p.2)
def eXAnd {G : Type} (A B : G → Option (Bool × G)) : G → Option (Bool × G) := fun Γ => (A Γ).bind fun p => if p.1 = true then B p.2 else some (false, p.2)
def eXOr {G : Type} (A B : G → Option (Bool × G)) : G → Option (Bool × G) := fun Γ => (A Γ).bind fun p => if p.1 = true then some (true, p.2) else B p.2
def eX3 {G α β γ δ : Type} (f : α → β → γ → Option δ) (A : G → Option (α × G)) (B : G → Option (β × G)) (C : G → Option (γ × G)) : G → Option (δ × G) := fun Γ => (A Γ).bind fun p => (B p.2).bind fun q => (C q.2).bind fun r => (f p.1 q.1 r.1).bind fun c => some (c, r.2)
def eXSnoc {G α : Type} (A : G → Option (α × G)) (B : G → Option (List α × G)) : G → Option (List α × G) := eX2 (fun a b => some (a :: b)) A B
end
end VV
namespace VV
open PySem L2
open PyProof.Rows hiding St
section
variable {K : KW} {E : Ent} {ms ms' : List Md} {ts : List Ty} {L L1 : Reg} {Γ Γ1 : Gam ts} {σ σ1 : St} {H H' H0 H1 H2 : Hp} {xt : List Addr} {rm : Rm} {ρ : Ty}
def eXProj {G : Type} {b t : Ty} (r : RIx b t) (F : G → Option (den b × G)) : G → Option (den t × G) := eX1 (fun d => some (r.get d)) F
def sSetX {ρ : Type} {ts : List Ty} {t : Ty} (i : Mem ts t) (F : Gam ts → Option (den t × Gam ts)) : Gam ts → Option (Fl (Gam ts) ρ) := fun Γ => (F Γ).bind fun p => some (.nx (i.set (some p.1) p.2))
def RIx.put : {b t : Ty} → RIx b t → den b → den t → den b
  | _, _, .one, _, x => x
  | _, _, .z, d, x => (x, d.2)
  | _, _, .s r, d, x => (d.1, r.put d.2 x)
theorem row_own : ∀ {b u : Ty} (r : RIx b (.own u)) {vs : List V} {d : den b} {g : List Addr}, (rO K H L b).2 vs d g → ∃ v gx gj gy, vs[r.ix]? = some v ∧ g = gx ++ (gj ++ gy) ∧ (rO K H L u).1 v (r.get d) gj ∧
    ∀ (H2 : Hp) (d' : den u) (gj' : List Addr), Cov H H2 L L → Stb H H2 → (∀ a ∈ gx ++ gy, H2 a = H a) → (rO K H2 L u).1 v d' gj' → (rO K H2 L b).2 vs (r.put d d') (gx ++ (gj' ++ gy))
  | _, _, .one, vs, d, g, h => by
    obtain ⟨v0, rfl, k⟩ := h
    rcases k with k | ⟨k, _⟩
    · exact ⟨v0, [], g, [], rfl, by simp, k, fun H2 d' gj' _ _ _ h2 => ⟨v0, rfl, .inl (by rw [List.nil_append, List.append_nil]; exact h2)⟩⟩
    · cases k
  | _, _, .z, vs, d, g, h => by
    obtain ⟨v0, w, f1, f2, rfl, rfl, k, h2⟩ := h
    rcases k with k | ⟨k, _⟩
    · exact ⟨v0, [], f1, f2, rfl, by simp, k, fun H2 d' gj' hc hs hx h3 => ⟨v0, w, gj', f2, rfl, by simp, .inl h3, (rO_mono hc hs _).2 w d.2 f2 (fun a ha => hx a (by simpa using ha)) h2⟩⟩
    · cases k
  | .cons a b, u, .s r, vs, d, g, h => by
    obtain ⟨v0, w, f1, f2, rfl, rfl, k, h2⟩ := h
    obtain ⟨v, gx, gj, gy, h3, rfl, h4, h5⟩ := row_own r h2
    refine ⟨v, f1 ++ gx, gj, gy, by simpa [RIx.ix] using h3, by simp, h4, fun H2 d' gj' hc hs hx h6 => ⟨v0, w, f1, gx ++ (gj' ++ gy), rfl, by simp, kid_mono ((rS_mono hc hs a).1 v0 d.1) ((rO_mono hc hs a).1 v0 d.1 f1 fun c hc => hx c (List.mem_append_left _ (List.mem_append_left _ hc))) k, h5 H2 d' gj' hc hs (fun c hc => hx c ?_) h6⟩⟩
    rcases List.mem_append.mp hc with hc | hc
    · exact List.mem_append_left _ (List.mem_append_right _ hc)
    · exact List.mem_append_right _ hc
def sHput {ρ : Type} {ts : List Ty} {b t : Ty} (i : Mem ts (.hl b)) (r : RIx b t) (F : Gam ts → Option (den t × Gam ts)) : Gam ts → Option (Fl (Gam ts) ρ) := fun Γ => (F Γ).bind fun p => (i.get p.2).bind fun d => some (.nx (i.set (some (r.put d p.1)) p.2))
def ePopH {ts : List Ty} {b t : Ty} (i : Mem ts (.hl b)) (r : RIx b (.own (.list t))) : Gam ts → Option (den t × Gam ts) := fun Γ => (i.get Γ).bind fun d => (List.getLast? (r.get d : List (den t))).bind fun y => some (y, i.set (some (r.put d (List.dropLast (r.get d : List (den t))))) Γ)
end
end VV
namespace VV
open PySem L2
open PyProof.Rows hiding St
section
variable {K : KW} {E : Ent} {ms ms' : List Md} {ts : List Ty} {L L1 : Reg} {Γ Γ1 : Gam ts} {σ σ1 : St} {H H' H0 H1 H2 : Hp} {xt : List Addr} {rm : Rm} {ρ : Ty}
def eIOz {ts : List Ty} {b tio : Ty} {ρ : Type} (i : Mem ts tio) (m : den tio × den b → Option (ρ × den tio)) (G : Gam ts → Option (den b × Gam ts)) : Gam ts → Option (ρ × Gam ts) := fun Γ => (i.get Γ).bind fun _ => (G Γ).bind fun p => (i.get p.2).bind fun x => (m (x, p.1)).bind fun res => some (res.1, i.set (some res.2) p.2)
def eIO1 {ts : List Ty} {tio : Ty} {ρ : Type} (i : Mem ts tio) (m : den tio → Option (ρ × den tio)) : Gam ts → Option (ρ × Gam ts) := fun Γ => (i.get Γ).bind fun x => (m x).bind fun res => some (res.1, i.set (some res.2) Γ)
theorem rG_ext {S0 : Reg} : ∀ {ms : List Md} {ts : List Ty} {Γ : Gam ts} {σ σ' : St} {fp : List Addr} (bs : List Bool), (∀ j : Nat, bs[j]? ≠ some false → σ'[j]? = σ[j]?) → σ'.length = σ.length → rG K H S0 L ms ts (Gam.mask bs Γ) σ fp → rG K H S0 L ms ts (Gam.mask bs Γ) σ' fp
  | ms, ts, Γ, σ, σ', fp, [], h, hl, g => by
    have : σ' = σ := List.ext_getElem? fun j => h j (by simp)
    rw [this]
    exact g
  | [], [], _, σ, σ', _, _, h, hl, g => by
    have e : σ = [] := g.1
    subst e
    have : σ' = [] := List.length_eq_zero_iff.mp (by simpa using hl)
    rw [this]
    exact g
  | m :: ms, t :: ts, Γ, s :: σ, s' :: σ', fp, b :: bs, h, hl, g => by
    obtain ⟨f1, f2, rfl, h1, h2⟩ := g
    refine ⟨f1, f2, rfl, ?_, rG_ext (Γ := Γ.2) bs (fun j hj => by simpa using h (j + 1) (by simpa using hj)) (by simpa using hl) h2⟩
    cases b with
    | false => exact h1
    | true =>
      have : s' = s := by simpa using h 0 (by simp)
      rw [this]
      exact h1
  | m :: ms, t :: ts, Γ, s :: σ, [], fp, b :: bs, h, hl, g => by simp at hl
  | [], _ :: _, _, _, _, _, _ :: _, _, _, g => g.elim
  | _ :: _, [], _, _, _, _, _ :: _, _, _, g => g.elim
  | _ :: _, _ :: _, _, [], _, _, _ :: _, _, _, g => g.elim
theorem Own.ext {bs : List Bool} {σ' : St} (h : ∀ j : Nat, bs[j]? ≠ some false → σ'[j]? = σ[j]?) (hl : σ'.length = σ.length) (o : Own K E L ms ts (Gam.mask bs Γ) σ H xt) : Own K E L ms ts (Gam.mask bs Γ) σ' H xt := by
  obtain ⟨fp, g, nd, gd⟩ := o.ex
  exact ⟨⟨fp, rG_ext bs h hl g, nd, gd⟩, o.fr, o.lr, o.s0, o.iod⟩
end
end VV
namespace VV
open PySem L2
open PyProof.Rows hiding St
section
variable {K : KW} {E : Ent} {ms ms' : List Md} {ts : List Ty} {L L1 : Reg} {Γ Γ1 : Gam ts} {σ σ1 : St} {H H' H0 H1 H2 : Hp} {xt : List Addr} {rm : Rm} {ρ : Ty}
end
end VV
namespace VV
open PySem L2
open PyProof.Rows hiding St
section
variable {K : KW} {E : Ent} {ms ms' : List Md} {ts : List Ty} {L L1 : Reg} {Γ Γ1 : Gam ts} {σ σ1 : St} {H H' H0 H1 H2 : Hp} {xt : List Addr} {rm : Rm} {ρ : Ty}
end
end VV
namespace VV
open PySem L2
open PyProof.Rows hiding St
section
variable {K : KW} {E : Ent} {ms ms' : List Md} {ts : List Ty} {L L1 : Reg} {Γ Γ1 : Gam ts} {σ σ1 : St} {H H' H0 H1 H2 : Hp} {xt : List Addr} {rm : Rm} {ρ : Ty} {S0 : Reg}
theorem rG_pub : ∀ {ts : List Ty} {t : Ty} (i : Mem ts t) {ms : List Md} {Γ : Gam ts} {σ : St} {fp : List Addr}, rG K H S0 L ms ts Γ σ fp → ms[i.ix]? = some .o → ∃ f fa fb, fp = fa ++ (f ++ fb) ∧ rG K H S0 (fun a => L a ∨ a ∈ f) (ms.set i.ix .l) ts Γ σ (fa ++ fb)
  | _ :: _, _, .z, m :: ms, Γ, s :: σ, fp, h, hm => by
    obtain ⟨f1, f2, rfl, h1, h2⟩ := h
    have e : m = .o := by simpa [Mem.ix] using hm
    subst e
    have h2' : rG K H S0 (fun a => L a ∨ a ∈ f1) ms _ Γ.2 σ f2 := rG_mono (Cov.refl H S0) (Cov.of_reg fun a h _ => .inl h) (Stb.refl H) (fun _ _ => rfl) h2
    refine ⟨f1, [], f2, rfl, [], f2, rfl, ?_, h2'⟩
    cases hd : Γ.1 with
    | none => exact rfl
    | some d =>
      rw [hd] at h1
      obtain ⟨v, e, r⟩ := h1
      exact ⟨v, e, rfl, (rO_s (fun a h => .inl h) _).1 v d f1 (fun a ha => .inr ha) r⟩
  | _ :: _, _, .s i, m :: ms, Γ, s :: σ, fp, h, hm => by
    obtain ⟨f1, f2, rfl, h1, h2⟩ := h
    obtain ⟨f, fa, fb, rfl, h3⟩ := rG_pub i h2 (by simpa [Mem.ix] using hm)
    refine ⟨f, f1 ++ fa, fb, by simp, f1, fa ++ fb, by simp, ?_, h3⟩
    exact slot_mono (Cov.refl H S0) (Cov.of_reg fun a h _ => .inl h) (Stb.refl H) (fun _ _ => rfl) h1
  | _ :: _, _, _, [], _, _, _, h, _ => h.elim
  | _ :: _, _, _, _ :: _, _, [], _, h, _ => h.elim
theorem rG_unpub : ∀ {ts : List Ty} {t : Ty} (i : Mem ts t) {ms : List Md} {m' : Md} {Γ : Gam ts} {σ : St} {fp : List Addr}, rG K H S0 L (ms.set i.ix m') ts Γ σ fp → ∃ fp', rG K H S0 L ms ts (i.set none Γ) σ fp' ∧ fp'.Sublist fp
  | _ :: _, _, .z, m :: ms, m', Γ, s :: σ, fp, h => by
    obtain ⟨f1, f2, rfl, h1, h2⟩ := h
    exact ⟨f2, ⟨[], f2, rfl, rfl, h2⟩, List.sublist_append_right _ _⟩
  | _ :: _, _, .s i, m :: ms, m', Γ, s :: σ, fp, h => by
    obtain ⟨f1, f2, rfl, h1, h2⟩ := h
    obtain ⟨f', h3, h4⟩ := rG_unpub i h2
    exact ⟨f1 ++ f', ⟨f1, f', rfl, h1, h3⟩, List.Sublist.append (List.Sublist.refl _) h4⟩
  | _ :: _, _, .z, [], _, _, _, _, h => h.elim
  | _ :: _, _, .s _, [], _, _, _, _, h => h.elim
  | _ :: _, _, .z, _ :: _, _, _, [], _, h => h.elim
  | _ :: _, _, .s _, _ :: _, _, _, [], _, h => h.elim
theorem Own.pub {t : Ty} (i : Mem ts t) (o : Own K E L ms ts Γ σ H xt) (hm : ms[i.ix]? = some .o) : ∃ L1 : Reg, (∀ a, L a → L1 a) ∧ Own K E L1 (ms.set i.ix .l) ts Γ σ H xt := by
  obtain ⟨fp, g, nd, gd⟩ := id o.ex
  obtain ⟨f, fa, fb, rfl, h⟩ := rG_pub i g hm
  have nd1 := List.nodup_append.mp nd
  have nd2 := List.nodup_append.mp nd1.1
  have nd3 := List.nodup_append.mp nd2.2.1
  have hf : ∀ a ∈ f, Good E L H a := fun a ha => gd a (List.mem_append_left _ (List.mem_append_right _ (List.mem_append_left _ ha)))
  have sb : ((fa ++ fb) ++ xt).Sublist ((fa ++ (f ++ fb)) ++ xt) := List.Sublist.append (List.Sublist.append (List.Sublist.refl _) (List.sublist_append_right _ _)) (List.Sublist.refl _)
  refine ⟨fun a => L a ∨ a ∈ f, fun a h => .inl h, ⟨fa ++ fb, h, nd.sublist sb, fun a ha => ?_⟩, o.fr, fun a h => ?_, o.s0, o.iod⟩
  · have q := gd a (sb.subset ha)
    refine ⟨q.new, fun z => ?_, q.ns, q.at_⟩
    rcases z with z | z
    · exact q.nl z
    · rcases List.mem_append.mp ha with w | w
      · rcases List.mem_append.mp w with w | w
        · exact nd2.2.2 a w a (List.mem_append_left _ z) rfl
        · exact nd3.2.2 a z a w rfl
      · exact nd1.2.2 a (List.mem_append_right _ (List.mem_append_left _ z)) a w rfl
  · rcases h with h | h
    · exact o.lr a h
    · exact ⟨(hf a h).new, (hf a h).at_⟩
theorem Own.unpub {t : Ty} (i : Mem ts t) {m' : Md} (o : Own K E L (ms.set i.ix m') ts Γ σ H xt) : Own K E L ms ts (i.set none Γ) σ H xt := by
  obtain ⟨fp, g, nd, gd⟩ := id o.ex
  obtain ⟨fp', h, sb⟩ := rG_unpub i g
  have sb2 : (fp' ++ xt).Sublist (fp ++ xt) := sb.append (List.Sublist.refl _)
  exact ⟨⟨fp', h, nd.sublist sb2, fun a ha => gd a (sb2.subset ha)⟩, o.fr, o.lr, o.s0, o.iod⟩
theorem Ev.unpub {t : Ty} (i : Mem ts t) {L' : Reg} {Γ' : Gam ts} {σ' : St} {H' : Hp} (hm : ms[i.ix]? = some .o) (hs : ∀ a, L a → L1 a) (e : Ev (ms.set i.ix .l) ts L1 Γ σ H L' Γ' σ' H') : Ev ms ts L Γ σ H L' (i.set none Γ') σ' H' := by
  have other : ∀ (n : Nat) (m : Md), ms[n]? = some m → m.fixd = true → (ms.set i.ix .l)[n]? = some m ∧ i.ix ≠ n := fun n m h hf => by
    have ne : i.ix ≠ n := fun z => by
      rw [← z, hm] at h
      cases h
      cases hf
    exact ⟨by rw [List.getElem?_set_ne ne]; exact h, ne⟩
  refine ⟨fun a h => e.sub a (hs a h), fun a o h q => e.cell a o (hs a h) q, e.stb, fun u j m h hh => ?_, fun n m h hf => ?_⟩
  · obtain ⟨h1, h2⟩ := other j.ix m h (hard_fixd hh)
    rw [Mem.get_set_ne i j none Γ' h2]
    exact e.keep.1 u j m h1 hh
  · exact e.keep.2 n m (other n m h hf).1 hf
def Fl.on {τ ρ : Type} (f : τ → τ) : Fl τ ρ → Fl τ ρ
  | .nx γ => .nx (f γ)
  | .bk γ => .bk (f γ)
  | .ct γ => .ct (f γ)
  | .rt r γ => .rt r (f γ)
def sPub {ρ : Type} {ts : List Ty} {t : Ty} (i : Mem ts t) (F : Gam ts → Option (Fl (Gam ts) ρ)) : Gam ts → Option (Fl (Gam ts) ρ) := fun Γ => (F Γ).bind fun f => some (f.on (i.set none))
theorem rs_pub {t : Ty} (i : Mem ts t) {st : TS} {F : Gam ts → Option (Fl (Gam ts) (den ρ))} (h : RS K ms' ts st rm ρ F) (hm : ms[i.ix]? = some .o := by rfl) (hM : ms' = ms.set i.ix .l := by rfl) : RS K ms ts st rm ρ (sPub i F) := fun E L Γ σ H D f o e p => by
  obtain ⟨f0, e1, e2⟩ := bind_some e
  cases e2
  subst hM
  obtain ⟨L1, hs, o1⟩ := o.pub i hm
  refine h E L1 Γ σ H D f0 o1 e1 ?_
  cases f0 with
  | nx Γ' => exact fun L' σ' H' o' e' => p L' σ' H' (o'.unpub i) (e'.unpub i hm hs)
  | bk Γ' => exact fun L' σ' H' o' e' => p L' σ' H' (o'.unpub i) (e'.unpub i hm hs)
  | ct Γ' => exact fun L' σ' H' o' e' => p L' σ' H' (o'.unpub i) (e'.unpub i hm hs)
  | rt d Γ' => exact fun L' σ' H' v xt o' e' r => p L' σ' H' v xt (o'.unpub i) (e'.unpub i hm hs) r
end
end VV
namespace VV
open PySem L2
open PyProof.Rows hiding St
section
variable {K : KW} {E : Ent} {ms ms' : List Md} {ts : List Ty} {L L1 : Reg} {Γ Γ1 : Gam ts} {σ σ1 : St} {H H' H0 H1 H2 : Hp} {xt : List Addr} {rm : Rm} {ρ : Ty}
end
end VV
namespace VV
open PySem L2
open PyProof.Rows hiding St
section
variable {K : KW} {E : Ent} {ms ms' : List Md} {ts : List Ty} {L L1 : Reg} {Γ Γ1 : Gam ts} {σ σ1 : St} {H H' H0 H1 H2 : Hp} {xt : List Addr} {rm : Rm} {ρ : Ty}
def sLputX {ρ : Type} {ts : List Ty} {t : Ty} (i : Mem ts (.list t)) (F : Gam ts → Option (den t × Gam ts)) (G : Gam ts → Option (Int × Gam ts)) : Gam ts → Option (Fl (Gam ts) ρ) := fun Γ => (F Γ).bind fun p => (i.get p.2).bind fun _ => (G p.2).bind fun q => (i.get q.2).bind fun xs => (ixN xs.length q.1).bind fun j => some (.nx (i.set (some (xs.set j p.1)) q.2))
def eXNot {G : Type} (A : G → Option (Bool × G)) : G → Option (Bool × G) := fun Γ => (A Γ).bind fun p => some (!p.1, p.2)
end
end VV
namespace VV
open PySem L2
open PyProof.Rows hiding St
section
variable {K : KW} {E : Ent} {ms ms' : List Md} {ts : List Ty} {L L1 : Reg} {Γ Γ1 : Gam ts} {σ σ1 : St} {H H' H0 H1 H2 : Hp} {xt : List Addr} {rm : Rm} {ρ : Ty}
def eIfE {G α : Type} (c : G → Option Bool) (A B : G → Option (α × G)) : G → Option (α × G) := fun Γ => (c Γ).bind fun b => if b = true then A Γ else B Γ
end
end VV
namespace VV
open PySem L2
section
variable {K : KW} {ms : List Md} {ts : List Ty} {H : Hp}
end
end VV
namespace VV
open PySem L2
open PyProof.Rows hiding St
section
variable {K : KW} {E : Ent} {ms ms' : List Md} {ts : List Ty} {L L1 : Reg} {Γ Γ1 : Gam ts} {σ σ1 : St} {H H' H0 H1 H2 : Hp} {xt : List Addr} {rm : Rm} {ρ : Ty}
def sDputX {ρ : Type} {ts : List Ty} {k t : Ty} (i : Mem ts (.dict k t)) (F : Gam ts → Option (den t × Gam ts)) (G : Gam ts → Option (den k × Gam ts)) : Gam ts → Option (Fl (Gam ts) ρ) := fun Γ => (F Γ).bind fun p => (i.get p.2).bind fun _ => (G p.2).bind fun q => (i.get q.2).bind fun d => if d.length < sizeLine then some (.nx (i.set (some (fPutK d q.1 p.1)) q.2)) else none
def ePop0 {ts : List Ty} {t : Ty} (i : Mem ts (.list t)) : Gam ts → Option (den t × Gam ts) := fun Γ => (i.get Γ).bind fun xs => (List.head? xs).bind fun y => some (y, i.set (some xs.tail) Γ)
end
end VV
namespace VV
open PySem L2
open PyProof.Rows hiding St
section
variable {K : KW} {E : Ent} {ms ms' : List Md} {ts : List Ty} {L L1 : Reg} {Γ Γ1 : Gam ts} {σ σ1 : St} {H H' H0 H1 H2 : Hp} {xt : List Addr} {rm : Rm} {ρ : Ty}
end
end VV
namespace VV
open PySem L2
open PyProof.Rows hiding St
section
variable {K : KW} {E : Ent} {ms ms' : List Md} {ts : List Ty} {L L1 : Reg} {Γ Γ1 : Gam ts} {σ σ1 : St} {H H' H0 H1 H2 : Hp} {xt : List Addr} {rm : Rm} {ρ : Ty}
theorem rp_projO {b u : Ty} {ta : TE} {F : Gam ts → Option (den b)} (r : RIx b (.own u)) (n : Nat) {i : Int} (h : RP K ms ts ta .o (.tup b) F) (hn : r.ix = n := by rfl) (hi : i = (n : Int) := by rfl) : RP K ms ts (tOp (rIxT K) ta (tC (.int i))) .o u (eProj (t := .own u) r F) := fun E L Γ σ H xt Q d o e q => by
  obtain ⟨a, ea, e⟩ := bind_some e
  cases e
  subst hn
  subst hi
  refine h E L Γ σ H xt _ a o ea fun v H1 s1 r1 => ?_
  obtain ⟨f, Lr, h1, h2, h3, h4, h5⟩ := r1
  obtain ⟨p, vs, rfl, hl, hk⟩ := h1
  obtain ⟨w, gx, gj, gy, hw, rfl, hr, _⟩ := row_own r hk
  exact ⟨p, vs, _, w, rfl, rfl, .of hl, atI_nat hw, q w H1 s1 ⟨gj, Lr, hr, (List.nodup_append.mp (List.nodup_append.mp h2).2.1).1, fun c hc => h3 c (List.mem_append_right _ (List.mem_append_left _ hc)), h4, fun c hc => h5 c (List.mem_append_right _ (List.mem_append_left _ hc))⟩⟩
end
end VV
namespace L2
open PySem PySem.Spec PyProof.Rows
end L2
namespace VV
open PySem L2
open PyProof.Rows hiding St
section
variable {K : KW} {ms : List Md} {ts : List Ty} {H : Hp}
end
end VV
namespace L2
open PySem PySem.Spec PyProof.Rows
end L2
namespace VV
open PySem L2
section
variable {K : KW} {ms : List Md} {ts : List Ty} {H : Hp}
end
end VV
namespace VV
open PySem PySem.Spec L2
open PyProof.Rows hiding St
section
variable {K : KW} {E : Ent} {ms : List Md} {ts : List Ty} {L : Reg} {Γ : Gam ts} {σ : St} {H H' : Hp} {xt : List Addr} {rm : Rm} {ρ : Ty}
end
end VV
namespace VV
open PySem L2
open PyProof.Rows hiding St
section
variable {K : KW} {E : Ent} {ms ms' : List Md} {ts : List Ty} {L L1 : Reg} {Γ Γ1 : Gam ts} {σ σ1 : St} {H H' H0 H1 H2 : Hp} {xt : List Addr} {rm : Rm} {ρ : Ty}
def sAlApp {ρ : Type} {ts : List Ty} {k u : Ty} (i : Mem ts (.dict k (.own (.list u)))) (G : Gam ts → Option (den k × List (den k × List (den u)))) (F : Gam ts → Option (den u)) : Gam ts → Option (Fl (Gam ts) ρ) := fun Γ => (G Γ).bind fun q => (fGetK (β := List (den u)) q.2 q.1).bind fun xs => (F (i.set (some q.2) Γ)).bind fun y => if xs.length < sizeLine then some (.nx (i.set (some (fUpdK (β := List (den u)) q.2 q.1 (xs ++ [y]))) (i.set (some q.2) Γ))) else none
end
end VV
namespace VV
open PySem L2
open PyProof.Rows hiding St
section
variable {K : KW} {E : Ent} {ms ms' : List Md} {ts : List Ty} {L L' : Reg} {Γ Γ' : Gam ts} {σ σ' : St} {H H' : Hp} {xt : List Addr} {rm : Rm} {ρ : Ty} {S0 : Reg}
def okScope : List Md → List Md → List Bool → Bool
  | [], [], [] => true
  | m :: ms, m' :: ms', b :: bs => (if b = true then m == m' else (!m.fixd && !m'.fixd)) && okScope ms ms' bs
  | _, _, _ => false
theorem rG_scope : ∀ {ms ms' : List Md} {ts : List Ty} {bs : List Bool} {Γ : Gam ts} {σ : St} {fp : List Addr}, okScope ms ms' bs = true → rG K H S0 L ms ts (Gam.mask bs Γ) σ fp → rG K H S0 L ms' ts (Gam.mask bs Γ) σ fp
  | [], [], ts, [], Γ, σ, fp, _, h => h
  | m :: ms, m' :: ms', [], b :: bs, Γ, σ, fp, _, h => h.elim
  | m :: ms, m' :: ms', t :: ts, b :: bs, Γ, [], fp, _, h => h.elim
  | m :: ms, m' :: ms', t :: ts, b :: bs, Γ, s :: σ, fp, hk, h => by
    obtain ⟨f1, f2, rfl, h1, h2⟩ := h
    simp only [okScope, Bool.and_eq_true] at hk
    refine ⟨f1, f2, rfl, ?_, rG_scope hk.2 h2⟩
    have h1 : slot K H S0 L m t (if b = true then Γ.1 else none) s f1 := h1
    show slot K H S0 L m' t (if b = true then Γ.1 else none) s f1
    cases b with
    | true =>
      have e : m = m' := by simpa using hk.1
      rw [← e]
      exact h1
    | false => exact h1
  | [], _ :: _, _, _, _, _, _, hk, _ => by simp [okScope] at hk
  | _ :: _, [], _, _, _, _, _, hk, _ => by simp [okScope] at hk
  | _ :: _, _ :: _, _, [], _, _, _, hk, _ => by simp [okScope] at hk
  | [], [], _, _ :: _, _, _, _, hk, _ => by simp [okScope] at hk
theorem Own.scope {bs : List Bool} (hk : okScope ms ms' bs = true) (o : Own K E L ms ts (Gam.mask bs Γ) σ H xt) : Own K E L ms' ts (Gam.mask bs Γ) σ H xt := by
  obtain ⟨fp, g, nd, gd⟩ := o.ex
  exact ⟨⟨fp, rG_scope hk g, nd, gd⟩, o.fr, o.lr, o.s0, o.iod⟩
theorem scope_get : ∀ {ms ms' : List Md} {bs : List Bool} {n : Nat} {m : Md}, okScope ms ms' bs = true → ms[n]? = some m → m.fixd = true → ms'[n]? = some m
  | m :: ms, m' :: ms', b :: bs, 0, x, hk, h, hh => by
    simp only [okScope, Bool.and_eq_true] at hk
    have e : m = x := by simpa using h
    subst e
    cases b with
    | true =>
      have e2 : m = m' := by simpa using hk.1
      rw [← e2]
      rfl
    | false =>
      have h1 := hk.1
      simp only [Bool.false_eq_true, if_false, Bool.and_eq_true, Bool.not_eq_true'] at h1
      rw [hh] at h1
      cases h1.1
  | m :: ms, m' :: ms', b :: bs, n + 1, x, hk, h, hh => by
    simp only [okScope, Bool.and_eq_true] at hk
    simpa using scope_get (n := n) hk.2 (by simpa using h) hh
  | [], _, _, _, _, _, h, _ => by simp at h
  | _ :: _, [], _, _, _, hk, _, _ => by simp [okScope] at hk
  | _ :: _, _ :: _, [], _, _, hk, _, _ => by simp [okScope] at hk
def flMask {ts : List Ty} {ρ : Type} (bs : List Bool) : Fl (Gam ts) ρ → Fl (Gam ts) ρ
  | .nx Γ => .nx (Gam.mask bs Γ)
  | .bk Γ => .bk (Gam.mask bs Γ)
  | .ct Γ => .ct (Gam.mask bs Γ)
  | .rt d Γ => .rt d (Gam.mask bs Γ)
def sScope {ts : List Ty} {ρ : Type} (bs : List Bool) (F : Gam ts → Option (Fl (Gam ts) ρ)) : Gam ts → Option (Fl (Gam ts) ρ) := fun Γ => (F (Gam.mask bs Γ)).map (flMask bs)
theorem Ev.scope {bs : List Bool} (hk : okScope ms ms' bs = true) (hm : okMask ms bs = true) (e : Ev ms' ts L (Gam.mask bs Γ) σ H L' Γ' σ' H') : Ev ms ts L Γ σ H L' (Gam.mask bs Γ') σ' H' :=
  ⟨e.sub, e.cell, e.stb, fun t i m h hh => by
    rw [mask_get i ms bs Γ' hm ⟨m, h, hh⟩, e.keep.1 t i m (scope_get hk h (hard_fixd hh)) hh, mask_get i ms bs Γ hm ⟨m, h, hh⟩], fun n m h hh => e.keep.2 n m (scope_get hk h hh) hh⟩
end
end VV
namespace VV
open PySem L2
open PyProof.Rows hiding St
section
variable {K : KW} {E : Ent} {ms ms' : List Md} {ts : List Ty} {L L1 : Reg} {Γ Γ1 : Gam ts} {σ σ1 : St} {H H' H0 H1 H2 : Hp} {xt : List Addr} {rm : Rm} {ρ : Ty}
def eScope {ts : List Ty} {α : Type} (bs : List Bool) (F : Gam ts → Option α) : Gam ts → Option α := fun Γ => F (Gam.mask bs Γ)
end
end VV
namespace VV
open PySem L2
open PyProof.Rows hiding St
section
variable {K : KW} {E : Ent} {ms ms' : List Md} {ts : List Ty} {L L1 : Reg} {Γ Γ1 : Gam ts} {σ σ1 : St} {H H' H0 H1 H2 : Hp} {xt : List Addr} {rm : Rm} {ρ : Ty}
end
end VV
namespace VV
open PySem L2
open PyProof.Rows hiding St
section
variable {K : KW} {E : Ent} {ms ms' : List Md} {ts : List Ty} {L L1 : Reg} {Γ Γ1 : Gam ts} {σ σ1 : St} {H H' H0 H1 H2 : Hp} {xt : List Addr} {rm : Rm} {ρ : Ty}
def endIO2 {ts : List Ty} {t1 t2 : Ty} {ρ : Type} (i1 : Mem ts t1) (i2 : Mem ts t2) (fall : Option ρ) : Option (Fl (Gam ts) ρ) → Option (ρ × (den t1 × den t2))
  | some (.rt r Γ) => (i1.get Γ).bind fun x => (i2.get Γ).map fun y => (r, x, y)
  | some (.nx Γ) => fall.bind fun r => (i1.get Γ).bind fun x => (i2.get Γ).map fun y => (r, x, y)
  | _ => none
def eIO2 {ts : List Ty} {t1 b t2 : Ty} {ρ : Type} (i1 : Mem ts t1) (i2 : Mem ts t2) (m : den t1 × den b → Option (ρ × (den t1 × den t2))) (F : Gam ts → Option (den b)) : Gam ts → Option (ρ × Gam ts) := fun Γ => (i1.get Γ).bind fun x => (F Γ).bind fun d => (m (x, d)).bind fun res => some (res.1, i1.set (some res.2.1) (i2.set (some res.2.2) Γ))
def eIO2t {ts : List Ty} {t1 b t2 : Ty} {ρ : Type} (i1 : Mem ts t1) (m : den t1 × den b → Option (ρ × (den t1 × den t2))) (F : Gam ts → Option (den b)) : Gam ts → Option (ρ × Gam ts) := fun Γ => (i1.get Γ).bind fun x => (F Γ).bind fun d => (m (x, d)).bind fun res => some (res.1, i1.set (some res.2.1) Γ)
end
end VV
namespace VV
open PySem L2
section
variable {K : KW} {E : Ent} {ms : List Md} {ts : List Ty} {L : Reg} {H : Hp} {rm : Rm} {ρ : Ty}
end
end VV
namespace VV
open PySem L2
open PyProof.Rows hiding St
section
variable {K : KW} {ms : List Md} {ts : List Ty} {rm : Rm} {ρ : Ty}
theorem DAt.same {k : Ty} {H H' : Hp} {a : Addr} {x : den k} {v : V} (s : Same H H') (h : DAt H a x v) : DAt H' a x v := by
  rcases h with ⟨q, kvs, kk, h1, h2⟩ | ⟨q, kvs, kk, h1, h2⟩
  · exact .inl ⟨q, kvs, kk, s _ _ h1, h2⟩
  · exact .inr ⟨q, kvs, kk, s _ _ h1, h2⟩
end
end VV
namespace VV
open PySem L2
open PySem.W (dataLe)
section
variable {K : KW} {E : Ent} {ms : List Md} {ts : List Ty} {L : Reg} {H : Hp} {rm : Rm} {ρ : Ty}
end
end VV
namespace VV
open PySem L2
section
variable {K : KW} {ms : List Md} {ts : List Ty}
end
end VV
namespace VV
open PySem L2
section
variable {K : KW} {ms : List Md} {ts : List Ty}
end
end VV
namespace VV
open PySem L2
section
variable {K : KW} {ms : List Md} {ts : List Ty} {rm : Rm} {ρ : Ty}
end
end VV
namespace VV
open PySem L2
section
variable {K : KW} {ms : List Md} {ts : List Ty}
end
end VV
namespace VV
open PySem L2
open PyProof.Rows hiding St
section
variable {K : KW} {E : Ent} {ms ms' : List Md} {ts : List Ty} {L L1 : Reg} {Γ Γ1 : Gam ts} {σ σ1 : St} {H H' H0 H1 H2 : Hp} {xt : List Addr} {rm : Rm} {ρ : Ty} {S0 : Reg}
end
end VV
namespace VV
open PySem L2
open PyProof.Rows hiding St
section
variable {K : KW} {E : Ent} {ms ms' : List Md} {ts : List Ty} {L L1 : Reg} {Γ Γ1 : Gam ts} {σ σ1 : St} {H H' H0 H1 H2 : Hp} {xt : List Addr} {rm : Rm} {ρ : Ty} {S0 : Reg}
end
end VV
namespace VV
open PySem L2
open PyProof.Rows hiding St
section
variable {K : KW} {ms : List Md} {ts : List Ty} {rm : Rm} {ρ : Ty}
def inScope (sc scope : Scope) : Scope := { scope with names := scope.names.map fun (n, k) => if k == NameKind.free && sc.kind == .function && sc.names.lookup n == some .cell then (n, NameKind.cell) else (n, k) }
theorem blkOk_in {N : List Str} {sc : Scope} {X : Cx} {s : Shared} {H : Hp} {C : Addr} {cl : List (Str × Addr)} {fp : List Addr} {scope scope2 : Scope} {own : List (Str × Nat)} (h : blkC N (inScope sc scope) scope2 own = true) (hs : X.env.scope = sc := by rfl) : BlkOk N (X.blk s H scope (compEnvC scope cl C X.env) fp).env.scope scope2 own := by
  subst hs
  exact blkOk_by h
theorem rs_augAdd (i : Mem ts .int) {n : Nat} {te : TE} {F : Gam ts → Option (den .int)} (h : RP K ms ts te .b .int F) (hm : ms[i.ix]? = some .w := by rfl) (hn : i.ix = n := by rfl) : RS K ms ts (tAug n te (ipI fun i j => i + j)) rm ρ (sSet i (e2 fAdd (eV (t := .int) i) F)) := by
  subst hn
  exact rs_set (m := .w) i (rp_op (m := .w) (m1 := .b) (m2 := .b) v_add (rp_frz .b (rp_varw i hm)) h) hm
end
end VV
namespace VV
open PySem L2
open PyProof.Rows hiding St
section
variable {K : KW} {E : Ent} {ms ms' : List Md} {ts : List Ty} {L L1 : Reg} {Γ Γ1 : Gam ts} {σ σ1 : St} {H H' H0 H1 H2 : Hp} {xt : List Addr} {rm : Rm} {ρ : Ty} {S0 : Reg}
def fIx : List Str → Str → Option Nat
  | [], _ => none
  | k :: ks, f => if f == k then some 0 else (fIx ks f).map (· + 1)
theorem fIx_look {f : Str} {v : V} : ∀ {fs : List (Str × V)} {j : Nat}, fIx (fs.map (·.1)) f = some j → (fs.map (·.2))[j]? = some v → fs.lookup f = some v
  | [], j, h, _ => by cases h
  | q :: fs, j, h, hv => by
    obtain ⟨k, w⟩ := q
    rw [List.map_cons] at h hv
    unfold fIx at h
    rw [List.lookup_cons]
    by_cases e : (f == k) = true
    · rw [if_pos e] at h
      cases h
      rw [e]
      simpa using hv
    · rw [if_neg e] at h
      obtain ⟨j', h1, rfl⟩ := Option.map_eq_some_iff.mp h
      have e' : (f == k) = false := by simpa using e
      rw [e']
      exact fIx_look h1 (by simpa using hv)
structure ClsI (K : PySem.W.Frag) (C C' : Addr) : Prop where
  ns : ClsN K (clsNm C) C'
  cls : Cls K C'
theorem ins_full {C : Addr} {ks : List Str} {b : Ty} {v : V} {d : den b} {f : List Addr} {fn : Str} {j : Nat} (hk : fIx ks fn = some j) (h : (rO K H L (.ins C ks b)).1 v d f) :
    ks ≠ [] ∧ ∃ C' a dx fs g, v = .ref a ∧ f = a :: dx :: g ∧ ClsN K (clsNm C) C' ∧ H a = some (.ins C' dx fs) ∧ H dx = some (.own a) ∧ fs.map (·.1) = ks ∧ (rO K H L b).2 (fs.map (·.2)) d g := by
  rcases h with ⟨h, _⟩ | h
  · subst h
    cases hk
  · exact h
def sFApp {ρ : Type} {ts : List Ty} {C : Addr} {ks : List Str} {b u : Ty} (i : Mem ts (.ins C ks b)) (r : RIx b (.own (.list u))) (F : Gam ts → Option (den u)) : Gam ts → Option (Fl (Gam ts) ρ) := fun Γ => (i.get Γ).bind fun (d : den b) => (F Γ).bind fun y => if List.length (r.get d : List (den u)) < sizeLine then some (.nx (i.set (some (r.put d ((r.get d : List (den u)) ++ [y]))) Γ)) else none
theorem rs_fapp {C C' : Addr} {ks : List Str} {b u : Ty} (i : Mem ts (.ins C ks b)) (r : RIx b (.own (.list u))) {n : Nat} {fn : Str} {m : Em} {te : TE} {F : Gam ts → Option (den u)} (hc : ClsI K C C') (ha : NoAttr K C' fn) (h : RP K ms ts te m u F) (hf : u.frz = true := by rfl) {mo : Md} (hm : ms[i.ix]? = some mo := by rfl) (ho : mo.own = true := by rfl) (hn : i.ix = n := by rfl) (hk : fIx ks fn = some r.ix := by rfl) :
    RS K ms ts (tDrop (tBM K "list" rAppend (tFld K (tVar n) fn) (tCons te tNil))) rm ρ (sFApp i r F) := fun E L Γ σ H D f o e p => by
  subst hn
  obtain ⟨dd, e1, e⟩ := bind_some e
  obtain ⟨y, e3, e⟩ := bind_some e
  split at e
  · rename_i hz
    cases e
    obtain ⟨v0, f0, q1, hr, nd, gd, go⟩ := o.chg i hm ho e1
    obtain ⟨hne, C1, a, dx, fs, g, rfl, rfl, hcn, hl, hx, hks, hrow⟩ := ins_full hk hr
    cases hcn.inj hc.ns
    obtain ⟨v, gx, gj, gy, hv, rfl, hin, fin⟩ := row_own r hrow
    obtain ⟨c, ws, gc, rfl, rfl, hcc, hkids⟩ := hin
    have hlook : fs.lookup fn = some (.ref c) := fIx_look (by rw [hks]; exact hk) hv
    refine ⟨_, q1, a, C', dx, fs, _, rfl, hl, hc.cls, ha, hlook, .inl ⟨rfl, ws, .of hcc⟩, h E L Γ σ H [] _ y o e3 fun w H1 s1 r1 => ?_⟩
    have hs : F2 (rS K H1 (fun _ => True) u).1 ws _ := (kids_s hkids).imp (rS_mono (Cov.of_same s1 fun _ h _ => h) (Stb.of_same s1) u).1
    refine ⟨c, ws, w, rfl, rfl, s1 _ _ hcc, by rw [hs.length]; exact hz, ?_⟩
    have cin0 : c ∈ gx ++ ((c :: gc) ++ gy) := List.mem_append_right _ (List.mem_append_left _ List.mem_cons_self)
    have cin : c ∈ a :: dx :: (gx ++ ((c :: gc) ++ gy)) := List.mem_cons_of_mem _ (List.mem_cons_of_mem _ cin0)
    have nda := List.nodup_cons.mp nd
    have ndd := List.nodup_cons.mp nda.2
    have nac : a ≠ c := fun z => nda.1 (List.mem_cons_of_mem _ (z ▸ cin0))
    have ndc : dx ≠ c := fun z => ndd.1 (z ▸ cin0)
    have st : Stb H1 (upd H1 c (.lst (ws ++ [w]))) := Stb.upd (s1 _ _ hcc) rfl
    have stH : Stb H (upd H1 c (.lst (ws ++ [w]))) := (Stb.of_same s1).trans st
    have nlc := (gd c cin).nl
    have nd1 := List.nodup_append.mp ndd.2
    have nd2 := List.nodup_append.mp nd1.2.1
    have nd3 := List.nodup_cons.mp nd2.1
    have cov : Cov H (upd H1 c (.lst (ws ++ [w]))) L L := fun b q hb z => by
      have ne : b ≠ c := fun z => nlc (z ▸ hb)
      refine ⟨hb, ?_⟩
      rw [upd_ne ne, same_at s1 (o.lr b hb).2]
      exact z
    have hrow2 := fin (upd H1 c (.lst (ws ++ [w]))) ((r.get dd : List (den u)) ++ [y]) [c] cov stH (fun e he => by
      have hne : e ≠ c := fun z => by
        subst z
        rcases List.mem_append.mp he with h | h
        · exact nd1.2.2 e h e (List.mem_append_left _ List.mem_cons_self) rfl
        · exact nd2.2.2 e List.mem_cons_self e h rfl
      have hat : (H e).isSome = true := (gd e (List.mem_cons_of_mem _ (List.mem_cons_of_mem _ (by
        rcases List.mem_append.mp he with h | h
        · exact List.mem_append_left _ h
        · exact List.mem_append_right _ (List.mem_append_right _ h))))).at_
      rw [upd_ne hne, same_at s1 hat]) ⟨c, _, [], rfl, rfl, upd_same, kids_frz hf ((F2.snoc hs r1.b).imp fun v d x => rS_stb (R' := fun _ => True) hf st x)⟩
    have hsub : (a :: dx :: (gx ++ ([c] ++ gy))).Sublist (a :: dx :: (gx ++ ((c :: gc) ++ gy))) := List.Sublist.cons₂ _ (List.Sublist.cons₂ _ (List.Sublist.append (List.Sublist.refl _) (List.Sublist.append (by simp) (List.Sublist.refl _))))
    have hrow3 := (rO_mono (L := L) (L' := fun b => L b ∨ False) (Cov.of_reg fun _ h _ => .inl h) (Stb.refl _) b).2 _ _ _ (fun _ _ => rfl) hrow2
    obtain ⟨o', ev⟩ := go H1 (upd H1 c (.lst (ws ++ [w]))) [] (fun _ => False) (r.put dd ((r.get dd : List (den u)) ++ [y])) (a :: dx :: (gx ++ ([c] ++ gy))) s1 (fun a h => by simp at h) (fun a h => h.elim) (fun a h => by simp at h) (upd_oth cin) upd_up st
      (.inr ⟨hne, C', a, dx, fs, _, rfl, rfl, hcn, by rw [upd_ne nac]; exact s1 _ _ hl, by rw [upd_ne ndc]; exact s1 _ _ hx, hks, hrow3⟩) (nd.sublist hsub) (fun b hb => .inl (hsub.subset hb))
    exact p _ σ _ o' ev
  · cases e
def eFld {C : Addr} {ks : List Str} {b t : Ty} (i : Mem ts (.ins C ks b)) (r : RIx b t) : Gam ts → Option (den t) := fun Γ => (i.get Γ).bind fun (d : den b) => some (r.get d)
theorem rp_fld {C C' : Addr} {ks : List Str} {b u : Ty} (i : Mem ts (.ins C ks b)) (r : RIx b (.own u)) {n : Nat} {fn : Str} (hc : ClsI K C C') (ha : NoAttr K C' fn) {mo : Md} (hm : ms[i.ix]? = some mo := by rfl) (ho : (mo == .o || mo == .r) = true := by rfl) (hn : i.ix = n := by rfl) (hk : fIx ks fn = some r.ix := by rfl) :
    RP K ms ts (tFld K (tVar n) fn) .b (.own u) (eFld i r) := fun E L Γ σ H xt Q d o e q => by
  obtain ⟨d0, e1, e⟩ := bind_some e
  cases e
  subst hn
  obtain ⟨v, f, h1, h2, _⟩ := o.look i hm e1
  have h2 : (rO K H L (.ins C ks b)).1 v d0 f := by
    cases mo with
    | o => exact h2
    | r => exact h2
    | _ => cases ho
  obtain ⟨hne, C1, a, dx, fs, g, rfl, rfl, hcn, hl, hx, hks, hrow⟩ := ins_full hk h2
  cases hcn.inj hc.ns
  obtain ⟨w, gx, gj, gy, hv, rfl, hin, _⟩ := row_own r hrow
  refine ⟨_, h1, a, C', dx, fs, w, rfl, hl, hc.cls, ha, fIx_look (by rw [hks]; exact hk) hv, q w H (Same.refl H) ?_⟩
  exact (rO_s (fun _ _ => True.intro) u).1 w _ gj (fun _ _ => True.intro) hin
end
end VV
namespace VV
open PySem L2
open PyProof.Rows hiding St
section
variable {K : KW} {ms : List Md} {ts : List Ty} {H : Hp}
end
end VV
namespace VV
open PySem L2
open PyProof.Rows hiding St
section
variable {K : KW} {ms : List Md} {ts : List Ty} {H : Hp}
end
end VV
namespace VV
open PySem PySem.Spec L2
open PyProof.Rows hiding St
abbrev veMro : List Value := [.type "ValueError", .type "Exception", .type "BaseException", .type "object"]
structure ErrC (K : PySem.W.Frag) (mg : Str → Option Value) (nm : Str) (C : Addr) : Prop where
  ns : ClsN K nm C
  mg : mg nm = some (.ref C)
  kp : PySem.W.keepIn K (.ref C) = true
  ex : PySem.W.excIn K C veMro "ValueError.__new__" = true
  ty : PySem.W.typeIn K (.ref C) = some (.type "type")
  ec : ExcC K C
def SubN (K : PySem.W.Frag) (d T : Str) (b : Bool) : Prop := ∃ D C, ClsN K d D ∧ ClsN K T C ∧ PySem.W.subIn K (.ref D) (.ref C) = some b ∧ (b = true ∨ D ≠ C)
def SubB (K : PySem.W.Frag) (d : Str) (T : String) (b : Bool) : Prop := ∃ D, ClsN K d D ∧ PySem.W.subIn K (.ref D) (.type T) = some b
theorem kit_ref {K : PySem.W.Frag} {D C : Addr} {b : Bool} (hd : PySem.W.hasDictIn K C = true) (ht : PySem.W.typeIn K (.ref C) = some (.type "type")) (h : PySem.W.subIn K (.ref D) (.ref C) = some b) (hb : b = true ∨ D ≠ C) : PySem.W.kitOne K (.ref D) (.ref C) = some b := by
  obtain ⟨cd, hc, _⟩ := PySem.W.any_some hd
  have e2 : ((PySem.W.clsIn K C).isSome && PySem.W.typeIn K (.ref C) == some (.type "type")) = true := by rw [hc, ht] <;> rfl
  unfold PySem.W.kitOne
  by_cases e : (Value.ref D == Value.ref C) = true
  · rw [if_pos e]
    rcases hb with rfl | hb
    · rfl
    · exact absurd (Value.ref.inj (beq_iff_eq.mp e)) hb
  · rw [if_neg e]
    show (if ((PySem.W.clsIn K C).isSome && PySem.W.typeIn K (.ref C) == some (.type "type")) = true then PySem.W.subIn K (.ref D) (.ref C) else none) = some b
    rw [if_pos e2]
    exact h
theorem kit_none {K : PySem.W.Frag} {C : Addr} (hd : PySem.W.hasDictIn K C = true) (ht : PySem.W.typeIn K (.ref C) = some (.type "type")) (h : PySem.W.subIn K (.type "NoneType") (.ref C) = some false) : PySem.W.kitOne K (.type "NoneType") (.ref C) = some false := by
  obtain ⟨cd, hc, _⟩ := PySem.W.any_some hd
  have e2 : ((PySem.W.clsIn K C).isSome && PySem.W.typeIn K (.ref C) == some (.type "type")) = true := by rw [hc, ht] <;> rfl
  unfold PySem.W.kitOne
  have e : ¬ (Value.type "NoneType" == Value.ref C) = true := fun z => nomatch (beq_iff_eq.mp z)
  rw [if_neg e]
  show (if ((PySem.W.clsIn K C).isSome && PySem.W.typeIn K (.ref C) == some (.type "type")) = true then PySem.W.subIn K (.type "NoneType") (.ref C) else none) = some false
  rw [if_pos e2]
  exact h
theorem kit_b {K : PySem.W.Frag} {D : Addr} {T : String} {b : Bool} (hm : PySem.W.kitMeta T = true) (h : PySem.W.subIn K (.ref D) (.type T) = some b) : PySem.W.kitOne K (.ref D) (.type T) = some b := by
  unfold PySem.W.kitOne
  have e : ¬ (Value.ref D == Value.type T) = true := fun z => nomatch (beq_iff_eq.mp z)
  rw [if_neg e]
  show (if PySem.W.kitMeta T = true then PySem.W.subIn K (.ref D) (.type T) else none) = some b
  rw [if_pos hm]
  exact h
abbrev ETab := List (Str × Bool)
def ETab.at_ (t : ETab) (nm : Str) : Option Bool := List.lookup nm t
structure IsTab (K : KW) (v : V) (t : ETab) : Prop where
  ex : ∃ u, ClsV v u ∧ PySem.W.kitOne K (.type "NoneType") u = some false ∧ ∀ nm b, t.at_ nm = some b → ∀ D, ClsN K nm D → ExcC K D ∧ PySem.W.kitOne K (.ref D) u = some b
structure ExTab (K : KW) (C : Addr) (t : ETab) : Prop where
  ex : ∀ nm b, t.at_ nm = some b → ∀ D, ClsN K nm D → PySem.W.exmOne K (.ref D) (.ref C) = some b
section
variable {K : KW} {mg : Str → Option Value}
theorem etab_cons {nm d : Str} {c b : Bool} {t : ETab} (h : ETab.at_ ((nm, c) :: t) d = some b) : (d = nm ∧ b = c) ∨ ETab.at_ t d = some b := by
  unfold ETab.at_ at h ⊢
  rw [List.lookup_cons] at h
  split at h
  · rename_i e
    cases h
    exact .inl ⟨by simpa using e, rfl⟩
  · exact .inr h
theorem istab_nil {nm : Str} {C : Addr} (hC : ErrC K mg nm C) (h : PySem.W.subIn K (.type "NoneType") (.ref C) = some false) : IsTab K (.ref C) [] :=
  ⟨.ref C, .own C, kit_none hC.ec.hd hC.ty h, fun nm b h => by cases h⟩
theorem istab_cons {nT : Str} {C : Addr} (hC : ErrC K mg nT C) {nm : Str} {b : Bool} {t : ETab} (r : IsTab K (.ref C) t) (hD : ∃ D, ErrC K mg nm D) (s : SubN K nm nT b) : IsTab K (.ref C) ((nm, b) :: t) := by
  obtain ⟨u, h1, h2, h3⟩ := r.ex
  have eu : u = .ref C := h1.eq rfl ▸ rfl
  subst eu
  refine ⟨.ref C, h1, h2, fun d b' h D hD' => ?_⟩
  rcases etab_cons h with ⟨rfl, rfl⟩ | h
  · obtain ⟨D1, hD1⟩ := hD
    obtain ⟨D2, C2, q1, q2, q3, q4⟩ := s
    have e1 := q1.inj hD'
    have e2 := q2.inj hC.ns
    have e3 := hD1.ns.inj hD'
    subst e1 e2 e3
    exact ⟨hD1.ec, kit_ref hC.ec.hd hC.ty q3 q4⟩
  · exact h3 d b' h D hD'
theorem istab_nilB {T : String} (hm : PySem.W.kitMeta T = true) (h : kitB "NoneType" T = some false) : IsTab K (.ty T) [] :=
  ⟨.type T, .ty T, kit_ty h, fun nm b h => by cases h⟩
theorem istab_consB {T : String} (hm : PySem.W.kitMeta T = true) {nm : Str} {b : Bool} {t : ETab} (r : IsTab K (.ty T) t) (hD : ∃ D, ErrC K mg nm D) (s : SubB K nm T b) : IsTab K (.ty T) ((nm, b) :: t) := by
  obtain ⟨u, h1, h2, h3⟩ := r.ex
  have eu : u = .type T := h1.eq rfl ▸ rfl
  subst eu
  refine ⟨.type T, h1, h2, fun d b' h D hD' => ?_⟩
  rcases etab_cons h with ⟨rfl, rfl⟩ | h
  · obtain ⟨D1, hD1⟩ := hD
    obtain ⟨D2, q1, q3⟩ := s
    have e1 := q1.inj hD'
    have e3 := hD1.ns.inj hD'
    subst e1 e3
    exact ⟨hD1.ec, kit_b hm q3⟩
  · exact h3 d b' h D hD'
theorem extab_nil {C : Addr} : ExTab K C [] := ⟨fun nm b h => by cases h⟩
theorem extab_cons {nT : Str} {C : Addr} (hC : ErrC K mg nT C) {nm : Str} {b : Bool} {t : ETab} (r : ExTab K C t) (s : SubN K nm nT b) : ExTab K C ((nm, b) :: t) := by
  refine ⟨fun d b' h D hD' => ?_⟩
  rcases etab_cons h with ⟨rfl, rfl⟩ | h
  · obtain ⟨D2, C2, q1, q2, q3, q4⟩ := s
    have e1 := q1.inj hD'
    have e2 := q2.inj hC.ns
    subst e1 e2
    exact PySem.W.exm_ref hC.ec.hs hC.ec.hd hC.ty q3
  · exact r.ex d b' h D hD'
end
def rIsE (K : PySem.W.Frag) : List V → Hp → VK → Prop := fun xs H Q => ∃ (x c : V) (u : Value) (b : Bool), xs = [x, c] ∧ ClsV c u ∧ ((x = .non ∧ PySem.W.kitOne K (.type "NoneType") u = some b) ∨ ∃ a D, x = .ref a ∧ H a = some (ExK (.ref D) a) ∧ ExcC K D ∧ PySem.W.kitOne K (.ref D) u = some b) ∧ Q (.bl b) H
theorem call_isEx {X : Cx} : CallR X (.builtin "isinstance") (rIsE X.K) := by
  intro pins s σ H xs us Q I r h
  obtain ⟨x, c, u, b, rfl, k, ha, q⟩ := h
  obtain ⟨u1, u2, rfl, r1, r2⟩ := vals2 r
  have e2 := k.eq r2
  subst e2
  rcases ha with ⟨rfl, e⟩ | ⟨a, D, rfl, ha, C, e⟩
  · cases (show u1 = Value.none from r1)
    exact PySem.W.kia_one (PySem.W.kitx_none) I.kIn True.intro e (fun z => nomatch z) fun tk => ⟨.bl b, H, I.tok tk, rfl, q⟩
  · cases (show u1 = Value.ref a from r1)
    obtain ⟨⟨oe, vs, ho, hz, hd⟩, _, _⟩ := I.hok a _ ha
    have J : PySem.W.InstAt s.heap a oe D none := by
      obtain ⟨oc, od, oda, osl⟩ := oe
      obtain ⟨h1, h2⟩ := hz
      dsimp only at h1 h2 hd
      subst h1 h2 hd
      exact ⟨ho, rfl, rfl, trivial⟩
    exact PySem.W.kia_one (PySem.W.handS_kitx_exc C.hg C.hk C.hs C.hd C.ha C.hn C.ht C.hm) I.kIn J e (fun z => nomatch z) fun tk => ⟨.bl b, H, I.tok tk, rfl, q⟩
def fIsE (t : ETab) : Option Str → Option Bool
  | none => some false
  | some nm => t.at_ nm
section
variable {K : KW} {E : Ent} {ms ms' : List Md} {ts : List Ty} {L L1 : Reg} {Γ Γ1 : Gam ts} {σ σ1 : St} {H H' H0 H1 H2 : Hp} {xt : List Addr} {rm : Rm} {ρ : Ty} {W : WX}
theorem rp_isE {m m1 : Em} {te : TE} {v : V} {t : ETab} {F : Gam ts → Option (Option Str)} (h : RP K ms ts te m1 (.opt .exn) F) (hc : IsTab K v t) : RP K ms ts (tCB (rIsE K) (tCons te (tCons (tC v) tNil))) m .bool (e1 (fIsE t) F) := fun E L Γ σ H xt Q d o e q => by
  obtain ⟨a, ea, e⟩ := bind_some e
  obtain ⟨u, h1, h2, h3⟩ := hc.ex
  refine h E L Γ σ H xt _ a o ea fun w H1 s1 r1 => ?_
  have r1 := r1.b
  cases a with
  | none =>
    cases e
    cases (show w = .non from r1)
    exact ⟨.non, v, u, false, rfl, h1, .inl ⟨rfl, h2⟩, q _ H1 s1 (rep_atom rfl rfl)⟩
  | some nm =>
    have e : t.at_ nm = some d := e
    obtain ⟨_, p, C, rfl, hp, hC⟩ := (show w ≠ .non ∧ ∃ p C, w = .ref p ∧ H1 p = some (ExK (.ref C) p) ∧ ClsN K nm C from r1)
    obtain ⟨g1, g2⟩ := h3 nm d e C hC
    exact ⟨.ref p, v, u, d, rfl, h1, .inr ⟨p, C, rfl, hp, g1, g2⟩, q _ H1 s1 (rep_atom rfl rfl)⟩
def tRaise (C : Addr) (W : WX) : TS := fun _ σ H => W (.ref C) none σ H
theorem ps_raiseN {X : Cx} {nm x : Str} {C : Addr} {j : Nat} {p p2 pos pos' : Pos} (hc : X.calm = true) (tk : Takes X W) (R : ErrC X.K X.mg nm C) (hg : Gl X nm) (hdb : (nm == ("__debug__" : Str)) = false := by decide) :
    PS X (.Raise (some (.Call (.Name nm p) [.Constant (.str x) j p2] [] pos)) none pos') (tRaise C W) :=
  ps_raise hc tk (pmk_own PySem.F.excBase_ValueError R.ex R.mg R.kp (raises_own R.ec.hs R.ty) hg hdb)
def sRaise {G ρ : Type} (nm : Str) : G → Option (Fl G (Str × Option ρ)) := fun Γ => some (.rt (nm, none) Γ)
theorem rs_raise {nm : Str} {C : Addr} (R : ClsN K nm C) : RS K ms ts (tRaise C W) (.x W rm) (excT ρ) (sRaise nm) := fun E L Γ σ H D f o e p => by
  cases e
  exact p L σ H .non [] o (Ev.same (Same.refl H)) rfl C R
def Fl.lift {G ρ : Type} : Fl G ρ → Fl G (Str × Option ρ)
  | .nx Γ => .nx Γ
  | .bk Γ => .bk Γ
  | .ct Γ => .ct Γ
  | .rt r Γ => .rt (default, some r) Γ
def sLift {G ρ : Type} (F : G → Option (Fl G ρ)) : G → Option (Fl G (Str × Option ρ)) := fun Γ => (F Γ).bind fun r => some r.lift
theorem rs_lift {st : TS} {F : Gam ts → Option (Fl (Gam ts) (den ρ))} (h : RS K ms ts st rm ρ F) (hpl : rm.plain = true := by rfl) : RS K ms ts st (.x W rm) (excT ρ) (sLift F) := fun E L Γ σ H D f o e p => by
  obtain ⟨r, e1, e2⟩ := bind_some e
  cases e2
  refine h E L Γ σ H D r o e1 ?_
  cases r with
  | nx Γ' => exact p
  | bk Γ' => exact p
  | ct Γ' => exact p
  | rt d Γ' =>
    refine fun L' σ' H' v xt o' ev rr => (RDel_plain K hpl).mpr (p L' σ' H' v xt o' ev ?_)
    cases rm with
    | o => exact rr
    | l => exact rr
    | w => exact rr
    | x W m => cases hpl
def spX (K : KW) (b : Ty) (rm : Rm) (ρ : Ty) (m : den b → Option (Str × Option (den ρ))) : Sp := fun vs H Q E => ∃ (S : Reg) (d : den b) (r : Str × Option (den ρ)), (∀ a, S a → (H a).isSome = true) ∧ (rS K H S b).2 vs d ∧ m d = some r ∧
  ∀ H', Same H H' → (match r.2 with
    | none => ∀ C, ClsN K r.1 C → E (.ref C) none H'
    | some x => ∀ v', CRep K S H H' rm ρ v' x → Q v' H')
theorem fn_okX {P : Program} {w : World} {mg : Str → Option Value} {base : Heap} {x qual : Str} {st : Stmt} {f : Addr} {fd : FuncData} {N ps : List Str} {k : Nat} {b : Ty} (ls : List Ty) (ms : List Md) {m : den b → Option (Str × Option (den ρ))} {F : Gam (rowTys b ++ ls) → Option (Fl (Gam (rowTys b ++ ls)) (Str × Option (den ρ)))}
    (Fn : Fun K x qual st f fd) (S : FnScope N ps (defScope st)) (hps : ps.length = rowLen b) (hN : N.length = rowLen b + ls.length) (hms : okMs b ls ms = true) (hm : ∀ d, m d = runG b ls F d)
    (hbody : ∀ (cdv : Value) (A : Around) (outer : List Env) (s : Shared) (H : Hp) (E : XK), Room k (A.deeper (envOfC qual (defScope st) s.heap.objs.size f cdv)) →
      ∃ t, PSs (cxOf (L2.CX P w) P w K mg base N qual (defScope st) f cdv A outer s H E) (defBody st) t ∧ RS K ms (rowTys b ++ ls) t (.x (fun cls d _ H => E cls d H) rm) (excT ρ) F) (hpl : rm.plain = true := by rfl) : FnOk P w K mg base (L2.CX P w) (k + 1) f fd ps (spX K b rm ρ m) := by
  refine Fn.okX S (fun vs H Q E h => ?_) (fun cdv A outer s H vs Q E hr h => ?_)
  · obtain ⟨S, d, r, _, h2, _⟩ := h
    rw [row_length b vs d h2, hps]
  · obtain ⟨S, d, r, h1, h2, h3, h4⟩ := h
    obtain ⟨t, ht, hrs⟩ := hbody cdv A outer s H E hr
    refine ⟨t, ht, ?_⟩
    rw [hm d] at h3
    unfold runG at h3
    have hl := row_length b vs d h2
    have es : L2.start N vs = vs.map some ++ List.replicate ls.length none := by
      unfold L2.start
      rw [hl, hN, Nat.add_sub_cancel_left]
    rw [es]
    obtain ⟨fl, e1, e2⟩ : ∃ fl, F (iniG b ls d) = some fl ∧ endOf (some fl) = some r := by
      cases e : F (iniG b ls d) with
      | none => rw [e] at h3; cases h3
      | some fl => rw [e] at h3; exact ⟨fl, rfl, h3⟩
    cases fl with
    | nx _ => cases e2
    | bk _ => cases e2
    | ct _ => cases e2
    | rt r' Γ' =>
      cases e2
      have o : Own K ⟨H, S, []⟩ (fun _ => False) ms (rowTys b ++ ls) (iniG b ls d) (vs.map some ++ List.replicate ls.length none) H [] :=
        ⟨⟨[], rG_ini b ls ms vs d hms h2, by simp, fun a ha => by simp at ha⟩, fun a o h _ => h, fun a h => h.elim, fun a h => ⟨h1 a h, by simp⟩, fun a h => by simp at h⟩
      refine hrs ⟨H, S, []⟩ _ _ _ H _ _ o e1 fun L' σ' H' v xt o' ev rr => ?_
      have s' : Same H H' := fun a q h => o'.fr a q h (by simp)
      have nwL : Nw H H' L' := fun a h => ⟨(o'.lr a h).1.elim id fun z => by simp at z, (o'.lr a h).2⟩
      have h5 := h4 H' s'
      obtain ⟨nm, rv⟩ := r
      cases rv with
      | none => exact h5
      | some y =>
        refine h5 v ?_
        cases rm with
        | o =>
          obtain ⟨fp, _, nd, gd⟩ := o'.ex
          exact ⟨xt, L', rr, (List.nodup_append.mp nd).2.1, fun a ha => ⟨(gd a (List.mem_append_right _ ha)).new.elim id fun z => by simp at z, (gd a (List.mem_append_right _ ha)).at_⟩, nwL, fun a ha => (gd a (List.mem_append_right _ ha)).nl⟩
        | l => exact ⟨L', rr.2, nwL⟩
        | w => exact ⟨L', rr.2, nwL⟩
        | x W m => cases hpl
def RPX (K : KW) (ms : List Md) (ts : List Ty) (W : WX) (te : TE) (m : Em) (t : Ty) (F : Gam ts → Option (Str × Option (den t))) : Prop :=
  ∀ (E : Ent) (L : Reg) (Γ : Gam ts) (σ : St) (H : Hp) (xt : List Addr) (Q : VK) (r : Str × Option (den t)), Own K E L ms ts Γ σ H xt → F Γ = some r →
    (∀ H', Same H H' → (match r.2 with
      | none => wN K W r.1 σ H'
      | some d => ∀ v, Rep K E L H H' m t v d → Q v H')) → te σ H Q
theorem crep_rep {S : Reg} {v : V} {d : den ρ} (hk : (rm == .o || rm == .l) = true) (s1 : Same H H1) (r2 : CRep K S H1 H2 rm ρ v d) : Rep K E L H H2 rm.em ρ v d := by
  refine Rep.older s1 ?_
  cases rm with
  | o =>
    obtain ⟨f, Lr, h1, h2, h3, h4, h5⟩ := r2
    exact ⟨f, Lr, (rO_mono (Cov.of_reg fun a h _ => .inr h) (Stb.refl _) ρ).1 v d f (fun _ _ => rfl) h1, h2, h3, h4, h5⟩
  | l =>
    obtain ⟨Lr, h1, h2⟩ := r2
    exact ⟨Lr, (rS_mono (Cov.of_reg fun a h _ => .inr h) (Stb.refl _) ρ).1 v d h1, h2⟩
  | w => exact absurd hk (by decide)
  | x W m => exact r2.elim
theorem rpx_call {b : Ty} {mA : Em} {ta : TA} {m : den b → Option (Str × Option (den ρ))} {F : Gam ts → Option (den b)} (hk : (rm == .o || rm == .l) = true) (h : RA K ms ts ta mA b F) : RPX K ms ts W (tCallS (spX K b rm ρ m) (WE W) ta) rm.em ρ (e1 m F) := fun E L Γ σ H xt Q d o e q => by
  obtain ⟨a, ea, e⟩ := bind_some e
  refine h E L Γ σ H xt _ a o ea fun vs H1 s1 r1 => ?_
  refine ⟨fun a => (H1 a).isSome = true, a, d, fun _ h => h, (rS_mono (Cov.of_reg fun _ _ h => h) (Stb.refl _) b).2 vs a r1.b, e, fun H2 s2 => ?_⟩
  have q := q H2 (s1.trans s2)
  obtain ⟨nm, rv⟩ := d
  cases rv with
  | none => exact q
  | some y => exact fun v' cr => q v' (crep_rep hk s1 cr)
def noExc {ρ : Type} : Str × Option ρ → Option ρ := fun r => r.2
theorem rp_callX {b : Ty} {mA : Em} {ta : TA} {m : den b → Option (Str × Option (den ρ))} {F : Gam ts → Option (den b)} {X : XK} (hk : (rm == .o || rm == .l) = true) (h : RA K ms ts ta mA b F) : RP K ms ts (tCall (spX K b rm ρ m) [] X ta) rm.em ρ (e1 (fun d => (m d).bind noExc) F) := fun E L Γ σ H xt Q d o e q => by
  obtain ⟨a, ea, e⟩ := bind_some e
  obtain ⟨⟨nm, rv⟩, em, e⟩ := bind_some e
  have e : rv = some d := e
  subst e
  refine h E L Γ σ H xt _ a o ea fun vs H1 s1 r1 => ?_
  rw [List.append_nil]
  exact ⟨fun a => (H1 a).isSome = true, a, (nm, some d), fun _ h => h, (rS_mono (Cov.of_reg fun _ _ h => h) (Stb.refl _) b).2 vs a r1.b, em, fun H2 s2 v' cr => q v' H2 (s1.trans s2) (crep_rep hk s1 cr)⟩
def eSomeR {G α : Type} (F : G → Option (Str × Option α)) : G → Option (Str × Option (Option α)) := fun Γ => (F Γ).bind fun r => some (r.1, r.2.map some)
def sSetR {ρ : Type} {ts : List Ty} {t : Ty} (i : Mem ts t) (F : Gam ts → Option (Str × Option (den t))) : Gam ts → Option (Fl (Gam ts) (Str × Option ρ)) := fun Γ => (F Γ).bind fun r => match r.2 with
  | none => some (.rt (r.1, none) Γ)
  | some d => some (.nx (i.set (some d) Γ))
theorem Own.exc {D : Ends} {nm : Str} (o : Own K E L ms ts Γ σ H []) (s : Same H H') (p : Post K E ms ts (.x W rm) (excT ρ) L Γ σ H D (.rt (nm, none) Γ)) : wN K W nm σ H' :=
  p L σ H' .non [] (o.same s) (Ev.same s) rfl
def sDropR {G ρ α : Type} (F : G → Option (Str × Option α)) : G → Option (Fl G (Str × Option ρ)) := fun Γ => (F Γ).bind fun r => match r.2 with
  | none => some (.rt (r.1, none) Γ)
  | some _ => some (.nx Γ)
theorem rs_dropR {te : TE} {m : Em} {t : Ty} {F : Gam ts → Option (Str × Option (den t))} (h : RPX K ms ts W te m t F) : RS K ms ts (tDrop te) (.x W rm) (excT ρ) (sDropR F) := fun E L Γ σ H D f o e p => by
  obtain ⟨⟨nm, rv⟩, e1, e2⟩ := bind_some e
  refine h E L Γ σ H [] _ _ o e1 fun H1 s1 => ?_
  cases rv with
  | none =>
    cases e2
    exact o.exc s1 p
  | some d =>
    cases e2
    intro v r1
    exact p L σ H1 (o.same s1) (Ev.same s1)
def RCl (K : KW) (ms : List Md) (ts : List Ty) (rm : Rm) (ρ : Ty) (l : List Cla) (F : Str → Gam ts → Option (Fl (Gam ts) (den ρ))) : Prop :=
  ∀ (nm : Str) (C : Addr) (E : Ent) (L : Reg) (Γ : Gam ts) (σ : St) (H : Hp) (D : Ends) (f : Fl (Gam ts) (den ρ)), ClsN K nm C → Own K E L ms ts Γ σ H [] → F nm Γ = some f → Post K E ms ts rm ρ L Γ σ H D f → wKeep K (fun _ _ _ _ => False) D l (.ref C) none σ H
def cNil {G ρ : Type} : Str → G → Option (Fl G ρ) := fun _ _ => none
theorem rcl_nil : RCl K ms ts rm ρ [] cNil := fun _ _ _ _ _ _ _ _ _ _ _ e _ => by cases e
def cOne {G ρ : Type} (t : ETab) (F : G → Option (Fl G ρ)) (R : Str → G → Option (Fl G ρ)) : Str → G → Option (Fl G ρ) := fun nm Γ => match t.at_ nm with
  | some true => F Γ
  | some false => R nm Γ
  | none => none
theorem same_exk {C a : Addr} (h : H a = none) : Same H (upd H a (ExK (.ref C) a)) := same_new h
def cTup {G ρ : Type} (t : ETab) (R : Str → G → Option (Fl G ρ)) : Str → G → Option (Fl G ρ) := fun nm Γ => match t.at_ nm with
  | some false => R nm Γ
  | _ => none
structure ExTabs (K : KW) (cs : List Value) (t : ETab) : Prop where
  ex : ∀ c ∈ cs, ∃ C, c = .ref C ∧ ExTab K C t
theorem extabs_nil {t : ETab} : ExTabs K [] t := ⟨fun c h => by simp at h⟩
theorem extabs_cons {C : Addr} {cs : List Value} {t : ETab} (h : ExTab K C t) (r : ExTabs K cs t) : ExTabs K (.ref C :: cs) t := ⟨fun c hc => by
  rcases List.mem_cons.mp hc with rfl | hc
  · exact ⟨C, rfl, h⟩
  · exact r.ex c hc⟩
theorem rcl_tup {cs : List Value} {t : ETab} {l : List Cla} {R : Str → Gam ts → Option (Fl (Gam ts) (den ρ))} (ht : ExTabs K cs t) (r : RCl K ms ts rm ρ l R) : RCl K ms ts rm ρ (.none5 cs :: l) (cTup t R) := fun nm C E L Γ σ H D f hC o e p => by
  unfold cTup at e
  split at e
  · rename_i et
    refine ⟨fun c hc => ?_, r nm C E L Γ σ H D f hC o e p⟩
    obtain ⟨C', rfl, h⟩ := ht.ex c hc
    exact h.ex nm _ et C hC
  · cases e
def Fl.off {ts : List Ty} {t : Ty} {ρ : Type} (i : Mem ts t) : Fl (Gam ts) ρ → Fl (Gam ts) ρ
  | .nx Γ => .nx (i.set none Γ)
  | .bk Γ => .bk (i.set none Γ)
  | .ct Γ => .ct (i.set none Γ)
  | .rt r Γ => .rt r Γ
def cAs {ts : List Ty} {ρ : Type} (i : Mem ts .exn) (t : ETab) (F : Gam ts → Option (Fl (Gam ts) ρ)) (R : Str → Gam ts → Option (Fl (Gam ts) ρ)) : Str → Gam ts → Option (Fl (Gam ts) ρ) := fun nm Γ => match t.at_ nm with
  | some true => (F (i.set (some nm) Γ)).bind fun r => some (r.off i)
  | some false => R nm Γ
  | none => none
theorem Own.unset {t : Ty} (i : Mem ts t) {m : Md} (o : Own K E L ms ts Γ σ H []) (hm : ms[i.ix]? = some m) (hk : m.fixd = false) : Own K E L ms ts (i.set none Γ) (σ.set i.ix none) H [] ∧ Ev ms ts L Γ σ H L (i.set none Γ) (σ.set i.ix none) H := by
  obtain ⟨s0, f0, e1, e2, e3, e4, e5⟩ := o.focus i hm
  exact ⟨e5 H L none none [] [] (fun a h _ _ => rfl) (Stb.refl H) (fun a h => h) (fun a h => .inl h) (fun a h => h) (fun a h => o.lr a h) rfl (by simp) (fun a ha => by simp at ha), ⟨fun a h => h, fun a q _ h => h, Stb.refl H, keepF_set i hm hk _ _⟩⟩
theorem rcl_as (i : Mem ts .exn) {c : Addr} {n : Nat} {t : ETab} {st : TS} {l : List Cla} {F : Gam ts → Option (Fl (Gam ts) (den ρ))} {R : Str → Gam ts → Option (Fl (Gam ts) (den ρ))} (ht : ExTab K c t) (h : RS K ms ts st rm ρ F) (r : RCl K ms ts rm ρ l R)
    (hm : ms[i.ix]? = some .w := by rfl) (hn : i.ix = n := by rfl) (hpl : rm.plain = true := by rfl) : RCl K ms ts rm ρ (.mk (.ref c) (some n) st :: l) (cAs i t F R) := fun nm C E L Γ σ H D f hC o e p => by
  subst hn
  unfold cAs at e
  split at e
  · rename_i et
    obtain ⟨f0, e1, e2⟩ := bind_some e
    cases e2
    refine ⟨true, ht.ex nm _ et C hC, fun _ => ⟨rfl, fun a ha => ?_⟩, fun z => by cases z⟩
    have s1 := same_exk (C := C) ha
    obtain ⟨L', o', ev⟩ := o.store i hm rfl (v := .ref a) (d := nm) s1 (Rep.frz rfl _ (R := fun _ => True) ⟨a, C, rfl, upd_same, hC⟩)
    refine h E L' _ _ _ _ f0 o' e1 ?_
    cases f0 with
    | nx Γ' =>
      exact fun L2 σ2 H2 o2 ev2 => let ⟨o3, ev3⟩ := o2.unset i hm rfl; p L2 _ H2 o3 ((ev.trans ev2).trans ev3)
    | bk Γ' =>
      exact fun L2 σ2 H2 o2 ev2 => let ⟨o3, ev3⟩ := o2.unset i hm rfl; p L2 _ H2 o3 ((ev.trans ev2).trans ev3)
    | ct Γ' =>
      exact fun L2 σ2 H2 o2 ev2 => let ⟨o3, ev3⟩ := o2.unset i hm rfl; p L2 _ H2 o3 ((ev.trans ev2).trans ev3)
    | rt d Γ' =>
      exact fun L2 σ2 H2 v xt o2 ev2 rr => p L2 σ2 H2 v xt o2 (ev.trans ev2) rr
  · rename_i et
    exact ⟨false, ht.ex nm _ et C hC, (fun z => by cases z), fun _ => r nm C E L Γ σ H D f hC o e p⟩
  · cases e
def sTry {G ρ : Type} (F : G → Option (Fl G (Str × Option ρ))) (R : Str → G → Option (Fl G ρ)) : G → Option (Fl G ρ) := fun Γ => (F Γ).bind fun r => match r with
  | .nx Γ' => some (.nx Γ')
  | .bk Γ' => some (.bk Γ')
  | .ct Γ' => some (.ct Γ')
  | .rt r Γ' => (match r.2 with
    | none => R r.1 Γ'
    | some d => some (.rt d Γ'))
theorem rs_try {tb : WX → TS} {l : List Cla} {F : Gam ts → Option (Fl (Gam ts) (Str × Option (den ρ)))} {R : Str → Gam ts → Option (Fl (Gam ts) (den ρ))} (hb : ∀ W : WX, RS K ms ts (tb W) (.x W rm) (excT ρ) F) (hc : RCl K ms ts rm ρ l R) (hpl : rm.plain = true := by rfl) :
    RS K ms ts (fun D σ H => tb (wKeep K (fun _ _ _ _ => False) D l) D σ H) rm ρ (sTry F R) := fun E L Γ σ H D f o e p => by
  obtain ⟨r, e1, e2⟩ := bind_some e
  refine hb _ E L Γ σ H D r o e1 ?_
  cases r with
  | nx Γ' => cases e2; exact p
  | bk Γ' => cases e2; exact p
  | ct Γ' => cases e2; exact p
  | rt r Γ' =>
    obtain ⟨nm, rv⟩ := r
    cases rv with
    | some d =>
      cases e2
      refine fun L' σ' H' v xt o' ev rr => (RDel_plain K hpl).mp (p L' σ' H' v xt o' ev ?_)
      cases rm with
      | o => exact rr
      | l => exact rr
      | w => exact rr
      | x W m => cases hpl
    | none =>
      have e2 : R nm Γ' = some f := e2
      refine fun L' σ' H' v xt o' ev rr => ?_
      have hx : xt = [] := rr
      subst hx
      exact fun C hC => hc nm C E L' Γ' σ' H' D f hC o' e2 (p.later ev)
end
end VV
namespace VV
open PySem L2
open PyProof.Rows hiding St
section
variable {K : KW} {E : Ent} {ms ms' : List Md} {ts : List Ty} {L L1 : Reg} {Γ Γ1 : Gam ts} {σ σ1 : St} {H H' H0 H1 H2 : Hp} {xt : List Addr} {rm : Rm} {ρ : Ty}
theorem Rep.inl {a b : Ty} {m : Em} {v : V} {d : den a} (r : Rep K E L H H' m a v d) : Rep K E L H H' m (.alt a b) v (.inl d) := by cases m <;> exact r
theorem Rep.inr {a b : Ty} {m : Em} {v : V} {d : den b} (r : Rep K E L H H' m b v d) : Rep K E L H H' m (.alt a b) v (.inr d) := by cases m <;> exact r
end
end VV
namespace VV
open PySem L2
open PyProof.Rows hiding St
section
variable {K : KW} {H : Hp}
def Ty.flat : Ty → Bool
  | .str => true
  | .int => true
  | _ => false
theorem flat_v {R : Reg} {t : Ty} (h : t.flat = true) {v : V} {d : den t} (r : (rS K H R t).1 v d) : flatV v = true := by
  cases t <;> first | (cases h; done) | skip
  · cases r; rfl
  · obtain ⟨rfl, _⟩ := r; rfl
theorem flat_eq {R : Reg} {t : Ty} (h : t.flat = true) {v w : V} {d e : den t} (r : (rS K H R t).1 v d) (r' : (rS K H R t).1 w e) : eqV v w = PyData.eqv ((emb t).1 d) ((emb t).1 e) := by
  cases t <;> first | (cases h; done) | skip
  · cases r; cases r'
    show (d == e) = PyData.eqv (.int d) (.int e)
    simp [PyData.eqv]
  · obtain ⟨rfl, _⟩ := r; obtain ⟨rfl, _⟩ := r'
    show (d == e) = PyData.eqv (.str d) (.str e)
    simp [PyData.eqv]
theorem flat_all {R : Reg} {t : Ty} (h : t.flat = true) : ∀ {vs : List V} {ds : List (den t)}, F2 (rS K H R t).1 vs ds → vs.all flatV = true
  | [], [], _ => rfl
  | v :: vs, d :: ds, q => by
    rw [List.all_cons, flat_v h q.1, flat_all h q.2]
    rfl
  | [], _ :: _, q => q.elim
  | _ :: _, [], q => q.elim
theorem flat_any {R : Reg} {t : Ty} (h : t.flat = true) {w : V} {e : den t} (r' : (rS K H R t).1 w e) : ∀ {vs : List V} {ds : List (den t)}, F2 (rS K H R t).1 vs ds → inV w vs = ds.any fun z => PyData.eqv ((emb t).1 z) ((emb t).1 e)
  | [], [], _ => rfl
  | v :: vs, d :: ds, q => by
    have ih := flat_any h r' q.2
    unfold inV at ih ⊢
    rw [List.any_cons, List.any_cons, flat_eq h q.1 r', ih]
  | [], _ :: _, q => q.elim
  | _ :: _, [], q => q.elim
theorem v_inV {m : Em} {t : Ty} (hk : t.flat = true) : V2 K (rIn K false) m t (.vtup t) .bool (fInD t) := fun E L H v w a b c Q ra rb e q => by
  cases e
  obtain ⟨p, vs, rfl, h1, h2⟩ := rb
  refine ⟨p, vs, rfl, .inr (.of h1), flat_v hk ra, flat_all hk h2, q _ H (Same.refl H) (rep_atom rfl ?_)⟩
  rw [if_neg Bool.false_ne_true, flat_any hk ra h2]
  rfl
end
end VV
namespace VV
open PySem L2
open PyProof.Rows hiding St
section
variable {K : KW} {E : Ent} {ms : List Md} {ts : List Ty} {L L1 : Reg} {Γ Γ1 : Gam ts} {σ σ1 : St} {H H' H1 : Hp} {xt : List Addr} {rm : Rm} {ρ : Ty} {S : Reg}
def fDropK {k : Ty} {β : Type} (d : List (den k × β)) (x : den k) : List (den k × β) := d.filter fun q => !decide (keyT k q.1 = keyT k x)
def sDpop {ρ : Type} {ts : List Ty} {k t : Ty} (i : Mem ts (.dict k t)) (G : Gam ts → Option (den k)) : Gam ts → Option (Fl (Gam ts) ρ) := fun Γ => (i.get Γ).bind fun d => (G Γ).bind fun x => if (fGetK d x).isSome = true then some (.nx (i.set (some (fDropK d x)) Γ)) else none
end
end VV
namespace VV
open PySem L2
open PyProof.Rows hiding St
section
variable {K : KW} {E : Ent} {ms : List Md} {ts : List Ty} {L L1 : Reg} {Γ Γ1 : Gam ts} {σ σ1 : St} {H H' H1 : Hp} {xt : List Addr} {rm : Rm} {ρ : Ty} {S : Reg}
end
end VV
namespace VV
open PySem L2
open PyProof.Rows hiding St
section
variable {K : KW} {E : Ent} {ms : List Md} {ts : List Ty} {L L1 : Reg} {Γ Γ1 : Gam ts} {σ σ1 : St} {H H' H1 : Hp} {xt : List Addr} {rm : Rm} {ρ : Ty} {S : Reg}
end
end VV
namespace VV
open PySem L2
open PyProof.Rows hiding St
section
variable {K : KW} {E : Ent} {ms : List Md} {ts : List Ty} {L L1 : Reg} {Γ Γ1 : Gam ts} {σ σ1 : St} {H H' H1 : Hp} {xt : List Addr} {rm : Rm} {ρ : Ty} {S : Reg}
end
end VV
namespace VV
open PySem L2
open PyProof.Rows hiding St
section
variable {K : KW} {E : Ent} {ms : List Md} {ts : List Ty} {L L1 : Reg} {Γ Γ1 : Gam ts} {σ σ1 : St} {H H' H1 : Hp} {xt : List Addr} {rm : Rm} {ρ : Ty} {S : Reg}
end
end VV
namespace VV
open PySem L2
open PyProof.Rows hiding St
def anyTab : List ETab → Str → Option Bool
  | [], _ => some false
  | t :: ts, nm => (t.at_ nm).bind fun b => if b = true then some true else anyTab ts nm
section
variable {K : KW} {E : Ent} {ms : List Md} {ts : List Ty} {L L1 : Reg} {Γ Γ1 : Gam ts} {σ σ1 : St} {H H' H1 : Hp} {xt : List Addr} {rm : Rm} {ρ : Ty} {S : Reg}
inductive IsTabs (K : KW) : List V → List ETab → Prop
  | nil : IsTabs K [] []
  | cons {v : V} {t : ETab} {vs : List V} {tb : List ETab} : IsTab K v t → IsTabs K vs tb → IsTabs K (v :: vs) (t :: tb)
theorem IsTabs.get {vs : List V} {tb : List ETab} (h : IsTabs K vs tb) : ∃ us, Paired ClsV vs us ∧ PySem.W.kitAny K (.type "NoneType") us = some false ∧ ∀ nm b, anyTab tb nm = some b → ∀ D, ClsN K nm D → PySem.W.kitAny K (.ref D) us = some b := by
  induction h with
  | nil => exact ⟨[], .nil, kitAny_nil, fun nm b e D _ => by cases e; exact kitAny_nil⟩
  | cons h _ ih =>
    obtain ⟨u, h1, h2, h3⟩ := h.ex
    obtain ⟨us, g1, g2, g3⟩ := ih
    refine ⟨u :: us, .cons h1 g1, kitAny_cons h2 (fun _ => g2) (fun z => by cases z), fun nm b e D hD => ?_⟩
    obtain ⟨c, ec, e⟩ := bind_some e
    obtain ⟨_, k1⟩ := h3 nm c ec D hD
    cases c with
    | true =>
      rw [if_pos rfl] at e
      cases e
      exact kitAny_cons k1 (fun z => by cases z) (fun _ => rfl)
    | false =>
      rw [if_neg Bool.false_ne_true] at e
      exact kitAny_cons k1 (fun _ => g3 nm b e D hD) (fun z => by cases z)
theorem IsTabs.exc {vs : List V} {tb : List ETab} (h : IsTabs K vs tb) {nm : Str} {b : Bool} (hb : anyTab tb nm = some b) (hne : tb ≠ []) {D : Addr} (hD : ClsN K nm D) : ExcC K D := by
  cases h with
  | nil => exact absurd rfl hne
  | cons h _ =>
    obtain ⟨u, h1, h2, h3⟩ := h.ex
    obtain ⟨c, ec, e⟩ := bind_some hb
    exact (h3 nm c ec D hD).1
end
end VV
namespace VV
open PySem L2
open PyProof.Rows hiding St
section
variable {K : KW} {E : Ent} {ms : List Md} {ts : List Ty} {L L1 L' : Reg} {Γ Γ1 : Gam ts} {σ σ1 : St} {H H' H1 : Hp} {xt : List Addr} {rm : Rm} {ρ : Ty} {S : Reg}
end
end VV
namespace VV
open PySem L2
open PyProof.Rows hiding St
section
variable {K : KW} {E : Ent} {ms : List Md} {ts : List Ty} {L L1 : Reg} {Γ Γ1 : Gam ts} {σ σ1 : St} {H H' H1 : Hp} {xt : List Addr} {rm : Rm} {ρ : Ty} {S : Reg}
def sPutR {ρ : Type} {ts : List Ty} {k t : Ty} (i : Mem ts (.dict k t)) (F : Gam ts → Option (den t)) (G : Gam ts → Option (den k)) : Gam ts → Option (Fl (Gam ts) ρ) := fun Γ => (i.get Γ).bind fun d => (F Γ).bind fun y => (G Γ).bind fun x => if d.length < sizeLine ∧ (d.map fun q => keyT k q.1).Nodup then some (.nx (i.set (some (fPutK d x y)) Γ)) else none
end
end VV
namespace VV
open PySem L2
section
variable {K : KW} {E : Ent} {ms : List Md} {ts : List Ty} {L : Reg} {H : Hp} {rm : Rm} {ρ : Ty}
def ItemT (K : KW) (H : Hp) (k : Ty) (kvs : List (List L2.Key × V)) (v : V) (x : den k) : Prop := ∃ (p : Addr) (kv w : V) (ks : List L2.Key), v = .ref p ∧ H p = some (.tup [kv, w]) ∧ (rS K H (fun _ => False) k).1 kv x ∧ keyT k x = some ks ∧ valV kvs ks = some w
theorem ItemT.mono {H' : Hp} {k : Ty} {kvs : List (List L2.Key × V)} {v : V} {x : den k} (s : Stb H H') (h : ItemT K H k kvs v x) : ItemT K H' k kvs v x := by
  obtain ⟨p, kv, w, ks, e, h1, h2, h3, h4⟩ := h
  exact ⟨p, kv, w, ks, e, s.tup p _ h1, (rS_mono (fun a o z _ => z.elim) s k).1 kv x h2, h3, h4⟩
end
end VV
namespace VV
open PySem L2
open PyProof.Rows hiding St
abbrev tyNK : Ty := .list (.tup (.cons .str (.last (.vtup .str))))
abbrev tyND : Ty := .ins 0 [] tyNK
abbrev tyRule : Ty := .tup (.cons .str (.cons (.vtup .str) (.last .int)))
abbrev mkKs : List Str := ["rules", "backs", "known"]
abbrev rowMk : Ty := .cons (.own (.list tyRule)) (.cons (.own (.list .any)) (.last (.own tyND)))
abbrev tyMk : Ty := .ins 0 mkKs rowMk
section
variable {K : KW} {E : Ent} {ms ms' : List Md} {ts : List Ty} {L L1 : Reg} {Γ Γ1 : Gam ts} {σ σ1 : St} {H H' H0 H1 H2 : Hp} {xt : List Addr} {rm : Rm} {ρ : Ty} {S0 : Reg}
theorem strs_of {R : Reg} : ∀ {vs : List V} {d : List Str}, F2 (rS K H R .str).1 vs d → vs = d.map .str
  | [], [], _ => rfl
  | v :: vs, x :: d, h => by
    rw [h.1.1, strs_of h.2]
    rfl
  | [], _ :: _, h => h.elim
  | _ :: _, [], h => h.elim
theorem nk_new {v1 v2 : V} {x : Str} {y : List Str} {p : Addr} {R R' : Reg} (h1 : (rS K H R .str).1 v1 x) (h2 : (rS K H R' (.vtup .str)).1 v2 y) (hp : H p = none) : NkAt (upd H p (.tup [v1, v2])) (x, y) p := by
  obtain ⟨rfl, _⟩ := h1
  obtain ⟨a, vs, rfl, ha, hk⟩ := h2
  refine ⟨a, upd_same, ?_⟩
  rw [upd_ne (ne_of_none ha hp), ha, strs_of hk]
theorem nst_field {C : Addr} {ks : List Str} {b : Ty} {v : V} {d : List (Str × List Str)} {g : List Addr} (h : (rO K H L tyND).1 v d g) : ∃ a, v = .ref a ∧ g = [a] ∧ NstD K.w H a d := by
  rcases h with ⟨_, a, qs, rfl, rfl, hq, h⟩ | ⟨h, _⟩
  · cases hq
    exact ⟨a, rfl, rfl, h⟩
  · exact (h rfl).elim
theorem nst_owned {a : Addr} {d : List (Str × List Str)} (h : NstD K.w H a d) : (rO K H L tyND).1 (.ref a) d [a] := .inl ⟨rfl, a, d, rfl, rfl, rfl, h⟩
theorem rp_unO {u : Ty} {te : TE} {F : Gam ts → Option (den u)} (h : RP K ms ts te .b (.own u) F) : RP K ms ts te .b u F := fun E L Γ σ H xt Q d o e q => h E L Γ σ H xt Q d o e fun v H' s r => q v H' s r
def eNNin {ts : List Ty} {C : Addr} {ks : List Str} {b : Ty} (i : Mem ts (.ins C ks b)) (r : RIx b (.own tyND)) (F : Gam ts → Option Str) (G : Gam ts → Option (List Str)) : Gam ts → Option Bool := fun Γ => (F Γ).bind fun x => (G Γ).bind fun y => (i.get Γ).bind fun (d : den b) => some (!decide ((x, y) ∈ (r.get d : List (Str × List Str))))
theorem rp_nnin {C C' : Addr} {ks : List Str} {b : Ty} (i : Mem ts (.ins C ks b)) (r : RIx b (.own tyND)) {n : Nat} {fn : Str} {m m' : Em} {tn tp : TE} {F : Gam ts → Option Str} {G : Gam ts → Option (List Str)} (hc : ClsI K C C') (ha : NoAttr K C' fn) (h : RP K ms ts tn m .str F) (h' : RP K ms ts tp m' (.vtup .str) G) {mo : Md} (hm : ms[i.ix]? = some mo := by rfl) (ho : (mo == .o || mo == .r) = true := by rfl) (hn : i.ix = n := by rfl) (hk : fIx ks fn = some r.ix := by rfl) {m'' : Em} :
    RP K ms ts (tOp (rNotInN K.w) (tTup (tCons tn (tCons tp tNil))) (tFld K (tVar n) fn)) m'' .bool (eNNin i r F G) := fun E L Γ σ H xt Q d o e q => by
  subst hn
  obtain ⟨x, ex, e⟩ := bind_some e
  obtain ⟨y, ey, e⟩ := bind_some e
  obtain ⟨d0, e1, e⟩ := bind_some e
  cases e
  refine h E L Γ σ H xt _ x o ex fun v1 H1 s1 r1 => h' E L Γ σ H1 xt _ y (o.same s1) ey fun v2 H2 s2 r2 => ⟨by show 2 ≤ sizeLine; decide, fun p hp => ?_⟩
  have s3 : Same H2 (upd H2 p (.tup [v1, v2])) := same_new hp
  have s13 := (s1.trans s2).trans s3
  have o3 := o.same s13
  obtain ⟨v, f, h1, h2, _⟩ := o3.look i hm e1
  have h2 : (rO K (upd H2 p (.tup [v1, v2])) L (.ins C ks b)).1 v d0 f := by
    cases mo with
    | o => exact h2
    | r => exact h2
    | _ => cases ho
  obtain ⟨hne, C1, a, dx, fs, g, rfl, rfl, hcn, hl, hx, hks, hrow⟩ := ins_full hk h2
  cases hcn.inj hc.ns
  obtain ⟨w, gx, gj, gy, hv, rfl, hin, _⟩ := row_own r hrow
  obtain ⟨c, rfl, rfl, hd⟩ := nst_field (C := 0) (ks := []) (b := tyNK) hin
  exact ⟨_, h1, a, C', dx, fs, _, rfl, hl, hc.cls, ha, fIx_look (by rw [hks]; exact hk) hv, c, p, (x, y), _, rfl, rfl, nk_new (rs_on s2 r1.b) r2.b hp, hd, q _ _ s13 (rep_atom rfl rfl)⟩
def sNPutM {ρ : Type} {ts : List Ty} {C : Addr} {ks : List Str} {b : Ty} (i : Mem ts (.ins C ks b)) (r : RIx b (.own tyND)) (F : Gam ts → Option Str) (G : Gam ts → Option (List Str)) : Gam ts → Option (Fl (Gam ts) ρ) := fun Γ => (i.get Γ).bind fun (d : den b) => (F Γ).bind fun x => (G Γ).bind fun y => if (x, y) ∉ (r.get d : List (Str × List Str)) ∧ (r.get d : List (Str × List Str)).length < sizeLine then some (.nx (i.set (some (r.put d ((r.get d : List (Str × List Str)) ++ [(x, y)]))) Γ)) else none
theorem rs_nput {C C' : Addr} {ks : List Str} {b : Ty} (i : Mem ts (.ins C ks b)) (r : RIx b (.own tyND)) {n : Nat} {fn : Str} {m m' : Em} {tn tp : TE} {F : Gam ts → Option Str} {G : Gam ts → Option (List Str)} (hc : ClsI K C C') (ha : NoAttr K C' fn) (h : RP K ms ts tn m .str F) (h' : RP K ms ts tp m' (.vtup .str) G) {mo : Md} (hm : ms[i.ix]? = some mo := by rfl) (ho : mo.own = true := by rfl) (hn : i.ix = n := by rfl) (hk : fIx ks fn = some r.ix := by rfl) :
    RS K ms ts (sNPut K.w (tFld K (tVar n) fn) (tTup (tCons tn (tCons tp tNil))) (tC (.bl true))) rm ρ (sNPutM i r F G) := fun E L Γ σ H D f o e p => by
  subst hn
  obtain ⟨dd, e1, e⟩ := bind_some e
  obtain ⟨x, ex, e⟩ := bind_some e
  obtain ⟨y, ey, e⟩ := bind_some e
  split at e
  · rename_i hz
    cases e
    obtain ⟨v0, f0, q1, hr, nd, gd, go⟩ := o.chg i hm ho e1
    obtain ⟨hne, C1, a, dx, fs, g, rfl, rfl, hcn, hl, hx, hks, hrow⟩ := ins_full hk hr
    cases hcn.inj hc.ns
    obtain ⟨v, gx, gj, gy, hv, rfl, hin, fin⟩ := row_own r hrow
    obtain ⟨c, rfl, rfl, hd⟩ := nst_field (C := 0) (ks := []) (b := tyNK) hin
    have hlook : fs.lookup fn = some (.ref c) := fIx_look (by rw [hks]; exact hk) hv
    refine ⟨_, q1, a, C', dx, fs, _, rfl, hl, hc.cls, ha, hlook, h E L Γ σ H [] _ x o ex fun w1 H1 s1 r1 => h' E L Γ σ H1 [] _ y (o.same s1) ey fun w2 H2 s2 r2 => ⟨by show 2 ≤ sizeLine; decide, fun t ht => ?_⟩⟩
    have s3 : Same H2 (upd H2 t (.tup [w1, w2])) := same_new ht
    have s13 := (s1.trans s2).trans s3
    have cin0 : c ∈ gx ++ ([c] ++ gy) := List.mem_append_right _ (List.mem_append_left _ List.mem_cons_self)
    have cin : c ∈ a :: dx :: (gx ++ ([c] ++ gy)) := List.mem_cons_of_mem _ (List.mem_cons_of_mem _ cin0)
    have cat : (H c).isSome = true := (gd c cin).at_
    have hd3 : NstD K.w (upd H2 t (.tup [w1, w2])) c (r.get dd) := hd.stb (Stb.of_same s13) (same_at s13 cat)
    refine ⟨c, t, (x, y), _, rfl, rfl, rfl, nk_new (rs_on s2 r1.b) r2.b ht, hd3, hz.1, hz.2, fun u hu => ?_⟩
    generalize hH3 : upd H2 t (.tup [w1, w2]) = H3 at s13 hd3 hu ⊢
    have nda := List.nodup_cons.mp nd
    have ndd := List.nodup_cons.mp nda.2
    have nac : a ≠ c := fun z => nda.1 (List.mem_cons_of_mem _ (z ▸ cin0))
    have ndc : dx ≠ c := fun z => ndd.1 (z ▸ cin0)
    have st : Stb H3 (upd H3 c u) := hd3.upd
    have stH : Stb H (upd H3 c u) := (Stb.of_same s13).trans st
    have nlc := (gd c cin).nl
    have nd1 := List.nodup_append.mp ndd.2
    have nd2 := List.nodup_append.mp nd1.2.1
    have cov : Cov H (upd H3 c u) L L := fun b q hb z => by
      have ne : b ≠ c := fun z => nlc (z ▸ hb)
      refine ⟨hb, ?_⟩
      rw [upd_ne ne, same_at s13 (o.lr b hb).2]
      exact z
    have hrow2 := fin (upd H3 c u) ((r.get dd : List (Str × List Str)) ++ [(x, y)]) [c] cov stH (fun e he => by
      have hne : e ≠ c := fun z => by
        subst z
        rcases List.mem_append.mp he with h | h
        · exact nd1.2.2 e h e (List.mem_append_left _ List.mem_cons_self) rfl
        · exact nd2.2.2 e List.mem_cons_self e h rfl
      have hat : (H e).isSome = true := (gd e (List.mem_cons_of_mem _ (List.mem_cons_of_mem _ (by
        rcases List.mem_append.mp he with h | h
        · exact List.mem_append_left _ h
        · exact List.mem_append_right _ (List.mem_append_right _ h))))).at_
      rw [upd_ne hne, same_at s13 hat]) (nst_owned hu)
    have hrow3 := (rO_mono (L := L) (L' := fun b => L b ∨ False) (Cov.of_reg fun _ h _ => .inl h) (Stb.refl _) b).2 _ _ _ (fun _ _ => rfl) hrow2
    obtain ⟨o', ev⟩ := go H3 (upd H3 c u) [] (fun _ => False) (r.put dd ((r.get dd : List (Str × List Str)) ++ [(x, y)])) (a :: dx :: (gx ++ ([c] ++ gy))) s13 (fun a h => by simp at h) (fun a h => h.elim) (fun a h => by simp at h) (upd_oth cin) upd_up st
      (.inr ⟨hne, C', a, dx, fs, _, rfl, rfl, hcn, by rw [upd_ne nac]; exact s13 _ _ hl, by rw [upd_ne ndc]; exact s13 _ _ hx, hks, hrow3⟩) nd (fun b hb => .inl hb)
    exact p _ σ _ o' ev
  · cases e
theorem fIx_none {f : Str} : ∀ {fs : List (Str × V)}, fIx (fs.map (·.1)) f = none → fs.lookup f = none
  | [], _ => rfl
  | q :: fs, h => by
    obtain ⟨k, w⟩ := q
    rw [List.map_cons] at h
    unfold fIx at h
    rw [List.lookup_cons]
    by_cases e : (f == k) = true
    · rw [if_pos e] at h
      cases h
    · rw [if_neg e] at h
      have e' : (f == k) = false := by simpa using e
      rw [e']
      exact fIx_none (Option.map_eq_none_iff.mp h)
theorem ins_some {C C' : Addr} {ks : List Str} {b : Ty} (i : Mem ts (.ins C ks b)) {dd : den b} {xt : List Addr} (o : Own K E L ms ts Γ σ H xt) (hc : ClsI K C C') (hks : ks ≠ []) {mo : Md} (hm : ms[i.ix]? = some mo) (ho : (mo == .o || mo == .r) = true) (e1 : i.get Γ = some dd) :
    ∃ a dx fs, σ[i.ix]? = some (some (.ref a)) ∧ H a = some (.ins C' dx fs) ∧ fs.map (·.1) = ks := by
  obtain ⟨v, f, h1, h2, _⟩ := o.look i hm e1
  have h2 : (rO K H L (.ins C ks b)).1 v dd f := by
    cases mo with
    | o => exact h2
    | r => exact h2
    | _ => cases ho
  rcases h2 with ⟨h, _⟩ | ⟨_, C1, a, dx, fs, g, rfl, rfl, hcn, hl, _, hk, _⟩
  · exact (hks h).elim
  · cases hcn.inj hc.ns
    exact ⟨a, dx, fs, h1, hl, hk⟩
theorem re_meth {C C' : Addr} {ks : List Str} {b bb : Ty} {sp : Sp} {X : XK} {ta : TA} {em : Em} {i : Mem ts (.ins C ks b)} {n : Nat} {mn : Str} {mm : den bb → Option (den ρ × den (.ins C ks b))} {F : Gam ts → Option (den bb)} (h : RE K ms ts (tCall sp [] X (tCons (tVar n) ta)) em ρ (eIO i mm F)) (hF : ∀ Γ d, F Γ = some d → ∃ dd, i.get Γ = some dd) (hc : ClsI K C C') {mo : Md} (hm : ms[i.ix]? = some mo := by rfl) (ho : (mo == .o || mo == .r) = true := by rfl) (hn : i.ix = n := by rfl) (hks : ks ≠ [] := by decide) (hk : fIx ks mn = none := by rfl) :
    RE K ms ts (tMeth C' mn sp [] X (tVar n) ta) em ρ (eIO i mm F) := fun E L Γ σ H Q d Γ' o e q => by
  have hh := h E L Γ σ H Q d Γ' o e q
  obtain ⟨y, e1, _⟩ := bind_some e
  obtain ⟨dd, e2⟩ := hF Γ y e1
  obtain ⟨a, dx, fs, h1, h2, h3⟩ := ins_some i o hc hks hm ho e2
  subst hn
  obtain ⟨v, k1, k2⟩ := hh
  rw [h1] at k1
  cases k1
  exact ⟨_, h1, a, dx, fs, rfl, h2, fIx_none (by rw [h3]; exact hk), k2⟩
theorem eCons_here {tio b : Ty} {i : Mem ts tio} {G : Gam ts → Option (den b)} : ∀ (Γ : Gam ts) (d : den (.cons tio b)), eCons (eV i) G Γ = some d → ∃ dd, i.get Γ = some dd := fun Γ d e => by
  obtain ⟨x, e1, _⟩ := bind_some e
  exact ⟨x, e1⟩
def mkFs (l1 l2 l3 : Addr) : List (Str × V) := [("rules", .ref l1), ("backs", .ref l2), ("known", .ref l3)]
def spMk (C : Addr) : Sp := fun vs H Q _ => ∃ (x dx : Addr), vs = [.ref x] ∧ H x = some (.ins C dx []) ∧ ∀ (H' : Hp) (l1 l2 l3 : Addr), (∀ b o, b ≠ x → H b = some o → H' b = some o) → H l1 = none → H l2 = none → H l3 = none → l1 ≠ l2 → l1 ≠ l3 → l2 ≠ l3 →
  H' x = some (.ins C dx (mkFs l1 l2 l3)) → H' l1 = some (.lst []) → H' l2 = some (.lst []) → H' l3 = some (.dK []) → Q .non H'
theorem n_br : ¬ (("rules" : Str) = "backs") := by decide +kernel
theorem n_kr : ¬ (("rules" : Str) = "known") := by decide +kernel
theorem n_kb : ¬ (("backs" : Str) = "known") := by decide +kernel
theorem putF3 (l1 l2 l3 : Addr) : putF "known" (.ref l3) (putF "backs" (.ref l2) (putF "rules" (.ref l1) [])) = mkFs l1 l2 l3 := by
  show putF "known" (.ref l3) (if ("rules" : Str) = "backs" then _ else (("rules" : Str), V.ref l1) :: putF "backs" (.ref l2) []) = _
  rw [if_neg n_br]
  show (if ("rules" : Str) = "known" then _ else (("rules" : Str), V.ref l1) :: (if ("backs" : Str) = "known" then _ else (("backs" : Str), V.ref l2) :: putF "known" (.ref l3) [])) = _
  rw [if_neg n_kr, if_neg n_kb]
  rfl
theorem mk_read {C : Addr} {D : Ends} {x dx : Addr} {σ : St} {H : Hp} (hx : σ[0]? = some (some (.ref x))) (hl : H x = some (.ins C dx [])) (hc : Cls K C) (h1 : NoAttr K C "rules") (h2 : NoAttr K C "backs") (h3 : NoAttr K C "known")
    (k : ∀ (H' : Hp) (l1 l2 l3 : Addr), (∀ b o, b ≠ x → H b = some o → H' b = some o) → H l1 = none → H l2 = none → H l3 = none → l1 ≠ l2 → l1 ≠ l3 → l2 ≠ l3 →
      H' x = some (.ins C dx (mkFs l1 l2 l3)) → H' l1 = some (.lst []) → H' l2 = some (.lst []) → H' l3 = some (.dK []) → D.nx σ H') :
    tSeq (sFld K (tVar 0) (tLst tNil) "rules") (tSeq (sFld K (tVar 0) (tLst tNil) "backs") (sFld K (tVar 0) tDNewK "known")) D σ H := by
  refine ⟨Nat.zero_le _, fun l1 n1 => ?_⟩
  have x1 : x ≠ l1 := ne_of_none hl n1
  refine ⟨_, hx, x, C, dx, [], rfl, (upd_ne x1).trans hl, hc, h1, by decide, Nat.zero_le _, fun l2 n2 => ?_⟩
  have x2 : x ≠ l2 := fun z => by rw [← z, upd_same] at n2; cases n2
  have d12 : l1 ≠ l2 := fun z => by rw [← z, upd_ne x1.symm, upd_same] at n2; cases n2
  refine ⟨_, hx, x, C, dx, _, rfl, (upd_ne x2).trans upd_same, hc, h2, by show 1 < 1000; decide, fun l3 n3 => ?_⟩
  have x3 : x ≠ l3 := fun z => by rw [← z, upd_same] at n3; cases n3
  have d23 : l2 ≠ l3 := fun z => by rw [← z, upd_ne x2.symm, upd_same] at n3; cases n3
  have d13 : l1 ≠ l3 := fun z => by rw [← z, upd_ne x1.symm, upd_ne d12, upd_ne x1.symm, upd_same] at n3; cases n3
  refine ⟨_, hx, x, C, dx, _, rfl, (upd_ne x3).trans upd_same, hc, h3, ?_, ?_⟩
  · have := length_putF "backs" (.ref l2) (putF "rules" (.ref l1) [])
    have h : (putF "rules" (V.ref l1) []).length = 1 := rfl
    omega
  have m2 : H l2 = none := by rw [upd_ne x2.symm, upd_ne d12.symm] at n2; exact n2
  have m3 : H l3 = none := by rw [upd_ne x3.symm, upd_ne d23.symm, upd_ne x3.symm, upd_ne d13.symm] at n3; exact n3
  refine k _ l1 l2 l3 (fun b o hb e => ?_) n1 m2 m3 d12 d13 d23 ?_ ?_ ?_ ?_
  · rw [upd_ne hb, upd_ne (ne_of_none e m3), upd_ne hb, upd_ne (ne_of_none e m2), upd_ne hb, upd_ne (ne_of_none e n1)]
    exact e
  · rw [upd_same, putF3]
  · rw [upd_ne x1.symm, upd_ne d13, upd_ne x1.symm, upd_ne d12, upd_ne x1.symm, upd_same]
  · rw [upd_ne x2.symm, upd_ne d23, upd_ne x2.symm, upd_same]
  · rw [upd_ne x3.symm, upd_same]
def eMk {ts : List Ty} : Gam ts → Option (den tyMk) := fun _ => some ([], [], [])
theorem rp_mk {C : Addr} {X : XK} (hc : ClsI K 0 C) : RP K ms ts (tMake C (spMk C) [] X tNil) .o tyMk eMk := fun E L Γ σ H xt Q d o e q => by
  cases e
  intro x dx hx hdx hne
  refine ⟨x, dx, rfl, upd_same, fun H' l1 l2 l3 k n1 n2 n3 d12 d13 d23 e0 e1 e2 e3 => ⟨rfl, ?_⟩⟩
  have low : ∀ {l}, (upd (upd H dx (.own x)) x (.ins C dx [])) l = none → l ≠ x ∧ l ≠ dx ∧ H l = none := fun {l} n => by
    have z1 : l ≠ x := fun z => by rw [z, upd_same] at n; cases n
    have z2 : l ≠ dx := fun z => by rw [z, upd_ne hne, upd_same] at n; cases n
    rw [upd_ne z1, upd_ne z2] at n
    exact ⟨z1, z2, n⟩
  obtain ⟨a1, b1, m1⟩ := low n1
  obtain ⟨a2, b2, m2⟩ := low n2
  obtain ⟨a3, b3, m3⟩ := low n3
  have hd : H' dx = some (.own x) := k dx _ hne (by rw [upd_ne hne, upd_same])
  refine q (.ref x) H' (fun b o hb => k b o (ne_of_none hb hx) (by rw [upd_ne (ne_of_none hb hx), upd_ne (ne_of_none hb hdx)]; exact hb)) ⟨[x, dx, l1, l2, l3], fun _ => False, .inr ⟨by decide, C, x, dx, mkFs l1 l2 l3, [l1, l2, l3], rfl, rfl, hc.ns, e0, hd, rfl, ?_⟩, ?_, fun a ha => ?_, fun a h => h.elim, fun a _ h => h⟩
  · exact ⟨.ref l1, _, [l1], [l2, l3], rfl, rfl, .inl ⟨l1, [], [], rfl, rfl, e1, rfl⟩, .ref l2, _, [l2], [l3], rfl, rfl, .inl ⟨l2, [], [], rfl, rfl, e2, rfl⟩, .ref l3, rfl, .inl (nst_owned ⟨Nat.zero_le _, List.nodup_nil, (fun C z => by rw [e3] at z; cases z), .inl ⟨rfl, e3⟩⟩)⟩
  · simp only [List.nodup_cons, List.mem_cons, List.not_mem_nil, or_false, not_or, not_false_eq_true, List.nodup_nil, and_true]
    exact ⟨⟨hne.symm, a1.symm, a2.symm, a3.symm⟩, ⟨b1.symm, b2.symm, b3.symm⟩, ⟨d12, d13⟩, d23⟩
  · simp only [List.mem_cons, List.not_mem_nil, or_false] at ha
    rcases ha with rfl | rfl | rfl | rfl | rfl
    · exact ⟨hx, by rw [e0]; rfl⟩
    · exact ⟨hdx, by rw [hd]; rfl⟩
    · exact ⟨m1, by rw [e1]; rfl⟩
    · exact ⟨m2, by rw [e2]; rfl⟩
    · exact ⟨m3, by rw [e3]; rfl⟩
structure MkT (K : PySem.W.Frag) (mg : Str → Option Value) (C : Addr) : Prop where
  ci : ClsI K 0 C
  gl : mg "Making" = some (.ref C)
  n_rules : NoAttr K C "rules"
  n_backs : NoAttr K C "backs"
  n_known : NoAttr K C "known"
structure DfM (K : PySem.W.Frag) (mg : Str → Option Value) (x qual : Str) (st : Stmt) (ps : List Str) (C f : Addr) (fd : FuncData) : Prop where
  fn : Fun K x qual st f fd
  mt : MkT K mg C
  me : Meth K C x f
  bi : Binds K fd ps []
structure DfI (K : PySem.W.Frag) (mg : Str → Option Value) (x qual : Str) (st : Stmt) (ps : List Str) (C f : Addr) (fd : FuncData) : Prop where
  fn : Fun K x qual st f fd
  mt : MkT K mg C
  mm : Mk K C f
  bi : Binds K fd ps []
end
end VV
namespace VV
open PySem L2
open PyProof.Rows hiding St
section
variable {K : KW} {E : Ent} {ms : List Md} {ts : List Ty} {L L1 : Reg} {Γ Γ1 : Gam ts} {σ σ1 : St} {H H' H1 H2 : Hp} {xt : List Addr} {rm : Rm} {ρ : Ty} {S : Reg}
def fLZip {α β : Type} (a : List α) (b : List β) : Option (List (α × β)) := okIf (decide (a.length = b.length)) (a.zip b)
theorem zip_f2 {R : Reg} {t u : Ty} : ∀ {as : List Addr} {xs ys : List V} {dx : List (den t)} {dy : List (den u)}, as.length = xs.length → F2 (rS K H R t).1 xs dx → F2 (rS K H R t).1 xs dx → F2 (rS K H R u).1 ys dy → ys.length = xs.length →
    (∀ (j : Nat) (a : Addr), as[j]? = some a → ∃ x y, xs[j]? = some x ∧ ys[j]? = some y ∧ H a = some (.tup [x, y])) → F2 (rS K H R (.tup (.cons t (.last u)))).1 (as.map .ref) (dx.zip dy)
  | [], [], [], [], [], _, _, _, _, _, _ => True.intro
  | a :: as, x :: xs, y :: ys, d :: dx, e :: dy, h1, h2, h3, h4, h5, h6 => by
    obtain ⟨x0, y0, e1, e2, e3⟩ := h6 0 a rfl
    cases e1
    cases e2
    exact ⟨⟨a, _, rfl, e3, x, [y], rfl, h2.1, y, rfl, h4.1⟩, zip_f2 (by simpa using h1) h2.2 h3.2 h4.2 (by simpa using h5) fun j b hj => h6 (j + 1) b (by simpa using hj)⟩
  | [], x :: xs, _, _, _, h1, _, _, _, _, _ => by simp at h1
  | a :: as, [], _, _, _, h1, _, _, _, _, _ => by simp at h1
  | [], [], y :: ys, _, _, _, _, _, _, h5, _ => by simp at h5
  | a :: as, x :: xs, [], _, _, _, _, _, _, h5, _ => by simp at h5
  | [], [], [], d :: dx, _, _, h2, _, _, _, _ => h2.elim
  | [], [], [], [], e :: dy, _, _, _, h4, _, _ => h4.elim
  | a :: as, x :: xs, y :: ys, [], _, _, h2, _, _, _, _ => h2.elim
  | a :: as, x :: xs, y :: ys, d :: dx, [], _, _, _, h4, _, _ => h4.elim
theorem rp_lzip {t u : Ty} {m m' : Em} {ta tb : TE} {F : Gam ts → Option (List (den t))} {G : Gam ts → Option (List (den u))} (h : RP K ms ts ta m (.list t) F) (h' : RP K ms ts tb m' (.list u) G) (ht : t.frz = true := by rfl) (hu : u.frz = true := by rfl) :
    RP K ms ts (tLZip K (tCons ta (tCons tb tNil))) .o (.list (.tup (.cons t (.last u)))) (e2 fLZip F G) := fun E L Γ σ H xt Q d o e q => by
  obtain ⟨x, ex, e⟩ := bind_some e
  obtain ⟨y, ey, e⟩ := bind_some e
  dsimp only [fLZip, okIf] at e
  split at e
  · rename_i hl
    cases e
    have hl := of_decide_eq_true hl
    refine h E L Γ σ H xt _ x o ex fun v H1 s1 r1 => h' E L Γ σ H1 xt _ y (o.same s1) ey fun w H2 s2 r2 => ?_
    obtain ⟨a, xs, rfl, ha, ka⟩ := r1.b
    obtain ⟨b, ys, rfl, hb, kb⟩ := r2.b
    have lx := ka.length
    have ly := kb.length
    refine ⟨a, b, xs, ys, rfl, (LstR.mono (Cov.of_same s2 fun _ h _ => h) (Stb.of_same s2) ha).seq, hb.seq, by omega, fun H3 q0 as k n1 n2 n3 n4 => ?_⟩
    have s3 : Same H2 H3 := k
    have f1 : F2 (rS K H3 (fun _ => True) t).1 xs x := ka.imp fun _ _ z => rs_on s3 (rs_on s2 z)
    have f2 : F2 (rS K H3 (fun _ => True) u).1 ys y := kb.imp fun _ _ z => rs_on s3 z
    have f3 := zip_f2 n2 f1 f1 f2 (by omega) n3
    have hf : (Ty.tup (.cons t (.last u))).frz = true := by
      simp only [Ty.frz, Bool.and_eq_true]
      exact ⟨ht, hu⟩
    refine q _ H3 ((s1.trans s2).trans s3) ⟨[q0], fun _ => False, ⟨q0, _, [], rfl, rfl, n4, kids_frz hf f3⟩, by simp, fun a ha => ?_, fun a h => h.elim, fun a _ h => h⟩
    rw [List.mem_singleton.mp ha]
    exact ⟨(s1.trans s2).free n1, by rw [n4]; rfl⟩
  · cases e
end
end VV
namespace VV
open PySem L2
theorem forL_inv {G ρ α : Type} {bind : α → G → G} {mask : G → G} {body : G → Option (Fl G ρ)} (I : List α → G → Prop) : ∀ (xs pre : List α) (Γ : G), I pre Γ →
    (∀ p x q Γ, pre ++ xs = p ++ x :: q → I p Γ → ∃ Γ', (body (bind x Γ) = some (.nx Γ') ∨ body (bind x Γ) = some (.ct Γ')) ∧ I (p ++ [x]) (mask Γ')) → ∃ Γ', forL bind mask body xs Γ = some (.nx Γ') ∧ I (pre ++ xs) Γ'
  | [], pre, Γ, h, _ => ⟨Γ, rfl, by simpa using h⟩
  | x :: xs, pre, Γ, h, hs => by
    obtain ⟨Γ', e, h'⟩ := hs pre x xs Γ rfl h
    obtain ⟨Γ2, e2, h2⟩ := forL_inv I xs (pre ++ [x]) (mask Γ') h' fun p y q Γ e => hs p y q Γ (by rw [← e]; simp)
    refine ⟨Γ2, ?_, by simpa using h2⟩
    rcases e with e | e
    · rw [forL, e]; exact e2
    · rw [forL, e]; exact e2
theorem forL_find {G ρ α : Type} {bind : α → G → G} {mask : G → G} {body : G → Option (Fl G ρ)} {Γ : G} (r : α → Option ρ) : ∀ (xs : List α), (∀ x ∈ xs, (r x = none ∧ ∃ Γ', body (bind x Γ) = some (.nx Γ') ∧ mask Γ' = Γ) ∨ ∃ d Γ', r x = some d ∧ body (bind x Γ) = some (.rt d Γ')) →
    (xs.findSome? r = none → forL bind mask body xs Γ = some (.nx Γ)) ∧ ∀ d, xs.findSome? r = some d → ∃ Γ', forL bind mask body xs Γ = some (.rt d Γ')
  | [], _ => ⟨fun _ => rfl, fun d h => by simp at h⟩
  | x :: xs, h => by
    have ih := forL_find r xs fun y hy => h y (List.mem_cons_of_mem _ hy)
    rcases h x List.mem_cons_self with ⟨h1, Γ', e, e'⟩ | ⟨d, Γ', h1, e⟩
    · rw [List.findSome?_cons, h1, forL, e]
      show (_ → forL bind mask body xs (mask Γ') = _) ∧ ∀ d, _ → ∃ Γ', forL bind mask body xs (mask _) = _
      rw [e']
      exact ih
    · rw [List.findSome?_cons, h1, forL, e]
      exact ⟨fun h => by simp at h, fun d' h => ⟨Γ', by cases h; rfl⟩⟩
theorem sFor_inv {G ρ α : Type} {F : G → Option (List α)} {bind : α → G → G} {mask : G → G} {body : G → Option (Fl G ρ)} {Γ : G} {xs : List α} (I : List α → G → Prop) (hF : F Γ = some xs) (h0 : I [] (mask Γ))
    (hs : ∀ p x q Γ, xs = p ++ x :: q → I p Γ → ∃ Γ', (body (bind x Γ) = some (.nx Γ') ∨ body (bind x Γ) = some (.ct Γ')) ∧ I (p ++ [x]) (mask Γ')) : ∃ Γ', sFor F bind mask body Γ = some (.nx Γ') ∧ I xs Γ' := by
  unfold sFor
  rw [hF]
  exact forL_inv I xs [] (mask Γ) h0 hs
theorem sFor_find {G ρ α : Type} {F : G → Option (List α)} {bind : α → G → G} {mask : G → G} {body : G → Option (Fl G ρ)} {Γ Γ0 : G} {xs : List α} (r : α → Option ρ) (hF : F Γ = some xs) (h0 : mask Γ = Γ0)
    (hs : ∀ x ∈ xs, (r x = none ∧ ∃ Γ', body (bind x Γ0) = some (.nx Γ') ∧ mask Γ' = Γ0) ∨ ∃ d Γ', r x = some d ∧ body (bind x Γ0) = some (.rt d Γ')) :
    (xs.findSome? r = none → sFor F bind mask body Γ = some (.nx Γ0)) ∧ ∀ d, xs.findSome? r = some d → ∃ Γ', sFor F bind mask body Γ = some (.rt d Γ') := by
  unfold sFor
  rw [hF]
  subst h0
  exact forL_find r xs hs
theorem sFor_all {G ρ α : Type} {F : G → Option (List α)} {bind : α → G → G} {mask : G → G} {body : G → Option (Fl G ρ)} {Γ Γ0 : G} {xs : List α} (hF : F Γ = some xs) (h0 : mask Γ = Γ0)
    (hs : ∀ x ∈ xs, ∃ Γ', body (bind x Γ0) = some (.nx Γ') ∧ mask Γ' = Γ0) : sFor F bind mask body Γ = some (.nx Γ0) :=
  (sFor_find (fun _ => none) hF h0 fun x hx => .inl ⟨rfl, hs x hx⟩).1 (by
    rw [List.findSome?_eq_none_iff]
    exact fun _ _ => rfl)
theorem sSeq_nx {G ρ : Type} {F F' : G → Option (Fl G ρ)} {Γ Γ' : G} (h : F Γ = some (.nx Γ')) : sSeq F F' Γ = F' Γ' := by
  unfold sSeq
  rw [h]
  rfl
theorem rng_split {n : Nat} {p q : List Int} {x : Int} (h : rng 0 (n : Int) = p ++ x :: q) : p.length < n ∧ x = (p.length : Int) := by
  have h1 := congrArg List.length h
  rw [rng_len] at h1
  simp only [List.length_append, List.length_cons] at h1
  have h2 : p.length < n := by omega
  have h3 := rng_get (lo := 0) (hi := (n : Int)) (i := p.length) (by omega)
  rw [h] at h3
  simp at h3
  exact ⟨h2, h3⟩
theorem fRng1_of {n : Nat} (h : n < 2 ^ 60) : fRng1 (n : Int) = some (rng 0 n) := by
  unfold fRng1 okIf
  rw [if_pos (decide_eq_true (by omega))]
theorem mulOk_of {i j : Int} (a b : Nat) (ha : i.natAbs < 2 ^ a) (hb : j.natAbs < 2 ^ b) (h : a + b ≤ 999998) : mulOk i j = true := by
  refine decide_eq_true ?_
  have h1 : i.natAbs.log2 < a + 1 := PySem.Flt.log2_lt_of (Nat.succ_pos a) (Nat.lt_of_lt_of_le ha (Nat.pow_le_pow_right (by decide) (Nat.le_succ a)))
  have h2 : j.natAbs.log2 < b + 1 := PySem.Flt.log2_lt_of (Nat.succ_pos b) (Nat.lt_of_lt_of_le hb (Nat.pow_le_pow_right (by decide) (Nat.le_succ b)))
  omega
theorem divOk_of {j : Int} (b : Nat) (h : 0 < j) (hb : j.natAbs < 2 ^ b) (hb' : b ≤ 8999) : divOk j = true := by
  refine decide_eq_true ⟨h, ?_⟩
  have h2 : j.natAbs.log2 < b + 1 := PySem.Flt.log2_lt_of (Nat.succ_pos b) (Nat.lt_of_lt_of_le hb (Nat.pow_le_pow_right (by decide) (Nat.le_succ b)))
  omega
theorem abs_mul {i j : Int} {a b : Nat} (ha : i.natAbs < 2 ^ a) (hb : j.natAbs < 2 ^ b) : (i * j).natAbs < 2 ^ (a + b) := wide_lt ha hb
theorem abs_add {i j : Int} {a : Nat} (ha : i.natAbs < 2 ^ a) (hb : j.natAbs < 2 ^ a) : (i + j).natAbs < 2 ^ (a + 1) := by
  have h1 := Int.natAbs_add_le i j
  have : 2 ^ (a + 1) = 2 ^ a + 2 ^ a := by rw [Nat.pow_succ]; omega
  omega
theorem abs_le {i : Int} {a b : Nat} (h : i.natAbs < 2 ^ a) (hab : a ≤ b) : i.natAbs < 2 ^ b := Nat.lt_of_lt_of_le h (Nat.pow_le_pow_right (by decide) hab)
theorem abs_mod {i j : Int} {b : Nat} (h : 0 < j) (hb : j.natAbs < 2 ^ b) : (i % j).natAbs < 2 ^ b := by
  have h1 := Int.emod_nonneg i (Int.ne_of_gt h)
  have h2 := Int.emod_lt_of_pos i h
  omega
theorem okIf_true {α : Type} {c : Bool} {a : α} (h : c = true) : okIf c a = some a := by rw [h]; rfl
theorem fInS_one (x : Str) (c : Nat) : fInS ⟨#[c]⟩ x = some (decide (c ∈ x.cps.toList)) := congrArg some (StrLaws.found_one x c)
def Ty.isRow : Ty → Bool
  | .last _ => true
  | .cons _ _ => true
  | _ => false
def Ty.nn : Ty → Bool
  | .non => false
  | .opt _ => false
  | .any => false
  | .exn => false
  | .alt _ _ => false
  | .ins _ _ _ => false
  | .own t => !t.isRow && t.nn
  | _ => true
def Ty.inj : Ty → Bool
  | .any => false
  | .exn => false
  | .alt _ _ => false
  | .dict _ _ => false
  | .ins _ _ _ => false
  | .opt t => !t.isRow && (t.nn && t.inj)
  | .vtup t => !t.isRow && t.inj
  | .list t => !t.isRow && t.inj
  | .own t => !t.isRow && t.inj
  | .hl b => b.isRow && b.inj
  | .tup b => b.isRow && b.inj
  | .last a => !a.isRow && a.inj
  | .cons a b => !a.isRow && (a.inj && (b.isRow && b.inj))
  | _ => true
theorem nn_emb : ∀ (t : Ty), t.nn = true → t.isRow = false → ∀ a : den t, (emb t).1 a ≠ .none
  | .bool, _, _, a => by simp [emb]
  | .int, _, _, a => by simp [emb]
  | .str, _, _, a => by simp [emb]
  | .vtup _, _, _, a => by simp [emb]
  | .list _, _, _, a => by simp [emb]
  | .dict _ _, _, _, a => by simp [emb]
  | .own t, h, _, a => by
    simp only [Ty.nn, Bool.and_eq_true, Bool.not_eq_true'] at h
    exact nn_emb t h.2 h.1 a
  | .tup _, _, _, a => by simp [emb]
  | .hl _, _, _, a => by simp [emb]
  | .non, h, _, _ => by cases h
  | .opt _, h, _, _ => by cases h
  | .any, h, _, _ => by cases h
  | .alt _ _, h, _, _ => by cases h
  | .exn, h, _, _ => by cases h
  | .ins _ _ _, h, _, _ => by cases h
theorem eqvAll_map_iff {α : Type} {f : α → PyData} (h : ∀ a b : α, PyData.eqv (f a) (f b) = true ↔ a = b) : ∀ xs ys : List α, PyData.eqvAll (xs.map f) (ys.map f) = true ↔ xs = ys
  | [], [] => by simp [PyData.eqvAll]
  | [], _ :: _ => by simp [PyData.eqvAll]
  | _ :: _, [] => by simp [PyData.eqvAll]
  | x :: xs, y :: ys => by
    simp only [List.map_cons, PyData.eqvAll, Bool.and_eq_true, h x y, eqvAll_map_iff h xs ys, List.cons.injEq]
theorem eqv_none : ∀ {p : PyData}, p ≠ .none → PyData.eqv .none p = false ∧ PyData.eqv p .none = false := fun {p} h => by
  cases p <;> first | exact absurd rfl h | exact ⟨rfl, rfl⟩
theorem eqv_iff : ∀ t : Ty, t.inj = true → (t.isRow = false → ∀ a b : den t, PyData.eqv ((emb t).1 a) ((emb t).1 b) = true ↔ a = b) ∧ (t.isRow = true → ∀ a b : den t, PyData.eqvAll ((emb t).2 a) ((emb t).2 b) = true ↔ a = b) := by
  intro t
  induction t with
  | non => exact fun _ => ⟨fun _ a b => by simp [emb, PyData.eqv], fun h => by cases h⟩
  | bool => exact fun _ => ⟨fun _ a b => by simp [emb, PyData.eqv], fun h => by cases h⟩
  | int => exact fun _ => ⟨fun _ a b => by simp [emb, PyData.eqv], fun h => by cases h⟩
  | str => exact fun _ => ⟨fun _ a b => by simp [emb, PyData.eqv], fun h => by cases h⟩
  | any => exact fun h => by cases h
  | alt _ _ _ _ => exact fun h => by cases h
  | exn => exact fun h => by cases h
  | dict _ _ => exact fun h => by cases h
  | ins _ _ _ _ => exact fun h => by cases h
  | opt t ih =>
    intro q
    simp only [Ty.inj, Bool.and_eq_true, Bool.not_eq_true'] at q
    refine ⟨fun _ a b => ?_, fun h => by cases h⟩
    have h1 := (ih q.2.2).1 q.1
    cases a with
    | none =>
      cases b with
      | none => simp [emb, PyData.eqv]
      | some y => simp [emb, (eqv_none (nn_emb t q.2.1 q.1 y)).1]
    | some x =>
      cases b with
      | none => simp [emb, (eqv_none (nn_emb t q.2.1 q.1 x)).2]
      | some y => simpa [emb] using h1 x y
  | vtup t ih =>
    intro q
    simp only [Ty.inj, Bool.and_eq_true, Bool.not_eq_true'] at q
    exact ⟨fun _ a b => by simpa [emb, PyData.eqv] using eqvAll_map_iff ((ih q.2).1 q.1) a b, fun h => by cases h⟩
  | list t ih =>
    intro q
    simp only [Ty.inj, Bool.and_eq_true, Bool.not_eq_true'] at q
    exact ⟨fun _ a b => by simpa [emb, PyData.eqv] using eqvAll_map_iff ((ih q.2).1 q.1) a b, fun h => by cases h⟩
  | own t ih =>
    intro q
    simp only [Ty.inj, Bool.and_eq_true, Bool.not_eq_true'] at q
    exact ⟨fun _ => (ih q.2).1 q.1, fun h => by cases h⟩
  | tup b ih =>
    intro q
    simp only [Ty.inj, Bool.and_eq_true] at q
    exact ⟨fun _ a b' => by simpa [emb, PyData.eqv] using (ih q.2).2 q.1 a b', fun h => by cases h⟩
  | hl b ih =>
    intro q
    simp only [Ty.inj, Bool.and_eq_true] at q
    exact ⟨fun _ a b' => by simpa [emb, PyData.eqv] using (ih q.2).2 q.1 a b', fun h => by cases h⟩
  | last a ih =>
    intro q
    simp only [Ty.inj, Bool.and_eq_true, Bool.not_eq_true'] at q
    exact ⟨fun h => (by cases h), fun _ x y => (by simpa [emb, PyData.eqvAll] using (ih q.2).1 q.1 x y)⟩
  | cons a b iha ihb =>
    intro q
    simp only [Ty.inj, Bool.and_eq_true, Bool.not_eq_true'] at q
    refine ⟨fun h => (by cases h), fun _ x y => ?_⟩
    have h1 := (iha q.2.1).1 q.1 x.1 y.1
    have h2 := (ihb q.2.2.2).2 q.2.2.1 x.2 y.2
    simp only [emb, PyData.eqvAll, Bool.and_eq_true, h1, h2]
    exact ⟨fun h => Prod.ext h.1 h.2, fun h => by rw [h]; exact ⟨rfl, rfl⟩⟩
def okEq (t : Ty) : Bool := !t.isRow && t.inj
theorem eqv_eq {t : Ty} (h : okEq t = true) (a b : den t) : PyData.eqv ((emb t).1 a) ((emb t).1 b) = true ↔ a = b := by
  simp only [okEq, Bool.and_eq_true, Bool.not_eq_true'] at h
  exact (eqv_iff t h.2).1 h.1 a b
open Classical in
theorem fEqD_eq {t : Ty} (h : okEq t = true) (a b : den t) : fEqD t a b = some (decide (a = b)) := by
  unfold fEqD
  congr 1
  rw [Bool.eq_iff_iff, eqv_eq h, decide_eq_true_iff]
open Classical in
theorem fNeD_eq {t : Ty} (h : okEq t = true) (a b : den t) : fNeD t a b = some (!decide (a = b)) := by
  unfold fNeD
  rw [show PyData.eqv ((emb t).1 a) ((emb t).1 b) = decide (a = b) from by rw [Bool.eq_iff_iff, eqv_eq h, decide_eq_true_iff]]
open Classical in
theorem fEqD_same {t : Ty} (h : okEq t = true) (a : den t) : fEqD t a a = some true := by
  rw [fEqD_eq h, decide_eq_true rfl]
open Classical in
theorem fNeD_same {t : Ty} (h : okEq t = true) (a : den t) : fNeD t a a = some false := by
  rw [fNeD_eq h, decide_eq_true rfl]
  rfl
open Classical in
theorem fEqD_ne {t : Ty} (h : okEq t = true) {a b : den t} (hn : a ≠ b) : fEqD t a b = some false := by
  rw [fEqD_eq h, decide_eq_false hn]
open Classical in
theorem fNeD_ne {t : Ty} (h : okEq t = true) {a b : den t} (hn : a ≠ b) : fNeD t a b = some true := by
  rw [fNeD_eq h, decide_eq_false hn]
  rfl
open Classical in
theorem fInD_eq {t : Ty} (h : okEq t = true) (a : den t) (b : List (den t)) : fInD t a b = some (decide (a ∈ b)) := by
  unfold fInD
  congr 1
  rw [Bool.eq_iff_iff, List.any_eq_true, decide_eq_true_iff]
  constructor
  · rintro ⟨x, hx, e⟩
    rw [eqv_eq h] at e
    exact e ▸ hx
  · exact fun hx => ⟨a, hx, (eqv_eq h a a).mpr rfl⟩
open Classical in
theorem fNotInD_eq {t : Ty} (h : okEq t = true) (a : den t) (b : List (den t)) : fNotInD t a b = some (!decide (a ∈ b)) := by
  have := fInD_eq h a b
  unfold fInD at this
  unfold fNotInD
  rw [Option.some.inj this]
open Classical in
theorem fNotInD_mem {t : Ty} (h : okEq t = true) {a : den t} {b : List (den t)} (hm : a ∈ b) : fNotInD t a b = some false := by
  rw [fNotInD_eq h, decide_eq_true hm]
  rfl
open Classical in
theorem fNotInD_not {t : Ty} (h : okEq t = true) {a : den t} {b : List (den t)} (hm : a ∉ b) : fNotInD t a b = some true := by
  rw [fNotInD_eq h, decide_eq_false hm]
  rfl
theorem lcL_all {G α β : Type} {bind : α → G → G} {elt : G → Option β} {Γ : G} (f : α → β) : ∀ (xs : List α), (∀ x ∈ xs, elt (bind x Γ) = some (f x)) → lcL bind eYes elt Γ xs = some (xs.map f)
  | [], _ => rfl
  | x :: xs, h => by
    show (some true).bind _ = _
    rw [Option.bind_some, if_pos rfl, h x List.mem_cons_self, Option.bind_some, lcL_all f xs fun y hy => h y (List.mem_cons_of_mem _ hy)]
    rfl
theorem lcL_filter {G α β : Type} {bind : α → G → G} {cond : G → Option Bool} {elt : G → Option β} {Γ : G} (c : α → Bool) (f : α → β) : ∀ (xs : List α), (∀ x ∈ xs, cond (bind x Γ) = some (c x)) → (∀ x ∈ xs, c x = true → elt (bind x Γ) = some (f x)) → lcL bind cond elt Γ xs = some ((xs.filter c).map f)
  | [], _, _ => rfl
  | x :: xs, h, h' => by
    have ih := lcL_filter c f xs (fun y hy => h y (List.mem_cons_of_mem _ hy)) fun y hy => h' y (List.mem_cons_of_mem _ hy)
    show (cond (bind x Γ)).bind _ = _
    rw [h x List.mem_cons_self, Option.bind_some]
    cases hc : c x with
    | true => rw [if_pos rfl, h' x List.mem_cons_self hc, Option.bind_some, ih, List.filter_cons_of_pos hc]; rfl
    | false => rw [if_neg Bool.false_ne_true, ih, List.filter_cons_of_neg (by simp [hc])]
theorem eLc_of {G α β : Type} {src : G → Option (List α)} {bind : α → G → G} {mask : G → G} {cond : G → Option Bool} {elt : G → Option β} {Γ : G} {xs : List α} {r : List β} (h1 : src Γ = some xs) (h2 : lcL bind cond elt (mask Γ) xs = some r) (h3 : lenOk r.length = true) : eLc src bind mask cond elt Γ = some r := by
  unfold eLc
  rw [h1, Option.bind_some, h2, Option.bind_some]
  exact okIf_true h3
theorem lenOk_le {n : Nat} (h : n ≤ 100000) : lenOk n = true := by
  refine decide_eq_true ?_
  rw [sizeLine_eq]
  omega
theorem cut_len {α : Type} (xs : List α) (lo hi : Option Int) : (cutD xs lo hi).length ≤ xs.length := by
  unfold cutD
  rw [List.length_take, List.length_drop]
  omega
theorem atI_of {α : Type} {xs : List α} {i : Int} (h0 : 0 ≤ i) (h1 : i < xs.length) : atI xs i = some (xs[i.toNat]'(by omega)) := by
  obtain ⟨n, rfl⟩ := Int.eq_ofNat_of_zero_le h0
  exact atI_nat (List.getElem?_eq_getElem (by omega))
theorem atI_some {α : Type} {xs : List α} {i : Int} (h0 : 0 ≤ i) (h1 : i < xs.length) : ∃ x, atI xs i = some x ∧ x ∈ xs := ⟨_, atI_of h0 h1, List.getElem_mem _⟩
end VV
namespace VV
open PySem L2
open PySem.W (dataLe)
theorem eLc_map {G α β : Type} {src : G → Option (List α)} {bind : α → G → G} {mask : G → G} {elt : G → Option β} {Γ : G} {xs : List α} (f : α → β) (h1 : src Γ = some xs) (hl : xs.length ≤ 16000000) (h2 : ∀ x ∈ xs, elt (bind x (mask Γ)) = some (f x)) : eLc src bind mask eYes elt Γ = some (xs.map f) := by
  refine eLc_of h1 (lcL_all f xs h2) (decide_eq_true ?_)
  rw [List.length_map, sizeLine_eq]
  omega
theorem nodup_sub {α : Type} [DecidableEq α] : ∀ {l m : List α}, l.Nodup → (∀ x ∈ l, x ∈ m) → l.length ≤ m.length
  | [], _, _, _ => Nat.zero_le _
  | x :: l, m, nd, h => by
    have nd := List.nodup_cons.mp nd
    have hx := h x List.mem_cons_self
    have := nodup_sub (m := m.erase x) nd.2 fun y hy => (List.mem_erase_of_ne fun e => nd.1 (by rw [← e]; exact hy)).mpr (h y (List.mem_cons_of_mem _ hy))
    rw [List.length_erase_of_mem hx] at this
    have := List.length_pos_of_mem hx
    simp only [List.length_cons]
    omega
theorem keyS_inj {t : Ty} (h : (t == .int || t == .str) = true) {a b : den t} (e : keyS t a = keyS t b) : a = b := by
  cases t <;> first | (cases h; done) | skip
  · exact Sum.inl.inj (Option.some.inj e)
  · exact Sum.inr.inj (Option.some.inj e)
theorem keyS_some {t : Ty} (h : (t == .int || t == .str) = true) (a : den t) : ∃ k, keyS t a = some k := by
  cases t <;> first | (cases h; done) | exact ⟨_, rfl⟩
theorem keyRow_some : ∀ {b : Ty}, okRow b = true → ∀ d : den b, ∃ k, keyRow b d = some k
  | .last a, h, d => by
    obtain ⟨k, e⟩ := keyS_some (t := a) h d
    exact ⟨[k], by unfold keyRow; rw [e]; rfl⟩
  | .cons a b, h, d => by
    simp only [okRow, Bool.and_eq_true] at h
    obtain ⟨k, e⟩ := keyS_some h.1 d.1
    obtain ⟨ks, e'⟩ := keyRow_some h.2 d.2
    exact ⟨k :: ks, by unfold keyRow; rw [e, e']; rfl⟩
  | .non, h, _ => by cases h
  | .bool, h, _ => by cases h
  | .int, h, _ => by cases h
  | .str, h, _ => by cases h
  | .any, h, _ => by cases h
  | .alt _ _, h, _ => by cases h
  | .exn, h, _ => by cases h
  | .opt _, h, _ => by cases h
  | .vtup _, h, _ => by cases h
  | .list _, h, _ => by cases h
  | .dict _ _, h, _ => by cases h
  | .own _, h, _ => by cases h
  | .hl _, h, _ => by cases h
  | .ins _ _ _, h, _ => by cases h
  | .tup _, h, _ => by cases h
theorem keyRow_inj : ∀ {b : Ty}, okRow b = true → ∀ {d e : den b}, keyRow b d = keyRow b e → d = e
  | .last a, h, d, e, q => by
    obtain ⟨k, e1⟩ := keyS_some (t := a) h d
    obtain ⟨l, e2⟩ := keyS_some (t := a) h e
    unfold keyRow at q
    rw [e1, e2] at q
    refine keyS_inj (t := a) h ?_
    rw [e1, e2]
    simpa using q
  | .cons a b, h, d, e, q => by
    simp only [okRow, Bool.and_eq_true] at h
    obtain ⟨k, e1⟩ := keyS_some h.1 d.1
    obtain ⟨l, e2⟩ := keyS_some h.1 e.1
    obtain ⟨ks, e3⟩ := keyRow_some h.2 d.2
    obtain ⟨ls, e4⟩ := keyRow_some h.2 e.2
    unfold keyRow at q
    rw [e1, e2, e3, e4] at q
    have q : k :: ks = l :: ls := Option.some.inj q
    have q1 := (List.cons.inj q).1
    have q2 := (List.cons.inj q).2
    exact Prod.ext (keyS_inj h.1 (by rw [e1, e2, q1])) (keyRow_inj h.2 (by rw [e3, e4, q2]))
  | .non, h, _, _, _ => by cases h
  | .bool, h, _, _, _ => by cases h
  | .int, h, _, _, _ => by cases h
  | .str, h, _, _, _ => by cases h
  | .any, h, _, _, _ => by cases h
  | .alt _ _, h, _, _, _ => by cases h
  | .exn, h, _, _, _ => by cases h
  | .opt _, h, _, _, _ => by cases h
  | .vtup _, h, _, _, _ => by cases h
  | .list _, h, _, _, _ => by cases h
  | .dict _ _, h, _, _, _ => by cases h
  | .own _, h, _, _, _ => by cases h
  | .hl _, h, _, _, _ => by cases h
  | .ins _ _ _, h, _, _, _ => by cases h
  | .tup _, h, _, _, _ => by cases h
theorem keyVs_some {t : Ty} (h : (t == .int || t == .str) = true) : ∀ d : List (den t), ∃ k, keyVs t d = some k
  | [] => ⟨[], rfl⟩
  | x :: d => by
    obtain ⟨k, e⟩ := keyS_some h x
    obtain ⟨ks, e'⟩ := keyVs_some h d
    exact ⟨k :: ks, by unfold keyVs; rw [e, e']; rfl⟩
theorem keyVs_inj {t : Ty} (h : (t == .int || t == .str) = true) : ∀ {d e : List (den t)}, keyVs t d = keyVs t e → d = e
  | [], [], _ => rfl
  | [], y :: e, q => by
    obtain ⟨k, e1⟩ := keyS_some h y
    obtain ⟨ks, e2⟩ := keyVs_some h e
    unfold keyVs at q
    rw [e1, e2] at q
    cases q
  | x :: d, [], q => by
    obtain ⟨k, e1⟩ := keyS_some h x
    obtain ⟨ks, e2⟩ := keyVs_some h d
    unfold keyVs at q
    rw [e1, e2] at q
    cases q
  | x :: d, y :: e, q => by
    obtain ⟨k, e1⟩ := keyS_some h x
    obtain ⟨ks, e2⟩ := keyVs_some h d
    obtain ⟨l, e3⟩ := keyS_some h y
    obtain ⟨ls, e4⟩ := keyVs_some h e
    unfold keyVs at q
    rw [e1, e2, e3, e4] at q
    have q : k :: ks = l :: ls := Option.some.inj q
    have q1 := (List.cons.inj q).1
    have q2 := (List.cons.inj q).2
    rw [keyS_inj h (show keyS t x = keyS t y by rw [e1, e3, q1]), keyVs_inj h (show keyVs t d = keyVs t e by rw [e2, e4, q2])]
theorem key_same {k : Ty} (h : okKey k = true) {a b : den k} : (k.tk = true → (keyT k a = keyT k b ↔ a = b)) ∧ (k.tk = false → (keyS k a = keyS k b ↔ a = b)) := by
  refine ⟨fun hk => ⟨fun q => ?_, fun e => by rw [e]⟩, fun hk => ⟨fun q => ?_, fun e => by rw [e]⟩⟩
  · cases k <;> first | (cases h; done) | (cases hk; done) | skip
    · rename_i t
      exact keyVs_inj (t := t) (by exact h) q
    · rename_i r
      exact keyRow_inj (b := r) (by exact h) q
  · cases k <;> first | (cases h; done) | (cases hk; done) | exact keyS_inj rfl q
section
variable {k : Ty} {β : Type} [DecidableEq (den k)]
theorem getK_eq (h : okKey k = true) (d : List (den k × β)) (x : den k) : fGetK d x = (d.find? fun q => decide (q.1 = x)).map (·.2) := by
  unfold fGetK getBy
  by_cases hk : k.tk = true
  · rw [if_pos hk]
    congr 2
    funext q
    rw [decide_eq_decide]
    exact (key_same h).1 hk
  · rw [if_neg hk]
    congr 2
    funext q
    rw [decide_eq_decide]
    exact (key_same h).2 (by simpa using hk)
theorem putK_eq (h : okKey k = true) (d : List (den k × β)) (x : den k) (y : β) : fPutK d x y = if x ∈ d.map (·.1) then d.map (fun q => if q.1 = x then (q.1, y) else q) else d ++ [(x, y)] := by
  unfold fPutK putBy
  by_cases hk : k.tk = true
  · rw [if_pos hk]
    have e1 : (d.any fun q => decide (keyT k q.1 = keyT k x)) = decide (x ∈ d.map (·.1)) := by
      rw [Bool.eq_iff_iff, List.any_eq_true, decide_eq_true_iff, List.mem_map]
      exact ⟨fun ⟨q, h1, h2⟩ => ⟨q, h1, ((key_same h).1 hk).mp (of_decide_eq_true h2)⟩, fun ⟨q, h1, h2⟩ => ⟨q, h1, decide_eq_true (((key_same h).1 hk).mpr h2)⟩⟩
    rw [e1]
    by_cases hx : x ∈ d.map (·.1)
    · rw [if_pos hx, if_pos (decide_eq_true hx)]
      refine List.map_congr_left fun q _ => ?_
      by_cases hq : q.1 = x
      · rw [if_pos hq, if_pos (((key_same h).1 hk).mpr hq)]
      · rw [if_neg hq, if_neg fun z => hq (((key_same h).1 hk).mp z)]
    · rw [if_neg hx, if_neg (by simpa using hx)]
  · have hk' : k.tk = false := by simpa using hk
    rw [if_neg hk]
    have e1 : (d.any fun q => decide (keyS k q.1 = keyS k x)) = decide (x ∈ d.map (·.1)) := by
      rw [Bool.eq_iff_iff, List.any_eq_true, decide_eq_true_iff, List.mem_map]
      exact ⟨fun ⟨q, h1, h2⟩ => ⟨q, h1, ((key_same h).2 hk').mp (of_decide_eq_true h2)⟩, fun ⟨q, h1, h2⟩ => ⟨q, h1, decide_eq_true (((key_same h).2 hk').mpr h2)⟩⟩
    rw [e1]
    by_cases hx : x ∈ d.map (·.1)
    · rw [if_pos hx, if_pos (decide_eq_true hx)]
      refine List.map_congr_left fun q _ => ?_
      by_cases hq : q.1 = x
      · rw [if_pos hq, if_pos (((key_same h).2 hk').mpr hq)]
      · rw [if_neg hq, if_neg fun z => hq (((key_same h).2 hk').mp z)]
    · rw [if_neg hx, if_neg (by simpa using hx)]
end
def look {α β : Type} [DecidableEq α] (d : List (α × β)) (x : α) : Option β := (d.find? fun q => decide (q.1 = x)).map (·.2)
def lput {α β : Type} [DecidableEq α] (d : List (α × β)) (x : α) (y : β) : List (α × β) := if x ∈ d.map (·.1) then d.map (fun q => if q.1 = x then (q.1, y) else q) else d ++ [(x, y)]
section
variable {α β : Type} [DecidableEq α]
theorem look_cons (q : α × β) (d : List (α × β)) (x : α) : look (q :: d) x = if q.1 = x then some q.2 else look d x := by
  unfold look
  by_cases h : q.1 = x
  · rw [List.find?_cons_of_pos (p := fun q : α × β => decide (q.1 = x)) (decide_eq_true h), if_pos h]; rfl
  · rw [List.find?_cons_of_neg (p := fun q : α × β => decide (q.1 = x)) (by simpa using h), if_neg h]
theorem look_some {d : List (α × β)} {x : α} {y : β} (h : look d x = some y) : (x, y) ∈ d := by
  induction d with
  | nil => cases h
  | cons q d ih =>
    rw [look_cons] at h
    split at h
    · rename_i e
      cases h
      subst e
      exact List.mem_cons_self
    · exact List.mem_cons_of_mem _ (ih h)
theorem look_isSome {d : List (α × β)} {x : α} : (look d x).isSome = decide (x ∈ d.map (·.1)) := by
  induction d with
  | nil => rfl
  | cons q d ih =>
    rw [look_cons, List.map_cons]
    by_cases e : q.1 = x
    · rw [if_pos e, decide_eq_true (by rw [e]; exact List.mem_cons_self)]; rfl
    · rw [if_neg e, ih, decide_eq_decide, List.mem_cons]
      exact ⟨.inr, fun z => z.elim (fun z => absurd z.symm e) id⟩
theorem look_none {d : List (α × β)} {x : α} : look d x = none ↔ x ∉ d.map (·.1) := by
  have := look_isSome (d := d) (x := x)
  rw [← Option.not_isSome_iff_eq_none, this, decide_eq_true_iff]
end
section
variable {α β : Type} [DecidableEq α]
end
theorem lenOk_le2 {n : Nat} (h : n ≤ 16000000) : lenOk n = true := by
  refine decide_eq_true ?_
  rw [sizeLine_eq]
  omega
theorem getK_look {k : Ty} {β : Type} [DecidableEq (den k)] (h : okKey k = true) (d : List (den k × β)) (x : den k) : fGetK d x = look d x := getK_eq h d x
theorem putK_lput {k : Ty} {β : Type} [DecidableEq (den k)] (h : okKey k = true) (d : List (den k × β)) (x : den k) (y : β) : fPutK d x y = lput d x y := putK_eq h d x y
end VV
namespace VV
open PySem L2
structure Kp {α : Sort _} (Q : α) : Type where
def Ok {α : Type} (o : Option α) (Q : α → Prop) (_ : Kp Q := ⟨⟩) : Prop := ∃ a, o = some a ∧ Q a
def Wif (c : Bool) (A B : Prop) (_ : Kp A := ⟨⟩) (_ : Kp B := ⟨⟩) : Prop := if c = true then A else B
section
variable {α β : Type}
theorem Ok_some {a : α} {Q : α → Prop} : Ok (some a) Q = Q a := propext ⟨fun ⟨_, e, h⟩ => by cases e; exact h, fun h => ⟨a, rfl, h⟩⟩
theorem Ok_none {Q : α → Prop} : Ok (none : Option α) Q = False := propext ⟨fun ⟨_, e, _⟩ => (by cases e), False.elim⟩
theorem Ok_bind {o : Option α} {f : α → Option β} {Q : β → Prop} : Ok (o.bind f) Q = Ok o fun a => Ok (f a) Q := propext ⟨fun ⟨b, e, h⟩ => by
  obtain ⟨a, e1, e2⟩ := Option.bind_eq_some_iff.mp e
  exact ⟨a, e1, b, e2, h⟩, fun ⟨a, e1, b, e2, h⟩ => ⟨b, Option.bind_eq_some_iff.mpr ⟨a, e1, e2⟩, h⟩⟩
theorem Ok_okIf {c : Bool} {a : α} {Q : α → Prop} : Ok (okIf c a) Q = (c = true ∧ Q a) := by
  unfold okIf
  cases c with
  | true => simp [Ok_some]
  | false => simp [Ok_none]
theorem Ok_guard {p : Prop} [Decidable p] {a : α} {Q : α → Prop} : Ok (if p then some a else none) Q = (p ∧ Q a) := by
  by_cases h : p
  · rw [if_pos h, Ok_some]; exact propext ⟨fun q => ⟨h, q⟩, fun q => q.2⟩
  · rw [if_neg h, Ok_none]; exact propext ⟨False.elim, fun q => h q.1⟩
theorem Ok_ite {c : Bool} {A B : Option α} {Q : α → Prop} : Ok (if c = true then A else B) Q = Wif c (Ok A Q) (Ok B Q) := by
  unfold Wif
  cases c <;> rfl
theorem Ok_map {o : Option α} {f : α → β} {Q : β → Prop} : Ok (o.map f) Q = Ok o fun a => Q (f a) := by
  cases o with
  | none => rw [Option.map_none, Ok_none, Ok_none]
  | some a => rw [Option.map_some, Ok_some, Ok_some]
theorem Wif_true {A B : Prop} : Wif true A B = A := rfl
theorem Wif_false {A B : Prop} : Wif false A B = B := rfl
theorem Wif_of {c : Bool} {A B : Prop} (h1 : c = true → A) (h2 : c = false → B) : Wif c A B := by
  cases c with
  | true => exact h1 rfl
  | false => exact h2 rfl
theorem Wif_dec {p : Prop} {i : Decidable p} {A B : Prop} (h1 : p → A) (h2 : ¬ p → B) : Wif (decide p) A B := Wif_of (fun h => h1 (of_decide_eq_true h)) fun h => h2 (of_decide_eq_false h)
theorem Wif_ndec {p : Prop} {i : Decidable p} {A B : Prop} (h1 : ¬ p → A) (h2 : p → B) : Wif (!decide p) A B := Wif_of (fun h => h1 (by simpa using h)) fun h => h2 (by simpa using h)
theorem Ok.mono {o : Option α} {P Q : α → Prop} (h : Ok o P) (hq : ∀ a, P a → Q a) : Ok o Q := by
  obtain ⟨a, e, p⟩ := h
  exact ⟨a, e, hq a p⟩
theorem Ok.of {o : Option α} {a : α} {Q : α → Prop} (e : o = some a) (h : Q a) : Ok o Q := ⟨a, e, h⟩
theorem Ok.eq {o : Option α} {a : α} (h : Ok o (· = a)) : o = some a := by
  obtain ⟨b, e, rfl⟩ := h
  exact e
theorem Ok.is {o : Option α} {a : α} (h : o = some a) : Ok o (· = a) := ⟨a, h, rfl⟩
end
def Turn {G ρ : Type} (mask : G → G) (Q : Fl G ρ → Prop) (N : G → Prop) : Fl G ρ → Prop
  | .nx Γ => N (mask Γ)
  | .ct Γ => N (mask Γ)
  | .bk Γ => Q (.nx (mask Γ))
  | .rt d Γ => Q (.rt d Γ)
section
variable {G ρ α S : Type} {mask : G → G} {Q : Fl G ρ → Prop} {N : G → Prop} {Γ : G}
theorem Turn_nx : Turn mask Q N (.nx Γ) = N (mask Γ) := rfl
theorem Turn_ct : Turn mask Q N (.ct Γ) = N (mask Γ) := rfl
theorem Turn_bk : Turn mask Q N (.bk Γ) = Q (.nx (mask Γ)) := rfl
theorem Turn_rt {d : ρ} : Turn mask Q N (.rt d Γ) = Q (.rt d Γ) := rfl
def At {G S : Type} (st : S → G) (P : S → Prop) (Γ : G) (_ : Kp st := ⟨⟩) (_ : Kp P := ⟨⟩) : Prop := ∃ s, Γ = st s ∧ P s
theorem At.mk {G S : Type} {st : S → G} {P : S → Prop} (s : S) {Γ : G} (h : Γ = st s) (hp : P s) : At st P Γ := ⟨s, h, hp⟩
theorem Ok_forL {bind : α → G → G} {body : G → Option (Fl G ρ)} (st : S → G) (I : List α → S → Prop) : ∀ (xs pre : List α) (s : S), I pre s →
    (∀ p x q s, pre ++ xs = p ++ x :: q → I p s → Ok (body (bind x (st s))) (Turn mask Q fun Γ => At st (I (p ++ [x])) Γ)) → (∀ s, I (pre ++ xs) s → Q (.nx (st s))) → Ok (forL bind mask body xs (st s)) Q
  | [], pre, s, h, _, he => ⟨_, rfl, he s (by simpa using h)⟩
  | x :: xs, pre, s, h, hs, he => by
    obtain ⟨r, e, ht⟩ := hs pre x xs s rfl h
    have ih := fun (s' : S) (h' : I (pre ++ [x]) s') => Ok_forL st I xs (pre ++ [x]) s' h' (fun p y q s e => hs p y q s (by rw [← e]; simp)) (by simpa using he)
    rw [forL, e]
    cases r with
    | nx Γ' =>
      obtain ⟨s', e', h'⟩ := ht
      show Ok (forL bind mask body xs (mask Γ')) Q
      rw [e']
      exact ih s' h'
    | ct Γ' =>
      obtain ⟨s', e', h'⟩ := ht
      show Ok (forL bind mask body xs (mask Γ')) Q
      rw [e']
      exact ih s' h'
    | bk Γ' => exact ⟨_, rfl, ht⟩
    | rt d Γ' => exact ⟨_, rfl, ht⟩
theorem Ok_sFor {bind : α → G → G} {body : G → Option (Fl G ρ)} {F : G → Option (List α)} (xs : List α) (st : S → G) (I : List α → S → Prop) (s0 : S) (hF : Ok (F Γ) (· = xs)) (h0 : mask Γ = st s0) (hI : I [] s0)
    (hs : ∀ p x q s, xs = p ++ x :: q → I p s → Ok (body (bind x (st s))) (Turn mask Q fun Γ => At st (I (p ++ [x])) Γ)) (he : ∀ s, I xs s → Q (.nx (st s))) : Ok (sFor F bind mask body Γ) Q := by
  unfold sFor
  rw [hF.eq, Option.bind_some, h0]
  exact Ok_forL st I xs [] s0 hI hs he
theorem Ok_sWhileR {c : G → Option Bool} {body : G → Option (Fl G ρ)} (st : S → G) (I : S → Prop) (r : S → S → Prop) (s0 : S) (hw : WellFounded r) (h0 : mask Γ = st s0) (hI : I s0)
    (hs : ∀ s, I s → Ok (c (st s)) fun b => Wif b (Ok (body (st s)) (Turn mask Q fun Γ => At st (fun s' => I s' ∧ r s' s) Γ)) (Q (.nx (st s)))) : Ok (sWhile c mask body Γ) Q := by
  have key : ∀ s : S, I s → ∃ n f, whileN c mask body n (st s) = some f ∧ Q f := fun s => by
    refine hw.induction (C := fun s => I s → ∃ n f, whileN c mask body n (st s) = some f ∧ Q f) s fun s ih h => ?_
    obtain ⟨b, eb, hb⟩ := hs s h
    cases b with
    | false => exact ⟨1, .nx (st s), by rw [whileN, eb]; rfl, hb⟩
    | true =>
      obtain ⟨f, ef, ht⟩ := (hb : Ok _ _)
      cases f with
      | nx Γ' =>
        obtain ⟨s', e', h', hr⟩ := ht
        obtain ⟨n, f, e2, q2⟩ := ih s' hr h'
        refine ⟨n + 1, f, ?_, q2⟩
        rw [whileN, eb]
        show ((body (st s)).bind _) = _
        rw [ef]
        show whileN c mask body n (mask Γ') = _
        rw [e', e2]
      | ct Γ' =>
        obtain ⟨s', e', h', hr⟩ := ht
        obtain ⟨n, f, e2, q2⟩ := ih s' hr h'
        refine ⟨n + 1, f, ?_, q2⟩
        rw [whileN, eb]
        show ((body (st s)).bind _) = _
        rw [ef]
        show whileN c mask body n (mask Γ') = _
        rw [e', e2]
      | bk Γ' =>
        refine ⟨1, .nx (mask Γ'), ?_, ht⟩
        rw [whileN, eb]
        show ((body (st s)).bind _) = _
        rw [ef]
        rfl
      | rt d Γ' =>
        refine ⟨1, .rt d Γ', ?_, ht⟩
        rw [whileN, eb]
        show ((body (st s)).bind _) = _
        rw [ef]
        rfl
  obtain ⟨n, f, e, q⟩ := key s0 hI
  exact ⟨f, sWhile_of (n := n) (by rw [h0]; exact e), q⟩
theorem Ok_sWhile {c : G → Option Bool} {body : G → Option (Fl G ρ)} (st : S → G) (I : S → Prop) (μ : S → Nat) (s0 : S) (h0 : mask Γ = st s0) (hI : I s0)
    (hs : ∀ s, I s → Ok (c (st s)) fun b => Wif b (Ok (body (st s)) (Turn mask Q fun Γ => At st (fun s' => I s' ∧ μ s' < μ s) Γ)) (Q (.nx (st s)))) : Ok (sWhile c mask body Γ) Q :=
  Ok_sWhileR st I (fun a b => μ a < μ b) s0 (measure μ).wf h0 hI hs
end
section
variable {G α β S : Type} {src : G → Option (List α)} {bind : α → G → G} {mask : G → G} {cond : G → Option Bool} {elt : G → Option β} {Γ : G} {Q : List β → Prop}
theorem Ok_eLc {xs : List α} (c : α → Bool) (f : α → β) (h1 : Ok (src Γ) (· = xs)) (hl : xs.length ≤ 16000000) (h2 : ∀ x ∈ xs, Ok (cond (bind x (mask Γ))) (· = c x)) (h3 : ∀ x ∈ xs, c x = true → Ok (elt (bind x (mask Γ))) (· = f x)) (hq : Q ((xs.filter c).map f)) : Ok (eLc src bind mask cond elt Γ) Q := by
  have := lcL_filter (bind := bind) (cond := cond) (elt := elt) (Γ := mask Γ) c f xs (fun x hx => (h2 x hx).eq) (fun x hx hc => (h3 x hx hc).eq)
  refine ⟨_, eLc_of h1.eq this (lenOk_le2 ?_), hq⟩
  have := List.length_filter_le c xs
  rw [List.length_map]
  omega
theorem Ok_eLcM {xs : List α} (f : α → β) (h1 : Ok (src Γ) (· = xs)) (hl : xs.length ≤ 16000000) (h3 : ∀ x ∈ xs, Ok (elt (bind x (mask Γ))) (· = f x)) (hq : Q (xs.map f)) : Ok (eLc src bind mask eYes elt Γ) Q :=
  ⟨_, eLc_map f h1.eq hl (fun x hx => (h3 x hx).eq), hq⟩
end
theorem mem_split {α : Type} {xs : List α} {x : α} {p q : List α} (h : xs = p ++ x :: q) : x ∈ xs := by rw [h]; simp
theorem fPut_ok {k : Ty} {β : Type} [DecidableEq (den k)] (h : okKey k = true) (d : List (den k × β)) (x : den k) (y : β) : fPutK d x y = lput d x y := putK_lput h d x y
end VV
namespace VV
open PySem L2
section
theorem Ok_cong {α : Type} {o : Option α} {Q Q' : α → Prop} (h : ∀ a, Q a = Q' a) : Ok o Q = Ok o Q' := by
  have : Q = Q' := funext h
  rw [this]
local macro_rules | `(tactic| walk_at "okp") => `(tactic| repeat (first | rfl | exact Ok_some | exact Ok_ite | (rw [Ok_ite, Ok_some]; done) | (simp only [Ok_ite, Ok_some]; done) | (simp only [Ok_ite, Ok_bind, Ok_some]; done) | exact Ok_guard | (rw [Ok_bind]; refine Ok_cong fun _ => ?_)))
variable {G α β γ δ ρ : Type} {Γ : G}
def ExcQ {α : Type} (A : Prop) (B : α → Prop) (o : Option α) (_ : Kp A := ⟨⟩) (_ : Kp B := ⟨⟩) : Prop := match o with
  | none => A
  | some d => B d
theorem ExcQ_none {A : Prop} {B : α → Prop} : @ExcQ (no_index _) A B (@none (no_index _)) (@Kp.mk (no_index _) A) (@Kp.mk (no_index _) B) = A := rfl
theorem ExcQ_some {A : Prop} {B : α → Prop} {d : α} : @ExcQ (no_index _) A B (@some (no_index _) d) (@Kp.mk (no_index _) A) (@Kp.mk (no_index _) B) = B d := rfl
def TryQ {G ρ : Type} (R : Str → G → Option (Fl G ρ)) (Q : Fl G ρ → Prop) (f : Fl G (Str × Option ρ)) (_ : Kp R := ⟨⟩) (_ : Kp Q := ⟨⟩) : Prop := match f with
  | .nx Γ => Q (.nx Γ)
  | .bk Γ => Q (.bk Γ)
  | .ct Γ => Q (.ct Γ)
  | .rt r Γ => match r.2 with
    | none => Ok (R r.1 Γ) Q
    | some d => Q (.rt d Γ)
section
variable {R : Str → G → Option (Fl G ρ)} {Q : Fl G ρ → Prop} {nm : Str} {d : ρ}
theorem TryQ_nx : @TryQ (no_index _) (no_index _) R Q (@Fl.nx (no_index _) (no_index _) Γ) (@Kp.mk (no_index _) R) (@Kp.mk (no_index _) Q) = Q (.nx Γ) := rfl
theorem TryQ_bk : @TryQ (no_index _) (no_index _) R Q (@Fl.bk (no_index _) (no_index _) Γ) (@Kp.mk (no_index _) R) (@Kp.mk (no_index _) Q) = Q (.bk Γ) := rfl
theorem TryQ_ct : @TryQ (no_index _) (no_index _) R Q (@Fl.ct (no_index _) (no_index _) Γ) (@Kp.mk (no_index _) R) (@Kp.mk (no_index _) Q) = Q (.ct Γ) := rfl
theorem TryQ_none : @TryQ (no_index _) (no_index _) R Q (@Fl.rt (no_index _) (no_index _) (nm, none) Γ) (@Kp.mk (no_index _) R) (@Kp.mk (no_index _) Q) = Ok (R nm Γ) Q := rfl
theorem TryQ_some : @TryQ (no_index _) (no_index _) R Q (@Fl.rt (no_index _) (no_index _) (nm, some d) Γ) (@Kp.mk (no_index _) R) (@Kp.mk (no_index _) Q) = Q (.rt d Γ) := rfl
end
theorem at_self {nm : Str} {b : Bool} {t : ETab} : ETab.at_ ((nm, b) :: t) nm = some b := by
  unfold ETab.at_
  rw [List.lookup_cons, beq_self_eq_true]
theorem Ok_eC {d : α} {Q : α → Prop} : @Ok (no_index _) (eC d Γ) Q (@Kp.mk (no_index _) Q) = Q d := by
  unfold eC
  walk_at "okp"
theorem Ok_eNil {Q : List α → Prop} : @Ok (no_index _) ((eNil : G → Option (List α)) Γ) Q (@Kp.mk (no_index _) Q) = Q [] := by
  unfold eNil
  walk_at "okp"
theorem Ok_eYes {Q : Bool → Prop} : @Ok (no_index _) (eYes Γ) Q (@Kp.mk (no_index _) Q) = Q true := by
  unfold eYes
  walk_at "okp"
theorem Ok_eV {ts : List Ty} {t : Ty} {i : Mem ts t} {Γ : Gam ts} {Q : den t → Prop} : @Ok (no_index _) (eV i Γ) Q (@Kp.mk (no_index _) Q) = Ok (i.get Γ) Q := by
  unfold eV
  walk_at "okp"
theorem Ok_e1 {f : α → Option β} {A : G → Option α} {Q : β → Prop} : @Ok (no_index _) (e1 f A Γ) Q (@Kp.mk (no_index _) Q) = Ok (A Γ) fun a => Ok (f a) Q := by
  unfold e1
  walk_at "okp"
theorem Ok_e2 {f : α → β → Option γ} {A : G → Option α} {B : G → Option β} {Q : γ → Prop} : @Ok (no_index _) (e2 f A B Γ) Q (@Kp.mk (no_index _) Q) = Ok (A Γ) fun a => Ok (B Γ) fun b => Ok (f a b) Q := by
  unfold e2
  walk_at "okp"
theorem Ok_e3 {f : α → β → γ → Option δ} {A : G → Option α} {B : G → Option β} {C : G → Option γ} {Q : δ → Prop} : @Ok (no_index _) (e3 f A B C Γ) Q (@Kp.mk (no_index _) Q) = Ok (A Γ) fun a => Ok (B Γ) fun b => Ok (C Γ) fun c => Ok (f a b c) Q := by
  unfold e3
  walk_at "okp"
theorem Ok_eNot {A : G → Option Bool} {Q : Bool → Prop} : @Ok (no_index _) (eNot A Γ) Q (@Kp.mk (no_index _) Q) = Ok (A Γ) fun c => Q (!c) := by
  unfold eNot
  walk_at "okp"
theorem Ok_eAnd {A B : G → Option Bool} {Q : Bool → Prop} : @Ok (no_index _) (eAnd A B Γ) Q (@Kp.mk (no_index _) Q) = Ok (A Γ) fun c => Wif c (Ok (B Γ) Q) (Q false) := by
  unfold eAnd
  walk_at "okp"
theorem Ok_eOr {A B : G → Option Bool} {Q : Bool → Prop} : @Ok (no_index _) (eOr A B Γ) Q (@Kp.mk (no_index _) Q) = Ok (A Γ) fun c => Wif c (Q true) (Ok (B Γ) Q) := by
  unfold eOr
  walk_at "okp"
theorem Ok_eIf {c : G → Option Bool} {A B : G → Option α} {Q : α → Prop} : @Ok (no_index _) (eIf c A B Γ) Q (@Kp.mk (no_index _) Q) = Ok (c Γ) fun b => Wif b (Ok (A Γ) Q) (Ok (B Γ) Q) := by
  unfold eIf
  walk_at "okp"
theorem Ok_eCons {A : G → Option α} {B : G → Option β} {Q : α × β → Prop} : @Ok (no_index _) (eCons A B Γ) Q (@Kp.mk (no_index _) Q) = Ok (A Γ) fun a => Ok (B Γ) fun b => Q (a, b) := by
  unfold eCons
  walk_at "okp"
theorem Ok_eSnoc {A : G → Option α} {B : G → Option (List α)} {Q : List α → Prop} : @Ok (no_index _) (eSnoc A B Γ) Q (@Kp.mk (no_index _) Q) = Ok (A Γ) fun a => Ok (B Γ) fun b => Q (a :: b) := by
  unfold eSnoc
  walk_at "okp"
theorem Ok_eProj {b t : Ty} {r : RIx b t} {A : G → Option (den b)} {Q : den t → Prop} : @Ok (no_index _) (eProj r A Γ) Q (@Kp.mk (no_index _) Q) = Ok (A Γ) fun d => Q (r.get d) := by
  unfold eProj
  walk_at "okp"
theorem Ok_eChain {f : α → β → Option Bool} {g : β → γ → Option Bool} {A : G → Option α} {B : G → Option β} {C : G → Option γ} {Q : Bool → Prop} : @Ok (no_index _) (eChain f g A B C Γ) Q (@Kp.mk (no_index _) Q) = Ok (A Γ) fun a => Ok (B Γ) fun b => Ok (f a b) fun k => Wif k (Ok (C Γ) fun c => Ok (g b c) Q) (Q false) := by
  unfold eChain
  rw [Ok_bind]
  refine Ok_cong fun a => ?_
  rw [Ok_bind]
  refine Ok_cong fun b => ?_
  rw [Ok_bind]
  refine Ok_cong fun k => ?_
  cases k with
  | true => exact Ok_bind
  | false => exact Ok_some
theorem Ok_eChain3 {f : α → β → Option Bool} {g : β → γ → Option Bool} {h : γ → δ → Option Bool} {A : G → Option α} {B : G → Option β} {C : G → Option γ} {D : G → Option δ} {Q : Bool → Prop} : @Ok (no_index _) (eChain3 f g h A B C D Γ) Q (@Kp.mk (no_index _) Q) = Ok (A Γ) fun a => Ok (B Γ) fun b => Ok (f a b) fun k => Wif k (Ok (C Γ) fun c => Ok (g b c) fun k2 => Wif k2 (Ok (D Γ) fun d => Ok (h c d) Q) (Q false)) (Q false) := by
  unfold eChain3
  rw [Ok_bind]
  refine Ok_cong fun a => ?_
  rw [Ok_bind]
  refine Ok_cong fun b => ?_
  rw [Ok_bind]
  refine Ok_cong fun k => ?_
  cases k with
  | true =>
    show Ok ((C Γ).bind _) Q = Ok _ _
    rw [Ok_bind]
    refine Ok_cong fun c => ?_
    rw [Ok_bind]
    refine Ok_cong fun k => ?_
    cases k with
    | true => exact Ok_bind
    | false => exact Ok_some
  | false => exact Ok_some
theorem Ok_ePure {A : G → Option α} {Q : α × G → Prop} : @Ok (no_index _) (ePure A Γ) Q (@Kp.mk (no_index _) Q) = Ok (A Γ) fun d => Q (d, Γ) := by
  unfold ePure
  walk_at "okp"
theorem Ok_eConsE {A : G → Option (α × G)} {B : G → Option (β × G)} {Q : (α × β) × G → Prop} : @Ok (no_index _) (eConsE A B Γ) Q (@Kp.mk (no_index _) Q) = Ok (A Γ) fun p => Ok (B p.2) fun q => Q ((p.1, q.1), q.2) := by
  unfold eConsE
  walk_at "okp"
theorem Ok_eX1 {f : α → Option γ} {A : G → Option (α × G)} {Q : γ × G → Prop} : @Ok (no_index _) (eX1 f A Γ) Q (@Kp.mk (no_index _) Q) = Ok (A Γ) fun p => Ok (f p.1) fun c => Q (c, p.2) := by
  unfold eX1
  walk_at "okp"
theorem Ok_eX2 {f : α → β → Option γ} {A : G → Option (α × G)} {B : G → Option (β × G)} {Q : γ × G → Prop} : @Ok (no_index _) (eX2 f A B Γ) Q (@Kp.mk (no_index _) Q) = Ok (A Γ) fun p => Ok (B p.2) fun q => Ok (f p.1 q.1) fun c => Q (c, q.2) := by
  unfold eX2
  walk_at "okp"
theorem Ok_eX3 {f : α → β → γ → Option δ} {A : G → Option (α × G)} {B : G → Option (β × G)} {C : G → Option (γ × G)} {Q : δ × G → Prop} : @Ok (no_index _) (eX3 f A B C Γ) Q (@Kp.mk (no_index _) Q) = Ok (A Γ) fun p => Ok (B p.2) fun q => Ok (C q.2) fun r => Ok (f p.1 q.1 r.1) fun c => Q (c, r.2) := by
  unfold eX3
  walk_at "okp"
theorem Ok_eXProj {b t : Ty} {r : RIx b t} {A : G → Option (den b × G)} {Q : den t × G → Prop} : @Ok (no_index _) (eXProj r A Γ) Q (@Kp.mk (no_index _) Q) = Ok (A Γ) fun p => Q (r.get p.1, p.2) := by
  unfold eXProj eX1
  walk_at "okp"
theorem Ok_eXAnd {A B : G → Option (Bool × G)} {Q : Bool × G → Prop} : @Ok (no_index _) (eXAnd A B Γ) Q (@Kp.mk (no_index _) Q) = Ok (A Γ) fun p => Wif p.1 (Ok (B p.2) Q) (Q (false, p.2)) := by
  unfold eXAnd
  walk_at "okp"
theorem Ok_eXOr {A B : G → Option (Bool × G)} {Q : Bool × G → Prop} : @Ok (no_index _) (eXOr A B Γ) Q (@Kp.mk (no_index _) Q) = Ok (A Γ) fun p => Wif p.1 (Q (true, p.2)) (Ok (B p.2) Q) := by
  unfold eXOr
  walk_at "okp"
theorem Ok_eXNot {A : G → Option (Bool × G)} {Q : Bool × G → Prop} : @Ok (no_index _) (eXNot A Γ) Q (@Kp.mk (no_index _) Q) = Ok (A Γ) fun p => Q (!p.1, p.2) := by
  unfold eXNot
  walk_at "okp"
theorem Ok_eXSnoc {A : G → Option (α × G)} {B : G → Option (List α × G)} {Q : List α × G → Prop} : @Ok (no_index _) (eXSnoc A B Γ) Q (@Kp.mk (no_index _) Q) = Ok (A Γ) fun p => Ok (B p.2) fun q => Q (p.1 :: q.1, q.2) := by
  unfold eXSnoc eX2
  walk_at "okp"
theorem Ok_eSomeE {A : G → Option (α × G)} {Q : Option α × G → Prop} : @Ok (no_index _) (eSomeE A Γ) Q (@Kp.mk (no_index _) Q) = Ok (A Γ) fun p => Q (some p.1, p.2) := by
  unfold eSomeE
  walk_at "okp"
theorem Ok_eIfE {c : G → Option Bool} {A B : G → Option (α × G)} {Q : α × G → Prop} : @Ok (no_index _) (eIfE c A B Γ) Q (@Kp.mk (no_index _) Q) = Ok (c Γ) fun b => Wif b (Ok (A Γ) Q) (Ok (B Γ) Q) := by
  unfold eIfE
  walk_at "okp"
theorem Ok_eMove {ts : List Ty} {Γ : Gam ts} {t : Ty} {i : Mem ts t} {Q : den t × Gam ts → Prop} : @Ok (no_index _) (eMove i Γ) Q (@Kp.mk (no_index _) Q) = Ok (i.get Γ) fun d => Q (d, i.set none Γ) := by
  unfold eMove
  walk_at "okp"
theorem Ok_ePop {ts : List Ty} {Γ : Gam ts} {t : Ty} {i : Mem ts (.list t)} {Q : den t × Gam ts → Prop} : @Ok (no_index _) (ePop i Γ) Q (@Kp.mk (no_index _) Q) = Ok (i.get Γ) fun xs => Ok xs.getLast? fun d => Q (d, i.set (some xs.dropLast) Γ) := by
  unfold ePop
  walk_at "okp"
theorem Ok_ePop0 {ts : List Ty} {Γ : Gam ts} {t : Ty} {i : Mem ts (.list t)} {Q : den t × Gam ts → Prop} : @Ok (no_index _) (ePop0 i Γ) Q (@Kp.mk (no_index _) Q) = Ok (i.get Γ) fun xs => Ok xs.head? fun d => Q (d, i.set (some xs.tail) Γ) := by
  unfold ePop0
  walk_at "okp"
theorem Ok_ePopH {ts : List Ty} {Γ : Gam ts} {b t : Ty} {i : Mem ts (.hl b)} {r : RIx b (.own (.list t))} {Q : den t × Gam ts → Prop} : @Ok (no_index _) (ePopH i r Γ) Q (@Kp.mk (no_index _) Q) = Ok (i.get Γ) fun d => Ok (List.getLast? (r.get d : List (den t))) fun y => Q (y, i.set (some (r.put d (List.dropLast (r.get d : List (den t))))) Γ) := by
  unfold ePopH
  walk_at "okp"
theorem Ok_eIO {ts : List Ty} {Γ : Gam ts} {b tio : Ty} {ρ : Type} {i : Mem ts tio} {m : den b → Option (ρ × den tio)} {F : Gam ts → Option (den b)} {Q : ρ × Gam ts → Prop} : @Ok (no_index _) (eIO i m F Γ) Q (@Kp.mk (no_index _) Q) = Ok (F Γ) fun d => Ok (m d) fun res => Q (res.1, i.set (some res.2) Γ) := by
  unfold eIO
  walk_at "okp"
theorem Ok_eIO1 {ts : List Ty} {Γ : Gam ts} {tio : Ty} {ρ : Type} {i : Mem ts tio} {m : den tio → Option (ρ × den tio)} {Q : ρ × Gam ts → Prop} : @Ok (no_index _) (eIO1 i m Γ) Q (@Kp.mk (no_index _) Q) = Ok (i.get Γ) fun d => Ok (m d) fun res => Q (res.1, i.set (some res.2) Γ) := by
  unfold eIO1
  walk_at "okp"
theorem Ok_eIOz {ts : List Ty} {Γ : Gam ts} {b tio : Ty} {ρ : Type} {i : Mem ts tio} {m : den tio × den b → Option (ρ × den tio)} {F : Gam ts → Option (den b × Gam ts)} {Q : ρ × Gam ts → Prop} : @Ok (no_index _) (eIOz i m F Γ) Q (@Kp.mk (no_index _) Q) = Ok (i.get Γ) fun _ => Ok (F Γ) fun p => Ok (i.get p.2) fun x => Ok (m (x, p.1)) fun res => Q (res.1, i.set (some res.2) p.2) := by
  unfold eIOz
  walk_at "okp"
theorem Ok_eScope {ts : List Ty} {Γ : Gam ts} {α : Type} {bs : List Bool} {F : Gam ts → Option α} {Q : α → Prop} : @Ok (no_index _) (eScope bs F Γ) Q (@Kp.mk (no_index _) Q) = Ok (F (Gam.mask bs Γ)) Q := by
  unfold eScope
  rfl
theorem Ok_eIO2 {ts : List Ty} {Γ : Gam ts} {t1 b t2 : Ty} {ρ : Type} {i1 : Mem ts t1} {i2 : Mem ts t2} {m : den t1 × den b → Option (ρ × (den t1 × den t2))} {F : Gam ts → Option (den b)} {Q : ρ × Gam ts → Prop} : @Ok (no_index _) (eIO2 i1 i2 m F Γ) Q (@Kp.mk (no_index _) Q) = Ok (i1.get Γ) fun x => Ok (F Γ) fun d => Ok (m (x, d)) fun res => Q (res.1, i1.set (some res.2.1) (i2.set (some res.2.2) Γ)) := by
  unfold eIO2
  walk_at "okp"
theorem Ok_eIO2t {ts : List Ty} {Γ : Gam ts} {t1 b t2 : Ty} {ρ : Type} {i1 : Mem ts t1} {m : den t1 × den b → Option (ρ × (den t1 × den t2))} {F : Gam ts → Option (den b)} {Q : ρ × Gam ts → Prop} : @Ok (no_index _) (eIO2t i1 m F Γ) Q (@Kp.mk (no_index _) Q) = Ok (i1.get Γ) fun x => Ok (F Γ) fun d => Ok (m (x, d)) fun res => Q (res.1, i1.set (some res.2.1) Γ) := by
  unfold eIO2t
  walk_at "okp"
theorem Ok_sNext {Q : Fl G ρ → Prop} : @Ok (no_index _) ((sNext : G → Option (Fl G ρ)) Γ) Q (@Kp.mk (no_index _) Q) = Q (.nx Γ) := by
  unfold sNext
  walk_at "okp"
theorem Ok_sBreak {Q : Fl G ρ → Prop} : @Ok (no_index _) ((sBreak : G → Option (Fl G ρ)) Γ) Q (@Kp.mk (no_index _) Q) = Q (.bk Γ) := by
  unfold sBreak
  walk_at "okp"
theorem Ok_sCont {Q : Fl G ρ → Prop} : @Ok (no_index _) ((sCont : G → Option (Fl G ρ)) Γ) Q (@Kp.mk (no_index _) Q) = Q (.ct Γ) := by
  unfold sCont
  walk_at "okp"
theorem Ok_sNever {Q : Fl G ρ → Prop} : @Ok (no_index _) ((sNever : G → Option (Fl G ρ)) Γ) Q (@Kp.mk (no_index _) Q) = False := by
  unfold sNever
  exact Ok_none
theorem Ok_sIf {c : G → Option Bool} {A B : G → Option (Fl G ρ)} {Q : Fl G ρ → Prop} : @Ok (no_index _) (sIf c A B Γ) Q (@Kp.mk (no_index _) Q) = Ok (c Γ) fun b => Wif b (Ok (A Γ) Q) (Ok (B Γ) Q) := by
  unfold sIf
  walk_at "okp"
theorem Ok_sIfE {c : G → Option (Bool × G)} {A B : G → Option (Fl G ρ)} {Q : Fl G ρ → Prop} : @Ok (no_index _) (sIfE c A B Γ) Q (@Kp.mk (no_index _) Q) = Ok (c Γ) fun b => Wif b.1 (Ok (A b.2) Q) (Ok (B b.2) Q) := by
  unfold sIfE
  walk_at "okp"
theorem Ok_sRet {A : G → Option ρ} {Q : Fl G ρ → Prop} : @Ok (no_index _) (sRet A Γ) Q (@Kp.mk (no_index _) Q) = Ok (A Γ) fun d => Q (.rt d Γ) := by
  unfold sRet
  walk_at "okp"
theorem Ok_sRetE {A : G → Option (ρ × G)} {Q : Fl G ρ → Prop} : @Ok (no_index _) (sRetE A Γ) Q (@Kp.mk (no_index _) Q) = Ok (A Γ) fun p => Q (.rt p.1 p.2) := by
  unfold sRetE
  walk_at "okp"
theorem Ok_sAsg {A : G → Option α} {B : α → G → G} {Q : Fl G ρ → Prop} : @Ok (no_index _) (sAsg A B Γ) Q (@Kp.mk (no_index _) Q) = Ok (A Γ) fun d => Q (.nx (B d Γ)) := by
  unfold sAsg
  walk_at "okp"
theorem Ok_sAsgE {A : G → Option (α × G)} {B : α → G → G} {Q : Fl G ρ → Prop} : @Ok (no_index _) (sAsgE A B Γ) Q (@Kp.mk (no_index _) Q) = Ok (A Γ) fun d => Q (.nx (B d.1 d.2)) := by
  unfold sAsgE
  walk_at "okp"
theorem Ok_sDrop {A : G → Option α} {Q : Fl G ρ → Prop} : @Ok (no_index _) (sDrop A Γ) Q (@Kp.mk (no_index _) Q) = Ok (A Γ) fun _ => Q (.nx Γ) := by
  unfold sDrop
  walk_at "okp"
theorem Ok_sUnl {A : G → Option (List α)} {B : List (α → G → G)} {Q : Fl G ρ → Prop} : @Ok (no_index _) (sUnl A B Γ) Q (@Kp.mk (no_index _) Q) = Ok (A Γ) fun d => d.length = B.length ∧ Q (.nx (bindAll B d Γ)) := by
  unfold sUnl
  walk_at "okp"
theorem Ok_sRetM {ts : List Ty} {Γ : Gam ts} {t : Ty} {i : Mem ts t} {Q : Fl (Gam ts) (den t) → Prop} : @Ok (no_index _) (sRetM i Γ) Q (@Kp.mk (no_index _) Q) = Ok (i.get Γ) fun d => Q (.rt d (i.set none Γ)) := by
  unfold sRetM
  walk_at "okp"
theorem Ok_sSet {ts : List Ty} {Γ : Gam ts} {ρ : Type} {Q : Fl (Gam ts) ρ → Prop} {t : Ty} {i : Mem ts t} {A : Gam ts → Option (den t)} : @Ok (no_index _) (sSet i A Γ) Q (@Kp.mk (no_index _) Q) = Ok (A Γ) fun d => Q (.nx (i.set (some d) Γ)) := by
  unfold sSet
  walk_at "okp"
theorem Ok_sSetX {ts : List Ty} {Γ : Gam ts} {ρ : Type} {Q : Fl (Gam ts) ρ → Prop} {t : Ty} {i : Mem ts t} {A : Gam ts → Option (den t × Gam ts)} : @Ok (no_index _) (sSetX i A Γ) Q (@Kp.mk (no_index _) Q) = Ok (A Γ) fun p => Q (.nx (i.set (some p.1) p.2)) := by
  unfold sSetX
  walk_at "okp"
theorem Ok_sMove {ts : List Ty} {Γ : Gam ts} {ρ : Type} {Q : Fl (Gam ts) ρ → Prop} {t : Ty} {i j : Mem ts t} : @Ok (no_index _) (sMove i j Γ) Q (@Kp.mk (no_index _) Q) = Ok (j.get Γ) fun d => Q (.nx (i.set (some d) (j.set none Γ))) := by
  unfold sMove
  walk_at "okp"
theorem Ok_sLst {ts : List Ty} {Γ : Gam ts} {ρ : Type} {Q : Fl (Gam ts) ρ → Prop} {t : Ty} {i : Mem ts (.list t)} {g : List (den t) → List (den t)} : @Ok (no_index _) (sLst i g Γ) Q (@Kp.mk (no_index _) Q) = Ok (i.get Γ) fun xs => Q (.nx (i.set (some (g xs)) Γ)) := by
  unfold sLst
  walk_at "okp"
theorem Ok_sApp {ts : List Ty} {Γ : Gam ts} {ρ : Type} {Q : Fl (Gam ts) ρ → Prop} {t : Ty} {i : Mem ts (.list t)} {F : Gam ts → Option (den t)} : @Ok (no_index _) (sApp i F Γ) Q (@Kp.mk (no_index _) Q) = Ok (i.get Γ) fun xs => Ok (F Γ) fun d => xs.length < sizeLine ∧ Q (.nx (i.set (some (xs ++ [d])) Γ)) := by
  unfold sApp
  walk_at "okp"
theorem Ok_sAppE {ts : List Ty} {Γ : Gam ts} {ρ : Type} {Q : Fl (Gam ts) ρ → Prop} {t : Ty} {i : Mem ts (.list t)} {F : Gam ts → Option (den t × Gam ts)} : @Ok (no_index _) (sAppE i F Γ) Q (@Kp.mk (no_index _) Q) = Ok (i.get Γ) fun _ => Ok (F Γ) fun p => Ok (i.get p.2) fun xs => xs.length < sizeLine ∧ Q (.nx (i.set (some (xs ++ [p.1])) p.2)) := by
  unfold sAppE
  walk_at "okp"
theorem Ok_sExt {ts : List Ty} {Γ : Gam ts} {ρ : Type} {Q : Fl (Gam ts) ρ → Prop} {t : Ty} {i : Mem ts (.list t)} {F : Gam ts → Option (List (den t))} : @Ok (no_index _) (sExt i F Γ) Q (@Kp.mk (no_index _) Q) = Ok (i.get Γ) fun xs => Ok (F Γ) fun d => lenOk (xs.length + d.length) = true ∧ Q (.nx (i.set (some (xs ++ d)) Γ)) := by
  unfold sExt
  walk_at "okp"
theorem Ok_sLput {ts : List Ty} {Γ : Gam ts} {ρ : Type} {Q : Fl (Gam ts) ρ → Prop} {t : Ty} {i : Mem ts (.list t)} {F : Gam ts → Option (den t)} {G : Gam ts → Option Int} : @Ok (no_index _) (sLput i F G Γ) Q (@Kp.mk (no_index _) Q) = Ok (i.get Γ) fun xs => Ok (F Γ) fun d => Ok (G Γ) fun k => Ok (ixN xs.length k) fun j => Q (.nx (i.set (some (xs.set j d)) Γ)) := by
  unfold sLput
  walk_at "okp"
theorem Ok_sLputX {ts : List Ty} {Γ : Gam ts} {ρ : Type} {Q : Fl (Gam ts) ρ → Prop} {t : Ty} {i : Mem ts (.list t)} {F : Gam ts → Option (den t × Gam ts)} {G : Gam ts → Option (Int × Gam ts)} : @Ok (no_index _) (sLputX i F G Γ) Q (@Kp.mk (no_index _) Q) = Ok (F Γ) fun p => Ok (i.get p.2) fun _ => Ok (G p.2) fun q => Ok (i.get q.2) fun xs => Ok (ixN xs.length q.1) fun j => Q (.nx (i.set (some (xs.set j p.1)) q.2)) := by
  unfold sLputX
  walk_at "okp"
theorem Ok_sDputX {ts : List Ty} {Γ : Gam ts} {ρ : Type} {Q : Fl (Gam ts) ρ → Prop} {k t : Ty} {i : Mem ts (.dict k t)} {F : Gam ts → Option (den t × Gam ts)} {G : Gam ts → Option (den k × Gam ts)} : @Ok (no_index _) (sDputX i F G Γ) Q (@Kp.mk (no_index _) Q) = Ok (F Γ) fun p => Ok (i.get p.2) fun _ => Ok (G p.2) fun q => Ok (i.get q.2) fun d => d.length < sizeLine ∧ Q (.nx (i.set (some (fPutK d q.1 p.1)) q.2)) := by
  unfold sDputX
  walk_at "okp"
theorem Ok_sScope {ts : List Ty} {Γ : Gam ts} {ρ : Type} {Q : Fl (Gam ts) ρ → Prop} {bs : List Bool} {F : Gam ts → Option (Fl (Gam ts) ρ)} : @Ok (no_index _) (sScope bs F Γ) Q (@Kp.mk (no_index _) Q) = Ok (F (Gam.mask bs Γ)) fun f => Q (flMask bs f) := by
  unfold sScope
  cases h : F (Gam.mask bs Γ) with | none => exact propext ⟨fun ⟨_, e, _⟩ => (by cases e), fun ⟨_, e, _⟩ => (by cases e)⟩ | some f => rw [Option.map_some, Ok_some, Ok_some]
theorem Ok_sHput {ts : List Ty} {Γ : Gam ts} {ρ : Type} {Q : Fl (Gam ts) ρ → Prop} {b t : Ty} {i : Mem ts (.hl b)} {r : RIx b t} {F : Gam ts → Option (den t × Gam ts)} : @Ok (no_index _) (sHput i r F Γ) Q (@Kp.mk (no_index _) Q) = Ok (F Γ) fun p => Ok (i.get p.2) fun d => Q (.nx (i.set (some (r.put d p.1)) p.2)) := by
  unfold sHput
  walk_at "okp"
theorem Ok_sPut {ts : List Ty} {Γ : Gam ts} {ρ : Type} {Q : Fl (Gam ts) ρ → Prop} {k t : Ty} {i : Mem ts (.dict k t)} {F : Gam ts → Option (den t)} {G : Gam ts → Option (den k)} : @Ok (no_index _) (sPut i F G Γ) Q (@Kp.mk (no_index _) Q) = Ok (i.get Γ) fun d => Ok (F Γ) fun y => Ok (G Γ) fun x => d.length < sizeLine ∧ Q (.nx (i.set (some (fPutK d x y)) Γ)) := by
  unfold sPut
  walk_at "okp"
theorem Ok_sDpop {ts : List Ty} {Γ : Gam ts} {ρ : Type} {Q : Fl (Gam ts) ρ → Prop} {k t : Ty} {i : Mem ts (.dict k t)} {G : Gam ts → Option (den k)} : @Ok (no_index _) (sDpop i G Γ) Q (@Kp.mk (no_index _) Q) = Ok (i.get Γ) fun d => Ok (G Γ) fun x => (fGetK d x).isSome = true ∧ Q (.nx (i.set (some (fDropK d x)) Γ)) := by
  unfold sDpop
  walk_at "okp"
theorem Ok_sPutN {ts : List Ty} {Γ : Gam ts} {ρ : Type} {Q : Fl (Gam ts) ρ → Prop} {k t : Ty} {i : Mem ts (.dict k t)} {F : Gam ts → Option (den t)} {G : Gam ts → Option (den k)} : @Ok (no_index _) (sPutN i F G Γ) Q (@Kp.mk (no_index _) Q) = Ok (i.get Γ) fun d => Ok (F Γ) fun y => Ok (G Γ) fun x => (d.length < sizeLine ∧ (fGetK d x).isSome = false) ∧ Q (.nx (i.set (some (d ++ [(x, y)])) Γ)) := by
  unfold sPutN
  walk_at "okp"
theorem Ok_sPutR {ts : List Ty} {Γ : Gam ts} {ρ : Type} {Q : Fl (Gam ts) ρ → Prop} {k t : Ty} {i : Mem ts (.dict k t)} {F : Gam ts → Option (den t)} {G : Gam ts → Option (den k)} : @Ok (no_index _) (sPutR i F G Γ) Q (@Kp.mk (no_index _) Q) = Ok (i.get Γ) fun d => Ok (F Γ) fun y => Ok (G Γ) fun x => (d.length < sizeLine ∧ (d.map fun q => keyT k q.1).Nodup) ∧ Q (.nx (i.set (some (fPutK d x y)) Γ)) := by
  unfold sPutR
  walk_at "okp"
theorem Ok_sDApp {ts : List Ty} {Γ : Gam ts} {ρ : Type} {Q : Fl (Gam ts) ρ → Prop} {k u : Ty} {i : Mem ts (.dict k (.own (.list u)))} {F : Gam ts → Option (den u)} {G : Gam ts → Option (den k)} : @Ok (no_index _) (sDApp i G F Γ) Q (@Kp.mk (no_index _) Q) = Ok (i.get Γ) fun d => Ok (G Γ) fun x => Ok (fGetK (β := List (den u)) d x) fun xs => Ok (F Γ) fun y => xs.length < sizeLine ∧ Q (.nx (i.set (some (fUpdK (β := List (den u)) d x (xs ++ [y]))) Γ)) := by
  unfold sDApp
  walk_at "okp"
theorem Ok_sAlApp {ts : List Ty} {Γ : Gam ts} {ρ : Type} {Q : Fl (Gam ts) ρ → Prop} {k u : Ty} {i : Mem ts (.dict k (.own (.list u)))} {G : Gam ts → Option (den k × List (den k × List (den u)))} {F : Gam ts → Option (den u)} : @Ok (no_index _) (sAlApp i G F Γ) Q (@Kp.mk (no_index _) Q) = Ok (G Γ) fun q => Ok (fGetK (β := List (den u)) q.2 q.1) fun xs => Ok (F (i.set (some q.2) Γ)) fun y => xs.length < sizeLine ∧ Q (.nx (i.set (some (fUpdK (β := List (den u)) q.2 q.1 (xs ++ [y]))) (i.set (some q.2) Γ))) := by
  unfold sAlApp
  walk_at "okp"
theorem Ok_gSetd {ts : List Ty} {Γ : Gam ts} {k t : Ty} {i : Mem ts (.dict k (.own t))} {F : Gam ts → Option (den k)} {D : Gam ts → Option (den t)} {Q : den k × List (den k × den t) → Prop} : @Ok (no_index _) (gSetd i F D Γ) Q (@Kp.mk (no_index _) Q) = Ok (i.get Γ) fun d => Ok (F Γ) fun x => Ok (D Γ) fun y => d.length < sizeLine ∧ Q (x, if (fGetK (β := den t) d x).isSome = true then d else d ++ [(x, y)]) := by
  unfold gSetd
  walk_at "okp"
theorem Ok_gGet {ts : List Ty} {Γ : Gam ts} {k t : Ty} {i : Mem ts (.dict k (.own t))} {F : Gam ts → Option (den k)} {Q : den k × List (den k × den t) → Prop} : @Ok (no_index _) (gGet i F Γ) Q (@Kp.mk (no_index _) Q) = Ok (F Γ) fun x => Ok (i.get Γ) fun d => (fGetK (β := den t) d x).isSome = true ∧ Q (x, d) := by
  unfold gGet
  walk_at "okp"
theorem Ok_sRaise {nm : Str} {Q : Fl G (Str × Option ρ) → Prop} : @Ok (no_index _) ((sRaise nm : G → Option (Fl G (Str × Option ρ))) Γ) Q (@Kp.mk (no_index _) Q) = Q (.rt (nm, none) Γ) := by
  unfold sRaise
  walk_at "okp"
theorem Ok_sLift {A : G → Option (Fl G ρ)} {Q : Fl G (Str × Option ρ) → Prop} : @Ok (no_index _) (sLift A Γ) Q (@Kp.mk (no_index _) Q) = Ok (A Γ) fun r => Q r.lift := by
  unfold sLift
  walk_at "okp"
theorem Ok_eSomeR {A : G → Option (Str × Option α)} {Q : Str × Option (Option α) → Prop} : @Ok (no_index _) (eSomeR A Γ) Q (@Kp.mk (no_index _) Q) = Ok (A Γ) fun r => Q (r.1, r.2.map some) := by
  unfold eSomeR
  walk_at "okp"
theorem Ok_sSetR {ts : List Ty} {Γ : Gam ts} {ρ : Type} {Q : Fl (Gam ts) (Str × Option ρ) → Prop} {t : Ty} {i : Mem ts t} {A : Gam ts → Option (Str × Option (den t))} : @Ok (no_index _) (sSetR i A Γ) Q (@Kp.mk (no_index _) Q) = Ok (A Γ) fun r => ExcQ (Q (.rt (r.1, none) Γ)) (fun d => Q (.nx (i.set (some d) Γ))) r.2 := by
  unfold sSetR
  rw [Ok_bind]
  refine Ok_cong fun r => ?_
  obtain ⟨nm, rv⟩ := r
  cases rv <;> exact Ok_some
theorem Ok_sDropR {A : G → Option (Str × Option α)} {Q : Fl G (Str × Option ρ) → Prop} : @Ok (no_index _) (sDropR A Γ) Q (@Kp.mk (no_index _) Q) = Ok (A Γ) fun r => ExcQ (Q (.rt (r.1, none) Γ)) (fun _ => Q (.nx Γ)) r.2 := by
  unfold sDropR
  rw [Ok_bind]
  refine Ok_cong fun r => ?_
  obtain ⟨nm, rv⟩ := r
  cases rv <;> exact Ok_some
theorem Ok_sTry {A : G → Option (Fl G (Str × Option ρ))} {R : Str → G → Option (Fl G ρ)} {Q : Fl G ρ → Prop} : @Ok (no_index _) (sTry A R Γ) Q (@Kp.mk (no_index _) Q) = Ok (A Γ) fun r => TryQ R Q r := by
  unfold sTry
  rw [Ok_bind]
  refine Ok_cong fun r => ?_
  cases r with
  | nx Γ' => exact Ok_some
  | bk Γ' => exact Ok_some
  | ct Γ' => exact Ok_some
  | rt r Γ' =>
    obtain ⟨nm, rv⟩ := r
    cases rv with
    | none => rfl
    | some d => exact Ok_some
theorem Ok_cOne {t : ETab} {nm : Str} {A : G → Option (Fl G ρ)} {R : Str → G → Option (Fl G ρ)} {Q : Fl G ρ → Prop} : @Ok (no_index _) (cOne t A R nm Γ) Q (@Kp.mk (no_index _) Q) = Ok (t.at_ nm) fun b => Wif b (Ok (A Γ) Q) (Ok (R nm Γ) Q) := by
  unfold cOne
  cases e : t.at_ nm with
  | none => rw [Ok_none]; exact Ok_none.symm
  | some b =>
    rw [Ok_some]
    cases b with
    | true => rfl
    | false => rfl
theorem Ok_cTup {t : ETab} {nm : Str} {R : Str → G → Option (Fl G ρ)} {Q : Fl G ρ → Prop} : @Ok (no_index _) (cTup t R nm Γ) Q (@Kp.mk (no_index _) Q) = Ok (t.at_ nm) fun b => Wif b False (Ok (R nm Γ) Q) := by
  unfold cTup
  cases e : t.at_ nm with
  | none => rw [Ok_none]; exact Ok_none.symm
  | some b =>
    rw [Ok_some]
    cases b with
    | true => exact Ok_none
    | false => rfl
theorem Ok_cAs {ts : List Ty} {Γ : Gam ts} {ρ : Type} {i : Mem ts .exn} {t : ETab} {nm : Str} {A : Gam ts → Option (Fl (Gam ts) ρ)} {R : Str → Gam ts → Option (Fl (Gam ts) ρ)} {Q : Fl (Gam ts) ρ → Prop} : @Ok (no_index _) (cAs i t A R nm Γ) Q (@Kp.mk (no_index _) Q) = Ok (t.at_ nm) fun b => Wif b (Ok (A (i.set (some nm) Γ)) fun r => Q (r.off i)) (Ok (R nm Γ) Q) := by
  unfold cAs
  cases e : t.at_ nm with
  | none => rw [Ok_none]; exact Ok_none.symm
  | some b =>
    rw [Ok_some]
    cases b with
    | true => 
      show Ok ((A (i.set (some nm) Γ)).bind _) Q = _
      rw [Ok_bind]
      exact Ok_cong fun _ => Ok_some
    | false => rfl
def SeqQ {G ρ : Type} (F : G → Option (Fl G ρ)) (Q : Fl G ρ → Prop) (f : Fl G ρ) (_ : Kp F := ⟨⟩) (_ : Kp Q := ⟨⟩) : Prop := match f with
  | .nx Γ' => Ok (F Γ') Q
  | r => Q r
section
variable {F F' : G → Option (Fl G ρ)} {Q : Fl G ρ → Prop} {d : ρ}
theorem SeqQ_nx : SeqQ F Q (.nx Γ) = Ok (F Γ) Q := rfl
theorem SeqQ_bk : SeqQ F Q (.bk Γ) = Q (.bk Γ) := rfl
theorem SeqQ_ct : SeqQ F Q (.ct Γ) = Q (.ct Γ) := rfl
theorem SeqQ_rt : SeqQ F Q (.rt d Γ) = Q (.rt d Γ) := rfl
theorem Ok_sSeq : @Ok (no_index _) (sSeq F F' Γ) Q (@Kp.mk (no_index _) Q) = Ok (F Γ) fun f => SeqQ F' Q f := by
  unfold sSeq
  rw [Ok_bind]
  refine Ok_cong fun r => ?_
  cases r with
  | nx Γ' => rfl
  | bk Γ' => exact Ok_some
  | ct Γ' => exact Ok_some
  | rt d Γ' => exact Ok_some
end
def EndQ {G ρ : Type} (Q : ρ → Prop) (f : Fl G ρ) (_ : Kp Q := ⟨⟩) : Prop := match f with
  | .rt d _ => Q d
  | _ => False
theorem EndQ_rt {Q : ρ → Prop} {d : ρ} : EndQ Q (.rt d Γ) = Q d := rfl
theorem EndQ_nx {Q : ρ → Prop} : EndQ Q (.nx Γ) = False := rfl
theorem Ok_endOf {Q : ρ → Prop} {o : Option (Fl G ρ)} : @Ok (no_index _) (endOf o) Q (@Kp.mk (no_index _) Q) = Ok o fun f => EndQ Q f := by
  cases o with
  | none => rw [Ok_none]; exact Ok_none
  | some f =>
    rw [Ok_some]
    cases f with
    | rt d Γ => exact Ok_some
    | nx Γ => exact Ok_none
    | bk Γ => exact Ok_none
    | ct Γ => exact Ok_none
def EndIO {ts : List Ty} {tio : Ty} {ρ : Type} (i : Mem ts tio) (fall : Option ρ) (Q : ρ × den tio → Prop) (f : Fl (Gam ts) ρ) (_ : Kp i := ⟨⟩) (_ : Kp fall := ⟨⟩) (_ : Kp Q := ⟨⟩) : Prop := match f with
  | .rt d Γ => Ok (i.get Γ) fun x => Q (d, x)
  | .nx Γ => Ok fall fun d => Ok (i.get Γ) fun x => Q (d, x)
  | _ => False
section
variable {ts : List Ty} {tio : Ty} {i : Mem ts tio} {fall : Option ρ} {Q : ρ × den tio → Prop} {Γ : Gam ts} {d : ρ}
theorem EndIO_rt : @EndIO ts tio ρ i fall Q (@Fl.rt (no_index _) (no_index _) d Γ) (@Kp.mk (no_index _) i) (@Kp.mk (no_index _) fall) (@Kp.mk (no_index _) Q) = Ok (i.get Γ) fun x => Q (d, x) := rfl
theorem EndIO_nx : @EndIO ts tio ρ i fall Q (@Fl.nx (no_index _) (no_index _) Γ) (@Kp.mk (no_index _) i) (@Kp.mk (no_index _) fall) (@Kp.mk (no_index _) Q) = Ok fall fun d => Ok (i.get Γ) fun x => Q (d, x) := rfl
theorem Ok_endIO {o : Option (Fl (Gam ts) ρ)} : @Ok (no_index _) (endIO i fall o) Q (@Kp.mk (no_index _) Q) = Ok o fun f => EndIO i fall Q f := by
  cases o with
  | none => rw [Ok_none]; exact Ok_none
  | some f =>
    rw [Ok_some]
    cases f with
    | rt d Γ => exact Ok_map
    | nx Γ =>
      show Ok (fall.bind _) Q = _
      rw [Ok_bind]
      exact Ok_cong fun _ => Ok_map
    | bk Γ => exact Ok_none
    | ct Γ => exact Ok_none
end
def EndIO2 {ts : List Ty} {t1 t2 : Ty} {ρ : Type} (i1 : Mem ts t1) (i2 : Mem ts t2) (fall : Option ρ) (Q : ρ × (den t1 × den t2) → Prop) (f : Fl (Gam ts) ρ) (_ : Kp i1 := ⟨⟩) (_ : Kp i2 := ⟨⟩) (_ : Kp fall := ⟨⟩) (_ : Kp Q := ⟨⟩) : Prop := match f with
  | .rt d Γ => Ok (i1.get Γ) fun x => Ok (i2.get Γ) fun y => Q (d, x, y)
  | .nx Γ => Ok fall fun d => Ok (i1.get Γ) fun x => Ok (i2.get Γ) fun y => Q (d, x, y)
  | _ => False
section
variable {ts : List Ty} {t1 t2 : Ty} {i1 : Mem ts t1} {i2 : Mem ts t2} {fall : Option ρ} {Q : ρ × (den t1 × den t2) → Prop} {Γ : Gam ts} {d : ρ}
theorem EndIO2_rt : @EndIO2 ts t1 t2 ρ i1 i2 fall Q (@Fl.rt (no_index _) (no_index _) d Γ) (@Kp.mk (no_index _) i1) (@Kp.mk (no_index _) i2) (@Kp.mk (no_index _) fall) (@Kp.mk (no_index _) Q) = Ok (i1.get Γ) fun x => Ok (i2.get Γ) fun y => Q (d, x, y) := rfl
theorem EndIO2_nx : @EndIO2 ts t1 t2 ρ i1 i2 fall Q (@Fl.nx (no_index _) (no_index _) Γ) (@Kp.mk (no_index _) i1) (@Kp.mk (no_index _) i2) (@Kp.mk (no_index _) fall) (@Kp.mk (no_index _) Q) = Ok fall fun d => Ok (i1.get Γ) fun x => Ok (i2.get Γ) fun y => Q (d, x, y) := rfl
theorem Ok_endIO2 {o : Option (Fl (Gam ts) ρ)} : @Ok (no_index _) (endIO2 i1 i2 fall o) Q (@Kp.mk (no_index _) Q) = Ok o fun f => EndIO2 i1 i2 fall Q f := by
  cases o with
  | none => rw [Ok_none]; exact Ok_none
  | some f =>
    rw [Ok_some]
    cases f with
    | rt d Γ =>
      show Ok ((i1.get Γ).bind _) Q = _
      rw [Ok_bind]
      exact Ok_cong fun _ => Ok_map
    | nx Γ =>
      show Ok (fall.bind _) Q = _
      rw [Ok_bind]
      refine Ok_cong fun _ => ?_
      rw [Ok_bind]
      exact Ok_cong fun _ => Ok_map
    | bk Γ => exact Ok_none
    | ct Γ => exact Ok_none
end
def PubQ {ts : List Ty} {t : Ty} {ρ : Type} (i : Mem ts t) (Q : Fl (Gam ts) ρ → Prop) (f : Fl (Gam ts) ρ) (_ : Kp i := ⟨⟩) (_ : Kp Q := ⟨⟩) : Prop := Q (f.on (i.set none))
section
variable {ts : List Ty} {t : Ty} {i : Mem ts t} {Q : Fl (Gam ts) ρ → Prop} {Γ : Gam ts} {d : ρ} {F : Gam ts → Option (Fl (Gam ts) ρ)}
theorem PubQ_nx : @PubQ ts t ρ i Q (@Fl.nx (no_index _) (no_index _) Γ) (@Kp.mk (no_index _) i) (@Kp.mk (no_index _) Q) = Q (.nx (i.set none Γ)) := rfl
theorem PubQ_bk : @PubQ ts t ρ i Q (@Fl.bk (no_index _) (no_index _) Γ) (@Kp.mk (no_index _) i) (@Kp.mk (no_index _) Q) = Q (.bk (i.set none Γ)) := rfl
theorem PubQ_ct : @PubQ ts t ρ i Q (@Fl.ct (no_index _) (no_index _) Γ) (@Kp.mk (no_index _) i) (@Kp.mk (no_index _) Q) = Q (.ct (i.set none Γ)) := rfl
theorem PubQ_rt : @PubQ ts t ρ i Q (@Fl.rt (no_index _) (no_index _) d Γ) (@Kp.mk (no_index _) i) (@Kp.mk (no_index _) Q) = Q (.rt d (i.set none Γ)) := rfl
theorem Ok_sPub : @Ok (no_index _) (sPub i F Γ) Q (@Kp.mk (no_index _) Q) = Ok (F Γ) fun f => PubQ i Q f := by
  unfold sPub
  rw [Ok_bind]
  exact Ok_cong fun _ => Ok_some
end
def AlQ {ts : List Ty} {k t : Ty} {ρ : Type} (i : Mem ts (.dict k (.own t))) (j : Mem ts t) (x : den k) (d : List (den k × den t)) (Q : Fl (Gam ts) ρ → Prop) (f : Fl (Gam ts) ρ) (_ : Kp i := ⟨⟩) (_ : Kp j := ⟨⟩) (_ : Kp Q := ⟨⟩) : Prop := match f with
  | .nx Γ => Ok (alEnd i j x d Fl.nx Γ) Q
  | .bk Γ => Ok (alEnd i j x d Fl.bk Γ) Q
  | .ct Γ => Ok (alEnd i j x d Fl.ct Γ) Q
  | .rt r Γ => Ok (alEnd i j x d (Fl.rt r) Γ) Q
section
variable {ts : List Ty} {k t : Ty} {i : Mem ts (.dict k (.own t))} {j : Mem ts t} {x : den k} {d : List (den k × den t)} {Q : Fl (Gam ts) ρ → Prop} {Γ : Gam ts} {r : ρ} {F : Gam ts → Option (Fl (Gam ts) ρ)} {D : Gam ts → Option (den k × List (den k × den t))}
theorem AlQ_nx : @AlQ ts k t ρ i j x d Q (@Fl.nx (no_index _) (no_index _) Γ) (@Kp.mk (no_index _) i) (@Kp.mk (no_index _) j) (@Kp.mk (no_index _) Q) = Ok (alEnd i j x d Fl.nx Γ) Q := rfl
theorem AlQ_bk : @AlQ ts k t ρ i j x d Q (@Fl.bk (no_index _) (no_index _) Γ) (@Kp.mk (no_index _) i) (@Kp.mk (no_index _) j) (@Kp.mk (no_index _) Q) = Ok (alEnd i j x d Fl.bk Γ) Q := rfl
theorem AlQ_ct : @AlQ ts k t ρ i j x d Q (@Fl.ct (no_index _) (no_index _) Γ) (@Kp.mk (no_index _) i) (@Kp.mk (no_index _) j) (@Kp.mk (no_index _) Q) = Ok (alEnd i j x d Fl.ct Γ) Q := rfl
theorem AlQ_rt : @AlQ ts k t ρ i j x d Q (@Fl.rt (no_index _) (no_index _) r Γ) (@Kp.mk (no_index _) i) (@Kp.mk (no_index _) j) (@Kp.mk (no_index _) Q) = Ok (alEnd i j x d (Fl.rt r) Γ) Q := rfl
theorem Ok_sAls : @Ok (no_index _) (sAls i j D F Γ) Q (@Kp.mk (no_index _) Q) = Ok (D Γ) fun q => Ok (fGetK (β := den t) q.2 q.1) fun y => Ok (F (j.set (some y) (i.set none Γ))) fun f => AlQ i j q.1 q.2 Q f := by
  unfold sAls
  rw [Ok_bind]
  refine Ok_cong fun q => ?_
  rw [Ok_bind]
  refine Ok_cong fun y => ?_
  rw [Ok_bind]
  refine Ok_cong fun f => ?_
  cases f <;> rfl
end
end
end VV
namespace Law
open PySem L2 VV
def topS (i : Nat) : Stmt := PySem.Challenge.pw_readgrove_k62_refused_with_empty_rules.main.body.getD i (.Pass ⟨0, 0, 0, 0⟩)
structure Txt (K : PySem.W.Frag) (mg : Str → Option Value) : Prop where
  b_ValueError : mg "ValueError" = none
  b_all : mg "all" = none
  b_any : mg "any" = none
  b_enumerate : mg "enumerate" = none
  b_isinstance : mg "isinstance" = none
  b_len : mg "len" = none
  b_list : mg "list" = none
  b_range : mg "range" = none
  b_str : mg "str" = none
  b_tuple : mg "tuple" = none
  b_zip : mg "zip" = none
  c_GREAT : ∃ t, mg "GREAT" = some (.str "ABCDEFGHIJKLMNOPQRSTUVWXYZ" t)
  k_Making : ∃ C, MkT K mg C
  e_Endless : ∃ C, ErrC K mg "Endless" C
  e_GroveError : ∃ C, ErrC K mg "GroveError" C
  e_NoGrammar : ∃ C, ErrC K mg "NoGrammar" C
  e_NoOrder : ∃ C, ErrC K mg "NoOrder" C
  e_NoReading : ∃ C, ErrC K mg "NoReading" C
  e_NoText : ∃ C, ErrC K mg "NoText" C
  e_TooMany : ∃ C, ErrC K mg "TooMany" C
  i_NoGrammar_Endless : SubN K "NoGrammar" "Endless" false
  i_NoGrammar_GroveError : SubN K "NoGrammar" "GroveError" true
  i_NoGrammar_NoGrammar : SubN K "NoGrammar" "NoGrammar" true
  i_NoGrammar_NoOrder : SubN K "NoGrammar" "NoOrder" false
  i_NoGrammar_NoReading : SubN K "NoGrammar" "NoReading" false
  i_NoGrammar_NoText : SubN K "NoGrammar" "NoText" false
  i_NoGrammar_TooMany : SubN K "NoGrammar" "TooMany" false
  j_NoGrammar_ValueError : SubB K "NoGrammar" "ValueError" true
  n_GroveError : PySem.W.subIn K (.type "NoneType") (.ref e_GroveError.choose) = some false
section
variable {K : KW} {mg : Str → Option Value} {base : Heap}
abbrev s__law_stir : Stmt := topS 26
abbrev N__law_stir : List Str := ["cell", "k", "number"]
abbrev P__law_stir : List Str := ["cell", "k"]
theorem sc__law_stir : FnScope N__law_stir P__law_stir (defScope s__law_stir) := ⟨rfl, rfl, rfl, by decide +kernel, rfl, by decide +kernel, by decide +kernel⟩
abbrev g__law_stir : List Ty := [Ty.int, Ty.int, Ty.int]
abbrev M__law_stir : List Md := [.w, .w, .w]
abbrev v__law_stir_cell : Mem g__law_stir Ty.int := .z
abbrev v__law_stir_k : Mem g__law_stir Ty.int := (.s .z)
abbrev v__law_stir_number : Mem g__law_stir Ty.int := (.s (.s .z))
noncomputable def b__law_stir : Gam g__law_stir → Option (Fl (Gam g__law_stir) (den Ty.int)) :=
  (sSeq (sSet (v__law_stir_number) (e2 fAdd (e2 fAdd (e2 fMul (e2 fMod (eV (t := Ty.int) (v__law_stir_cell)) (e2 fPow (eC (10 : Int)) (eC (40 : Int)))) (eC (48271 : Int))) (e2 fMul (e2 fMul (e2 fPow (eC (3 : Int)) (eC (60 : Int))) (e2 fAdd (eV (t := Ty.int) (v__law_stir_k)) (eC (1 : Int)))) (e2 fAdd (eV (t := Ty.int) (v__law_stir_k)) (eC (1 : Int))))) (eV (t := Ty.int) (v__law_stir_k))))
  (sSeq (sSet (v__law_stir_number) (e2 fAdd (e2 fMul (eV (t := Ty.int) (v__law_stir_number)) (eV (t := Ty.int) (v__law_stir_number))) (e2 fMul (eC (69621 : Int)) (eV (t := Ty.int) (v__law_stir_number)))))
  (sRet (e2 fDiv (e2 fMod (e2 fMul (eV (t := Ty.int) (v__law_stir_number)) (eV (t := Ty.int) (v__law_stir_number))) (e2 fAdd (e2 fPow (eC (10 : Int)) (eC (61 : Int))) (eC (7 : Int)))) (eC (8 : Int))))))
noncomputable def m__law_stir : den (Ty.cons Ty.int (Ty.last Ty.int)) → Option (den Ty.int) := hide (runG (Ty.cons Ty.int (Ty.last Ty.int)) [Ty.int] b__law_stir)
theorem m__law_stir_eq (d : den (Ty.cons Ty.int (Ty.last Ty.int))) : m__law_stir d = runG (Ty.cons Ty.int (Ty.last Ty.int)) [Ty.int] b__law_stir d := congrFun (hide_eq _) d
theorem m__law_stir_at (p0 : den Ty.int) (p1 : den Ty.int) : m__law_stir (p0, p1) = endOf (b__law_stir ((some p0, some p1, none, ()) : Gam g__law_stir)) := by
  rw [m__law_stir_eq]
  rfl
set_option maxHeartbeats 4000000 in
theorem ok__law_stir {f : Addr} {fd : FuncData} (F : Fun K "_law_stir" "_law_stir" s__law_stir f fd) (T : Txt K mg) :
    FnOk K.P K.w K mg base CX0 1 f fd P__law_stir (spP K (Ty.cons Ty.int (Ty.last Ty.int)) .o Ty.int m__law_stir) := by
  have S := sc__law_stir
  refine fn_ok (F := b__law_stir) [Ty.int] M__law_stir F S rfl rfl rfl m__law_stir_eq (fun cdv A outer s H E hr => ?_)
  refine ⟨_, (pss_cons (ps_set (i := 2) S.nd rfl (Or.inl rfl) (pe_op op_add (pe_op op_add (pe_op op_mulW (pe_op op_mod (pv 0) (pe_op op_pow pe_int pe_int)) pe_int) (pe_op op_mulW (pe_op op_mulW (pe_op op_pow pe_int pe_int) (pe_op op_add (pv 1) pe_int)) (pe_op op_add (pv 1) pe_int))) (pv 1)))
  (pss_cons (ps_set (i := 2) S.nd rfl (Or.inl rfl) (pe_op op_add (pe_op op_mulW (pv 2) (pv 2)) (pe_op op_mulW pe_int (pv 2))))
  (pss_one (ps_ret (pe_op op_fdivW (pe_op op_mod (pe_op op_mulW (pv 2) (pv 2)) (pe_op op_add (pe_op op_pow pe_int pe_int) pe_int)) pe_int))))), ?_⟩
  exact (rs_seq (rs_set (ms := M__law_stir) (m := .w) (v__law_stir_number) (rp_op (m1 := .b) (m2 := .b) v_add (rp_op (m1 := .b) (m2 := .b) v_add (rp_op (m1 := .b) (m2 := .b) v_mul (rp_op (m1 := .b) (m2 := .b) v_mod (rp_frz .b (rp_varw (ms := M__law_stir) (v__law_stir_cell))) (rp_op (m1 := .b) (m2 := .b) v_pow rp_int rp_int)) rp_int) (rp_op (m1 := .b) (m2 := .b) v_mul (rp_op (m1 := .b) (m2 := .b) v_mul (rp_op (m1 := .b) (m2 := .b) v_pow rp_int rp_int) (rp_op (m1 := .b) (m2 := .b) v_add (rp_frz .b (rp_varw (ms := M__law_stir) (v__law_stir_k))) rp_int)) (rp_op (m1 := .b) (m2 := .b) v_add (rp_frz .b (rp_varw (ms := M__law_stir) (v__law_stir_k))) rp_int))) (rp_frz .b (rp_varw (ms := M__law_stir) (v__law_stir_k)))))
  (rs_seq (rs_set (ms := M__law_stir) (m := .w) (v__law_stir_number) (rp_op (m1 := .b) (m2 := .b) v_add (rp_op (m1 := .b) (m2 := .b) v_mul (rp_frz .b (rp_varw (ms := M__law_stir) (v__law_stir_number))) (rp_frz .b (rp_varw (ms := M__law_stir) (v__law_stir_number)))) (rp_op (m1 := .b) (m2 := .b) v_mul rp_int (rp_frz .b (rp_varw (ms := M__law_stir) (v__law_stir_number))))))
  (rs_ret (rm := .o) (ρ := Ty.int) (rp_op (m1 := .b) (m2 := .b) v_div (rp_op (m1 := .b) (m2 := .b) v_mod (rp_op (m1 := .b) (m2 := .b) v_mul (rp_frz .b (rp_varw (ms := M__law_stir) (v__law_stir_number))) (rp_frz .b (rp_varw (ms := M__law_stir) (v__law_stir_number)))) (rp_op (m1 := .b) (m2 := .b) v_add (rp_op (m1 := .b) (m2 := .b) v_pow rp_int rp_int) rp_int)) rp_int))))
abbrev s__law_drawn : Stmt := topS 27
abbrev N__law_drawn : List Str := ["cell", "sizes", "found", "rest", "k"]
abbrev P__law_drawn : List Str := ["cell", "sizes"]
theorem sc__law_drawn : FnScope N__law_drawn P__law_drawn (defScope s__law_drawn) := ⟨rfl, rfl, rfl, by decide +kernel, rfl, by decide +kernel, by decide +kernel⟩
abbrev g__law_drawn : List Ty := [Ty.int, (Ty.list Ty.int), (Ty.list Ty.int), Ty.int, Ty.int]
abbrev M__law_drawn : List Md := [.w, .w, .o, .w, .w]
abbrev v__law_drawn_cell : Mem g__law_drawn Ty.int := .z
abbrev v__law_drawn_sizes : Mem g__law_drawn (Ty.list Ty.int) := (.s .z)
abbrev v__law_drawn_found : Mem g__law_drawn (Ty.list Ty.int) := (.s (.s .z))
abbrev v__law_drawn_rest : Mem g__law_drawn Ty.int := (.s (.s (.s .z)))
abbrev v__law_drawn_k : Mem g__law_drawn Ty.int := (.s (.s (.s (.s .z))))
noncomputable def lb__law_drawn_1 : Gam g__law_drawn → Option (Fl (Gam g__law_drawn) (den (Ty.list Ty.int))) :=
  (sIf (e2 fGe (eV (t := Ty.int) (v__law_drawn_cell)) (e2 fPow (eC (10 : Int)) (eC (18 : Int)))) (sSeq (sApp (v__law_drawn_found) (e2 fMod (eV (t := Ty.int) (v__law_drawn_rest)) (e2 atI (eV (t := (Ty.list Ty.int)) (v__law_drawn_sizes)) (eV (t := Ty.int) (v__law_drawn_k)))))
  (sSet (v__law_drawn_rest) (e2 fDiv (eV (t := Ty.int) (v__law_drawn_rest)) (e2 atI (eV (t := (Ty.list Ty.int)) (v__law_drawn_sizes)) (eV (t := Ty.int) (v__law_drawn_k)))))) (sApp (v__law_drawn_found) (e2 fMod (e1 m__law_stir (eCons (eV (t := Ty.int) (v__law_drawn_cell)) (eV (t := Ty.int) (v__law_drawn_k)))) (e2 atI (eV (t := (Ty.list Ty.int)) (v__law_drawn_sizes)) (eV (t := Ty.int) (v__law_drawn_k))))))
noncomputable def lp__law_drawn_1 : Gam g__law_drawn → Option (Fl (Gam g__law_drawn) (den (Ty.list Ty.int))) := hide (sFor (e1 fRng1 (e1 fLen (eV (t := (Ty.list Ty.int)) (v__law_drawn_sizes)))) (bName (t := Ty.int) (v__law_drawn_k)) (Gam.mask [true, true, true, true, false]) lb__law_drawn_1)
theorem lp__law_drawn_1_eq : lp__law_drawn_1 = (sFor (e1 fRng1 (e1 fLen (eV (t := (Ty.list Ty.int)) (v__law_drawn_sizes)))) (bName (t := Ty.int) (v__law_drawn_k)) (Gam.mask [true, true, true, true, false]) lb__law_drawn_1) := hide_eq _
noncomputable def b__law_drawn : Gam g__law_drawn → Option (Fl (Gam g__law_drawn) (den (Ty.list Ty.int))) :=
  (sSeq (sSet (v__law_drawn_found) (e1 fSmall eNil))
  (sSeq (sSet (v__law_drawn_rest) (e2 fSub (eV (t := Ty.int) (v__law_drawn_cell)) (e2 fPow (eC (10 : Int)) (eC (18 : Int)))))
  (sSeq lp__law_drawn_1
  (sRetM (v__law_drawn_found)))))
noncomputable def m__law_drawn : den (Ty.cons Ty.int (Ty.last (Ty.list Ty.int))) → Option (den (Ty.list Ty.int)) := hide (runG (Ty.cons Ty.int (Ty.last (Ty.list Ty.int))) [(Ty.list Ty.int), Ty.int, Ty.int] b__law_drawn)
theorem m__law_drawn_eq (d : den (Ty.cons Ty.int (Ty.last (Ty.list Ty.int)))) : m__law_drawn d = runG (Ty.cons Ty.int (Ty.last (Ty.list Ty.int))) [(Ty.list Ty.int), Ty.int, Ty.int] b__law_drawn d := congrFun (hide_eq _) d
theorem m__law_drawn_at (p0 : den Ty.int) (p1 : den (Ty.list Ty.int)) : m__law_drawn (p0, p1) = endOf (b__law_drawn ((some p0, some p1, none, none, none, ()) : Gam g__law_drawn)) := by
  rw [m__law_drawn_eq]
  rfl
set_option maxHeartbeats 4000000 in
theorem ok__law_drawn {f : Addr} {fd : FuncData} (F : Fun K "_law_drawn" "_law_drawn" s__law_drawn f fd) (T : Txt K mg) {f__law_stir : Addr} {fd__law_stir : FuncData} (D__law_stir : Df K mg "_law_stir" "_law_stir" s__law_stir P__law_stir f__law_stir fd__law_stir) (G__law_stir : FnOk K.P K.w K mg base CX0 1 f__law_stir fd__law_stir P__law_stir (spP K (Ty.cons Ty.int (Ty.last Ty.int)) .o Ty.int m__law_stir)) :
    FnOk K.P K.w K mg base CX0 2 f fd P__law_drawn (spP K (Ty.cons Ty.int (Ty.last (Ty.list Ty.int))) .o (Ty.list Ty.int) m__law_drawn) := by
  have S := sc__law_drawn
  refine fn_ok (F := b__law_drawn) [(Ty.list Ty.int), Ty.int, Ty.int] M__law_drawn F S rfl rfl rfl m__law_drawn_eq (fun cdv A outer s H E hr => ?_)
  refine ⟨_, (pss_cons (ps_set (i := 2) S.nd rfl (Or.inl rfl) (pe_lst pa_nil))
  (pss_cons (ps_set (i := 3) S.nd rfl (Or.inl rfl) (pe_op op_sub (pv 0) (pe_op op_pow pe_int pe_int)))
  (pss_cons (ps_for PassesOwn.never rfl (pi_range1 rfl T.b_range (pa_cons (pe_callB (r := VV.rLen K) call_len (by rfl) T.b_len (by decide +kernel) (pa_cons (pv 1) pa_nil)) pa_nil)) (pg_name (i := 4) S.nd rfl (Or.inl rfl)) (pss_one (ps_if (pt_cmpR op_ge (pv 0) (pe_op op_pow pe_int pe_int) (nomark _)) (pss_cons (ps_expr (pe_bm PySem.F.plainAttrs_list PySem.F.slot_list_append PySem.F.type_list_append mt_append (pv 2) (pa_cons (pe_op op_mod (pv 3) (pe_ix (r := rIxL K) ix_list (pv 1) (pv 4) (fun _ _ => rfl))) pa_nil)))
  (pss_one (ps_set (i := 3) S.nd rfl (Or.inl rfl) (pe_op op_fdivW (pv 3) (pe_ix (r := rIxL K) ix_list (pv 1) (pv 4) (fun _ _ => rfl)))))) (pss_one (ps_expr (pe_bm PySem.F.plainAttrs_list PySem.F.slot_list_append PySem.F.type_list_append mt_append (pv 2) (pa_cons (pe_op op_mod (pe_call G__law_stir (hr.mono (by decide)) rfl D__law_stir.gl D__law_stir.fn.kp D__law_stir.bi .nil pass0 (pa_cons (pv 0) (pa_cons (pv 4) pa_nil))) (pe_ix (r := rIxL K) ix_list (pv 1) (pv 4) (fun _ _ => rfl))) pa_nil)))))))
  (pss_one (ps_ret (pv 2)))))), ?_⟩
  exact (rs_seq (rs_set (ms := M__law_drawn) (m := .o) (v__law_drawn_found) (rp_list (t := Ty.int) rl_nil))
  (rs_seq (rs_set (ms := M__law_drawn) (m := .w) (v__law_drawn_rest) (rp_op (m1 := .b) (m2 := .b) v_sub (rp_frz .b (rp_varw (ms := M__law_drawn) (v__law_drawn_cell))) (rp_op (m1 := .b) (m2 := .b) v_pow rp_int rp_int)))
  (rs_seq (rs_hide (rs_for (w := false) (t := Ty.int) [true, true, true, true, false] (ri_rng1 (w := false) (m := .b) (ra_one (rp_lenL (m' := .b) (rp_le (rp_varw (ms := M__law_drawn) (v__law_drawn_sizes)))))) (rg_name (ms := M__law_drawn) (v__law_drawn_k)) (rs_if (rt_test (rp_op (m := .b) (m1 := .b) (m2 := .b) v_ge (rp_frz .b (rp_varw (ms := M__law_drawn) (v__law_drawn_cell))) (rp_op (m1 := .b) (m2 := .b) v_pow rp_int rp_int))) (rs_seq (rs_app (ms := M__law_drawn) (v__law_drawn_found) (rp_op (m1 := .b) (m2 := .b) v_mod (rp_frz .b (rp_varw (ms := M__law_drawn) (v__law_drawn_rest))) (rp_op (m1 := .b) (m2 := .b) (v_ixL (t := Ty.int)) (rp_le (rp_varw (ms := M__law_drawn) (v__law_drawn_sizes))) (rp_frz .b (rp_varw (ms := M__law_drawn) (v__law_drawn_k))))))
  (rs_set (ms := M__law_drawn) (m := .w) (v__law_drawn_rest) (rp_op (m1 := .b) (m2 := .b) v_div (rp_frz .b (rp_varw (ms := M__law_drawn) (v__law_drawn_rest))) (rp_op (m1 := .b) (m2 := .b) (v_ixL (t := Ty.int)) (rp_le (rp_varw (ms := M__law_drawn) (v__law_drawn_sizes))) (rp_frz .b (rp_varw (ms := M__law_drawn) (v__law_drawn_k))))))) (rs_app (ms := M__law_drawn) (v__law_drawn_found) (rp_op (m1 := .b) (m2 := .b) v_mod (rp_frz .b (rp_call (mA := .b) (rm := .o) (ρ := Ty.int) (m := m__law_stir) rfl (ra_cons (rp_frz .b (rp_varw (ms := M__law_drawn) (v__law_drawn_cell))) (ra_one (rp_frz .b (rp_varw (ms := M__law_drawn) (v__law_drawn_k))))))) (rp_op (m1 := .b) (m2 := .b) (v_ixL (t := Ty.int)) (rp_le (rp_varw (ms := M__law_drawn) (v__law_drawn_sizes))) (rp_frz .b (rp_varw (ms := M__law_drawn) (v__law_drawn_k)))))))))
  (rs_retm (ms := M__law_drawn) (v__law_drawn_found)))))
abbrev s__law_unlike : Stmt := topS 28
abbrev N__law_unlike : List Str := ["number", "many", "great", "letters", "pad", "size", "at", "first", "found", "k", "sign"]
abbrev P__law_unlike : List Str := ["number", "many", "great"]
theorem sc__law_unlike : FnScope N__law_unlike P__law_unlike (defScope s__law_unlike) := ⟨rfl, rfl, rfl, by decide +kernel, rfl, by decide +kernel, by decide +kernel⟩
abbrev g__law_unlike : List Ty := [Ty.int, Ty.int, Ty.bool, Ty.str, Ty.str, Ty.int, Ty.int, Ty.int, (Ty.list Ty.str), Ty.int, Ty.str]
abbrev M__law_unlike : List Md := [.w, .w, .w, .w, .w, .w, .w, .w, .o, .w, .w]
abbrev v__law_unlike_number : Mem g__law_unlike Ty.int := .z
abbrev v__law_unlike_many : Mem g__law_unlike Ty.int := (.s .z)
abbrev v__law_unlike_great : Mem g__law_unlike Ty.bool := (.s (.s .z))
abbrev v__law_unlike_letters : Mem g__law_unlike Ty.str := (.s (.s (.s .z)))
abbrev v__law_unlike_pad : Mem g__law_unlike Ty.str := (.s (.s (.s (.s .z))))
abbrev v__law_unlike_size : Mem g__law_unlike Ty.int := (.s (.s (.s (.s (.s .z)))))
abbrev v__law_unlike_at : Mem g__law_unlike Ty.int := (.s (.s (.s (.s (.s (.s .z))))))
abbrev v__law_unlike_first : Mem g__law_unlike Ty.int := (.s (.s (.s (.s (.s (.s (.s .z)))))))
abbrev v__law_unlike_found : Mem g__law_unlike (Ty.list Ty.str) := (.s (.s (.s (.s (.s (.s (.s (.s .z))))))))
abbrev v__law_unlike_k : Mem g__law_unlike Ty.int := (.s (.s (.s (.s (.s (.s (.s (.s (.s .z)))))))))
abbrev v__law_unlike_sign : Mem g__law_unlike Ty.str := (.s (.s (.s (.s (.s (.s (.s (.s (.s (.s .z))))))))))
noncomputable def lb__law_unlike_1 : Gam g__law_unlike → Option (Fl (Gam g__law_unlike) (den (Ty.list Ty.str))) :=
  (sSeq (sSet (v__law_unlike_sign) (e2 fIxS (eV (t := Ty.str) (v__law_unlike_letters)) (e2 fMod (e2 fAdd (eV (t := Ty.int) (v__law_unlike_first)) (e2 fMul (eC (3 : Int)) (eV (t := Ty.int) (v__law_unlike_k)))) (eC (26 : Int)))))
  (sSeq (sApp (v__law_unlike_found) (e2 fCat (e2 fCat (e2 fRepS (eV (t := Ty.str) (v__law_unlike_pad)) (eV (t := Ty.int) (v__law_unlike_at))) (eV (t := Ty.str) (v__law_unlike_sign))) (e2 fRepS (eV (t := Ty.str) (v__law_unlike_pad)) (e2 fSub (e2 fSub (eV (t := Ty.int) (v__law_unlike_size)) (eV (t := Ty.int) (v__law_unlike_at))) (eC (1 : Int))))))
  (sIf (eAnd (eV (t := Ty.bool) (v__law_unlike_great)) (eAnd (e2 fEqI (e2 fMod (e2 fDiv (eV (t := Ty.int) (v__law_unlike_number)) (eC (43264 : Int))) (eC (3 : Int))) (eC (1 : Int))) (e2 fEqI (e2 fAnd (e2 fShr (e2 fDiv (eV (t := Ty.int) (v__law_unlike_number)) (eC (129792 : Int))) (eV (t := Ty.int) (v__law_unlike_k))) (eC (1 : Int))) (eC (1 : Int))))) (sLput (v__law_unlike_found) (e2 fCat (e2 fCat (e2 atI (eV (t := (Ty.list Ty.str)) (v__law_unlike_found)) (eV (t := Ty.int) (v__law_unlike_k))) (eC (Str.ofString "_"))) (e1 fStrI (e2 fMod (e2 fDiv (eV (t := Ty.int) (v__law_unlike_number)) (eC (129792 : Int))) (eC (10000 : Int))))) (eV (t := Ty.int) (v__law_unlike_k))) sNext)))
noncomputable def lp__law_unlike_1 : Gam g__law_unlike → Option (Fl (Gam g__law_unlike) (den (Ty.list Ty.str))) := hide (sFor (e1 fRng1 (eV (t := Ty.int) (v__law_unlike_many))) (bName (t := Ty.int) (v__law_unlike_k)) (Gam.mask [true, false, true, true, true, true, true, true, true, false, false]) lb__law_unlike_1)
theorem lp__law_unlike_1_eq : lp__law_unlike_1 = (sFor (e1 fRng1 (eV (t := Ty.int) (v__law_unlike_many))) (bName (t := Ty.int) (v__law_unlike_k)) (Gam.mask [true, false, true, true, true, true, true, true, true, false, false]) lb__law_unlike_1) := hide_eq _
noncomputable def b__law_unlike : Gam g__law_unlike → Option (Fl (Gam g__law_unlike) (den (Ty.list Ty.str))) :=
  (sSeq (sSet (v__law_unlike_letters) (eC (Str.ofString "abcdefghijklmnopqrstuvwxyz")))
  (sSeq (sIf (eV (t := Ty.bool) (v__law_unlike_great)) (sSet (v__law_unlike_letters) (e1 fUpper (eV (t := Ty.str) (v__law_unlike_letters)))) sNext)
  (sSeq (sSet (v__law_unlike_pad) (e2 fIxS (eV (t := Ty.str) (v__law_unlike_letters)) (e2 fMod (eV (t := Ty.int) (v__law_unlike_number)) (eC (26 : Int)))))
  (sSeq (sSet (v__law_unlike_size) (e2 fAdd (eC (1 : Int)) (e2 fMod (e2 fDiv (eV (t := Ty.int) (v__law_unlike_number)) (eC (26 : Int))) (eC (8 : Int)))))
  (sSeq (sSet (v__law_unlike_at) (e2 fMod (e2 fDiv (eV (t := Ty.int) (v__law_unlike_number)) (eC (208 : Int))) (eV (t := Ty.int) (v__law_unlike_size))))
  (sSeq (sSet (v__law_unlike_first) (e2 fMod (e2 fDiv (eV (t := Ty.int) (v__law_unlike_number)) (eC (1664 : Int))) (eC (26 : Int))))
  (sSeq (sSet (v__law_unlike_found) (e1 fSmall eNil))
  (sSeq lp__law_unlike_1
  (sRetM (v__law_unlike_found))))))))))
noncomputable def m__law_unlike : den (Ty.cons Ty.int (Ty.cons Ty.int (Ty.last Ty.bool))) → Option (den (Ty.list Ty.str)) := hide (runG (Ty.cons Ty.int (Ty.cons Ty.int (Ty.last Ty.bool))) [Ty.str, Ty.str, Ty.int, Ty.int, Ty.int, (Ty.list Ty.str), Ty.int, Ty.str] b__law_unlike)
theorem m__law_unlike_eq (d : den (Ty.cons Ty.int (Ty.cons Ty.int (Ty.last Ty.bool)))) : m__law_unlike d = runG (Ty.cons Ty.int (Ty.cons Ty.int (Ty.last Ty.bool))) [Ty.str, Ty.str, Ty.int, Ty.int, Ty.int, (Ty.list Ty.str), Ty.int, Ty.str] b__law_unlike d := congrFun (hide_eq _) d
theorem m__law_unlike_at (p0 : den Ty.int) (p1 : den Ty.int) (p2 : den Ty.bool) : m__law_unlike (p0, p1, p2) = endOf (b__law_unlike ((some p0, some p1, some p2, none, none, none, none, none, none, none, none, ()) : Gam g__law_unlike)) := by
  rw [m__law_unlike_eq]
  rfl
set_option maxHeartbeats 4000000 in
theorem ok__law_unlike {f : Addr} {fd : FuncData} (F : Fun K "_law_unlike" "_law_unlike" s__law_unlike f fd) (T : Txt K mg) :
    FnOk K.P K.w K mg base CX0 1 f fd P__law_unlike (spP K (Ty.cons Ty.int (Ty.cons Ty.int (Ty.last Ty.bool))) .o (Ty.list Ty.str) m__law_unlike) := by
  have S := sc__law_unlike
  refine fn_ok (F := b__law_unlike) [Ty.str, Ty.str, Ty.int, Ty.int, Ty.int, (Ty.list Ty.str), Ty.int, Ty.str] M__law_unlike F S rfl rfl rfl m__law_unlike_eq (fun cdv A outer s H E hr => ?_)
  refine ⟨_, (pss_cons (ps_set (i := 3) S.nd rfl (Or.inl rfl) pe_str)
  (pss_cons (ps_if (pt_val (pv 2)) (pss_one (ps_set (i := 3) S.nd rfl (Or.inl rfl) (pe_upper (pv 3)))) pss_nil)
  (pss_cons (ps_set (i := 4) S.nd rfl (Or.inl rfl) (pe_ix (r := rIxS) ix_str (pv 3) (pe_op op_mod (pv 0) pe_int) (fun _ _ => rfl)))
  (pss_cons (ps_set (i := 5) S.nd rfl (Or.inl rfl) (pe_op op_add pe_int (pe_op op_mod (pe_op op_fdivW (pv 0) pe_int) pe_int)))
  (pss_cons (ps_set (i := 6) S.nd rfl (Or.inl rfl) (pe_op op_mod (pe_op op_fdivW (pv 0) pe_int) (pv 5)))
  (pss_cons (ps_set (i := 7) S.nd rfl (Or.inl rfl) (pe_op op_mod (pe_op op_fdivW (pv 0) pe_int) pe_int))
  (pss_cons (ps_set (i := 8) S.nd rfl (Or.inl rfl) (pe_lst pa_nil))
  (pss_cons (ps_for PassesOwn.never rfl (pi_range1 rfl T.b_range (pa_cons (pv 1) pa_nil)) (pg_name (i := 9) S.nd rfl (Or.inl rfl)) (pss_cons (ps_set (i := 10) S.nd rfl (Or.inl rfl) (pe_ix (r := rIxS) ix_str (pv 3) (pe_op op_mod (pe_op op_add (pv 7) (pe_op op_mulW pe_int (pv 9))) pe_int) (fun _ _ => rfl)))
  (pss_cons (ps_expr (pe_bm PySem.F.plainAttrs_list PySem.F.slot_list_append PySem.F.type_list_append mt_append (pv 8) (pa_cons (pe_op op_add_str (pe_op op_add_str (pe_op op_repS (pv 4) (pv 6)) (pv 10)) (pe_op op_repS (pv 4) (pe_op op_sub (pe_op op_sub (pv 5) (pv 6)) pe_int))) pa_nil)))
  (pss_one (ps_if (PW.pt (pw_and (pt_val (pv 2)) (pw_and (pt_cmpR op_eq (pe_op op_mod (pe_op op_fdivW (pv 0) pe_int) pe_int) pe_int (nomark _)) (pw_and1 (pt_cmpR op_eq (pe_op op_and (pe_op op_shr (pe_op op_fdivW (pv 0) pe_int) (pv 9)) pe_int) pe_int (nomark _)))))) (pss_one (ps_asg (pe_op op_add_str (pe_op op_add_str (pe_ix (r := rIxL K) ix_list (pv 8) (pv 9) (fun _ _ => rfl)) pe_str) (pe_callTy call_str_int (by rfl) T.b_str (by decide +kernel) (pa_cons (pe_op op_mod (pe_op op_fdivW (pv 0) pe_int) pe_int) pa_nil))) (pg_sub (pv 8) (pv 9) set_list))) pss_nil)))))
  (pss_one (ps_ret (pv 8))))))))))), ?_⟩
  exact (rs_seq (rs_set (ms := M__law_unlike) (m := .w) (v__law_unlike_letters) (rp_str))
  (rs_seq (rs_if (rt_val (m := .b) (rp_frz .b (rp_varw (ms := M__law_unlike) (v__law_unlike_great)))) (rs_set (ms := M__law_unlike) (m := .w) (v__law_unlike_letters) (rp_upper (m' := .b) (rp_frz .b (rp_varw (ms := M__law_unlike) (v__law_unlike_letters))))) rs_next)
  (rs_seq (rs_set (ms := M__law_unlike) (m := .w) (v__law_unlike_pad) (rp_op (m1 := .b) (m2 := .b) v_ixS (rp_frz .b (rp_varw (ms := M__law_unlike) (v__law_unlike_letters))) (rp_op (m1 := .b) (m2 := .b) v_mod (rp_frz .b (rp_varw (ms := M__law_unlike) (v__law_unlike_number))) rp_int)))
  (rs_seq (rs_set (ms := M__law_unlike) (m := .w) (v__law_unlike_size) (rp_op (m1 := .b) (m2 := .b) v_add rp_int (rp_op (m1 := .b) (m2 := .b) v_mod (rp_op (m1 := .b) (m2 := .b) v_div (rp_frz .b (rp_varw (ms := M__law_unlike) (v__law_unlike_number))) rp_int) rp_int)))
  (rs_seq (rs_set (ms := M__law_unlike) (m := .w) (v__law_unlike_at) (rp_op (m1 := .b) (m2 := .b) v_mod (rp_op (m1 := .b) (m2 := .b) v_div (rp_frz .b (rp_varw (ms := M__law_unlike) (v__law_unlike_number))) rp_int) (rp_frz .b (rp_varw (ms := M__law_unlike) (v__law_unlike_size)))))
  (rs_seq (rs_set (ms := M__law_unlike) (m := .w) (v__law_unlike_first) (rp_op (m1 := .b) (m2 := .b) v_mod (rp_op (m1 := .b) (m2 := .b) v_div (rp_frz .b (rp_varw (ms := M__law_unlike) (v__law_unlike_number))) rp_int) rp_int))
  (rs_seq (rs_set (ms := M__law_unlike) (m := .o) (v__law_unlike_found) (rp_list (t := Ty.str) rl_nil))
  (rs_seq (rs_hide (rs_for (w := false) (t := Ty.int) [true, false, true, true, true, true, true, true, true, false, false] (ri_rng1 (w := false) (m := .b) (ra_one (rp_frz .b (rp_varw (ms := M__law_unlike) (v__law_unlike_many))))) (rg_name (ms := M__law_unlike) (v__law_unlike_k)) (rs_seq (rs_set (ms := M__law_unlike) (m := .w) (v__law_unlike_sign) (rp_op (m1 := .b) (m2 := .b) v_ixS (rp_frz .b (rp_varw (ms := M__law_unlike) (v__law_unlike_letters))) (rp_op (m1 := .b) (m2 := .b) v_mod (rp_op (m1 := .b) (m2 := .b) v_add (rp_frz .b (rp_varw (ms := M__law_unlike) (v__law_unlike_first))) (rp_op (m1 := .b) (m2 := .b) v_mul rp_int (rp_frz .b (rp_varw (ms := M__law_unlike) (v__law_unlike_k))))) rp_int)))
  (rs_seq (rs_app (ms := M__law_unlike) (v__law_unlike_found) (rp_op (m1 := .b) (m2 := .b) v_cat (rp_op (m1 := .b) (m2 := .b) v_cat (rp_op (m1 := .b) (m2 := .b) v_repS (rp_frz .b (rp_varw (ms := M__law_unlike) (v__law_unlike_pad))) (rp_frz .b (rp_varw (ms := M__law_unlike) (v__law_unlike_at)))) (rp_frz .b (rp_varw (ms := M__law_unlike) (v__law_unlike_sign)))) (rp_op (m1 := .b) (m2 := .b) v_repS (rp_frz .b (rp_varw (ms := M__law_unlike) (v__law_unlike_pad))) (rp_op (m1 := .b) (m2 := .b) v_sub (rp_op (m1 := .b) (m2 := .b) v_sub (rp_frz .b (rp_varw (ms := M__law_unlike) (v__law_unlike_size))) (rp_frz .b (rp_varw (ms := M__law_unlike) (v__law_unlike_at)))) rp_int))))
  (rs_if (rt_and (rt_val (m := .b) (rp_frz .b (rp_varw (ms := M__law_unlike) (v__law_unlike_great)))) (rt_and (rt_test (rp_op (m := .b) (m1 := .b) (m2 := .b) v_eqI (rp_op (m1 := .b) (m2 := .b) v_mod (rp_op (m1 := .b) (m2 := .b) v_div (rp_frz .b (rp_varw (ms := M__law_unlike) (v__law_unlike_number))) rp_int) rp_int) rp_int)) (rt_test (rp_op (m := .b) (m1 := .b) (m2 := .b) v_eqI (rp_op (m1 := .b) (m2 := .b) v_and (rp_op (m1 := .b) (m2 := .b) v_shr (rp_op (m1 := .b) (m2 := .b) v_div (rp_frz .b (rp_varw (ms := M__law_unlike) (v__law_unlike_number))) rp_int) (rp_frz .b (rp_varw (ms := M__law_unlike) (v__law_unlike_k)))) rp_int) rp_int)))) (rs_lput (ms := M__law_unlike) (m := .b) (m' := .b) (t := Ty.str) (v__law_unlike_found) (rp_op (m1 := .b) (m2 := .b) v_cat (rp_op (m1 := .b) (m2 := .b) v_cat (rp_op (m1 := .b) (m2 := .b) (v_ixL (t := Ty.str)) (rp_var (ms := M__law_unlike) (v__law_unlike_found)) (rp_frz .b (rp_varw (ms := M__law_unlike) (v__law_unlike_k)))) (rp_str)) (rp_strI (m' := .b) (rp_op (m1 := .b) (m2 := .b) v_mod (rp_op (m1 := .b) (m2 := .b) v_div (rp_frz .b (rp_varw (ms := M__law_unlike) (v__law_unlike_number))) rp_int) rp_int))) (rp_frz .b (rp_varw (ms := M__law_unlike) (v__law_unlike_k)))) rs_next)))))
  (rs_retm (ms := M__law_unlike) (v__law_unlike_found))))))))))
abbrev s__law_cell_at : Stmt := topS 25
abbrev N__law_cell_at : List Str := ["script", "k"]
abbrev P__law_cell_at : List Str := ["script", "k"]
theorem sc__law_cell_at : FnScope N__law_cell_at P__law_cell_at (defScope s__law_cell_at) := ⟨rfl, rfl, rfl, by decide +kernel, rfl, by decide +kernel, by decide +kernel⟩
abbrev g__law_cell_at : List Ty := [(Ty.list Ty.int), Ty.int]
abbrev M__law_cell_at : List Md := [.w, .w]
abbrev v__law_cell_at_script : Mem g__law_cell_at (Ty.list Ty.int) := .z
abbrev v__law_cell_at_k : Mem g__law_cell_at Ty.int := (.s .z)
noncomputable def b__law_cell_at : Gam g__law_cell_at → Option (Fl (Gam g__law_cell_at) (den Ty.int)) :=
  (sSeq (sIf (e2 fLt (eV (t := Ty.int) (v__law_cell_at_k)) (e1 fLen (eV (t := (Ty.list Ty.int)) (v__law_cell_at_script)))) (sRet (e2 atI (eV (t := (Ty.list Ty.int)) (v__law_cell_at_script)) (eV (t := Ty.int) (v__law_cell_at_k)))) sNext)
  (sRet (eC (0 : Int))))
noncomputable def m__law_cell_at : den (Ty.cons (Ty.list Ty.int) (Ty.last Ty.int)) → Option (den Ty.int) := hide (runG (Ty.cons (Ty.list Ty.int) (Ty.last Ty.int)) [] b__law_cell_at)
theorem m__law_cell_at_eq (d : den (Ty.cons (Ty.list Ty.int) (Ty.last Ty.int))) : m__law_cell_at d = runG (Ty.cons (Ty.list Ty.int) (Ty.last Ty.int)) [] b__law_cell_at d := congrFun (hide_eq _) d
theorem m__law_cell_at_at (p0 : den (Ty.list Ty.int)) (p1 : den Ty.int) : m__law_cell_at (p0, p1) = endOf (b__law_cell_at ((some p0, some p1, ()) : Gam g__law_cell_at)) := by
  rw [m__law_cell_at_eq]
  rfl
set_option maxHeartbeats 4000000 in
theorem ok__law_cell_at {f : Addr} {fd : FuncData} (F : Fun K "_law_cell_at" "_law_cell_at" s__law_cell_at f fd) (T : Txt K mg) :
    FnOk K.P K.w K mg base CX0 1 f fd P__law_cell_at (spP K (Ty.cons (Ty.list Ty.int) (Ty.last Ty.int)) .o Ty.int m__law_cell_at) := by
  have S := sc__law_cell_at
  refine fn_ok (F := b__law_cell_at) [] M__law_cell_at F S rfl rfl rfl m__law_cell_at_eq (fun cdv A outer s H E hr => ?_)
  refine ⟨_, (pss_cons (ps_if (pt_cmpR op_lt (pv 1) (pe_callB (r := VV.rLen K) call_len (by rfl) T.b_len (by decide +kernel) (pa_cons (pv 0) pa_nil)) (nomark _)) (pss_one (ps_ret (pe_ix (r := rIxL K) ix_list (pv 0) (pv 1) (fun _ _ => rfl)))) pss_nil)
  (pss_one (ps_ret pe_int))), ?_⟩
  exact (rs_seq (rs_if (rt_test (rp_op (m := .b) (m1 := .b) (m2 := .b) v_lt (rp_frz .b (rp_varw (ms := M__law_cell_at) (v__law_cell_at_k))) (rp_lenL (m' := .b) (rp_le (rp_varw (ms := M__law_cell_at) (v__law_cell_at_script)))))) (rs_ret (rm := .o) (ρ := Ty.int) (rp_frz .o (rp_op (m1 := .b) (m2 := .b) (v_ixL (t := Ty.int)) (rp_le (rp_varw (ms := M__law_cell_at) (v__law_cell_at_script))) (rp_frz .b (rp_varw (ms := M__law_cell_at) (v__law_cell_at_k)))))) rs_next)
  (rs_ret (rm := .o) (ρ := Ty.int) rp_int))
abbrev s__law_rule : Stmt := topS 29
abbrev N__law_rule : List Str := ["cell", "heads", "words", "most", "drawn", "parts", "place"]
abbrev P__law_rule : List Str := ["cell", "heads", "words", "most"]
theorem sc__law_rule : FnScope N__law_rule P__law_rule (defScope s__law_rule) := ⟨rfl, rfl, rfl, by decide +kernel, rfl, by decide +kernel, by decide +kernel⟩
abbrev g__law_rule : List Ty := [Ty.int, (Ty.list Ty.str), (Ty.list Ty.str), Ty.int, (Ty.list Ty.int), (Ty.list Ty.str), Ty.int]
abbrev M__law_rule : List Md := [.w, .w, .w, .w, .l, .o, .w]
abbrev v__law_rule_cell : Mem g__law_rule Ty.int := .z
abbrev v__law_rule_heads : Mem g__law_rule (Ty.list Ty.str) := (.s .z)
abbrev v__law_rule_words : Mem g__law_rule (Ty.list Ty.str) := (.s (.s .z))
abbrev v__law_rule_most : Mem g__law_rule Ty.int := (.s (.s (.s .z)))
abbrev v__law_rule_drawn : Mem g__law_rule (Ty.list Ty.int) := (.s (.s (.s (.s .z))))
abbrev v__law_rule_parts : Mem g__law_rule (Ty.list Ty.str) := (.s (.s (.s (.s (.s .z)))))
abbrev v__law_rule_place : Mem g__law_rule Ty.int := (.s (.s (.s (.s (.s (.s .z))))))
noncomputable def lb__law_rule_1 : Gam g__law_rule → Option (Fl (Gam g__law_rule) (den (Ty.tup (Ty.cons Ty.str (Ty.cons (Ty.vtup Ty.str) (Ty.last Ty.int)))))) :=
  (sIf (e2 fLt (eV (t := Ty.int) (v__law_rule_place)) (eC (3 : Int))) (sApp (v__law_rule_parts) (e2 atI (eV (t := (Ty.list Ty.str)) (v__law_rule_words)) (eV (t := Ty.int) (v__law_rule_place)))) (sApp (v__law_rule_parts) (e2 atI (eV (t := (Ty.list Ty.str)) (v__law_rule_heads)) (e2 fMod (e2 fAdd (e2 fSub (eV (t := Ty.int) (v__law_rule_place)) (eC (3 : Int))) (e2 atI (eV (t := (Ty.list Ty.int)) (v__law_rule_drawn)) (eC (0 : Int)))) (e1 fLen (eV (t := (Ty.list Ty.str)) (v__law_rule_heads)))))))
noncomputable def lp__law_rule_1 : Gam g__law_rule → Option (Fl (Gam g__law_rule) (den (Ty.tup (Ty.cons Ty.str (Ty.cons (Ty.vtup Ty.str) (Ty.last Ty.int)))))) := hide (sFor (e3 fCutL (eV (t := (Ty.list Ty.int)) (v__law_rule_drawn)) (e1 (fun i => some (some i)) (eC (4 : Int))) (e1 (fun i => some (some i)) (e2 fAdd (eC (4 : Int)) (e2 atI (eV (t := (Ty.list Ty.int)) (v__law_rule_drawn)) (eC (1 : Int)))))) (bName (t := Ty.int) (v__law_rule_place)) (Gam.mask [false, true, true, false, true, true, false]) lb__law_rule_1)
theorem lp__law_rule_1_eq : lp__law_rule_1 = (sFor (e3 fCutL (eV (t := (Ty.list Ty.int)) (v__law_rule_drawn)) (e1 (fun i => some (some i)) (eC (4 : Int))) (e1 (fun i => some (some i)) (e2 fAdd (eC (4 : Int)) (e2 atI (eV (t := (Ty.list Ty.int)) (v__law_rule_drawn)) (eC (1 : Int)))))) (bName (t := Ty.int) (v__law_rule_place)) (Gam.mask [false, true, true, false, true, true, false]) lb__law_rule_1) := hide_eq _
noncomputable def b__law_rule : Gam g__law_rule → Option (Fl (Gam g__law_rule) (den (Ty.tup (Ty.cons Ty.str (Ty.cons (Ty.vtup Ty.str) (Ty.last Ty.int)))))) :=
  (sSeq (sSet (v__law_rule_drawn) (e1 m__law_drawn (eCons (eV (t := Ty.int) (v__law_rule_cell)) (e2 fCatL (e1 fSmall (eSnoc (e1 fLen (eV (t := (Ty.list Ty.str)) (v__law_rule_heads))) (eSnoc (e2 fAdd (eV (t := Ty.int) (v__law_rule_most)) (eC (1 : Int))) (eSnoc (eC (3 : Int)) (eSnoc (e2 fPow (eC (10 : Int)) (eC (59 : Int))) eNil))))) (e2 fRepL (e1 fSmall (eSnoc (eC (6 : Int)) eNil)) (eV (t := Ty.int) (v__law_rule_most)))))))
  (sSeq (sSet (v__law_rule_parts) (e1 fSmall eNil))
  (sSeq lp__law_rule_1
  (sRet (eCons (e2 atI (eV (t := (Ty.list Ty.str)) (v__law_rule_heads)) (e2 atI (eV (t := (Ty.list Ty.int)) (v__law_rule_drawn)) (eC (0 : Int)))) (eCons (eV (t := (Ty.list Ty.str)) (v__law_rule_parts)) (e2 fMod (e2 atI (eV (t := (Ty.list Ty.int)) (v__law_rule_drawn)) (eC (3 : Int))) (e2 atI (e1 fSmall (eSnoc (eC (1 : Int)) (eSnoc (eC (10 : Int)) (eSnoc (e2 fPow (eC (10 : Int)) (eC (59 : Int))) eNil)))) (e2 atI (eV (t := (Ty.list Ty.int)) (v__law_rule_drawn)) (eC (2 : Int)))))))))))
noncomputable def m__law_rule : den (Ty.cons Ty.int (Ty.cons (Ty.list Ty.str) (Ty.cons (Ty.list Ty.str) (Ty.last Ty.int)))) → Option (den (Ty.tup (Ty.cons Ty.str (Ty.cons (Ty.vtup Ty.str) (Ty.last Ty.int))))) := hide (runG (Ty.cons Ty.int (Ty.cons (Ty.list Ty.str) (Ty.cons (Ty.list Ty.str) (Ty.last Ty.int)))) [(Ty.list Ty.int), (Ty.list Ty.str), Ty.int] b__law_rule)
theorem m__law_rule_eq (d : den (Ty.cons Ty.int (Ty.cons (Ty.list Ty.str) (Ty.cons (Ty.list Ty.str) (Ty.last Ty.int))))) : m__law_rule d = runG (Ty.cons Ty.int (Ty.cons (Ty.list Ty.str) (Ty.cons (Ty.list Ty.str) (Ty.last Ty.int)))) [(Ty.list Ty.int), (Ty.list Ty.str), Ty.int] b__law_rule d := congrFun (hide_eq _) d
theorem m__law_rule_at (p0 : den Ty.int) (p1 : den (Ty.list Ty.str)) (p2 : den (Ty.list Ty.str)) (p3 : den Ty.int) : m__law_rule (p0, p1, p2, p3) = endOf (b__law_rule ((some p0, some p1, some p2, some p3, none, none, none, ()) : Gam g__law_rule)) := by
  rw [m__law_rule_eq]
  rfl
set_option maxHeartbeats 4000000 in
theorem ok__law_rule {f : Addr} {fd : FuncData} (F : Fun K "_law_rule" "_law_rule" s__law_rule f fd) (T : Txt K mg) {f__law_drawn : Addr} {fd__law_drawn : FuncData} (D__law_drawn : Df K mg "_law_drawn" "_law_drawn" s__law_drawn P__law_drawn f__law_drawn fd__law_drawn) (G__law_drawn : FnOk K.P K.w K mg base CX0 2 f__law_drawn fd__law_drawn P__law_drawn (spP K (Ty.cons Ty.int (Ty.last (Ty.list Ty.int))) .o (Ty.list Ty.int) m__law_drawn)) :
    FnOk K.P K.w K mg base CX0 3 f fd P__law_rule (spP K (Ty.cons Ty.int (Ty.cons (Ty.list Ty.str) (Ty.cons (Ty.list Ty.str) (Ty.last Ty.int)))) .o (Ty.tup (Ty.cons Ty.str (Ty.cons (Ty.vtup Ty.str) (Ty.last Ty.int)))) m__law_rule) := by
  have S := sc__law_rule
  refine fn_ok (F := b__law_rule) [(Ty.list Ty.int), (Ty.list Ty.str), Ty.int] M__law_rule F S rfl rfl rfl m__law_rule_eq (fun cdv A outer s H E hr => ?_)
  refine ⟨_, (pss_cons (ps_set (i := 4) S.nd rfl (Or.inl rfl) (pe_call G__law_drawn (hr.mono (by decide)) rfl D__law_drawn.gl D__law_drawn.fn.kp D__law_drawn.bi .nil pass0 (pa_cons (pv 0) (pa_cons (pe_op (r := rCatR K) op_catR (pe_lst (pa_cons (pe_callB (r := VV.rLen K) call_len (by rfl) T.b_len (by decide +kernel) (pa_cons (pv 1) pa_nil)) (pa_cons (pe_op op_add (pv 3) pe_int) (pa_cons pe_int (pa_cons (pe_op op_pow pe_int pe_int) pa_nil))))) (pe_op op_rep (pe_lst (pa_cons pe_int pa_nil)) (pv 3))) pa_nil))))
  (pss_cons (ps_set (i := 5) S.nd rfl (Or.inl rfl) (pe_lst pa_nil))
  (pss_cons (ps_for PassesOwn.never rfl (pi_listK K rfl (pe_slice (r := rSlL K) sl_list (pv 4) (po_some pe_int) (po_some (pe_op op_add pe_int (pe_ix (r := rIxL K) ix_list (pv 4) pe_int (fun _ _ => rfl)))))) (pg_name (i := 6) S.nd rfl (Or.inl rfl)) (pss_one (ps_if (pt_cmpR op_lt (pv 6) pe_int (nomark _)) (pss_one (ps_expr (pe_bm PySem.F.plainAttrs_list PySem.F.slot_list_append PySem.F.type_list_append mt_append (pv 5) (pa_cons (pe_ix (r := rIxL K) ix_list (pv 2) (pv 6) (fun _ _ => rfl)) pa_nil)))) (pss_one (ps_expr (pe_bm PySem.F.plainAttrs_list PySem.F.slot_list_append PySem.F.type_list_append mt_append (pv 5) (pa_cons (pe_ix (r := rIxL K) ix_list (pv 1) (pe_op op_mod (pe_op op_add (pe_op op_sub (pv 6) pe_int) (pe_ix (r := rIxL K) ix_list (pv 4) pe_int (fun _ _ => rfl))) (pe_callB (r := VV.rLen K) call_len (by rfl) T.b_len (by decide +kernel) (pa_cons (pv 1) pa_nil))) (fun _ _ => rfl)) pa_nil)))))))
  (pss_one (ps_ret (pe_tup (pa_cons (pe_ix (r := rIxL K) ix_list (pv 1) (pe_ix (r := rIxL K) ix_list (pv 4) pe_int (fun _ _ => rfl)) (fun _ _ => rfl)) (pa_cons (pe_callTy (r := rTupOf K) call_tuple_of (by rfl) T.b_tuple (by decide +kernel) (pa_cons (pv 5) pa_nil)) (pa_cons (pe_op op_mod (pe_ix (r := rIxL K) ix_list (pv 4) pe_int (fun _ _ => rfl)) (pe_ix (r := rIxL K) ix_list (pe_lst (pa_cons pe_int (pa_cons pe_int (pa_cons (pe_op op_pow pe_int pe_int) pa_nil)))) (pe_ix (r := rIxL K) ix_list (pv 4) pe_int (fun _ _ => rfl)) (fun _ _ => rfl))) pa_nil))))))))), ?_⟩
  exact (rs_seq (rs_set (ms := M__law_rule) (m := .l) (v__law_rule_drawn) (rp_le (rp_call (mA := .b) (rm := .o) (ρ := (Ty.list Ty.int)) (m := m__law_drawn) rfl (ra_cons (rp_frz .b (rp_varw (ms := M__law_rule) (v__law_rule_cell))) (ra_one (rp_le (rp_cat (m1 := .b) (m2 := .b) (rp_le (rp_list (t := Ty.int) (rl_cons (rp_lenL (m' := .b) (rp_le (rp_varw (ms := M__law_rule) (v__law_rule_heads)))) (rl_cons (rp_op (m1 := .b) (m2 := .b) v_add (rp_frz .b (rp_varw (ms := M__law_rule) (v__law_rule_most))) rp_int) (rl_cons rp_int (rl_cons (rp_op (m1 := .b) (m2 := .b) v_pow rp_int rp_int) rl_nil)))))) (rp_le (rp_rep (m2 := .b) (t := Ty.int) (rp_list (t := Ty.int) (rl_cons rp_int rl_nil)) (rp_frz .b (rp_varw (ms := M__law_rule) (v__law_rule_most))))))))))))
  (rs_seq (rs_set (ms := M__law_rule) (m := .o) (v__law_rule_parts) (rp_list (t := Ty.str) rl_nil))
  (rs_seq (rs_hide (rs_for (w := false) (t := Ty.int) [false, true, true, false, true, true, false] (ri_list (w := false) (t := Ty.int) (rp_le (rp_sliceL (m := .b) (rp_le (rp_varl (ms := M__law_rule) (v__law_rule_drawn))) (ro_some (m := .b) rp_int) (ro_some (m := .b) (rp_op (m1 := .b) (m2 := .b) v_add rp_int (rp_op (m1 := .b) (m2 := .b) (v_ixL (t := Ty.int)) (rp_le (rp_varl (ms := M__law_rule) (v__law_rule_drawn))) rp_int)))))) (rg_name (ms := M__law_rule) (v__law_rule_place)) (rs_if (rt_test (rp_op (m := .b) (m1 := .b) (m2 := .b) v_lt (rp_frz .b (rp_varw (ms := M__law_rule) (v__law_rule_place))) rp_int)) (rs_app (ms := M__law_rule) (v__law_rule_parts) (rp_frz .o (rp_op (m1 := .b) (m2 := .b) (v_ixL (t := Ty.str)) (rp_le (rp_varw (ms := M__law_rule) (v__law_rule_words))) (rp_frz .b (rp_varw (ms := M__law_rule) (v__law_rule_place)))))) (rs_app (ms := M__law_rule) (v__law_rule_parts) (rp_frz .o (rp_op (m1 := .b) (m2 := .b) (v_ixL (t := Ty.str)) (rp_le (rp_varw (ms := M__law_rule) (v__law_rule_heads))) (rp_op (m1 := .b) (m2 := .b) v_mod (rp_op (m1 := .b) (m2 := .b) v_add (rp_op (m1 := .b) (m2 := .b) v_sub (rp_frz .b (rp_varw (ms := M__law_rule) (v__law_rule_place))) rp_int) (rp_op (m1 := .b) (m2 := .b) (v_ixL (t := Ty.int)) (rp_le (rp_varl (ms := M__law_rule) (v__law_rule_drawn))) rp_int)) (rp_lenL (m' := .b) (rp_le (rp_varw (ms := M__law_rule) (v__law_rule_heads)))))))))))
  (rs_ret (rm := .o) (ρ := (Ty.tup (Ty.cons Ty.str (Ty.cons (Ty.vtup Ty.str) (Ty.last Ty.int))))) (rp_tup (m := .o) (ra_cons (rp_frz .o (rp_op (m1 := .b) (m2 := .b) (v_ixL (t := Ty.str)) (rp_le (rp_varw (ms := M__law_rule) (v__law_rule_heads))) (rp_op (m1 := .b) (m2 := .b) (v_ixL (t := Ty.int)) (rp_le (rp_varl (ms := M__law_rule) (v__law_rule_drawn))) rp_int))) (ra_cons (rp_tupL (m' := .b) (t := Ty.str) (rp_var (ms := M__law_rule) (v__law_rule_parts))) (ra_one (rp_op (m1 := .b) (m2 := .b) v_mod (rp_op (m1 := .b) (m2 := .b) (v_ixL (t := Ty.int)) (rp_le (rp_varl (ms := M__law_rule) (v__law_rule_drawn))) rp_int) (rp_op (m1 := .b) (m2 := .b) (v_ixL (t := Ty.int)) (rp_le (rp_list (t := Ty.int) (rl_cons rp_int (rl_cons rp_int (rl_cons (rp_op (m1 := .b) (m2 := .b) v_pow rp_int rp_int) rl_nil))))) (rp_op (m1 := .b) (m2 := .b) (v_ixL (t := Ty.int)) (rp_le (rp_varl (ms := M__law_rule) (v__law_rule_drawn))) rp_int)))))))))))
abbrev s__law_rules : Stmt := topS 30
abbrev N__law_rules : List Str := ["cells", "many", "most", "one", "other", "heads", "words", "rules", "cell", "name", "rule"]
abbrev P__law_rules : List Str := ["cells", "many", "most"]
theorem sc__law_rules : FnScope N__law_rules P__law_rules (defScope s__law_rules) := ⟨rfl, rfl, rfl, by decide +kernel, rfl, by decide +kernel, by decide +kernel⟩
abbrev g__law_rules : List Ty := [(Ty.list Ty.int), Ty.int, Ty.int, Ty.int, Ty.int, (Ty.list Ty.str), (Ty.list Ty.str), (Ty.list (Ty.tup (Ty.cons Ty.str (Ty.cons (Ty.vtup Ty.str) (Ty.last Ty.int))))), Ty.int, Ty.str, (Ty.tup (Ty.cons Ty.str (Ty.cons (Ty.vtup Ty.str) (Ty.last Ty.int))))]
abbrev M__law_rules : List Md := [.w, .w, .w, .w, .w, .l, .l, .o, .w, .w, .w]
abbrev v__law_rules_cells : Mem g__law_rules (Ty.list Ty.int) := .z
abbrev v__law_rules_many : Mem g__law_rules Ty.int := (.s .z)
abbrev v__law_rules_most : Mem g__law_rules Ty.int := (.s (.s .z))
abbrev v__law_rules_one : Mem g__law_rules Ty.int := (.s (.s (.s .z)))
abbrev v__law_rules_other : Mem g__law_rules Ty.int := (.s (.s (.s (.s .z))))
abbrev v__law_rules_heads : Mem g__law_rules (Ty.list Ty.str) := (.s (.s (.s (.s (.s .z)))))
abbrev v__law_rules_words : Mem g__law_rules (Ty.list Ty.str) := (.s (.s (.s (.s (.s (.s .z))))))
abbrev v__law_rules_rules : Mem g__law_rules (Ty.list (Ty.tup (Ty.cons Ty.str (Ty.cons (Ty.vtup Ty.str) (Ty.last Ty.int))))) := (.s (.s (.s (.s (.s (.s (.s .z)))))))
abbrev v__law_rules_cell : Mem g__law_rules Ty.int := (.s (.s (.s (.s (.s (.s (.s (.s .z))))))))
abbrev v__law_rules_name : Mem g__law_rules Ty.str := (.s (.s (.s (.s (.s (.s (.s (.s (.s .z)))))))))
abbrev v__law_rules_rule : Mem g__law_rules (Ty.tup (Ty.cons Ty.str (Ty.cons (Ty.vtup Ty.str) (Ty.last Ty.int)))) := (.s (.s (.s (.s (.s (.s (.s (.s (.s (.s .z))))))))))
noncomputable def lc__law_rules_1 : Gam g__law_rules → Option (List (den (Ty.tup (Ty.cons Ty.str (Ty.cons (Ty.vtup Ty.str) (Ty.last Ty.int)))))) := hide (eLc (e3 fCutL (eV (t := (Ty.list Ty.int)) (v__law_rules_cells)) (e1 (fun i => some (some i)) (eC (1 : Int))) (eC none)) (bName (t := Ty.int) (v__law_rules_cell)) (Gam.mask [true, true, true, true, true, true, true, true, false, true, true]) eYes (e1 m__law_rule (eCons (eV (t := Ty.int) (v__law_rules_cell)) (eCons (eV (t := (Ty.list Ty.str)) (v__law_rules_heads)) (eCons (eV (t := (Ty.list Ty.str)) (v__law_rules_words)) (eV (t := Ty.int) (v__law_rules_most)))))))
theorem lc__law_rules_1_eq : lc__law_rules_1 = (eLc (e3 fCutL (eV (t := (Ty.list Ty.int)) (v__law_rules_cells)) (e1 (fun i => some (some i)) (eC (1 : Int))) (eC none)) (bName (t := Ty.int) (v__law_rules_cell)) (Gam.mask [true, true, true, true, true, true, true, true, false, true, true]) eYes (e1 m__law_rule (eCons (eV (t := Ty.int) (v__law_rules_cell)) (eCons (eV (t := (Ty.list Ty.str)) (v__law_rules_heads)) (eCons (eV (t := (Ty.list Ty.str)) (v__law_rules_words)) (eV (t := Ty.int) (v__law_rules_most))))))) := hide_eq _
noncomputable def lc__law_rules_2 : Gam g__law_rules → Option (List (den Ty.str)) := hide (eLc (eV (t := (Ty.list (Ty.tup (Ty.cons Ty.str (Ty.cons (Ty.vtup Ty.str) (Ty.last Ty.int)))))) (v__law_rules_rules)) (bName (t := (Ty.tup (Ty.cons Ty.str (Ty.cons (Ty.vtup Ty.str) (Ty.last Ty.int))))) (v__law_rules_rule)) (Gam.mask [true, true, true, true, true, true, true, true, true, true, false]) eYes (eProj (b := (Ty.cons Ty.str (Ty.cons (Ty.vtup Ty.str) (Ty.last Ty.int)))) (t := Ty.str) .z (eV (t := (Ty.tup (Ty.cons Ty.str (Ty.cons (Ty.vtup Ty.str) (Ty.last Ty.int))))) (v__law_rules_rule))))
theorem lc__law_rules_2_eq : lc__law_rules_2 = (eLc (eV (t := (Ty.list (Ty.tup (Ty.cons Ty.str (Ty.cons (Ty.vtup Ty.str) (Ty.last Ty.int)))))) (v__law_rules_rules)) (bName (t := (Ty.tup (Ty.cons Ty.str (Ty.cons (Ty.vtup Ty.str) (Ty.last Ty.int))))) (v__law_rules_rule)) (Gam.mask [true, true, true, true, true, true, true, true, true, true, false]) eYes (eProj (b := (Ty.cons Ty.str (Ty.cons (Ty.vtup Ty.str) (Ty.last Ty.int)))) (t := Ty.str) .z (eV (t := (Ty.tup (Ty.cons Ty.str (Ty.cons (Ty.vtup Ty.str) (Ty.last Ty.int))))) (v__law_rules_rule)))) := hide_eq _
noncomputable def lb__law_rules_1 : Gam g__law_rules → Option (Fl (Gam g__law_rules) (den (Ty.list (Ty.tup (Ty.cons Ty.str (Ty.cons (Ty.vtup Ty.str) (Ty.last Ty.int))))))) :=
  (sIf (e2 (fNotInD Ty.str) (eV (t := Ty.str) (v__law_rules_name)) lc__law_rules_2) (sApp (v__law_rules_rules) (eCons (eV (t := Ty.str) (v__law_rules_name)) (eCons (e1 fSmall (eSnoc (e2 atI (eV (t := (Ty.list Ty.str)) (v__law_rules_words)) (eC (0 : Int))) eNil)) (eC (0 : Int))))) sNext)
noncomputable def lp__law_rules_1 : Gam g__law_rules → Option (Fl (Gam g__law_rules) (den (Ty.list (Ty.tup (Ty.cons Ty.str (Ty.cons (Ty.vtup Ty.str) (Ty.last Ty.int))))))) := hide (sFor (eV (t := (Ty.list Ty.str)) (v__law_rules_heads)) (bName (t := Ty.str) (v__law_rules_name)) (Gam.mask [false, false, false, false, false, false, true, true, false, false, false]) lb__law_rules_1)
theorem lp__law_rules_1_eq : lp__law_rules_1 = (sFor (eV (t := (Ty.list Ty.str)) (v__law_rules_heads)) (bName (t := Ty.str) (v__law_rules_name)) (Gam.mask [false, false, false, false, false, false, true, true, false, false, false]) lb__law_rules_1) := hide_eq _
noncomputable def b__law_rules : Gam g__law_rules → Option (Fl (Gam g__law_rules) (den (Ty.list (Ty.tup (Ty.cons Ty.str (Ty.cons (Ty.vtup Ty.str) (Ty.last Ty.int))))))) :=
  (sSeq (sUnl (e1 m__law_drawn (eCons (e1 m__law_cell_at (eCons (eV (t := (Ty.list Ty.int)) (v__law_rules_cells)) (eC (0 : Int)))) (e1 fSmall (eSnoc (e2 fPow (eC (10 : Int)) (eC (9 : Int))) (eSnoc (e2 fPow (eC (10 : Int)) (eC (9 : Int))) eNil))))) [(bName (t := Ty.int) (v__law_rules_one)), (bName (t := Ty.int) (v__law_rules_other))])
  (sSeq (sSet (v__law_rules_heads) (e1 m__law_unlike (eCons (eV (t := Ty.int) (v__law_rules_one)) (eCons (eV (t := Ty.int) (v__law_rules_many)) (eC true)))))
  (sSeq (sSet (v__law_rules_words) (e1 m__law_unlike (eCons (eV (t := Ty.int) (v__law_rules_other)) (eCons (eC (3 : Int)) (eC false)))))
  (sSeq (sSet (v__law_rules_rules) lc__law_rules_1)
  (sSeq lp__law_rules_1
  (sRetM (v__law_rules_rules)))))))
noncomputable def m__law_rules : den (Ty.cons (Ty.list Ty.int) (Ty.cons Ty.int (Ty.last Ty.int))) → Option (den (Ty.list (Ty.tup (Ty.cons Ty.str (Ty.cons (Ty.vtup Ty.str) (Ty.last Ty.int)))))) := hide (runG (Ty.cons (Ty.list Ty.int) (Ty.cons Ty.int (Ty.last Ty.int))) [Ty.int, Ty.int, (Ty.list Ty.str), (Ty.list Ty.str), (Ty.list (Ty.tup (Ty.cons Ty.str (Ty.cons (Ty.vtup Ty.str) (Ty.last Ty.int))))), Ty.int, Ty.str, (Ty.tup (Ty.cons Ty.str (Ty.cons (Ty.vtup Ty.str) (Ty.last Ty.int))))] b__law_rules)
theorem m__law_rules_eq (d : den (Ty.cons (Ty.list Ty.int) (Ty.cons Ty.int (Ty.last Ty.int)))) : m__law_rules d = runG (Ty.cons (Ty.list Ty.int) (Ty.cons Ty.int (Ty.last Ty.int))) [Ty.int, Ty.int, (Ty.list Ty.str), (Ty.list Ty.str), (Ty.list (Ty.tup (Ty.cons Ty.str (Ty.cons (Ty.vtup Ty.str) (Ty.last Ty.int))))), Ty.int, Ty.str, (Ty.tup (Ty.cons Ty.str (Ty.cons (Ty.vtup Ty.str) (Ty.last Ty.int))))] b__law_rules d := congrFun (hide_eq _) d
theorem m__law_rules_at (p0 : den (Ty.list Ty.int)) (p1 : den Ty.int) (p2 : den Ty.int) : m__law_rules (p0, p1, p2) = endOf (b__law_rules ((some p0, some p1, some p2, none, none, none, none, none, none, none, none, ()) : Gam g__law_rules)) := by
  rw [m__law_rules_eq]
  rfl
set_option maxHeartbeats 4000000 in
theorem ok__law_rules {f : Addr} {fd : FuncData} (F : Fun K "_law_rules" "_law_rules" s__law_rules f fd) (T : Txt K mg) {f__law_drawn : Addr} {fd__law_drawn : FuncData} (D__law_drawn : Df K mg "_law_drawn" "_law_drawn" s__law_drawn P__law_drawn f__law_drawn fd__law_drawn) (G__law_drawn : FnOk K.P K.w K mg base CX0 2 f__law_drawn fd__law_drawn P__law_drawn (spP K (Ty.cons Ty.int (Ty.last (Ty.list Ty.int))) .o (Ty.list Ty.int) m__law_drawn)) {f__law_cell_at : Addr} {fd__law_cell_at : FuncData} (D__law_cell_at : Df K mg "_law_cell_at" "_law_cell_at" s__law_cell_at P__law_cell_at f__law_cell_at fd__law_cell_at) (G__law_cell_at : FnOk K.P K.w K mg base CX0 1 f__law_cell_at fd__law_cell_at P__law_cell_at (spP K (Ty.cons (Ty.list Ty.int) (Ty.last Ty.int)) .o Ty.int m__law_cell_at)) {f__law_unlike : Addr} {fd__law_unlike : FuncData} (D__law_unlike : Df K mg "_law_unlike" "_law_unlike" s__law_unlike P__law_unlike f__law_unlike fd__law_unlike) (G__law_unlike : FnOk K.P K.w K mg base CX0 1 f__law_unlike fd__law_unlike P__law_unlike (spP K (Ty.cons Ty.int (Ty.cons Ty.int (Ty.last Ty.bool))) .o (Ty.list Ty.str) m__law_unlike)) {f__law_rule : Addr} {fd__law_rule : FuncData} (D__law_rule : Df K mg "_law_rule" "_law_rule" s__law_rule P__law_rule f__law_rule fd__law_rule) (G__law_rule : FnOk K.P K.w K mg base CX0 3 f__law_rule fd__law_rule P__law_rule (spP K (Ty.cons Ty.int (Ty.cons (Ty.list Ty.str) (Ty.cons (Ty.list Ty.str) (Ty.last Ty.int)))) .o (Ty.tup (Ty.cons Ty.str (Ty.cons (Ty.vtup Ty.str) (Ty.last Ty.int)))) m__law_rule)) :
    FnOk K.P K.w K mg base CX0 4 f fd P__law_rules (spP K (Ty.cons (Ty.list Ty.int) (Ty.cons Ty.int (Ty.last Ty.int))) .o (Ty.list (Ty.tup (Ty.cons Ty.str (Ty.cons (Ty.vtup Ty.str) (Ty.last Ty.int))))) m__law_rules) := by
  have S := sc__law_rules
  refine fn_ok (F := b__law_rules) [Ty.int, Ty.int, (Ty.list Ty.str), (Ty.list Ty.str), (Ty.list (Ty.tup (Ty.cons Ty.str (Ty.cons (Ty.vtup Ty.str) (Ty.last Ty.int))))), Ty.int, Ty.str, (Ty.tup (Ty.cons Ty.str (Ty.cons (Ty.vtup Ty.str) (Ty.last Ty.int))))] M__law_rules F S rfl rfl rfl m__law_rules_eq (fun cdv A outer s H E hr => ?_)
  refine ⟨_, (pss_cons (ps_asg (pe_call G__law_drawn (hr.mono (by decide)) rfl D__law_drawn.gl D__law_drawn.fn.kp D__law_drawn.bi .nil pass0 (pa_cons (pe_call G__law_cell_at (hr.mono (by decide)) rfl D__law_cell_at.gl D__law_cell_at.fn.kp D__law_cell_at.bi .nil pass0 (pa_cons (pv 0) (pa_cons pe_int pa_nil))) (pa_cons (pe_lst (pa_cons (pe_op op_pow pe_int pe_int) (pa_cons (pe_op op_pow pe_int pe_int) pa_nil))) pa_nil))) (pg_unl rfl (pgs_cons (pg_name (i := 3) S.nd rfl (Or.inl rfl)) (pgs_cons (pg_name (i := 4) S.nd rfl (Or.inl rfl)) pgs_nil))))
  (pss_cons (ps_set (i := 5) S.nd rfl (Or.inr rfl) (pe_call G__law_unlike (hr.mono (by decide)) rfl D__law_unlike.gl D__law_unlike.fn.kp D__law_unlike.bi .nil pass0 (pa_cons (pv 3) (pa_cons (pv 1) (pa_cons pe_bl pa_nil)))))
  (pss_cons (ps_set (i := 6) S.nd rfl (Or.inr rfl) (pe_call G__law_unlike (hr.mono (by decide)) rfl D__law_unlike.gl D__law_unlike.fn.kp D__law_unlike.bi .nil pass0 (pa_cons (pv 4) (pa_cons pe_int (pa_cons pe_bl pa_nil)))))
  (pss_cons (ps_setLc (own := [("cell", 8)]) (i := 7) rfl S.nd rfl rfl (sw_true rfl rfl rfl (by decide +kernel)) (pi_listK K rfl (pe_slice (r := rSlL K) sl_list (pv 0) (po_some pe_int) po_none)) (blkOk_by (N := N__law_rules) (sc := defScope s__law_rules) (by decide +kernel)) (fun _ _ _ _ _ => (pg_name (i := 8) S.nd rfl (Or.inl rfl))) (fun _ _ _ _ _ => pts_nil) (fun _ _ _ _ _ => (pe_call G__law_rule (hr.mono (by decide)) rfl D__law_rule.gl D__law_rule.fn.kp D__law_rule.bi .nil pass0 (pa_cons (pv 8) (pa_cons (pv 5) (pa_cons (pv 6) (pa_cons (pv 2) pa_nil)))))))
  (pss_cons (ps_for PassesOwn.never rfl (pi_listK K rfl (pv 5)) (pg_name (i := 9) S.nd rfl (Or.inl rfl)) (pss_one (ps_if (pt_cmpR (r := rNotInD K) (op_notInD (hu65 hr)) (pv 9) (pe_lc (own := [("rule", 10)]) rfl S.nd (pi_listK K rfl (pv 7)) (blkOk_by (N := N__law_rules) (sc := defScope s__law_rules) (by decide +kernel)) (fun _ _ _ _ _ => (pg_name (i := 10) S.nd rfl (Or.inl rfl))) (fun _ _ _ _ _ => pts_nil) (fun _ _ _ _ _ => (pe_ix (r := rIxT K) ix_tup (pv 10) pe_int (fun _ _ => rfl)))) (by rfl)) (pss_one (ps_expr (pe_bm PySem.F.plainAttrs_list PySem.F.slot_list_append PySem.F.type_list_append mt_append (pv 7) (pa_cons (pe_tup (pa_cons (pv 9) (pa_cons (pe_tup (pa_cons (pe_ix (r := rIxL K) ix_list (pv 6) pe_int (fun _ _ => rfl)) pa_nil)) (pa_cons pe_int pa_nil)))) pa_nil)))) pss_nil)))
  (pss_one (ps_ret (pv 7)))))))), ?_⟩
  exact (rs_seq (rs_unl (w := false) (t := Ty.int) (rp_le (rp_call (mA := .b) (rm := .o) (ρ := (Ty.list Ty.int)) (m := m__law_drawn) rfl (ra_cons (rp_frz .b (rp_call (mA := .b) (rm := .o) (ρ := Ty.int) (m := m__law_cell_at) rfl (ra_cons (rp_le (rp_varw (ms := M__law_rules) (v__law_rules_cells))) (ra_one rp_int)))) (ra_one (rp_le (rp_list (t := Ty.int) (rl_cons (rp_op (m1 := .b) (m2 := .b) v_pow rp_int rp_int) (rl_cons (rp_op (m1 := .b) (m2 := .b) v_pow rp_int rp_int) rl_nil)))))))) (rgl_cons (rg_name (ms := M__law_rules) (v__law_rules_one)) (rgl_cons (rg_name (ms := M__law_rules) (v__law_rules_other)) rgl_nil)))
  (rs_seq (rs_set (ms := M__law_rules) (m := .l) (v__law_rules_heads) (rp_le (rp_call (mA := .b) (rm := .o) (ρ := (Ty.list Ty.str)) (m := m__law_unlike) rfl (ra_cons (rp_frz .b (rp_varw (ms := M__law_rules) (v__law_rules_one))) (ra_cons (rp_frz .b (rp_varw (ms := M__law_rules) (v__law_rules_many))) (ra_one rp_bool))))))
  (rs_seq (rs_set (ms := M__law_rules) (m := .l) (v__law_rules_words) (rp_le (rp_call (mA := .b) (rm := .o) (ρ := (Ty.list Ty.str)) (m := m__law_unlike) rfl (ra_cons (rp_frz .b (rp_varw (ms := M__law_rules) (v__law_rules_other))) (ra_cons rp_int (ra_one rp_bool))))))
  (rs_seq (rs_set (ms := M__law_rules) (m := .o) (v__law_rules_rules) (rp_hide (rp_lc (w := false) (m := .o) (t := Ty.int) (u := (Ty.tup (Ty.cons Ty.str (Ty.cons (Ty.vtup Ty.str) (Ty.last Ty.int))))) [true, true, true, true, true, true, true, true, false, true, true] [8] (ris_of (ri_list (w := false) (t := Ty.int) (rp_le (rp_sliceL (m := .b) (rp_le (rp_varw (ms := M__law_rules) (v__law_rules_cells))) (ro_some (m := .b) rp_int) ro_none)))) (rg_name (ms := M__law_rules) (v__law_rules_cell)) gw_name rt_yes (rp_call (mA := .b) (rm := .o) (ρ := (Ty.tup (Ty.cons Ty.str (Ty.cons (Ty.vtup Ty.str) (Ty.last Ty.int))))) (m := m__law_rule) rfl (ra_cons (rp_frz .b (rp_varw (ms := M__law_rules) (v__law_rules_cell))) (ra_cons (rp_le (rp_varl (ms := M__law_rules) (v__law_rules_heads))) (ra_cons (rp_le (rp_varl (ms := M__law_rules) (v__law_rules_words))) (ra_one (rp_frz .b (rp_varw (ms := M__law_rules) (v__law_rules_most)))))))))))
  (rs_seq (rs_hide (rs_for (w := false) (t := Ty.str) [false, false, false, false, false, false, true, true, false, false, false] (ri_list (w := false) (t := Ty.str) (rp_varl (ms := M__law_rules) (v__law_rules_heads))) (rg_name (ms := M__law_rules) (v__law_rules_name)) (rs_if (rt_test (rp_op (m := .b) (m1 := .b) (m2 := .b) (v_notInD (t := Ty.str) (by decide)) (rp_frz .b (rp_varw (ms := M__law_rules) (v__law_rules_name))) (rp_le (rp_hide (rp_lc (w := false) (m := .o) (t := (Ty.tup (Ty.cons Ty.str (Ty.cons (Ty.vtup Ty.str) (Ty.last Ty.int))))) (u := Ty.str) [true, true, true, true, true, true, true, true, true, true, false] [10] (ris_list (w := false) (m := .b) (t := (Ty.tup (Ty.cons Ty.str (Ty.cons (Ty.vtup Ty.str) (Ty.last Ty.int))))) (rp_var (ms := M__law_rules) (v__law_rules_rules))) (rg_name (ms := M__law_rules) (v__law_rules_rule)) gw_name rt_yes (rp_frz .o (rp_proj (m := .b) (b := (Ty.cons Ty.str (Ty.cons (Ty.vtup Ty.str) (Ty.last Ty.int)))) (t := Ty.str) .z 0 (rp_frz .b (rp_varw (ms := M__law_rules) (v__law_rules_rule)))))))))) (rs_app (ms := M__law_rules) (v__law_rules_rules) (rp_tup (m := .o) (ra_cons (rp_frz .o (rp_varw (ms := M__law_rules) (v__law_rules_name))) (ra_cons (rp_vtup (m := .o) (t := Ty.str) (rl_cons (rp_frz .o (rp_op (m1 := .b) (m2 := .b) (v_ixL (t := Ty.str)) (rp_le (rp_varl (ms := M__law_rules) (v__law_rules_words))) rp_int)) rl_nil)) (ra_one rp_int))))) rs_next)))
  (rs_retm (ms := M__law_rules) (v__law_rules_rules)))))))
abbrev s_names : Stmt := topS 11
abbrev N_names : List Str := ["grammar", "found", "name", "parts", "cost"]
abbrev P_names : List Str := ["grammar"]
theorem sc_names : FnScope N_names P_names (defScope s_names) := ⟨rfl, rfl, rfl, by decide +kernel, rfl, by decide +kernel, by decide +kernel⟩
abbrev g_names : List Ty := [(Ty.list (Ty.tup (Ty.cons Ty.str (Ty.cons (Ty.vtup Ty.str) (Ty.last Ty.int))))), (Ty.list Ty.str), Ty.str, (Ty.vtup Ty.str), Ty.int]
abbrev M_names : List Md := [.w, .o, .w, .w, .w]
abbrev v_names_grammar : Mem g_names (Ty.list (Ty.tup (Ty.cons Ty.str (Ty.cons (Ty.vtup Ty.str) (Ty.last Ty.int))))) := .z
abbrev v_names_found : Mem g_names (Ty.list Ty.str) := (.s .z)
abbrev v_names_name : Mem g_names Ty.str := (.s (.s .z))
abbrev v_names_parts : Mem g_names (Ty.vtup Ty.str) := (.s (.s (.s .z)))
abbrev v_names_cost : Mem g_names Ty.int := (.s (.s (.s (.s .z))))
noncomputable def lb_names_1 : Gam g_names → Option (Fl (Gam g_names) (den (Ty.list Ty.str))) :=
  (sIf (e2 (fNotInD Ty.str) (eV (t := Ty.str) (v_names_name)) (eV (t := (Ty.list Ty.str)) (v_names_found))) (sApp (v_names_found) (eV (t := Ty.str) (v_names_name))) sNext)
noncomputable def lp_names_1 : Gam g_names → Option (Fl (Gam g_names) (den (Ty.list Ty.str))) := hide (sFor (eV (t := (Ty.list (Ty.tup (Ty.cons Ty.str (Ty.cons (Ty.vtup Ty.str) (Ty.last Ty.int)))))) (v_names_grammar)) (bCons (bName (t := Ty.str) (v_names_name)) (bCons (bName (t := (Ty.vtup Ty.str)) (v_names_parts)) (bName (t := Ty.int) (v_names_cost)))) (Gam.mask [false, true, false, false, false]) lb_names_1)
theorem lp_names_1_eq : lp_names_1 = (sFor (eV (t := (Ty.list (Ty.tup (Ty.cons Ty.str (Ty.cons (Ty.vtup Ty.str) (Ty.last Ty.int)))))) (v_names_grammar)) (bCons (bName (t := Ty.str) (v_names_name)) (bCons (bName (t := (Ty.vtup Ty.str)) (v_names_parts)) (bName (t := Ty.int) (v_names_cost)))) (Gam.mask [false, true, false, false, false]) lb_names_1) := hide_eq _
noncomputable def b_names : Gam g_names → Option (Fl (Gam g_names) (den (Ty.list Ty.str))) :=
  (sSeq (sSet (v_names_found) (e1 fSmall eNil))
  (sSeq lp_names_1
  (sRetM (v_names_found))))
noncomputable def m_names : den (Ty.last (Ty.list (Ty.tup (Ty.cons Ty.str (Ty.cons (Ty.vtup Ty.str) (Ty.last Ty.int)))))) → Option (den (Ty.list Ty.str)) := hide (runG (Ty.last (Ty.list (Ty.tup (Ty.cons Ty.str (Ty.cons (Ty.vtup Ty.str) (Ty.last Ty.int)))))) [(Ty.list Ty.str), Ty.str, (Ty.vtup Ty.str), Ty.int] b_names)
theorem m_names_eq (d : den (Ty.last (Ty.list (Ty.tup (Ty.cons Ty.str (Ty.cons (Ty.vtup Ty.str) (Ty.last Ty.int))))))) : m_names d = runG (Ty.last (Ty.list (Ty.tup (Ty.cons Ty.str (Ty.cons (Ty.vtup Ty.str) (Ty.last Ty.int)))))) [(Ty.list Ty.str), Ty.str, (Ty.vtup Ty.str), Ty.int] b_names d := congrFun (hide_eq _) d
theorem m_names_at (p0 : den (Ty.list (Ty.tup (Ty.cons Ty.str (Ty.cons (Ty.vtup Ty.str) (Ty.last Ty.int)))))) : m_names (p0) = endOf (b_names ((some p0, none, none, none, none, ()) : Gam g_names)) := by
  rw [m_names_eq]
  rfl
set_option maxHeartbeats 4000000 in
theorem ok_names {f : Addr} {fd : FuncData} (F : Fun K "names" "names" s_names f fd) (T : Txt K mg) :
    FnOk K.P K.w K mg base CX0 1 f fd P_names (spP K (Ty.last (Ty.list (Ty.tup (Ty.cons Ty.str (Ty.cons (Ty.vtup Ty.str) (Ty.last Ty.int)))))) .o (Ty.list Ty.str) m_names) := by
  have S := sc_names
  refine fn_ok (F := b_names) [(Ty.list Ty.str), Ty.str, (Ty.vtup Ty.str), Ty.int] M_names F S rfl rfl rfl m_names_eq (fun cdv A outer s H E hr => ?_)
  refine ⟨_, (pss_cons (ps_set (i := 1) S.nd rfl (Or.inl rfl) (pe_lst pa_nil))
  (pss_cons (ps_for PassesOwn.never rfl (pi_listK K rfl (pv 0)) (pg_tupK (n := 3) K rfl rfl (pgs_cons (pg_name (i := 2) S.nd rfl (Or.inl rfl)) (pgs_cons (pg_name (i := 3) S.nd rfl (Or.inl rfl)) (pgs_cons (pg_name (i := 4) S.nd rfl (Or.inl rfl)) pgs_nil)))) (pss_one (ps_if (pt_cmpR (r := rNotInD K) (op_notInD (hu65 hr)) (pv 2) (pv 1) (by rfl)) (pss_one (ps_expr (pe_bm PySem.F.plainAttrs_list PySem.F.slot_list_append PySem.F.type_list_append mt_append (pv 1) (pa_cons (pv 2) pa_nil)))) pss_nil)))
  (pss_one (ps_ret (pv 1))))), ?_⟩
  exact (rs_seq (rs_set (ms := M_names) (m := .o) (v_names_found) (rp_list (t := Ty.str) rl_nil))
  (rs_seq (rs_hide (rs_for (w := true) (t := (Ty.tup (Ty.cons Ty.str (Ty.cons (Ty.vtup Ty.str) (Ty.last Ty.int))))) [false, true, false, false, false] (ri_list (w := true) (t := (Ty.tup (Ty.cons Ty.str (Ty.cons (Ty.vtup Ty.str) (Ty.last Ty.int))))) (rp_varw (ms := M_names) (v_names_grammar))) (rg_tup (rgs_cons (rg_name (ms := M_names) (v_names_name)) (rgs_cons (rg_name (ms := M_names) (v_names_parts)) (rgs_one (rg_name (ms := M_names) (v_names_cost)))))) (rs_if (rt_test (rp_op (m := .b) (m1 := .b) (m2 := .b) (v_notInD (t := Ty.str) (by decide)) (rp_frz .b (rp_varw (ms := M_names) (v_names_name))) (rp_var (ms := M_names) (v_names_found)))) (rs_app (ms := M_names) (v_names_found) (rp_frz .o (rp_varw (ms := M_names) (v_names_name)))) rs_next)))
  (rs_retm (ms := M_names) (v_names_found))))
abbrev s_is_name : Stmt := topS 10
abbrev N_is_name : List Str := ["part"]
abbrev P_is_name : List Str := ["part"]
theorem sc_is_name : FnScope N_is_name P_is_name (defScope s_is_name) := ⟨rfl, rfl, rfl, by decide +kernel, rfl, by decide +kernel, by decide +kernel⟩
abbrev g_is_name : List Ty := [Ty.str]
abbrev M_is_name : List Md := [.w]
abbrev v_is_name_part : Mem g_is_name Ty.str := .z
noncomputable def b_is_name : Gam g_is_name → Option (Fl (Gam g_is_name) (den Ty.bool)) :=
  (sRet (eAnd (e2 fNeS (eV (t := Ty.str) (v_is_name_part)) (eC (Str.ofString ""))) (e2 fInS (e2 fIxS (eV (t := Ty.str) (v_is_name_part)) (eC (0 : Int))) (eC (Str.ofString "ABCDEFGHIJKLMNOPQRSTUVWXYZ")))))
noncomputable def m_is_name : den (Ty.last Ty.str) → Option (den Ty.bool) := hide (runG (Ty.last Ty.str) [] b_is_name)
theorem m_is_name_eq (d : den (Ty.last Ty.str)) : m_is_name d = runG (Ty.last Ty.str) [] b_is_name d := congrFun (hide_eq _) d
theorem m_is_name_at (p0 : den Ty.str) : m_is_name (p0) = endOf (b_is_name ((some p0, ()) : Gam g_is_name)) := by
  rw [m_is_name_eq]
  rfl
set_option maxHeartbeats 4000000 in
theorem ok_is_name {f : Addr} {fd : FuncData} (F : Fun K "is_name" "is_name" s_is_name f fd) (T : Txt K mg) :
    FnOk K.P K.w K mg base CX0 1 f fd P_is_name (spP K (Ty.last Ty.str) .o Ty.bool m_is_name) := by
  have S := sc_is_name
  refine fn_ok (F := b_is_name) [] M_is_name F S rfl rfl rfl m_is_name_eq (fun cdv A outer s H E hr => ?_)
  refine ⟨_, (pss_one (ps_ret (pe_and (pe_cmpR op_ne (pv 0) pe_str (nomark _)) (pe_one (pe_cmpR op_in_str (pe_ix (r := rIxS) ix_str (pv 0) pe_int (fun _ _ => rfl)) (pe_glob (v := V.str (Str.ofString "ABCDEFGHIJKLMNOPQRSTUVWXYZ")) rfl (T.c_GREAT).choose_spec ⟨_, rfl⟩) (by rfl)))))), ?_⟩
  exact (rs_ret (rm := .o) (ρ := Ty.bool) (rp_and (m1 := .b) (m2 := .b) (rp_op (m1 := .b) (m2 := .b) v_neS (rp_frz .b (rp_varw (ms := M_is_name) (v_is_name_part))) (rp_str)) (rp_op (m1 := .b) (m2 := .b) v_inS (rp_op (m1 := .b) (m2 := .b) v_ixS (rp_frz .b (rp_varw (ms := M_is_name) (v_is_name_part))) rp_int) rp_str)))
abbrev s_grammar_of : Stmt := topS 12
abbrev N_grammar_of : List Str := ["rules", "known", "name", "parts", "cost", "part"]
abbrev P_grammar_of : List Str := ["rules"]
theorem sc_grammar_of : FnScope N_grammar_of P_grammar_of (defScope s_grammar_of) := ⟨rfl, rfl, rfl, by decide +kernel, rfl, by decide +kernel, by decide +kernel⟩
abbrev g_grammar_of : List Ty := [(Ty.list (Ty.tup (Ty.cons Ty.str (Ty.cons (Ty.vtup Ty.str) (Ty.last Ty.int))))), (Ty.list Ty.str), Ty.str, (Ty.vtup Ty.str), Ty.int, Ty.str]
abbrev M_grammar_of : List Md := [.w, .l, .w, .w, .w, .w]
abbrev v_grammar_of_rules : Mem g_grammar_of (Ty.list (Ty.tup (Ty.cons Ty.str (Ty.cons (Ty.vtup Ty.str) (Ty.last Ty.int))))) := .z
abbrev v_grammar_of_known : Mem g_grammar_of (Ty.list Ty.str) := (.s .z)
abbrev v_grammar_of_name : Mem g_grammar_of Ty.str := (.s (.s .z))
abbrev v_grammar_of_parts : Mem g_grammar_of (Ty.vtup Ty.str) := (.s (.s (.s .z)))
abbrev v_grammar_of_cost : Mem g_grammar_of Ty.int := (.s (.s (.s (.s .z))))
abbrev v_grammar_of_part : Mem g_grammar_of Ty.str := (.s (.s (.s (.s (.s .z)))))
noncomputable def lc_grammar_of_1 : Gam g_grammar_of → Option (List (den (Ty.tup (Ty.cons Ty.str (Ty.cons (Ty.vtup Ty.str) (Ty.last Ty.int)))))) := hide (eLc (eV (t := (Ty.list (Ty.tup (Ty.cons Ty.str (Ty.cons (Ty.vtup Ty.str) (Ty.last Ty.int)))))) (v_grammar_of_rules)) (bCons (bName (t := Ty.str) (v_grammar_of_name)) (bCons (bName (t := (Ty.vtup Ty.str)) (v_grammar_of_parts)) (bName (t := Ty.int) (v_grammar_of_cost)))) (Gam.mask [true, true, false, false, false, true]) eYes (eCons (eV (t := Ty.str) (v_grammar_of_name)) (eCons (eV (t := (Ty.vtup Ty.str)) (v_grammar_of_parts)) (eV (t := Ty.int) (v_grammar_of_cost)))))
theorem lc_grammar_of_1_eq : lc_grammar_of_1 = (eLc (eV (t := (Ty.list (Ty.tup (Ty.cons Ty.str (Ty.cons (Ty.vtup Ty.str) (Ty.last Ty.int)))))) (v_grammar_of_rules)) (bCons (bName (t := Ty.str) (v_grammar_of_name)) (bCons (bName (t := (Ty.vtup Ty.str)) (v_grammar_of_parts)) (bName (t := Ty.int) (v_grammar_of_cost)))) (Gam.mask [true, true, false, false, false, true]) eYes (eCons (eV (t := Ty.str) (v_grammar_of_name)) (eCons (eV (t := (Ty.vtup Ty.str)) (v_grammar_of_parts)) (eV (t := Ty.int) (v_grammar_of_cost))))) := hide_eq _
noncomputable def lb_grammar_of_2 : Gam g_grammar_of → Option (Fl (Gam g_grammar_of) (den (Ty.list (Ty.tup (Ty.cons Ty.str (Ty.cons (Ty.vtup Ty.str) (Ty.last Ty.int))))))) :=
  (sIf (eAnd (e1 m_is_name (eV (t := Ty.str) (v_grammar_of_part))) (e2 (fNotInD Ty.str) (eV (t := Ty.str) (v_grammar_of_part)) (eV (t := (Ty.list Ty.str)) (v_grammar_of_known)))) sNever sNext)
noncomputable def lp_grammar_of_2 : Gam g_grammar_of → Option (Fl (Gam g_grammar_of) (den (Ty.list (Ty.tup (Ty.cons Ty.str (Ty.cons (Ty.vtup Ty.str) (Ty.last Ty.int))))))) := hide (sFor (eV (t := (Ty.vtup Ty.str)) (v_grammar_of_parts)) (bName (t := Ty.str) (v_grammar_of_part)) (Gam.mask [true, true, false, false, false, false]) lb_grammar_of_2)
theorem lp_grammar_of_2_eq : lp_grammar_of_2 = (sFor (eV (t := (Ty.vtup Ty.str)) (v_grammar_of_parts)) (bName (t := Ty.str) (v_grammar_of_part)) (Gam.mask [true, true, false, false, false, false]) lb_grammar_of_2) := hide_eq _
noncomputable def lb_grammar_of_1 : Gam g_grammar_of → Option (Fl (Gam g_grammar_of) (den (Ty.list (Ty.tup (Ty.cons Ty.str (Ty.cons (Ty.vtup Ty.str) (Ty.last Ty.int))))))) :=
  (sSeq (sIf (e2 fLt (eV (t := Ty.int) (v_grammar_of_cost)) (eC (0 : Int))) sNever sNext)
  lp_grammar_of_2)
noncomputable def lp_grammar_of_1 : Gam g_grammar_of → Option (Fl (Gam g_grammar_of) (den (Ty.list (Ty.tup (Ty.cons Ty.str (Ty.cons (Ty.vtup Ty.str) (Ty.last Ty.int))))))) := hide (sFor (eV (t := (Ty.list (Ty.tup (Ty.cons Ty.str (Ty.cons (Ty.vtup Ty.str) (Ty.last Ty.int)))))) (v_grammar_of_rules)) (bCons (bName (t := Ty.str) (v_grammar_of_name)) (bCons (bName (t := (Ty.vtup Ty.str)) (v_grammar_of_parts)) (bName (t := Ty.int) (v_grammar_of_cost)))) (Gam.mask [true, true, false, false, false, false]) lb_grammar_of_1)
theorem lp_grammar_of_1_eq : lp_grammar_of_1 = (sFor (eV (t := (Ty.list (Ty.tup (Ty.cons Ty.str (Ty.cons (Ty.vtup Ty.str) (Ty.last Ty.int)))))) (v_grammar_of_rules)) (bCons (bName (t := Ty.str) (v_grammar_of_name)) (bCons (bName (t := (Ty.vtup Ty.str)) (v_grammar_of_parts)) (bName (t := Ty.int) (v_grammar_of_cost)))) (Gam.mask [true, true, false, false, false, false]) lb_grammar_of_1) := hide_eq _
noncomputable def b_grammar_of : Gam g_grammar_of → Option (Fl (Gam g_grammar_of) (den (Ty.list (Ty.tup (Ty.cons Ty.str (Ty.cons (Ty.vtup Ty.str) (Ty.last Ty.int))))))) :=
  (sSeq (sIf (e2 (fEqD (Ty.list (Ty.tup (Ty.cons Ty.str (Ty.cons (Ty.vtup Ty.str) (Ty.last Ty.int)))))) (eV (t := (Ty.list (Ty.tup (Ty.cons Ty.str (Ty.cons (Ty.vtup Ty.str) (Ty.last Ty.int)))))) (v_grammar_of_rules)) (e1 fSmall eNil)) sNever sNext)
  (sSeq (sSet (v_grammar_of_known) (e1 m_names (eV (t := (Ty.list (Ty.tup (Ty.cons Ty.str (Ty.cons (Ty.vtup Ty.str) (Ty.last Ty.int)))))) (v_grammar_of_rules))))
  (sSeq lp_grammar_of_1
  (sRet lc_grammar_of_1))))
noncomputable def m_grammar_of : den (Ty.last (Ty.list (Ty.tup (Ty.cons Ty.str (Ty.cons (Ty.vtup Ty.str) (Ty.last Ty.int)))))) → Option (den (Ty.list (Ty.tup (Ty.cons Ty.str (Ty.cons (Ty.vtup Ty.str) (Ty.last Ty.int)))))) := hide (runG (Ty.last (Ty.list (Ty.tup (Ty.cons Ty.str (Ty.cons (Ty.vtup Ty.str) (Ty.last Ty.int)))))) [(Ty.list Ty.str), Ty.str, (Ty.vtup Ty.str), Ty.int, Ty.str] b_grammar_of)
theorem m_grammar_of_eq (d : den (Ty.last (Ty.list (Ty.tup (Ty.cons Ty.str (Ty.cons (Ty.vtup Ty.str) (Ty.last Ty.int))))))) : m_grammar_of d = runG (Ty.last (Ty.list (Ty.tup (Ty.cons Ty.str (Ty.cons (Ty.vtup Ty.str) (Ty.last Ty.int)))))) [(Ty.list Ty.str), Ty.str, (Ty.vtup Ty.str), Ty.int, Ty.str] b_grammar_of d := congrFun (hide_eq _) d
theorem m_grammar_of_at (p0 : den (Ty.list (Ty.tup (Ty.cons Ty.str (Ty.cons (Ty.vtup Ty.str) (Ty.last Ty.int)))))) : m_grammar_of (p0) = endOf (b_grammar_of ((some p0, none, none, none, none, none, ()) : Gam g_grammar_of)) := by
  rw [m_grammar_of_eq]
  rfl
set_option maxHeartbeats 4000000 in
theorem ok_grammar_of {f : Addr} {fd : FuncData} (F : Fun K "grammar_of" "grammar_of" s_grammar_of f fd) (T : Txt K mg) {f_names : Addr} {fd_names : FuncData} (D_names : Df K mg "names" "names" s_names P_names f_names fd_names) (G_names : FnOk K.P K.w K mg base CX0 1 f_names fd_names P_names (spP K (Ty.last (Ty.list (Ty.tup (Ty.cons Ty.str (Ty.cons (Ty.vtup Ty.str) (Ty.last Ty.int)))))) .o (Ty.list Ty.str) m_names)) {f_is_name : Addr} {fd_is_name : FuncData} (D_is_name : Df K mg "is_name" "is_name" s_is_name P_is_name f_is_name fd_is_name) (G_is_name : FnOk K.P K.w K mg base CX0 1 f_is_name fd_is_name P_is_name (spP K (Ty.last Ty.str) .o Ty.bool m_is_name)) :
    FnOk K.P K.w K mg base CX0 2 f fd P_grammar_of (spP K (Ty.last (Ty.list (Ty.tup (Ty.cons Ty.str (Ty.cons (Ty.vtup Ty.str) (Ty.last Ty.int)))))) .o (Ty.list (Ty.tup (Ty.cons Ty.str (Ty.cons (Ty.vtup Ty.str) (Ty.last Ty.int))))) m_grammar_of) := by
  have S := sc_grammar_of
  refine fn_ok (F := b_grammar_of) [(Ty.list Ty.str), Ty.str, (Ty.vtup Ty.str), Ty.int, Ty.str] M_grammar_of F S rfl rfl rfl m_grammar_of_eq (fun cdv A outer s H E hr => ?_)
  refine ⟨_, (pss_cons (ps_if (pt_cmpR (r := rEqD K) (op_eqD hr.units) (pv 0) (pe_lst pa_nil) (nomark _)) (pss_one VV.ps_never) pss_nil)
  (pss_cons (ps_set (i := 1) S.nd rfl (Or.inl rfl) (pe_call G_names (hr.mono (by decide)) rfl D_names.gl D_names.fn.kp D_names.bi .nil pass0 (pa_cons (pv 0) pa_nil)))
  (pss_cons (ps_for PassesOwn.never rfl (pi_listK K rfl (pv 0)) (pg_tupK (n := 3) K rfl rfl (pgs_cons (pg_name (i := 2) S.nd rfl (Or.inl rfl)) (pgs_cons (pg_name (i := 3) S.nd rfl (Or.inl rfl)) (pgs_cons (pg_name (i := 4) S.nd rfl (Or.inl rfl)) pgs_nil)))) (pss_cons (ps_if (pt_cmpR op_lt (pv 4) pe_int (nomark _)) (pss_one VV.ps_never) pss_nil)
  (pss_one (ps_for PassesOwn.never rfl (pi_tupK K rfl (pv 3)) (pg_name (i := 5) S.nd rfl (Or.inl rfl)) (pss_one (ps_if (PW.pt (pw_and (pt_val (pe_call G_is_name (hr.mono (by decide)) rfl D_is_name.gl D_is_name.fn.kp D_is_name.bi .nil pass0 (pa_cons (pv 5) pa_nil))) (pw_and1 (pt_cmpR (r := rNotInD K) (op_notInD (hu65 hr)) (pv 5) (pv 1) (by rfl))))) (pss_one VV.ps_never) pss_nil))))))
  (pss_one (ps_ret (pe_lc (own := [("name", 2), ("parts", 3), ("cost", 4)]) rfl S.nd (pi_listK K rfl (pv 0)) (blkOk_by (N := N_grammar_of) (sc := defScope s_grammar_of) (by decide +kernel)) (fun _ _ _ _ _ => (pg_tupK (n := 3) K rfl rfl (pgs_cons (pg_name (i := 2) S.nd rfl (Or.inl rfl)) (pgs_cons (pg_name (i := 3) S.nd rfl (Or.inl rfl)) (pgs_cons (pg_name (i := 4) S.nd rfl (Or.inl rfl)) pgs_nil))))) (fun _ _ _ _ _ => pts_nil) (fun _ _ _ _ _ => (pe_tup (pa_cons (pv 2) (pa_cons (pe_callTy (r := rTupOf K) call_tuple_of (by rfl) T.b_tuple (by decide +kernel) (pa_cons (pv 3) pa_nil)) (pa_cons (pv 4) pa_nil))))))))))), ?_⟩
  exact (rs_seq (rs_if (rt_test (rp_op (m := .b) (m1 := .b) (m2 := .b) (v_eqD (t := (Ty.list (Ty.tup (Ty.cons Ty.str (Ty.cons (Ty.vtup Ty.str) (Ty.last Ty.int)))))) (by decide)) (rp_le (rp_varw (ms := M_grammar_of) (v_grammar_of_rules))) (rp_le (rp_list (t := (Ty.tup (Ty.cons Ty.str (Ty.cons (Ty.vtup Ty.str) (Ty.last Ty.int))))) rl_nil)))) rs_never rs_next)
  (rs_seq (rs_set (ms := M_grammar_of) (m := .l) (v_grammar_of_known) (rp_le (rp_call (mA := .b) (rm := .o) (ρ := (Ty.list Ty.str)) (m := m_names) rfl (ra_one (rp_le (rp_varw (ms := M_grammar_of) (v_grammar_of_rules)))))))
  (rs_seq (rs_hide (rs_for (w := true) (t := (Ty.tup (Ty.cons Ty.str (Ty.cons (Ty.vtup Ty.str) (Ty.last Ty.int))))) [true, true, false, false, false, false] (ri_list (w := true) (t := (Ty.tup (Ty.cons Ty.str (Ty.cons (Ty.vtup Ty.str) (Ty.last Ty.int))))) (rp_varw (ms := M_grammar_of) (v_grammar_of_rules))) (rg_tup (rgs_cons (rg_name (ms := M_grammar_of) (v_grammar_of_name)) (rgs_cons (rg_name (ms := M_grammar_of) (v_grammar_of_parts)) (rgs_one (rg_name (ms := M_grammar_of) (v_grammar_of_cost)))))) (rs_seq (rs_if (rt_test (rp_op (m := .b) (m1 := .b) (m2 := .b) v_lt (rp_frz .b (rp_varw (ms := M_grammar_of) (v_grammar_of_cost))) rp_int)) rs_never rs_next)
  (rs_hide (rs_for (w := false) (t := Ty.str) [true, true, false, false, false, false] (ri_vtup (w := false) (t := Ty.str) (rp_frz .l (rp_varw (ms := M_grammar_of) (v_grammar_of_parts)))) (rg_name (ms := M_grammar_of) (v_grammar_of_part)) (rs_if (rt_and (rt_val (m := .b) (rp_frz .b (rp_call (mA := .b) (rm := .o) (ρ := Ty.bool) (m := m_is_name) rfl (ra_one (rp_frz .b (rp_varw (ms := M_grammar_of) (v_grammar_of_part))))))) (rt_test (rp_op (m := .b) (m1 := .b) (m2 := .b) (v_notInD (t := Ty.str) (by decide)) (rp_frz .b (rp_varw (ms := M_grammar_of) (v_grammar_of_part))) (rp_le (rp_varl (ms := M_grammar_of) (v_grammar_of_known)))))) rs_never rs_next))))))
  (rs_ret (rm := .o) (ρ := (Ty.list (Ty.tup (Ty.cons Ty.str (Ty.cons (Ty.vtup Ty.str) (Ty.last Ty.int)))))) (rp_hide (rp_lc (w := true) (m := .o) (t := (Ty.tup (Ty.cons Ty.str (Ty.cons (Ty.vtup Ty.str) (Ty.last Ty.int))))) (u := (Ty.tup (Ty.cons Ty.str (Ty.cons (Ty.vtup Ty.str) (Ty.last Ty.int))))) [true, true, false, false, false, true] [2, 3, 4] (ris_of (ri_list (w := true) (t := (Ty.tup (Ty.cons Ty.str (Ty.cons (Ty.vtup Ty.str) (Ty.last Ty.int))))) (rp_varw (ms := M_grammar_of) (v_grammar_of_rules)))) (rg_tup (rgs_cons (rg_name (ms := M_grammar_of) (v_grammar_of_name)) (rgs_cons (rg_name (ms := M_grammar_of) (v_grammar_of_parts)) (rgs_one (rg_name (ms := M_grammar_of) (v_grammar_of_cost)))))) (gw_tup (gws_cons gw_name mg_name (gws_cons gw_name mg_name (gws_cons gw_name mg_name gws_nil)))) rt_yes (rp_tup (m := .o) (ra_cons (rp_frz .o (rp_varw (ms := M_grammar_of) (v_grammar_of_name))) (ra_cons (rp_tupV (m' := .b) (t := Ty.str) (rp_frz .b (rp_varw (ms := M_grammar_of) (v_grammar_of_parts)))) (ra_one (rp_frz .o (rp_varw (ms := M_grammar_of) (v_grammar_of_cost)))))))))))))
abbrev s_Making___init__ : Stmt := inClass (topS 14) 0
abbrev N_Making___init__ : List Str := ["self"]
abbrev P_Making___init__ : List Str := ["self"]
theorem sc_Making___init__ : FnScope N_Making___init__ P_Making___init__ (defScope s_Making___init__) := ⟨rfl, rfl, rfl, by decide +kernel, rfl, by decide +kernel, by decide +kernel⟩
theorem ok_Making___init__ {C f : Addr} {fd : FuncData} (F : Fun K "__init__" "Making.__init__" s_Making___init__ f fd) (M : MkT K mg C) :
    FnOk K.P K.w K mg base CX0 1 f fd P_Making___init__ (spMk C) := by
  have S := sc_Making___init__
  refine F.ok S (fun vs H Q E h => ?_) (fun cdv A outer s H vs Q E hr h => ?_)
  · obtain ⟨x, dx, rfl, _⟩ := h
    rfl
  · obtain ⟨x, dx, rfl, hl, k⟩ := h
    refine ⟨_, pss_cons (ps_fld (pv 0) (pe_lst pa_nil) rfl) (pss_cons (ps_fld (pv 0) (pe_lst pa_nil) rfl) (pss_one (ps_fld (pv 0) pe_dnewK rfl))), ?_⟩
    exact mk_read (K := K) rfl hl M.ci.cls M.n_rules M.n_backs M.n_known k
abbrev s_Making_told : Stmt := inClass (topS 14) 2
abbrev N_Making_told : List Str := ["self", "first", "pairs", "many", "left", "rule", "back", "pair", "part", "ahead"]
abbrev P_Making_told : List Str := ["self", "first"]
theorem sc_Making_told : FnScope N_Making_told P_Making_told (defScope s_Making_told) := ⟨rfl, rfl, rfl, by decide +kernel, rfl, by decide +kernel, by decide +kernel⟩
abbrev g_Making_told : List Ty := [tyMk, Ty.str, (Ty.list (Ty.tup (Ty.cons (Ty.tup (Ty.cons Ty.str (Ty.cons (Ty.vtup Ty.str) (Ty.last Ty.int)))) (Ty.last Ty.any)))), Ty.int, (Ty.list Ty.str), (Ty.tup (Ty.cons Ty.str (Ty.cons (Ty.vtup Ty.str) (Ty.last Ty.int)))), Ty.any, (Ty.tup (Ty.cons (Ty.tup (Ty.cons Ty.str (Ty.cons (Ty.vtup Ty.str) (Ty.last Ty.int)))) (Ty.last Ty.any))), Ty.str, (Ty.list (Ty.tup (Ty.cons (Ty.tup (Ty.cons Ty.str (Ty.cons (Ty.vtup Ty.str) (Ty.last Ty.int)))) (Ty.last Ty.any))))]
abbrev M_Making_told : List Md := [.r, .w, .l, .w, .l, .w, .w, .w, .w, .l]
abbrev v_Making_told_self : Mem g_Making_told tyMk := .z
abbrev v_Making_told_first : Mem g_Making_told Ty.str := (.s .z)
abbrev v_Making_told_pairs : Mem g_Making_told (Ty.list (Ty.tup (Ty.cons (Ty.tup (Ty.cons Ty.str (Ty.cons (Ty.vtup Ty.str) (Ty.last Ty.int)))) (Ty.last Ty.any)))) := (.s (.s .z))
abbrev v_Making_told_many : Mem g_Making_told Ty.int := (.s (.s (.s .z)))
abbrev v_Making_told_left : Mem g_Making_told (Ty.list Ty.str) := (.s (.s (.s (.s .z))))
abbrev v_Making_told_rule : Mem g_Making_told (Ty.tup (Ty.cons Ty.str (Ty.cons (Ty.vtup Ty.str) (Ty.last Ty.int)))) := (.s (.s (.s (.s (.s .z)))))
abbrev v_Making_told_back : Mem g_Making_told Ty.any := (.s (.s (.s (.s (.s (.s .z))))))
abbrev v_Making_told_pair : Mem g_Making_told (Ty.tup (Ty.cons (Ty.tup (Ty.cons Ty.str (Ty.cons (Ty.vtup Ty.str) (Ty.last Ty.int)))) (Ty.last Ty.any))) := (.s (.s (.s (.s (.s (.s (.s .z)))))))
abbrev v_Making_told_part : Mem g_Making_told Ty.str := (.s (.s (.s (.s (.s (.s (.s (.s .z))))))))
abbrev v_Making_told_ahead : Mem g_Making_told (Ty.list (Ty.tup (Ty.cons (Ty.tup (Ty.cons Ty.str (Ty.cons (Ty.vtup Ty.str) (Ty.last Ty.int)))) (Ty.last Ty.any)))) := (.s (.s (.s (.s (.s (.s (.s (.s (.s .z)))))))))
noncomputable def lc_Making_told_1 : Gam g_Making_told → Option (List (den Ty.str)) := hide (eLc (eV (t := (Ty.list (Ty.tup (Ty.cons (Ty.tup (Ty.cons Ty.str (Ty.cons (Ty.vtup Ty.str) (Ty.last Ty.int)))) (Ty.last Ty.any))))) (v_Making_told_pairs)) (bCons (bName (t := (Ty.tup (Ty.cons Ty.str (Ty.cons (Ty.vtup Ty.str) (Ty.last Ty.int))))) (v_Making_told_rule)) (bName (t := Ty.any) (v_Making_told_back))) (Gam.mask [true, true, true, true, true, false, false, true, true, true]) eYes (eProj (b := (Ty.cons Ty.str (Ty.cons (Ty.vtup Ty.str) (Ty.last Ty.int)))) (t := Ty.str) .z (eV (t := (Ty.tup (Ty.cons Ty.str (Ty.cons (Ty.vtup Ty.str) (Ty.last Ty.int))))) (v_Making_told_rule))))
theorem lc_Making_told_1_eq : lc_Making_told_1 = (eLc (eV (t := (Ty.list (Ty.tup (Ty.cons (Ty.tup (Ty.cons Ty.str (Ty.cons (Ty.vtup Ty.str) (Ty.last Ty.int)))) (Ty.last Ty.any))))) (v_Making_told_pairs)) (bCons (bName (t := (Ty.tup (Ty.cons Ty.str (Ty.cons (Ty.vtup Ty.str) (Ty.last Ty.int))))) (v_Making_told_rule)) (bName (t := Ty.any) (v_Making_told_back))) (Gam.mask [true, true, true, true, true, false, false, true, true, true]) eYes (eProj (b := (Ty.cons Ty.str (Ty.cons (Ty.vtup Ty.str) (Ty.last Ty.int)))) (t := Ty.str) .z (eV (t := (Ty.tup (Ty.cons Ty.str (Ty.cons (Ty.vtup Ty.str) (Ty.last Ty.int))))) (v_Making_told_rule)))) := hide_eq _
noncomputable def lc_Making_told_3 : Gam g_Making_told → Option (List (den Ty.bool)) := hide (eLc (eProj (b := (Ty.cons Ty.str (Ty.cons (Ty.vtup Ty.str) (Ty.last Ty.int)))) (t := (Ty.vtup Ty.str)) (.s .z) (eProj (b := (Ty.cons (Ty.tup (Ty.cons Ty.str (Ty.cons (Ty.vtup Ty.str) (Ty.last Ty.int)))) (Ty.last Ty.any))) (t := (Ty.tup (Ty.cons Ty.str (Ty.cons (Ty.vtup Ty.str) (Ty.last Ty.int))))) .z (eV (t := (Ty.tup (Ty.cons (Ty.tup (Ty.cons Ty.str (Ty.cons (Ty.vtup Ty.str) (Ty.last Ty.int)))) (Ty.last Ty.any)))) (v_Making_told_pair)))) (bName (t := Ty.str) (v_Making_told_part)) (Gam.mask [true, true, true, true, true, true, true, true, false, true]) eYes (eOr (e2 (fInD Ty.str) (eV (t := Ty.str) (v_Making_told_part)) (eV (t := (Ty.list Ty.str)) (v_Making_told_left))) (eNot (e1 m_is_name (eV (t := Ty.str) (v_Making_told_part))))))
theorem lc_Making_told_3_eq : lc_Making_told_3 = (eLc (eProj (b := (Ty.cons Ty.str (Ty.cons (Ty.vtup Ty.str) (Ty.last Ty.int)))) (t := (Ty.vtup Ty.str)) (.s .z) (eProj (b := (Ty.cons (Ty.tup (Ty.cons Ty.str (Ty.cons (Ty.vtup Ty.str) (Ty.last Ty.int)))) (Ty.last Ty.any))) (t := (Ty.tup (Ty.cons Ty.str (Ty.cons (Ty.vtup Ty.str) (Ty.last Ty.int))))) .z (eV (t := (Ty.tup (Ty.cons (Ty.tup (Ty.cons Ty.str (Ty.cons (Ty.vtup Ty.str) (Ty.last Ty.int)))) (Ty.last Ty.any)))) (v_Making_told_pair)))) (bName (t := Ty.str) (v_Making_told_part)) (Gam.mask [true, true, true, true, true, true, true, true, false, true]) eYes (eOr (e2 (fInD Ty.str) (eV (t := Ty.str) (v_Making_told_part)) (eV (t := (Ty.list Ty.str)) (v_Making_told_left))) (eNot (e1 m_is_name (eV (t := Ty.str) (v_Making_told_part)))))) := hide_eq _
noncomputable def lc_Making_told_2 : Gam g_Making_told → Option (List (den (Ty.tup (Ty.cons (Ty.tup (Ty.cons Ty.str (Ty.cons (Ty.vtup Ty.str) (Ty.last Ty.int)))) (Ty.last Ty.any))))) := hide (eLc (eV (t := (Ty.list (Ty.tup (Ty.cons (Ty.tup (Ty.cons Ty.str (Ty.cons (Ty.vtup Ty.str) (Ty.last Ty.int)))) (Ty.last Ty.any))))) (v_Making_told_pairs)) (bName (t := (Ty.tup (Ty.cons (Ty.tup (Ty.cons Ty.str (Ty.cons (Ty.vtup Ty.str) (Ty.last Ty.int)))) (Ty.last Ty.any)))) (v_Making_told_pair)) (Gam.mask [true, true, true, true, true, true, true, false, true, true]) (e1 fAll lc_Making_told_3) (eV (t := (Ty.tup (Ty.cons (Ty.tup (Ty.cons Ty.str (Ty.cons (Ty.vtup Ty.str) (Ty.last Ty.int)))) (Ty.last Ty.any)))) (v_Making_told_pair)))
theorem lc_Making_told_2_eq : lc_Making_told_2 = (eLc (eV (t := (Ty.list (Ty.tup (Ty.cons (Ty.tup (Ty.cons Ty.str (Ty.cons (Ty.vtup Ty.str) (Ty.last Ty.int)))) (Ty.last Ty.any))))) (v_Making_told_pairs)) (bName (t := (Ty.tup (Ty.cons (Ty.tup (Ty.cons Ty.str (Ty.cons (Ty.vtup Ty.str) (Ty.last Ty.int)))) (Ty.last Ty.any)))) (v_Making_told_pair)) (Gam.mask [true, true, true, true, true, true, true, false, true, true]) (e1 fAll lc_Making_told_3) (eV (t := (Ty.tup (Ty.cons (Ty.tup (Ty.cons Ty.str (Ty.cons (Ty.vtup Ty.str) (Ty.last Ty.int)))) (Ty.last Ty.any)))) (v_Making_told_pair))) := hide_eq _
noncomputable def lc_Making_told_4 : Gam g_Making_told → Option (List (den (Ty.tup (Ty.cons (Ty.tup (Ty.cons Ty.str (Ty.cons (Ty.vtup Ty.str) (Ty.last Ty.int)))) (Ty.last Ty.any))))) := hide (eLc (eV (t := (Ty.list (Ty.tup (Ty.cons (Ty.tup (Ty.cons Ty.str (Ty.cons (Ty.vtup Ty.str) (Ty.last Ty.int)))) (Ty.last Ty.any))))) (v_Making_told_pairs)) (bName (t := (Ty.tup (Ty.cons (Ty.tup (Ty.cons Ty.str (Ty.cons (Ty.vtup Ty.str) (Ty.last Ty.int)))) (Ty.last Ty.any)))) (v_Making_told_pair)) (Gam.mask [true, true, true, true, true, true, true, false, true, true]) (e2 fEqS (eProj (b := (Ty.cons Ty.str (Ty.cons (Ty.vtup Ty.str) (Ty.last Ty.int)))) (t := Ty.str) .z (eProj (b := (Ty.cons (Ty.tup (Ty.cons Ty.str (Ty.cons (Ty.vtup Ty.str) (Ty.last Ty.int)))) (Ty.last Ty.any))) (t := (Ty.tup (Ty.cons Ty.str (Ty.cons (Ty.vtup Ty.str) (Ty.last Ty.int))))) .z (eV (t := (Ty.tup (Ty.cons (Ty.tup (Ty.cons Ty.str (Ty.cons (Ty.vtup Ty.str) (Ty.last Ty.int)))) (Ty.last Ty.any)))) (v_Making_told_pair)))) (eV (t := Ty.str) (v_Making_told_first))) (eV (t := (Ty.tup (Ty.cons (Ty.tup (Ty.cons Ty.str (Ty.cons (Ty.vtup Ty.str) (Ty.last Ty.int)))) (Ty.last Ty.any)))) (v_Making_told_pair)))
theorem lc_Making_told_4_eq : lc_Making_told_4 = (eLc (eV (t := (Ty.list (Ty.tup (Ty.cons (Ty.tup (Ty.cons Ty.str (Ty.cons (Ty.vtup Ty.str) (Ty.last Ty.int)))) (Ty.last Ty.any))))) (v_Making_told_pairs)) (bName (t := (Ty.tup (Ty.cons (Ty.tup (Ty.cons Ty.str (Ty.cons (Ty.vtup Ty.str) (Ty.last Ty.int)))) (Ty.last Ty.any)))) (v_Making_told_pair)) (Gam.mask [true, true, true, true, true, true, true, false, true, true]) (e2 fEqS (eProj (b := (Ty.cons Ty.str (Ty.cons (Ty.vtup Ty.str) (Ty.last Ty.int)))) (t := Ty.str) .z (eProj (b := (Ty.cons (Ty.tup (Ty.cons Ty.str (Ty.cons (Ty.vtup Ty.str) (Ty.last Ty.int)))) (Ty.last Ty.any))) (t := (Ty.tup (Ty.cons Ty.str (Ty.cons (Ty.vtup Ty.str) (Ty.last Ty.int))))) .z (eV (t := (Ty.tup (Ty.cons (Ty.tup (Ty.cons Ty.str (Ty.cons (Ty.vtup Ty.str) (Ty.last Ty.int)))) (Ty.last Ty.any)))) (v_Making_told_pair)))) (eV (t := Ty.str) (v_Making_told_first))) (eV (t := (Ty.tup (Ty.cons (Ty.tup (Ty.cons Ty.str (Ty.cons (Ty.vtup Ty.str) (Ty.last Ty.int)))) (Ty.last Ty.any)))) (v_Making_told_pair))) := hide_eq _
noncomputable def lc_Making_told_5 : Gam g_Making_told → Option (List (den (Ty.tup (Ty.cons (Ty.tup (Ty.cons Ty.str (Ty.cons (Ty.vtup Ty.str) (Ty.last Ty.int)))) (Ty.last Ty.any))))) := hide (eLc (eV (t := (Ty.list (Ty.tup (Ty.cons (Ty.tup (Ty.cons Ty.str (Ty.cons (Ty.vtup Ty.str) (Ty.last Ty.int)))) (Ty.last Ty.any))))) (v_Making_told_pairs)) (bName (t := (Ty.tup (Ty.cons (Ty.tup (Ty.cons Ty.str (Ty.cons (Ty.vtup Ty.str) (Ty.last Ty.int)))) (Ty.last Ty.any)))) (v_Making_told_pair)) (Gam.mask [true, true, true, true, true, true, true, false, true, true]) (e2 fNeS (eProj (b := (Ty.cons Ty.str (Ty.cons (Ty.vtup Ty.str) (Ty.last Ty.int)))) (t := Ty.str) .z (eProj (b := (Ty.cons (Ty.tup (Ty.cons Ty.str (Ty.cons (Ty.vtup Ty.str) (Ty.last Ty.int)))) (Ty.last Ty.any))) (t := (Ty.tup (Ty.cons Ty.str (Ty.cons (Ty.vtup Ty.str) (Ty.last Ty.int))))) .z (eV (t := (Ty.tup (Ty.cons (Ty.tup (Ty.cons Ty.str (Ty.cons (Ty.vtup Ty.str) (Ty.last Ty.int)))) (Ty.last Ty.any)))) (v_Making_told_pair)))) (eV (t := Ty.str) (v_Making_told_first))) (eV (t := (Ty.tup (Ty.cons (Ty.tup (Ty.cons Ty.str (Ty.cons (Ty.vtup Ty.str) (Ty.last Ty.int)))) (Ty.last Ty.any)))) (v_Making_told_pair)))
theorem lc_Making_told_5_eq : lc_Making_told_5 = (eLc (eV (t := (Ty.list (Ty.tup (Ty.cons (Ty.tup (Ty.cons Ty.str (Ty.cons (Ty.vtup Ty.str) (Ty.last Ty.int)))) (Ty.last Ty.any))))) (v_Making_told_pairs)) (bName (t := (Ty.tup (Ty.cons (Ty.tup (Ty.cons Ty.str (Ty.cons (Ty.vtup Ty.str) (Ty.last Ty.int)))) (Ty.last Ty.any)))) (v_Making_told_pair)) (Gam.mask [true, true, true, true, true, true, true, false, true, true]) (e2 fNeS (eProj (b := (Ty.cons Ty.str (Ty.cons (Ty.vtup Ty.str) (Ty.last Ty.int)))) (t := Ty.str) .z (eProj (b := (Ty.cons (Ty.tup (Ty.cons Ty.str (Ty.cons (Ty.vtup Ty.str) (Ty.last Ty.int)))) (Ty.last Ty.any))) (t := (Ty.tup (Ty.cons Ty.str (Ty.cons (Ty.vtup Ty.str) (Ty.last Ty.int))))) .z (eV (t := (Ty.tup (Ty.cons (Ty.tup (Ty.cons Ty.str (Ty.cons (Ty.vtup Ty.str) (Ty.last Ty.int)))) (Ty.last Ty.any)))) (v_Making_told_pair)))) (eV (t := Ty.str) (v_Making_told_first))) (eV (t := (Ty.tup (Ty.cons (Ty.tup (Ty.cons Ty.str (Ty.cons (Ty.vtup Ty.str) (Ty.last Ty.int)))) (Ty.last Ty.any)))) (v_Making_told_pair))) := hide_eq _
noncomputable def lc_Making_told_6 : Gam g_Making_told → Option (List (den (Ty.tup (Ty.cons Ty.str (Ty.cons (Ty.vtup Ty.str) (Ty.last Ty.int)))))) := hide (eLc (eV (t := (Ty.list (Ty.tup (Ty.cons (Ty.tup (Ty.cons Ty.str (Ty.cons (Ty.vtup Ty.str) (Ty.last Ty.int)))) (Ty.last Ty.any))))) (v_Making_told_pairs)) (bCons (bName (t := (Ty.tup (Ty.cons Ty.str (Ty.cons (Ty.vtup Ty.str) (Ty.last Ty.int))))) (v_Making_told_rule)) (bName (t := Ty.any) (v_Making_told_back))) (Gam.mask [true, true, true, true, true, false, false, true, true, true]) eYes (eV (t := (Ty.tup (Ty.cons Ty.str (Ty.cons (Ty.vtup Ty.str) (Ty.last Ty.int))))) (v_Making_told_rule)))
theorem lc_Making_told_6_eq : lc_Making_told_6 = (eLc (eV (t := (Ty.list (Ty.tup (Ty.cons (Ty.tup (Ty.cons Ty.str (Ty.cons (Ty.vtup Ty.str) (Ty.last Ty.int)))) (Ty.last Ty.any))))) (v_Making_told_pairs)) (bCons (bName (t := (Ty.tup (Ty.cons Ty.str (Ty.cons (Ty.vtup Ty.str) (Ty.last Ty.int))))) (v_Making_told_rule)) (bName (t := Ty.any) (v_Making_told_back))) (Gam.mask [true, true, true, true, true, false, false, true, true, true]) eYes (eV (t := (Ty.tup (Ty.cons Ty.str (Ty.cons (Ty.vtup Ty.str) (Ty.last Ty.int))))) (v_Making_told_rule))) := hide_eq _
noncomputable def lc_Making_told_7 : Gam g_Making_told → Option (List (den Ty.any)) := hide (eLc (eV (t := (Ty.list (Ty.tup (Ty.cons (Ty.tup (Ty.cons Ty.str (Ty.cons (Ty.vtup Ty.str) (Ty.last Ty.int)))) (Ty.last Ty.any))))) (v_Making_told_pairs)) (bCons (bName (t := (Ty.tup (Ty.cons Ty.str (Ty.cons (Ty.vtup Ty.str) (Ty.last Ty.int))))) (v_Making_told_rule)) (bName (t := Ty.any) (v_Making_told_back))) (Gam.mask [true, true, true, true, true, false, false, true, true, true]) eYes (eV (t := Ty.any) (v_Making_told_back)))
theorem lc_Making_told_7_eq : lc_Making_told_7 = (eLc (eV (t := (Ty.list (Ty.tup (Ty.cons (Ty.tup (Ty.cons Ty.str (Ty.cons (Ty.vtup Ty.str) (Ty.last Ty.int)))) (Ty.last Ty.any))))) (v_Making_told_pairs)) (bCons (bName (t := (Ty.tup (Ty.cons Ty.str (Ty.cons (Ty.vtup Ty.str) (Ty.last Ty.int))))) (v_Making_told_rule)) (bName (t := Ty.any) (v_Making_told_back))) (Gam.mask [true, true, true, true, true, false, false, true, true, true]) eYes (eV (t := Ty.any) (v_Making_told_back))) := hide_eq _
abbrev st_Making_told_1 (x0_self : den tyMk) (x1_first : den Ty.str) (x2_pairs : den (Ty.list (Ty.tup (Ty.cons (Ty.tup (Ty.cons Ty.str (Ty.cons (Ty.vtup Ty.str) (Ty.last Ty.int)))) (Ty.last Ty.any))))) (x3_many : den Ty.int) : Gam g_Making_told := (some x0_self, some x1_first, some x2_pairs, some x3_many, none, none, none, none, none, none, ())
noncomputable def lb_Making_told_1 : Gam g_Making_told → Option (Fl (Gam g_Making_told) (den (Ty.tup (Ty.cons (Ty.own (Ty.list (Ty.tup (Ty.cons Ty.str (Ty.cons (Ty.vtup Ty.str) (Ty.last Ty.int)))))) (Ty.last (Ty.own (Ty.list Ty.any))))))) :=
  (sSeq (sSet (v_Making_told_many) (e1 fLen (eV (t := (Ty.list (Ty.tup (Ty.cons (Ty.tup (Ty.cons Ty.str (Ty.cons (Ty.vtup Ty.str) (Ty.last Ty.int)))) (Ty.last Ty.any))))) (v_Making_told_pairs))))
  (sSeq (sSet (v_Making_told_left) lc_Making_told_1)
  (sSet (v_Making_told_pairs) lc_Making_told_2)))
noncomputable def lp_Making_told_1 : Gam g_Making_told → Option (Fl (Gam g_Making_told) (den (Ty.tup (Ty.cons (Ty.own (Ty.list (Ty.tup (Ty.cons Ty.str (Ty.cons (Ty.vtup Ty.str) (Ty.last Ty.int)))))) (Ty.last (Ty.own (Ty.list Ty.any))))))) := hide (sWhile (e2 fLt (e1 fLen (eV (t := (Ty.list (Ty.tup (Ty.cons (Ty.tup (Ty.cons Ty.str (Ty.cons (Ty.vtup Ty.str) (Ty.last Ty.int)))) (Ty.last Ty.any))))) (v_Making_told_pairs))) (eV (t := Ty.int) (v_Making_told_many))) (Gam.mask [true, true, true, true, false, false, false, false, false, false]) lb_Making_told_1)
theorem lp_Making_told_1_eq : lp_Making_told_1 = (sWhile (e2 fLt (e1 fLen (eV (t := (Ty.list (Ty.tup (Ty.cons (Ty.tup (Ty.cons Ty.str (Ty.cons (Ty.vtup Ty.str) (Ty.last Ty.int)))) (Ty.last Ty.any))))) (v_Making_told_pairs))) (eV (t := Ty.int) (v_Making_told_many))) (Gam.mask [true, true, true, true, false, false, false, false, false, false]) lb_Making_told_1) := hide_eq _
noncomputable def b_Making_told : Gam g_Making_told → Option (Fl (Gam g_Making_told) (den (Ty.tup (Ty.cons (Ty.own (Ty.list (Ty.tup (Ty.cons Ty.str (Ty.cons (Ty.vtup Ty.str) (Ty.last Ty.int)))))) (Ty.last (Ty.own (Ty.list Ty.any))))))) :=
  (sSeq (sSet (v_Making_told_pairs) (e2 fLZip (eFld (v_Making_told_self) (.z : RIx rowMk (.own (Ty.list (Ty.tup (Ty.cons Ty.str (Ty.cons (Ty.vtup Ty.str) (Ty.last Ty.int)))))))) (eFld (v_Making_told_self) ((.s .z) : RIx rowMk (.own (Ty.list Ty.any))))))
  (sSeq (sSet (v_Making_told_many) (e2 fAdd (e1 fLen (eV (t := (Ty.list (Ty.tup (Ty.cons (Ty.tup (Ty.cons Ty.str (Ty.cons (Ty.vtup Ty.str) (Ty.last Ty.int)))) (Ty.last Ty.any))))) (v_Making_told_pairs))) (eC (1 : Int))))
  (sSeq lp_Making_told_1
  (sSeq (sSet (v_Making_told_ahead) lc_Making_told_4)
  (sSeq (sIf (e2 (fEqA (Ty.list (Ty.tup (Ty.cons (Ty.tup (Ty.cons Ty.str (Ty.cons (Ty.vtup Ty.str) (Ty.last Ty.int)))) (Ty.last Ty.any))))) (eV (t := (Ty.list (Ty.tup (Ty.cons (Ty.tup (Ty.cons Ty.str (Ty.cons (Ty.vtup Ty.str) (Ty.last Ty.int)))) (Ty.last Ty.any))))) (v_Making_told_ahead)) (e1 fSmall eNil)) (sSet (v_Making_told_ahead) (e1 fSmall (eSnoc (eCons (eCons (eV (t := Ty.str) (v_Making_told_first)) (eCons (e1 fSmall (eSnoc (eV (t := Ty.str) (v_Making_told_first)) (eSnoc (eV (t := Ty.str) (v_Making_told_first)) eNil))) (eC (0 : Int)))) (e1 (fun d => some ((emb (Ty.tup (Ty.cons (Ty.vtup Ty.any) (Ty.last (Ty.vtup Ty.any))))).1 d)) (eCons (e1 fSmall eNil) (e1 fSmall eNil)))) eNil))) sNext)
  (sSeq (sSet (v_Making_told_pairs) (e2 fCatL (eV (t := (Ty.list (Ty.tup (Ty.cons (Ty.tup (Ty.cons Ty.str (Ty.cons (Ty.vtup Ty.str) (Ty.last Ty.int)))) (Ty.last Ty.any))))) (v_Making_told_ahead)) lc_Making_told_5))
  (sRet (eCons lc_Making_told_6 lc_Making_told_7))))))))
noncomputable def m_Making_told : den (Ty.cons tyMk (Ty.last Ty.str)) → Option (den (Ty.tup (Ty.cons (Ty.own (Ty.list (Ty.tup (Ty.cons Ty.str (Ty.cons (Ty.vtup Ty.str) (Ty.last Ty.int)))))) (Ty.last (Ty.own (Ty.list Ty.any))))) × den tyMk) := hide (runIO (.z : RIx (Ty.cons tyMk (Ty.last Ty.str)) tyMk) [(Ty.list (Ty.tup (Ty.cons (Ty.tup (Ty.cons Ty.str (Ty.cons (Ty.vtup Ty.str) (Ty.last Ty.int)))) (Ty.last Ty.any)))), Ty.int, (Ty.list Ty.str), (Ty.tup (Ty.cons Ty.str (Ty.cons (Ty.vtup Ty.str) (Ty.last Ty.int)))), Ty.any, (Ty.tup (Ty.cons (Ty.tup (Ty.cons Ty.str (Ty.cons (Ty.vtup Ty.str) (Ty.last Ty.int)))) (Ty.last Ty.any))), Ty.str, (Ty.list (Ty.tup (Ty.cons (Ty.tup (Ty.cons Ty.str (Ty.cons (Ty.vtup Ty.str) (Ty.last Ty.int)))) (Ty.last Ty.any))))] (none : Option (den (Ty.tup (Ty.cons (Ty.own (Ty.list (Ty.tup (Ty.cons Ty.str (Ty.cons (Ty.vtup Ty.str) (Ty.last Ty.int)))))) (Ty.last (Ty.own (Ty.list Ty.any))))))) b_Making_told)
theorem m_Making_told_eq (d : den (Ty.cons tyMk (Ty.last Ty.str))) : m_Making_told d = runIO (.z : RIx (Ty.cons tyMk (Ty.last Ty.str)) tyMk) [(Ty.list (Ty.tup (Ty.cons (Ty.tup (Ty.cons Ty.str (Ty.cons (Ty.vtup Ty.str) (Ty.last Ty.int)))) (Ty.last Ty.any)))), Ty.int, (Ty.list Ty.str), (Ty.tup (Ty.cons Ty.str (Ty.cons (Ty.vtup Ty.str) (Ty.last Ty.int)))), Ty.any, (Ty.tup (Ty.cons (Ty.tup (Ty.cons Ty.str (Ty.cons (Ty.vtup Ty.str) (Ty.last Ty.int)))) (Ty.last Ty.any))), Ty.str, (Ty.list (Ty.tup (Ty.cons (Ty.tup (Ty.cons Ty.str (Ty.cons (Ty.vtup Ty.str) (Ty.last Ty.int)))) (Ty.last Ty.any))))] (none : Option (den (Ty.tup (Ty.cons (Ty.own (Ty.list (Ty.tup (Ty.cons Ty.str (Ty.cons (Ty.vtup Ty.str) (Ty.last Ty.int)))))) (Ty.last (Ty.own (Ty.list Ty.any))))))) b_Making_told d := congrFun (hide_eq _) d
theorem m_Making_told_at (p0 : den tyMk) (p1 : den Ty.str) : m_Making_told (p0, p1) = endIO (v_Making_told_self) (none : Option (den (Ty.tup (Ty.cons (Ty.own (Ty.list (Ty.tup (Ty.cons Ty.str (Ty.cons (Ty.vtup Ty.str) (Ty.last Ty.int)))))) (Ty.last (Ty.own (Ty.list Ty.any))))))) (b_Making_told ((some p0, some p1, none, none, none, none, none, none, none, none, ()) : Gam g_Making_told)) := by
  rw [m_Making_told_eq]
  rfl
set_option maxHeartbeats 4000000 in
theorem ok_Making_told {f : Addr} {fd : FuncData} (F : Fun K "told" "Making.told" s_Making_told f fd) (T : Txt K mg) {f_is_name : Addr} {fd_is_name : FuncData} (D_is_name : Df K mg "is_name" "is_name" s_is_name P_is_name f_is_name fd_is_name) (G_is_name : FnOk K.P K.w K mg base CX0 1 f_is_name fd_is_name P_is_name (spP K (Ty.last Ty.str) .o Ty.bool m_is_name)) :
    FnOk K.P K.w K mg base CX0 2 f fd P_Making_told (spIO K (Ty.cons tyMk (Ty.last Ty.str)) (.z : RIx (Ty.cons tyMk (Ty.last Ty.str)) tyMk) .o (Ty.tup (Ty.cons (Ty.own (Ty.list (Ty.tup (Ty.cons Ty.str (Ty.cons (Ty.vtup Ty.str) (Ty.last Ty.int)))))) (Ty.last (Ty.own (Ty.list Ty.any))))) m_Making_told) := by
  have S := sc_Making_told
  refine fn_okIO (ρ := (Ty.tup (Ty.cons (Ty.own (Ty.list (Ty.tup (Ty.cons Ty.str (Ty.cons (Ty.vtup Ty.str) (Ty.last Ty.int)))))) (Ty.last (Ty.own (Ty.list Ty.any)))))) (F := b_Making_told) (.z : RIx (Ty.cons tyMk (Ty.last Ty.str)) tyMk) [(Ty.list (Ty.tup (Ty.cons (Ty.tup (Ty.cons Ty.str (Ty.cons (Ty.vtup Ty.str) (Ty.last Ty.int)))) (Ty.last Ty.any)))), Ty.int, (Ty.list Ty.str), (Ty.tup (Ty.cons Ty.str (Ty.cons (Ty.vtup Ty.str) (Ty.last Ty.int)))), Ty.any, (Ty.tup (Ty.cons (Ty.tup (Ty.cons Ty.str (Ty.cons (Ty.vtup Ty.str) (Ty.last Ty.int)))) (Ty.last Ty.any))), Ty.str, (Ty.list (Ty.tup (Ty.cons (Ty.tup (Ty.cons Ty.str (Ty.cons (Ty.vtup Ty.str) (Ty.last Ty.int)))) (Ty.last Ty.any))))] M_Making_told (none : Option (den (Ty.tup (Ty.cons (Ty.own (Ty.list (Ty.tup (Ty.cons Ty.str (Ty.cons (Ty.vtup Ty.str) (Ty.last Ty.int)))))) (Ty.last (Ty.own (Ty.list Ty.any))))))) F S rfl rfl rfl m_Making_told_eq (fun z hz => nomatch hz) (fun cdv A outer s H E hr => ?_)
  refine ⟨_, (pss_cons (ps_set (i := 2) S.nd rfl (Or.inl rfl) (pe_lzip rfl rfl T.b_list rfl T.b_zip (pa_cons (pe_fld (pv 0) rfl) (pa_cons (pe_fld (pv 0) rfl) pa_nil))))
  (pss_cons (ps_set (i := 3) S.nd rfl (Or.inl rfl) (pe_op op_add (pe_callB (r := VV.rLen K) call_len (by rfl) T.b_len (by decide +kernel) (pa_cons (pv 2) pa_nil)) pe_int))
  (pss_cons (ps_while PassesOwn.never (pt_cmpR op_lt (pe_callB (r := VV.rLen K) call_len (by rfl) T.b_len (by decide +kernel) (pa_cons (pv 2) pa_nil)) (pv 3) (nomark _)) (pss_cons (ps_set (i := 3) S.nd rfl (Or.inl rfl) (pe_callB (r := VV.rLen K) call_len (by rfl) T.b_len (by decide +kernel) (pa_cons (pv 2) pa_nil)))
  (pss_cons (ps_set (i := 4) S.nd rfl (Or.inr rfl) (pe_lc (own := [("rule", 5), ("back", 6)]) rfl S.nd (pi_listK K rfl (pv 2)) (blkOk_by (N := N_Making_told) (sc := defScope s_Making_told) (by decide +kernel)) (fun _ _ _ _ _ => (pg_tupK (n := 2) K rfl rfl (pgs_cons (pg_name (i := 5) S.nd rfl (Or.inl rfl)) (pgs_cons (pg_name (i := 6) S.nd rfl (Or.inl rfl)) pgs_nil)))) (fun _ _ _ _ _ => pts_nil) (fun _ _ _ _ _ => (pe_ix (r := rIxT K) ix_tup (pv 5) pe_int (fun _ _ => rfl)))))
  (pss_one (ps_setLc (own := [("pair", 7)]) (i := 2) rfl S.nd rfl rfl (sw_true rfl rfl rfl (by decide +kernel)) (pi_listK K rfl (pv 2)) (blkOk_by (N := N_Making_told) (sc := defScope s_Making_told) (by decide +kernel)) (fun _ _ _ _ _ => (pg_name (i := 7) S.nd rfl (Or.inl rfl))) (fun _ _ _ _ _ => (pts_one (pt_val (pe_callB (r := rAllD K) (call_allD rfl) (by rfl) T.b_all (by decide +kernel) (pa_cons (pe_lc (own := [("part", 8)]) rfl S.nd (pi_tupK K rfl (pe_ix (r := rIxT K) ix_tup (pe_ix (r := rIxT K) ix_tup (pv 7) pe_int (fun _ _ => rfl)) pe_int (fun _ _ => rfl))) (blkOk_in (N := N_Making_told) (sc := defScope s_Making_told) (by decide +kernel)) (fun _ _ _ _ _ => (pg_name (i := 8) S.nd rfl (Or.inl rfl))) (fun _ _ _ _ _ => pts_nil) (fun _ _ _ _ _ => (pe_or (pe_cmpR (r := rInD K) (op_inD (hu65 hr)) (pv 8) (pv 4) (by rfl)) (pe_one (pe_not (pe_call G_is_name (hr.mono (by decide)) rfl D_is_name.gl D_is_name.fn.kp D_is_name.bi .nil pass0 (pa_cons (pv 8) pa_nil))))))) pa_nil))))) (fun _ _ _ _ _ => (pv 7)))))))
  (pss_cons (ps_setLc (own := [("pair", 7)]) (i := 9) rfl S.nd rfl rfl (sw_true rfl rfl rfl (by decide +kernel)) (pi_listK K rfl (pv 2)) (blkOk_by (N := N_Making_told) (sc := defScope s_Making_told) (by decide +kernel)) (fun _ _ _ _ _ => (pg_name (i := 7) S.nd rfl (Or.inl rfl))) (fun _ _ _ _ _ => (pts_one (pt_cmpR op_eq (pe_ix (r := rIxT K) ix_tup (pe_ix (r := rIxT K) ix_tup (pv 7) pe_int (fun _ _ => rfl)) pe_int (fun _ _ => rfl)) (pv 1) (nomark _)))) (fun _ _ _ _ _ => (pv 7)))
  (pss_cons (ps_if (pt_cmpR (r := rEqM K) (op_eqM hr.units) (pv 9) (pe_lst pa_nil) (nomark _)) (pss_one (ps_set (i := 9) S.nd rfl (Or.inl rfl) (pe_lst (pa_cons (pe_tup (pa_cons (pe_tup (pa_cons (pv 1) (pa_cons (pe_tup (pa_cons (pv 1) (pa_cons (pv 1) pa_nil))) (pa_cons pe_int pa_nil)))) (pa_cons (pe_tup (pa_cons (pe_tup pa_nil) (pa_cons (pe_tup pa_nil) pa_nil))) pa_nil))) pa_nil)))) pss_nil)
  (pss_cons (ps_set (i := 2) S.nd rfl (Or.inl rfl) (pe_op (r := rCatR K) op_catR (pv 9) (pe_lc (own := [("pair", 7)]) rfl S.nd (pi_listK K rfl (pv 2)) (blkOk_by (N := N_Making_told) (sc := defScope s_Making_told) (by decide +kernel)) (fun _ _ _ _ _ => (pg_name (i := 7) S.nd rfl (Or.inl rfl))) (fun _ _ _ _ _ => (pts_one (pt_cmpR op_ne (pe_ix (r := rIxT K) ix_tup (pe_ix (r := rIxT K) ix_tup (pv 7) pe_int (fun _ _ => rfl)) pe_int (fun _ _ => rfl)) (pv 1) (nomark _)))) (fun _ _ _ _ _ => (pv 7)))))
  (pss_one (ps_ret (pe_tup (pa_cons (pe_lc (own := [("rule", 5), ("back", 6)]) rfl S.nd (pi_listK K rfl (pv 2)) (blkOk_by (N := N_Making_told) (sc := defScope s_Making_told) (by decide +kernel)) (fun _ _ _ _ _ => (pg_tupK (n := 2) K rfl rfl (pgs_cons (pg_name (i := 5) S.nd rfl (Or.inl rfl)) (pgs_cons (pg_name (i := 6) S.nd rfl (Or.inl rfl)) pgs_nil)))) (fun _ _ _ _ _ => pts_nil) (fun _ _ _ _ _ => (pv 5))) (pa_cons (pe_lc (own := [("rule", 5), ("back", 6)]) rfl S.nd (pi_listK K rfl (pv 2)) (blkOk_by (N := N_Making_told) (sc := defScope s_Making_told) (by decide +kernel)) (fun _ _ _ _ _ => (pg_tupK (n := 2) K rfl rfl (pgs_cons (pg_name (i := 5) S.nd rfl (Or.inl rfl)) (pgs_cons (pg_name (i := 6) S.nd rfl (Or.inl rfl)) pgs_nil)))) (fun _ _ _ _ _ => pts_nil) (fun _ _ _ _ _ => (pv 6))) pa_nil))))))))))), ?_⟩
  exact (rs_seq (rs_set (ms := M_Making_told) (m := .l) (v_Making_told_pairs) (rp_le (rp_lzip (m := .b) (m' := .b) (t := (Ty.tup (Ty.cons Ty.str (Ty.cons (Ty.vtup Ty.str) (Ty.last Ty.int))))) (u := Ty.any) (rp_unO (rp_fld (ms := M_Making_told) (v_Making_told_self) (.z : RIx rowMk (.own (Ty.list (Ty.tup (Ty.cons Ty.str (Ty.cons (Ty.vtup Ty.str) (Ty.last Ty.int))))))) T.k_Making.choose_spec.ci T.k_Making.choose_spec.n_rules (hk := by decide +kernel))) (rp_unO (rp_fld (ms := M_Making_told) (v_Making_told_self) ((.s .z) : RIx rowMk (.own (Ty.list Ty.any))) T.k_Making.choose_spec.ci T.k_Making.choose_spec.n_backs (hk := by decide +kernel))))))
  (rs_seq (rs_set (ms := M_Making_told) (m := .w) (v_Making_told_many) (rp_op (m1 := .b) (m2 := .b) v_add (rp_lenL (m' := .b) (rp_le (rp_varl (ms := M_Making_told) (v_Making_told_pairs)))) rp_int))
  (rs_seq (rs_hide (rs_while [true, true, true, true, false, false, false, false, false, false] (rt_test (rp_op (m := .b) (m1 := .b) (m2 := .b) v_lt (rp_lenL (m' := .b) (rp_le (rp_varl (ms := M_Making_told) (v_Making_told_pairs)))) (rp_frz .b (rp_varw (ms := M_Making_told) (v_Making_told_many))))) (rs_seq (rs_set (ms := M_Making_told) (m := .w) (v_Making_told_many) (rp_lenL (m' := .b) (rp_le (rp_varl (ms := M_Making_told) (v_Making_told_pairs)))))
  (rs_seq (rs_set (ms := M_Making_told) (m := .l) (v_Making_told_left) (rp_le (rp_hide (rp_lc (w := false) (m := .o) (t := (Ty.tup (Ty.cons (Ty.tup (Ty.cons Ty.str (Ty.cons (Ty.vtup Ty.str) (Ty.last Ty.int)))) (Ty.last Ty.any)))) (u := Ty.str) [true, true, true, true, true, false, false, true, true, true] [5, 6] (ris_of (ri_list (w := false) (t := (Ty.tup (Ty.cons (Ty.tup (Ty.cons Ty.str (Ty.cons (Ty.vtup Ty.str) (Ty.last Ty.int)))) (Ty.last Ty.any)))) (rp_varl (ms := M_Making_told) (v_Making_told_pairs)))) (rg_tup (rgs_cons (rg_name (ms := M_Making_told) (v_Making_told_rule)) (rgs_one (rg_name (ms := M_Making_told) (v_Making_told_back))))) (gw_tup (gws_cons gw_name mg_name (gws_cons gw_name mg_name gws_nil))) rt_yes (rp_frz .o (rp_proj (m := .b) (b := (Ty.cons Ty.str (Ty.cons (Ty.vtup Ty.str) (Ty.last Ty.int)))) (t := Ty.str) .z 0 (rp_frz .b (rp_varw (ms := M_Making_told) (v_Making_told_rule)))))))))
  (rs_set (ms := M_Making_told) (m := .l) (v_Making_told_pairs) (rp_le (rp_hide (rp_lc (w := false) (m := .o) (t := (Ty.tup (Ty.cons (Ty.tup (Ty.cons Ty.str (Ty.cons (Ty.vtup Ty.str) (Ty.last Ty.int)))) (Ty.last Ty.any)))) (u := (Ty.tup (Ty.cons (Ty.tup (Ty.cons Ty.str (Ty.cons (Ty.vtup Ty.str) (Ty.last Ty.int)))) (Ty.last Ty.any)))) [true, true, true, true, true, true, true, false, true, true] [7] (ris_of (ri_list (w := false) (t := (Ty.tup (Ty.cons (Ty.tup (Ty.cons Ty.str (Ty.cons (Ty.vtup Ty.str) (Ty.last Ty.int)))) (Ty.last Ty.any)))) (rp_varl (ms := M_Making_told) (v_Making_told_pairs)))) (rg_name (ms := M_Making_told) (v_Making_told_pair)) gw_name (rt_val (m := .b) (rp_all (m' := .b) (rp_le (rp_hide (rp_lc (w := false) (m := .o) (t := Ty.str) (u := Ty.bool) [true, true, true, true, true, true, true, true, false, true] [8] (ris_of (ri_vtup (w := false) (t := Ty.str) (rp_frz .l (rp_proj (m := .b) (b := (Ty.cons Ty.str (Ty.cons (Ty.vtup Ty.str) (Ty.last Ty.int)))) (t := (Ty.vtup Ty.str)) (.s .z) 1 (rp_proj (m := .b) (b := (Ty.cons (Ty.tup (Ty.cons Ty.str (Ty.cons (Ty.vtup Ty.str) (Ty.last Ty.int)))) (Ty.last Ty.any))) (t := (Ty.tup (Ty.cons Ty.str (Ty.cons (Ty.vtup Ty.str) (Ty.last Ty.int))))) .z 0 (rp_frz .b (rp_varw (ms := M_Making_told) (v_Making_told_pair)))))))) (rg_name (ms := M_Making_told) (v_Making_told_part)) gw_name rt_yes (rp_or (m1 := .b) (m2 := .b) (rp_op (m1 := .b) (m2 := .b) (v_inD (t := Ty.str) (by decide)) (rp_frz .b (rp_varw (ms := M_Making_told) (v_Making_told_part))) (rp_le (rp_varl (ms := M_Making_told) (v_Making_told_left)))) (rp_not (m1 := .b) (rp_frz .b (rp_call (mA := .b) (rm := .o) (ρ := Ty.bool) (m := m_is_name) rfl (ra_one (rp_frz .b (rp_varw (ms := M_Making_told) (v_Making_told_part))))))))))))) (rp_frz .o (rp_varw (ms := M_Making_told) (v_Making_told_pair)))))))))))
  (rs_seq (rs_set (ms := M_Making_told) (m := .l) (v_Making_told_ahead) (rp_le (rp_hide (rp_lc (w := false) (m := .o) (t := (Ty.tup (Ty.cons (Ty.tup (Ty.cons Ty.str (Ty.cons (Ty.vtup Ty.str) (Ty.last Ty.int)))) (Ty.last Ty.any)))) (u := (Ty.tup (Ty.cons (Ty.tup (Ty.cons Ty.str (Ty.cons (Ty.vtup Ty.str) (Ty.last Ty.int)))) (Ty.last Ty.any)))) [true, true, true, true, true, true, true, false, true, true] [7] (ris_of (ri_list (w := false) (t := (Ty.tup (Ty.cons (Ty.tup (Ty.cons Ty.str (Ty.cons (Ty.vtup Ty.str) (Ty.last Ty.int)))) (Ty.last Ty.any)))) (rp_varl (ms := M_Making_told) (v_Making_told_pairs)))) (rg_name (ms := M_Making_told) (v_Making_told_pair)) gw_name (rt_test (rp_op (m := .b) (m1 := .b) (m2 := .b) v_eqS (rp_proj (m := .b) (b := (Ty.cons Ty.str (Ty.cons (Ty.vtup Ty.str) (Ty.last Ty.int)))) (t := Ty.str) .z 0 (rp_proj (m := .b) (b := (Ty.cons (Ty.tup (Ty.cons Ty.str (Ty.cons (Ty.vtup Ty.str) (Ty.last Ty.int)))) (Ty.last Ty.any))) (t := (Ty.tup (Ty.cons Ty.str (Ty.cons (Ty.vtup Ty.str) (Ty.last Ty.int))))) .z 0 (rp_frz .b (rp_varw (ms := M_Making_told) (v_Making_told_pair))))) (rp_frz .b (rp_varw (ms := M_Making_told) (v_Making_told_first))))) (rp_frz .o (rp_varw (ms := M_Making_told) (v_Making_told_pair)))))))
  (rs_seq (rs_if (rt_test (rp_op (m := .b) (m1 := .b) (m2 := .b) (v_eqA (t := (Ty.list (Ty.tup (Ty.cons (Ty.tup (Ty.cons Ty.str (Ty.cons (Ty.vtup Ty.str) (Ty.last Ty.int)))) (Ty.last Ty.any))))) (by decide)) (rp_le (rp_varl (ms := M_Making_told) (v_Making_told_ahead))) (rp_le (rp_list (t := (Ty.tup (Ty.cons (Ty.tup (Ty.cons Ty.str (Ty.cons (Ty.vtup Ty.str) (Ty.last Ty.int)))) (Ty.last Ty.any)))) rl_nil)))) (rs_set (ms := M_Making_told) (m := .l) (v_Making_told_ahead) (rp_le (rp_list (t := (Ty.tup (Ty.cons (Ty.tup (Ty.cons Ty.str (Ty.cons (Ty.vtup Ty.str) (Ty.last Ty.int)))) (Ty.last Ty.any)))) (rl_cons (rp_tup (m := .o) (ra_cons (rp_tup (m := .o) (ra_cons (rp_frz .o (rp_varw (ms := M_Making_told) (v_Making_told_first))) (ra_cons (rp_vtup (m := .o) (t := Ty.str) (rl_cons (rp_frz .o (rp_varw (ms := M_Making_told) (v_Making_told_first))) (rl_cons (rp_frz .o (rp_varw (ms := M_Making_told) (v_Making_told_first))) rl_nil))) (ra_one rp_int)))) (ra_one (rp_any (t := (Ty.tup (Ty.cons (Ty.vtup Ty.any) (Ty.last (Ty.vtup Ty.any))))) (m1 := .b) (rp_frz .b (rp_tup (m := .o) (ra_cons (rp_vtup (m := .o) (t := Ty.any) rl_nil) (ra_one (rp_vtup (m := .o) (t := Ty.any) rl_nil))))))))) rl_nil)))) rs_next)
  (rs_seq (rs_set (ms := M_Making_told) (m := .l) (v_Making_told_pairs) (rp_le (rp_cat (m1 := .b) (m2 := .b) (rp_le (rp_varl (ms := M_Making_told) (v_Making_told_ahead))) (rp_le (rp_hide (rp_lc (w := false) (m := .o) (t := (Ty.tup (Ty.cons (Ty.tup (Ty.cons Ty.str (Ty.cons (Ty.vtup Ty.str) (Ty.last Ty.int)))) (Ty.last Ty.any)))) (u := (Ty.tup (Ty.cons (Ty.tup (Ty.cons Ty.str (Ty.cons (Ty.vtup Ty.str) (Ty.last Ty.int)))) (Ty.last Ty.any)))) [true, true, true, true, true, true, true, false, true, true] [7] (ris_of (ri_list (w := false) (t := (Ty.tup (Ty.cons (Ty.tup (Ty.cons Ty.str (Ty.cons (Ty.vtup Ty.str) (Ty.last Ty.int)))) (Ty.last Ty.any)))) (rp_varl (ms := M_Making_told) (v_Making_told_pairs)))) (rg_name (ms := M_Making_told) (v_Making_told_pair)) gw_name (rt_test (rp_op (m := .b) (m1 := .b) (m2 := .b) v_neS (rp_proj (m := .b) (b := (Ty.cons Ty.str (Ty.cons (Ty.vtup Ty.str) (Ty.last Ty.int)))) (t := Ty.str) .z 0 (rp_proj (m := .b) (b := (Ty.cons (Ty.tup (Ty.cons Ty.str (Ty.cons (Ty.vtup Ty.str) (Ty.last Ty.int)))) (Ty.last Ty.any))) (t := (Ty.tup (Ty.cons Ty.str (Ty.cons (Ty.vtup Ty.str) (Ty.last Ty.int))))) .z 0 (rp_frz .b (rp_varw (ms := M_Making_told) (v_Making_told_pair))))) (rp_frz .b (rp_varw (ms := M_Making_told) (v_Making_told_first))))) (rp_frz .o (rp_varw (ms := M_Making_told) (v_Making_told_pair)))))))))
  (rs_ret (rm := .o) (ρ := (Ty.tup (Ty.cons (Ty.own (Ty.list (Ty.tup (Ty.cons Ty.str (Ty.cons (Ty.vtup Ty.str) (Ty.last Ty.int)))))) (Ty.last (Ty.own (Ty.list Ty.any)))))) (rp_tup (m := .o) (ra_cons (rp_own (rp_hide (rp_lc (w := false) (m := .o) (t := (Ty.tup (Ty.cons (Ty.tup (Ty.cons Ty.str (Ty.cons (Ty.vtup Ty.str) (Ty.last Ty.int)))) (Ty.last Ty.any)))) (u := (Ty.tup (Ty.cons Ty.str (Ty.cons (Ty.vtup Ty.str) (Ty.last Ty.int))))) [true, true, true, true, true, false, false, true, true, true] [5, 6] (ris_of (ri_list (w := false) (t := (Ty.tup (Ty.cons (Ty.tup (Ty.cons Ty.str (Ty.cons (Ty.vtup Ty.str) (Ty.last Ty.int)))) (Ty.last Ty.any)))) (rp_varl (ms := M_Making_told) (v_Making_told_pairs)))) (rg_tup (rgs_cons (rg_name (ms := M_Making_told) (v_Making_told_rule)) (rgs_one (rg_name (ms := M_Making_told) (v_Making_told_back))))) (gw_tup (gws_cons gw_name mg_name (gws_cons gw_name mg_name gws_nil))) rt_yes (rp_frz .o (rp_varw (ms := M_Making_told) (v_Making_told_rule)))))) (ra_one (rp_own (rp_hide (rp_lc (w := false) (m := .o) (t := (Ty.tup (Ty.cons (Ty.tup (Ty.cons Ty.str (Ty.cons (Ty.vtup Ty.str) (Ty.last Ty.int)))) (Ty.last Ty.any)))) (u := Ty.any) [true, true, true, true, true, false, false, true, true, true] [5, 6] (ris_of (ri_list (w := false) (t := (Ty.tup (Ty.cons (Ty.tup (Ty.cons Ty.str (Ty.cons (Ty.vtup Ty.str) (Ty.last Ty.int)))) (Ty.last Ty.any)))) (rp_varl (ms := M_Making_told) (v_Making_told_pairs)))) (rg_tup (rgs_cons (rg_name (ms := M_Making_told) (v_Making_told_rule)) (rgs_one (rg_name (ms := M_Making_told) (v_Making_told_back))))) (gw_tup (gws_cons gw_name mg_name (gws_cons gw_name mg_name gws_nil))) rt_yes (rp_frz .o (rp_varw (ms := M_Making_told) (v_Making_told_back))))))))))))))))
abbrev s_is_single : Stmt := topS 20
abbrev N_is_single : List Str := ["rule"]
abbrev P_is_single : List Str := ["rule"]
theorem sc_is_single : FnScope N_is_single P_is_single (defScope s_is_single) := ⟨rfl, rfl, rfl, by decide +kernel, rfl, by decide +kernel, by decide +kernel⟩
abbrev g_is_single : List Ty := [(Ty.tup (Ty.cons Ty.str (Ty.cons (Ty.vtup Ty.str) (Ty.last Ty.int))))]
abbrev M_is_single : List Md := [.w]
abbrev v_is_single_rule : Mem g_is_single (Ty.tup (Ty.cons Ty.str (Ty.cons (Ty.vtup Ty.str) (Ty.last Ty.int)))) := .z
noncomputable def b_is_single : Gam g_is_single → Option (Fl (Gam g_is_single) (den Ty.bool)) :=
  (sRet (eAnd (e2 fEqI (e1 fLen (eProj (b := (Ty.cons Ty.str (Ty.cons (Ty.vtup Ty.str) (Ty.last Ty.int)))) (t := (Ty.vtup Ty.str)) (.s .z) (eV (t := (Ty.tup (Ty.cons Ty.str (Ty.cons (Ty.vtup Ty.str) (Ty.last Ty.int))))) (v_is_single_rule)))) (eC (1 : Int))) (e1 m_is_name (e2 atI (eProj (b := (Ty.cons Ty.str (Ty.cons (Ty.vtup Ty.str) (Ty.last Ty.int)))) (t := (Ty.vtup Ty.str)) (.s .z) (eV (t := (Ty.tup (Ty.cons Ty.str (Ty.cons (Ty.vtup Ty.str) (Ty.last Ty.int))))) (v_is_single_rule))) (eC (0 : Int))))))
noncomputable def m_is_single : den (Ty.last (Ty.tup (Ty.cons Ty.str (Ty.cons (Ty.vtup Ty.str) (Ty.last Ty.int))))) → Option (den Ty.bool) := hide (runG (Ty.last (Ty.tup (Ty.cons Ty.str (Ty.cons (Ty.vtup Ty.str) (Ty.last Ty.int))))) [] b_is_single)
theorem m_is_single_eq (d : den (Ty.last (Ty.tup (Ty.cons Ty.str (Ty.cons (Ty.vtup Ty.str) (Ty.last Ty.int)))))) : m_is_single d = runG (Ty.last (Ty.tup (Ty.cons Ty.str (Ty.cons (Ty.vtup Ty.str) (Ty.last Ty.int))))) [] b_is_single d := congrFun (hide_eq _) d
theorem m_is_single_at (p0 : den (Ty.tup (Ty.cons Ty.str (Ty.cons (Ty.vtup Ty.str) (Ty.last Ty.int))))) : m_is_single (p0) = endOf (b_is_single ((some p0, ()) : Gam g_is_single)) := by
  rw [m_is_single_eq]
  rfl
set_option maxHeartbeats 4000000 in
theorem ok_is_single {f : Addr} {fd : FuncData} (F : Fun K "is_single" "is_single" s_is_single f fd) (T : Txt K mg) {f_is_name : Addr} {fd_is_name : FuncData} (D_is_name : Df K mg "is_name" "is_name" s_is_name P_is_name f_is_name fd_is_name) (G_is_name : FnOk K.P K.w K mg base CX0 1 f_is_name fd_is_name P_is_name (spP K (Ty.last Ty.str) .o Ty.bool m_is_name)) :
    FnOk K.P K.w K mg base CX0 2 f fd P_is_single (spP K (Ty.last (Ty.tup (Ty.cons Ty.str (Ty.cons (Ty.vtup Ty.str) (Ty.last Ty.int))))) .o Ty.bool m_is_single) := by
  have S := sc_is_single
  refine fn_ok (F := b_is_single) [] M_is_single F S rfl rfl rfl m_is_single_eq (fun cdv A outer s H E hr => ?_)
  refine ⟨_, (pss_one (ps_ret (pe_and (pe_cmpR op_eq (pe_callB (r := VV.rLen K) call_len (by rfl) T.b_len (by decide +kernel) (pa_cons (pe_ix (r := rIxT K) ix_tup (pv 0) pe_int (fun _ _ => rfl)) pa_nil)) pe_int (nomark _)) (pe_one (pe_call G_is_name (hr.mono (by decide)) rfl D_is_name.gl D_is_name.fn.kp D_is_name.bi .nil pass0 (pa_cons (pe_ix (r := rIxT K) ix_tup (pe_ix (r := rIxT K) ix_tup (pv 0) pe_int (fun _ _ => rfl)) pe_int (fun _ _ => rfl)) pa_nil)))))), ?_⟩
  exact (rs_ret (rm := .o) (ρ := Ty.bool) (rp_and (m1 := .b) (m2 := .b) (rp_op (m1 := .b) (m2 := .b) v_eqI (rp_lenV (m' := .b) (rp_proj (m := .b) (b := (Ty.cons Ty.str (Ty.cons (Ty.vtup Ty.str) (Ty.last Ty.int)))) (t := (Ty.vtup Ty.str)) (.s .z) 1 (rp_frz .b (rp_varw (ms := M_is_single) (v_is_single_rule))))) rp_int) (rp_frz .b (rp_call (mA := .b) (rm := .o) (ρ := Ty.bool) (m := m_is_name) rfl (ra_one (rp_op (m1 := .b) (m2 := .b) (v_ixV (t := Ty.str)) (rp_proj (m := .b) (b := (Ty.cons Ty.str (Ty.cons (Ty.vtup Ty.str) (Ty.last Ty.int)))) (t := (Ty.vtup Ty.str)) (.s .z) 1 (rp_frz .b (rp_varw (ms := M_is_single) (v_is_single_rule)))) rp_int))))))
abbrev s_chains_from : Stmt := topS 21
abbrev N_chains_from : List Str := ["grammar", "name", "found", "known", "at", "here", "chain", "number", "rule"]
abbrev P_chains_from : List Str := ["grammar", "name"]
theorem sc_chains_from : FnScope N_chains_from P_chains_from (defScope s_chains_from) := ⟨rfl, rfl, rfl, by decide +kernel, rfl, by decide +kernel, by decide +kernel⟩
abbrev g_chains_from : List Ty := [(Ty.list (Ty.tup (Ty.cons Ty.str (Ty.cons (Ty.vtup Ty.str) (Ty.last Ty.int))))), Ty.str, (Ty.list (Ty.tup (Ty.cons Ty.str (Ty.last (Ty.vtup Ty.int))))), (Ty.list Ty.str), Ty.int, Ty.str, (Ty.vtup Ty.int), Ty.int, (Ty.tup (Ty.cons Ty.str (Ty.cons (Ty.vtup Ty.str) (Ty.last Ty.int))))]
abbrev M_chains_from : List Md := [.w, .w, .o, .o, .w, .w, .w, .w, .w]
abbrev v_chains_from_grammar : Mem g_chains_from (Ty.list (Ty.tup (Ty.cons Ty.str (Ty.cons (Ty.vtup Ty.str) (Ty.last Ty.int))))) := .z
abbrev v_chains_from_name : Mem g_chains_from Ty.str := (.s .z)
abbrev v_chains_from_found : Mem g_chains_from (Ty.list (Ty.tup (Ty.cons Ty.str (Ty.last (Ty.vtup Ty.int))))) := (.s (.s .z))
abbrev v_chains_from_known : Mem g_chains_from (Ty.list Ty.str) := (.s (.s (.s .z)))
abbrev v_chains_from_at : Mem g_chains_from Ty.int := (.s (.s (.s (.s .z))))
abbrev v_chains_from_here : Mem g_chains_from Ty.str := (.s (.s (.s (.s (.s .z)))))
abbrev v_chains_from_chain : Mem g_chains_from (Ty.vtup Ty.int) := (.s (.s (.s (.s (.s (.s .z))))))
abbrev v_chains_from_number : Mem g_chains_from Ty.int := (.s (.s (.s (.s (.s (.s (.s .z)))))))
abbrev v_chains_from_rule : Mem g_chains_from (Ty.tup (Ty.cons Ty.str (Ty.cons (Ty.vtup Ty.str) (Ty.last Ty.int)))) := (.s (.s (.s (.s (.s (.s (.s (.s .z))))))))
abbrev st_chains_from_2 (x0_grammar : den (Ty.list (Ty.tup (Ty.cons Ty.str (Ty.cons (Ty.vtup Ty.str) (Ty.last Ty.int)))))) (x1_found : den (Ty.list (Ty.tup (Ty.cons Ty.str (Ty.last (Ty.vtup Ty.int)))))) (x2_known : den (Ty.list Ty.str)) (x3_at : den Ty.int) (x4_here : den Ty.str) (x5_chain : den (Ty.vtup Ty.int)) : Gam g_chains_from := (some x0_grammar, none, some x1_found, some x2_known, some x3_at, some x4_here, some x5_chain, none, none, ())
noncomputable def lb_chains_from_2 : Gam g_chains_from → Option (Fl (Gam g_chains_from) (den (Ty.list (Ty.tup (Ty.cons Ty.str (Ty.last (Ty.vtup Ty.int))))))) :=
  (sIf (eAnd (e2 fEqS (eProj (b := (Ty.cons Ty.str (Ty.cons (Ty.vtup Ty.str) (Ty.last Ty.int)))) (t := Ty.str) .z (eV (t := (Ty.tup (Ty.cons Ty.str (Ty.cons (Ty.vtup Ty.str) (Ty.last Ty.int))))) (v_chains_from_rule))) (eV (t := Ty.str) (v_chains_from_here))) (eAnd (e1 m_is_single (eV (t := (Ty.tup (Ty.cons Ty.str (Ty.cons (Ty.vtup Ty.str) (Ty.last Ty.int))))) (v_chains_from_rule))) (e2 (fNotInD Ty.str) (e2 atI (eProj (b := (Ty.cons Ty.str (Ty.cons (Ty.vtup Ty.str) (Ty.last Ty.int)))) (t := (Ty.vtup Ty.str)) (.s .z) (eV (t := (Ty.tup (Ty.cons Ty.str (Ty.cons (Ty.vtup Ty.str) (Ty.last Ty.int))))) (v_chains_from_rule))) (eC (0 : Int))) (eV (t := (Ty.list Ty.str)) (v_chains_from_known))))) (sSeq (sApp (v_chains_from_known) (e2 atI (eProj (b := (Ty.cons Ty.str (Ty.cons (Ty.vtup Ty.str) (Ty.last Ty.int)))) (t := (Ty.vtup Ty.str)) (.s .z) (eV (t := (Ty.tup (Ty.cons Ty.str (Ty.cons (Ty.vtup Ty.str) (Ty.last Ty.int))))) (v_chains_from_rule))) (eC (0 : Int))))
  (sApp (v_chains_from_found) (eCons (e2 atI (eProj (b := (Ty.cons Ty.str (Ty.cons (Ty.vtup Ty.str) (Ty.last Ty.int)))) (t := (Ty.vtup Ty.str)) (.s .z) (eV (t := (Ty.tup (Ty.cons Ty.str (Ty.cons (Ty.vtup Ty.str) (Ty.last Ty.int))))) (v_chains_from_rule))) (eC (0 : Int))) (e2 fCatL (eV (t := (Ty.vtup Ty.int)) (v_chains_from_chain)) (e1 fSmall (eSnoc (eV (t := Ty.int) (v_chains_from_number)) eNil)))))) sNext)
noncomputable def lp_chains_from_2 : Gam g_chains_from → Option (Fl (Gam g_chains_from) (den (Ty.list (Ty.tup (Ty.cons Ty.str (Ty.last (Ty.vtup Ty.int))))))) := hide (sFor (e1 fEnum (eV (t := (Ty.list (Ty.tup (Ty.cons Ty.str (Ty.cons (Ty.vtup Ty.str) (Ty.last Ty.int)))))) (v_chains_from_grammar))) (bCons (bName (t := Ty.int) (v_chains_from_number)) (bName (t := (Ty.tup (Ty.cons Ty.str (Ty.cons (Ty.vtup Ty.str) (Ty.last Ty.int))))) (v_chains_from_rule))) (Gam.mask [true, false, true, true, true, true, true, false, false]) lb_chains_from_2)
theorem lp_chains_from_2_eq : lp_chains_from_2 = (sFor (e1 fEnum (eV (t := (Ty.list (Ty.tup (Ty.cons Ty.str (Ty.cons (Ty.vtup Ty.str) (Ty.last Ty.int)))))) (v_chains_from_grammar))) (bCons (bName (t := Ty.int) (v_chains_from_number)) (bName (t := (Ty.tup (Ty.cons Ty.str (Ty.cons (Ty.vtup Ty.str) (Ty.last Ty.int))))) (v_chains_from_rule))) (Gam.mask [true, false, true, true, true, true, true, false, false]) lb_chains_from_2) := hide_eq _
abbrev st_chains_from_1 (x0_grammar : den (Ty.list (Ty.tup (Ty.cons Ty.str (Ty.cons (Ty.vtup Ty.str) (Ty.last Ty.int)))))) (x1_found : den (Ty.list (Ty.tup (Ty.cons Ty.str (Ty.last (Ty.vtup Ty.int)))))) (x2_known : den (Ty.list Ty.str)) (x3_at : den Ty.int) : Gam g_chains_from := (some x0_grammar, none, some x1_found, some x2_known, some x3_at, none, none, none, none, ())
noncomputable def lb_chains_from_1 : Gam g_chains_from → Option (Fl (Gam g_chains_from) (den (Ty.list (Ty.tup (Ty.cons Ty.str (Ty.last (Ty.vtup Ty.int))))))) :=
  (sSeq (sAsg (e2 atI (eV (t := (Ty.list (Ty.tup (Ty.cons Ty.str (Ty.last (Ty.vtup Ty.int)))))) (v_chains_from_found)) (eV (t := Ty.int) (v_chains_from_at))) (bCons (bName (t := Ty.str) (v_chains_from_here)) (bName (t := (Ty.vtup Ty.int)) (v_chains_from_chain))))
  (sSeq lp_chains_from_2
  (sSet (v_chains_from_at) (e2 fAdd (eV (t := Ty.int) (v_chains_from_at)) (eC (1 : Int))))))
noncomputable def lp_chains_from_1 : Gam g_chains_from → Option (Fl (Gam g_chains_from) (den (Ty.list (Ty.tup (Ty.cons Ty.str (Ty.last (Ty.vtup Ty.int))))))) := hide (sWhile (e2 fLt (eV (t := Ty.int) (v_chains_from_at)) (e1 fLen (eV (t := (Ty.list (Ty.tup (Ty.cons Ty.str (Ty.last (Ty.vtup Ty.int)))))) (v_chains_from_found)))) (Gam.mask [true, false, true, true, true, false, false, false, false]) lb_chains_from_1)
theorem lp_chains_from_1_eq : lp_chains_from_1 = (sWhile (e2 fLt (eV (t := Ty.int) (v_chains_from_at)) (e1 fLen (eV (t := (Ty.list (Ty.tup (Ty.cons Ty.str (Ty.last (Ty.vtup Ty.int)))))) (v_chains_from_found)))) (Gam.mask [true, false, true, true, true, false, false, false, false]) lb_chains_from_1) := hide_eq _
noncomputable def b_chains_from : Gam g_chains_from → Option (Fl (Gam g_chains_from) (den (Ty.list (Ty.tup (Ty.cons Ty.str (Ty.last (Ty.vtup Ty.int))))))) :=
  (sSeq (sSet (v_chains_from_found) (e1 fSmall (eSnoc (eCons (eV (t := Ty.str) (v_chains_from_name)) (e1 fSmall eNil)) eNil)))
  (sSeq (sSet (v_chains_from_known) (e1 fSmall (eSnoc (eV (t := Ty.str) (v_chains_from_name)) eNil)))
  (sSeq (sSet (v_chains_from_at) (eC (0 : Int)))
  (sSeq lp_chains_from_1
  (sRetM (v_chains_from_found))))))
noncomputable def m_chains_from : den (Ty.cons (Ty.list (Ty.tup (Ty.cons Ty.str (Ty.cons (Ty.vtup Ty.str) (Ty.last Ty.int))))) (Ty.last Ty.str)) → Option (den (Ty.list (Ty.tup (Ty.cons Ty.str (Ty.last (Ty.vtup Ty.int)))))) := hide (runG (Ty.cons (Ty.list (Ty.tup (Ty.cons Ty.str (Ty.cons (Ty.vtup Ty.str) (Ty.last Ty.int))))) (Ty.last Ty.str)) [(Ty.list (Ty.tup (Ty.cons Ty.str (Ty.last (Ty.vtup Ty.int))))), (Ty.list Ty.str), Ty.int, Ty.str, (Ty.vtup Ty.int), Ty.int, (Ty.tup (Ty.cons Ty.str (Ty.cons (Ty.vtup Ty.str) (Ty.last Ty.int))))] b_chains_from)
theorem m_chains_from_eq (d : den (Ty.cons (Ty.list (Ty.tup (Ty.cons Ty.str (Ty.cons (Ty.vtup Ty.str) (Ty.last Ty.int))))) (Ty.last Ty.str))) : m_chains_from d = runG (Ty.cons (Ty.list (Ty.tup (Ty.cons Ty.str (Ty.cons (Ty.vtup Ty.str) (Ty.last Ty.int))))) (Ty.last Ty.str)) [(Ty.list (Ty.tup (Ty.cons Ty.str (Ty.last (Ty.vtup Ty.int))))), (Ty.list Ty.str), Ty.int, Ty.str, (Ty.vtup Ty.int), Ty.int, (Ty.tup (Ty.cons Ty.str (Ty.cons (Ty.vtup Ty.str) (Ty.last Ty.int))))] b_chains_from d := congrFun (hide_eq _) d
theorem m_chains_from_at (p0 : den (Ty.list (Ty.tup (Ty.cons Ty.str (Ty.cons (Ty.vtup Ty.str) (Ty.last Ty.int)))))) (p1 : den Ty.str) : m_chains_from (p0, p1) = endOf (b_chains_from ((some p0, some p1, none, none, none, none, none, none, none, ()) : Gam g_chains_from)) := by
  rw [m_chains_from_eq]
  rfl
set_option maxHeartbeats 4000000 in
theorem ok_chains_from {f : Addr} {fd : FuncData} (F : Fun K "chains_from" "chains_from" s_chains_from f fd) (T : Txt K mg) {f_is_single : Addr} {fd_is_single : FuncData} (D_is_single : Df K mg "is_single" "is_single" s_is_single P_is_single f_is_single fd_is_single) (G_is_single : FnOk K.P K.w K mg base CX0 2 f_is_single fd_is_single P_is_single (spP K (Ty.last (Ty.tup (Ty.cons Ty.str (Ty.cons (Ty.vtup Ty.str) (Ty.last Ty.int))))) .o Ty.bool m_is_single)) :
    FnOk K.P K.w K mg base CX0 3 f fd P_chains_from (spP K (Ty.cons (Ty.list (Ty.tup (Ty.cons Ty.str (Ty.cons (Ty.vtup Ty.str) (Ty.last Ty.int))))) (Ty.last Ty.str)) .o (Ty.list (Ty.tup (Ty.cons Ty.str (Ty.last (Ty.vtup Ty.int))))) m_chains_from) := by
  have S := sc_chains_from
  refine fn_ok (F := b_chains_from) [(Ty.list (Ty.tup (Ty.cons Ty.str (Ty.last (Ty.vtup Ty.int))))), (Ty.list Ty.str), Ty.int, Ty.str, (Ty.vtup Ty.int), Ty.int, (Ty.tup (Ty.cons Ty.str (Ty.cons (Ty.vtup Ty.str) (Ty.last Ty.int))))] M_chains_from F S rfl rfl rfl m_chains_from_eq (fun cdv A outer s H E hr => ?_)
  refine ⟨_, (pss_cons (ps_set (i := 2) S.nd rfl (Or.inl rfl) (pe_lst (pa_cons (pe_tup (pa_cons (pv 1) (pa_cons (pe_tup pa_nil) pa_nil))) pa_nil)))
  (pss_cons (ps_set (i := 3) S.nd rfl (Or.inl rfl) (pe_lst (pa_cons (pv 1) pa_nil)))
  (pss_cons (ps_set (i := 4) S.nd rfl (Or.inl rfl) pe_int)
  (pss_cons (ps_while PassesOwn.never (pt_cmpR op_lt (pv 4) (pe_callB (r := VV.rLen K) call_len (by rfl) T.b_len (by decide +kernel) (pa_cons (pv 2) pa_nil)) (nomark _)) (pss_cons (ps_asg (pe_ix (r := rIxL K) ix_list (pv 2) (pv 4) (fun _ _ => rfl)) (pg_tupK (n := 2) K rfl rfl (pgs_cons (pg_name (i := 5) S.nd rfl (Or.inl rfl)) (pgs_cons (pg_name (i := 6) S.nd rfl (Or.inl rfl)) pgs_nil))))
  (pss_cons (ps_for PassesOwn.never rfl (pi_enum rfl T.b_enumerate (pa_cons (pv 0) pa_nil)) (pg_tupK (n := 2) K rfl rfl (pgs_cons (pg_name (i := 7) S.nd rfl (Or.inl rfl)) (pgs_cons (pg_name (i := 8) S.nd rfl (Or.inl rfl)) pgs_nil))) (pss_one (ps_if (PW.pt (pw_and (pt_cmpR op_eq (pe_ix (r := rIxT K) ix_tup (pv 8) pe_int (fun _ _ => rfl)) (pv 5) (nomark _)) (pw_and (pt_val (pe_call G_is_single (hr.mono (by decide)) rfl D_is_single.gl D_is_single.fn.kp D_is_single.bi .nil pass0 (pa_cons (pv 8) pa_nil))) (pw_and1 (pt_cmpR (r := rNotInD K) (op_notInD (hu65 hr)) (pe_ix (r := rIxT K) ix_tup (pe_ix (r := rIxT K) ix_tup (pv 8) pe_int (fun _ _ => rfl)) pe_int (fun _ _ => rfl)) (pv 3) (by rfl)))))) (pss_cons (ps_expr (pe_bm PySem.F.plainAttrs_list PySem.F.slot_list_append PySem.F.type_list_append mt_append (pv 3) (pa_cons (pe_ix (r := rIxT K) ix_tup (pe_ix (r := rIxT K) ix_tup (pv 8) pe_int (fun _ _ => rfl)) pe_int (fun _ _ => rfl)) pa_nil)))
  (pss_one (ps_expr (pe_bm PySem.F.plainAttrs_list PySem.F.slot_list_append PySem.F.type_list_append mt_append (pv 2) (pa_cons (pe_tup (pa_cons (pe_ix (r := rIxT K) ix_tup (pe_ix (r := rIxT K) ix_tup (pv 8) pe_int (fun _ _ => rfl)) pe_int (fun _ _ => rfl)) (pa_cons (pe_op (r := rCatA K) op_catA (pv 6) (pe_tup (pa_cons (pv 7) pa_nil))) pa_nil))) pa_nil))))) pss_nil)))
  (pss_one (ps_aug (i := 4) S.nd rfl (.inl rfl) pe_int ip_add)))))
  (pss_one (ps_ret (pv 2))))))), ?_⟩
  exact (rs_seq (rs_set (ms := M_chains_from) (m := .o) (v_chains_from_found) (rp_list (t := (Ty.tup (Ty.cons Ty.str (Ty.last (Ty.vtup Ty.int))))) (rl_cons (rp_tup (m := .o) (ra_cons (rp_frz .o (rp_varw (ms := M_chains_from) (v_chains_from_name))) (ra_one (rp_vtup (m := .o) (t := Ty.int) rl_nil)))) rl_nil)))
  (rs_seq (rs_set (ms := M_chains_from) (m := .o) (v_chains_from_known) (rp_list (t := Ty.str) (rl_cons (rp_frz .o (rp_varw (ms := M_chains_from) (v_chains_from_name))) rl_nil)))
  (rs_seq (rs_set (ms := M_chains_from) (m := .w) (v_chains_from_at) rp_int)
  (rs_seq (rs_hide (rs_while [true, false, true, true, true, false, false, false, false] (rt_test (rp_op (m := .b) (m1 := .b) (m2 := .b) v_lt (rp_frz .b (rp_varw (ms := M_chains_from) (v_chains_from_at))) (rp_lenL (m' := .b) (rp_var (ms := M_chains_from) (v_chains_from_found))))) (rs_seq (rs_asg (w := false) (t := (Ty.tup (Ty.cons Ty.str (Ty.last (Ty.vtup Ty.int))))) (rp_frz .l (rp_op (m1 := .b) (m2 := .b) (v_ixL (t := (Ty.tup (Ty.cons Ty.str (Ty.last (Ty.vtup Ty.int)))))) (rp_var (ms := M_chains_from) (v_chains_from_found)) (rp_frz .b (rp_varw (ms := M_chains_from) (v_chains_from_at))))) (rg_tup (rgs_cons (rg_name (ms := M_chains_from) (v_chains_from_here)) (rgs_one (rg_name (ms := M_chains_from) (v_chains_from_chain))))))
  (rs_seq (rs_hide (rs_for (w := true) (t := (Ty.tup (Ty.cons Ty.int (Ty.last (Ty.tup (Ty.cons Ty.str (Ty.cons (Ty.vtup Ty.str) (Ty.last Ty.int)))))))) [true, false, true, true, true, true, true, false, false] (ri_enum (w := true) (t := (Ty.tup (Ty.cons Ty.str (Ty.cons (Ty.vtup Ty.str) (Ty.last Ty.int))))) (rp_varw (ms := M_chains_from) (v_chains_from_grammar))) (rg_tup (rgs_cons (rg_name (ms := M_chains_from) (v_chains_from_number)) (rgs_one (rg_name (ms := M_chains_from) (v_chains_from_rule))))) (rs_if (rt_and (rt_test (rp_op (m := .b) (m1 := .b) (m2 := .b) v_eqS (rp_proj (m := .b) (b := (Ty.cons Ty.str (Ty.cons (Ty.vtup Ty.str) (Ty.last Ty.int)))) (t := Ty.str) .z 0 (rp_frz .b (rp_varw (ms := M_chains_from) (v_chains_from_rule)))) (rp_frz .b (rp_varw (ms := M_chains_from) (v_chains_from_here))))) (rt_and (rt_val (m := .b) (rp_frz .b (rp_call (mA := .b) (rm := .o) (ρ := Ty.bool) (m := m_is_single) rfl (ra_one (rp_frz .b (rp_varw (ms := M_chains_from) (v_chains_from_rule))))))) (rt_test (rp_op (m := .b) (m1 := .b) (m2 := .b) (v_notInD (t := Ty.str) (by decide)) (rp_op (m1 := .b) (m2 := .b) (v_ixV (t := Ty.str)) (rp_proj (m := .b) (b := (Ty.cons Ty.str (Ty.cons (Ty.vtup Ty.str) (Ty.last Ty.int)))) (t := (Ty.vtup Ty.str)) (.s .z) 1 (rp_frz .b (rp_varw (ms := M_chains_from) (v_chains_from_rule)))) rp_int) (rp_var (ms := M_chains_from) (v_chains_from_known)))))) (rs_seq (rs_app (ms := M_chains_from) (v_chains_from_known) (rp_frz .o (rp_op (m1 := .b) (m2 := .b) (v_ixV (t := Ty.str)) (rp_proj (m := .b) (b := (Ty.cons Ty.str (Ty.cons (Ty.vtup Ty.str) (Ty.last Ty.int)))) (t := (Ty.vtup Ty.str)) (.s .z) 1 (rp_frz .b (rp_varw (ms := M_chains_from) (v_chains_from_rule)))) rp_int)))
  (rs_app (ms := M_chains_from) (v_chains_from_found) (rp_tup (m := .o) (ra_cons (rp_frz .o (rp_op (m1 := .b) (m2 := .b) (v_ixV (t := Ty.str)) (rp_proj (m := .b) (b := (Ty.cons Ty.str (Ty.cons (Ty.vtup Ty.str) (Ty.last Ty.int)))) (t := (Ty.vtup Ty.str)) (.s .z) 1 (rp_frz .b (rp_varw (ms := M_chains_from) (v_chains_from_rule)))) rp_int)) (ra_one (rp_op (m1 := .b) (m2 := .b) (v_catT (t := Ty.int)) (rp_frz .b (rp_varw (ms := M_chains_from) (v_chains_from_chain))) (rp_frz .b (rp_vtup (m := .o) (t := Ty.int) (rl_cons (rp_frz .o (rp_varw (ms := M_chains_from) (v_chains_from_number))) rl_nil))))))))) rs_next)))
  (rs_augAdd (ms := M_chains_from) (v_chains_from_at) rp_int)))))
  (rs_retm (ms := M_chains_from) (v_chains_from_found))))))
abbrev s_Making_put : Stmt := inClass (topS 14) 1
abbrev N_Making_put : List Str := ["self", "name", "parts", "back"]
abbrev P_Making_put : List Str := ["self", "name", "parts", "back"]
theorem sc_Making_put : FnScope N_Making_put P_Making_put (defScope s_Making_put) := ⟨rfl, rfl, rfl, by decide +kernel, rfl, by decide +kernel, by decide +kernel⟩
abbrev g_Making_put : List Ty := [tyMk, Ty.str, (Ty.vtup Ty.str), Ty.any]
abbrev M_Making_put : List Md := [.r, .w, .w, .w]
abbrev v_Making_put_self : Mem g_Making_put tyMk := .z
abbrev v_Making_put_name : Mem g_Making_put Ty.str := (.s .z)
abbrev v_Making_put_parts : Mem g_Making_put (Ty.vtup Ty.str) := (.s (.s .z))
abbrev v_Making_put_back : Mem g_Making_put Ty.any := (.s (.s (.s .z)))
noncomputable def b_Making_put : Gam g_Making_put → Option (Fl (Gam g_Making_put) (den Ty.non)) :=
  (sIf (eNNin (v_Making_put_self) ((.s (.s .one)) : RIx rowMk (.own tyND)) (eV (t := Ty.str) (v_Making_put_name)) (eV (t := (Ty.vtup Ty.str)) (v_Making_put_parts))) (sSeq (sNPutM (v_Making_put_self) ((.s (.s .one)) : RIx rowMk (.own tyND)) (eV (t := Ty.str) (v_Making_put_name)) (eV (t := (Ty.vtup Ty.str)) (v_Making_put_parts)))
  (sSeq (sFApp (v_Making_put_self) (.z : RIx rowMk (.own (Ty.list (Ty.tup (Ty.cons Ty.str (Ty.cons (Ty.vtup Ty.str) (Ty.last Ty.int))))))) (eCons (eV (t := Ty.str) (v_Making_put_name)) (eCons (eV (t := (Ty.vtup Ty.str)) (v_Making_put_parts)) (eC (0 : Int)))))
  (sFApp (v_Making_put_self) ((.s .z) : RIx rowMk (.own (Ty.list Ty.any))) (eV (t := Ty.any) (v_Making_put_back))))) sNext)
noncomputable def m_Making_put : den (Ty.cons tyMk (Ty.cons Ty.str (Ty.cons (Ty.vtup Ty.str) (Ty.last Ty.any)))) → Option (den Ty.non × den tyMk) := hide (runIO (.z : RIx (Ty.cons tyMk (Ty.cons Ty.str (Ty.cons (Ty.vtup Ty.str) (Ty.last Ty.any)))) tyMk) [] (some ()) b_Making_put)
theorem m_Making_put_eq (d : den (Ty.cons tyMk (Ty.cons Ty.str (Ty.cons (Ty.vtup Ty.str) (Ty.last Ty.any))))) : m_Making_put d = runIO (.z : RIx (Ty.cons tyMk (Ty.cons Ty.str (Ty.cons (Ty.vtup Ty.str) (Ty.last Ty.any)))) tyMk) [] (some ()) b_Making_put d := congrFun (hide_eq _) d
theorem m_Making_put_at (p0 : den tyMk) (p1 : den Ty.str) (p2 : den (Ty.vtup Ty.str)) (p3 : den Ty.any) : m_Making_put (p0, p1, p2, p3) = endIO (v_Making_put_self) (some ()) (b_Making_put ((some p0, some p1, some p2, some p3, ()) : Gam g_Making_put)) := by
  rw [m_Making_put_eq]
  rfl
set_option maxHeartbeats 4000000 in
theorem ok_Making_put {f : Addr} {fd : FuncData} (F : Fun K "put" "Making.put" s_Making_put f fd) (T : Txt K mg) :
    FnOk K.P K.w K mg base CX0 1 f fd P_Making_put (spIO K (Ty.cons tyMk (Ty.cons Ty.str (Ty.cons (Ty.vtup Ty.str) (Ty.last Ty.any)))) (.z : RIx (Ty.cons tyMk (Ty.cons Ty.str (Ty.cons (Ty.vtup Ty.str) (Ty.last Ty.any)))) tyMk) .o Ty.non m_Making_put) := by
  have S := sc_Making_put
  refine fn_okIO (ρ := Ty.non) (F := b_Making_put) (.z : RIx (Ty.cons tyMk (Ty.cons Ty.str (Ty.cons (Ty.vtup Ty.str) (Ty.last Ty.any)))) tyMk) [] M_Making_put (some ()) F S rfl rfl rfl m_Making_put_eq (fun z hz H Sx Lr => by cases hz; exact ⟨rfl, rfl⟩) (fun cdv A outer s H E hr => ?_)
  refine ⟨_, (pss_one (ps_if (pt_cmpR (r := rNotInN K.w) (op_nnin hr.units) (pe_tup (pa_cons (pv 1) (pa_cons (pv 2) pa_nil))) (pe_fld (pv 0) rfl) (by rfl)) (pss_cons (ps_nput hr.units (pe_fld (pv 0) rfl) (pe_tup (pa_cons (pv 1) (pa_cons (pv 2) pa_nil))) pe_bl rfl)
  (pss_cons (ps_expr (pe_bm PySem.F.plainAttrs_list PySem.F.slot_list_append PySem.F.type_list_append mt_append (pe_fld (pv 0) rfl) (pa_cons (pe_tup (pa_cons (pv 1) (pa_cons (pv 2) (pa_cons pe_int pa_nil)))) pa_nil)))
  (pss_one (ps_expr (pe_bm PySem.F.plainAttrs_list PySem.F.slot_list_append PySem.F.type_list_append mt_append (pe_fld (pv 0) rfl) (pa_cons (pv 3) pa_nil)))))) pss_nil)), ?_⟩
  exact (rs_if (rt_test (rp_nnin (ms := M_Making_put) (m := .b) (m' := .b) (m'' := .b) (v_Making_put_self) ((.s (.s .one)) : RIx rowMk (.own tyND)) T.k_Making.choose_spec.ci T.k_Making.choose_spec.n_known (rp_frz .b (rp_varw (ms := M_Making_put) (v_Making_put_name))) (rp_frz .b (rp_varw (ms := M_Making_put) (v_Making_put_parts))) (hk := by decide +kernel))) (rs_seq (rs_nput (ms := M_Making_put) (m := .b) (m' := .b) (v_Making_put_self) ((.s (.s .one)) : RIx rowMk (.own tyND)) T.k_Making.choose_spec.ci T.k_Making.choose_spec.n_known (rp_frz .b (rp_varw (ms := M_Making_put) (v_Making_put_name))) (rp_frz .b (rp_varw (ms := M_Making_put) (v_Making_put_parts))) (hk := by decide +kernel))
  (rs_seq (rs_fapp (ms := M_Making_put) (m := .b) (v_Making_put_self) (.z : RIx rowMk (.own (Ty.list (Ty.tup (Ty.cons Ty.str (Ty.cons (Ty.vtup Ty.str) (Ty.last Ty.int))))))) T.k_Making.choose_spec.ci T.k_Making.choose_spec.n_rules (rp_frz .b (rp_tup (m := .o) (ra_cons (rp_frz .o (rp_varw (ms := M_Making_put) (v_Making_put_name))) (ra_cons (rp_frz .o (rp_varw (ms := M_Making_put) (v_Making_put_parts))) (ra_one rp_int))))) (hk := by decide +kernel))
  (rs_fapp (ms := M_Making_put) (m := .b) (v_Making_put_self) ((.s .z) : RIx rowMk (.own (Ty.list Ty.any))) T.k_Making.choose_spec.ci T.k_Making.choose_spec.n_backs (rp_frz .b (rp_varw (ms := M_Making_put) (v_Making_put_back))) (hk := by decide +kernel)))) rs_next)
abbrev s_kept : Stmt := topS 16
abbrev N_kept : List Str := ["parts", "k"]
abbrev P_kept : List Str := ["parts"]
theorem sc_kept : FnScope N_kept P_kept (defScope s_kept) := ⟨rfl, rfl, rfl, by decide +kernel, rfl, by decide +kernel, by decide +kernel⟩
abbrev g_kept : List Ty := [(Ty.vtup Ty.str), Ty.int]
abbrev M_kept : List Md := [.w, .w]
abbrev v_kept_parts : Mem g_kept (Ty.vtup Ty.str) := .z
abbrev v_kept_k : Mem g_kept Ty.int := (.s .z)
noncomputable def lc_kept_1 : Gam g_kept → Option (List (den Ty.any)) := hide (eLc (e1 fRng1 (e1 fLen (eV (t := (Ty.vtup Ty.str)) (v_kept_parts)))) (bName (t := Ty.int) (v_kept_k)) (Gam.mask [true, false]) eYes (e1 (fun d => some ((emb (Ty.tup (Ty.cons Ty.str (Ty.last Ty.int)))).1 d)) (eCons (eC (Str.ofString "at")) (eV (t := Ty.int) (v_kept_k)))))
theorem lc_kept_1_eq : lc_kept_1 = (eLc (e1 fRng1 (e1 fLen (eV (t := (Ty.vtup Ty.str)) (v_kept_parts)))) (bName (t := Ty.int) (v_kept_k)) (Gam.mask [true, false]) eYes (e1 (fun d => some ((emb (Ty.tup (Ty.cons Ty.str (Ty.last Ty.int)))).1 d)) (eCons (eC (Str.ofString "at")) (eV (t := Ty.int) (v_kept_k))))) := hide_eq _
noncomputable def b_kept : Gam g_kept → Option (Fl (Gam g_kept) (den (Ty.vtup Ty.any))) :=
  (sRet lc_kept_1)
noncomputable def m_kept : den (Ty.last (Ty.vtup Ty.str)) → Option (den (Ty.vtup Ty.any)) := hide (runG (Ty.last (Ty.vtup Ty.str)) [Ty.int] b_kept)
theorem m_kept_eq (d : den (Ty.last (Ty.vtup Ty.str))) : m_kept d = runG (Ty.last (Ty.vtup Ty.str)) [Ty.int] b_kept d := congrFun (hide_eq _) d
theorem m_kept_at (p0 : den (Ty.vtup Ty.str)) : m_kept (p0) = endOf (b_kept ((some p0, none, ()) : Gam g_kept)) := by
  rw [m_kept_eq]
  rfl
set_option maxHeartbeats 4000000 in
theorem ok_kept {f : Addr} {fd : FuncData} (F : Fun K "kept" "kept" s_kept f fd) (T : Txt K mg) :
    FnOk K.P K.w K mg base CX0 1 f fd P_kept (spP K (Ty.last (Ty.vtup Ty.str)) .o (Ty.vtup Ty.any) m_kept) := by
  have S := sc_kept
  refine fn_ok (F := b_kept) [Ty.int] M_kept F S rfl rfl rfl m_kept_eq (fun cdv A outer s H E hr => ?_)
  refine ⟨_, (pss_one (ps_ret (pe_callTy (r := rTupOf K) call_tuple_of (by rfl) T.b_tuple (by decide +kernel) (pa_cons (pe_lc (own := [("k", 1)]) rfl S.nd (pi_range1 rfl T.b_range (pa_cons (pe_callB (r := VV.rLen K) call_len (by rfl) T.b_len (by decide +kernel) (pa_cons (pv 0) pa_nil)) pa_nil)) (blkOk_by (N := N_kept) (sc := defScope s_kept) (by decide +kernel)) (fun _ _ _ _ _ => (pg_name (i := 1) S.nd rfl (Or.inl rfl))) (fun _ _ _ _ _ => pts_nil) (fun _ _ _ _ _ => (pe_tup (pa_cons pe_str (pa_cons (pv 1) pa_nil))))) pa_nil)))), ?_⟩
  exact (rs_ret (rm := .o) (ρ := (Ty.vtup Ty.any)) (rp_tupL (m' := .b) (t := Ty.any) (rp_le (rp_hide (rp_lc (w := false) (m := .o) (t := Ty.int) (u := Ty.any) [true, false] [1] (ris_of (ri_rng1 (w := false) (m := .b) (ra_one (rp_lenV (m' := .b) (rp_frz .b (rp_varw (ms := M_kept) (v_kept_parts))))))) (rg_name (ms := M_kept) (v_kept_k)) gw_name rt_yes (rp_any (t := (Ty.tup (Ty.cons Ty.str (Ty.last Ty.int)))) (m1 := .b) (rp_frz .b (rp_tup (m := .o) (ra_cons (rp_str) (ra_one (rp_frz .o (rp_varw (ms := M_kept) (v_kept_k)))))))))))))
abbrev s_no_single : Stmt := topS 22
abbrev N_no_single : List Str := ["grammar", "first", "name", "parts", "cost", "rule", "making", "there", "chain", "number"]
abbrev P_no_single : List Str := ["grammar"]
theorem sc_no_single : FnScope N_no_single P_no_single (defScope s_no_single) := ⟨rfl, rfl, rfl, by decide +kernel, rfl, by decide +kernel, by decide +kernel⟩
abbrev g_no_single : List Ty := [(Ty.list (Ty.tup (Ty.cons Ty.str (Ty.cons (Ty.vtup Ty.str) (Ty.last Ty.int))))), Ty.str, Ty.str, (Ty.vtup Ty.str), Ty.int, (Ty.tup (Ty.cons Ty.str (Ty.cons (Ty.vtup Ty.str) (Ty.last Ty.int)))), tyMk, Ty.str, (Ty.vtup Ty.int), Ty.int]
abbrev M_no_single : List Md := [.w, .w, .w, .w, .w, .w, .o, .w, .w, .w]
abbrev v_no_single_grammar : Mem g_no_single (Ty.list (Ty.tup (Ty.cons Ty.str (Ty.cons (Ty.vtup Ty.str) (Ty.last Ty.int))))) := .z
abbrev v_no_single_first : Mem g_no_single Ty.str := (.s .z)
abbrev v_no_single_name : Mem g_no_single Ty.str := (.s (.s .z))
abbrev v_no_single_parts : Mem g_no_single (Ty.vtup Ty.str) := (.s (.s (.s .z)))
abbrev v_no_single_cost : Mem g_no_single Ty.int := (.s (.s (.s (.s .z))))
abbrev v_no_single_rule : Mem g_no_single (Ty.tup (Ty.cons Ty.str (Ty.cons (Ty.vtup Ty.str) (Ty.last Ty.int)))) := (.s (.s (.s (.s (.s .z)))))
abbrev v_no_single_making : Mem g_no_single tyMk := (.s (.s (.s (.s (.s (.s .z))))))
abbrev v_no_single_there : Mem g_no_single Ty.str := (.s (.s (.s (.s (.s (.s (.s .z)))))))
abbrev v_no_single_chain : Mem g_no_single (Ty.vtup Ty.int) := (.s (.s (.s (.s (.s (.s (.s (.s .z))))))))
abbrev v_no_single_number : Mem g_no_single Ty.int := (.s (.s (.s (.s (.s (.s (.s (.s (.s .z)))))))))
noncomputable def lc_no_single_1 : Gam g_no_single → Option (List (den Ty.bool)) := hide (eLc (eV (t := (Ty.list (Ty.tup (Ty.cons Ty.str (Ty.cons (Ty.vtup Ty.str) (Ty.last Ty.int)))))) (v_no_single_grammar)) (bName (t := (Ty.tup (Ty.cons Ty.str (Ty.cons (Ty.vtup Ty.str) (Ty.last Ty.int))))) (v_no_single_rule)) (Gam.mask [true, true, true, true, true, false, true, true, true, true]) eYes (e2 (fInD Ty.str) (eV (t := Ty.str) (v_no_single_first)) (eProj (b := (Ty.cons Ty.str (Ty.cons (Ty.vtup Ty.str) (Ty.last Ty.int)))) (t := (Ty.vtup Ty.str)) (.s .z) (eV (t := (Ty.tup (Ty.cons Ty.str (Ty.cons (Ty.vtup Ty.str) (Ty.last Ty.int))))) (v_no_single_rule)))))
theorem lc_no_single_1_eq : lc_no_single_1 = (eLc (eV (t := (Ty.list (Ty.tup (Ty.cons Ty.str (Ty.cons (Ty.vtup Ty.str) (Ty.last Ty.int)))))) (v_no_single_grammar)) (bName (t := (Ty.tup (Ty.cons Ty.str (Ty.cons (Ty.vtup Ty.str) (Ty.last Ty.int))))) (v_no_single_rule)) (Gam.mask [true, true, true, true, true, false, true, true, true, true]) eYes (e2 (fInD Ty.str) (eV (t := Ty.str) (v_no_single_first)) (eProj (b := (Ty.cons Ty.str (Ty.cons (Ty.vtup Ty.str) (Ty.last Ty.int)))) (t := (Ty.vtup Ty.str)) (.s .z) (eV (t := (Ty.tup (Ty.cons Ty.str (Ty.cons (Ty.vtup Ty.str) (Ty.last Ty.int))))) (v_no_single_rule))))) := hide_eq _
abbrev st_no_single_4 (x0_grammar : den (Ty.list (Ty.tup (Ty.cons Ty.str (Ty.cons (Ty.vtup Ty.str) (Ty.last Ty.int)))))) (x1_first : den Ty.str) (x2_name : den Ty.str) (x3_making : den tyMk) (x4_there : den Ty.str) (x5_chain : den (Ty.vtup Ty.int)) : Gam g_no_single := (some x0_grammar, some x1_first, some x2_name, none, none, none, some x3_making, some x4_there, some x5_chain, none, ())
noncomputable def lb_no_single_4 : Gam g_no_single → Option (Fl (Gam g_no_single) (Str × Option (den (Ty.tup (Ty.cons (Ty.own (Ty.list (Ty.tup (Ty.cons Ty.str (Ty.cons (Ty.vtup Ty.str) (Ty.last Ty.int)))))) (Ty.last (Ty.own (Ty.list Ty.any)))))))) :=
  (sIf (eAnd (e2 fEqS (eProj (b := (Ty.cons Ty.str (Ty.cons (Ty.vtup Ty.str) (Ty.last Ty.int)))) (t := Ty.str) .z (eV (t := (Ty.tup (Ty.cons Ty.str (Ty.cons (Ty.vtup Ty.str) (Ty.last Ty.int))))) (v_no_single_rule))) (eV (t := Ty.str) (v_no_single_there))) (eNot (e1 m_is_single (eV (t := (Ty.tup (Ty.cons Ty.str (Ty.cons (Ty.vtup Ty.str) (Ty.last Ty.int))))) (v_no_single_rule))))) (sAsgE (eIO (b := (Ty.cons tyMk (Ty.cons Ty.str (Ty.cons (Ty.vtup Ty.str) (Ty.last Ty.any))))) (tio := tyMk) (v_no_single_making) m_Making_put (eCons (eV (t := tyMk) (v_no_single_making)) (eCons (eV (t := Ty.str) (v_no_single_name)) (eCons (eProj (b := (Ty.cons Ty.str (Ty.cons (Ty.vtup Ty.str) (Ty.last Ty.int)))) (t := (Ty.vtup Ty.str)) (.s .z) (eV (t := (Ty.tup (Ty.cons Ty.str (Ty.cons (Ty.vtup Ty.str) (Ty.last Ty.int))))) (v_no_single_rule))) (e1 (fun d => some ((emb (Ty.tup (Ty.cons (Ty.vtup Ty.int) (Ty.last (Ty.vtup Ty.any))))).1 d)) (eCons (e2 fCatL (eV (t := (Ty.vtup Ty.int)) (v_no_single_chain)) (e1 fSmall (eSnoc (eV (t := Ty.int) (v_no_single_number)) eNil))) (e1 m_kept (eProj (b := (Ty.cons Ty.str (Ty.cons (Ty.vtup Ty.str) (Ty.last Ty.int)))) (t := (Ty.vtup Ty.str)) (.s .z) (eV (t := (Ty.tup (Ty.cons Ty.str (Ty.cons (Ty.vtup Ty.str) (Ty.last Ty.int))))) (v_no_single_rule)))))))))) fun _ Γ => Γ) sNext)
noncomputable def lp_no_single_4 : Gam g_no_single → Option (Fl (Gam g_no_single) (Str × Option (den (Ty.tup (Ty.cons (Ty.own (Ty.list (Ty.tup (Ty.cons Ty.str (Ty.cons (Ty.vtup Ty.str) (Ty.last Ty.int)))))) (Ty.last (Ty.own (Ty.list Ty.any)))))))) := hide (sFor (e1 fEnum (eV (t := (Ty.list (Ty.tup (Ty.cons Ty.str (Ty.cons (Ty.vtup Ty.str) (Ty.last Ty.int)))))) (v_no_single_grammar))) (bCons (bName (t := Ty.int) (v_no_single_number)) (bName (t := (Ty.tup (Ty.cons Ty.str (Ty.cons (Ty.vtup Ty.str) (Ty.last Ty.int))))) (v_no_single_rule))) (Gam.mask [true, true, true, false, false, false, true, true, true, false]) lb_no_single_4)
theorem lp_no_single_4_eq : lp_no_single_4 = (sFor (e1 fEnum (eV (t := (Ty.list (Ty.tup (Ty.cons Ty.str (Ty.cons (Ty.vtup Ty.str) (Ty.last Ty.int)))))) (v_no_single_grammar))) (bCons (bName (t := Ty.int) (v_no_single_number)) (bName (t := (Ty.tup (Ty.cons Ty.str (Ty.cons (Ty.vtup Ty.str) (Ty.last Ty.int))))) (v_no_single_rule))) (Gam.mask [true, true, true, false, false, false, true, true, true, false]) lb_no_single_4) := hide_eq _
abbrev st_no_single_3 (x0_grammar : den (Ty.list (Ty.tup (Ty.cons Ty.str (Ty.cons (Ty.vtup Ty.str) (Ty.last Ty.int)))))) (x1_first : den Ty.str) (x2_name : den Ty.str) (x3_making : den tyMk) : Gam g_no_single := (some x0_grammar, some x1_first, some x2_name, none, none, none, some x3_making, none, none, none, ())
noncomputable def lb_no_single_3 : Gam g_no_single → Option (Fl (Gam g_no_single) (Str × Option (den (Ty.tup (Ty.cons (Ty.own (Ty.list (Ty.tup (Ty.cons Ty.str (Ty.cons (Ty.vtup Ty.str) (Ty.last Ty.int)))))) (Ty.last (Ty.own (Ty.list Ty.any)))))))) :=
  lp_no_single_4
noncomputable def lp_no_single_3 : Gam g_no_single → Option (Fl (Gam g_no_single) (Str × Option (den (Ty.tup (Ty.cons (Ty.own (Ty.list (Ty.tup (Ty.cons Ty.str (Ty.cons (Ty.vtup Ty.str) (Ty.last Ty.int)))))) (Ty.last (Ty.own (Ty.list Ty.any)))))))) := hide (sFor (e1 m_chains_from (eCons (eV (t := (Ty.list (Ty.tup (Ty.cons Ty.str (Ty.cons (Ty.vtup Ty.str) (Ty.last Ty.int)))))) (v_no_single_grammar)) (eV (t := Ty.str) (v_no_single_name)))) (bCons (bName (t := Ty.str) (v_no_single_there)) (bName (t := (Ty.vtup Ty.int)) (v_no_single_chain))) (Gam.mask [true, true, true, false, false, false, true, false, false, false]) lb_no_single_3)
theorem lp_no_single_3_eq : lp_no_single_3 = (sFor (e1 m_chains_from (eCons (eV (t := (Ty.list (Ty.tup (Ty.cons Ty.str (Ty.cons (Ty.vtup Ty.str) (Ty.last Ty.int)))))) (v_no_single_grammar)) (eV (t := Ty.str) (v_no_single_name)))) (bCons (bName (t := Ty.str) (v_no_single_there)) (bName (t := (Ty.vtup Ty.int)) (v_no_single_chain))) (Gam.mask [true, true, true, false, false, false, true, false, false, false]) lb_no_single_3) := hide_eq _
abbrev st_no_single_2 (x0_grammar : den (Ty.list (Ty.tup (Ty.cons Ty.str (Ty.cons (Ty.vtup Ty.str) (Ty.last Ty.int)))))) (x1_first : den Ty.str) (x2_making : den tyMk) : Gam g_no_single := (some x0_grammar, some x1_first, none, none, none, none, some x2_making, none, none, none, ())
noncomputable def lb_no_single_2 : Gam g_no_single → Option (Fl (Gam g_no_single) (Str × Option (den (Ty.tup (Ty.cons (Ty.own (Ty.list (Ty.tup (Ty.cons Ty.str (Ty.cons (Ty.vtup Ty.str) (Ty.last Ty.int)))))) (Ty.last (Ty.own (Ty.list Ty.any)))))))) :=
  lp_no_single_3
noncomputable def lp_no_single_2 : Gam g_no_single → Option (Fl (Gam g_no_single) (Str × Option (den (Ty.tup (Ty.cons (Ty.own (Ty.list (Ty.tup (Ty.cons Ty.str (Ty.cons (Ty.vtup Ty.str) (Ty.last Ty.int)))))) (Ty.last (Ty.own (Ty.list Ty.any)))))))) := hide (sFor (e1 m_names (eV (t := (Ty.list (Ty.tup (Ty.cons Ty.str (Ty.cons (Ty.vtup Ty.str) (Ty.last Ty.int)))))) (v_no_single_grammar))) (bName (t := Ty.str) (v_no_single_name)) (Gam.mask [true, true, false, false, false, false, true, false, false, false]) lb_no_single_2)
theorem lp_no_single_2_eq : lp_no_single_2 = (sFor (e1 m_names (eV (t := (Ty.list (Ty.tup (Ty.cons Ty.str (Ty.cons (Ty.vtup Ty.str) (Ty.last Ty.int)))))) (v_no_single_grammar))) (bName (t := Ty.str) (v_no_single_name)) (Gam.mask [true, true, false, false, false, false, true, false, false, false]) lb_no_single_2) := hide_eq _
abbrev st_no_single_1 (x0_grammar : den (Ty.list (Ty.tup (Ty.cons Ty.str (Ty.cons (Ty.vtup Ty.str) (Ty.last Ty.int)))))) (x1_first : den Ty.str) : Gam g_no_single := (some x0_grammar, some x1_first, none, none, none, none, none, none, none, none, ())
noncomputable def lb_no_single_1 : Gam g_no_single → Option (Fl (Gam g_no_single) (Str × Option (den (Ty.tup (Ty.cons (Ty.own (Ty.list (Ty.tup (Ty.cons Ty.str (Ty.cons (Ty.vtup Ty.str) (Ty.last Ty.int)))))) (Ty.last (Ty.own (Ty.list Ty.any)))))))) :=
  (sIf (eAnd (e2 (fEqD (Ty.vtup Ty.str)) (eV (t := (Ty.vtup Ty.str)) (v_no_single_parts)) (e1 fSmall eNil)) (eOr (e2 fNeS (eV (t := Ty.str) (v_no_single_name)) (eV (t := Ty.str) (v_no_single_first))) (e1 fAny lc_no_single_1))) (sRaise (Str.ofString "NoGrammar")) sNext)
noncomputable def lp_no_single_1 : Gam g_no_single → Option (Fl (Gam g_no_single) (Str × Option (den (Ty.tup (Ty.cons (Ty.own (Ty.list (Ty.tup (Ty.cons Ty.str (Ty.cons (Ty.vtup Ty.str) (Ty.last Ty.int)))))) (Ty.last (Ty.own (Ty.list Ty.any)))))))) := hide (sFor (eV (t := (Ty.list (Ty.tup (Ty.cons Ty.str (Ty.cons (Ty.vtup Ty.str) (Ty.last Ty.int)))))) (v_no_single_grammar)) (bCons (bName (t := Ty.str) (v_no_single_name)) (bCons (bName (t := (Ty.vtup Ty.str)) (v_no_single_parts)) (bName (t := Ty.int) (v_no_single_cost)))) (Gam.mask [true, true, false, false, false, false, false, false, false, false]) lb_no_single_1)
theorem lp_no_single_1_eq : lp_no_single_1 = (sFor (eV (t := (Ty.list (Ty.tup (Ty.cons Ty.str (Ty.cons (Ty.vtup Ty.str) (Ty.last Ty.int)))))) (v_no_single_grammar)) (bCons (bName (t := Ty.str) (v_no_single_name)) (bCons (bName (t := (Ty.vtup Ty.str)) (v_no_single_parts)) (bName (t := Ty.int) (v_no_single_cost)))) (Gam.mask [true, true, false, false, false, false, false, false, false, false]) lb_no_single_1) := hide_eq _
noncomputable def b_no_single : Gam g_no_single → Option (Fl (Gam g_no_single) (Str × Option (den (Ty.tup (Ty.cons (Ty.own (Ty.list (Ty.tup (Ty.cons Ty.str (Ty.cons (Ty.vtup Ty.str) (Ty.last Ty.int)))))) (Ty.last (Ty.own (Ty.list Ty.any)))))))) :=
  (sSeq (sSet (v_no_single_first) (eProj (b := (Ty.cons Ty.str (Ty.cons (Ty.vtup Ty.str) (Ty.last Ty.int)))) (t := Ty.str) .z (e2 atI (eV (t := (Ty.list (Ty.tup (Ty.cons Ty.str (Ty.cons (Ty.vtup Ty.str) (Ty.last Ty.int)))))) (v_no_single_grammar)) (eC (0 : Int)))))
  (sSeq lp_no_single_1
  (sSeq (sSet (v_no_single_making) eMk)
  (sSeq lp_no_single_2
  (sLift (sRetE (eIO (b := (Ty.cons tyMk (Ty.last Ty.str))) (tio := tyMk) (v_no_single_making) m_Making_told (eCons (eV (t := tyMk) (v_no_single_making)) (eV (t := Ty.str) (v_no_single_first))))))))))
noncomputable def m_no_single : den (Ty.last (Ty.list (Ty.tup (Ty.cons Ty.str (Ty.cons (Ty.vtup Ty.str) (Ty.last Ty.int)))))) → Option (Str × Option (den (Ty.tup (Ty.cons (Ty.own (Ty.list (Ty.tup (Ty.cons Ty.str (Ty.cons (Ty.vtup Ty.str) (Ty.last Ty.int)))))) (Ty.last (Ty.own (Ty.list Ty.any))))))) := hide (runG (Ty.last (Ty.list (Ty.tup (Ty.cons Ty.str (Ty.cons (Ty.vtup Ty.str) (Ty.last Ty.int)))))) [Ty.str, Ty.str, (Ty.vtup Ty.str), Ty.int, (Ty.tup (Ty.cons Ty.str (Ty.cons (Ty.vtup Ty.str) (Ty.last Ty.int)))), tyMk, Ty.str, (Ty.vtup Ty.int), Ty.int] b_no_single)
theorem m_no_single_eq (d : den (Ty.last (Ty.list (Ty.tup (Ty.cons Ty.str (Ty.cons (Ty.vtup Ty.str) (Ty.last Ty.int))))))) : m_no_single d = runG (Ty.last (Ty.list (Ty.tup (Ty.cons Ty.str (Ty.cons (Ty.vtup Ty.str) (Ty.last Ty.int)))))) [Ty.str, Ty.str, (Ty.vtup Ty.str), Ty.int, (Ty.tup (Ty.cons Ty.str (Ty.cons (Ty.vtup Ty.str) (Ty.last Ty.int)))), tyMk, Ty.str, (Ty.vtup Ty.int), Ty.int] b_no_single d := congrFun (hide_eq _) d
theorem m_no_single_at (p0 : den (Ty.list (Ty.tup (Ty.cons Ty.str (Ty.cons (Ty.vtup Ty.str) (Ty.last Ty.int)))))) : m_no_single (p0) = endOf (b_no_single ((some p0, none, none, none, none, none, none, none, none, none, ()) : Gam g_no_single)) := by
  rw [m_no_single_eq]
  rfl
set_option maxHeartbeats 4000000 in
theorem ok_no_single {f : Addr} {fd : FuncData} (F : Fun K "no_single" "no_single" s_no_single f fd) (T : Txt K mg) {C_Making___init__ : Addr} {f_Making___init__ : Addr} {fd_Making___init__ : FuncData} (D_Making___init__ : DfI K mg "__init__" "Making.__init__" s_Making___init__ P_Making___init__ C_Making___init__ f_Making___init__ fd_Making___init__) (G_Making___init__ : FnOk K.P K.w K mg base CX0 1 f_Making___init__ fd_Making___init__ P_Making___init__ (spMk C_Making___init__)) {f_names : Addr} {fd_names : FuncData} (D_names : Df K mg "names" "names" s_names P_names f_names fd_names) (G_names : FnOk K.P K.w K mg base CX0 1 f_names fd_names P_names (spP K (Ty.last (Ty.list (Ty.tup (Ty.cons Ty.str (Ty.cons (Ty.vtup Ty.str) (Ty.last Ty.int)))))) .o (Ty.list Ty.str) m_names)) {f_chains_from : Addr} {fd_chains_from : FuncData} (D_chains_from : Df K mg "chains_from" "chains_from" s_chains_from P_chains_from f_chains_from fd_chains_from) (G_chains_from : FnOk K.P K.w K mg base CX0 3 f_chains_from fd_chains_from P_chains_from (spP K (Ty.cons (Ty.list (Ty.tup (Ty.cons Ty.str (Ty.cons (Ty.vtup Ty.str) (Ty.last Ty.int))))) (Ty.last Ty.str)) .o (Ty.list (Ty.tup (Ty.cons Ty.str (Ty.last (Ty.vtup Ty.int))))) m_chains_from)) {f_is_single : Addr} {fd_is_single : FuncData} (D_is_single : Df K mg "is_single" "is_single" s_is_single P_is_single f_is_single fd_is_single) (G_is_single : FnOk K.P K.w K mg base CX0 2 f_is_single fd_is_single P_is_single (spP K (Ty.last (Ty.tup (Ty.cons Ty.str (Ty.cons (Ty.vtup Ty.str) (Ty.last Ty.int))))) .o Ty.bool m_is_single)) {C_Making_put : Addr} {f_Making_put : Addr} {fd_Making_put : FuncData} (D_Making_put : DfM K mg "put" "Making.put" s_Making_put P_Making_put C_Making_put f_Making_put fd_Making_put) (G_Making_put : FnOk K.P K.w K mg base CX0 1 f_Making_put fd_Making_put P_Making_put (spIO K (Ty.cons tyMk (Ty.cons Ty.str (Ty.cons (Ty.vtup Ty.str) (Ty.last Ty.any)))) (.z : RIx (Ty.cons tyMk (Ty.cons Ty.str (Ty.cons (Ty.vtup Ty.str) (Ty.last Ty.any)))) tyMk) .o Ty.non m_Making_put)) {f_kept : Addr} {fd_kept : FuncData} (D_kept : Df K mg "kept" "kept" s_kept P_kept f_kept fd_kept) (G_kept : FnOk K.P K.w K mg base CX0 1 f_kept fd_kept P_kept (spP K (Ty.last (Ty.vtup Ty.str)) .o (Ty.vtup Ty.any) m_kept)) {C_Making_told : Addr} {f_Making_told : Addr} {fd_Making_told : FuncData} (D_Making_told : DfM K mg "told" "Making.told" s_Making_told P_Making_told C_Making_told f_Making_told fd_Making_told) (G_Making_told : FnOk K.P K.w K mg base CX0 2 f_Making_told fd_Making_told P_Making_told (spIO K (Ty.cons tyMk (Ty.last Ty.str)) (.z : RIx (Ty.cons tyMk (Ty.last Ty.str)) tyMk) .o (Ty.tup (Ty.cons (Ty.own (Ty.list (Ty.tup (Ty.cons Ty.str (Ty.cons (Ty.vtup Ty.str) (Ty.last Ty.int)))))) (Ty.last (Ty.own (Ty.list Ty.any))))) m_Making_told)) :
    FnOk K.P K.w K mg base (L2.CX K.P K.w) 4 f fd P_no_single (spX K (Ty.last (Ty.list (Ty.tup (Ty.cons Ty.str (Ty.cons (Ty.vtup Ty.str) (Ty.last Ty.int)))))) .o (Ty.tup (Ty.cons (Ty.own (Ty.list (Ty.tup (Ty.cons Ty.str (Ty.cons (Ty.vtup Ty.str) (Ty.last Ty.int)))))) (Ty.last (Ty.own (Ty.list Ty.any))))) m_no_single) := by
  have S := sc_no_single
  refine fn_okX (F := b_no_single) [Ty.str, Ty.str, (Ty.vtup Ty.str), Ty.int, (Ty.tup (Ty.cons Ty.str (Ty.cons (Ty.vtup Ty.str) (Ty.last Ty.int)))), tyMk, Ty.str, (Ty.vtup Ty.int), Ty.int] M_no_single F S rfl rfl rfl m_no_single_eq (fun cdv A outer s H E hr => ?_)
  refine ⟨_, (pss_cons (ps_set (i := 1) S.nd rfl (Or.inr rfl) (pe_ix (r := rIxT K) ix_tup (pe_ix (r := rIxL K) ix_list (pv 0) pe_int (fun _ _ => rfl)) pe_int (fun _ _ => rfl)))
  (pss_cons (ps_for (passes_of rfl) rfl (pi_listK K rfl (pv 0)) (pg_tupK (n := 3) K rfl rfl (pgs_cons (pg_name (i := 2) S.nd rfl (Or.inl rfl)) (pgs_cons (pg_name (i := 3) S.nd rfl (Or.inl rfl)) (pgs_cons (pg_name (i := 4) S.nd rfl (Or.inl rfl)) pgs_nil)))) (pss_one (ps_if (PW.pt (pw_and (pt_cmpR (r := rEqD K) (op_eqD hr.units) (pv 3) (pe_tup pa_nil) (nomark _)) (pw_and1 (PW.pt (pw_or (pt_cmpR op_ne (pv 2) (pv 1) (nomark _)) (pw_or1 (pt_val (pe_callB (r := rAnyD K) (call_anyD rfl) (by rfl) T.b_any (by decide +kernel) (pa_cons (pe_lc (own := [("rule", 5)]) rfl S.nd (pi_listK K rfl (pv 0)) (blkOk_by (N := N_no_single) (sc := defScope s_no_single) (by decide +kernel)) (fun _ _ _ _ _ => (pg_name (i := 5) S.nd rfl (Or.inl rfl))) (fun _ _ _ _ _ => pts_nil) (fun _ _ _ _ _ => (pe_cmpR (r := rIn K false) op_in_seq (pv 1) (pe_ix (r := rIxT K) ix_tup (pv 5) pe_int (fun _ _ => rfl)) (by rfl)))) pa_nil))))))))) (pss_one (ps_raiseN rfl (takes_of rfl rfl rfl rfl) (T.e_NoGrammar).choose_spec rfl)) pss_nil)))
  (pss_cons (ps_set (i := 6) S.nd rfl (Or.inl rfl) (pe_make0 D_Making___init__.mm G_Making___init__ (hr.mono (by decide)) rfl D_Making___init__.mt.gl D_Making___init__.bi .nil pass0))
  (pss_cons (ps_for (passes_of rfl) rfl (pi_listK K rfl (pe_call G_names (hr.mono (by decide)) rfl D_names.gl D_names.fn.kp D_names.bi .nil pass0 (pa_cons (pv 0) pa_nil))) (pg_name (i := 2) S.nd rfl (Or.inl rfl)) (pss_one (ps_for (passes_of rfl) rfl (pi_listK K rfl (pe_call G_chains_from (hr.mono (by decide)) rfl D_chains_from.gl D_chains_from.fn.kp D_chains_from.bi .nil pass0 (pa_cons (pv 0) (pa_cons (pv 2) pa_nil)))) (pg_tupK (n := 2) K rfl rfl (pgs_cons (pg_name (i := 7) S.nd rfl (Or.inl rfl)) (pgs_cons (pg_name (i := 8) S.nd rfl (Or.inl rfl)) pgs_nil))) (pss_one (ps_for (passes_of rfl) rfl (pi_enum rfl T.b_enumerate (pa_cons (pv 0) pa_nil)) (pg_tupK (n := 2) K rfl rfl (pgs_cons (pg_name (i := 9) S.nd rfl (Or.inl rfl)) (pgs_cons (pg_name (i := 5) S.nd rfl (Or.inl rfl)) pgs_nil))) (pss_one (ps_if (PW.pt (pw_and (pt_cmpR op_eq (pe_ix (r := rIxT K) ix_tup (pv 5) pe_int (fun _ _ => rfl)) (pv 7) (nomark _)) (pw_and1 (pt_not (pt_val (pe_call G_is_single (hr.mono (by decide)) rfl D_is_single.gl D_is_single.fn.kp D_is_single.bi .nil pass0 (pa_cons (pv 5) pa_nil))))))) (pss_one (ps_expr (pe_meth (pv 6) D_Making_put.mt.ci.cls D_Making_put.me G_Making_put (hr.mono (by decide)) D_Making_put.bi .nil pass0  (pa_cons (pv 2) (pa_cons (pe_ix (r := rIxT K) ix_tup (pv 5) pe_int (fun _ _ => rfl)) (pa_cons (pe_tup (pa_cons (pe_op (r := rCatA K) op_catA (pv 8) (pe_tup (pa_cons (pv 9) pa_nil))) (pa_cons (pe_call G_kept (hr.mono (by decide)) rfl D_kept.gl D_kept.fn.kp D_kept.bi .nil pass0 (pa_cons (pe_ix (r := rIxT K) ix_tup (pv 5) pe_int (fun _ _ => rfl)) pa_nil)) pa_nil))) pa_nil)))))) pss_nil)))))))
  (pss_one (ps_ret (pe_meth (pv 6) D_Making_told.mt.ci.cls D_Making_told.me G_Making_told (hr.mono (by decide)) D_Making_told.bi .nil pass0  (pa_cons (pv 1) pa_nil)))))))), ?_⟩
  exact (rs_seq (rs_set (ms := M_no_single) (m := .w) (v_no_single_first) (rp_frz .w (rp_proj (m := .b) (b := (Ty.cons Ty.str (Ty.cons (Ty.vtup Ty.str) (Ty.last Ty.int)))) (t := Ty.str) .z 0 (rp_op (m1 := .b) (m2 := .b) (v_ixL (t := (Ty.tup (Ty.cons Ty.str (Ty.cons (Ty.vtup Ty.str) (Ty.last Ty.int)))))) (rp_le (rp_varw (ms := M_no_single) (v_no_single_grammar))) rp_int))))
  (rs_seq (rs_hide (rs_for (w := true) (t := (Ty.tup (Ty.cons Ty.str (Ty.cons (Ty.vtup Ty.str) (Ty.last Ty.int))))) [true, true, false, false, false, false, false, false, false, false] (ri_list (w := true) (t := (Ty.tup (Ty.cons Ty.str (Ty.cons (Ty.vtup Ty.str) (Ty.last Ty.int))))) (rp_varw (ms := M_no_single) (v_no_single_grammar))) (rg_tup (rgs_cons (rg_name (ms := M_no_single) (v_no_single_name)) (rgs_cons (rg_name (ms := M_no_single) (v_no_single_parts)) (rgs_one (rg_name (ms := M_no_single) (v_no_single_cost)))))) (rs_if (rt_and (rt_test (rp_op (m := .b) (m1 := .b) (m2 := .b) (v_eqD (t := (Ty.vtup Ty.str)) (by decide)) (rp_frz .b (rp_varw (ms := M_no_single) (v_no_single_parts))) (rp_frz .b (rp_vtup (m := .o) (t := Ty.str) rl_nil)))) (rt_or (rt_test (rp_op (m := .b) (m1 := .b) (m2 := .b) v_neS (rp_frz .b (rp_varw (ms := M_no_single) (v_no_single_name))) (rp_frz .b (rp_varw (ms := M_no_single) (v_no_single_first))))) (rt_val (m := .b) (rp_any_ (m' := .b) (rp_le (rp_hide (rp_lc (w := true) (m := .o) (t := (Ty.tup (Ty.cons Ty.str (Ty.cons (Ty.vtup Ty.str) (Ty.last Ty.int))))) (u := Ty.bool) [true, true, true, true, true, false, true, true, true, true] [5] (ris_of (ri_list (w := true) (t := (Ty.tup (Ty.cons Ty.str (Ty.cons (Ty.vtup Ty.str) (Ty.last Ty.int))))) (rp_varw (ms := M_no_single) (v_no_single_grammar)))) (rg_name (ms := M_no_single) (v_no_single_rule)) gw_name rt_yes (rp_op (m1 := .b) (m2 := .b) (v_inV (t := Ty.str) rfl) (rp_frz .b (rp_varw (ms := M_no_single) (v_no_single_first))) (rp_proj (m := .b) (b := (Ty.cons Ty.str (Ty.cons (Ty.vtup Ty.str) (Ty.last Ty.int)))) (t := (Ty.vtup Ty.str)) (.s .z) 1 (rp_frz .b (rp_varw (ms := M_no_single) (v_no_single_rule)))))))))))) (rs_raise (T.e_NoGrammar).choose_spec.ns) rs_next)))
  (rs_seq (rs_set (ms := M_no_single) (m := .o) (v_no_single_making) (rp_mk D_Making___init__.mt.ci))
  (rs_seq (rs_hide (rs_for (w := false) (t := Ty.str) [true, true, false, false, false, false, true, false, false, false] (ri_list (w := false) (t := Ty.str) (rp_le (rp_call (mA := .b) (rm := .o) (ρ := (Ty.list Ty.str)) (m := m_names) rfl (ra_one (rp_le (rp_varw (ms := M_no_single) (v_no_single_grammar))))))) (rg_name (ms := M_no_single) (v_no_single_name)) (rs_hide (rs_for (w := false) (t := (Ty.tup (Ty.cons Ty.str (Ty.last (Ty.vtup Ty.int))))) [true, true, true, false, false, false, true, false, false, false] (ri_list (w := false) (t := (Ty.tup (Ty.cons Ty.str (Ty.last (Ty.vtup Ty.int))))) (rp_le (rp_call (mA := .b) (rm := .o) (ρ := (Ty.list (Ty.tup (Ty.cons Ty.str (Ty.last (Ty.vtup Ty.int)))))) (m := m_chains_from) rfl (ra_cons (rp_le (rp_varw (ms := M_no_single) (v_no_single_grammar))) (ra_one (rp_frz .b (rp_varw (ms := M_no_single) (v_no_single_name)))))))) (rg_tup (rgs_cons (rg_name (ms := M_no_single) (v_no_single_there)) (rgs_one (rg_name (ms := M_no_single) (v_no_single_chain))))) (rs_hide (rs_for (w := true) (t := (Ty.tup (Ty.cons Ty.int (Ty.last (Ty.tup (Ty.cons Ty.str (Ty.cons (Ty.vtup Ty.str) (Ty.last Ty.int)))))))) [true, true, true, false, false, false, true, true, true, false] (ri_enum (w := true) (t := (Ty.tup (Ty.cons Ty.str (Ty.cons (Ty.vtup Ty.str) (Ty.last Ty.int))))) (rp_varw (ms := M_no_single) (v_no_single_grammar))) (rg_tup (rgs_cons (rg_name (ms := M_no_single) (v_no_single_number)) (rgs_one (rg_name (ms := M_no_single) (v_no_single_rule))))) (rs_if (rt_and (rt_test (rp_op (m := .b) (m1 := .b) (m2 := .b) v_eqS (rp_proj (m := .b) (b := (Ty.cons Ty.str (Ty.cons (Ty.vtup Ty.str) (Ty.last Ty.int)))) (t := Ty.str) .z 0 (rp_frz .b (rp_varw (ms := M_no_single) (v_no_single_rule)))) (rp_frz .b (rp_varw (ms := M_no_single) (v_no_single_there))))) (rt_not (rt_val (m := .b) (rp_frz .b (rp_call (mA := .b) (rm := .o) (ρ := Ty.bool) (m := m_is_single) rfl (ra_one (rp_frz .b (rp_varw (ms := M_no_single) (v_no_single_rule))))))))) (rs_dropE (t := Ty.non) (re_l (re_meth (ms := M_no_single) (re_callIO (ms := M_no_single) (rm := .o) (ρ := Ty.non) (m := m_Making_put) (i := (v_no_single_making)) (r := (.z : RIx (Ty.cons tyMk (Ty.cons Ty.str (Ty.cons (Ty.vtup Ty.str) (Ty.last Ty.any)))) tyMk)) (raio_here (ms := M_no_single) (v_no_single_making) (ra_cons (rp_varw (ms := M_no_single) (v_no_single_name)) (ra_cons (rp_frz .w (rp_proj (m := .b) (b := (Ty.cons Ty.str (Ty.cons (Ty.vtup Ty.str) (Ty.last Ty.int)))) (t := (Ty.vtup Ty.str)) (.s .z) 1 (rp_frz .b (rp_varw (ms := M_no_single) (v_no_single_rule))))) (ra_one (rp_any (t := (Ty.tup (Ty.cons (Ty.vtup Ty.int) (Ty.last (Ty.vtup Ty.any))))) (m1 := .b) (rp_frz .b (rp_tup (m := .o) (ra_cons (rp_op (m1 := .b) (m2 := .b) (v_catT (t := Ty.int)) (rp_frz .b (rp_varw (ms := M_no_single) (v_no_single_chain))) (rp_frz .b (rp_vtup (m := .o) (t := Ty.int) (rl_cons (rp_frz .o (rp_varw (ms := M_no_single) (v_no_single_number))) rl_nil)))) (ra_one (rp_call (mA := .b) (rm := .o) (ρ := (Ty.vtup Ty.any)) (m := m_kept) rfl (ra_one (rp_proj (m := .b) (b := (Ty.cons Ty.str (Ty.cons (Ty.vtup Ty.str) (Ty.last Ty.int)))) (t := (Ty.vtup Ty.str)) (.s .z) 1 (rp_frz .b (rp_varw (ms := M_no_single) (v_no_single_rule)))))))))))))))) eCons_here D_Making_put.mt.ci (hk := by decide +kernel)))) rs_next)))))))
  (rs_lift (rs_retE (ρ := (Ty.tup (Ty.cons (Ty.own (Ty.list (Ty.tup (Ty.cons Ty.str (Ty.cons (Ty.vtup Ty.str) (Ty.last Ty.int)))))) (Ty.last (Ty.own (Ty.list Ty.any)))))) (re_meth (ms := M_no_single) (re_callIO (ms := M_no_single) (rm := .o) (ρ := (Ty.tup (Ty.cons (Ty.own (Ty.list (Ty.tup (Ty.cons Ty.str (Ty.cons (Ty.vtup Ty.str) (Ty.last Ty.int)))))) (Ty.last (Ty.own (Ty.list Ty.any)))))) (m := m_Making_told) (i := (v_no_single_making)) (r := (.z : RIx (Ty.cons tyMk (Ty.last Ty.str)) tyMk)) (raio_here (ms := M_no_single) (v_no_single_making) (ra_one (rp_varw (ms := M_no_single) (v_no_single_first))))) eCons_here D_Making_told.mt.ci (hk := by decide +kernel))))))))
abbrev s_empty_trees : Stmt := topS 17
abbrev N_empty_trees : List Str := ["grammar", "found", "many", "number", "rule", "part"]
abbrev P_empty_trees : List Str := ["grammar"]
theorem sc_empty_trees : FnScope N_empty_trees P_empty_trees (defScope s_empty_trees) := ⟨rfl, rfl, rfl, by decide +kernel, rfl, by decide +kernel, by decide +kernel⟩
abbrev g_empty_trees : List Ty := [(Ty.list (Ty.tup (Ty.cons Ty.str (Ty.cons (Ty.vtup Ty.str) (Ty.last Ty.int))))), (Ty.dict Ty.str (Ty.tup (Ty.cons Ty.int (Ty.last (Ty.vtup Ty.any))))), Ty.int, Ty.int, (Ty.tup (Ty.cons Ty.str (Ty.cons (Ty.vtup Ty.str) (Ty.last Ty.int)))), Ty.str]
abbrev M_empty_trees : List Md := [.w, .o, .w, .w, .w, .w]
abbrev v_empty_trees_grammar : Mem g_empty_trees (Ty.list (Ty.tup (Ty.cons Ty.str (Ty.cons (Ty.vtup Ty.str) (Ty.last Ty.int))))) := .z
abbrev v_empty_trees_found : Mem g_empty_trees (Ty.dict Ty.str (Ty.tup (Ty.cons Ty.int (Ty.last (Ty.vtup Ty.any))))) := (.s .z)
abbrev v_empty_trees_many : Mem g_empty_trees Ty.int := (.s (.s .z))
abbrev v_empty_trees_number : Mem g_empty_trees Ty.int := (.s (.s (.s .z)))
abbrev v_empty_trees_rule : Mem g_empty_trees (Ty.tup (Ty.cons Ty.str (Ty.cons (Ty.vtup Ty.str) (Ty.last Ty.int)))) := (.s (.s (.s (.s .z))))
abbrev v_empty_trees_part : Mem g_empty_trees Ty.str := (.s (.s (.s (.s (.s .z)))))
noncomputable def lc_empty_trees_1 : Gam g_empty_trees → Option (List (den Ty.bool)) := hide (eLc (eProj (b := (Ty.cons Ty.str (Ty.cons (Ty.vtup Ty.str) (Ty.last Ty.int)))) (t := (Ty.vtup Ty.str)) (.s .z) (eV (t := (Ty.tup (Ty.cons Ty.str (Ty.cons (Ty.vtup Ty.str) (Ty.last Ty.int))))) (v_empty_trees_rule))) (bName (t := Ty.str) (v_empty_trees_part)) (Gam.mask [true, true, true, true, true, false]) eYes (e2 (fInK (k := Ty.str) (β := den (Ty.tup (Ty.cons Ty.int (Ty.last (Ty.vtup Ty.any)))))) (eV (t := Ty.str) (v_empty_trees_part)) (eV (t := (Ty.dict Ty.str (Ty.tup (Ty.cons Ty.int (Ty.last (Ty.vtup Ty.any)))))) (v_empty_trees_found))))
theorem lc_empty_trees_1_eq : lc_empty_trees_1 = (eLc (eProj (b := (Ty.cons Ty.str (Ty.cons (Ty.vtup Ty.str) (Ty.last Ty.int)))) (t := (Ty.vtup Ty.str)) (.s .z) (eV (t := (Ty.tup (Ty.cons Ty.str (Ty.cons (Ty.vtup Ty.str) (Ty.last Ty.int))))) (v_empty_trees_rule))) (bName (t := Ty.str) (v_empty_trees_part)) (Gam.mask [true, true, true, true, true, false]) eYes (e2 (fInK (k := Ty.str) (β := den (Ty.tup (Ty.cons Ty.int (Ty.last (Ty.vtup Ty.any)))))) (eV (t := Ty.str) (v_empty_trees_part)) (eV (t := (Ty.dict Ty.str (Ty.tup (Ty.cons Ty.int (Ty.last (Ty.vtup Ty.any)))))) (v_empty_trees_found)))) := hide_eq _
noncomputable def lc_empty_trees_2 : Gam g_empty_trees → Option (List (den Ty.any)) := hide (eLc (eProj (b := (Ty.cons Ty.str (Ty.cons (Ty.vtup Ty.str) (Ty.last Ty.int)))) (t := (Ty.vtup Ty.str)) (.s .z) (eV (t := (Ty.tup (Ty.cons Ty.str (Ty.cons (Ty.vtup Ty.str) (Ty.last Ty.int))))) (v_empty_trees_rule))) (bName (t := Ty.str) (v_empty_trees_part)) (Gam.mask [true, true, true, true, true, false]) eYes (e1 (fun d => some ((emb (Ty.tup (Ty.cons Ty.int (Ty.last (Ty.vtup Ty.any))))).1 d)) (e2 (fGetK (k := Ty.str) (β := den (Ty.tup (Ty.cons Ty.int (Ty.last (Ty.vtup Ty.any)))))) (eV (t := (Ty.dict Ty.str (Ty.tup (Ty.cons Ty.int (Ty.last (Ty.vtup Ty.any)))))) (v_empty_trees_found)) (eV (t := Ty.str) (v_empty_trees_part)))))
theorem lc_empty_trees_2_eq : lc_empty_trees_2 = (eLc (eProj (b := (Ty.cons Ty.str (Ty.cons (Ty.vtup Ty.str) (Ty.last Ty.int)))) (t := (Ty.vtup Ty.str)) (.s .z) (eV (t := (Ty.tup (Ty.cons Ty.str (Ty.cons (Ty.vtup Ty.str) (Ty.last Ty.int))))) (v_empty_trees_rule))) (bName (t := Ty.str) (v_empty_trees_part)) (Gam.mask [true, true, true, true, true, false]) eYes (e1 (fun d => some ((emb (Ty.tup (Ty.cons Ty.int (Ty.last (Ty.vtup Ty.any))))).1 d)) (e2 (fGetK (k := Ty.str) (β := den (Ty.tup (Ty.cons Ty.int (Ty.last (Ty.vtup Ty.any)))))) (eV (t := (Ty.dict Ty.str (Ty.tup (Ty.cons Ty.int (Ty.last (Ty.vtup Ty.any)))))) (v_empty_trees_found)) (eV (t := Ty.str) (v_empty_trees_part))))) := hide_eq _
abbrev st_empty_trees_2 (x0_grammar : den (Ty.list (Ty.tup (Ty.cons Ty.str (Ty.cons (Ty.vtup Ty.str) (Ty.last Ty.int)))))) (x1_found : den (Ty.dict Ty.str (Ty.tup (Ty.cons Ty.int (Ty.last (Ty.vtup Ty.any)))))) (x2_many : den Ty.int) : Gam g_empty_trees := (some x0_grammar, some x1_found, some x2_many, none, none, none, ())
noncomputable def lb_empty_trees_2 : Gam g_empty_trees → Option (Fl (Gam g_empty_trees) (den (Ty.dict Ty.str (Ty.tup (Ty.cons Ty.int (Ty.last (Ty.vtup Ty.any))))))) :=
  (sIf (eAnd (e2 (fNotInK (k := Ty.str) (β := den (Ty.tup (Ty.cons Ty.int (Ty.last (Ty.vtup Ty.any)))))) (eProj (b := (Ty.cons Ty.str (Ty.cons (Ty.vtup Ty.str) (Ty.last Ty.int)))) (t := Ty.str) .z (eV (t := (Ty.tup (Ty.cons Ty.str (Ty.cons (Ty.vtup Ty.str) (Ty.last Ty.int))))) (v_empty_trees_rule))) (eV (t := (Ty.dict Ty.str (Ty.tup (Ty.cons Ty.int (Ty.last (Ty.vtup Ty.any)))))) (v_empty_trees_found))) (e1 fAll lc_empty_trees_1)) (sPut (k := Ty.str) (t := (Ty.tup (Ty.cons Ty.int (Ty.last (Ty.vtup Ty.any))))) (v_empty_trees_found) (eCons (eV (t := Ty.int) (v_empty_trees_number)) lc_empty_trees_2) (eProj (b := (Ty.cons Ty.str (Ty.cons (Ty.vtup Ty.str) (Ty.last Ty.int)))) (t := Ty.str) .z (eV (t := (Ty.tup (Ty.cons Ty.str (Ty.cons (Ty.vtup Ty.str) (Ty.last Ty.int))))) (v_empty_trees_rule)))) sNext)
noncomputable def lp_empty_trees_2 : Gam g_empty_trees → Option (Fl (Gam g_empty_trees) (den (Ty.dict Ty.str (Ty.tup (Ty.cons Ty.int (Ty.last (Ty.vtup Ty.any))))))) := hide (sFor (e1 fEnum (eV (t := (Ty.list (Ty.tup (Ty.cons Ty.str (Ty.cons (Ty.vtup Ty.str) (Ty.last Ty.int)))))) (v_empty_trees_grammar))) (bCons (bName (t := Ty.int) (v_empty_trees_number)) (bName (t := (Ty.tup (Ty.cons Ty.str (Ty.cons (Ty.vtup Ty.str) (Ty.last Ty.int))))) (v_empty_trees_rule))) (Gam.mask [true, true, true, false, false, false]) lb_empty_trees_2)
theorem lp_empty_trees_2_eq : lp_empty_trees_2 = (sFor (e1 fEnum (eV (t := (Ty.list (Ty.tup (Ty.cons Ty.str (Ty.cons (Ty.vtup Ty.str) (Ty.last Ty.int)))))) (v_empty_trees_grammar))) (bCons (bName (t := Ty.int) (v_empty_trees_number)) (bName (t := (Ty.tup (Ty.cons Ty.str (Ty.cons (Ty.vtup Ty.str) (Ty.last Ty.int))))) (v_empty_trees_rule))) (Gam.mask [true, true, true, false, false, false]) lb_empty_trees_2) := hide_eq _
abbrev st_empty_trees_1 (x0_grammar : den (Ty.list (Ty.tup (Ty.cons Ty.str (Ty.cons (Ty.vtup Ty.str) (Ty.last Ty.int)))))) (x1_found : den (Ty.dict Ty.str (Ty.tup (Ty.cons Ty.int (Ty.last (Ty.vtup Ty.any)))))) (x2_many : den Ty.int) : Gam g_empty_trees := (some x0_grammar, some x1_found, some x2_many, none, none, none, ())
noncomputable def lb_empty_trees_1 : Gam g_empty_trees → Option (Fl (Gam g_empty_trees) (den (Ty.dict Ty.str (Ty.tup (Ty.cons Ty.int (Ty.last (Ty.vtup Ty.any))))))) :=
  (sSeq (sSet (v_empty_trees_many) (e1 fLen (eV (t := (Ty.dict Ty.str (Ty.tup (Ty.cons Ty.int (Ty.last (Ty.vtup Ty.any)))))) (v_empty_trees_found))))
  lp_empty_trees_2)
noncomputable def lp_empty_trees_1 : Gam g_empty_trees → Option (Fl (Gam g_empty_trees) (den (Ty.dict Ty.str (Ty.tup (Ty.cons Ty.int (Ty.last (Ty.vtup Ty.any))))))) := hide (sWhile (e2 fGt (e1 fLen (eV (t := (Ty.dict Ty.str (Ty.tup (Ty.cons Ty.int (Ty.last (Ty.vtup Ty.any)))))) (v_empty_trees_found))) (eV (t := Ty.int) (v_empty_trees_many))) (Gam.mask [true, true, true, false, false, false]) lb_empty_trees_1)
theorem lp_empty_trees_1_eq : lp_empty_trees_1 = (sWhile (e2 fGt (e1 fLen (eV (t := (Ty.dict Ty.str (Ty.tup (Ty.cons Ty.int (Ty.last (Ty.vtup Ty.any)))))) (v_empty_trees_found))) (eV (t := Ty.int) (v_empty_trees_many))) (Gam.mask [true, true, true, false, false, false]) lb_empty_trees_1) := hide_eq _
noncomputable def b_empty_trees : Gam g_empty_trees → Option (Fl (Gam g_empty_trees) (den (Ty.dict Ty.str (Ty.tup (Ty.cons Ty.int (Ty.last (Ty.vtup Ty.any))))))) :=
  (sSeq (sSet (v_empty_trees_found) eNil)
  (sSeq (sSet (v_empty_trees_many) (e1 (fun a => some (-a)) (eC (1 : Int))))
  (sSeq lp_empty_trees_1
  (sRetM (v_empty_trees_found)))))
noncomputable def m_empty_trees : den (Ty.last (Ty.list (Ty.tup (Ty.cons Ty.str (Ty.cons (Ty.vtup Ty.str) (Ty.last Ty.int)))))) → Option (den (Ty.dict Ty.str (Ty.tup (Ty.cons Ty.int (Ty.last (Ty.vtup Ty.any)))))) := hide (runG (Ty.last (Ty.list (Ty.tup (Ty.cons Ty.str (Ty.cons (Ty.vtup Ty.str) (Ty.last Ty.int)))))) [(Ty.dict Ty.str (Ty.tup (Ty.cons Ty.int (Ty.last (Ty.vtup Ty.any))))), Ty.int, Ty.int, (Ty.tup (Ty.cons Ty.str (Ty.cons (Ty.vtup Ty.str) (Ty.last Ty.int)))), Ty.str] b_empty_trees)
theorem m_empty_trees_eq (d : den (Ty.last (Ty.list (Ty.tup (Ty.cons Ty.str (Ty.cons (Ty.vtup Ty.str) (Ty.last Ty.int))))))) : m_empty_trees d = runG (Ty.last (Ty.list (Ty.tup (Ty.cons Ty.str (Ty.cons (Ty.vtup Ty.str) (Ty.last Ty.int)))))) [(Ty.dict Ty.str (Ty.tup (Ty.cons Ty.int (Ty.last (Ty.vtup Ty.any))))), Ty.int, Ty.int, (Ty.tup (Ty.cons Ty.str (Ty.cons (Ty.vtup Ty.str) (Ty.last Ty.int)))), Ty.str] b_empty_trees d := congrFun (hide_eq _) d
theorem m_empty_trees_at (p0 : den (Ty.list (Ty.tup (Ty.cons Ty.str (Ty.cons (Ty.vtup Ty.str) (Ty.last Ty.int)))))) : m_empty_trees (p0) = endOf (b_empty_trees ((some p0, none, none, none, none, none, ()) : Gam g_empty_trees)) := by
  rw [m_empty_trees_eq]
  rfl
set_option maxHeartbeats 4000000 in
theorem ok_empty_trees {f : Addr} {fd : FuncData} (F : Fun K "empty_trees" "empty_trees" s_empty_trees f fd) (T : Txt K mg) :
    FnOk K.P K.w K mg base CX0 1 f fd P_empty_trees (spP K (Ty.last (Ty.list (Ty.tup (Ty.cons Ty.str (Ty.cons (Ty.vtup Ty.str) (Ty.last Ty.int)))))) .o (Ty.dict Ty.str (Ty.tup (Ty.cons Ty.int (Ty.last (Ty.vtup Ty.any))))) m_empty_trees) := by
  have S := sc_empty_trees
  refine fn_ok (F := b_empty_trees) [(Ty.dict Ty.str (Ty.tup (Ty.cons Ty.int (Ty.last (Ty.vtup Ty.any))))), Ty.int, Ty.int, (Ty.tup (Ty.cons Ty.str (Ty.cons (Ty.vtup Ty.str) (Ty.last Ty.int)))), Ty.str] M_empty_trees F S rfl rfl rfl m_empty_trees_eq (fun cdv A outer s H E hr => ?_)
  refine ⟨_, (pss_cons (ps_set (i := 1) S.nd rfl (Or.inr rfl) pe_dnewK)
  (pss_cons (ps_set (i := 2) S.nd rfl (Or.inl rfl) (pe_un un_neg pe_int))
  (pss_cons (ps_while PassesOwn.never (pt_cmpR op_gt (pe_callB (r := rLenK) call_lenK (by rfl) T.b_len (by decide +kernel) (pa_cons (pv 1) pa_nil)) (pv 2) (nomark _)) (pss_cons (ps_set (i := 2) S.nd rfl (Or.inl rfl) (pe_callB (r := rLenK) call_lenK (by rfl) T.b_len (by decide +kernel) (pa_cons (pv 1) pa_nil)))
  (pss_one (ps_for PassesOwn.never rfl (pi_enum rfl T.b_enumerate (pa_cons (pv 0) pa_nil)) (pg_tupK (n := 2) K rfl rfl (pgs_cons (pg_name (i := 3) S.nd rfl (Or.inl rfl)) (pgs_cons (pg_name (i := 4) S.nd rfl (Or.inl rfl)) pgs_nil))) (pss_one (ps_if (PW.pt (pw_and (pt_cmp (pc_dnotin (hu_of hr) (pe_ix (r := rIxT K) ix_tup (pv 4) pe_int (fun _ _ => rfl)) (pv 1)) (by rfl)) (pw_and1 (pt_val (pe_callB (r := rAllD K) (call_allD rfl) (by rfl) T.b_all (by decide +kernel) (pa_cons (pe_lc (own := [("part", 5)]) rfl S.nd (pi_tupK K rfl (pe_ix (r := rIxT K) ix_tup (pv 4) pe_int (fun _ _ => rfl))) (blkOk_by (N := N_empty_trees) (sc := defScope s_empty_trees) (by decide +kernel)) (fun _ _ _ _ _ => (pg_name (i := 5) S.nd rfl (Or.inl rfl))) (fun _ _ _ _ _ => pts_nil) (fun _ _ _ _ _ => (pe_cmp (pc_din (hu_of hr) (pv 5) (pv 1)) (by rfl)))) pa_nil)))))) (pss_one (ps_dput (hu_of hr) (pv 1) (pe_ix (r := rIxT K) ix_tup (pv 4) pe_int (fun _ _ => rfl)) (pe_tup (pa_cons (pv 3) (pa_cons (pe_callTy (r := rTupOf K) call_tuple_of (by rfl) T.b_tuple (by decide +kernel) (pa_cons (pe_lc (own := [("part", 5)]) rfl S.nd (pi_tupK K rfl (pe_ix (r := rIxT K) ix_tup (pv 4) pe_int (fun _ _ => rfl))) (blkOk_by (N := N_empty_trees) (sc := defScope s_empty_trees) (by decide +kernel)) (fun _ _ _ _ _ => (pg_name (i := 5) S.nd rfl (Or.inl rfl))) (fun _ _ _ _ _ => pts_nil) (fun _ _ _ _ _ => (pe_dget (hu_of hr) (pv 1) (pv 5) (fun _ _ => rfl)))) pa_nil)) pa_nil))) rfl)) pss_nil))))))
  (pss_one (ps_ret (pv 1)))))), ?_⟩
  exact (rs_seq (rs_set (ms := M_empty_trees) (m := .o) (v_empty_trees_found) (rp_dnewK (k := Ty.str) (t := (Ty.tup (Ty.cons Ty.int (Ty.last (Ty.vtup Ty.any)))))))
  (rs_seq (rs_set (ms := M_empty_trees) (m := .w) (v_empty_trees_many) (rp_neg (m1 := .b) rp_int))
  (rs_seq (rs_hide (rs_while [true, true, true, false, false, false] (rt_test (rp_op (m := .b) (m1 := .b) (m2 := .b) v_gt (rp_lenDK (m' := .b) (k := Ty.str) (t := (Ty.tup (Ty.cons Ty.int (Ty.last (Ty.vtup Ty.any))))) (rp_var (ms := M_empty_trees) (v_empty_trees_found))) (rp_frz .b (rp_varw (ms := M_empty_trees) (v_empty_trees_many))))) (rs_seq (rs_set (ms := M_empty_trees) (m := .w) (v_empty_trees_many) (rp_lenDK (m' := .b) (k := Ty.str) (t := (Ty.tup (Ty.cons Ty.int (Ty.last (Ty.vtup Ty.any))))) (rp_var (ms := M_empty_trees) (v_empty_trees_found))))
  (rs_hide (rs_for (w := true) (t := (Ty.tup (Ty.cons Ty.int (Ty.last (Ty.tup (Ty.cons Ty.str (Ty.cons (Ty.vtup Ty.str) (Ty.last Ty.int)))))))) [true, true, true, false, false, false] (ri_enum (w := true) (t := (Ty.tup (Ty.cons Ty.str (Ty.cons (Ty.vtup Ty.str) (Ty.last Ty.int))))) (rp_varw (ms := M_empty_trees) (v_empty_trees_grammar))) (rg_tup (rgs_cons (rg_name (ms := M_empty_trees) (v_empty_trees_number)) (rgs_one (rg_name (ms := M_empty_trees) (v_empty_trees_rule))))) (rs_if (rt_and (rt_test (rp_dnotin (m := .b) (m1 := .b) (m2 := .b) (k := Ty.str) (t := (Ty.tup (Ty.cons Ty.int (Ty.last (Ty.vtup Ty.any))))) (rp_proj (m := .b) (b := (Ty.cons Ty.str (Ty.cons (Ty.vtup Ty.str) (Ty.last Ty.int)))) (t := Ty.str) .z 0 (rp_frz .b (rp_varw (ms := M_empty_trees) (v_empty_trees_rule)))) (rp_var (ms := M_empty_trees) (v_empty_trees_found)))) (rt_val (m := .b) (rp_all (m' := .b) (rp_le (rp_hide (rp_lc (w := false) (m := .o) (t := Ty.str) (u := Ty.bool) [true, true, true, true, true, false] [5] (ris_of (ri_vtup (w := false) (t := Ty.str) (rp_frz .l (rp_proj (m := .b) (b := (Ty.cons Ty.str (Ty.cons (Ty.vtup Ty.str) (Ty.last Ty.int)))) (t := (Ty.vtup Ty.str)) (.s .z) 1 (rp_frz .b (rp_varw (ms := M_empty_trees) (v_empty_trees_rule))))))) (rg_name (ms := M_empty_trees) (v_empty_trees_part)) gw_name rt_yes (rp_din (m1 := .b) (m2 := .b) (k := Ty.str) (t := (Ty.tup (Ty.cons Ty.int (Ty.last (Ty.vtup Ty.any))))) (rp_frz .b (rp_varw (ms := M_empty_trees) (v_empty_trees_part))) (rp_var (ms := M_empty_trees) (v_empty_trees_found))))))))) (rs_dput (ms := M_empty_trees) (m := .b) (m' := .b) (k := Ty.str) (t := (Ty.tup (Ty.cons Ty.int (Ty.last (Ty.vtup Ty.any))))) (v_empty_trees_found) (rp_frz .b (rp_tup (m := .o) (ra_cons (rp_frz .o (rp_varw (ms := M_empty_trees) (v_empty_trees_number))) (ra_one (rp_tupL (m' := .b) (t := Ty.any) (rp_le (rp_hide (rp_lc (w := false) (m := .o) (t := Ty.str) (u := Ty.any) [true, true, true, true, true, false] [5] (ris_of (ri_vtup (w := false) (t := Ty.str) (rp_frz .l (rp_proj (m := .b) (b := (Ty.cons Ty.str (Ty.cons (Ty.vtup Ty.str) (Ty.last Ty.int)))) (t := (Ty.vtup Ty.str)) (.s .z) 1 (rp_frz .b (rp_varw (ms := M_empty_trees) (v_empty_trees_rule))))))) (rg_name (ms := M_empty_trees) (v_empty_trees_part)) gw_name rt_yes (rp_any (t := (Ty.tup (Ty.cons Ty.int (Ty.last (Ty.vtup Ty.any))))) (m1 := .b) (rp_dget (m1 := .b) (m2 := .b) (k := Ty.str) (t := (Ty.tup (Ty.cons Ty.int (Ty.last (Ty.vtup Ty.any))))) (rp_var (ms := M_empty_trees) (v_empty_trees_found)) (rp_frz .b (rp_varw (ms := M_empty_trees) (v_empty_trees_part))))))))))))) (rp_proj (m := .b) (b := (Ty.cons Ty.str (Ty.cons (Ty.vtup Ty.str) (Ty.last Ty.int)))) (t := Ty.str) .z 0 (rp_frz .b (rp_varw (ms := M_empty_trees) (v_empty_trees_rule))))) rs_next))))))
  (rs_retm (ms := M_empty_trees) (v_empty_trees_found)))))
abbrev s_with_some_left : Stmt := topS 18
abbrev N_with_some_left : List Str := ["parts", "empty", "ways", "part", "more", "left", "pieces"]
abbrev P_with_some_left : List Str := ["parts", "empty"]
theorem sc_with_some_left : FnScope N_with_some_left P_with_some_left (defScope s_with_some_left) := ⟨rfl, rfl, rfl, by decide +kernel, rfl, by decide +kernel, by decide +kernel⟩
abbrev g_with_some_left : List Ty := [(Ty.vtup Ty.str), (Ty.dict Ty.str (Ty.tup (Ty.cons Ty.int (Ty.last (Ty.vtup Ty.any))))), (Ty.list (Ty.tup (Ty.cons (Ty.vtup Ty.str) (Ty.last (Ty.vtup Ty.any))))), Ty.str, (Ty.list (Ty.tup (Ty.cons (Ty.vtup Ty.str) (Ty.last (Ty.vtup Ty.any))))), (Ty.vtup Ty.str), (Ty.vtup Ty.any)]
abbrev M_with_some_left : List Md := [.w, .w, .o, .w, .o, .w, .w]
abbrev v_with_some_left_parts : Mem g_with_some_left (Ty.vtup Ty.str) := .z
abbrev v_with_some_left_empty : Mem g_with_some_left (Ty.dict Ty.str (Ty.tup (Ty.cons Ty.int (Ty.last (Ty.vtup Ty.any))))) := (.s .z)
abbrev v_with_some_left_ways : Mem g_with_some_left (Ty.list (Ty.tup (Ty.cons (Ty.vtup Ty.str) (Ty.last (Ty.vtup Ty.any))))) := (.s (.s .z))
abbrev v_with_some_left_part : Mem g_with_some_left Ty.str := (.s (.s (.s .z)))
abbrev v_with_some_left_more : Mem g_with_some_left (Ty.list (Ty.tup (Ty.cons (Ty.vtup Ty.str) (Ty.last (Ty.vtup Ty.any))))) := (.s (.s (.s (.s .z))))
abbrev v_with_some_left_left : Mem g_with_some_left (Ty.vtup Ty.str) := (.s (.s (.s (.s (.s .z)))))
abbrev v_with_some_left_pieces : Mem g_with_some_left (Ty.vtup Ty.any) := (.s (.s (.s (.s (.s (.s .z))))))
abbrev st_with_some_left_2 (x0_empty : den (Ty.dict Ty.str (Ty.tup (Ty.cons Ty.int (Ty.last (Ty.vtup Ty.any)))))) (x1_ways : den (Ty.list (Ty.tup (Ty.cons (Ty.vtup Ty.str) (Ty.last (Ty.vtup Ty.any)))))) (x2_part : den Ty.str) (x3_more : den (Ty.list (Ty.tup (Ty.cons (Ty.vtup Ty.str) (Ty.last (Ty.vtup Ty.any)))))) : Gam g_with_some_left := (none, some x0_empty, some x1_ways, some x2_part, some x3_more, none, none, ())
noncomputable def lb_with_some_left_2 : Gam g_with_some_left → Option (Fl (Gam g_with_some_left) (den (Ty.list (Ty.tup (Ty.cons (Ty.vtup Ty.str) (Ty.last (Ty.vtup Ty.any))))))) :=
  (sSeq (sApp (v_with_some_left_more) (eCons (e2 fCatL (eV (t := (Ty.vtup Ty.str)) (v_with_some_left_left)) (e1 fSmall (eSnoc (eV (t := Ty.str) (v_with_some_left_part)) eNil))) (e2 fCatL (eV (t := (Ty.vtup Ty.any)) (v_with_some_left_pieces)) (e1 fSmall (eSnoc (e1 (fun d => some ((emb (Ty.tup (Ty.cons Ty.str (Ty.last Ty.int)))).1 d)) (eCons (eC (Str.ofString "at")) (e1 fLen (eV (t := (Ty.vtup Ty.str)) (v_with_some_left_left))))) eNil)))))
  (sIf (e2 (fInK (k := Ty.str) (β := den (Ty.tup (Ty.cons Ty.int (Ty.last (Ty.vtup Ty.any)))))) (eV (t := Ty.str) (v_with_some_left_part)) (eV (t := (Ty.dict Ty.str (Ty.tup (Ty.cons Ty.int (Ty.last (Ty.vtup Ty.any)))))) (v_with_some_left_empty))) (sApp (v_with_some_left_more) (eCons (eV (t := (Ty.vtup Ty.str)) (v_with_some_left_left)) (e2 fCatL (eV (t := (Ty.vtup Ty.any)) (v_with_some_left_pieces)) (e1 fSmall (eSnoc (e1 (fun d => some ((emb (Ty.tup (Ty.cons Ty.str (Ty.last (Ty.tup (Ty.cons Ty.int (Ty.last (Ty.vtup Ty.any)))))))).1 d)) (eCons (eC (Str.ofString "tree")) (e2 (fGetK (k := Ty.str) (β := den (Ty.tup (Ty.cons Ty.int (Ty.last (Ty.vtup Ty.any)))))) (eV (t := (Ty.dict Ty.str (Ty.tup (Ty.cons Ty.int (Ty.last (Ty.vtup Ty.any)))))) (v_with_some_left_empty)) (eV (t := Ty.str) (v_with_some_left_part))))) eNil))))) sNext))
noncomputable def lp_with_some_left_2 : Gam g_with_some_left → Option (Fl (Gam g_with_some_left) (den (Ty.list (Ty.tup (Ty.cons (Ty.vtup Ty.str) (Ty.last (Ty.vtup Ty.any))))))) := hide (sFor (eV (t := (Ty.list (Ty.tup (Ty.cons (Ty.vtup Ty.str) (Ty.last (Ty.vtup Ty.any)))))) (v_with_some_left_ways)) (bCons (bName (t := (Ty.vtup Ty.str)) (v_with_some_left_left)) (bName (t := (Ty.vtup Ty.any)) (v_with_some_left_pieces))) (Gam.mask [false, true, true, true, true, false, false]) lb_with_some_left_2)
theorem lp_with_some_left_2_eq : lp_with_some_left_2 = (sFor (eV (t := (Ty.list (Ty.tup (Ty.cons (Ty.vtup Ty.str) (Ty.last (Ty.vtup Ty.any)))))) (v_with_some_left_ways)) (bCons (bName (t := (Ty.vtup Ty.str)) (v_with_some_left_left)) (bName (t := (Ty.vtup Ty.any)) (v_with_some_left_pieces))) (Gam.mask [false, true, true, true, true, false, false]) lb_with_some_left_2) := hide_eq _
abbrev st_with_some_left_1 (x0_empty : den (Ty.dict Ty.str (Ty.tup (Ty.cons Ty.int (Ty.last (Ty.vtup Ty.any)))))) (x1_ways : den (Ty.list (Ty.tup (Ty.cons (Ty.vtup Ty.str) (Ty.last (Ty.vtup Ty.any)))))) : Gam g_with_some_left := (none, some x0_empty, some x1_ways, none, none, none, none, ())
noncomputable def lb_with_some_left_1 : Gam g_with_some_left → Option (Fl (Gam g_with_some_left) (den (Ty.list (Ty.tup (Ty.cons (Ty.vtup Ty.str) (Ty.last (Ty.vtup Ty.any))))))) :=
  (sSeq (sSet (v_with_some_left_more) (e1 fSmall eNil))
  (sSeq lp_with_some_left_2
  (sMove (v_with_some_left_ways) (v_with_some_left_more))))
noncomputable def lp_with_some_left_1 : Gam g_with_some_left → Option (Fl (Gam g_with_some_left) (den (Ty.list (Ty.tup (Ty.cons (Ty.vtup Ty.str) (Ty.last (Ty.vtup Ty.any))))))) := hide (sFor (eV (t := (Ty.vtup Ty.str)) (v_with_some_left_parts)) (bName (t := Ty.str) (v_with_some_left_part)) (Gam.mask [false, true, true, false, false, false, false]) lb_with_some_left_1)
theorem lp_with_some_left_1_eq : lp_with_some_left_1 = (sFor (eV (t := (Ty.vtup Ty.str)) (v_with_some_left_parts)) (bName (t := Ty.str) (v_with_some_left_part)) (Gam.mask [false, true, true, false, false, false, false]) lb_with_some_left_1) := hide_eq _
noncomputable def b_with_some_left : Gam g_with_some_left → Option (Fl (Gam g_with_some_left) (den (Ty.list (Ty.tup (Ty.cons (Ty.vtup Ty.str) (Ty.last (Ty.vtup Ty.any))))))) :=
  (sSeq (sSet (v_with_some_left_ways) (e1 fSmall (eSnoc (eCons (e1 fSmall eNil) (e1 fSmall eNil)) eNil)))
  (sSeq lp_with_some_left_1
  (sRetM (v_with_some_left_ways))))
noncomputable def m_with_some_left : den (Ty.cons (Ty.vtup Ty.str) (Ty.last (Ty.dict Ty.str (Ty.tup (Ty.cons Ty.int (Ty.last (Ty.vtup Ty.any))))))) → Option (den (Ty.list (Ty.tup (Ty.cons (Ty.vtup Ty.str) (Ty.last (Ty.vtup Ty.any)))))) := hide (runG (Ty.cons (Ty.vtup Ty.str) (Ty.last (Ty.dict Ty.str (Ty.tup (Ty.cons Ty.int (Ty.last (Ty.vtup Ty.any))))))) [(Ty.list (Ty.tup (Ty.cons (Ty.vtup Ty.str) (Ty.last (Ty.vtup Ty.any))))), Ty.str, (Ty.list (Ty.tup (Ty.cons (Ty.vtup Ty.str) (Ty.last (Ty.vtup Ty.any))))), (Ty.vtup Ty.str), (Ty.vtup Ty.any)] b_with_some_left)
theorem m_with_some_left_eq (d : den (Ty.cons (Ty.vtup Ty.str) (Ty.last (Ty.dict Ty.str (Ty.tup (Ty.cons Ty.int (Ty.last (Ty.vtup Ty.any)))))))) : m_with_some_left d = runG (Ty.cons (Ty.vtup Ty.str) (Ty.last (Ty.dict Ty.str (Ty.tup (Ty.cons Ty.int (Ty.last (Ty.vtup Ty.any))))))) [(Ty.list (Ty.tup (Ty.cons (Ty.vtup Ty.str) (Ty.last (Ty.vtup Ty.any))))), Ty.str, (Ty.list (Ty.tup (Ty.cons (Ty.vtup Ty.str) (Ty.last (Ty.vtup Ty.any))))), (Ty.vtup Ty.str), (Ty.vtup Ty.any)] b_with_some_left d := congrFun (hide_eq _) d
theorem m_with_some_left_at (p0 : den (Ty.vtup Ty.str)) (p1 : den (Ty.dict Ty.str (Ty.tup (Ty.cons Ty.int (Ty.last (Ty.vtup Ty.any)))))) : m_with_some_left (p0, p1) = endOf (b_with_some_left ((some p0, some p1, none, none, none, none, none, ()) : Gam g_with_some_left)) := by
  rw [m_with_some_left_eq]
  rfl
set_option maxHeartbeats 4000000 in
theorem ok_with_some_left {f : Addr} {fd : FuncData} (F : Fun K "with_some_left" "with_some_left" s_with_some_left f fd) (T : Txt K mg) :
    FnOk K.P K.w K mg base CX0 1 f fd P_with_some_left (spP K (Ty.cons (Ty.vtup Ty.str) (Ty.last (Ty.dict Ty.str (Ty.tup (Ty.cons Ty.int (Ty.last (Ty.vtup Ty.any))))))) .o (Ty.list (Ty.tup (Ty.cons (Ty.vtup Ty.str) (Ty.last (Ty.vtup Ty.any))))) m_with_some_left) := by
  have S := sc_with_some_left
  refine fn_ok (F := b_with_some_left) [(Ty.list (Ty.tup (Ty.cons (Ty.vtup Ty.str) (Ty.last (Ty.vtup Ty.any))))), Ty.str, (Ty.list (Ty.tup (Ty.cons (Ty.vtup Ty.str) (Ty.last (Ty.vtup Ty.any))))), (Ty.vtup Ty.str), (Ty.vtup Ty.any)] M_with_some_left F S rfl rfl rfl m_with_some_left_eq (fun cdv A outer s H E hr => ?_)
  refine ⟨_, (pss_cons (ps_set (i := 2) S.nd rfl (Or.inl rfl) (pe_lst (pa_cons (pe_tup (pa_cons (pe_tup pa_nil) (pa_cons (pe_tup pa_nil) pa_nil))) pa_nil)))
  (pss_cons (ps_for PassesOwn.never rfl (pi_tupK K rfl (pv 0)) (pg_name (i := 3) S.nd rfl (Or.inl rfl)) (pss_cons (ps_set (i := 4) S.nd rfl (Or.inl rfl) (pe_lst pa_nil))
  (pss_cons (ps_for PassesOwn.never rfl (pi_listK K rfl (pv 2)) (pg_tupK (n := 2) K rfl rfl (pgs_cons (pg_name (i := 5) S.nd rfl (Or.inl rfl)) (pgs_cons (pg_name (i := 6) S.nd rfl (Or.inl rfl)) pgs_nil))) (pss_cons (ps_expr (pe_bm PySem.F.plainAttrs_list PySem.F.slot_list_append PySem.F.type_list_append mt_append (pv 4) (pa_cons (pe_tup (pa_cons (pe_op (r := rCatA K) op_catA (pv 5) (pe_tup (pa_cons (pv 3) pa_nil))) (pa_cons (pe_op (r := rCatA K) op_catA (pv 6) (pe_tup (pa_cons (pe_tup (pa_cons pe_str (pa_cons (pe_callB (r := VV.rLen K) call_len (by rfl) T.b_len (by decide +kernel) (pa_cons (pv 5) pa_nil)) pa_nil))) pa_nil))) pa_nil))) pa_nil)))
  (pss_one (ps_if (pt_cmp (pc_din (hu_of hr) (pv 3) (pv 1)) (by rfl)) (pss_one (ps_expr (pe_bm PySem.F.plainAttrs_list PySem.F.slot_list_append PySem.F.type_list_append mt_append (pv 4) (pa_cons (pe_tup (pa_cons (pv 5) (pa_cons (pe_op (r := rCatA K) op_catA (pv 6) (pe_tup (pa_cons (pe_tup (pa_cons pe_str (pa_cons (pe_dget (hu_of hr) (pv 1) (pv 3) (fun _ _ => rfl)) pa_nil))) pa_nil))) pa_nil))) pa_nil)))) pss_nil))))
  (pss_one (ps_set (i := 2) S.nd rfl (Or.inl rfl) (pv 4))))))
  (pss_one (ps_ret (pv 2))))), ?_⟩
  exact (rs_seq (rs_set (ms := M_with_some_left) (m := .o) (v_with_some_left_ways) (rp_list (t := (Ty.tup (Ty.cons (Ty.vtup Ty.str) (Ty.last (Ty.vtup Ty.any))))) (rl_cons (rp_tup (m := .o) (ra_cons (rp_vtup (m := .o) (t := Ty.str) rl_nil) (ra_one (rp_vtup (m := .o) (t := Ty.any) rl_nil)))) rl_nil)))
  (rs_seq (rs_hide (rs_for (w := false) (t := Ty.str) [false, true, true, false, false, false, false] (ri_vtup (w := false) (t := Ty.str) (rp_frz .l (rp_varw (ms := M_with_some_left) (v_with_some_left_parts)))) (rg_name (ms := M_with_some_left) (v_with_some_left_part)) (rs_seq (rs_set (ms := M_with_some_left) (m := .o) (v_with_some_left_more) (rp_list (t := (Ty.tup (Ty.cons (Ty.vtup Ty.str) (Ty.last (Ty.vtup Ty.any))))) rl_nil))
  (rs_seq (rs_hide (rs_keep [.w, .w, .k, .w, .o, .w, .w] (rs_forG (w := false) (t := (Ty.tup (Ty.cons (Ty.vtup Ty.str) (Ty.last (Ty.vtup Ty.any))))) [false, true, true, true, true, false, false] (rig_list (ms := [.w, .w, .k, .w, .o, .w, .w]) (v_with_some_left_ways)) (rg_tup (rgs_cons (rg_name (ms := [.w, .w, .k, .w, .o, .w, .w]) (v_with_some_left_left)) (rgs_one (rg_name (ms := [.w, .w, .k, .w, .o, .w, .w]) (v_with_some_left_pieces))))) (rs_seq (rs_app (ms := [.w, .w, .k, .w, .o, .w, .w]) (v_with_some_left_more) (rp_tup (m := .o) (ra_cons (rp_op (m1 := .b) (m2 := .b) (v_catT (t := Ty.str)) (rp_frz .b (rp_varw (ms := [.w, .w, .k, .w, .o, .w, .w]) (v_with_some_left_left))) (rp_frz .b (rp_vtup (m := .o) (t := Ty.str) (rl_cons (rp_frz .o (rp_varw (ms := [.w, .w, .k, .w, .o, .w, .w]) (v_with_some_left_part))) rl_nil)))) (ra_one (rp_op (m1 := .b) (m2 := .b) (v_catT (t := Ty.any)) (rp_frz .b (rp_varw (ms := [.w, .w, .k, .w, .o, .w, .w]) (v_with_some_left_pieces))) (rp_frz .b (rp_vtup (m := .o) (t := Ty.any) (rl_cons (rp_any (t := (Ty.tup (Ty.cons Ty.str (Ty.last Ty.int)))) (m1 := .b) (rp_frz .b (rp_tup (m := .o) (ra_cons (rp_str) (ra_one (rp_lenV (m' := .b) (rp_frz .b (rp_varw (ms := [.w, .w, .k, .w, .o, .w, .w]) (v_with_some_left_left))))))))) rl_nil))))))))
  (rs_if (rt_test (rp_din (m := .b) (m1 := .b) (m2 := .b) (k := Ty.str) (t := (Ty.tup (Ty.cons Ty.int (Ty.last (Ty.vtup Ty.any))))) (rp_frz .b (rp_varw (ms := [.w, .w, .k, .w, .o, .w, .w]) (v_with_some_left_part))) (rp_le (rp_varw (ms := [.w, .w, .k, .w, .o, .w, .w]) (v_with_some_left_empty))))) (rs_app (ms := [.w, .w, .k, .w, .o, .w, .w]) (v_with_some_left_more) (rp_tup (m := .o) (ra_cons (rp_frz .o (rp_varw (ms := [.w, .w, .k, .w, .o, .w, .w]) (v_with_some_left_left))) (ra_one (rp_op (m1 := .b) (m2 := .b) (v_catT (t := Ty.any)) (rp_frz .b (rp_varw (ms := [.w, .w, .k, .w, .o, .w, .w]) (v_with_some_left_pieces))) (rp_frz .b (rp_vtup (m := .o) (t := Ty.any) (rl_cons (rp_any (t := (Ty.tup (Ty.cons Ty.str (Ty.last (Ty.tup (Ty.cons Ty.int (Ty.last (Ty.vtup Ty.any)))))))) (m1 := .b) (rp_frz .b (rp_tup (m := .o) (ra_cons (rp_str) (ra_one (rp_frz .o (rp_dget (m1 := .b) (m2 := .b) (k := Ty.str) (t := (Ty.tup (Ty.cons Ty.int (Ty.last (Ty.vtup Ty.any))))) (rp_le (rp_varw (ms := [.w, .w, .k, .w, .o, .w, .w]) (v_with_some_left_empty))) (rp_frz .b (rp_varw (ms := [.w, .w, .k, .w, .o, .w, .w]) (v_with_some_left_part)))))))))) rl_nil)))))))) rs_next)))))
  (rs_move (ms := M_with_some_left) (v_with_some_left_ways) (v_with_some_left_more))))))
  (rs_retm (ms := M_with_some_left) (v_with_some_left_ways))))
abbrev s_made_name : Stmt := topS 15
abbrev N_made_name : List Str := ["name", "taken", "letters", "number"]
abbrev P_made_name : List Str := ["name", "taken"]
theorem sc_made_name : FnScope N_made_name P_made_name (defScope s_made_name) := ⟨rfl, rfl, rfl, by decide +kernel, rfl, by decide +kernel, by decide +kernel⟩
abbrev g_made_name : List Ty := [Ty.str, (Ty.list Ty.str), Ty.str, Ty.int]
abbrev M_made_name : List Md := [.w, .w, .w, .w]
abbrev v_made_name_name : Mem g_made_name Ty.str := .z
abbrev v_made_name_taken : Mem g_made_name (Ty.list Ty.str) := (.s .z)
abbrev v_made_name_letters : Mem g_made_name Ty.str := (.s (.s .z))
abbrev v_made_name_number : Mem g_made_name Ty.int := (.s (.s (.s .z)))
abbrev st_made_name_1 (x0_taken : den (Ty.list Ty.str)) (x1_letters : den Ty.str) (x2_number : den Ty.int) : Gam g_made_name := (none, some x0_taken, some x1_letters, some x2_number, ())
noncomputable def lb_made_name_1 : Gam g_made_name → Option (Fl (Gam g_made_name) (den Ty.str)) :=
  (sSet (v_made_name_number) (e2 fAdd (eV (t := Ty.int) (v_made_name_number)) (eC (1 : Int))))
noncomputable def lp_made_name_1 : Gam g_made_name → Option (Fl (Gam g_made_name) (den Ty.str)) := hide (sWhile (e2 (fInD Ty.str) (e2 fCat (e2 fCat (eV (t := Ty.str) (v_made_name_letters)) (eC (Str.ofString "_"))) (e1 fStrI (eV (t := Ty.int) (v_made_name_number)))) (eV (t := (Ty.list Ty.str)) (v_made_name_taken))) (Gam.mask [false, true, true, true]) lb_made_name_1)
theorem lp_made_name_1_eq : lp_made_name_1 = (sWhile (e2 (fInD Ty.str) (e2 fCat (e2 fCat (eV (t := Ty.str) (v_made_name_letters)) (eC (Str.ofString "_"))) (e1 fStrI (eV (t := Ty.int) (v_made_name_number)))) (eV (t := (Ty.list Ty.str)) (v_made_name_taken))) (Gam.mask [false, true, true, true]) lb_made_name_1) := hide_eq _
noncomputable def b_made_name : Gam g_made_name → Option (Fl (Gam g_made_name) (den Ty.str)) :=
  (sSeq (sSet (v_made_name_letters) (eProj (b := (Ty.cons Ty.str (Ty.cons Ty.str (Ty.last Ty.str)))) (t := Ty.str) .z (e2 fPartition (eV (t := Ty.str) (v_made_name_name)) (eC (Str.ofString "_")))))
  (sSeq (sSet (v_made_name_number) (eC (0 : Int)))
  (sSeq lp_made_name_1
  (sRet (e2 fCat (e2 fCat (eV (t := Ty.str) (v_made_name_letters)) (eC (Str.ofString "_"))) (e1 fStrI (eV (t := Ty.int) (v_made_name_number))))))))
noncomputable def m_made_name : den (Ty.cons Ty.str (Ty.last (Ty.list Ty.str))) → Option (den Ty.str) := hide (runG (Ty.cons Ty.str (Ty.last (Ty.list Ty.str))) [Ty.str, Ty.int] b_made_name)
theorem m_made_name_eq (d : den (Ty.cons Ty.str (Ty.last (Ty.list Ty.str)))) : m_made_name d = runG (Ty.cons Ty.str (Ty.last (Ty.list Ty.str))) [Ty.str, Ty.int] b_made_name d := congrFun (hide_eq _) d
theorem m_made_name_at (p0 : den Ty.str) (p1 : den (Ty.list Ty.str)) : m_made_name (p0, p1) = endOf (b_made_name ((some p0, some p1, none, none, ()) : Gam g_made_name)) := by
  rw [m_made_name_eq]
  rfl
set_option maxHeartbeats 4000000 in
theorem ok_made_name {f : Addr} {fd : FuncData} (F : Fun K "made_name" "made_name" s_made_name f fd) (T : Txt K mg) :
    FnOk K.P K.w K mg base CX0 1 f fd P_made_name (spP K (Ty.cons Ty.str (Ty.last (Ty.list Ty.str))) .o Ty.str m_made_name) := by
  have S := sc_made_name
  refine fn_ok (F := b_made_name) [Ty.str, Ty.int] M_made_name F S rfl rfl rfl m_made_name_eq (fun cdv A outer s H E hr => ?_)
  refine ⟨_, (pss_cons (ps_set (i := 2) S.nd rfl (Or.inl rfl) (pe_ix (r := rIxT K) ix_tup (pe_partition (pv 0) pe_str) pe_int (fun _ _ => rfl)))
  (pss_cons (ps_set (i := 3) S.nd rfl (Or.inl rfl) pe_int)
  (pss_cons (ps_while PassesOwn.never (pt_cmpR (r := rInD K) (op_inD (hu65 hr)) (pe_op op_add_str (pe_op op_add_str (pv 2) pe_str) (pe_callTy call_str_int (by rfl) T.b_str (by decide +kernel) (pa_cons (pv 3) pa_nil))) (pv 1) (by rfl)) (pss_one (ps_aug (i := 3) S.nd rfl (.inl rfl) pe_int ip_add)))
  (pss_one (ps_ret (pe_op op_add_str (pe_op op_add_str (pv 2) pe_str) (pe_callTy call_str_int (by rfl) T.b_str (by decide +kernel) (pa_cons (pv 3) pa_nil)))))))), ?_⟩
  exact (rs_seq (rs_set (ms := M_made_name) (m := .w) (v_made_name_letters) (rp_frz .w (rp_proj (m := .b) (b := (Ty.cons Ty.str (Ty.cons Ty.str (Ty.last Ty.str)))) (t := Ty.str) .z 0 (rp_partition (m1 := .b) (m2 := .b) (rp_frz .b (rp_varw (ms := M_made_name) (v_made_name_name))) (rp_str)))))
  (rs_seq (rs_set (ms := M_made_name) (m := .w) (v_made_name_number) rp_int)
  (rs_seq (rs_hide (rs_while [false, true, true, true] (rt_test (rp_op (m := .b) (m1 := .b) (m2 := .b) (v_inD (t := Ty.str) (by decide)) (rp_op (m1 := .b) (m2 := .b) v_cat (rp_op (m1 := .b) (m2 := .b) v_cat (rp_frz .b (rp_varw (ms := M_made_name) (v_made_name_letters))) (rp_str)) (rp_strI (m' := .b) (rp_frz .b (rp_varw (ms := M_made_name) (v_made_name_number))))) (rp_le (rp_varw (ms := M_made_name) (v_made_name_taken))))) (rs_augAdd (ms := M_made_name) (v_made_name_number) rp_int)))
  (rs_ret (rm := .o) (ρ := Ty.str) (rp_op (m1 := .b) (m2 := .b) v_cat (rp_op (m1 := .b) (m2 := .b) v_cat (rp_frz .b (rp_varw (ms := M_made_name) (v_made_name_letters))) (rp_str)) (rp_strI (m' := .b) (rp_frz .b (rp_varw (ms := M_made_name) (v_made_name_number)))))))))
abbrev s_no_empty : Stmt := topS 19
abbrev N_no_empty : List Str := ["grammar", "first", "empty", "heads", "rule", "making", "number", "left", "pieces", "children", "child"]
abbrev P_no_empty : List Str := ["grammar"]
theorem sc_no_empty : FnScope N_no_empty P_no_empty (defScope s_no_empty) := ⟨rfl, rfl, rfl, by decide +kernel, rfl, by decide +kernel, by decide +kernel⟩
abbrev g_no_empty : List Ty := [(Ty.list (Ty.tup (Ty.cons Ty.str (Ty.cons (Ty.vtup Ty.str) (Ty.last Ty.int))))), Ty.str, (Ty.dict Ty.str (Ty.tup (Ty.cons Ty.int (Ty.last (Ty.vtup Ty.any))))), (Ty.list Ty.str), (Ty.tup (Ty.cons Ty.str (Ty.cons (Ty.vtup Ty.str) (Ty.last Ty.int)))), tyMk, Ty.int, (Ty.vtup Ty.str), (Ty.vtup Ty.any), (Ty.vtup Ty.any), Ty.any]
abbrev M_no_empty : List Md := [.w, .w, .l, .l, .w, .o, .w, .w, .w, .w, .w]
abbrev v_no_empty_grammar : Mem g_no_empty (Ty.list (Ty.tup (Ty.cons Ty.str (Ty.cons (Ty.vtup Ty.str) (Ty.last Ty.int))))) := .z
abbrev v_no_empty_first : Mem g_no_empty Ty.str := (.s .z)
abbrev v_no_empty_empty : Mem g_no_empty (Ty.dict Ty.str (Ty.tup (Ty.cons Ty.int (Ty.last (Ty.vtup Ty.any))))) := (.s (.s .z))
abbrev v_no_empty_heads : Mem g_no_empty (Ty.list Ty.str) := (.s (.s (.s .z)))
abbrev v_no_empty_rule : Mem g_no_empty (Ty.tup (Ty.cons Ty.str (Ty.cons (Ty.vtup Ty.str) (Ty.last Ty.int)))) := (.s (.s (.s (.s .z))))
abbrev v_no_empty_making : Mem g_no_empty tyMk := (.s (.s (.s (.s (.s .z)))))
abbrev v_no_empty_number : Mem g_no_empty Ty.int := (.s (.s (.s (.s (.s (.s .z))))))
abbrev v_no_empty_left : Mem g_no_empty (Ty.vtup Ty.str) := (.s (.s (.s (.s (.s (.s (.s .z)))))))
abbrev v_no_empty_pieces : Mem g_no_empty (Ty.vtup Ty.any) := (.s (.s (.s (.s (.s (.s (.s (.s .z))))))))
abbrev v_no_empty_children : Mem g_no_empty (Ty.vtup Ty.any) := (.s (.s (.s (.s (.s (.s (.s (.s (.s .z)))))))))
abbrev v_no_empty_child : Mem g_no_empty Ty.any := (.s (.s (.s (.s (.s (.s (.s (.s (.s (.s .z))))))))))
noncomputable def lc_no_empty_1 : Gam g_no_empty → Option (List (den Ty.bool)) := hide (eLc (eV (t := (Ty.list (Ty.tup (Ty.cons Ty.str (Ty.cons (Ty.vtup Ty.str) (Ty.last Ty.int)))))) (v_no_empty_grammar)) (bName (t := (Ty.tup (Ty.cons Ty.str (Ty.cons (Ty.vtup Ty.str) (Ty.last Ty.int))))) (v_no_empty_rule)) (Gam.mask [true, true, true, true, false, true, true, true, true, true, true]) eYes (e2 (fInD Ty.str) (eV (t := Ty.str) (v_no_empty_first)) (eProj (b := (Ty.cons Ty.str (Ty.cons (Ty.vtup Ty.str) (Ty.last Ty.int)))) (t := (Ty.vtup Ty.str)) (.s .z) (eV (t := (Ty.tup (Ty.cons Ty.str (Ty.cons (Ty.vtup Ty.str) (Ty.last Ty.int))))) (v_no_empty_rule)))))
theorem lc_no_empty_1_eq : lc_no_empty_1 = (eLc (eV (t := (Ty.list (Ty.tup (Ty.cons Ty.str (Ty.cons (Ty.vtup Ty.str) (Ty.last Ty.int)))))) (v_no_empty_grammar)) (bName (t := (Ty.tup (Ty.cons Ty.str (Ty.cons (Ty.vtup Ty.str) (Ty.last Ty.int))))) (v_no_empty_rule)) (Gam.mask [true, true, true, true, false, true, true, true, true, true, true]) eYes (e2 (fInD Ty.str) (eV (t := Ty.str) (v_no_empty_first)) (eProj (b := (Ty.cons Ty.str (Ty.cons (Ty.vtup Ty.str) (Ty.last Ty.int)))) (t := (Ty.vtup Ty.str)) (.s .z) (eV (t := (Ty.tup (Ty.cons Ty.str (Ty.cons (Ty.vtup Ty.str) (Ty.last Ty.int))))) (v_no_empty_rule))))) := hide_eq _
noncomputable def lc_no_empty_2 : Gam g_no_empty → Option (List (den (Ty.tup (Ty.cons Ty.str (Ty.last Ty.any))))) := hide (eLc (eV (t := (Ty.vtup Ty.any)) (v_no_empty_children)) (bName (t := Ty.any) (v_no_empty_child)) (Gam.mask [true, true, true, true, true, true, true, true, true, true, false]) eYes (eCons (eC (Str.ofString "tree")) (eV (t := Ty.any) (v_no_empty_child))))
theorem lc_no_empty_2_eq : lc_no_empty_2 = (eLc (eV (t := (Ty.vtup Ty.any)) (v_no_empty_children)) (bName (t := Ty.any) (v_no_empty_child)) (Gam.mask [true, true, true, true, true, true, true, true, true, true, false]) eYes (eCons (eC (Str.ofString "tree")) (eV (t := Ty.any) (v_no_empty_child)))) := hide_eq _
abbrev st_no_empty_2 (x0_first : den Ty.str) (x1_empty : den (Ty.dict Ty.str (Ty.tup (Ty.cons Ty.int (Ty.last (Ty.vtup Ty.any)))))) (x2_heads : den (Ty.list Ty.str)) (x3_rule : den (Ty.tup (Ty.cons Ty.str (Ty.cons (Ty.vtup Ty.str) (Ty.last Ty.int))))) (x4_making : den tyMk) (x5_number : den Ty.int) : Gam g_no_empty := (none, some x0_first, some x1_empty, some x2_heads, some x3_rule, some x4_making, some x5_number, none, none, none, none, ())
noncomputable def lb_no_empty_2 : Gam g_no_empty → Option (Fl (Gam g_no_empty) (den (Ty.tup (Ty.cons (Ty.own (Ty.list (Ty.tup (Ty.cons Ty.str (Ty.cons (Ty.vtup Ty.str) (Ty.last Ty.int)))))) (Ty.last (Ty.own (Ty.list Ty.any))))))) :=
  (sIf (e2 (fNeD (Ty.vtup Ty.str)) (eV (t := (Ty.vtup Ty.str)) (v_no_empty_left)) (e1 fSmall eNil)) (sSeq (sAsgE (eIO (b := (Ty.cons tyMk (Ty.cons Ty.str (Ty.cons (Ty.vtup Ty.str) (Ty.last Ty.any))))) (tio := tyMk) (v_no_empty_making) m_Making_put (eCons (eV (t := tyMk) (v_no_empty_making)) (eCons (eProj (b := (Ty.cons Ty.str (Ty.cons (Ty.vtup Ty.str) (Ty.last Ty.int)))) (t := Ty.str) .z (eV (t := (Ty.tup (Ty.cons Ty.str (Ty.cons (Ty.vtup Ty.str) (Ty.last Ty.int))))) (v_no_empty_rule))) (eCons (eV (t := (Ty.vtup Ty.str)) (v_no_empty_left)) (e1 (fun d => some ((emb (Ty.tup (Ty.cons (Ty.tup (Ty.last Ty.int)) (Ty.last (Ty.vtup Ty.any))))).1 d)) (eCons (eV (t := Ty.int) (v_no_empty_number)) (eV (t := (Ty.vtup Ty.any)) (v_no_empty_pieces)))))))) fun _ Γ => Γ)
  (sIf (e2 fEqS (eProj (b := (Ty.cons Ty.str (Ty.cons (Ty.vtup Ty.str) (Ty.last Ty.int)))) (t := Ty.str) .z (eV (t := (Ty.tup (Ty.cons Ty.str (Ty.cons (Ty.vtup Ty.str) (Ty.last Ty.int))))) (v_no_empty_rule))) (eV (t := Ty.str) (v_no_empty_first))) (sAsgE (eIO (b := (Ty.cons tyMk (Ty.cons Ty.str (Ty.cons (Ty.vtup Ty.str) (Ty.last Ty.any))))) (tio := tyMk) (v_no_empty_making) m_Making_put (eCons (eV (t := tyMk) (v_no_empty_making)) (eCons (e2 atI (eV (t := (Ty.list Ty.str)) (v_no_empty_heads)) (eC (0 : Int))) (eCons (eV (t := (Ty.vtup Ty.str)) (v_no_empty_left)) (e1 (fun d => some ((emb (Ty.tup (Ty.cons (Ty.tup (Ty.last Ty.int)) (Ty.last (Ty.vtup Ty.any))))).1 d)) (eCons (eV (t := Ty.int) (v_no_empty_number)) (eV (t := (Ty.vtup Ty.any)) (v_no_empty_pieces)))))))) fun _ Γ => Γ) sNext)) sNext)
noncomputable def lp_no_empty_2 : Gam g_no_empty → Option (Fl (Gam g_no_empty) (den (Ty.tup (Ty.cons (Ty.own (Ty.list (Ty.tup (Ty.cons Ty.str (Ty.cons (Ty.vtup Ty.str) (Ty.last Ty.int)))))) (Ty.last (Ty.own (Ty.list Ty.any))))))) := hide (sFor (e1 m_with_some_left (eCons (eProj (b := (Ty.cons Ty.str (Ty.cons (Ty.vtup Ty.str) (Ty.last Ty.int)))) (t := (Ty.vtup Ty.str)) (.s .z) (eV (t := (Ty.tup (Ty.cons Ty.str (Ty.cons (Ty.vtup Ty.str) (Ty.last Ty.int))))) (v_no_empty_rule))) (eV (t := (Ty.dict Ty.str (Ty.tup (Ty.cons Ty.int (Ty.last (Ty.vtup Ty.any)))))) (v_no_empty_empty)))) (bCons (bName (t := (Ty.vtup Ty.str)) (v_no_empty_left)) (bName (t := (Ty.vtup Ty.any)) (v_no_empty_pieces))) (Gam.mask [false, true, true, true, true, true, true, false, false, false, false]) lb_no_empty_2)
theorem lp_no_empty_2_eq : lp_no_empty_2 = (sFor (e1 m_with_some_left (eCons (eProj (b := (Ty.cons Ty.str (Ty.cons (Ty.vtup Ty.str) (Ty.last Ty.int)))) (t := (Ty.vtup Ty.str)) (.s .z) (eV (t := (Ty.tup (Ty.cons Ty.str (Ty.cons (Ty.vtup Ty.str) (Ty.last Ty.int))))) (v_no_empty_rule))) (eV (t := (Ty.dict Ty.str (Ty.tup (Ty.cons Ty.int (Ty.last (Ty.vtup Ty.any)))))) (v_no_empty_empty)))) (bCons (bName (t := (Ty.vtup Ty.str)) (v_no_empty_left)) (bName (t := (Ty.vtup Ty.any)) (v_no_empty_pieces))) (Gam.mask [false, true, true, true, true, true, true, false, false, false, false]) lb_no_empty_2) := hide_eq _
abbrev st_no_empty_1 (x0_first : den Ty.str) (x1_empty : den (Ty.dict Ty.str (Ty.tup (Ty.cons Ty.int (Ty.last (Ty.vtup Ty.any)))))) (x2_heads : den (Ty.list Ty.str)) (x3_making : den tyMk) : Gam g_no_empty := (none, some x0_first, some x1_empty, some x2_heads, none, some x3_making, none, none, none, none, none, ())
noncomputable def lb_no_empty_1 : Gam g_no_empty → Option (Fl (Gam g_no_empty) (den (Ty.tup (Ty.cons (Ty.own (Ty.list (Ty.tup (Ty.cons Ty.str (Ty.cons (Ty.vtup Ty.str) (Ty.last Ty.int)))))) (Ty.last (Ty.own (Ty.list Ty.any))))))) :=
  lp_no_empty_2
noncomputable def lp_no_empty_1 : Gam g_no_empty → Option (Fl (Gam g_no_empty) (den (Ty.tup (Ty.cons (Ty.own (Ty.list (Ty.tup (Ty.cons Ty.str (Ty.cons (Ty.vtup Ty.str) (Ty.last Ty.int)))))) (Ty.last (Ty.own (Ty.list Ty.any))))))) := hide (sFor (e1 fEnum (eV (t := (Ty.list (Ty.tup (Ty.cons Ty.str (Ty.cons (Ty.vtup Ty.str) (Ty.last Ty.int)))))) (v_no_empty_grammar))) (bCons (bName (t := Ty.int) (v_no_empty_number)) (bName (t := (Ty.tup (Ty.cons Ty.str (Ty.cons (Ty.vtup Ty.str) (Ty.last Ty.int))))) (v_no_empty_rule))) (Gam.mask [false, true, true, true, false, true, false, false, false, false, false]) lb_no_empty_1)
theorem lp_no_empty_1_eq : lp_no_empty_1 = (sFor (e1 fEnum (eV (t := (Ty.list (Ty.tup (Ty.cons Ty.str (Ty.cons (Ty.vtup Ty.str) (Ty.last Ty.int)))))) (v_no_empty_grammar))) (bCons (bName (t := Ty.int) (v_no_empty_number)) (bName (t := (Ty.tup (Ty.cons Ty.str (Ty.cons (Ty.vtup Ty.str) (Ty.last Ty.int))))) (v_no_empty_rule))) (Gam.mask [false, true, true, true, false, true, false, false, false, false, false]) lb_no_empty_1) := hide_eq _
noncomputable def b_no_empty : Gam g_no_empty → Option (Fl (Gam g_no_empty) (den (Ty.tup (Ty.cons (Ty.own (Ty.list (Ty.tup (Ty.cons Ty.str (Ty.cons (Ty.vtup Ty.str) (Ty.last Ty.int)))))) (Ty.last (Ty.own (Ty.list Ty.any))))))) :=
  (sSeq (sSet (v_no_empty_first) (eProj (b := (Ty.cons Ty.str (Ty.cons (Ty.vtup Ty.str) (Ty.last Ty.int)))) (t := Ty.str) .z (e2 atI (eV (t := (Ty.list (Ty.tup (Ty.cons Ty.str (Ty.cons (Ty.vtup Ty.str) (Ty.last Ty.int)))))) (v_no_empty_grammar)) (eC (0 : Int)))))
  (sSeq (sSet (v_no_empty_empty) (e1 m_empty_trees (eV (t := (Ty.list (Ty.tup (Ty.cons Ty.str (Ty.cons (Ty.vtup Ty.str) (Ty.last Ty.int)))))) (v_no_empty_grammar))))
  (sSeq (sSet (v_no_empty_heads) (e1 fSmall (eSnoc (eV (t := Ty.str) (v_no_empty_first)) eNil)))
  (sSeq (sIf (eAnd (e2 (fInK (k := Ty.str) (β := den (Ty.tup (Ty.cons Ty.int (Ty.last (Ty.vtup Ty.any)))))) (eV (t := Ty.str) (v_no_empty_first)) (eV (t := (Ty.dict Ty.str (Ty.tup (Ty.cons Ty.int (Ty.last (Ty.vtup Ty.any)))))) (v_no_empty_empty))) (e1 fAny lc_no_empty_1)) (sSet (v_no_empty_heads) (e1 fSmall (eSnoc (e1 m_made_name (eCons (eV (t := Ty.str) (v_no_empty_first)) (e1 m_names (eV (t := (Ty.list (Ty.tup (Ty.cons Ty.str (Ty.cons (Ty.vtup Ty.str) (Ty.last Ty.int)))))) (v_no_empty_grammar))))) (eSnoc (eV (t := Ty.str) (v_no_empty_first)) eNil)))) sNext)
  (sSeq (sSet (v_no_empty_making) eMk)
  (sSeq lp_no_empty_1
  (sSeq (sIf (e2 (fInK (k := Ty.str) (β := den (Ty.tup (Ty.cons Ty.int (Ty.last (Ty.vtup Ty.any)))))) (eV (t := Ty.str) (v_no_empty_first)) (eV (t := (Ty.dict Ty.str (Ty.tup (Ty.cons Ty.int (Ty.last (Ty.vtup Ty.any)))))) (v_no_empty_empty))) (sSeq (sAsg (e2 (fGetK (k := Ty.str) (β := den (Ty.tup (Ty.cons Ty.int (Ty.last (Ty.vtup Ty.any)))))) (eV (t := (Ty.dict Ty.str (Ty.tup (Ty.cons Ty.int (Ty.last (Ty.vtup Ty.any)))))) (v_no_empty_empty)) (eV (t := Ty.str) (v_no_empty_first))) (bCons (bName (t := Ty.int) (v_no_empty_number)) (bName (t := (Ty.vtup Ty.any)) (v_no_empty_children))))
  (sAsgE (eIO (b := (Ty.cons tyMk (Ty.cons Ty.str (Ty.cons (Ty.vtup Ty.str) (Ty.last Ty.any))))) (tio := tyMk) (v_no_empty_making) m_Making_put (eCons (eV (t := tyMk) (v_no_empty_making)) (eCons (e2 atI (eV (t := (Ty.list Ty.str)) (v_no_empty_heads)) (eC (0 : Int))) (eCons (e1 fSmall eNil) (e1 (fun d => some ((emb (Ty.tup (Ty.cons (Ty.tup (Ty.last Ty.int)) (Ty.last (Ty.vtup (Ty.tup (Ty.cons Ty.str (Ty.last Ty.any)))))))).1 d)) (eCons (eV (t := Ty.int) (v_no_empty_number)) lc_no_empty_2)))))) fun _ Γ => Γ)) sNext)
  (sRetE (eIO (b := (Ty.cons tyMk (Ty.last Ty.str))) (tio := tyMk) (v_no_empty_making) m_Making_told (eCons (eV (t := tyMk) (v_no_empty_making)) (e2 atI (eV (t := (Ty.list Ty.str)) (v_no_empty_heads)) (eC (0 : Int)))))))))))))
noncomputable def m_no_empty : den (Ty.last (Ty.list (Ty.tup (Ty.cons Ty.str (Ty.cons (Ty.vtup Ty.str) (Ty.last Ty.int)))))) → Option (den (Ty.tup (Ty.cons (Ty.own (Ty.list (Ty.tup (Ty.cons Ty.str (Ty.cons (Ty.vtup Ty.str) (Ty.last Ty.int)))))) (Ty.last (Ty.own (Ty.list Ty.any)))))) := hide (runG (Ty.last (Ty.list (Ty.tup (Ty.cons Ty.str (Ty.cons (Ty.vtup Ty.str) (Ty.last Ty.int)))))) [Ty.str, (Ty.dict Ty.str (Ty.tup (Ty.cons Ty.int (Ty.last (Ty.vtup Ty.any))))), (Ty.list Ty.str), (Ty.tup (Ty.cons Ty.str (Ty.cons (Ty.vtup Ty.str) (Ty.last Ty.int)))), tyMk, Ty.int, (Ty.vtup Ty.str), (Ty.vtup Ty.any), (Ty.vtup Ty.any), Ty.any] b_no_empty)
theorem m_no_empty_eq (d : den (Ty.last (Ty.list (Ty.tup (Ty.cons Ty.str (Ty.cons (Ty.vtup Ty.str) (Ty.last Ty.int))))))) : m_no_empty d = runG (Ty.last (Ty.list (Ty.tup (Ty.cons Ty.str (Ty.cons (Ty.vtup Ty.str) (Ty.last Ty.int)))))) [Ty.str, (Ty.dict Ty.str (Ty.tup (Ty.cons Ty.int (Ty.last (Ty.vtup Ty.any))))), (Ty.list Ty.str), (Ty.tup (Ty.cons Ty.str (Ty.cons (Ty.vtup Ty.str) (Ty.last Ty.int)))), tyMk, Ty.int, (Ty.vtup Ty.str), (Ty.vtup Ty.any), (Ty.vtup Ty.any), Ty.any] b_no_empty d := congrFun (hide_eq _) d
theorem m_no_empty_at (p0 : den (Ty.list (Ty.tup (Ty.cons Ty.str (Ty.cons (Ty.vtup Ty.str) (Ty.last Ty.int)))))) : m_no_empty (p0) = endOf (b_no_empty ((some p0, none, none, none, none, none, none, none, none, none, none, ()) : Gam g_no_empty)) := by
  rw [m_no_empty_eq]
  rfl
set_option maxHeartbeats 4000000 in
theorem ok_no_empty {f : Addr} {fd : FuncData} (F : Fun K "no_empty" "no_empty" s_no_empty f fd) (T : Txt K mg) {f_empty_trees : Addr} {fd_empty_trees : FuncData} (D_empty_trees : Df K mg "empty_trees" "empty_trees" s_empty_trees P_empty_trees f_empty_trees fd_empty_trees) (G_empty_trees : FnOk K.P K.w K mg base CX0 1 f_empty_trees fd_empty_trees P_empty_trees (spP K (Ty.last (Ty.list (Ty.tup (Ty.cons Ty.str (Ty.cons (Ty.vtup Ty.str) (Ty.last Ty.int)))))) .o (Ty.dict Ty.str (Ty.tup (Ty.cons Ty.int (Ty.last (Ty.vtup Ty.any))))) m_empty_trees)) {f_made_name : Addr} {fd_made_name : FuncData} (D_made_name : Df K mg "made_name" "made_name" s_made_name P_made_name f_made_name fd_made_name) (G_made_name : FnOk K.P K.w K mg base CX0 1 f_made_name fd_made_name P_made_name (spP K (Ty.cons Ty.str (Ty.last (Ty.list Ty.str))) .o Ty.str m_made_name)) {f_names : Addr} {fd_names : FuncData} (D_names : Df K mg "names" "names" s_names P_names f_names fd_names) (G_names : FnOk K.P K.w K mg base CX0 1 f_names fd_names P_names (spP K (Ty.last (Ty.list (Ty.tup (Ty.cons Ty.str (Ty.cons (Ty.vtup Ty.str) (Ty.last Ty.int)))))) .o (Ty.list Ty.str) m_names)) {C_Making___init__ : Addr} {f_Making___init__ : Addr} {fd_Making___init__ : FuncData} (D_Making___init__ : DfI K mg "__init__" "Making.__init__" s_Making___init__ P_Making___init__ C_Making___init__ f_Making___init__ fd_Making___init__) (G_Making___init__ : FnOk K.P K.w K mg base CX0 1 f_Making___init__ fd_Making___init__ P_Making___init__ (spMk C_Making___init__)) {f_with_some_left : Addr} {fd_with_some_left : FuncData} (D_with_some_left : Df K mg "with_some_left" "with_some_left" s_with_some_left P_with_some_left f_with_some_left fd_with_some_left) (G_with_some_left : FnOk K.P K.w K mg base CX0 1 f_with_some_left fd_with_some_left P_with_some_left (spP K (Ty.cons (Ty.vtup Ty.str) (Ty.last (Ty.dict Ty.str (Ty.tup (Ty.cons Ty.int (Ty.last (Ty.vtup Ty.any))))))) .o (Ty.list (Ty.tup (Ty.cons (Ty.vtup Ty.str) (Ty.last (Ty.vtup Ty.any))))) m_with_some_left)) {C_Making_put : Addr} {f_Making_put : Addr} {fd_Making_put : FuncData} (D_Making_put : DfM K mg "put" "Making.put" s_Making_put P_Making_put C_Making_put f_Making_put fd_Making_put) (G_Making_put : FnOk K.P K.w K mg base CX0 1 f_Making_put fd_Making_put P_Making_put (spIO K (Ty.cons tyMk (Ty.cons Ty.str (Ty.cons (Ty.vtup Ty.str) (Ty.last Ty.any)))) (.z : RIx (Ty.cons tyMk (Ty.cons Ty.str (Ty.cons (Ty.vtup Ty.str) (Ty.last Ty.any)))) tyMk) .o Ty.non m_Making_put)) {C_Making_told : Addr} {f_Making_told : Addr} {fd_Making_told : FuncData} (D_Making_told : DfM K mg "told" "Making.told" s_Making_told P_Making_told C_Making_told f_Making_told fd_Making_told) (G_Making_told : FnOk K.P K.w K mg base CX0 2 f_Making_told fd_Making_told P_Making_told (spIO K (Ty.cons tyMk (Ty.last Ty.str)) (.z : RIx (Ty.cons tyMk (Ty.last Ty.str)) tyMk) .o (Ty.tup (Ty.cons (Ty.own (Ty.list (Ty.tup (Ty.cons Ty.str (Ty.cons (Ty.vtup Ty.str) (Ty.last Ty.int)))))) (Ty.last (Ty.own (Ty.list Ty.any))))) m_Making_told)) :
    FnOk K.P K.w K mg base CX0 3 f fd P_no_empty (spP K (Ty.last (Ty.list (Ty.tup (Ty.cons Ty.str (Ty.cons (Ty.vtup Ty.str) (Ty.last Ty.int)))))) .o (Ty.tup (Ty.cons (Ty.own (Ty.list (Ty.tup (Ty.cons Ty.str (Ty.cons (Ty.vtup Ty.str) (Ty.last Ty.int)))))) (Ty.last (Ty.own (Ty.list Ty.any))))) m_no_empty) := by
  have S := sc_no_empty
  refine fn_ok (F := b_no_empty) [Ty.str, (Ty.dict Ty.str (Ty.tup (Ty.cons Ty.int (Ty.last (Ty.vtup Ty.any))))), (Ty.list Ty.str), (Ty.tup (Ty.cons Ty.str (Ty.cons (Ty.vtup Ty.str) (Ty.last Ty.int)))), tyMk, Ty.int, (Ty.vtup Ty.str), (Ty.vtup Ty.any), (Ty.vtup Ty.any), Ty.any] M_no_empty F S rfl rfl rfl m_no_empty_eq (fun cdv A outer s H E hr => ?_)
  refine ⟨_, (pss_cons (ps_set (i := 1) S.nd rfl (Or.inr rfl) (pe_ix (r := rIxT K) ix_tup (pe_ix (r := rIxL K) ix_list (pv 0) pe_int (fun _ _ => rfl)) pe_int (fun _ _ => rfl)))
  (pss_cons (ps_set (i := 2) S.nd rfl (Or.inl rfl) (pe_call G_empty_trees (hr.mono (by decide)) rfl D_empty_trees.gl D_empty_trees.fn.kp D_empty_trees.bi .nil pass0 (pa_cons (pv 0) pa_nil)))
  (pss_cons (ps_set (i := 3) S.nd rfl (Or.inl rfl) (pe_lst (pa_cons (pv 1) pa_nil)))
  (pss_cons (ps_if (PW.pt (pw_and (pt_cmp (pc_din (hu_of hr) (pv 1) (pv 2)) (by rfl)) (pw_and1 (pt_val (pe_callB (r := rAnyD K) (call_anyD rfl) (by rfl) T.b_any (by decide +kernel) (pa_cons (pe_lc (own := [("rule", 4)]) rfl S.nd (pi_listK K rfl (pv 0)) (blkOk_by (N := N_no_empty) (sc := defScope s_no_empty) (by decide +kernel)) (fun _ _ _ _ _ => (pg_name (i := 4) S.nd rfl (Or.inl rfl))) (fun _ _ _ _ _ => pts_nil) (fun _ _ _ _ _ => (pe_cmpR (r := rIn K false) op_in_seq (pv 1) (pe_ix (r := rIxT K) ix_tup (pv 4) pe_int (fun _ _ => rfl)) (by rfl)))) pa_nil)))))) (pss_one (ps_set (i := 3) S.nd rfl (Or.inl rfl) (pe_lst (pa_cons (pe_call G_made_name (hr.mono (by decide)) rfl D_made_name.gl D_made_name.fn.kp D_made_name.bi .nil pass0 (pa_cons (pv 1) (pa_cons (pe_call G_names (hr.mono (by decide)) rfl D_names.gl D_names.fn.kp D_names.bi .nil pass0 (pa_cons (pv 0) pa_nil)) pa_nil))) (pa_cons (pv 1) pa_nil))))) pss_nil)
  (pss_cons (ps_set (i := 5) S.nd rfl (Or.inl rfl) (pe_make0 D_Making___init__.mm G_Making___init__ (hr.mono (by decide)) rfl D_Making___init__.mt.gl D_Making___init__.bi .nil pass0))
  (pss_cons (ps_for PassesOwn.never rfl (pi_enum rfl T.b_enumerate (pa_cons (pv 0) pa_nil)) (pg_tupK (n := 2) K rfl rfl (pgs_cons (pg_name (i := 6) S.nd rfl (Or.inl rfl)) (pgs_cons (pg_name (i := 4) S.nd rfl (Or.inl rfl)) pgs_nil))) (pss_one (ps_for PassesOwn.never rfl (pi_listK K rfl (pe_call G_with_some_left (hr.mono (by decide)) rfl D_with_some_left.gl D_with_some_left.fn.kp D_with_some_left.bi .nil pass0 (pa_cons (pe_ix (r := rIxT K) ix_tup (pv 4) pe_int (fun _ _ => rfl)) (pa_cons (pv 2) pa_nil)))) (pg_tupK (n := 2) K rfl rfl (pgs_cons (pg_name (i := 7) S.nd rfl (Or.inl rfl)) (pgs_cons (pg_name (i := 8) S.nd rfl (Or.inl rfl)) pgs_nil))) (pss_one (ps_if (pt_cmpR (r := rNeD K) (op_neD hr.units) (pv 7) (pe_tup pa_nil) (nomark _)) (pss_cons (ps_expr (pe_meth (pv 5) D_Making_put.mt.ci.cls D_Making_put.me G_Making_put (hr.mono (by decide)) D_Making_put.bi .nil pass0  (pa_cons (pe_ix (r := rIxT K) ix_tup (pv 4) pe_int (fun _ _ => rfl)) (pa_cons (pv 7) (pa_cons (pe_tup (pa_cons (pe_tup (pa_cons (pv 6) pa_nil)) (pa_cons (pv 8) pa_nil))) pa_nil)))))
  (pss_one (ps_if (pt_cmpR op_eq (pe_ix (r := rIxT K) ix_tup (pv 4) pe_int (fun _ _ => rfl)) (pv 1) (nomark _)) (pss_one (ps_expr (pe_meth (pv 5) D_Making_put.mt.ci.cls D_Making_put.me G_Making_put (hr.mono (by decide)) D_Making_put.bi .nil pass0  (pa_cons (pe_ix (r := rIxL K) ix_list (pv 3) pe_int (fun _ _ => rfl)) (pa_cons (pv 7) (pa_cons (pe_tup (pa_cons (pe_tup (pa_cons (pv 6) pa_nil)) (pa_cons (pv 8) pa_nil))) pa_nil)))))) pss_nil))) pss_nil)))))
  (pss_cons (ps_if (pt_cmp (pc_din (hu_of hr) (pv 1) (pv 2)) (by rfl)) (pss_cons (ps_asg (pe_dget (hu_of hr) (pv 2) (pv 1) (fun _ _ => rfl)) (pg_tupK (n := 2) K rfl rfl (pgs_cons (pg_name (i := 6) S.nd rfl (Or.inl rfl)) (pgs_cons (pg_name (i := 9) S.nd rfl (Or.inl rfl)) pgs_nil))))
  (pss_one (ps_expr (pe_meth (pv 5) D_Making_put.mt.ci.cls D_Making_put.me G_Making_put (hr.mono (by decide)) D_Making_put.bi .nil pass0  (pa_cons (pe_ix (r := rIxL K) ix_list (pv 3) pe_int (fun _ _ => rfl)) (pa_cons (pe_tup pa_nil) (pa_cons (pe_tup (pa_cons (pe_tup (pa_cons (pv 6) pa_nil)) (pa_cons (pe_callTy (r := rTupOf K) call_tuple_of (by rfl) T.b_tuple (by decide +kernel) (pa_cons (pe_lc (own := [("child", 10)]) rfl S.nd (pi_tupK K rfl (pv 9)) (blkOk_by (N := N_no_empty) (sc := defScope s_no_empty) (by decide +kernel)) (fun _ _ _ _ _ => (pg_name (i := 10) S.nd rfl (Or.inl rfl))) (fun _ _ _ _ _ => pts_nil) (fun _ _ _ _ _ => (pe_tup (pa_cons pe_str (pa_cons (pv 10) pa_nil))))) pa_nil)) pa_nil))) pa_nil))))))) pss_nil)
  (pss_one (ps_ret (pe_meth (pv 5) D_Making_told.mt.ci.cls D_Making_told.me G_Making_told (hr.mono (by decide)) D_Making_told.bi .nil pass0  (pa_cons (pe_ix (r := rIxL K) ix_list (pv 3) pe_int (fun _ _ => rfl)) pa_nil))))))))))), ?_⟩
  exact (rs_seq (rs_set (ms := M_no_empty) (m := .w) (v_no_empty_first) (rp_frz .w (rp_proj (m := .b) (b := (Ty.cons Ty.str (Ty.cons (Ty.vtup Ty.str) (Ty.last Ty.int)))) (t := Ty.str) .z 0 (rp_op (m1 := .b) (m2 := .b) (v_ixL (t := (Ty.tup (Ty.cons Ty.str (Ty.cons (Ty.vtup Ty.str) (Ty.last Ty.int)))))) (rp_le (rp_varw (ms := M_no_empty) (v_no_empty_grammar))) rp_int))))
  (rs_seq (rs_set (ms := M_no_empty) (m := .l) (v_no_empty_empty) (rp_le (rp_call (mA := .b) (rm := .o) (ρ := (Ty.dict Ty.str (Ty.tup (Ty.cons Ty.int (Ty.last (Ty.vtup Ty.any)))))) (m := m_empty_trees) rfl (ra_one (rp_le (rp_varw (ms := M_no_empty) (v_no_empty_grammar)))))))
  (rs_seq (rs_set (ms := M_no_empty) (m := .l) (v_no_empty_heads) (rp_le (rp_list (t := Ty.str) (rl_cons (rp_frz .o (rp_varw (ms := M_no_empty) (v_no_empty_first))) rl_nil))))
  (rs_seq (rs_if (rt_and (rt_test (rp_din (m := .b) (m1 := .b) (m2 := .b) (k := Ty.str) (t := (Ty.tup (Ty.cons Ty.int (Ty.last (Ty.vtup Ty.any))))) (rp_frz .b (rp_varw (ms := M_no_empty) (v_no_empty_first))) (rp_le (rp_varl (ms := M_no_empty) (v_no_empty_empty))))) (rt_val (m := .b) (rp_any_ (m' := .b) (rp_le (rp_hide (rp_lc (w := true) (m := .o) (t := (Ty.tup (Ty.cons Ty.str (Ty.cons (Ty.vtup Ty.str) (Ty.last Ty.int))))) (u := Ty.bool) [true, true, true, true, false, true, true, true, true, true, true] [4] (ris_of (ri_list (w := true) (t := (Ty.tup (Ty.cons Ty.str (Ty.cons (Ty.vtup Ty.str) (Ty.last Ty.int))))) (rp_varw (ms := M_no_empty) (v_no_empty_grammar)))) (rg_name (ms := M_no_empty) (v_no_empty_rule)) gw_name rt_yes (rp_op (m1 := .b) (m2 := .b) (v_inV (t := Ty.str) rfl) (rp_frz .b (rp_varw (ms := M_no_empty) (v_no_empty_first))) (rp_proj (m := .b) (b := (Ty.cons Ty.str (Ty.cons (Ty.vtup Ty.str) (Ty.last Ty.int)))) (t := (Ty.vtup Ty.str)) (.s .z) 1 (rp_frz .b (rp_varw (ms := M_no_empty) (v_no_empty_rule))))))))))) (rs_set (ms := M_no_empty) (m := .l) (v_no_empty_heads) (rp_le (rp_list (t := Ty.str) (rl_cons (rp_call (mA := .b) (rm := .o) (ρ := Ty.str) (m := m_made_name) rfl (ra_cons (rp_frz .b (rp_varw (ms := M_no_empty) (v_no_empty_first))) (ra_one (rp_le (rp_call (mA := .b) (rm := .o) (ρ := (Ty.list Ty.str)) (m := m_names) rfl (ra_one (rp_le (rp_varw (ms := M_no_empty) (v_no_empty_grammar))))))))) (rl_cons (rp_frz .o (rp_varw (ms := M_no_empty) (v_no_empty_first))) rl_nil))))) rs_next)
  (rs_seq (rs_set (ms := M_no_empty) (m := .o) (v_no_empty_making) (rp_mk D_Making___init__.mt.ci))
  (rs_seq (rs_hide (rs_for (w := true) (t := (Ty.tup (Ty.cons Ty.int (Ty.last (Ty.tup (Ty.cons Ty.str (Ty.cons (Ty.vtup Ty.str) (Ty.last Ty.int)))))))) [false, true, true, true, false, true, false, false, false, false, false] (ri_enum (w := true) (t := (Ty.tup (Ty.cons Ty.str (Ty.cons (Ty.vtup Ty.str) (Ty.last Ty.int))))) (rp_varw (ms := M_no_empty) (v_no_empty_grammar))) (rg_tup (rgs_cons (rg_name (ms := M_no_empty) (v_no_empty_number)) (rgs_one (rg_name (ms := M_no_empty) (v_no_empty_rule))))) (rs_hide (rs_for (w := false) (t := (Ty.tup (Ty.cons (Ty.vtup Ty.str) (Ty.last (Ty.vtup Ty.any))))) [false, true, true, true, true, true, true, false, false, false, false] (ri_list (w := false) (t := (Ty.tup (Ty.cons (Ty.vtup Ty.str) (Ty.last (Ty.vtup Ty.any))))) (rp_le (rp_call (mA := .b) (rm := .o) (ρ := (Ty.list (Ty.tup (Ty.cons (Ty.vtup Ty.str) (Ty.last (Ty.vtup Ty.any)))))) (m := m_with_some_left) rfl (ra_cons (rp_proj (m := .b) (b := (Ty.cons Ty.str (Ty.cons (Ty.vtup Ty.str) (Ty.last Ty.int)))) (t := (Ty.vtup Ty.str)) (.s .z) 1 (rp_frz .b (rp_varw (ms := M_no_empty) (v_no_empty_rule)))) (ra_one (rp_le (rp_varl (ms := M_no_empty) (v_no_empty_empty)))))))) (rg_tup (rgs_cons (rg_name (ms := M_no_empty) (v_no_empty_left)) (rgs_one (rg_name (ms := M_no_empty) (v_no_empty_pieces))))) (rs_if (rt_test (rp_op (m := .b) (m1 := .b) (m2 := .b) (v_neD (t := (Ty.vtup Ty.str)) (by decide)) (rp_frz .b (rp_varw (ms := M_no_empty) (v_no_empty_left))) (rp_frz .b (rp_vtup (m := .o) (t := Ty.str) rl_nil)))) (rs_seq (rs_dropE (t := Ty.non) (re_l (re_meth (ms := M_no_empty) (re_callIO (ms := M_no_empty) (rm := .o) (ρ := Ty.non) (m := m_Making_put) (i := (v_no_empty_making)) (r := (.z : RIx (Ty.cons tyMk (Ty.cons Ty.str (Ty.cons (Ty.vtup Ty.str) (Ty.last Ty.any)))) tyMk)) (raio_here (ms := M_no_empty) (v_no_empty_making) (ra_cons (rp_frz .w (rp_proj (m := .b) (b := (Ty.cons Ty.str (Ty.cons (Ty.vtup Ty.str) (Ty.last Ty.int)))) (t := Ty.str) .z 0 (rp_frz .b (rp_varw (ms := M_no_empty) (v_no_empty_rule))))) (ra_cons (rp_varw (ms := M_no_empty) (v_no_empty_left)) (ra_one (rp_any (t := (Ty.tup (Ty.cons (Ty.tup (Ty.last Ty.int)) (Ty.last (Ty.vtup Ty.any))))) (m1 := .b) (rp_frz .b (rp_tup (m := .o) (ra_cons (rp_tup (m := .o) (ra_one (rp_frz .o (rp_varw (ms := M_no_empty) (v_no_empty_number))))) (ra_one (rp_frz .o (rp_varw (ms := M_no_empty) (v_no_empty_pieces))))))))))))) eCons_here D_Making_put.mt.ci (hk := by decide +kernel))))
  (rs_if (rt_test (rp_op (m := .b) (m1 := .b) (m2 := .b) v_eqS (rp_proj (m := .b) (b := (Ty.cons Ty.str (Ty.cons (Ty.vtup Ty.str) (Ty.last Ty.int)))) (t := Ty.str) .z 0 (rp_frz .b (rp_varw (ms := M_no_empty) (v_no_empty_rule)))) (rp_frz .b (rp_varw (ms := M_no_empty) (v_no_empty_first))))) (rs_dropE (t := Ty.non) (re_l (re_meth (ms := M_no_empty) (re_callIO (ms := M_no_empty) (rm := .o) (ρ := Ty.non) (m := m_Making_put) (i := (v_no_empty_making)) (r := (.z : RIx (Ty.cons tyMk (Ty.cons Ty.str (Ty.cons (Ty.vtup Ty.str) (Ty.last Ty.any)))) tyMk)) (raio_here (ms := M_no_empty) (v_no_empty_making) (ra_cons (rp_frz .w (rp_op (m1 := .b) (m2 := .b) (v_ixL (t := Ty.str)) (rp_le (rp_varl (ms := M_no_empty) (v_no_empty_heads))) rp_int)) (ra_cons (rp_varw (ms := M_no_empty) (v_no_empty_left)) (ra_one (rp_any (t := (Ty.tup (Ty.cons (Ty.tup (Ty.last Ty.int)) (Ty.last (Ty.vtup Ty.any))))) (m1 := .b) (rp_frz .b (rp_tup (m := .o) (ra_cons (rp_tup (m := .o) (ra_one (rp_frz .o (rp_varw (ms := M_no_empty) (v_no_empty_number))))) (ra_one (rp_frz .o (rp_varw (ms := M_no_empty) (v_no_empty_pieces))))))))))))) eCons_here D_Making_put.mt.ci (hk := by decide +kernel)))) rs_next)) rs_next)))))
  (rs_seq (rs_if (rt_test (rp_din (m := .b) (m1 := .b) (m2 := .b) (k := Ty.str) (t := (Ty.tup (Ty.cons Ty.int (Ty.last (Ty.vtup Ty.any))))) (rp_frz .b (rp_varw (ms := M_no_empty) (v_no_empty_first))) (rp_le (rp_varl (ms := M_no_empty) (v_no_empty_empty))))) (rs_seq (rs_asg (w := false) (t := (Ty.tup (Ty.cons Ty.int (Ty.last (Ty.vtup Ty.any))))) (rp_frz .l (rp_dget (m1 := .b) (m2 := .b) (k := Ty.str) (t := (Ty.tup (Ty.cons Ty.int (Ty.last (Ty.vtup Ty.any))))) (rp_le (rp_varl (ms := M_no_empty) (v_no_empty_empty))) (rp_frz .b (rp_varw (ms := M_no_empty) (v_no_empty_first))))) (rg_tup (rgs_cons (rg_name (ms := M_no_empty) (v_no_empty_number)) (rgs_one (rg_name (ms := M_no_empty) (v_no_empty_children))))))
  (rs_dropE (t := Ty.non) (re_l (re_meth (ms := M_no_empty) (re_callIO (ms := M_no_empty) (rm := .o) (ρ := Ty.non) (m := m_Making_put) (i := (v_no_empty_making)) (r := (.z : RIx (Ty.cons tyMk (Ty.cons Ty.str (Ty.cons (Ty.vtup Ty.str) (Ty.last Ty.any)))) tyMk)) (raio_here (ms := M_no_empty) (v_no_empty_making) (ra_cons (rp_frz .w (rp_op (m1 := .b) (m2 := .b) (v_ixL (t := Ty.str)) (rp_le (rp_varl (ms := M_no_empty) (v_no_empty_heads))) rp_int)) (ra_cons (rp_frz .w (rp_vtup (m := .o) (t := Ty.str) rl_nil)) (ra_one (rp_any (t := (Ty.tup (Ty.cons (Ty.tup (Ty.last Ty.int)) (Ty.last (Ty.vtup (Ty.tup (Ty.cons Ty.str (Ty.last Ty.any)))))))) (m1 := .b) (rp_frz .b (rp_tup (m := .o) (ra_cons (rp_tup (m := .o) (ra_one (rp_frz .o (rp_varw (ms := M_no_empty) (v_no_empty_number))))) (ra_one (rp_tupL (m' := .b) (t := (Ty.tup (Ty.cons Ty.str (Ty.last Ty.any)))) (rp_le (rp_hide (rp_lc (w := false) (m := .o) (t := Ty.any) (u := (Ty.tup (Ty.cons Ty.str (Ty.last Ty.any)))) [true, true, true, true, true, true, true, true, true, true, false] [10] (ris_of (ri_vtup (w := false) (t := Ty.any) (rp_frz .l (rp_varw (ms := M_no_empty) (v_no_empty_children))))) (rg_name (ms := M_no_empty) (v_no_empty_child)) gw_name rt_yes (rp_tup (m := .o) (ra_cons (rp_str) (ra_one (rp_frz .o (rp_varw (ms := M_no_empty) (v_no_empty_child)))))))))))))))))))) eCons_here D_Making_put.mt.ci (hk := by decide +kernel))))) rs_next)
  (rs_retE (ρ := (Ty.tup (Ty.cons (Ty.own (Ty.list (Ty.tup (Ty.cons Ty.str (Ty.cons (Ty.vtup Ty.str) (Ty.last Ty.int)))))) (Ty.last (Ty.own (Ty.list Ty.any)))))) (re_meth (ms := M_no_empty) (re_callIO (ms := M_no_empty) (rm := .o) (ρ := (Ty.tup (Ty.cons (Ty.own (Ty.list (Ty.tup (Ty.cons Ty.str (Ty.cons (Ty.vtup Ty.str) (Ty.last Ty.int)))))) (Ty.last (Ty.own (Ty.list Ty.any)))))) (m := m_Making_told) (i := (v_no_empty_making)) (r := (.z : RIx (Ty.cons tyMk (Ty.last Ty.str)) tyMk)) (raio_here (ms := M_no_empty) (v_no_empty_making) (ra_one (rp_frz .w (rp_op (m1 := .b) (m2 := .b) (v_ixL (t := Ty.str)) (rp_le (rp_varl (ms := M_no_empty) (v_no_empty_heads))) rp_int))))) eCons_here D_Making_told.mt.ci (hk := by decide +kernel))))))))))
abbrev s_twos : Stmt := topS 23
abbrev N_twos : List Str := ["grammar", "taken", "making", "number", "rule", "name", "parts", "chain", "more"]
abbrev P_twos : List Str := ["grammar"]
theorem sc_twos : FnScope N_twos P_twos (defScope s_twos) := ⟨rfl, rfl, rfl, by decide +kernel, rfl, by decide +kernel, by decide +kernel⟩
abbrev g_twos : List Ty := [(Ty.list (Ty.tup (Ty.cons Ty.str (Ty.cons (Ty.vtup Ty.str) (Ty.last Ty.int))))), (Ty.list Ty.str), tyMk, Ty.int, (Ty.tup (Ty.cons Ty.str (Ty.cons (Ty.vtup Ty.str) (Ty.last Ty.int)))), Ty.str, (Ty.vtup Ty.str), (Ty.vtup Ty.int), Ty.str]
abbrev M_twos : List Md := [.w, .o, .o, .w, .w, .w, .w, .w, .w]
abbrev v_twos_grammar : Mem g_twos (Ty.list (Ty.tup (Ty.cons Ty.str (Ty.cons (Ty.vtup Ty.str) (Ty.last Ty.int))))) := .z
abbrev v_twos_taken : Mem g_twos (Ty.list Ty.str) := (.s .z)
abbrev v_twos_making : Mem g_twos tyMk := (.s (.s .z))
abbrev v_twos_number : Mem g_twos Ty.int := (.s (.s (.s .z)))
abbrev v_twos_rule : Mem g_twos (Ty.tup (Ty.cons Ty.str (Ty.cons (Ty.vtup Ty.str) (Ty.last Ty.int)))) := (.s (.s (.s (.s .z))))
abbrev v_twos_name : Mem g_twos Ty.str := (.s (.s (.s (.s (.s .z)))))
abbrev v_twos_parts : Mem g_twos (Ty.vtup Ty.str) := (.s (.s (.s (.s (.s (.s .z))))))
abbrev v_twos_chain : Mem g_twos (Ty.vtup Ty.int) := (.s (.s (.s (.s (.s (.s (.s .z)))))))
abbrev v_twos_more : Mem g_twos Ty.str := (.s (.s (.s (.s (.s (.s (.s (.s .z))))))))
abbrev st_twos_2 (x0_grammar : den (Ty.list (Ty.tup (Ty.cons Ty.str (Ty.cons (Ty.vtup Ty.str) (Ty.last Ty.int)))))) (x1_taken : den (Ty.list Ty.str)) (x2_making : den tyMk) (x3_rule : den (Ty.tup (Ty.cons Ty.str (Ty.cons (Ty.vtup Ty.str) (Ty.last Ty.int))))) (x4_name : den Ty.str) (x5_parts : den (Ty.vtup Ty.str)) (x6_chain : den (Ty.vtup Ty.int)) : Gam g_twos := (some x0_grammar, some x1_taken, some x2_making, none, some x3_rule, some x4_name, some x5_parts, some x6_chain, none, ())
noncomputable def lb_twos_2 : Gam g_twos → Option (Fl (Gam g_twos) (den (Ty.tup (Ty.cons (Ty.own (Ty.list (Ty.tup (Ty.cons Ty.str (Ty.cons (Ty.vtup Ty.str) (Ty.last Ty.int)))))) (Ty.last (Ty.own (Ty.list Ty.any))))))) :=
  (sSeq (sSet (v_twos_more) (e1 m_made_name (eCons (eProj (b := (Ty.cons Ty.str (Ty.cons (Ty.vtup Ty.str) (Ty.last Ty.int)))) (t := Ty.str) .z (eV (t := (Ty.tup (Ty.cons Ty.str (Ty.cons (Ty.vtup Ty.str) (Ty.last Ty.int))))) (v_twos_rule))) (eV (t := (Ty.list Ty.str)) (v_twos_taken)))))
  (sSeq (sApp (v_twos_taken) (eV (t := Ty.str) (v_twos_more)))
  (sSeq (sAsgE (eIO (b := (Ty.cons tyMk (Ty.cons Ty.str (Ty.cons (Ty.vtup Ty.str) (Ty.last Ty.any))))) (tio := tyMk) (v_twos_making) m_Making_put (eCons (eV (t := tyMk) (v_twos_making)) (eCons (eV (t := Ty.str) (v_twos_name)) (eCons (e1 fSmall (eSnoc (e2 atI (eV (t := (Ty.vtup Ty.str)) (v_twos_parts)) (eC (0 : Int))) (eSnoc (eV (t := Ty.str) (v_twos_more)) eNil))) (e1 (fun d => some ((emb (Ty.tup (Ty.cons (Ty.vtup Ty.int) (Ty.last (Ty.vtup Ty.any))))).1 d)) (eCons (eV (t := (Ty.vtup Ty.int)) (v_twos_chain)) (e1 m_kept (e3 fCutL (eV (t := (Ty.vtup Ty.str)) (v_twos_parts)) (eC none) (e1 (fun i => some (some i)) (eC (2 : Int))))))))))) fun _ Γ => Γ)
  (sSeq (sSet (v_twos_name) (eV (t := Ty.str) (v_twos_more)))
  (sSeq (sSet (v_twos_parts) (e3 fCutL (eV (t := (Ty.vtup Ty.str)) (v_twos_parts)) (e1 (fun i => some (some i)) (eC (1 : Int))) (eC none)))
  (sSet (v_twos_chain) (e1 fSmall eNil)))))))
noncomputable def lp_twos_2 : Gam g_twos → Option (Fl (Gam g_twos) (den (Ty.tup (Ty.cons (Ty.own (Ty.list (Ty.tup (Ty.cons Ty.str (Ty.cons (Ty.vtup Ty.str) (Ty.last Ty.int)))))) (Ty.last (Ty.own (Ty.list Ty.any))))))) := hide (sWhile (e2 fGt (e1 fLen (eV (t := (Ty.vtup Ty.str)) (v_twos_parts))) (eC (2 : Int))) (Gam.mask [true, true, true, false, true, true, true, true, false]) lb_twos_2)
theorem lp_twos_2_eq : lp_twos_2 = (sWhile (e2 fGt (e1 fLen (eV (t := (Ty.vtup Ty.str)) (v_twos_parts))) (eC (2 : Int))) (Gam.mask [true, true, true, false, true, true, true, true, false]) lb_twos_2) := hide_eq _
abbrev st_twos_1 (x0_grammar : den (Ty.list (Ty.tup (Ty.cons Ty.str (Ty.cons (Ty.vtup Ty.str) (Ty.last Ty.int)))))) (x1_taken : den (Ty.list Ty.str)) (x2_making : den tyMk) : Gam g_twos := (some x0_grammar, some x1_taken, some x2_making, none, none, none, none, none, none, ())
noncomputable def lb_twos_1 : Gam g_twos → Option (Fl (Gam g_twos) (den (Ty.tup (Ty.cons (Ty.own (Ty.list (Ty.tup (Ty.cons Ty.str (Ty.cons (Ty.vtup Ty.str) (Ty.last Ty.int)))))) (Ty.last (Ty.own (Ty.list Ty.any))))))) :=
  (sSeq (sSet (v_twos_name) (eProj (b := (Ty.cons Ty.str (Ty.cons (Ty.vtup Ty.str) (Ty.last Ty.int)))) (t := Ty.str) .z (eV (t := (Ty.tup (Ty.cons Ty.str (Ty.cons (Ty.vtup Ty.str) (Ty.last Ty.int))))) (v_twos_rule))))
  (sSeq (sSet (v_twos_parts) (eProj (b := (Ty.cons Ty.str (Ty.cons (Ty.vtup Ty.str) (Ty.last Ty.int)))) (t := (Ty.vtup Ty.str)) (.s .z) (eV (t := (Ty.tup (Ty.cons Ty.str (Ty.cons (Ty.vtup Ty.str) (Ty.last Ty.int))))) (v_twos_rule))))
  (sSeq (sSet (v_twos_chain) (e1 fSmall (eSnoc (eV (t := Ty.int) (v_twos_number)) eNil)))
  (sSeq lp_twos_2
  (sAsgE (eIO (b := (Ty.cons tyMk (Ty.cons Ty.str (Ty.cons (Ty.vtup Ty.str) (Ty.last Ty.any))))) (tio := tyMk) (v_twos_making) m_Making_put (eCons (eV (t := tyMk) (v_twos_making)) (eCons (eV (t := Ty.str) (v_twos_name)) (eCons (eV (t := (Ty.vtup Ty.str)) (v_twos_parts)) (e1 (fun d => some ((emb (Ty.tup (Ty.cons (Ty.vtup Ty.int) (Ty.last (Ty.vtup Ty.any))))).1 d)) (eCons (eV (t := (Ty.vtup Ty.int)) (v_twos_chain)) (e1 m_kept (eV (t := (Ty.vtup Ty.str)) (v_twos_parts))))))))) fun _ Γ => Γ)))))
noncomputable def lp_twos_1 : Gam g_twos → Option (Fl (Gam g_twos) (den (Ty.tup (Ty.cons (Ty.own (Ty.list (Ty.tup (Ty.cons Ty.str (Ty.cons (Ty.vtup Ty.str) (Ty.last Ty.int)))))) (Ty.last (Ty.own (Ty.list Ty.any))))))) := hide (sFor (e1 fEnum (eV (t := (Ty.list (Ty.tup (Ty.cons Ty.str (Ty.cons (Ty.vtup Ty.str) (Ty.last Ty.int)))))) (v_twos_grammar))) (bCons (bName (t := Ty.int) (v_twos_number)) (bName (t := (Ty.tup (Ty.cons Ty.str (Ty.cons (Ty.vtup Ty.str) (Ty.last Ty.int))))) (v_twos_rule))) (Gam.mask [true, true, true, false, false, false, false, false, false]) lb_twos_1)
theorem lp_twos_1_eq : lp_twos_1 = (sFor (e1 fEnum (eV (t := (Ty.list (Ty.tup (Ty.cons Ty.str (Ty.cons (Ty.vtup Ty.str) (Ty.last Ty.int)))))) (v_twos_grammar))) (bCons (bName (t := Ty.int) (v_twos_number)) (bName (t := (Ty.tup (Ty.cons Ty.str (Ty.cons (Ty.vtup Ty.str) (Ty.last Ty.int))))) (v_twos_rule))) (Gam.mask [true, true, true, false, false, false, false, false, false]) lb_twos_1) := hide_eq _
noncomputable def b_twos : Gam g_twos → Option (Fl (Gam g_twos) (den (Ty.tup (Ty.cons (Ty.own (Ty.list (Ty.tup (Ty.cons Ty.str (Ty.cons (Ty.vtup Ty.str) (Ty.last Ty.int)))))) (Ty.last (Ty.own (Ty.list Ty.any))))))) :=
  (sSeq (sSet (v_twos_taken) (e1 m_names (eV (t := (Ty.list (Ty.tup (Ty.cons Ty.str (Ty.cons (Ty.vtup Ty.str) (Ty.last Ty.int)))))) (v_twos_grammar))))
  (sSeq (sSet (v_twos_making) eMk)
  (sSeq lp_twos_1
  (sRetE (eIO (b := (Ty.cons tyMk (Ty.last Ty.str))) (tio := tyMk) (v_twos_making) m_Making_told (eCons (eV (t := tyMk) (v_twos_making)) (eProj (b := (Ty.cons Ty.str (Ty.cons (Ty.vtup Ty.str) (Ty.last Ty.int)))) (t := Ty.str) .z (e2 atI (eV (t := (Ty.list (Ty.tup (Ty.cons Ty.str (Ty.cons (Ty.vtup Ty.str) (Ty.last Ty.int)))))) (v_twos_grammar)) (eC (0 : Int))))))))))
noncomputable def m_twos : den (Ty.last (Ty.list (Ty.tup (Ty.cons Ty.str (Ty.cons (Ty.vtup Ty.str) (Ty.last Ty.int)))))) → Option (den (Ty.tup (Ty.cons (Ty.own (Ty.list (Ty.tup (Ty.cons Ty.str (Ty.cons (Ty.vtup Ty.str) (Ty.last Ty.int)))))) (Ty.last (Ty.own (Ty.list Ty.any)))))) := hide (runG (Ty.last (Ty.list (Ty.tup (Ty.cons Ty.str (Ty.cons (Ty.vtup Ty.str) (Ty.last Ty.int)))))) [(Ty.list Ty.str), tyMk, Ty.int, (Ty.tup (Ty.cons Ty.str (Ty.cons (Ty.vtup Ty.str) (Ty.last Ty.int)))), Ty.str, (Ty.vtup Ty.str), (Ty.vtup Ty.int), Ty.str] b_twos)
theorem m_twos_eq (d : den (Ty.last (Ty.list (Ty.tup (Ty.cons Ty.str (Ty.cons (Ty.vtup Ty.str) (Ty.last Ty.int))))))) : m_twos d = runG (Ty.last (Ty.list (Ty.tup (Ty.cons Ty.str (Ty.cons (Ty.vtup Ty.str) (Ty.last Ty.int)))))) [(Ty.list Ty.str), tyMk, Ty.int, (Ty.tup (Ty.cons Ty.str (Ty.cons (Ty.vtup Ty.str) (Ty.last Ty.int)))), Ty.str, (Ty.vtup Ty.str), (Ty.vtup Ty.int), Ty.str] b_twos d := congrFun (hide_eq _) d
theorem m_twos_at (p0 : den (Ty.list (Ty.tup (Ty.cons Ty.str (Ty.cons (Ty.vtup Ty.str) (Ty.last Ty.int)))))) : m_twos (p0) = endOf (b_twos ((some p0, none, none, none, none, none, none, none, none, ()) : Gam g_twos)) := by
  rw [m_twos_eq]
  rfl
set_option maxHeartbeats 4000000 in
theorem ok_twos {f : Addr} {fd : FuncData} (F : Fun K "twos" "twos" s_twos f fd) (T : Txt K mg) {f_names : Addr} {fd_names : FuncData} (D_names : Df K mg "names" "names" s_names P_names f_names fd_names) (G_names : FnOk K.P K.w K mg base CX0 1 f_names fd_names P_names (spP K (Ty.last (Ty.list (Ty.tup (Ty.cons Ty.str (Ty.cons (Ty.vtup Ty.str) (Ty.last Ty.int)))))) .o (Ty.list Ty.str) m_names)) {C_Making___init__ : Addr} {f_Making___init__ : Addr} {fd_Making___init__ : FuncData} (D_Making___init__ : DfI K mg "__init__" "Making.__init__" s_Making___init__ P_Making___init__ C_Making___init__ f_Making___init__ fd_Making___init__) (G_Making___init__ : FnOk K.P K.w K mg base CX0 1 f_Making___init__ fd_Making___init__ P_Making___init__ (spMk C_Making___init__)) {f_made_name : Addr} {fd_made_name : FuncData} (D_made_name : Df K mg "made_name" "made_name" s_made_name P_made_name f_made_name fd_made_name) (G_made_name : FnOk K.P K.w K mg base CX0 1 f_made_name fd_made_name P_made_name (spP K (Ty.cons Ty.str (Ty.last (Ty.list Ty.str))) .o Ty.str m_made_name)) {C_Making_put : Addr} {f_Making_put : Addr} {fd_Making_put : FuncData} (D_Making_put : DfM K mg "put" "Making.put" s_Making_put P_Making_put C_Making_put f_Making_put fd_Making_put) (G_Making_put : FnOk K.P K.w K mg base CX0 1 f_Making_put fd_Making_put P_Making_put (spIO K (Ty.cons tyMk (Ty.cons Ty.str (Ty.cons (Ty.vtup Ty.str) (Ty.last Ty.any)))) (.z : RIx (Ty.cons tyMk (Ty.cons Ty.str (Ty.cons (Ty.vtup Ty.str) (Ty.last Ty.any)))) tyMk) .o Ty.non m_Making_put)) {f_kept : Addr} {fd_kept : FuncData} (D_kept : Df K mg "kept" "kept" s_kept P_kept f_kept fd_kept) (G_kept : FnOk K.P K.w K mg base CX0 1 f_kept fd_kept P_kept (spP K (Ty.last (Ty.vtup Ty.str)) .o (Ty.vtup Ty.any) m_kept)) {C_Making_told : Addr} {f_Making_told : Addr} {fd_Making_told : FuncData} (D_Making_told : DfM K mg "told" "Making.told" s_Making_told P_Making_told C_Making_told f_Making_told fd_Making_told) (G_Making_told : FnOk K.P K.w K mg base CX0 2 f_Making_told fd_Making_told P_Making_told (spIO K (Ty.cons tyMk (Ty.last Ty.str)) (.z : RIx (Ty.cons tyMk (Ty.last Ty.str)) tyMk) .o (Ty.tup (Ty.cons (Ty.own (Ty.list (Ty.tup (Ty.cons Ty.str (Ty.cons (Ty.vtup Ty.str) (Ty.last Ty.int)))))) (Ty.last (Ty.own (Ty.list Ty.any))))) m_Making_told)) :
    FnOk K.P K.w K mg base CX0 3 f fd P_twos (spP K (Ty.last (Ty.list (Ty.tup (Ty.cons Ty.str (Ty.cons (Ty.vtup Ty.str) (Ty.last Ty.int)))))) .o (Ty.tup (Ty.cons (Ty.own (Ty.list (Ty.tup (Ty.cons Ty.str (Ty.cons (Ty.vtup Ty.str) (Ty.last Ty.int)))))) (Ty.last (Ty.own (Ty.list Ty.any))))) m_twos) := by
  have S := sc_twos
  refine fn_ok (F := b_twos) [(Ty.list Ty.str), tyMk, Ty.int, (Ty.tup (Ty.cons Ty.str (Ty.cons (Ty.vtup Ty.str) (Ty.last Ty.int)))), Ty.str, (Ty.vtup Ty.str), (Ty.vtup Ty.int), Ty.str] M_twos F S rfl rfl rfl m_twos_eq (fun cdv A outer s H E hr => ?_)
  refine ⟨_, (pss_cons (ps_set (i := 1) S.nd rfl (Or.inl rfl) (pe_call G_names (hr.mono (by decide)) rfl D_names.gl D_names.fn.kp D_names.bi .nil pass0 (pa_cons (pv 0) pa_nil)))
  (pss_cons (ps_set (i := 2) S.nd rfl (Or.inl rfl) (pe_make0 D_Making___init__.mm G_Making___init__ (hr.mono (by decide)) rfl D_Making___init__.mt.gl D_Making___init__.bi .nil pass0))
  (pss_cons (ps_for PassesOwn.never rfl (pi_enum rfl T.b_enumerate (pa_cons (pv 0) pa_nil)) (pg_tupK (n := 2) K rfl rfl (pgs_cons (pg_name (i := 3) S.nd rfl (Or.inl rfl)) (pgs_cons (pg_name (i := 4) S.nd rfl (Or.inl rfl)) pgs_nil))) (pss_cons (ps_set (i := 5) S.nd rfl (Or.inl rfl) (pe_ix (r := rIxT K) ix_tup (pv 4) pe_int (fun _ _ => rfl)))
  (pss_cons (ps_set (i := 6) S.nd rfl (Or.inl rfl) (pe_ix (r := rIxT K) ix_tup (pv 4) pe_int (fun _ _ => rfl)))
  (pss_cons (ps_set (i := 7) S.nd rfl (Or.inl rfl) (pe_tup (pa_cons (pv 3) pa_nil)))
  (pss_cons (ps_while PassesOwn.never (pt_cmpR op_gt (pe_callB (r := VV.rLen K) call_len (by rfl) T.b_len (by decide +kernel) (pa_cons (pv 6) pa_nil)) pe_int (nomark _)) (pss_cons (ps_set (i := 8) S.nd rfl (Or.inl rfl) (pe_call G_made_name (hr.mono (by decide)) rfl D_made_name.gl D_made_name.fn.kp D_made_name.bi .nil pass0 (pa_cons (pe_ix (r := rIxT K) ix_tup (pv 4) pe_int (fun _ _ => rfl)) (pa_cons (pv 1) pa_nil))))
  (pss_cons (ps_expr (pe_bm PySem.F.plainAttrs_list PySem.F.slot_list_append PySem.F.type_list_append mt_append (pv 1) (pa_cons (pv 8) pa_nil)))
  (pss_cons (ps_expr (pe_meth (pv 2) D_Making_put.mt.ci.cls D_Making_put.me G_Making_put (hr.mono (by decide)) D_Making_put.bi .nil pass0  (pa_cons (pv 5) (pa_cons (pe_tup (pa_cons (pe_ix (r := rIxT K) ix_tup (pv 6) pe_int (fun _ _ => rfl)) (pa_cons (pv 8) pa_nil))) (pa_cons (pe_tup (pa_cons (pv 7) (pa_cons (pe_call G_kept (hr.mono (by decide)) rfl D_kept.gl D_kept.fn.kp D_kept.bi .nil pass0 (pa_cons (pe_slice (r := rSlA K) sl_tupA (pv 6) po_none (po_some pe_int)) pa_nil)) pa_nil))) pa_nil)))))
  (pss_cons (ps_set (i := 5) S.nd rfl (Or.inl rfl) (pv 8))
  (pss_cons (ps_set (i := 6) S.nd rfl (Or.inl rfl) (pe_slice (r := rSlA K) sl_tupA (pv 6) (po_some pe_int) po_none))
  (pss_one (ps_set (i := 7) S.nd rfl (Or.inl rfl) (pe_tup pa_nil)))))))))
  (pss_one (ps_expr (pe_meth (pv 2) D_Making_put.mt.ci.cls D_Making_put.me G_Making_put (hr.mono (by decide)) D_Making_put.bi .nil pass0  (pa_cons (pv 5) (pa_cons (pv 6) (pa_cons (pe_tup (pa_cons (pv 7) (pa_cons (pe_call G_kept (hr.mono (by decide)) rfl D_kept.gl D_kept.fn.kp D_kept.bi .nil pass0 (pa_cons (pv 6) pa_nil)) pa_nil))) pa_nil)))))))))))
  (pss_one (ps_ret (pe_meth (pv 2) D_Making_told.mt.ci.cls D_Making_told.me G_Making_told (hr.mono (by decide)) D_Making_told.bi .nil pass0  (pa_cons (pe_ix (r := rIxT K) ix_tup (pe_ix (r := rIxL K) ix_list (pv 0) pe_int (fun _ _ => rfl)) pe_int (fun _ _ => rfl)) pa_nil))))))), ?_⟩
  exact (rs_seq (rs_set (ms := M_twos) (m := .o) (v_twos_taken) (rp_call (mA := .b) (rm := .o) (ρ := (Ty.list Ty.str)) (m := m_names) rfl (ra_one (rp_le (rp_varw (ms := M_twos) (v_twos_grammar))))))
  (rs_seq (rs_set (ms := M_twos) (m := .o) (v_twos_making) (rp_mk D_Making___init__.mt.ci))
  (rs_seq (rs_hide (rs_for (w := true) (t := (Ty.tup (Ty.cons Ty.int (Ty.last (Ty.tup (Ty.cons Ty.str (Ty.cons (Ty.vtup Ty.str) (Ty.last Ty.int)))))))) [true, true, true, false, false, false, false, false, false] (ri_enum (w := true) (t := (Ty.tup (Ty.cons Ty.str (Ty.cons (Ty.vtup Ty.str) (Ty.last Ty.int))))) (rp_varw (ms := M_twos) (v_twos_grammar))) (rg_tup (rgs_cons (rg_name (ms := M_twos) (v_twos_number)) (rgs_one (rg_name (ms := M_twos) (v_twos_rule))))) (rs_seq (rs_set (ms := M_twos) (m := .w) (v_twos_name) (rp_frz .w (rp_proj (m := .b) (b := (Ty.cons Ty.str (Ty.cons (Ty.vtup Ty.str) (Ty.last Ty.int)))) (t := Ty.str) .z 0 (rp_frz .b (rp_varw (ms := M_twos) (v_twos_rule))))))
  (rs_seq (rs_set (ms := M_twos) (m := .w) (v_twos_parts) (rp_frz .w (rp_proj (m := .b) (b := (Ty.cons Ty.str (Ty.cons (Ty.vtup Ty.str) (Ty.last Ty.int)))) (t := (Ty.vtup Ty.str)) (.s .z) 1 (rp_frz .b (rp_varw (ms := M_twos) (v_twos_rule))))))
  (rs_seq (rs_set (ms := M_twos) (m := .w) (v_twos_chain) (rp_frz .w (rp_vtup (m := .o) (t := Ty.int) (rl_cons (rp_frz .o (rp_varw (ms := M_twos) (v_twos_number))) rl_nil))))
  (rs_seq (rs_hide (rs_while [true, true, true, false, true, true, true, true, false] (rt_test (rp_op (m := .b) (m1 := .b) (m2 := .b) v_gt (rp_lenV (m' := .b) (rp_frz .b (rp_varw (ms := M_twos) (v_twos_parts)))) rp_int)) (rs_seq (rs_set (ms := M_twos) (m := .w) (v_twos_more) (rp_frz .w (rp_call (mA := .b) (rm := .o) (ρ := Ty.str) (m := m_made_name) rfl (ra_cons (rp_proj (m := .b) (b := (Ty.cons Ty.str (Ty.cons (Ty.vtup Ty.str) (Ty.last Ty.int)))) (t := Ty.str) .z 0 (rp_frz .b (rp_varw (ms := M_twos) (v_twos_rule)))) (ra_one (rp_var (ms := M_twos) (v_twos_taken)))))))
  (rs_seq (rs_app (ms := M_twos) (v_twos_taken) (rp_frz .o (rp_varw (ms := M_twos) (v_twos_more))))
  (rs_seq (rs_dropE (t := Ty.non) (re_l (re_meth (ms := M_twos) (re_callIO (ms := M_twos) (rm := .o) (ρ := Ty.non) (m := m_Making_put) (i := (v_twos_making)) (r := (.z : RIx (Ty.cons tyMk (Ty.cons Ty.str (Ty.cons (Ty.vtup Ty.str) (Ty.last Ty.any)))) tyMk)) (raio_here (ms := M_twos) (v_twos_making) (ra_cons (rp_varw (ms := M_twos) (v_twos_name)) (ra_cons (rp_frz .w (rp_vtup (m := .o) (t := Ty.str) (rl_cons (rp_frz .o (rp_op (m1 := .b) (m2 := .b) (v_ixV (t := Ty.str)) (rp_frz .b (rp_varw (ms := M_twos) (v_twos_parts))) rp_int)) (rl_cons (rp_frz .o (rp_varw (ms := M_twos) (v_twos_more))) rl_nil)))) (ra_one (rp_any (t := (Ty.tup (Ty.cons (Ty.vtup Ty.int) (Ty.last (Ty.vtup Ty.any))))) (m1 := .b) (rp_frz .b (rp_tup (m := .o) (ra_cons (rp_frz .o (rp_varw (ms := M_twos) (v_twos_chain))) (ra_one (rp_call (mA := .b) (rm := .o) (ρ := (Ty.vtup Ty.any)) (m := m_kept) rfl (ra_one (rp_sliceT (m := .b) (t := Ty.str) (rp_frz .b (rp_varw (ms := M_twos) (v_twos_parts))) ro_none (ro_some (m := .b) rp_int)))))))))))))) eCons_here D_Making_put.mt.ci (hk := by decide +kernel))))
  (rs_seq (rs_set (ms := M_twos) (m := .w) (v_twos_name) (rp_varw (ms := M_twos) (v_twos_more)))
  (rs_seq (rs_set (ms := M_twos) (m := .w) (v_twos_parts) (rp_sliceT (m := .b) (t := Ty.str) (rp_frz .b (rp_varw (ms := M_twos) (v_twos_parts))) (ro_some (m := .b) rp_int) ro_none))
  (rs_set (ms := M_twos) (m := .w) (v_twos_chain) (rp_frz .w (rp_vtup (m := .o) (t := Ty.int) rl_nil))))))))))
  (rs_dropE (t := Ty.non) (re_l (re_meth (ms := M_twos) (re_callIO (ms := M_twos) (rm := .o) (ρ := Ty.non) (m := m_Making_put) (i := (v_twos_making)) (r := (.z : RIx (Ty.cons tyMk (Ty.cons Ty.str (Ty.cons (Ty.vtup Ty.str) (Ty.last Ty.any)))) tyMk)) (raio_here (ms := M_twos) (v_twos_making) (ra_cons (rp_varw (ms := M_twos) (v_twos_name)) (ra_cons (rp_varw (ms := M_twos) (v_twos_parts)) (ra_one (rp_any (t := (Ty.tup (Ty.cons (Ty.vtup Ty.int) (Ty.last (Ty.vtup Ty.any))))) (m1 := .b) (rp_frz .b (rp_tup (m := .o) (ra_cons (rp_frz .o (rp_varw (ms := M_twos) (v_twos_chain))) (ra_one (rp_call (mA := .b) (rm := .o) (ρ := (Ty.vtup Ty.any)) (m := m_kept) rfl (ra_one (rp_frz .b (rp_varw (ms := M_twos) (v_twos_parts))))))))))))))) eCons_here D_Making_put.mt.ci (hk := by decide +kernel))))))))))
  (rs_retE (ρ := (Ty.tup (Ty.cons (Ty.own (Ty.list (Ty.tup (Ty.cons Ty.str (Ty.cons (Ty.vtup Ty.str) (Ty.last Ty.int)))))) (Ty.last (Ty.own (Ty.list Ty.any)))))) (re_meth (ms := M_twos) (re_callIO (ms := M_twos) (rm := .o) (ρ := (Ty.tup (Ty.cons (Ty.own (Ty.list (Ty.tup (Ty.cons Ty.str (Ty.cons (Ty.vtup Ty.str) (Ty.last Ty.int)))))) (Ty.last (Ty.own (Ty.list Ty.any)))))) (m := m_Making_told) (i := (v_twos_making)) (r := (.z : RIx (Ty.cons tyMk (Ty.last Ty.str)) tyMk)) (raio_here (ms := M_twos) (v_twos_making) (ra_one (rp_frz .w (rp_proj (m := .b) (b := (Ty.cons Ty.str (Ty.cons (Ty.vtup Ty.str) (Ty.last Ty.int)))) (t := Ty.str) .z 0 (rp_op (m1 := .b) (m2 := .b) (v_ixL (t := (Ty.tup (Ty.cons Ty.str (Ty.cons (Ty.vtup Ty.str) (Ty.last Ty.int)))))) (rp_le (rp_varw (ms := M_twos) (v_twos_grammar))) rp_int)))))) eCons_here D_Making_told.mt.ci (hk := by decide +kernel))))))
abbrev s__law_refused : Stmt := topS 31
abbrev N__law_refused : List Str := ["grammar", "way", "good", "e"]
abbrev P__law_refused : List Str := ["grammar", "way"]
theorem sc__law_refused : FnScope N__law_refused P__law_refused (defScope s__law_refused) := ⟨rfl, rfl, rfl, by decide +kernel, rfl, by decide +kernel, by decide +kernel⟩
abbrev g__law_refused : List Ty := [(Ty.list (Ty.tup (Ty.cons Ty.str (Ty.cons (Ty.vtup Ty.str) (Ty.last Ty.int))))), Ty.int, Ty.bool, Ty.exn]
abbrev M__law_refused : List Md := [.w, .w, .w, .w]
abbrev v__law_refused_grammar : Mem g__law_refused (Ty.list (Ty.tup (Ty.cons Ty.str (Ty.cons (Ty.vtup Ty.str) (Ty.last Ty.int))))) := .z
abbrev v__law_refused_way : Mem g__law_refused Ty.int := (.s .z)
abbrev v__law_refused_good : Mem g__law_refused Ty.bool := (.s (.s .z))
abbrev v__law_refused_e : Mem g__law_refused Ty.exn := (.s (.s (.s .z)))
noncomputable def b__law_refused : Gam g__law_refused → Option (Fl (Gam g__law_refused) (den Ty.bool)) :=
  (sSeq (sSet (v__law_refused_good) (eC false))
  (sSeq (sTry (sIf (e2 fEqI (eV (t := Ty.int) (v__law_refused_way)) (eC (0 : Int))) (sDropR (e1 m_no_single (eV (t := (Ty.list (Ty.tup (Ty.cons Ty.str (Ty.cons (Ty.vtup Ty.str) (Ty.last Ty.int)))))) (v__law_refused_grammar)))) (sIf (e2 fEqI (eV (t := Ty.int) (v__law_refused_way)) (eC (1 : Int))) (sDrop (e1 m_no_empty (eV (t := (Ty.list (Ty.tup (Ty.cons Ty.str (Ty.cons (Ty.vtup Ty.str) (Ty.last Ty.int)))))) (v__law_refused_grammar)))) (sDrop (e1 m_twos (eV (t := (Ty.list (Ty.tup (Ty.cons Ty.str (Ty.cons (Ty.vtup Ty.str) (Ty.last Ty.int)))))) (v__law_refused_grammar)))))) (cTup [(Str.ofString "NoGrammar", false)] (cAs (v__law_refused_e) [(Str.ofString "NoGrammar", true)] (sSet (v__law_refused_good) (eAnd (e1 (fIsE [(Str.ofString "NoGrammar", true)]) (e1 (fun d => some (some d)) (eV (t := Ty.exn) (v__law_refused_e)))) (e1 (fIsE [(Str.ofString "NoGrammar", true)]) (e1 (fun d => some (some d)) (eV (t := Ty.exn) (v__law_refused_e)))))) cNil)))
  (sRet (eV (t := Ty.bool) (v__law_refused_good)))))
noncomputable def m__law_refused : den (Ty.cons (Ty.list (Ty.tup (Ty.cons Ty.str (Ty.cons (Ty.vtup Ty.str) (Ty.last Ty.int))))) (Ty.last Ty.int)) → Option (den Ty.bool) := hide (runG (Ty.cons (Ty.list (Ty.tup (Ty.cons Ty.str (Ty.cons (Ty.vtup Ty.str) (Ty.last Ty.int))))) (Ty.last Ty.int)) [Ty.bool, Ty.exn] b__law_refused)
theorem m__law_refused_eq (d : den (Ty.cons (Ty.list (Ty.tup (Ty.cons Ty.str (Ty.cons (Ty.vtup Ty.str) (Ty.last Ty.int))))) (Ty.last Ty.int))) : m__law_refused d = runG (Ty.cons (Ty.list (Ty.tup (Ty.cons Ty.str (Ty.cons (Ty.vtup Ty.str) (Ty.last Ty.int))))) (Ty.last Ty.int)) [Ty.bool, Ty.exn] b__law_refused d := congrFun (hide_eq _) d
theorem m__law_refused_at (p0 : den (Ty.list (Ty.tup (Ty.cons Ty.str (Ty.cons (Ty.vtup Ty.str) (Ty.last Ty.int)))))) (p1 : den Ty.int) : m__law_refused (p0, p1) = endOf (b__law_refused ((some p0, some p1, none, none, ()) : Gam g__law_refused)) := by
  rw [m__law_refused_eq]
  rfl
set_option maxHeartbeats 4000000 in
theorem ok__law_refused {f : Addr} {fd : FuncData} (F : Fun K "_law_refused" "_law_refused" s__law_refused f fd) (T : Txt K mg) {f_no_single : Addr} {fd_no_single : FuncData} (D_no_single : Df K mg "no_single" "no_single" s_no_single P_no_single f_no_single fd_no_single) (G_no_single : FnOk K.P K.w K mg base (L2.CX K.P K.w) 4 f_no_single fd_no_single P_no_single (spX K (Ty.last (Ty.list (Ty.tup (Ty.cons Ty.str (Ty.cons (Ty.vtup Ty.str) (Ty.last Ty.int)))))) .o (Ty.tup (Ty.cons (Ty.own (Ty.list (Ty.tup (Ty.cons Ty.str (Ty.cons (Ty.vtup Ty.str) (Ty.last Ty.int)))))) (Ty.last (Ty.own (Ty.list Ty.any))))) m_no_single)) {f_no_empty : Addr} {fd_no_empty : FuncData} (D_no_empty : Df K mg "no_empty" "no_empty" s_no_empty P_no_empty f_no_empty fd_no_empty) (G_no_empty : FnOk K.P K.w K mg base CX0 3 f_no_empty fd_no_empty P_no_empty (spP K (Ty.last (Ty.list (Ty.tup (Ty.cons Ty.str (Ty.cons (Ty.vtup Ty.str) (Ty.last Ty.int)))))) .o (Ty.tup (Ty.cons (Ty.own (Ty.list (Ty.tup (Ty.cons Ty.str (Ty.cons (Ty.vtup Ty.str) (Ty.last Ty.int)))))) (Ty.last (Ty.own (Ty.list Ty.any))))) m_no_empty)) {f_twos : Addr} {fd_twos : FuncData} (D_twos : Df K mg "twos" "twos" s_twos P_twos f_twos fd_twos) (G_twos : FnOk K.P K.w K mg base CX0 3 f_twos fd_twos P_twos (spP K (Ty.last (Ty.list (Ty.tup (Ty.cons Ty.str (Ty.cons (Ty.vtup Ty.str) (Ty.last Ty.int)))))) .o (Ty.tup (Ty.cons (Ty.own (Ty.list (Ty.tup (Ty.cons Ty.str (Ty.cons (Ty.vtup Ty.str) (Ty.last Ty.int)))))) (Ty.last (Ty.own (Ty.list Ty.any))))) m_twos)) :
    FnOk K.P K.w K mg base CX0 5 f fd P__law_refused (spP K (Ty.cons (Ty.list (Ty.tup (Ty.cons Ty.str (Ty.cons (Ty.vtup Ty.str) (Ty.last Ty.int))))) (Ty.last Ty.int)) .o Ty.bool m__law_refused) := by
  have S := sc__law_refused
  refine fn_ok (F := b__law_refused) [Ty.bool, Ty.exn] M__law_refused F S rfl rfl rfl m__law_refused_eq (fun cdv A outer s H E hr => ?_)
  refine ⟨_, (pss_cons (ps_set (i := 2) S.nd rfl (Or.inl rfl) pe_bl)
  (pss_cons (ps_try_keep rfl rfl S.nd takes0 (fun W pn xe tk po => (pss_one (ps_if (pt_cmpR op_eq (pv 1) pe_int (nomark _)) (pss_one (ps_expr (pe_callS G_no_single (hr.mono (by decide)) rfl D_no_single.gl D_no_single.fn.kp D_no_single.bi (fun σ => passAt tk σ) (pa_cons (pv 0) pa_nil)))) (pss_one (ps_if (pt_cmpR op_eq (pv 1) pe_int (nomark _)) (pss_one (ps_expr (pe_call G_no_empty (hr.mono (by decide)) rfl D_no_empty.gl D_no_empty.fn.kp D_no_empty.bi .nil pass0 (pa_cons (pv 0) pa_nil)))) (pss_one (ps_expr (pe_call G_twos (hr.mono (by decide)) rfl D_twos.gl D_twos.fn.kp D_twos.bi .nil pass0 (pa_cons (pv 0) pa_nil))))))))) (ClsOk.tup5 ⟨rfl, by decide, Or.inl (T.e_Endless).choose_spec.mg⟩ ⟨rfl, by decide, Or.inl (T.e_NoOrder).choose_spec.mg⟩ ⟨rfl, by decide, Or.inl (T.e_NoReading).choose_spec.mg⟩ ⟨rfl, by decide, Or.inl (T.e_NoText).choose_spec.mg⟩ ⟨rfl, by decide, Or.inl (T.e_TooMany).choose_spec.mg⟩ (ClsOk.as_ (i := 3) ⟨rfl, by decide, Or.inl (T.e_NoGrammar).choose_spec.mg⟩ rfl rfl (fun a pn => (pss_one (ps_set (i := 2) S.nd rfl (Or.inl rfl) (pe_and (pe_callB (r := rIsE K) call_isEx (by rfl) T.b_isinstance (by decide +kernel) (pa_cons (pv 3) (pa_cons (pe_glob (v := V.ref (T.e_GroveError).choose) (by rfl) (T.e_GroveError).choose_spec.mg rfl) pa_nil))) (pe_one (pe_callB (r := rIsE K) call_isEx (by rfl) T.b_isinstance (by decide +kernel) (pa_cons (pv 3) (pa_cons (pe_bltn (v := .ty "ValueError") (by rfl) T.b_ValueError (by decide +kernel) rfl) pa_nil)))))))) .nil)))
  (pss_one (ps_ret (pv 2))))), ?_⟩
  exact (rs_seq (rs_set (ms := M__law_refused) (m := .w) (v__law_refused_good) rp_bool)
  (rs_seq (rs_try (fun W => (rs_if (rt_test (rp_op (m := .b) (m1 := .b) (m2 := .b) v_eqI (rp_frz .b (rp_varw (ms := M__law_refused) (v__law_refused_way))) rp_int)) (rs_dropR (t := (Ty.tup (Ty.cons (Ty.own (Ty.list (Ty.tup (Ty.cons Ty.str (Ty.cons (Ty.vtup Ty.str) (Ty.last Ty.int)))))) (Ty.last (Ty.own (Ty.list Ty.any)))))) (rpx_call (mA := .b) (rm := .o) (ρ := (Ty.tup (Ty.cons (Ty.own (Ty.list (Ty.tup (Ty.cons Ty.str (Ty.cons (Ty.vtup Ty.str) (Ty.last Ty.int)))))) (Ty.last (Ty.own (Ty.list Ty.any)))))) (m := m_no_single) rfl (ra_one (rp_le (rp_varw (ms := M__law_refused) (v__law_refused_grammar)))))) (rs_if (rt_test (rp_op (m := .b) (m1 := .b) (m2 := .b) v_eqI (rp_frz .b (rp_varw (ms := M__law_refused) (v__law_refused_way))) rp_int)) (rs_drop (m := .o) (t := (Ty.tup (Ty.cons (Ty.own (Ty.list (Ty.tup (Ty.cons Ty.str (Ty.cons (Ty.vtup Ty.str) (Ty.last Ty.int)))))) (Ty.last (Ty.own (Ty.list Ty.any)))))) (rp_call (mA := .b) (rm := .o) (ρ := (Ty.tup (Ty.cons (Ty.own (Ty.list (Ty.tup (Ty.cons Ty.str (Ty.cons (Ty.vtup Ty.str) (Ty.last Ty.int)))))) (Ty.last (Ty.own (Ty.list Ty.any)))))) (m := m_no_empty) rfl (ra_one (rp_le (rp_varw (ms := M__law_refused) (v__law_refused_grammar)))))) (rs_drop (m := .o) (t := (Ty.tup (Ty.cons (Ty.own (Ty.list (Ty.tup (Ty.cons Ty.str (Ty.cons (Ty.vtup Ty.str) (Ty.last Ty.int)))))) (Ty.last (Ty.own (Ty.list Ty.any)))))) (rp_call (mA := .b) (rm := .o) (ρ := (Ty.tup (Ty.cons (Ty.own (Ty.list (Ty.tup (Ty.cons Ty.str (Ty.cons (Ty.vtup Ty.str) (Ty.last Ty.int)))))) (Ty.last (Ty.own (Ty.list Ty.any)))))) (m := m_twos) rfl (ra_one (rp_le (rp_varw (ms := M__law_refused) (v__law_refused_grammar))))))))) (rcl_tup (t := [(Str.ofString "NoGrammar", false)]) (extabs_cons (extab_cons (nm := "NoGrammar") (b := false) (T.e_Endless).choose_spec extab_nil T.i_NoGrammar_Endless) (extabs_cons (extab_cons (nm := "NoGrammar") (b := false) (T.e_NoOrder).choose_spec extab_nil T.i_NoGrammar_NoOrder) (extabs_cons (extab_cons (nm := "NoGrammar") (b := false) (T.e_NoReading).choose_spec extab_nil T.i_NoGrammar_NoReading) (extabs_cons (extab_cons (nm := "NoGrammar") (b := false) (T.e_NoText).choose_spec extab_nil T.i_NoGrammar_NoText) (extabs_cons (extab_cons (nm := "NoGrammar") (b := false) (T.e_TooMany).choose_spec extab_nil T.i_NoGrammar_TooMany) extabs_nil))))) (rcl_as (ms := M__law_refused) (t := [(Str.ofString "NoGrammar", true)]) (v__law_refused_e) (extab_cons (nm := "NoGrammar") (b := true) (T.e_NoGrammar).choose_spec extab_nil T.i_NoGrammar_NoGrammar) (rs_set (ms := M__law_refused) (m := .w) (v__law_refused_good) (rp_and (m1 := .b) (m2 := .b) (rp_isE (m1 := .b) (t := [(Str.ofString "NoGrammar", true)]) (rp_some (rp_frz .b (rp_varw (ms := M__law_refused) (v__law_refused_e)))) (istab_cons (nm := "NoGrammar") (b := true) (T.e_GroveError).choose_spec (istab_nil (T.e_GroveError).choose_spec T.n_GroveError) (T.e_NoGrammar) T.i_NoGrammar_GroveError)) (rp_isE (m1 := .b) (t := [(Str.ofString "NoGrammar", true)]) (rp_some (rp_frz .b (rp_varw (ms := M__law_refused) (v__law_refused_e)))) (istab_consB (by decide +kernel) (nm := "NoGrammar") (b := true) (istab_nilB (T := "ValueError") (by decide +kernel) (by decide +kernel)) (T.e_NoGrammar) T.j_NoGrammar_ValueError)))) rcl_nil)))
  (rs_ret (rm := .o) (ρ := Ty.bool) (rp_frz .o (rp_varw (ms := M__law_refused) (v__law_refused_good))))))
abbrev s__law_due : Stmt := topS 32
abbrev N__law_due : List Str := ["rules", "first", "name", "parts", "cost", "within", "rule"]
abbrev P__law_due : List Str := ["rules"]
theorem sc__law_due : FnScope N__law_due P__law_due (defScope s__law_due) := ⟨rfl, rfl, rfl, by decide +kernel, rfl, by decide +kernel, by decide +kernel⟩
abbrev g__law_due : List Ty := [(Ty.list (Ty.tup (Ty.cons Ty.str (Ty.cons (Ty.vtup Ty.str) (Ty.last Ty.int))))), Ty.str, Ty.str, (Ty.vtup Ty.str), Ty.int, (Ty.list (Ty.tup (Ty.cons Ty.str (Ty.cons (Ty.vtup Ty.str) (Ty.last Ty.int))))), (Ty.tup (Ty.cons Ty.str (Ty.cons (Ty.vtup Ty.str) (Ty.last Ty.int))))]
abbrev M__law_due : List Md := [.w, .w, .w, .w, .w, .l, .w]
abbrev v__law_due_rules : Mem g__law_due (Ty.list (Ty.tup (Ty.cons Ty.str (Ty.cons (Ty.vtup Ty.str) (Ty.last Ty.int))))) := .z
abbrev v__law_due_first : Mem g__law_due Ty.str := (.s .z)
abbrev v__law_due_name : Mem g__law_due Ty.str := (.s (.s .z))
abbrev v__law_due_parts : Mem g__law_due (Ty.vtup Ty.str) := (.s (.s (.s .z)))
abbrev v__law_due_cost : Mem g__law_due Ty.int := (.s (.s (.s (.s .z))))
abbrev v__law_due_within : Mem g__law_due (Ty.list (Ty.tup (Ty.cons Ty.str (Ty.cons (Ty.vtup Ty.str) (Ty.last Ty.int))))) := (.s (.s (.s (.s (.s .z)))))
abbrev v__law_due_rule : Mem g__law_due (Ty.tup (Ty.cons Ty.str (Ty.cons (Ty.vtup Ty.str) (Ty.last Ty.int)))) := (.s (.s (.s (.s (.s (.s .z))))))
noncomputable def lc__law_due_1 : Gam g__law_due → Option (List (den (Ty.tup (Ty.cons Ty.str (Ty.cons (Ty.vtup Ty.str) (Ty.last Ty.int)))))) := hide (eLc (eV (t := (Ty.list (Ty.tup (Ty.cons Ty.str (Ty.cons (Ty.vtup Ty.str) (Ty.last Ty.int)))))) (v__law_due_rules)) (bName (t := (Ty.tup (Ty.cons Ty.str (Ty.cons (Ty.vtup Ty.str) (Ty.last Ty.int))))) (v__law_due_rule)) (Gam.mask [true, true, true, true, true, true, false]) (e2 (fInD Ty.str) (eV (t := Ty.str) (v__law_due_first)) (eProj (b := (Ty.cons Ty.str (Ty.cons (Ty.vtup Ty.str) (Ty.last Ty.int)))) (t := (Ty.vtup Ty.str)) (.s .z) (eV (t := (Ty.tup (Ty.cons Ty.str (Ty.cons (Ty.vtup Ty.str) (Ty.last Ty.int))))) (v__law_due_rule)))) (eV (t := (Ty.tup (Ty.cons Ty.str (Ty.cons (Ty.vtup Ty.str) (Ty.last Ty.int))))) (v__law_due_rule)))
theorem lc__law_due_1_eq : lc__law_due_1 = (eLc (eV (t := (Ty.list (Ty.tup (Ty.cons Ty.str (Ty.cons (Ty.vtup Ty.str) (Ty.last Ty.int)))))) (v__law_due_rules)) (bName (t := (Ty.tup (Ty.cons Ty.str (Ty.cons (Ty.vtup Ty.str) (Ty.last Ty.int))))) (v__law_due_rule)) (Gam.mask [true, true, true, true, true, true, false]) (e2 (fInD Ty.str) (eV (t := Ty.str) (v__law_due_first)) (eProj (b := (Ty.cons Ty.str (Ty.cons (Ty.vtup Ty.str) (Ty.last Ty.int)))) (t := (Ty.vtup Ty.str)) (.s .z) (eV (t := (Ty.tup (Ty.cons Ty.str (Ty.cons (Ty.vtup Ty.str) (Ty.last Ty.int))))) (v__law_due_rule)))) (eV (t := (Ty.tup (Ty.cons Ty.str (Ty.cons (Ty.vtup Ty.str) (Ty.last Ty.int))))) (v__law_due_rule))) := hide_eq _
abbrev st__law_due_1 (x0_rules : den (Ty.list (Ty.tup (Ty.cons Ty.str (Ty.cons (Ty.vtup Ty.str) (Ty.last Ty.int)))))) (x1_first : den Ty.str) : Gam g__law_due := (some x0_rules, some x1_first, none, none, none, none, none, ())
noncomputable def lb__law_due_1 : Gam g__law_due → Option (Fl (Gam g__law_due) (den Ty.bool)) :=
  (sSeq (sSet (v__law_due_within) lc__law_due_1)
  (sIf (eAnd (e2 (fEqD (Ty.vtup Ty.str)) (eV (t := (Ty.vtup Ty.str)) (v__law_due_parts)) (e1 fSmall eNil)) (eOr (e2 fNeS (eV (t := Ty.str) (v__law_due_name)) (eV (t := Ty.str) (v__law_due_first))) (e2 (fNeD (Ty.list (Ty.tup (Ty.cons Ty.str (Ty.cons (Ty.vtup Ty.str) (Ty.last Ty.int)))))) (eV (t := (Ty.list (Ty.tup (Ty.cons Ty.str (Ty.cons (Ty.vtup Ty.str) (Ty.last Ty.int)))))) (v__law_due_within)) (e1 fSmall eNil)))) (sRet (eC true)) sNext))
noncomputable def lp__law_due_1 : Gam g__law_due → Option (Fl (Gam g__law_due) (den Ty.bool)) := hide (sFor (eV (t := (Ty.list (Ty.tup (Ty.cons Ty.str (Ty.cons (Ty.vtup Ty.str) (Ty.last Ty.int)))))) (v__law_due_rules)) (bCons (bName (t := Ty.str) (v__law_due_name)) (bCons (bName (t := (Ty.vtup Ty.str)) (v__law_due_parts)) (bName (t := Ty.int) (v__law_due_cost)))) (Gam.mask [true, true, false, false, false, false, false]) lb__law_due_1)
theorem lp__law_due_1_eq : lp__law_due_1 = (sFor (eV (t := (Ty.list (Ty.tup (Ty.cons Ty.str (Ty.cons (Ty.vtup Ty.str) (Ty.last Ty.int)))))) (v__law_due_rules)) (bCons (bName (t := Ty.str) (v__law_due_name)) (bCons (bName (t := (Ty.vtup Ty.str)) (v__law_due_parts)) (bName (t := Ty.int) (v__law_due_cost)))) (Gam.mask [true, true, false, false, false, false, false]) lb__law_due_1) := hide_eq _
noncomputable def b__law_due : Gam g__law_due → Option (Fl (Gam g__law_due) (den Ty.bool)) :=
  (sSeq (sSet (v__law_due_first) (eProj (b := (Ty.cons Ty.str (Ty.cons (Ty.vtup Ty.str) (Ty.last Ty.int)))) (t := Ty.str) .z (e2 atI (eV (t := (Ty.list (Ty.tup (Ty.cons Ty.str (Ty.cons (Ty.vtup Ty.str) (Ty.last Ty.int)))))) (v__law_due_rules)) (eC (0 : Int)))))
  (sSeq lp__law_due_1
  (sRet (eC false))))
noncomputable def m__law_due : den (Ty.last (Ty.list (Ty.tup (Ty.cons Ty.str (Ty.cons (Ty.vtup Ty.str) (Ty.last Ty.int)))))) → Option (den Ty.bool) := hide (runG (Ty.last (Ty.list (Ty.tup (Ty.cons Ty.str (Ty.cons (Ty.vtup Ty.str) (Ty.last Ty.int)))))) [Ty.str, Ty.str, (Ty.vtup Ty.str), Ty.int, (Ty.list (Ty.tup (Ty.cons Ty.str (Ty.cons (Ty.vtup Ty.str) (Ty.last Ty.int))))), (Ty.tup (Ty.cons Ty.str (Ty.cons (Ty.vtup Ty.str) (Ty.last Ty.int))))] b__law_due)
theorem m__law_due_eq (d : den (Ty.last (Ty.list (Ty.tup (Ty.cons Ty.str (Ty.cons (Ty.vtup Ty.str) (Ty.last Ty.int))))))) : m__law_due d = runG (Ty.last (Ty.list (Ty.tup (Ty.cons Ty.str (Ty.cons (Ty.vtup Ty.str) (Ty.last Ty.int)))))) [Ty.str, Ty.str, (Ty.vtup Ty.str), Ty.int, (Ty.list (Ty.tup (Ty.cons Ty.str (Ty.cons (Ty.vtup Ty.str) (Ty.last Ty.int))))), (Ty.tup (Ty.cons Ty.str (Ty.cons (Ty.vtup Ty.str) (Ty.last Ty.int))))] b__law_due d := congrFun (hide_eq _) d
theorem m__law_due_at (p0 : den (Ty.list (Ty.tup (Ty.cons Ty.str (Ty.cons (Ty.vtup Ty.str) (Ty.last Ty.int)))))) : m__law_due (p0) = endOf (b__law_due ((some p0, none, none, none, none, none, none, ()) : Gam g__law_due)) := by
  rw [m__law_due_eq]
  rfl
set_option maxHeartbeats 4000000 in
theorem ok__law_due {f : Addr} {fd : FuncData} (F : Fun K "_law_due" "_law_due" s__law_due f fd) (T : Txt K mg) :
    FnOk K.P K.w K mg base CX0 1 f fd P__law_due (spP K (Ty.last (Ty.list (Ty.tup (Ty.cons Ty.str (Ty.cons (Ty.vtup Ty.str) (Ty.last Ty.int)))))) .o Ty.bool m__law_due) := by
  have S := sc__law_due
  refine fn_ok (F := b__law_due) [Ty.str, Ty.str, (Ty.vtup Ty.str), Ty.int, (Ty.list (Ty.tup (Ty.cons Ty.str (Ty.cons (Ty.vtup Ty.str) (Ty.last Ty.int))))), (Ty.tup (Ty.cons Ty.str (Ty.cons (Ty.vtup Ty.str) (Ty.last Ty.int))))] M__law_due F S rfl rfl rfl m__law_due_eq (fun cdv A outer s H E hr => ?_)
  refine ⟨_, (pss_cons (ps_set (i := 1) S.nd rfl (Or.inr rfl) (pe_ix (r := rIxT K) ix_tup (pe_ix (r := rIxL K) ix_list (pv 0) pe_int (fun _ _ => rfl)) pe_int (fun _ _ => rfl)))
  (pss_cons (ps_for PassesOwn.never rfl (pi_listK K rfl (pv 0)) (pg_tupK (n := 3) K rfl rfl (pgs_cons (pg_name (i := 2) S.nd rfl (Or.inl rfl)) (pgs_cons (pg_name (i := 3) S.nd rfl (Or.inl rfl)) (pgs_cons (pg_name (i := 4) S.nd rfl (Or.inl rfl)) pgs_nil)))) (pss_cons (ps_setLc (own := [("rule", 6)]) (i := 5) rfl S.nd rfl rfl (sw_true rfl rfl rfl (by decide +kernel)) (pi_listK K rfl (pv 0)) (blkOk_by (N := N__law_due) (sc := defScope s__law_due) (by decide +kernel)) (fun _ _ _ _ _ => (pg_name (i := 6) S.nd rfl (Or.inl rfl))) (fun _ _ _ _ _ => (pts_one (pt_cmpR (r := rIn K false) op_in_seq (pv 1) (pe_ix (r := rIxT K) ix_tup (pv 6) pe_int (fun _ _ => rfl)) (by rfl)))) (fun _ _ _ _ _ => (pv 6)))
  (pss_one (ps_if (PW.pt (pw_and (pt_cmpR (r := rEqD K) (op_eqD hr.units) (pv 3) (pe_tup pa_nil) (nomark _)) (pw_and1 (PW.pt (pw_or (pt_cmpR op_ne (pv 2) (pv 1) (nomark _)) (pw_or1 (pt_cmpR (r := rNeD K) (op_neD hr.units) (pv 5) (pe_lst pa_nil) (nomark _)))))))) (pss_one (ps_ret pe_bl)) pss_nil))))
  (pss_one (ps_ret pe_bl)))), ?_⟩
  exact (rs_seq (rs_set (ms := M__law_due) (m := .w) (v__law_due_first) (rp_frz .w (rp_proj (m := .b) (b := (Ty.cons Ty.str (Ty.cons (Ty.vtup Ty.str) (Ty.last Ty.int)))) (t := Ty.str) .z 0 (rp_op (m1 := .b) (m2 := .b) (v_ixL (t := (Ty.tup (Ty.cons Ty.str (Ty.cons (Ty.vtup Ty.str) (Ty.last Ty.int)))))) (rp_le (rp_varw (ms := M__law_due) (v__law_due_rules))) rp_int))))
  (rs_seq (rs_hide (rs_for (w := true) (t := (Ty.tup (Ty.cons Ty.str (Ty.cons (Ty.vtup Ty.str) (Ty.last Ty.int))))) [true, true, false, false, false, false, false] (ri_list (w := true) (t := (Ty.tup (Ty.cons Ty.str (Ty.cons (Ty.vtup Ty.str) (Ty.last Ty.int))))) (rp_varw (ms := M__law_due) (v__law_due_rules))) (rg_tup (rgs_cons (rg_name (ms := M__law_due) (v__law_due_name)) (rgs_cons (rg_name (ms := M__law_due) (v__law_due_parts)) (rgs_one (rg_name (ms := M__law_due) (v__law_due_cost)))))) (rs_seq (rs_set (ms := M__law_due) (m := .l) (v__law_due_within) (rp_le (rp_hide (rp_lc (w := true) (m := .o) (t := (Ty.tup (Ty.cons Ty.str (Ty.cons (Ty.vtup Ty.str) (Ty.last Ty.int))))) (u := (Ty.tup (Ty.cons Ty.str (Ty.cons (Ty.vtup Ty.str) (Ty.last Ty.int))))) [true, true, true, true, true, true, false] [6] (ris_of (ri_list (w := true) (t := (Ty.tup (Ty.cons Ty.str (Ty.cons (Ty.vtup Ty.str) (Ty.last Ty.int))))) (rp_varw (ms := M__law_due) (v__law_due_rules)))) (rg_name (ms := M__law_due) (v__law_due_rule)) gw_name (rt_test (rp_op (m := .b) (m1 := .b) (m2 := .b) (v_inV (t := Ty.str) rfl) (rp_frz .b (rp_varw (ms := M__law_due) (v__law_due_first))) (rp_proj (m := .b) (b := (Ty.cons Ty.str (Ty.cons (Ty.vtup Ty.str) (Ty.last Ty.int)))) (t := (Ty.vtup Ty.str)) (.s .z) 1 (rp_frz .b (rp_varw (ms := M__law_due) (v__law_due_rule)))))) (rp_frz .o (rp_varw (ms := M__law_due) (v__law_due_rule)))))))
  (rs_if (rt_and (rt_test (rp_op (m := .b) (m1 := .b) (m2 := .b) (v_eqD (t := (Ty.vtup Ty.str)) (by decide)) (rp_frz .b (rp_varw (ms := M__law_due) (v__law_due_parts))) (rp_frz .b (rp_vtup (m := .o) (t := Ty.str) rl_nil)))) (rt_or (rt_test (rp_op (m := .b) (m1 := .b) (m2 := .b) v_neS (rp_frz .b (rp_varw (ms := M__law_due) (v__law_due_name))) (rp_frz .b (rp_varw (ms := M__law_due) (v__law_due_first))))) (rt_test (rp_op (m := .b) (m1 := .b) (m2 := .b) (v_neD (t := (Ty.list (Ty.tup (Ty.cons Ty.str (Ty.cons (Ty.vtup Ty.str) (Ty.last Ty.int)))))) (by decide)) (rp_le (rp_varl (ms := M__law_due) (v__law_due_within))) (rp_le (rp_list (t := (Ty.tup (Ty.cons Ty.str (Ty.cons (Ty.vtup Ty.str) (Ty.last Ty.int))))) rl_nil)))))) (rs_ret (rm := .o) (ρ := Ty.bool) rp_bool) rs_next))))
  (rs_ret (rm := .o) (ρ := Ty.bool) rp_bool)))
abbrev s_law : Stmt := topS 33
abbrev N_law : List Str := ["script", "rules", "longer", "name", "parts", "cost", "some", "grammar"]
abbrev P_law : List Str := ["script"]
theorem sc_law : FnScope N_law P_law (defScope s_law) := ⟨rfl, rfl, rfl, by decide +kernel, rfl, by decide +kernel, by decide +kernel⟩
abbrev g_law : List Ty := [(Ty.list Ty.int), (Ty.list (Ty.tup (Ty.cons Ty.str (Ty.cons (Ty.vtup Ty.str) (Ty.last Ty.int))))), (Ty.list (Ty.tup (Ty.cons Ty.str (Ty.cons (Ty.vtup Ty.str) (Ty.last Ty.int))))), Ty.str, (Ty.vtup Ty.str), Ty.int, (Ty.list (Ty.tup (Ty.cons Ty.str (Ty.cons (Ty.vtup Ty.str) (Ty.last Ty.int))))), (Ty.list (Ty.tup (Ty.cons Ty.str (Ty.cons (Ty.vtup Ty.str) (Ty.last Ty.int)))))]
abbrev M_law : List Md := [.w, .l, .o, .w, .w, .w, .l, .l]
abbrev v_law_script : Mem g_law (Ty.list Ty.int) := .z
abbrev v_law_rules : Mem g_law (Ty.list (Ty.tup (Ty.cons Ty.str (Ty.cons (Ty.vtup Ty.str) (Ty.last Ty.int))))) := (.s .z)
abbrev v_law_longer : Mem g_law (Ty.list (Ty.tup (Ty.cons Ty.str (Ty.cons (Ty.vtup Ty.str) (Ty.last Ty.int))))) := (.s (.s .z))
abbrev v_law_name : Mem g_law Ty.str := (.s (.s (.s .z)))
abbrev v_law_parts : Mem g_law (Ty.vtup Ty.str) := (.s (.s (.s (.s .z))))
abbrev v_law_cost : Mem g_law Ty.int := (.s (.s (.s (.s (.s .z)))))
abbrev v_law_some : Mem g_law (Ty.list (Ty.tup (Ty.cons Ty.str (Ty.cons (Ty.vtup Ty.str) (Ty.last Ty.int))))) := (.s (.s (.s (.s (.s (.s .z))))))
abbrev v_law_grammar : Mem g_law (Ty.list (Ty.tup (Ty.cons Ty.str (Ty.cons (Ty.vtup Ty.str) (Ty.last Ty.int))))) := (.s (.s (.s (.s (.s (.s (.s .z)))))))
abbrev st_law_2 (x0_longer : den (Ty.list (Ty.tup (Ty.cons Ty.str (Ty.cons (Ty.vtup Ty.str) (Ty.last Ty.int)))))) : Gam g_law := (none, none, some x0_longer, none, none, none, none, none, ())
noncomputable def lb_law_2 : Gam g_law → Option (Fl (Gam g_law) (den Ty.bool)) :=
  (sSeq (sSet (v_law_grammar) (e1 m_grammar_of (eV (t := (Ty.list (Ty.tup (Ty.cons Ty.str (Ty.cons (Ty.vtup Ty.str) (Ty.last Ty.int)))))) (v_law_some))))
  (sSeq (sIf (e2 fNeB (e1 m__law_refused (eCons (eV (t := (Ty.list (Ty.tup (Ty.cons Ty.str (Ty.cons (Ty.vtup Ty.str) (Ty.last Ty.int)))))) (v_law_grammar)) (eC (0 : Int)))) (e1 m__law_due (eV (t := (Ty.list (Ty.tup (Ty.cons Ty.str (Ty.cons (Ty.vtup Ty.str) (Ty.last Ty.int)))))) (v_law_some)))) (sRet (eC false)) sNext)
  (sSeq (sIf (eOr (e1 m__law_refused (eCons (eV (t := (Ty.list (Ty.tup (Ty.cons Ty.str (Ty.cons (Ty.vtup Ty.str) (Ty.last Ty.int)))))) (v_law_grammar)) (eC (1 : Int)))) (e1 m__law_refused (eCons (eV (t := (Ty.list (Ty.tup (Ty.cons Ty.str (Ty.cons (Ty.vtup Ty.str) (Ty.last Ty.int)))))) (v_law_grammar)) (eC (2 : Int))))) (sRet (eC false)) sNext)
  (sIf (eOr (e2 (fNeD (Ty.list (Ty.tup (Ty.cons Ty.str (Ty.cons (Ty.vtup Ty.str) (Ty.last Ty.int)))))) (eV (t := (Ty.list (Ty.tup (Ty.cons Ty.str (Ty.cons (Ty.vtup Ty.str) (Ty.last Ty.int)))))) (v_law_grammar)) (eV (t := (Ty.list (Ty.tup (Ty.cons Ty.str (Ty.cons (Ty.vtup Ty.str) (Ty.last Ty.int)))))) (v_law_some))) (eOr (e2 (fEqD (Ty.list (Ty.tup (Ty.cons Ty.str (Ty.cons (Ty.vtup Ty.str) (Ty.last Ty.int)))))) (eProj (b := (Ty.cons (Ty.own (Ty.list (Ty.tup (Ty.cons Ty.str (Ty.cons (Ty.vtup Ty.str) (Ty.last Ty.int)))))) (Ty.last (Ty.own (Ty.list Ty.any))))) (t := (Ty.own (Ty.list (Ty.tup (Ty.cons Ty.str (Ty.cons (Ty.vtup Ty.str) (Ty.last Ty.int))))))) .z (e1 m_no_empty (eV (t := (Ty.list (Ty.tup (Ty.cons Ty.str (Ty.cons (Ty.vtup Ty.str) (Ty.last Ty.int)))))) (v_law_grammar)))) (e1 fSmall eNil)) (e2 (fEqD (Ty.list (Ty.tup (Ty.cons Ty.str (Ty.cons (Ty.vtup Ty.str) (Ty.last Ty.int)))))) (eProj (b := (Ty.cons (Ty.own (Ty.list (Ty.tup (Ty.cons Ty.str (Ty.cons (Ty.vtup Ty.str) (Ty.last Ty.int)))))) (Ty.last (Ty.own (Ty.list Ty.any))))) (t := (Ty.own (Ty.list (Ty.tup (Ty.cons Ty.str (Ty.cons (Ty.vtup Ty.str) (Ty.last Ty.int))))))) .z (e1 m_twos (eV (t := (Ty.list (Ty.tup (Ty.cons Ty.str (Ty.cons (Ty.vtup Ty.str) (Ty.last Ty.int)))))) (v_law_grammar)))) (e1 fSmall eNil)))) (sRet (eC false)) sNext))))
noncomputable def lp_law_2 : Gam g_law → Option (Fl (Gam g_law) (den Ty.bool)) := hide (sFor (e1 fSmall (eSnoc (eV (t := (Ty.list (Ty.tup (Ty.cons Ty.str (Ty.cons (Ty.vtup Ty.str) (Ty.last Ty.int)))))) (v_law_rules)) (eSnoc (eV (t := (Ty.list (Ty.tup (Ty.cons Ty.str (Ty.cons (Ty.vtup Ty.str) (Ty.last Ty.int)))))) (v_law_longer)) eNil))) (bName (t := (Ty.list (Ty.tup (Ty.cons Ty.str (Ty.cons (Ty.vtup Ty.str) (Ty.last Ty.int)))))) (v_law_some)) (Gam.mask [false, false, true, false, false, false, false, false]) lb_law_2)
theorem lp_law_2_eq : lp_law_2 = (sFor (e1 fSmall (eSnoc (eV (t := (Ty.list (Ty.tup (Ty.cons Ty.str (Ty.cons (Ty.vtup Ty.str) (Ty.last Ty.int)))))) (v_law_rules)) (eSnoc (eV (t := (Ty.list (Ty.tup (Ty.cons Ty.str (Ty.cons (Ty.vtup Ty.str) (Ty.last Ty.int)))))) (v_law_longer)) eNil))) (bName (t := (Ty.list (Ty.tup (Ty.cons Ty.str (Ty.cons (Ty.vtup Ty.str) (Ty.last Ty.int)))))) (v_law_some)) (Gam.mask [false, false, true, false, false, false, false, false]) lb_law_2) := hide_eq _
abbrev st_law_1 (x0_rules : den (Ty.list (Ty.tup (Ty.cons Ty.str (Ty.cons (Ty.vtup Ty.str) (Ty.last Ty.int)))))) (x1_longer : den (Ty.list (Ty.tup (Ty.cons Ty.str (Ty.cons (Ty.vtup Ty.str) (Ty.last Ty.int)))))) : Gam g_law := (none, some x0_rules, some x1_longer, none, none, none, none, none, ())
noncomputable def lb_law_1 : Gam g_law → Option (Fl (Gam g_law) (den Ty.bool)) :=
  (sSeq (sIf (e2 (fEqD (Ty.vtup Ty.str)) (eV (t := (Ty.vtup Ty.str)) (v_law_parts)) (e1 fSmall eNil)) (sSet (v_law_parts) (e1 fSmall (eSnoc (eC (Str.ofString "zoe")) eNil))) sNext)
  (sApp (v_law_longer) (eCons (eV (t := Ty.str) (v_law_name)) (eCons (eV (t := (Ty.vtup Ty.str)) (v_law_parts)) (eV (t := Ty.int) (v_law_cost))))))
noncomputable def lp_law_1 : Gam g_law → Option (Fl (Gam g_law) (den Ty.bool)) := hide (sFor (eV (t := (Ty.list (Ty.tup (Ty.cons Ty.str (Ty.cons (Ty.vtup Ty.str) (Ty.last Ty.int)))))) (v_law_rules)) (bCons (bName (t := Ty.str) (v_law_name)) (bCons (bName (t := (Ty.vtup Ty.str)) (v_law_parts)) (bName (t := Ty.int) (v_law_cost)))) (Gam.mask [false, true, true, false, false, false, false, false]) lb_law_1)
theorem lp_law_1_eq : lp_law_1 = (sFor (eV (t := (Ty.list (Ty.tup (Ty.cons Ty.str (Ty.cons (Ty.vtup Ty.str) (Ty.last Ty.int)))))) (v_law_rules)) (bCons (bName (t := Ty.str) (v_law_name)) (bCons (bName (t := (Ty.vtup Ty.str)) (v_law_parts)) (bName (t := Ty.int) (v_law_cost)))) (Gam.mask [false, true, true, false, false, false, false, false]) lb_law_1) := hide_eq _
noncomputable def b_law : Gam g_law → Option (Fl (Gam g_law) (den Ty.bool)) :=
  (sSeq (sSet (v_law_rules) (e1 m__law_rules (eCons (e3 fCutL (eV (t := (Ty.list Ty.int)) (v_law_script)) (e1 (fun i => some (some i)) (eC (1 : Int))) (e1 (fun i => some (some i)) (eC (14 : Int)))) (eCons (e2 fAdd (eC (1 : Int)) (e2 atI (e1 m__law_drawn (eCons (e1 m__law_cell_at (eCons (eV (t := (Ty.list Ty.int)) (v_law_script)) (eC (0 : Int)))) (e1 fSmall (eSnoc (eC (4 : Int)) eNil)))) (eC (0 : Int)))) (eC (4 : Int))))))
  (sSeq (sSet (v_law_longer) (e1 fSmall eNil))
  (sSeq lp_law_1
  (sPub (v_law_longer) (sSeq lp_law_2
  (sRet (e2 fGt (e1 fLen (eProj (b := (Ty.cons (Ty.own (Ty.list (Ty.tup (Ty.cons Ty.str (Ty.cons (Ty.vtup Ty.str) (Ty.last Ty.int)))))) (Ty.last (Ty.own (Ty.list Ty.any))))) (t := (Ty.own (Ty.list (Ty.tup (Ty.cons Ty.str (Ty.cons (Ty.vtup Ty.str) (Ty.last Ty.int))))))) .z (e1 (fun d => (m_no_single d).bind noExc) (e1 m_grammar_of (eV (t := (Ty.list (Ty.tup (Ty.cons Ty.str (Ty.cons (Ty.vtup Ty.str) (Ty.last Ty.int)))))) (v_law_longer)))))) (eC (0 : Int)))))))))
noncomputable def m_law : den (Ty.last (Ty.list Ty.int)) → Option (den Ty.bool) := hide (runG (Ty.last (Ty.list Ty.int)) [(Ty.list (Ty.tup (Ty.cons Ty.str (Ty.cons (Ty.vtup Ty.str) (Ty.last Ty.int))))), (Ty.list (Ty.tup (Ty.cons Ty.str (Ty.cons (Ty.vtup Ty.str) (Ty.last Ty.int))))), Ty.str, (Ty.vtup Ty.str), Ty.int, (Ty.list (Ty.tup (Ty.cons Ty.str (Ty.cons (Ty.vtup Ty.str) (Ty.last Ty.int))))), (Ty.list (Ty.tup (Ty.cons Ty.str (Ty.cons (Ty.vtup Ty.str) (Ty.last Ty.int)))))] b_law)
theorem m_law_eq (d : den (Ty.last (Ty.list Ty.int))) : m_law d = runG (Ty.last (Ty.list Ty.int)) [(Ty.list (Ty.tup (Ty.cons Ty.str (Ty.cons (Ty.vtup Ty.str) (Ty.last Ty.int))))), (Ty.list (Ty.tup (Ty.cons Ty.str (Ty.cons (Ty.vtup Ty.str) (Ty.last Ty.int))))), Ty.str, (Ty.vtup Ty.str), Ty.int, (Ty.list (Ty.tup (Ty.cons Ty.str (Ty.cons (Ty.vtup Ty.str) (Ty.last Ty.int))))), (Ty.list (Ty.tup (Ty.cons Ty.str (Ty.cons (Ty.vtup Ty.str) (Ty.last Ty.int)))))] b_law d := congrFun (hide_eq _) d
theorem m_law_at (p0 : den (Ty.list Ty.int)) : m_law (p0) = endOf (b_law ((some p0, none, none, none, none, none, none, none, ()) : Gam g_law)) := by
  rw [m_law_eq]
  rfl
set_option maxHeartbeats 4000000 in
theorem ok_law {f : Addr} {fd : FuncData} (F : Fun K "law" "law" s_law f fd) (T : Txt K mg) {f__law_rules : Addr} {fd__law_rules : FuncData} (D__law_rules : Df K mg "_law_rules" "_law_rules" s__law_rules P__law_rules f__law_rules fd__law_rules) (G__law_rules : FnOk K.P K.w K mg base CX0 4 f__law_rules fd__law_rules P__law_rules (spP K (Ty.cons (Ty.list Ty.int) (Ty.cons Ty.int (Ty.last Ty.int))) .o (Ty.list (Ty.tup (Ty.cons Ty.str (Ty.cons (Ty.vtup Ty.str) (Ty.last Ty.int))))) m__law_rules)) {f__law_drawn : Addr} {fd__law_drawn : FuncData} (D__law_drawn : Df K mg "_law_drawn" "_law_drawn" s__law_drawn P__law_drawn f__law_drawn fd__law_drawn) (G__law_drawn : FnOk K.P K.w K mg base CX0 2 f__law_drawn fd__law_drawn P__law_drawn (spP K (Ty.cons Ty.int (Ty.last (Ty.list Ty.int))) .o (Ty.list Ty.int) m__law_drawn)) {f__law_cell_at : Addr} {fd__law_cell_at : FuncData} (D__law_cell_at : Df K mg "_law_cell_at" "_law_cell_at" s__law_cell_at P__law_cell_at f__law_cell_at fd__law_cell_at) (G__law_cell_at : FnOk K.P K.w K mg base CX0 1 f__law_cell_at fd__law_cell_at P__law_cell_at (spP K (Ty.cons (Ty.list Ty.int) (Ty.last Ty.int)) .o Ty.int m__law_cell_at)) {f_grammar_of : Addr} {fd_grammar_of : FuncData} (D_grammar_of : Df K mg "grammar_of" "grammar_of" s_grammar_of P_grammar_of f_grammar_of fd_grammar_of) (G_grammar_of : FnOk K.P K.w K mg base CX0 2 f_grammar_of fd_grammar_of P_grammar_of (spP K (Ty.last (Ty.list (Ty.tup (Ty.cons Ty.str (Ty.cons (Ty.vtup Ty.str) (Ty.last Ty.int)))))) .o (Ty.list (Ty.tup (Ty.cons Ty.str (Ty.cons (Ty.vtup Ty.str) (Ty.last Ty.int))))) m_grammar_of)) {f__law_refused : Addr} {fd__law_refused : FuncData} (D__law_refused : Df K mg "_law_refused" "_law_refused" s__law_refused P__law_refused f__law_refused fd__law_refused) (G__law_refused : FnOk K.P K.w K mg base CX0 5 f__law_refused fd__law_refused P__law_refused (spP K (Ty.cons (Ty.list (Ty.tup (Ty.cons Ty.str (Ty.cons (Ty.vtup Ty.str) (Ty.last Ty.int))))) (Ty.last Ty.int)) .o Ty.bool m__law_refused)) {f__law_due : Addr} {fd__law_due : FuncData} (D__law_due : Df K mg "_law_due" "_law_due" s__law_due P__law_due f__law_due fd__law_due) (G__law_due : FnOk K.P K.w K mg base CX0 1 f__law_due fd__law_due P__law_due (spP K (Ty.last (Ty.list (Ty.tup (Ty.cons Ty.str (Ty.cons (Ty.vtup Ty.str) (Ty.last Ty.int)))))) .o Ty.bool m__law_due)) {f_no_empty : Addr} {fd_no_empty : FuncData} (D_no_empty : Df K mg "no_empty" "no_empty" s_no_empty P_no_empty f_no_empty fd_no_empty) (G_no_empty : FnOk K.P K.w K mg base CX0 3 f_no_empty fd_no_empty P_no_empty (spP K (Ty.last (Ty.list (Ty.tup (Ty.cons Ty.str (Ty.cons (Ty.vtup Ty.str) (Ty.last Ty.int)))))) .o (Ty.tup (Ty.cons (Ty.own (Ty.list (Ty.tup (Ty.cons Ty.str (Ty.cons (Ty.vtup Ty.str) (Ty.last Ty.int)))))) (Ty.last (Ty.own (Ty.list Ty.any))))) m_no_empty)) {f_twos : Addr} {fd_twos : FuncData} (D_twos : Df K mg "twos" "twos" s_twos P_twos f_twos fd_twos) (G_twos : FnOk K.P K.w K mg base CX0 3 f_twos fd_twos P_twos (spP K (Ty.last (Ty.list (Ty.tup (Ty.cons Ty.str (Ty.cons (Ty.vtup Ty.str) (Ty.last Ty.int)))))) .o (Ty.tup (Ty.cons (Ty.own (Ty.list (Ty.tup (Ty.cons Ty.str (Ty.cons (Ty.vtup Ty.str) (Ty.last Ty.int)))))) (Ty.last (Ty.own (Ty.list Ty.any))))) m_twos)) {f_no_single : Addr} {fd_no_single : FuncData} (D_no_single : Df K mg "no_single" "no_single" s_no_single P_no_single f_no_single fd_no_single) (G_no_single : FnOk K.P K.w K mg base (L2.CX K.P K.w) 4 f_no_single fd_no_single P_no_single (spX K (Ty.last (Ty.list (Ty.tup (Ty.cons Ty.str (Ty.cons (Ty.vtup Ty.str) (Ty.last Ty.int)))))) .o (Ty.tup (Ty.cons (Ty.own (Ty.list (Ty.tup (Ty.cons Ty.str (Ty.cons (Ty.vtup Ty.str) (Ty.last Ty.int)))))) (Ty.last (Ty.own (Ty.list Ty.any))))) m_no_single)) :
    FnOk K.P K.w K mg base CX0 6 f fd P_law (spP K (Ty.last (Ty.list Ty.int)) .o Ty.bool m_law) := by
  have S := sc_law
  refine fn_ok (F := b_law) [(Ty.list (Ty.tup (Ty.cons Ty.str (Ty.cons (Ty.vtup Ty.str) (Ty.last Ty.int))))), (Ty.list (Ty.tup (Ty.cons Ty.str (Ty.cons (Ty.vtup Ty.str) (Ty.last Ty.int))))), Ty.str, (Ty.vtup Ty.str), Ty.int, (Ty.list (Ty.tup (Ty.cons Ty.str (Ty.cons (Ty.vtup Ty.str) (Ty.last Ty.int))))), (Ty.list (Ty.tup (Ty.cons Ty.str (Ty.cons (Ty.vtup Ty.str) (Ty.last Ty.int)))))] M_law F S rfl rfl rfl m_law_eq (fun cdv A outer s H E hr => ?_)
  refine ⟨_, (pss_cons (ps_set (i := 1) S.nd rfl (Or.inl rfl) (pe_call G__law_rules (hr.mono (by decide)) rfl D__law_rules.gl D__law_rules.fn.kp D__law_rules.bi .nil pass0 (pa_cons (pe_slice (r := rSlL K) sl_list (pv 0) (po_some pe_int) (po_some pe_int)) (pa_cons (pe_op op_add pe_int (pe_ix (r := rIxL K) ix_list (pe_call G__law_drawn (hr.mono (by decide)) rfl D__law_drawn.gl D__law_drawn.fn.kp D__law_drawn.bi .nil pass0 (pa_cons (pe_call G__law_cell_at (hr.mono (by decide)) rfl D__law_cell_at.gl D__law_cell_at.fn.kp D__law_cell_at.bi .nil pass0 (pa_cons (pv 0) (pa_cons pe_int pa_nil))) (pa_cons (pe_lst (pa_cons pe_int pa_nil)) pa_nil))) pe_int (fun _ _ => rfl))) (pa_cons pe_int pa_nil)))))
  (pss_cons (ps_set (i := 2) S.nd rfl (Or.inl rfl) (pe_lst pa_nil))
  (pss_cons (ps_for PassesOwn.never rfl (pi_listK K rfl (pv 1)) (pg_tupK (n := 3) K rfl rfl (pgs_cons (pg_name (i := 3) S.nd rfl (Or.inl rfl)) (pgs_cons (pg_name (i := 4) S.nd rfl (Or.inl rfl)) (pgs_cons (pg_name (i := 5) S.nd rfl (Or.inl rfl)) pgs_nil)))) (pss_cons (ps_if (pt_cmpR (r := rEqD K) (op_eqD hr.units) (pv 4) (pe_tup pa_nil) (nomark _)) (pss_one (ps_set (i := 4) S.nd rfl (Or.inl rfl) (pe_tup (pa_cons pe_str pa_nil)))) pss_nil)
  (pss_one (ps_expr (pe_bm PySem.F.plainAttrs_list PySem.F.slot_list_append PySem.F.type_list_append mt_append (pv 2) (pa_cons (pe_tup (pa_cons (pv 3) (pa_cons (pv 4) (pa_cons (pv 5) pa_nil)))) pa_nil))))))
  (pss_cons (ps_for PassesOwn.never rfl (pi_listK K rfl (pe_lst (pa_cons (pv 1) (pa_cons (pv 2) pa_nil)))) (pg_name (i := 6) S.nd rfl (Or.inl rfl)) (pss_cons (ps_set (i := 7) S.nd rfl (Or.inl rfl) (pe_call G_grammar_of (hr.mono (by decide)) rfl D_grammar_of.gl D_grammar_of.fn.kp D_grammar_of.bi .nil pass0 (pa_cons (pe_callTy (r := rListOf K) call_list_of (by rfl) T.b_list (by decide +kernel) (pa_cons (pv 6) pa_nil)) pa_nil)))
  (pss_cons (ps_if (pt_cmpR op_ne (pe_call G__law_refused (hr.mono (by decide)) rfl D__law_refused.gl D__law_refused.fn.kp D__law_refused.bi .nil pass0 (pa_cons (pv 7) (pa_cons pe_int pa_nil))) (pe_call G__law_due (hr.mono (by decide)) rfl D__law_due.gl D__law_due.fn.kp D__law_due.bi .nil pass0 (pa_cons (pv 6) pa_nil)) (nomark _)) (pss_one (ps_ret pe_bl)) pss_nil)
  (pss_cons (ps_if (PW.pt (pw_or (pt_val (pe_call G__law_refused (hr.mono (by decide)) rfl D__law_refused.gl D__law_refused.fn.kp D__law_refused.bi .nil pass0 (pa_cons (pv 7) (pa_cons pe_int pa_nil)))) (pw_or1 (pt_val (pe_call G__law_refused (hr.mono (by decide)) rfl D__law_refused.gl D__law_refused.fn.kp D__law_refused.bi .nil pass0 (pa_cons (pv 7) (pa_cons pe_int pa_nil))))))) (pss_one (ps_ret pe_bl)) pss_nil)
  (pss_one (ps_if (PW.pt (pw_or (pt_cmpR (r := rNeD K) (op_neD hr.units) (pv 7) (pv 6) (nomark _)) (pw_or (pt_cmpR (r := rEqD K) (op_eqD hr.units) (pe_ix (r := rIxT K) ix_tup (pe_call G_no_empty (hr.mono (by decide)) rfl D_no_empty.gl D_no_empty.fn.kp D_no_empty.bi .nil pass0 (pa_cons (pv 7) pa_nil)) pe_int (fun _ _ => rfl)) (pe_lst pa_nil) (nomark _)) (pw_or1 (pt_cmpR (r := rEqD K) (op_eqD hr.units) (pe_ix (r := rIxT K) ix_tup (pe_call G_twos (hr.mono (by decide)) rfl D_twos.gl D_twos.fn.kp D_twos.bi .nil pass0 (pa_cons (pv 7) pa_nil)) pe_int (fun _ _ => rfl)) (pe_lst pa_nil) (nomark _)))))) (pss_one (ps_ret pe_bl)) pss_nil))))))
  (pss_one (ps_ret (pe_cmpR op_gt (pe_callB (r := VV.rLen K) call_len (by rfl) T.b_len (by decide +kernel) (pa_cons (pe_ix (r := rIxT K) ix_tup (pe_call G_no_single (hr.mono (by decide)) rfl D_no_single.gl D_no_single.fn.kp D_no_single.bi .nil passL (pa_cons (pe_call G_grammar_of (hr.mono (by decide)) rfl D_grammar_of.gl D_grammar_of.fn.kp D_grammar_of.bi .nil pass0 (pa_cons (pe_callTy (r := rListOf K) call_list_of (by rfl) T.b_list (by decide +kernel) (pa_cons (pv 2) pa_nil)) pa_nil)) pa_nil)) pe_int (fun _ _ => rfl)) pa_nil)) pe_int (nomark _)))))))), ?_⟩
  exact (rs_seq (rs_set (ms := M_law) (m := .l) (v_law_rules) (rp_le (rp_call (mA := .b) (rm := .o) (ρ := (Ty.list (Ty.tup (Ty.cons Ty.str (Ty.cons (Ty.vtup Ty.str) (Ty.last Ty.int)))))) (m := m__law_rules) rfl (ra_cons (rp_le (rp_sliceL (m := .b) (rp_le (rp_varw (ms := M_law) (v_law_script))) (ro_some (m := .b) rp_int) (ro_some (m := .b) rp_int))) (ra_cons (rp_op (m1 := .b) (m2 := .b) v_add rp_int (rp_op (m1 := .b) (m2 := .b) (v_ixL (t := Ty.int)) (rp_le (rp_call (mA := .b) (rm := .o) (ρ := (Ty.list Ty.int)) (m := m__law_drawn) rfl (ra_cons (rp_frz .b (rp_call (mA := .b) (rm := .o) (ρ := Ty.int) (m := m__law_cell_at) rfl (ra_cons (rp_le (rp_varw (ms := M_law) (v_law_script))) (ra_one rp_int)))) (ra_one (rp_le (rp_list (t := Ty.int) (rl_cons rp_int rl_nil))))))) rp_int)) (ra_one rp_int))))))
  (rs_seq (rs_set (ms := M_law) (m := .o) (v_law_longer) (rp_list (t := (Ty.tup (Ty.cons Ty.str (Ty.cons (Ty.vtup Ty.str) (Ty.last Ty.int))))) rl_nil))
  (rs_seq (rs_hide (rs_for (w := false) (t := (Ty.tup (Ty.cons Ty.str (Ty.cons (Ty.vtup Ty.str) (Ty.last Ty.int))))) [false, true, true, false, false, false, false, false] (ri_list (w := false) (t := (Ty.tup (Ty.cons Ty.str (Ty.cons (Ty.vtup Ty.str) (Ty.last Ty.int))))) (rp_varl (ms := M_law) (v_law_rules))) (rg_tup (rgs_cons (rg_name (ms := M_law) (v_law_name)) (rgs_cons (rg_name (ms := M_law) (v_law_parts)) (rgs_one (rg_name (ms := M_law) (v_law_cost)))))) (rs_seq (rs_if (rt_test (rp_op (m := .b) (m1 := .b) (m2 := .b) (v_eqD (t := (Ty.vtup Ty.str)) (by decide)) (rp_frz .b (rp_varw (ms := M_law) (v_law_parts))) (rp_frz .b (rp_vtup (m := .o) (t := Ty.str) rl_nil)))) (rs_set (ms := M_law) (m := .w) (v_law_parts) (rp_frz .w (rp_vtup (m := .o) (t := Ty.str) (rl_cons (rp_str) rl_nil)))) rs_next)
  (rs_app (ms := M_law) (v_law_longer) (rp_tup (m := .o) (ra_cons (rp_frz .o (rp_varw (ms := M_law) (v_law_name))) (ra_cons (rp_frz .o (rp_varw (ms := M_law) (v_law_parts))) (ra_one (rp_frz .o (rp_varw (ms := M_law) (v_law_cost)))))))))))
  (rs_pub (ms := M_law) (v_law_longer) (rs_seq (rs_hide (rs_for (w := false) (t := (Ty.list (Ty.tup (Ty.cons Ty.str (Ty.cons (Ty.vtup Ty.str) (Ty.last Ty.int)))))) [false, false, true, false, false, false, false, false] (ri_list (w := false) (t := (Ty.list (Ty.tup (Ty.cons Ty.str (Ty.cons (Ty.vtup Ty.str) (Ty.last Ty.int)))))) (rp_le (rp_list (t := (Ty.list (Ty.tup (Ty.cons Ty.str (Ty.cons (Ty.vtup Ty.str) (Ty.last Ty.int)))))) (rl_lo (rl_cons (rp_varl (ms := [.w, .l, .l, .w, .w, .w, .l, .l]) (v_law_rules)) (rl_cons (rp_varl (ms := [.w, .l, .l, .w, .w, .w, .l, .l]) (v_law_longer)) rl_nil)))))) (rg_name (ms := [.w, .l, .l, .w, .w, .w, .l, .l]) (v_law_some)) (rs_seq (rs_set (ms := [.w, .l, .l, .w, .w, .w, .l, .l]) (m := .l) (v_law_grammar) (rp_le (rp_call (mA := .b) (rm := .o) (ρ := (Ty.list (Ty.tup (Ty.cons Ty.str (Ty.cons (Ty.vtup Ty.str) (Ty.last Ty.int)))))) (m := m_grammar_of) rfl (ra_one (rp_le (rp_listL (m := .b) (t := (Ty.tup (Ty.cons Ty.str (Ty.cons (Ty.vtup Ty.str) (Ty.last Ty.int))))) (rp_le (rp_varl (ms := [.w, .l, .l, .w, .w, .w, .l, .l]) (v_law_some)))))))))
  (rs_seq (rs_if (rt_test (rp_op (m := .b) (m1 := .b) (m2 := .b) v_neB (rp_frz .b (rp_call (mA := .b) (rm := .o) (ρ := Ty.bool) (m := m__law_refused) rfl (ra_cons (rp_le (rp_varl (ms := [.w, .l, .l, .w, .w, .w, .l, .l]) (v_law_grammar))) (ra_one rp_int)))) (rp_frz .b (rp_call (mA := .b) (rm := .o) (ρ := Ty.bool) (m := m__law_due) rfl (ra_one (rp_le (rp_varl (ms := [.w, .l, .l, .w, .w, .w, .l, .l]) (v_law_some)))))))) (rs_ret (rm := .o) (ρ := Ty.bool) rp_bool) rs_next)
  (rs_seq (rs_if (rt_or (rt_val (m := .b) (rp_frz .b (rp_call (mA := .b) (rm := .o) (ρ := Ty.bool) (m := m__law_refused) rfl (ra_cons (rp_le (rp_varl (ms := [.w, .l, .l, .w, .w, .w, .l, .l]) (v_law_grammar))) (ra_one rp_int))))) (rt_val (m := .b) (rp_frz .b (rp_call (mA := .b) (rm := .o) (ρ := Ty.bool) (m := m__law_refused) rfl (ra_cons (rp_le (rp_varl (ms := [.w, .l, .l, .w, .w, .w, .l, .l]) (v_law_grammar))) (ra_one rp_int)))))) (rs_ret (rm := .o) (ρ := Ty.bool) rp_bool) rs_next)
  (rs_if (rt_or (rt_test (rp_op (m := .b) (m1 := .b) (m2 := .b) (v_neD (t := (Ty.list (Ty.tup (Ty.cons Ty.str (Ty.cons (Ty.vtup Ty.str) (Ty.last Ty.int)))))) (by decide)) (rp_le (rp_varl (ms := [.w, .l, .l, .w, .w, .w, .l, .l]) (v_law_grammar))) (rp_le (rp_varl (ms := [.w, .l, .l, .w, .w, .w, .l, .l]) (v_law_some))))) (rt_or (rt_test (rp_op (m := .b) (m1 := .b) (m2 := .b) (v_eqD (t := (Ty.list (Ty.tup (Ty.cons Ty.str (Ty.cons (Ty.vtup Ty.str) (Ty.last Ty.int)))))) (by decide)) (rp_le (rp_projO (b := (Ty.cons (Ty.own (Ty.list (Ty.tup (Ty.cons Ty.str (Ty.cons (Ty.vtup Ty.str) (Ty.last Ty.int)))))) (Ty.last (Ty.own (Ty.list Ty.any))))) (u := (Ty.list (Ty.tup (Ty.cons Ty.str (Ty.cons (Ty.vtup Ty.str) (Ty.last Ty.int)))))) .z 0 (rp_call (mA := .b) (rm := .o) (ρ := (Ty.tup (Ty.cons (Ty.own (Ty.list (Ty.tup (Ty.cons Ty.str (Ty.cons (Ty.vtup Ty.str) (Ty.last Ty.int)))))) (Ty.last (Ty.own (Ty.list Ty.any)))))) (m := m_no_empty) rfl (ra_one (rp_le (rp_varl (ms := [.w, .l, .l, .w, .w, .w, .l, .l]) (v_law_grammar))))))) (rp_le (rp_list (t := (Ty.tup (Ty.cons Ty.str (Ty.cons (Ty.vtup Ty.str) (Ty.last Ty.int))))) rl_nil)))) (rt_test (rp_op (m := .b) (m1 := .b) (m2 := .b) (v_eqD (t := (Ty.list (Ty.tup (Ty.cons Ty.str (Ty.cons (Ty.vtup Ty.str) (Ty.last Ty.int)))))) (by decide)) (rp_le (rp_projO (b := (Ty.cons (Ty.own (Ty.list (Ty.tup (Ty.cons Ty.str (Ty.cons (Ty.vtup Ty.str) (Ty.last Ty.int)))))) (Ty.last (Ty.own (Ty.list Ty.any))))) (u := (Ty.list (Ty.tup (Ty.cons Ty.str (Ty.cons (Ty.vtup Ty.str) (Ty.last Ty.int)))))) .z 0 (rp_call (mA := .b) (rm := .o) (ρ := (Ty.tup (Ty.cons (Ty.own (Ty.list (Ty.tup (Ty.cons Ty.str (Ty.cons (Ty.vtup Ty.str) (Ty.last Ty.int)))))) (Ty.last (Ty.own (Ty.list Ty.any)))))) (m := m_twos) rfl (ra_one (rp_le (rp_varl (ms := [.w, .l, .l, .w, .w, .w, .l, .l]) (v_law_grammar))))))) (rp_le (rp_list (t := (Ty.tup (Ty.cons Ty.str (Ty.cons (Ty.vtup Ty.str) (Ty.last Ty.int))))) rl_nil)))))) (rs_ret (rm := .o) (ρ := Ty.bool) rp_bool) rs_next))))))
  (rs_ret (rm := .o) (ρ := Ty.bool) (rp_op (m1 := .b) (m2 := .b) v_gt (rp_lenL (m' := .b) (rp_le (rp_projO (b := (Ty.cons (Ty.own (Ty.list (Ty.tup (Ty.cons Ty.str (Ty.cons (Ty.vtup Ty.str) (Ty.last Ty.int)))))) (Ty.last (Ty.own (Ty.list Ty.any))))) (u := (Ty.list (Ty.tup (Ty.cons Ty.str (Ty.cons (Ty.vtup Ty.str) (Ty.last Ty.int)))))) .z 0 (rp_callX (mA := .b) (rm := .o) (ρ := (Ty.tup (Ty.cons (Ty.own (Ty.list (Ty.tup (Ty.cons Ty.str (Ty.cons (Ty.vtup Ty.str) (Ty.last Ty.int)))))) (Ty.last (Ty.own (Ty.list Ty.any)))))) (m := m_no_single) rfl (ra_one (rp_le (rp_call (mA := .b) (rm := .o) (ρ := (Ty.list (Ty.tup (Ty.cons Ty.str (Ty.cons (Ty.vtup Ty.str) (Ty.last Ty.int)))))) (m := m_grammar_of) rfl (ra_one (rp_le (rp_listL (m := .b) (t := (Ty.tup (Ty.cons Ty.str (Ty.cons (Ty.vtup Ty.str) (Ty.last Ty.int))))) (rp_le (rp_varl (ms := [.w, .l, .l, .w, .w, .w, .l, .l]) (v_law_longer))))))))))))) rp_int)))))))
end
set_option maxHeartbeats 4000000 in
theorem all_mk {l : PySem.W.OpenLaw} {w : World} {K : PySem.W.Frag} {h : Heap} {mg : Str → Option Value} {fa : Addr} (X : K.In h) (G : h.Ns mainGlobals mg) (hfa : mg "law" = some (.ref fa))
    {f0 : Addr} {od0 an0 : Option Addr} {sl0 : Array (Option Value)} {oc0 kV0 dc0 pm0 cd0 ct0 : Value}
    {f1 : Addr} {od1 an1 : Option Addr} {sl1 : Array (Option Value)} {oc1 kV1 dc1 pm1 cd1 ct1 : Value}
    {f2 : Addr} {od2 an2 : Option Addr} {sl2 : Array (Option Value)} {oc2 kV2 dc2 pm2 cd2 ct2 : Value}
    {f3 : Addr} {od3 an3 : Option Addr} {sl3 : Array (Option Value)} {oc3 kV3 dc3 pm3 cd3 ct3 : Value}
    {f4 : Addr} {od4 an4 : Option Addr} {sl4 : Array (Option Value)} {oc4 kV4 dc4 pm4 cd4 ct4 : Value}
    {f5 : Addr} {od5 an5 : Option Addr} {sl5 : Array (Option Value)} {oc5 kV5 dc5 pm5 cd5 ct5 : Value}
    {f6 : Addr} {od6 an6 : Option Addr} {sl6 : Array (Option Value)} {oc6 kV6 dc6 pm6 cd6 ct6 : Value}
    {f7 : Addr} {od7 an7 : Option Addr} {sl7 : Array (Option Value)} {oc7 kV7 dc7 pm7 cd7 ct7 : Value}
    {f8 : Addr} {od8 an8 : Option Addr} {sl8 : Array (Option Value)} {oc8 kV8 dc8 pm8 cd8 ct8 : Value}
    {f9 : Addr} {od9 an9 : Option Addr} {sl9 : Array (Option Value)} {oc9 kV9 dc9 pm9 cd9 ct9 : Value}
    {f10 : Addr} {od10 an10 : Option Addr} {sl10 : Array (Option Value)} {oc10 kV10 dc10 pm10 cd10 ct10 : Value}
    {f11 : Addr} {od11 an11 : Option Addr} {sl11 : Array (Option Value)} {oc11 kV11 dc11 pm11 cd11 ct11 : Value}
    {f12 : Addr} {od12 an12 : Option Addr} {sl12 : Array (Option Value)} {oc12 kV12 dc12 pm12 cd12 ct12 : Value}
    {f13 : Addr} {od13 an13 : Option Addr} {sl13 : Array (Option Value)} {oc13 kV13 dc13 pm13 cd13 ct13 : Value}
    {f14 : Addr} {od14 an14 : Option Addr} {sl14 : Array (Option Value)} {oc14 kV14 dc14 pm14 cd14 ct14 : Value}
    {f15 : Addr} {od15 an15 : Option Addr} {sl15 : Array (Option Value)} {oc15 kV15 dc15 pm15 cd15 ct15 : Value}
    {f16 : Addr} {od16 an16 : Option Addr} {sl16 : Array (Option Value)} {oc16 kV16 dc16 pm16 cd16 ct16 : Value}
    {f17 : Addr} {od17 an17 : Option Addr} {sl17 : Array (Option Value)} {oc17 kV17 dc17 pm17 cd17 ct17 : Value}
    {f18 : Addr} {od18 an18 : Option Addr} {sl18 : Array (Option Value)} {oc18 kV18 dc18 pm18 cd18 ct18 : Value}
    {f19 : Addr} {od19 an19 : Option Addr} {sl19 : Array (Option Value)} {oc19 kV19 dc19 pm19 cd19 ct19 : Value}
    {f20 : Addr} {od20 an20 : Option Addr} {sl20 : Array (Option Value)} {oc20 kV20 dc20 pm20 cd20 ct20 : Value}
    {f21 : Addr} {od21 an21 : Option Addr} {sl21 : Array (Option Value)} {oc21 kV21 dc21 pm21 cd21 ct21 : Value}
    {f22 : Addr} {od22 an22 : Option Addr} {sl22 : Array (Option Value)} {oc22 kV22 dc22 pm22 cd22 ct22 : Value}
    {f23 : Addr} {od23 an23 : Option Addr} {sl23 : Array (Option Value)} {oc23 kV23 dc23 pm23 cd23 ct23 : Value}
    {C_Making : Addr} (kC : PySem.W.nsIn K mainGlobals "Making" = some (some (.ref C_Making))) (k_pg : PySem.W.plainGet K C_Making Str.empty = true) (k_hd : PySem.W.hasDictIn K C_Making = true) (k_po : PySem.W.plainOver K C_Making = true) (k_sa : PySem.W.findIn K (.ref C_Making) "__setattr__" = some (some (.builtin "object.__setattr__"))) (k_mk : PySem.W.makesIn K C_Making = true) (k_kc : PySem.W.keepIn K (.ref C_Making) = true) (k_n1 : PySem.W.findIn K (.ref C_Making) "rules" = some none) (k_n2 : PySem.W.findIn K (.ref C_Making) "backs" = some none) (k_n3 : PySem.W.findIn K (.ref C_Making) "known" = some none)
    (a0 : PySem.W.nsIn K mainGlobals "_law_stir" = some (some (.ref f0))) (l0 : K.lookup f0 = some ⟨oc0, od0, .func (PySem.W.fnOf "_law_stir" "_law_stir" (defArgs s__law_stir) (defBody s__law_stir) (defScope s__law_stir) .none kV0 dc0 pm0 an0 cd0 ct0), sl0⟩) (c0 : PySem.W.codeIn K cd0 "_law_stir" = true) (k0 : PySem.W.keepIn K (.ref f0) = true)
    (a1 : PySem.W.nsIn K mainGlobals "_law_drawn" = some (some (.ref f1))) (l1 : K.lookup f1 = some ⟨oc1, od1, .func (PySem.W.fnOf "_law_drawn" "_law_drawn" (defArgs s__law_drawn) (defBody s__law_drawn) (defScope s__law_drawn) .none kV1 dc1 pm1 an1 cd1 ct1), sl1⟩) (c1 : PySem.W.codeIn K cd1 "_law_drawn" = true) (k1 : PySem.W.keepIn K (.ref f1) = true)
    (a2 : PySem.W.nsIn K mainGlobals "_law_unlike" = some (some (.ref f2))) (l2 : K.lookup f2 = some ⟨oc2, od2, .func (PySem.W.fnOf "_law_unlike" "_law_unlike" (defArgs s__law_unlike) (defBody s__law_unlike) (defScope s__law_unlike) .none kV2 dc2 pm2 an2 cd2 ct2), sl2⟩) (c2 : PySem.W.codeIn K cd2 "_law_unlike" = true) (k2 : PySem.W.keepIn K (.ref f2) = true)
    (a3 : PySem.W.nsIn K mainGlobals "_law_cell_at" = some (some (.ref f3))) (l3 : K.lookup f3 = some ⟨oc3, od3, .func (PySem.W.fnOf "_law_cell_at" "_law_cell_at" (defArgs s__law_cell_at) (defBody s__law_cell_at) (defScope s__law_cell_at) .none kV3 dc3 pm3 an3 cd3 ct3), sl3⟩) (c3 : PySem.W.codeIn K cd3 "_law_cell_at" = true) (k3 : PySem.W.keepIn K (.ref f3) = true)
    (a4 : PySem.W.nsIn K mainGlobals "_law_rule" = some (some (.ref f4))) (l4 : K.lookup f4 = some ⟨oc4, od4, .func (PySem.W.fnOf "_law_rule" "_law_rule" (defArgs s__law_rule) (defBody s__law_rule) (defScope s__law_rule) .none kV4 dc4 pm4 an4 cd4 ct4), sl4⟩) (c4 : PySem.W.codeIn K cd4 "_law_rule" = true) (k4 : PySem.W.keepIn K (.ref f4) = true)
    (a5 : PySem.W.nsIn K mainGlobals "_law_rules" = some (some (.ref f5))) (l5 : K.lookup f5 = some ⟨oc5, od5, .func (PySem.W.fnOf "_law_rules" "_law_rules" (defArgs s__law_rules) (defBody s__law_rules) (defScope s__law_rules) .none kV5 dc5 pm5 an5 cd5 ct5), sl5⟩) (c5 : PySem.W.codeIn K cd5 "_law_rules" = true) (k5 : PySem.W.keepIn K (.ref f5) = true)
    (a6 : PySem.W.nsIn K mainGlobals "names" = some (some (.ref f6))) (l6 : K.lookup f6 = some ⟨oc6, od6, .func (PySem.W.fnOf "names" "names" (defArgs s_names) (defBody s_names) (defScope s_names) .none kV6 dc6 pm6 an6 cd6 ct6), sl6⟩) (c6 : PySem.W.codeIn K cd6 "names" = true) (k6 : PySem.W.keepIn K (.ref f6) = true)
    (a7 : PySem.W.nsIn K mainGlobals "is_name" = some (some (.ref f7))) (l7 : K.lookup f7 = some ⟨oc7, od7, .func (PySem.W.fnOf "is_name" "is_name" (defArgs s_is_name) (defBody s_is_name) (defScope s_is_name) .none kV7 dc7 pm7 an7 cd7 ct7), sl7⟩) (c7 : PySem.W.codeIn K cd7 "is_name" = true) (k7 : PySem.W.keepIn K (.ref f7) = true)
    (a8 : PySem.W.nsIn K mainGlobals "grammar_of" = some (some (.ref f8))) (l8 : K.lookup f8 = some ⟨oc8, od8, .func (PySem.W.fnOf "grammar_of" "grammar_of" (defArgs s_grammar_of) (defBody s_grammar_of) (defScope s_grammar_of) .none kV8 dc8 pm8 an8 cd8 ct8), sl8⟩) (c8 : PySem.W.codeIn K cd8 "grammar_of" = true) (k8 : PySem.W.keepIn K (.ref f8) = true)
    (a9 : PySem.W.findIn K (.ref C_Making) "__init__" = some (some (.ref f9))) (i9 : PySem.W.isFn K (.ref f9) = true) (l9 : K.lookup f9 = some ⟨oc9, od9, .func (PySem.W.fnOf "__init__" "Making.__init__" (defArgs s_Making___init__) (defBody s_Making___init__) (defScope s_Making___init__) .none kV9 dc9 pm9 an9 cd9 ct9), sl9⟩) (c9 : PySem.W.codeIn K cd9 "Making.__init__" = true) (k9 : PySem.W.keepIn K (.ref f9) = true)
    (a10 : PySem.W.findIn K (.ref C_Making) "told" = some (some (.ref f10))) (i10 : PySem.W.isFn K (.ref f10) = true) (l10 : K.lookup f10 = some ⟨oc10, od10, .func (PySem.W.fnOf "told" "Making.told" (defArgs s_Making_told) (defBody s_Making_told) (defScope s_Making_told) .none kV10 dc10 pm10 an10 cd10 ct10), sl10⟩) (c10 : PySem.W.codeIn K cd10 "Making.told" = true) (k10 : PySem.W.keepIn K (.ref f10) = true)
    (a11 : PySem.W.nsIn K mainGlobals "is_single" = some (some (.ref f11))) (l11 : K.lookup f11 = some ⟨oc11, od11, .func (PySem.W.fnOf "is_single" "is_single" (defArgs s_is_single) (defBody s_is_single) (defScope s_is_single) .none kV11 dc11 pm11 an11 cd11 ct11), sl11⟩) (c11 : PySem.W.codeIn K cd11 "is_single" = true) (k11 : PySem.W.keepIn K (.ref f11) = true)
    (a12 : PySem.W.nsIn K mainGlobals "chains_from" = some (some (.ref f12))) (l12 : K.lookup f12 = some ⟨oc12, od12, .func (PySem.W.fnOf "chains_from" "chains_from" (defArgs s_chains_from) (defBody s_chains_from) (defScope s_chains_from) .none kV12 dc12 pm12 an12 cd12 ct12), sl12⟩) (c12 : PySem.W.codeIn K cd12 "chains_from" = true) (k12 : PySem.W.keepIn K (.ref f12) = true)
    (a13 : PySem.W.findIn K (.ref C_Making) "put" = some (some (.ref f13))) (i13 : PySem.W.isFn K (.ref f13) = true) (l13 : K.lookup f13 = some ⟨oc13, od13, .func (PySem.W.fnOf "put" "Making.put" (defArgs s_Making_put) (defBody s_Making_put) (defScope s_Making_put) .none kV13 dc13 pm13 an13 cd13 ct13), sl13⟩) (c13 : PySem.W.codeIn K cd13 "Making.put" = true) (k13 : PySem.W.keepIn K (.ref f13) = true)
    (a14 : PySem.W.nsIn K mainGlobals "kept" = some (some (.ref f14))) (l14 : K.lookup f14 = some ⟨oc14, od14, .func (PySem.W.fnOf "kept" "kept" (defArgs s_kept) (defBody s_kept) (defScope s_kept) .none kV14 dc14 pm14 an14 cd14 ct14), sl14⟩) (c14 : PySem.W.codeIn K cd14 "kept" = true) (k14 : PySem.W.keepIn K (.ref f14) = true)
    (a15 : PySem.W.nsIn K mainGlobals "no_single" = some (some (.ref f15))) (l15 : K.lookup f15 = some ⟨oc15, od15, .func (PySem.W.fnOf "no_single" "no_single" (defArgs s_no_single) (defBody s_no_single) (defScope s_no_single) .none kV15 dc15 pm15 an15 cd15 ct15), sl15⟩) (c15 : PySem.W.codeIn K cd15 "no_single" = true) (k15 : PySem.W.keepIn K (.ref f15) = true)
    (a16 : PySem.W.nsIn K mainGlobals "empty_trees" = some (some (.ref f16))) (l16 : K.lookup f16 = some ⟨oc16, od16, .func (PySem.W.fnOf "empty_trees" "empty_trees" (defArgs s_empty_trees) (defBody s_empty_trees) (defScope s_empty_trees) .none kV16 dc16 pm16 an16 cd16 ct16), sl16⟩) (c16 : PySem.W.codeIn K cd16 "empty_trees" = true) (k16 : PySem.W.keepIn K (.ref f16) = true)
    (a17 : PySem.W.nsIn K mainGlobals "with_some_left" = some (some (.ref f17))) (l17 : K.lookup f17 = some ⟨oc17, od17, .func (PySem.W.fnOf "with_some_left" "with_some_left" (defArgs s_with_some_left) (defBody s_with_some_left) (defScope s_with_some_left) .none kV17 dc17 pm17 an17 cd17 ct17), sl17⟩) (c17 : PySem.W.codeIn K cd17 "with_some_left" = true) (k17 : PySem.W.keepIn K (.ref f17) = true)
    (a18 : PySem.W.nsIn K mainGlobals "made_name" = some (some (.ref f18))) (l18 : K.lookup f18 = some ⟨oc18, od18, .func (PySem.W.fnOf "made_name" "made_name" (defArgs s_made_name) (defBody s_made_name) (defScope s_made_name) .none kV18 dc18 pm18 an18 cd18 ct18), sl18⟩) (c18 : PySem.W.codeIn K cd18 "made_name" = true) (k18 : PySem.W.keepIn K (.ref f18) = true)
    (a19 : PySem.W.nsIn K mainGlobals "no_empty" = some (some (.ref f19))) (l19 : K.lookup f19 = some ⟨oc19, od19, .func (PySem.W.fnOf "no_empty" "no_empty" (defArgs s_no_empty) (defBody s_no_empty) (defScope s_no_empty) .none kV19 dc19 pm19 an19 cd19 ct19), sl19⟩) (c19 : PySem.W.codeIn K cd19 "no_empty" = true) (k19 : PySem.W.keepIn K (.ref f19) = true)
    (a20 : PySem.W.nsIn K mainGlobals "twos" = some (some (.ref f20))) (l20 : K.lookup f20 = some ⟨oc20, od20, .func (PySem.W.fnOf "twos" "twos" (defArgs s_twos) (defBody s_twos) (defScope s_twos) .none kV20 dc20 pm20 an20 cd20 ct20), sl20⟩) (c20 : PySem.W.codeIn K cd20 "twos" = true) (k20 : PySem.W.keepIn K (.ref f20) = true)
    (a21 : PySem.W.nsIn K mainGlobals "_law_refused" = some (some (.ref f21))) (l21 : K.lookup f21 = some ⟨oc21, od21, .func (PySem.W.fnOf "_law_refused" "_law_refused" (defArgs s__law_refused) (defBody s__law_refused) (defScope s__law_refused) .none kV21 dc21 pm21 an21 cd21 ct21), sl21⟩) (c21 : PySem.W.codeIn K cd21 "_law_refused" = true) (k21 : PySem.W.keepIn K (.ref f21) = true)
    (a22 : PySem.W.nsIn K mainGlobals "_law_due" = some (some (.ref f22))) (l22 : K.lookup f22 = some ⟨oc22, od22, .func (PySem.W.fnOf "_law_due" "_law_due" (defArgs s__law_due) (defBody s__law_due) (defScope s__law_due) .none kV22 dc22 pm22 an22 cd22 ct22), sl22⟩) (c22 : PySem.W.codeIn K cd22 "_law_due" = true) (k22 : PySem.W.keepIn K (.ref f22) = true)
    (a23 : PySem.W.nsIn K mainGlobals "law" = some (some (.ref f23))) (l23 : K.lookup f23 = some ⟨oc23, od23, .func (PySem.W.fnOf "law" "law" (defArgs s_law) (defBody s_law) (defScope s_law) .none kV23 dc23 pm23 an23 cd23 ct23), sl23⟩) (c23 : PySem.W.codeIn K cd23 "law" = true) (k23 : PySem.W.keepIn K (.ref f23) = true)
    (b_ValueError : PySem.W.nsIn K mainGlobals "ValueError" = some none)
    (b_all : PySem.W.nsIn K mainGlobals "all" = some none)
    (b_any : PySem.W.nsIn K mainGlobals "any" = some none)
    (b_enumerate : PySem.W.nsIn K mainGlobals "enumerate" = some none)
    (b_isinstance : PySem.W.nsIn K mainGlobals "isinstance" = some none)
    (b_len : PySem.W.nsIn K mainGlobals "len" = some none)
    (b_list : PySem.W.nsIn K mainGlobals "list" = some none)
    (b_range : PySem.W.nsIn K mainGlobals "range" = some none)
    (b_str : PySem.W.nsIn K mainGlobals "str" = some none)
    (b_tuple : PySem.W.nsIn K mainGlobals "tuple" = some none)
    (b_zip : PySem.W.nsIn K mainGlobals "zip" = some none)
    {t_GREAT : Tok} (c_GREAT : PySem.W.nsIn K mainGlobals "GREAT" = some (some (.str "ABCDEFGHIJKLMNOPQRSTUVWXYZ" t_GREAT)))
    {C_Endless : Addr} (ea_Endless : PySem.W.nsIn K mainGlobals "Endless" = some (some (.ref C_Endless)))
    (ek_Endless : PySem.W.keepIn K (.ref C_Endless) = true)
    (ex_Endless : PySem.W.excIn K C_Endless veMro "ValueError.__new__" = true)
    (et_Endless : PySem.W.typeIn K (.ref C_Endless) = some (.type "type"))
    (eg_Endless : PySem.W.findIn K (.ref C_Endless) "__getattribute__" = some (some (.builtin "BaseException.__getattribute__")))
    (eh_Endless : PySem.W.findIn K (.ref C_Endless) "__getattr__" = some none)
    (es_Endless : PySem.W.subIn K (.ref C_Endless) (.type "BaseException") = some true)
    (ed_Endless : PySem.W.hasDictIn K C_Endless = true)
    (el_Endless : PySem.W.findIn K (.ref C_Endless) "__class__" = some (some (.builtin "object.__class__")))
    (em_Endless : PySem.W.mroIn K C_Endless (.type "object") = some true)
    {C_GroveError : Addr} (ea_GroveError : PySem.W.nsIn K mainGlobals "GroveError" = some (some (.ref C_GroveError)))
    (ek_GroveError : PySem.W.keepIn K (.ref C_GroveError) = true)
    (ex_GroveError : PySem.W.excIn K C_GroveError veMro "ValueError.__new__" = true)
    (et_GroveError : PySem.W.typeIn K (.ref C_GroveError) = some (.type "type"))
    (eg_GroveError : PySem.W.findIn K (.ref C_GroveError) "__getattribute__" = some (some (.builtin "BaseException.__getattribute__")))
    (eh_GroveError : PySem.W.findIn K (.ref C_GroveError) "__getattr__" = some none)
    (es_GroveError : PySem.W.subIn K (.ref C_GroveError) (.type "BaseException") = some true)
    (ed_GroveError : PySem.W.hasDictIn K C_GroveError = true)
    (el_GroveError : PySem.W.findIn K (.ref C_GroveError) "__class__" = some (some (.builtin "object.__class__")))
    (em_GroveError : PySem.W.mroIn K C_GroveError (.type "object") = some true)
    {C_NoGrammar : Addr} (ea_NoGrammar : PySem.W.nsIn K mainGlobals "NoGrammar" = some (some (.ref C_NoGrammar)))
    (ek_NoGrammar : PySem.W.keepIn K (.ref C_NoGrammar) = true)
    (ex_NoGrammar : PySem.W.excIn K C_NoGrammar veMro "ValueError.__new__" = true)
    (et_NoGrammar : PySem.W.typeIn K (.ref C_NoGrammar) = some (.type "type"))
    (eg_NoGrammar : PySem.W.findIn K (.ref C_NoGrammar) "__getattribute__" = some (some (.builtin "BaseException.__getattribute__")))
    (eh_NoGrammar : PySem.W.findIn K (.ref C_NoGrammar) "__getattr__" = some none)
    (es_NoGrammar : PySem.W.subIn K (.ref C_NoGrammar) (.type "BaseException") = some true)
    (ed_NoGrammar : PySem.W.hasDictIn K C_NoGrammar = true)
    (el_NoGrammar : PySem.W.findIn K (.ref C_NoGrammar) "__class__" = some (some (.builtin "object.__class__")))
    (em_NoGrammar : PySem.W.mroIn K C_NoGrammar (.type "object") = some true)
    {C_NoOrder : Addr} (ea_NoOrder : PySem.W.nsIn K mainGlobals "NoOrder" = some (some (.ref C_NoOrder)))
    (ek_NoOrder : PySem.W.keepIn K (.ref C_NoOrder) = true)
    (ex_NoOrder : PySem.W.excIn K C_NoOrder veMro "ValueError.__new__" = true)
    (et_NoOrder : PySem.W.typeIn K (.ref C_NoOrder) = some (.type "type"))
    (eg_NoOrder : PySem.W.findIn K (.ref C_NoOrder) "__getattribute__" = some (some (.builtin "BaseException.__getattribute__")))
    (eh_NoOrder : PySem.W.findIn K (.ref C_NoOrder) "__getattr__" = some none)
    (es_NoOrder : PySem.W.subIn K (.ref C_NoOrder) (.type "BaseException") = some true)
    (ed_NoOrder : PySem.W.hasDictIn K C_NoOrder = true)
    (el_NoOrder : PySem.W.findIn K (.ref C_NoOrder) "__class__" = some (some (.builtin "object.__class__")))
    (em_NoOrder : PySem.W.mroIn K C_NoOrder (.type "object") = some true)
    {C_NoReading : Addr} (ea_NoReading : PySem.W.nsIn K mainGlobals "NoReading" = some (some (.ref C_NoReading)))
    (ek_NoReading : PySem.W.keepIn K (.ref C_NoReading) = true)
    (ex_NoReading : PySem.W.excIn K C_NoReading veMro "ValueError.__new__" = true)
    (et_NoReading : PySem.W.typeIn K (.ref C_NoReading) = some (.type "type"))
    (eg_NoReading : PySem.W.findIn K (.ref C_NoReading) "__getattribute__" = some (some (.builtin "BaseException.__getattribute__")))
    (eh_NoReading : PySem.W.findIn K (.ref C_NoReading) "__getattr__" = some none)
    (es_NoReading : PySem.W.subIn K (.ref C_NoReading) (.type "BaseException") = some true)
    (ed_NoReading : PySem.W.hasDictIn K C_NoReading = true)
    (el_NoReading : PySem.W.findIn K (.ref C_NoReading) "__class__" = some (some (.builtin "object.__class__")))
    (em_NoReading : PySem.W.mroIn K C_NoReading (.type "object") = some true)
    {C_NoText : Addr} (ea_NoText : PySem.W.nsIn K mainGlobals "NoText" = some (some (.ref C_NoText)))
    (ek_NoText : PySem.W.keepIn K (.ref C_NoText) = true)
    (ex_NoText : PySem.W.excIn K C_NoText veMro "ValueError.__new__" = true)
    (et_NoText : PySem.W.typeIn K (.ref C_NoText) = some (.type "type"))
    (eg_NoText : PySem.W.findIn K (.ref C_NoText) "__getattribute__" = some (some (.builtin "BaseException.__getattribute__")))
    (eh_NoText : PySem.W.findIn K (.ref C_NoText) "__getattr__" = some none)
    (es_NoText : PySem.W.subIn K (.ref C_NoText) (.type "BaseException") = some true)
    (ed_NoText : PySem.W.hasDictIn K C_NoText = true)
    (el_NoText : PySem.W.findIn K (.ref C_NoText) "__class__" = some (some (.builtin "object.__class__")))
    (em_NoText : PySem.W.mroIn K C_NoText (.type "object") = some true)
    {C_TooMany : Addr} (ea_TooMany : PySem.W.nsIn K mainGlobals "TooMany" = some (some (.ref C_TooMany)))
    (ek_TooMany : PySem.W.keepIn K (.ref C_TooMany) = true)
    (ex_TooMany : PySem.W.excIn K C_TooMany veMro "ValueError.__new__" = true)
    (et_TooMany : PySem.W.typeIn K (.ref C_TooMany) = some (.type "type"))
    (eg_TooMany : PySem.W.findIn K (.ref C_TooMany) "__getattribute__" = some (some (.builtin "BaseException.__getattribute__")))
    (eh_TooMany : PySem.W.findIn K (.ref C_TooMany) "__getattr__" = some none)
    (es_TooMany : PySem.W.subIn K (.ref C_TooMany) (.type "BaseException") = some true)
    (ed_TooMany : PySem.W.hasDictIn K C_TooMany = true)
    (el_TooMany : PySem.W.findIn K (.ref C_TooMany) "__class__" = some (some (.builtin "object.__class__")))
    (em_TooMany : PySem.W.mroIn K C_TooMany (.type "object") = some true)
    (eo_spec : PySem.W.specialIn K (.builtin "object.__class__") "__get__" = some (some (.builtin "getset_descriptor.__get__"))) (eo_take : PySem.W.takesIn K (.builtin "object.__class__") = some true)
    (i_NoGrammar_Endless : PySem.W.subIn K (.ref C_NoGrammar) (.ref C_Endless) = some false) (q_NoGrammar_Endless : C_NoGrammar ≠ C_Endless)
    (i_NoGrammar_GroveError : PySem.W.subIn K (.ref C_NoGrammar) (.ref C_GroveError) = some true)
    (i_NoGrammar_NoGrammar : PySem.W.subIn K (.ref C_NoGrammar) (.ref C_NoGrammar) = some true)
    (i_NoGrammar_NoOrder : PySem.W.subIn K (.ref C_NoGrammar) (.ref C_NoOrder) = some false) (q_NoGrammar_NoOrder : C_NoGrammar ≠ C_NoOrder)
    (i_NoGrammar_NoReading : PySem.W.subIn K (.ref C_NoGrammar) (.ref C_NoReading) = some false) (q_NoGrammar_NoReading : C_NoGrammar ≠ C_NoReading)
    (i_NoGrammar_NoText : PySem.W.subIn K (.ref C_NoGrammar) (.ref C_NoText) = some false) (q_NoGrammar_NoText : C_NoGrammar ≠ C_NoText)
    (i_NoGrammar_TooMany : PySem.W.subIn K (.ref C_NoGrammar) (.ref C_TooMany) = some false) (q_NoGrammar_TooMany : C_NoGrammar ≠ C_TooMany)
    (j_NoGrammar_ValueError : PySem.W.subIn K (.ref C_NoGrammar) (.type "ValueError") = some true)
    (n_GroveError : PySem.W.subIn K (.type "NoneType") (.ref C_GroveError) = some false)
    : ∃ fd : FuncData, (∀ (s : Shared) (v : Value), BindsTo s fd ⟨[v], []⟩ [("script", v)]) ∧ ∀ base : Heap, K.In base → base.Ns mainGlobals mg → FnOk l.prog w K mg base CX0 6 fa fd P_law (spP ⟨K, l.prog, w⟩ (.last (.list .int)) .o .bool m_law) := by
  have e := hfa.symm.trans (PySem.W.mg_of X G a23)
  cases e
  have E_Endless : ErrC K mg "Endless" C_Endless := ⟨ea_Endless, PySem.W.mg_of X G ea_Endless, ek_Endless, ex_Endless, et_Endless, ⟨eg_Endless, eh_Endless, es_Endless, ed_Endless, el_Endless, eo_spec, eo_take, em_Endless⟩⟩
  have E_GroveError : ErrC K mg "GroveError" C_GroveError := ⟨ea_GroveError, PySem.W.mg_of X G ea_GroveError, ek_GroveError, ex_GroveError, et_GroveError, ⟨eg_GroveError, eh_GroveError, es_GroveError, ed_GroveError, el_GroveError, eo_spec, eo_take, em_GroveError⟩⟩
  have E_NoGrammar : ErrC K mg "NoGrammar" C_NoGrammar := ⟨ea_NoGrammar, PySem.W.mg_of X G ea_NoGrammar, ek_NoGrammar, ex_NoGrammar, et_NoGrammar, ⟨eg_NoGrammar, eh_NoGrammar, es_NoGrammar, ed_NoGrammar, el_NoGrammar, eo_spec, eo_take, em_NoGrammar⟩⟩
  have E_NoOrder : ErrC K mg "NoOrder" C_NoOrder := ⟨ea_NoOrder, PySem.W.mg_of X G ea_NoOrder, ek_NoOrder, ex_NoOrder, et_NoOrder, ⟨eg_NoOrder, eh_NoOrder, es_NoOrder, ed_NoOrder, el_NoOrder, eo_spec, eo_take, em_NoOrder⟩⟩
  have E_NoReading : ErrC K mg "NoReading" C_NoReading := ⟨ea_NoReading, PySem.W.mg_of X G ea_NoReading, ek_NoReading, ex_NoReading, et_NoReading, ⟨eg_NoReading, eh_NoReading, es_NoReading, ed_NoReading, el_NoReading, eo_spec, eo_take, em_NoReading⟩⟩
  have E_NoText : ErrC K mg "NoText" C_NoText := ⟨ea_NoText, PySem.W.mg_of X G ea_NoText, ek_NoText, ex_NoText, et_NoText, ⟨eg_NoText, eh_NoText, es_NoText, ed_NoText, el_NoText, eo_spec, eo_take, em_NoText⟩⟩
  have E_TooMany : ErrC K mg "TooMany" C_TooMany := ⟨ea_TooMany, PySem.W.mg_of X G ea_TooMany, ek_TooMany, ex_TooMany, et_TooMany, ⟨eg_TooMany, eh_TooMany, es_TooMany, ed_TooMany, el_TooMany, eo_spec, eo_take, em_TooMany⟩⟩
  have MT : MkT K mg C_Making := ⟨⟨kC, ⟨k_pg, k_hd, k_po, k_sa⟩⟩, PySem.W.mg_of X G kC, k_n1, k_n2, k_n3⟩
  have T : Txt K mg := ⟨PySem.W.mg_none_of X G b_ValueError, PySem.W.mg_none_of X G b_all, PySem.W.mg_none_of X G b_any, PySem.W.mg_none_of X G b_enumerate, PySem.W.mg_none_of X G b_isinstance, PySem.W.mg_none_of X G b_len, PySem.W.mg_none_of X G b_list, PySem.W.mg_none_of X G b_range, PySem.W.mg_none_of X G b_str, PySem.W.mg_none_of X G b_tuple, PySem.W.mg_none_of X G b_zip, ⟨_, PySem.W.mg_of X G c_GREAT⟩, ⟨_, MT⟩, ⟨_, E_Endless⟩, ⟨_, E_GroveError⟩, ⟨_, E_NoGrammar⟩, ⟨_, E_NoOrder⟩, ⟨_, E_NoReading⟩, ⟨_, E_NoText⟩, ⟨_, E_TooMany⟩, ⟨_, _, ea_NoGrammar, ea_Endless, i_NoGrammar_Endless, .inr q_NoGrammar_Endless⟩, ⟨_, _, ea_NoGrammar, ea_GroveError, i_NoGrammar_GroveError, .inl rfl⟩, ⟨_, _, ea_NoGrammar, ea_NoGrammar, i_NoGrammar_NoGrammar, .inl rfl⟩, ⟨_, _, ea_NoGrammar, ea_NoOrder, i_NoGrammar_NoOrder, .inr q_NoGrammar_NoOrder⟩, ⟨_, _, ea_NoGrammar, ea_NoReading, i_NoGrammar_NoReading, .inr q_NoGrammar_NoReading⟩, ⟨_, _, ea_NoGrammar, ea_NoText, i_NoGrammar_NoText, .inr q_NoGrammar_NoText⟩, ⟨_, _, ea_NoGrammar, ea_TooMany, i_NoGrammar_TooMany, .inr q_NoGrammar_TooMany⟩, ⟨_, ea_NoGrammar, j_NoGrammar_ValueError⟩, (by have z := (show ∃ C, ErrC K mg "GroveError" C from ⟨_, E_GroveError⟩).choose_spec.ns.inj ea_GroveError; rw [z]; exact n_GroveError)⟩
  have F0 := fun_mk (x := "_law_stir") (qual := "_law_stir") (st := s__law_stir) l0 c0 k0
  have b0 := F0.binds (ps := P__law_stir) fun _ _ _ _ _ _ us hl => match us, hl with | [_, _], _ => rfl
  have D0 : Df K mg "_law_stir" "_law_stir" s__law_stir P__law_stir f0 _ := ⟨F0, PySem.W.mg_of X G a0, b0⟩
  have F1 := fun_mk (x := "_law_drawn") (qual := "_law_drawn") (st := s__law_drawn) l1 c1 k1
  have b1 := F1.binds (ps := P__law_drawn) fun _ _ _ _ _ _ us hl => match us, hl with | [_, _], _ => rfl
  have D1 : Df K mg "_law_drawn" "_law_drawn" s__law_drawn P__law_drawn f1 _ := ⟨F1, PySem.W.mg_of X G a1, b1⟩
  have F2 := fun_mk (x := "_law_unlike") (qual := "_law_unlike") (st := s__law_unlike) l2 c2 k2
  have b2 := F2.binds (ps := P__law_unlike) fun _ _ _ _ _ _ us hl => match us, hl with | [_, _, _], _ => rfl
  have D2 : Df K mg "_law_unlike" "_law_unlike" s__law_unlike P__law_unlike f2 _ := ⟨F2, PySem.W.mg_of X G a2, b2⟩
  have F3 := fun_mk (x := "_law_cell_at") (qual := "_law_cell_at") (st := s__law_cell_at) l3 c3 k3
  have b3 := F3.binds (ps := P__law_cell_at) fun _ _ _ _ _ _ us hl => match us, hl with | [_, _], _ => rfl
  have D3 : Df K mg "_law_cell_at" "_law_cell_at" s__law_cell_at P__law_cell_at f3 _ := ⟨F3, PySem.W.mg_of X G a3, b3⟩
  have F4 := fun_mk (x := "_law_rule") (qual := "_law_rule") (st := s__law_rule) l4 c4 k4
  have b4 := F4.binds (ps := P__law_rule) fun _ _ _ _ _ _ us hl => match us, hl with | [_, _, _, _], _ => rfl
  have D4 : Df K mg "_law_rule" "_law_rule" s__law_rule P__law_rule f4 _ := ⟨F4, PySem.W.mg_of X G a4, b4⟩
  have F5 := fun_mk (x := "_law_rules") (qual := "_law_rules") (st := s__law_rules) l5 c5 k5
  have b5 := F5.binds (ps := P__law_rules) fun _ _ _ _ _ _ us hl => match us, hl with | [_, _, _], _ => rfl
  have D5 : Df K mg "_law_rules" "_law_rules" s__law_rules P__law_rules f5 _ := ⟨F5, PySem.W.mg_of X G a5, b5⟩
  have F6 := fun_mk (x := "names") (qual := "names") (st := s_names) l6 c6 k6
  have b6 := F6.binds (ps := P_names) fun _ _ _ _ _ _ us hl => match us, hl with | [_], _ => rfl
  have D6 : Df K mg "names" "names" s_names P_names f6 _ := ⟨F6, PySem.W.mg_of X G a6, b6⟩
  have F7 := fun_mk (x := "is_name") (qual := "is_name") (st := s_is_name) l7 c7 k7
  have b7 := F7.binds (ps := P_is_name) fun _ _ _ _ _ _ us hl => match us, hl with | [_], _ => rfl
  have D7 : Df K mg "is_name" "is_name" s_is_name P_is_name f7 _ := ⟨F7, PySem.W.mg_of X G a7, b7⟩
  have F8 := fun_mk (x := "grammar_of") (qual := "grammar_of") (st := s_grammar_of) l8 c8 k8
  have b8 := F8.binds (ps := P_grammar_of) fun _ _ _ _ _ _ us hl => match us, hl with | [_], _ => rfl
  have D8 : Df K mg "grammar_of" "grammar_of" s_grammar_of P_grammar_of f8 _ := ⟨F8, PySem.W.mg_of X G a8, b8⟩
  have F9 := fun_mk (x := "__init__") (qual := "Making.__init__") (st := s_Making___init__) l9 c9 k9
  have b9 := F9.binds (ps := P_Making___init__) fun _ _ _ _ _ _ us hl => match us, hl with | [_], _ => rfl
  have D9 : DfI K mg "__init__" "Making.__init__" s_Making___init__ P_Making___init__ C_Making f9 _ := ⟨F9, MT, ⟨k_mk, a9, i9, k_kc⟩, b9⟩
  have F10 := fun_mk (x := "told") (qual := "Making.told") (st := s_Making_told) l10 c10 k10
  have b10 := F10.binds (ps := P_Making_told) fun _ _ _ _ _ _ us hl => match us, hl with | [_, _], _ => rfl
  have D10 : DfM K mg "told" "Making.told" s_Making_told P_Making_told C_Making f10 _ := ⟨F10, MT, ⟨a10, i10, k10⟩, b10⟩
  have F11 := fun_mk (x := "is_single") (qual := "is_single") (st := s_is_single) l11 c11 k11
  have b11 := F11.binds (ps := P_is_single) fun _ _ _ _ _ _ us hl => match us, hl with | [_], _ => rfl
  have D11 : Df K mg "is_single" "is_single" s_is_single P_is_single f11 _ := ⟨F11, PySem.W.mg_of X G a11, b11⟩
  have F12 := fun_mk (x := "chains_from") (qual := "chains_from") (st := s_chains_from) l12 c12 k12
  have b12 := F12.binds (ps := P_chains_from) fun _ _ _ _ _ _ us hl => match us, hl with | [_, _], _ => rfl
  have D12 : Df K mg "chains_from" "chains_from" s_chains_from P_chains_from f12 _ := ⟨F12, PySem.W.mg_of X G a12, b12⟩
  have F13 := fun_mk (x := "put") (qual := "Making.put") (st := s_Making_put) l13 c13 k13
  have b13 := F13.binds (ps := P_Making_put) fun _ _ _ _ _ _ us hl => match us, hl with | [_, _, _, _], _ => rfl
  have D13 : DfM K mg "put" "Making.put" s_Making_put P_Making_put C_Making f13 _ := ⟨F13, MT, ⟨a13, i13, k13⟩, b13⟩
  have F14 := fun_mk (x := "kept") (qual := "kept") (st := s_kept) l14 c14 k14
  have b14 := F14.binds (ps := P_kept) fun _ _ _ _ _ _ us hl => match us, hl with | [_], _ => rfl
  have D14 : Df K mg "kept" "kept" s_kept P_kept f14 _ := ⟨F14, PySem.W.mg_of X G a14, b14⟩
  have F15 := fun_mk (x := "no_single") (qual := "no_single") (st := s_no_single) l15 c15 k15
  have b15 := F15.binds (ps := P_no_single) fun _ _ _ _ _ _ us hl => match us, hl with | [_], _ => rfl
  have D15 : Df K mg "no_single" "no_single" s_no_single P_no_single f15 _ := ⟨F15, PySem.W.mg_of X G a15, b15⟩
  have F16 := fun_mk (x := "empty_trees") (qual := "empty_trees") (st := s_empty_trees) l16 c16 k16
  have b16 := F16.binds (ps := P_empty_trees) fun _ _ _ _ _ _ us hl => match us, hl with | [_], _ => rfl
  have D16 : Df K mg "empty_trees" "empty_trees" s_empty_trees P_empty_trees f16 _ := ⟨F16, PySem.W.mg_of X G a16, b16⟩
  have F17 := fun_mk (x := "with_some_left") (qual := "with_some_left") (st := s_with_some_left) l17 c17 k17
  have b17 := F17.binds (ps := P_with_some_left) fun _ _ _ _ _ _ us hl => match us, hl with | [_, _], _ => rfl
  have D17 : Df K mg "with_some_left" "with_some_left" s_with_some_left P_with_some_left f17 _ := ⟨F17, PySem.W.mg_of X G a17, b17⟩
  have F18 := fun_mk (x := "made_name") (qual := "made_name") (st := s_made_name) l18 c18 k18
  have b18 := F18.binds (ps := P_made_name) fun _ _ _ _ _ _ us hl => match us, hl with | [_, _], _ => rfl
  have D18 : Df K mg "made_name" "made_name" s_made_name P_made_name f18 _ := ⟨F18, PySem.W.mg_of X G a18, b18⟩
  have F19 := fun_mk (x := "no_empty") (qual := "no_empty") (st := s_no_empty) l19 c19 k19
  have b19 := F19.binds (ps := P_no_empty) fun _ _ _ _ _ _ us hl => match us, hl with | [_], _ => rfl
  have D19 : Df K mg "no_empty" "no_empty" s_no_empty P_no_empty f19 _ := ⟨F19, PySem.W.mg_of X G a19, b19⟩
  have F20 := fun_mk (x := "twos") (qual := "twos") (st := s_twos) l20 c20 k20
  have b20 := F20.binds (ps := P_twos) fun _ _ _ _ _ _ us hl => match us, hl with | [_], _ => rfl
  have D20 : Df K mg "twos" "twos" s_twos P_twos f20 _ := ⟨F20, PySem.W.mg_of X G a20, b20⟩
  have F21 := fun_mk (x := "_law_refused") (qual := "_law_refused") (st := s__law_refused) l21 c21 k21
  have b21 := F21.binds (ps := P__law_refused) fun _ _ _ _ _ _ us hl => match us, hl with | [_, _], _ => rfl
  have D21 : Df K mg "_law_refused" "_law_refused" s__law_refused P__law_refused f21 _ := ⟨F21, PySem.W.mg_of X G a21, b21⟩
  have F22 := fun_mk (x := "_law_due") (qual := "_law_due") (st := s__law_due) l22 c22 k22
  have b22 := F22.binds (ps := P__law_due) fun _ _ _ _ _ _ us hl => match us, hl with | [_], _ => rfl
  have D22 : Df K mg "_law_due" "_law_due" s__law_due P__law_due f22 _ := ⟨F22, PySem.W.mg_of X G a22, b22⟩
  have F23 := fun_mk (x := "law") (qual := "law") (st := s_law) l23 c23 k23
  have b23 := F23.binds (ps := P_law) fun _ _ _ _ _ _ us hl => match us, hl with | [_], _ => rfl
  refine ⟨PySem.W.fnOf "law" "law" (defArgs s_law) (defBody s_law) (defScope s_law) .none kV23 dc23 pm23 an23 cd23 ct23, fun s v => .of_eq rfl, fun base _ _ => ?_⟩
  have G0 := ok__law_stir (K := ⟨K, l.prog, w⟩) (base := base) F0 T 
  have G1 := ok__law_drawn (K := ⟨K, l.prog, w⟩) (base := base) F1 T D0 G0
  have G2 := ok__law_unlike (K := ⟨K, l.prog, w⟩) (base := base) F2 T 
  have G3 := ok__law_cell_at (K := ⟨K, l.prog, w⟩) (base := base) F3 T 
  have G4 := ok__law_rule (K := ⟨K, l.prog, w⟩) (base := base) F4 T D1 G1
  have G5 := ok__law_rules (K := ⟨K, l.prog, w⟩) (base := base) F5 T D1 G1 D3 G3 D2 G2 D4 G4
  have G6 := ok_names (K := ⟨K, l.prog, w⟩) (base := base) F6 T 
  have G7 := ok_is_name (K := ⟨K, l.prog, w⟩) (base := base) F7 T 
  have G8 := ok_grammar_of (K := ⟨K, l.prog, w⟩) (base := base) F8 T D6 G6 D7 G7
  have G9 := ok_Making___init__ (K := ⟨K, l.prog, w⟩) (base := base) F9 MT
  have G10 := ok_Making_told (K := ⟨K, l.prog, w⟩) (base := base) F10 T D7 G7
  have G11 := ok_is_single (K := ⟨K, l.prog, w⟩) (base := base) F11 T D7 G7
  have G12 := ok_chains_from (K := ⟨K, l.prog, w⟩) (base := base) F12 T D11 G11
  have G13 := ok_Making_put (K := ⟨K, l.prog, w⟩) (base := base) F13 T 
  have G14 := ok_kept (K := ⟨K, l.prog, w⟩) (base := base) F14 T 
  have G15 := ok_no_single (K := ⟨K, l.prog, w⟩) (base := base) F15 T D9 G9 D6 G6 D12 G12 D11 G11 D13 G13 D14 G14 D10 G10
  have G16 := ok_empty_trees (K := ⟨K, l.prog, w⟩) (base := base) F16 T 
  have G17 := ok_with_some_left (K := ⟨K, l.prog, w⟩) (base := base) F17 T 
  have G18 := ok_made_name (K := ⟨K, l.prog, w⟩) (base := base) F18 T 
  have G19 := ok_no_empty (K := ⟨K, l.prog, w⟩) (base := base) F19 T D16 G16 D18 G18 D6 G6 D9 G9 D17 G17 D13 G13 D10 G10
  have G20 := ok_twos (K := ⟨K, l.prog, w⟩) (base := base) F20 T D6 G6 D9 G9 D18 G18 D13 G13 D14 G14 D10 G10
  have G21 := ok__law_refused (K := ⟨K, l.prog, w⟩) (base := base) F21 T D15 G15 D19 G19 D20 G20
  have G22 := ok__law_due (K := ⟨K, l.prog, w⟩) (base := base) F22 T 
  exact ok_law (K := ⟨K, l.prog, w⟩) F23 T D5 G5 D1 G1 D3 G3 D8 G8 D21 G21 D22 G22 D19 G19 D20 G20 D15 G15
theorem walk {l : PySem.W.OpenLaw} {q : Program} {loose : List Str} {XP : (Str → Option Value) → Heap → Prop} {YP : World → Heap → Prop} {d : DefRec} {K : Params → PySem.W.Frag} (hlaw : ∀ ns : List Int, ns.length ≤ 63 → m_law ns = some true) (hn : l.most = some 63) (hdf : d.params.defaults = [])
    (hY : ∀ (w : World) (h : Heap), YP w h → (K w.params).In h)
    (F : ∀ (w : World) (mg : Str → Option Value) (fa : Addr) (h : Heap), (K w.params).In h → h.Ns mainGlobals mg → mg d.name = some (.ref fa) →
      ∃ fd : FuncData, (∀ (s : Shared) (u : Value), BindsTo s fd ⟨[u], []⟩ [("script", u)]) ∧ ∀ base : Heap, (K w.params).In base → base.Ns mainGlobals mg → FnOk l.prog w (K w.params) mg base CX0 6 fa fd ["script"] (spP ⟨K w.params, l.prog, w⟩ (.last (.list .int)) .o .bool m_law)) :
    PySem.W.WalkO q loose XP YP l.row.toRowW d [] (fun f vs => PySem.call f vs) :=
  L2.walk_of (n := 63) (k := 6) (x := "script") (CX := fun _ => CX0) (sp := fun w => spP ⟨K w.params, l.prog, w⟩ (.last (.list .int)) .o .bool m_law) hn (by decide) hdf ⟨rfl, by decide, by decide⟩ hY F (fun _ _ a ns hl _ hS => law_sp hlaw hl hS) fun _ _ _ _ _ z => z
end Law
namespace Law
open PySem L2 VV
local macro_rules | `(tactic| walk_at "run") => `(tactic| simp (config := {implicitDefEqProofs := false}) only [Gam.mask, reduceIte, runG, iniG, noneG, sNext, sSeq, sSet, sLst, sLput, sExt, sAsgE, ePop, sPut, sPutN, sDApp, sIf, sRet, sRetM, sMove, sApp, sAsg, sUnl, bCons, eNot, bindAll, bName, bCons, e1, e2, e3, eV, fAll, fAny, fSum, eYes, eChain, fShr, fAnd, eC, eNil, eCons, eSnoc, eAnd, eOr, eNot, eIf, eProj, RIx.get, Mem.get, Mem.set, Option.bind_some, Option.bind_none, okIf, fAdd, fSub, fMul, fDiv, fMod, fPow, fLt, fLe, fGt, fGe, fEqI, fNeI, fEqS, fNeS, fEqB, fNeB, fLen, fSmall, fCutL, endOf, if_true, if_false, Bool.false_eq_true, true_and, and_true, Option.isSome_none, Option.isSome_some, decide_true, decide_false, List.length_nil, List.length_cons, Nat.zero_le, Bool.not_true, Bool.not_false])
local macro_rules | `(tactic| walk_at "go") => `(tactic| simp (config := {implicitDefEqProofs := false}) only [Gam.mask, reduceIte, runG, iniG, noneG, sNext, sSeq, sSet, sLst, sLput, sExt, sAsgE, ePop, sPut, sPutN, sDApp, sIf, sRet, sRetM, sMove, sApp, sAsg, sUnl, bCons, eNot, bindAll, bName, bCons, e1, e2, e3, eV, fAll, fAny, fSum, eYes, eChain, fShr, fAnd, eC, eNil, eCons, eSnoc, eAnd, eOr, eNot, eIf, eProj, RIx.get, Mem.get, Mem.set, Option.bind_some, Option.bind_none, okIf, fAdd, fSub, fMul, fDiv, fMod, fPow, fLt, fLe, fGt, fGe, fEqI, fNeI, fEqS, fNeS, fEqB, fNeB, fLen, fSmall, fCutL, endOf, if_true, if_false, Bool.false_eq_true, true_and, and_true, Option.isSome_none, Option.isSome_some, decide_true, decide_false, List.length_nil, List.length_cons, Nat.zero_le, Bool.not_true, Bool.not_false, List.length_nil, Nat.zero_add, Nat.reduceAdd, Nat.reduceLeDiff, Int.reduceLT, Int.reduceLE, Int.reduceEq, Nat.reduceEqDiff, Int.reduceNeg, *])
local macro_rules | `(tactic| walk_at "w") => `(tactic| simp (config := {implicitDefEqProofs := false, dsimp := false}) only [↓Ok_sDpop, ↓Ok_eC, ↓Ok_eNil, ↓Ok_eYes, ↓Ok_eV, ↓Ok_e1, ↓Ok_e2, ↓Ok_e3, ↓Ok_eNot, ↓Ok_eAnd, ↓Ok_eOr, ↓Ok_eIf, ↓Ok_eCons, ↓Ok_eSnoc, ↓Ok_eProj, ↓Ok_eChain, ↓Ok_eChain3, ↓Ok_ePure, ↓Ok_eConsE, ↓Ok_eX1, ↓Ok_eX2, ↓Ok_eX3, ↓Ok_eXProj, ↓Ok_eXAnd, ↓Ok_eXOr, ↓Ok_eXNot, ↓Ok_eXSnoc, ↓Ok_eSomeE, ↓Ok_eIfE, ↓Ok_eMove, ↓Ok_ePop, ↓Ok_ePop0, ↓Ok_ePopH, ↓Ok_eIO, ↓Ok_eIO1, ↓Ok_eIOz, ↓Ok_eScope, ↓Ok_eIO2, ↓Ok_eIO2t, ↓Ok_sNext, ↓Ok_sBreak, ↓Ok_sCont, ↓Ok_sNever, ↓Ok_sIf, ↓Ok_sIfE, ↓Ok_sRet, ↓Ok_sRetE, ↓Ok_sAsg, ↓Ok_sAsgE, ↓Ok_sDrop, ↓Ok_sUnl, ↓Ok_sRetM, ↓Ok_sSet, ↓Ok_sSetX, ↓Ok_sMove, ↓Ok_sLst, ↓Ok_sApp, ↓Ok_sAppE, ↓Ok_sExt, ↓Ok_sLput, ↓Ok_sLputX, ↓Ok_sDputX, ↓Ok_sScope, ↓Ok_sHput, ↓Ok_sPut, ↓Ok_sPutN, ↓Ok_sPutR, ↓Ok_sDApp, ↓Ok_sAlApp, ↓Ok_gSetd, ↓Ok_gGet, ↓Ok_sRaise, ↓Ok_sLift, ↓Ok_eSomeR, ↓Ok_sSetR, ↓Ok_sDropR, ↓Ok_sTry, ↓Ok_cOne, ↓Ok_cTup, ↓Ok_cAs, ↓Ok_sSeq, ↓Ok_endOf, ↓Ok_endIO, ↓Ok_endIO2, ↓Ok_sPub, ↓Ok_sAls, ExcQ_none, ExcQ_some, TryQ_nx, TryQ_bk, TryQ_ct, TryQ_none, TryQ_some, at_self, Fl.lift, Fl.off, noExc, fIsE, Option.map_some, Option.map_none, Ok_some, Ok_none, Ok_bind, Ok_okIf, Ok_guard, Ok_ite, Ok_map, Wif_true, Wif_false, Turn_nx, Turn_ct, Turn_bk, Turn_rt, SeqQ_nx, SeqQ_bk, SeqQ_ct, SeqQ_rt, EndQ_rt, EndQ_nx, EndIO_rt, EndIO_nx, EndIO2_rt, EndIO2_nx, PubQ_nx, PubQ_bk, PubQ_ct, PubQ_rt, AlQ_nx, AlQ_bk, AlQ_ct, AlQ_rt, alEnd, flMask, RIx.put, RIx.get, Gam.mask, reduceIte, bCons, bName, bindAll, Mem.get, Mem.set, fAdd, fSub, fMul, fDiv, fMod, fPow, fShr, fAnd, fLt, fLe, fGt, fGe, fEqI, fNeI, fEqS, fNeS, fEqB, fNeB, fLen, fSmall, fCutL, fCatL, fAll, fAny, fSum, fOne, if_true, if_false, Bool.false_eq_true, true_and, and_true, eq_self, Option.isSome_none, Option.isSome_some, Option.isNone_none, Option.isNone_some, decide_true, decide_false, List.length_nil, List.length_cons, Nat.zero_le, Bool.not_true, Bool.not_false, Bool.true_and, Bool.false_and, Bool.and_true, Bool.and_false, Bool.true_or, Bool.false_or, Nat.zero_add, Nat.reduceAdd, Nat.reduceLeDiff])
local macro_rules | `(tactic| walk_at "ws") => `(tactic| simp (config := {implicitDefEqProofs := false, dsimp := false}) only [↓Ok_sDpop, ↓Ok_eC, ↓Ok_eNil, ↓Ok_eYes, ↓Ok_eV, ↓Ok_e1, ↓Ok_e2, ↓Ok_e3, ↓Ok_eNot, ↓Ok_eAnd, ↓Ok_eOr, ↓Ok_eIf, ↓Ok_eCons, ↓Ok_eSnoc, ↓Ok_eProj, ↓Ok_eChain, ↓Ok_eChain3, ↓Ok_ePure, ↓Ok_eConsE, ↓Ok_eX1, ↓Ok_eX2, ↓Ok_eX3, ↓Ok_eXProj, ↓Ok_eXAnd, ↓Ok_eXOr, ↓Ok_eXNot, ↓Ok_eXSnoc, ↓Ok_eSomeE, ↓Ok_eIfE, ↓Ok_eMove, ↓Ok_ePop, ↓Ok_ePop0, ↓Ok_ePopH, ↓Ok_eIO, ↓Ok_eIO1, ↓Ok_eIOz, ↓Ok_eScope, ↓Ok_eIO2, ↓Ok_eIO2t, ↓Ok_sNext, ↓Ok_sBreak, ↓Ok_sCont, ↓Ok_sNever, ↓Ok_sIf, ↓Ok_sIfE, ↓Ok_sRet, ↓Ok_sRetE, ↓Ok_sAsg, ↓Ok_sAsgE, ↓Ok_sDrop, ↓Ok_sUnl, ↓Ok_sRetM, ↓Ok_sSet, ↓Ok_sSetX, ↓Ok_sMove, ↓Ok_sLst, ↓Ok_sApp, ↓Ok_sAppE, ↓Ok_sExt, ↓Ok_sLput, ↓Ok_sLputX, ↓Ok_sDputX, ↓Ok_sScope, ↓Ok_sHput, ↓Ok_sPut, ↓Ok_sPutN, ↓Ok_sPutR, ↓Ok_sDApp, ↓Ok_sAlApp, ↓Ok_gSetd, ↓Ok_gGet, ↓Ok_sRaise, ↓Ok_sLift, ↓Ok_eSomeR, ↓Ok_sSetR, ↓Ok_sDropR, ↓Ok_sTry, ↓Ok_cOne, ↓Ok_cTup, ↓Ok_cAs, ↓Ok_sSeq, ↓Ok_endOf, ↓Ok_endIO, ↓Ok_endIO2, ↓Ok_sPub, ↓Ok_sAls, ExcQ_none, ExcQ_some, TryQ_nx, TryQ_bk, TryQ_ct, TryQ_none, TryQ_some, at_self, Fl.lift, Fl.off, noExc, fIsE, Option.map_some, Option.map_none, Ok_some, Ok_none, Ok_bind, Ok_okIf, Ok_guard, Ok_ite, Ok_map, Wif_true, Wif_false, Turn_nx, Turn_ct, Turn_bk, Turn_rt, SeqQ_nx, SeqQ_bk, SeqQ_ct, SeqQ_rt, EndQ_rt, EndQ_nx, EndIO_rt, EndIO_nx, EndIO2_rt, EndIO2_nx, PubQ_nx, PubQ_bk, PubQ_ct, PubQ_rt, AlQ_nx, AlQ_bk, AlQ_ct, AlQ_rt, alEnd, flMask, RIx.put, RIx.get, Gam.mask, reduceIte, bCons, bName, bindAll, Mem.get, Mem.set, fAdd, fSub, fMul, fDiv, fMod, fPow, fShr, fAnd, fLt, fLe, fGt, fGe, fEqI, fNeI, fEqS, fNeS, fEqB, fNeB, fLen, fSmall, fCutL, fCatL, fAll, fAny, fSum, fOne, if_true, if_false, Bool.false_eq_true, true_and, and_true, eq_self, Option.isSome_none, Option.isSome_some, Option.isNone_none, Option.isNone_some, decide_true, decide_false, List.length_nil, List.length_cons, Nat.zero_le, Bool.not_true, Bool.not_false, Bool.true_and, Bool.false_and, Bool.and_true, Bool.and_false, Bool.true_or, Bool.false_or, Nat.zero_add, Nat.reduceAdd, Nat.reduceLeDiff, *])
abbrev smallS : Str := Str.ofString "abcdefghijklmnopqrstuvwxyz"
abbrev greatS : Str := Str.ofString "ABCDEFGHIJKLMNOPQRSTUVWXYZ"
theorem upper_small : Txt.upper smallS = greatS := by decide +kernel
theorem small_len : smallS.length = 26 := by decide +kernel
theorem great_len : greatS.length = 26 := by decide +kernel
theorem small_strok : PyData.strOk smallS = true := by decide +kernel
theorem great_strok : PyData.strOk greatS = true := by decide +kernel
theorem upper_ok : fUpper smallS = some greatS := by
  unfold fUpper
  rw [upper_small]
  exact okIf_true (by decide +kernel)
theorem len_cat (a b : Str) : (a ++ b).length = a.length + b.length := Array.size_append
theorem cps_cat (a b : Str) : (a ++ b).cps.toList = a.cps.toList ++ b.cps.toList := Array.toList_append
theorem str_len (x : Str) : x.cps.toList.length = x.length := rfl
def Of (a x : Str) : Prop := ∀ c ∈ x.cps.toList, c ∈ a.cps.toList
theorem Of.ok {a x : Str} (h : Of a x) (ha : PyData.strOk a = true) : PyData.strOk x = true := by
  unfold PyData.strOk at ha ⊢
  rw [Array.all_eq_true'] at ha ⊢
  exact fun c hc => ha c (by simpa using h c (by simpa using hc))
theorem Of.cat {a x y : Str} (h : Of a x) (h' : Of a y) : Of a (x ++ y) := fun c hc => by
  rw [cps_cat] at hc
  exact (List.mem_append.mp hc).elim (h c) (h' c)
def HeadIn (a t : Str) : Prop := ∃ c r, t.cps.toList = c :: r ∧ c ∈ a.cps.toList
theorem HeadIn.cat {a t : Str} (h : HeadIn a t) (u : Str) : HeadIn a (t ++ u) := by
  obtain ⟨c, r, e, m⟩ := h
  exact ⟨c, r ++ u.cps.toList, by rw [cps_cat, e]; rfl, m⟩
theorem head_of {a t : Str} (h : Of a t) (hl : 0 < t.length) : HeadIn a t := by
  cases e : t.cps.toList with
  | nil =>
    have : t.cps.toList.length = 0 := by rw [e]; rfl
    rw [str_len] at this
    omega
  | cons c r => exact ⟨c, r, e, h c (by rw [e]; exact List.mem_cons_self)⟩
theorem small_not_great {c : Nat} (h : c ∈ smallS.cps.toList) : ¬ c ∈ greatS.cps.toList := by
  have : ∀ c ∈ smallS.cps.toList, c ∉ greatS.cps.toList := by decide +kernel
  exact this c h
theorem is_name_cons (x : Str) (c : Nat) (r : List Nat) (hx : x.cps.toList = c :: r) (hl : x.length ≤ 100000) : m_is_name x = some (decide (c ∈ greatS.cps.toList)) := by
  have hne : decide (x = Str.ofString "") = false := by
    refine decide_eq_false fun h => ?_
    rw [h] at hx
    cases hx
  have hix : fIxS x 0 = some ⟨#[c]⟩ := by
    unfold fIxS
    rw [if_pos (lenOk_le hl), hx]
    have : atI (c :: r) ((0 : Nat) : Int) = some c := atI_nat rfl
    rw [show (0 : Int) = ((0 : Nat) : Int) from rfl, this]
    rfl
  rw [m_is_name_at]
  unfold b_is_name
  walk_at "run"
  simp (config := {implicitDefEqProofs := false}) only [hne, Bool.not_false, Bool.not_true, if_true, hix, Option.bind_some, fInS_one]
theorem is_name_great {x : Str} (h : HeadIn greatS x) (hl : x.length ≤ 100000) : m_is_name x = some true := by
  obtain ⟨c, r, e, m⟩ := h
  rw [is_name_cons x c r e hl, decide_eq_true m]
theorem is_name_small {x : Str} (h : HeadIn smallS x) (hl : x.length ≤ 100000) : m_is_name x = some false := by
  obtain ⟨c, r, e, m⟩ := h
  rw [is_name_cons x c r e hl, decide_eq_false (small_not_great m)]
theorem num_len {k n : Nat} (hk : 1 ≤ k) (h : n < 10 ^ k) : (Str.ofString (toString ((n : Nat) : Int))).length ≤ k := by
  rw [show ((n : Nat) : Int) = Int.ofNat n from rfl, PyProof.Rows.text_ofNat, ← str_len]
  show (List.map Char.toNat (Nat.toDigits 10 n)).length ≤ k
  rw [List.length_map]
  exact PyProof.Rows.digits10_le hk h
theorem strI_ok {f : Int} (h0 : 0 ≤ f) (h1 : f < 10000) : ∃ t, fStrI f = some t ∧ t.length ≤ 4 := by
  obtain ⟨n, rfl⟩ := Int.eq_ofNat_of_zero_le h0
  refine ⟨Str.ofString (toString (n : Int)), okIf_true (decide_eq_true ?_), num_len (k := 4) (by decide) (by omega)⟩
  have : (n : Int).natAbs.log2 < 15 := PySem.Flt.log2_lt_of (by decide) (by omega)
  omega
theorem foldRep_list (c : Nat) : ∀ (n : Nat) (acc : Array Nat), (List.foldl (fun x1 x2 => x1 ++ x2) acc (List.replicate n #[c])).toList = acc.toList ++ List.replicate n c
  | 0, acc => by simp
  | n + 1, acc => by
    rw [List.replicate_succ, List.foldl_cons, foldRep_list c n, Array.toList_append, List.replicate_succ]
    simp
theorem rep_one (c n : Nat) : (repS ⟨#[c]⟩ (n : Int)).cps.toList = List.replicate n c := by
  unfold repS
  by_cases h : n = 0
  · subst h
    rfl
  · rw [if_neg (by omega)]
    by_cases h1 : n = 1
    · subst h1
      rfl
    · rw [if_neg]
      · show (List.foldl (fun x1 x2 => x1 ++ x2) #[] (List.replicate (n : Int).toNat #[c])).toList = _
        rw [foldRep_list]
        rfl
      · rw [Bool.or_eq_true, beq_iff_eq, beq_iff_eq]
        rintro (h2 | h2)
        · omega
        · cases h2
theorem repS_ok {a : Str} {c : Nat} (ha : PyData.strOk a = true) (hc : c ∈ a.cps.toList) (n : Nat) (hn : n ≤ 1000) : ∃ t, fRepS ⟨#[c]⟩ (n : Int) = some t ∧ t.length = n ∧ Of a t := by
  have h1 := rep_one c n
  have h2 : Of a (repS ⟨#[c]⟩ (n : Int)) := fun x hx => by
    rw [h1] at hx
    rw [(List.mem_replicate.mp hx).2]
    exact hc
  refine ⟨repS ⟨#[c]⟩ (n : Int), okIf_true ?_, ?_, h2⟩
  · rw [Bool.and_eq_true]
    refine ⟨decide_eq_true ⟨by omega, by omega, ?_⟩, h2.ok ha⟩
    show 1 * _ ≤ _
    rw [sizeLine_eq]
    simp
    omega
  · rw [← str_len, h1, List.length_replicate]
theorem sign_ok {a : Str} (ha : a.length = 26) (i : Int) : ∃ c, fIxS a (i % 26) = some ⟨#[c]⟩ ∧ c ∈ a.cps.toList := by
  have m0 := Int.emod_nonneg i (by decide : (26 : Int) ≠ 0)
  have m1 := Int.emod_lt_of_pos i (by decide : (0 : Int) < 26)
  obtain ⟨c, hc, hm⟩ := atI_some (xs := a.cps.toList) (i := i % 26) m0 (by rw [str_len, ha]; omega)
  refine ⟨c, ?_, hm⟩
  unfold fIxS
  rw [if_pos (lenOk_le (by omega)), hc]
  rfl
theorem cat_len {x y : Str} (h : x.length + y.length ≤ 100000) : fCat x y = some (x ++ y) := okIf_true (lenOk_le h)
theorem lt_line {n : Nat} (h : n ≤ 100000) : n < sizeLine := by
  rw [sizeLine_eq]
  omega
theorem catL_ok {α : Type} {a b : List α} (h : a.length + b.length ≤ 100000) : fCatL a b = some (a ++ b) := okIf_true (lenOk_le h)
theorem ixN_at {n j : Nat} (h : j < n) : ixN n (j : Int) = some j := by
  unfold ixN
  rw [if_pos (by omega), if_pos (by omega)]
  rfl
abbrev RuleT : Type := Str × List Str × Int
def uniq (xs : List Str) : List Str := xs.foldl (fun acc x => if x ∈ acc then acc else acc ++ [x]) []
theorem uniq_snoc (p : List Str) (x : Str) : uniq (p ++ [x]) = if x ∈ uniq p then uniq p else uniq p ++ [x] := by
  unfold uniq
  rw [List.foldl_append]
  rfl
theorem rev_ind {α : Type} {P : List α → Prop} (h0 : P []) (hs : ∀ p x, P p → P (p ++ [x])) (xs : List α) : P xs := by
  have : ∀ ys : List α, P ys.reverse := fun ys => by
    induction ys with
    | nil => exact h0
    | cons y ys ih =>
      rw [List.reverse_cons]
      exact hs _ _ ih
  have := this xs.reverse
  rw [List.reverse_reverse] at this
  exact this
theorem uniq_mem (xs : List Str) : ∀ x, x ∈ uniq xs ↔ x ∈ xs := by
  refine rev_ind (P := fun xs => ∀ x, x ∈ uniq xs ↔ x ∈ xs) (fun x => by simp [uniq]) (fun p y ih x => ?_) xs
  rw [uniq_snoc]
  by_cases h : y ∈ uniq p
  · rw [if_pos h, ih x, List.mem_append, List.mem_singleton]
    exact ⟨.inl, fun z => z.elim id fun z => by rw [z]; exact (ih y).mp h⟩
  · rw [if_neg h, List.mem_append, List.mem_append, List.mem_singleton, ih x]
theorem uniq_len (xs : List Str) : (uniq xs).length ≤ xs.length := by
  refine rev_ind (P := fun xs => (uniq xs).length ≤ xs.length) (by simp [uniq]) (fun p y ih => ?_) xs
  rw [uniq_snoc]
  split
  · simp; omega
  · simp; omega
theorem names_ok (g : List RuleT) (h : g.length ≤ 90000) : m_names g = some (uniq (g.map (·.1))) := by
  have hlp : ∃ Γ', lp_names_1 (some g, some [], none, none, none, ()) = some (.nx Γ') ∧ (fun (pre : List RuleT) (Γ : Gam g_names) => Γ = (none, some (uniq (pre.map (·.1))), none, none, none, ())) g Γ' := by
    rw [lp_names_1_eq]
    refine sFor_inv (fun (pre : List RuleT) (Γ : Gam g_names) => Γ = (none, some (uniq (pre.map (·.1))), none, none, none, ())) (xs := g) ?_ ?_ ?_
    · rfl
    · rfl
    · rintro p r q Γ he rfl
      obtain ⟨name, parts, cost⟩ := r
      have hl : (uniq (p.map (·.1))).length < sizeLine := lt_line (by
        have h1 := uniq_len (p.map (·.1))
        have h2 := congrArg List.length he
        rw [List.length_map] at h1
        simp at h2
        omega)
      have hm : (p ++ [((name, parts, cost) : RuleT)]).map (·.1) = p.map (·.1) ++ [name] := by simp
      rw [hm, uniq_snoc]
      clear hm he
      by_cases hx : name ∈ uniq (p.map (·.1))
      · have hni := fNotInD_mem (t := .str) rfl hx
        rw [if_pos hx]
        refine ⟨(none, some (uniq (p.map (·.1))), some name, some parts, some cost, ()), .inl ?_, rfl⟩
        unfold lb_names_1
        clear hx
        walk_at "go"
      · have hni := fNotInD_not (t := .str) rfl hx
        rw [if_neg hx]
        refine ⟨(none, some (uniq (p.map (·.1)) ++ [name]), some name, some parts, some cost, ()), .inl ?_, rfl⟩
        unfold lb_names_1
        clear hx
        walk_at "go"
  obtain ⟨Γ', e, rfl⟩ := hlp
  rw [m_names_at]
  unfold b_names
  clear h
  walk_at "go"
def PartOk (known : List Str) (p : Str) : Prop := m_is_name p = some false ∨ (m_is_name p = some true ∧ p ∈ known)
theorem parts_loop (rules : List RuleT) (known parts : List Str) (name : Str) (cost : Int) (h : ∀ p ∈ parts, PartOk known p) :
    lp_grammar_of_2 (some rules, some known, some name, some parts, some cost, none, ()) = some (.nx (some rules, some known, none, none, none, none, ())) := by
  rw [lp_grammar_of_2_eq]
  refine sFor_all (xs := parts) ?_ ?_ fun p hp => ?_
  · rfl
  · rfl
  · refine ⟨(some rules, some known, none, none, none, some p, ()), ?_, rfl⟩
    unfold lb_grammar_of_2
    rcases h p hp with h1 | ⟨h1, h2⟩
    · clear h hp
      walk_at "go"
    · have hni := fNotInD_mem (t := .str) rfl h2
      clear h hp h2
      walk_at "go"
theorem grammar_of_ok (g : List RuleT) (h0 : g ≠ []) (h : g.length ≤ 90000) (hc : ∀ r ∈ g, 0 ≤ r.2.2) (hp : ∀ r ∈ g, ∀ p ∈ r.2.1, PartOk (uniq (g.map (·.1))) p) : m_grammar_of g = some g := by
  have hn := names_ok g h
  have hne := fEqD_ne (t := .list (Ty.tup (Ty.cons Ty.str (Ty.cons (Ty.vtup Ty.str) (Ty.last Ty.int))))) rfl h0
  have hlp : lp_grammar_of_1 (some g, some (uniq (g.map (·.1))), none, none, none, none, ()) = some (.nx (some g, some (uniq (g.map (·.1))), none, none, none, none, ())) := by
    rw [lp_grammar_of_1_eq]
    refine sFor_all (xs := g) ?_ ?_ fun r hr => ?_
    · rfl
    · rfl
    · obtain ⟨name, parts, cost⟩ := r
      have h1 := parts_loop g (uniq (g.map (·.1))) parts name cost (hp _ hr)
      have h2 : ¬ (cost : Int) < 0 := Int.not_lt.mpr (hc _ hr)
      refine ⟨(some g, some (uniq (g.map (·.1))), none, none, none, none, ()), ?_, rfl⟩
      unfold lb_grammar_of_1
      clear hn hne hp hc hr
      walk_at "go"
  have hlc : lc_grammar_of_1 (some g, some (uniq (g.map (·.1))), none, none, none, none, ()) = some g := by
    rw [lc_grammar_of_1_eq]
    have := lcL_all (bind := (bCons (bName (t := Ty.str) (v_grammar_of_name)) (bCons (bName (t := (Ty.vtup Ty.str)) (v_grammar_of_parts)) (bName (t := Ty.int) (v_grammar_of_cost))))) (elt := (eCons (eV (t := Ty.str) (v_grammar_of_name)) (eCons (eV (t := (Ty.vtup Ty.str)) (v_grammar_of_parts)) (eV (t := Ty.int) (v_grammar_of_cost))))) (Γ := ((some g, some (uniq (g.map (·.1))), none, none, none, none, ()) : Gam g_grammar_of)) id g fun r _ => rfl
    rw [List.map_id] at this
    exact eLc_of rfl this (lenOk_le (by omega))
  rw [m_grammar_of_at]
  unfold b_grammar_of
  clear hp hc h0 h
  walk_at "go"
theorem sIf_tM {G ρ : Type} {c : G → Option Bool} {F1 F2 : G → Option (Fl G ρ)} {Γ : G} (h : c Γ = some true) : sIf c F1 F2 Γ = F1 Γ := by
  unfold sIf
  rw [h]
  rfl
theorem sIf_fM {G ρ : Type} {c : G → Option Bool} {F1 F2 : G → Option (Fl G ρ)} {Γ : G} (h : c Γ = some false) : sIf c F1 F2 Γ = F2 Γ := by
  unfold sIf
  rw [h]
  rfl
abbrev MkV : Type := List RuleT × List PyData × List (Str × List Str)
def mput (M : MkV) (n : Str) (ps : List Str) (b : PyData) : MkV := if (n, ps) ∈ M.2.2 then M else (M.1 ++ [(n, ps, 0)], M.2.1 ++ [b], M.2.2 ++ [(n, ps)])
structure MkOk (M : MkV) : Prop where
  known : M.2.2 = M.1.map fun r => (r.1, r.2.1)
  len : M.2.1.length = M.1.length
  cost : ∀ r ∈ M.1, r.2.2 = 0
theorem MkOk.nil : MkOk ([], [], []) := ⟨rfl, rfl, fun r h => by cases h⟩
theorem mput_ok {M : MkV} (h : MkOk M) (n : Str) (ps : List Str) (b : PyData) : MkOk (mput M n ps b) := by
  unfold mput
  split
  · exact h
  · refine ⟨?_, ?_, fun r hr => ?_⟩
    · show M.2.2 ++ [(n, ps)] = (M.1 ++ [(n, ps, (0 : Int))]).map fun r => (r.1, r.2.1)
      rw [List.map_append, h.known]
      rfl
    · show (M.2.1 ++ [b]).length = (M.1 ++ [(n, ps, (0 : Int))]).length
      rw [List.length_append, List.length_append, h.len]
      rfl
    · rcases List.mem_append.mp hr with hr | hr
      · exact h.cost r hr
      · rw [List.mem_singleton] at hr
        rw [hr]
theorem mput_mem {M : MkV} {n : Str} {ps : List Str} {b : PyData} {r : RuleT} (hr : r ∈ (mput M n ps b).1) : r ∈ M.1 ∨ r = (n, ps, 0) := by
  unfold mput at hr
  split at hr
  · exact .inl hr
  · rcases List.mem_append.mp hr with hr | hr
    · exact .inl hr
    · exact .inr (List.mem_singleton.mp hr)
theorem mput_len (M : MkV) (n : Str) (ps : List Str) (b : PyData) : (mput M n ps b).1.length ≤ M.1.length + 1 := by
  unfold mput
  split
  · omega
  · simp
theorem put_ok {M : MkV} (h : MkOk M) (n : Str) (ps : List Str) (b : PyData) (hl : M.1.length < 100000) : m_Making_put (M, n, ps, b) = some ((), mput M n ps b) := by
  have l2 : M.2.1.length < 100000 := by rw [h.len]; exact hl
  have l3 : M.2.2.length < 100000 := by rw [h.known, List.length_map]; exact hl
  obtain ⟨R, B, N⟩ := M
  dsimp only at l2 l3 hl
  rw [m_Making_put_at]
  unfold b_Making_put mput
  have s1 := lt_line (n := R.length) (by omega)
  have s2 := lt_line (n := B.length) (by omega)
  have s3 := lt_line (n := N.length) (by omega)
  by_cases hm : (n, ps) ∈ N
  · have e : eNNin v_Making_put_self ((.s (.s .one)) : RIx rowMk (.own tyND)) (eV (t := Ty.str) v_Making_put_name) (eV (t := (Ty.vtup Ty.str)) v_Making_put_parts) ((some (R, B, N), some n, some ps, some b, ()) : Gam g_Making_put) = some false := by
      show some (!decide ((n, ps) ∈ N)) = _
      rw [decide_eq_true hm]
      rfl
    rw [sIf_fM e, if_pos hm]
    rfl
  · have e : eNNin v_Making_put_self ((.s (.s .one)) : RIx rowMk (.own tyND)) (eV (t := Ty.str) v_Making_put_name) (eV (t := (Ty.vtup Ty.str)) v_Making_put_parts) ((some (R, B, N), some n, some ps, some b, ()) : Gam g_Making_put) = some true := by
      show some (!decide ((n, ps) ∈ N)) = _
      rw [decide_eq_false hm]
      rfl
    rw [sIf_tM e, if_neg hm]
    have e1 : sNPutM (ρ := den Ty.non) v_Making_put_self ((.s (.s .one)) : RIx rowMk (.own tyND)) (eV (t := Ty.str) v_Making_put_name) (eV (t := (Ty.vtup Ty.str)) v_Making_put_parts) ((some (R, B, N), some n, some ps, some b, ()) : Gam g_Making_put) = some (.nx (some (R, B, N ++ [(n, ps)]), some n, some ps, some b, ())) := if_pos ⟨hm, s3⟩
    rw [sSeq_nx e1]
    have e2 : sFApp (ρ := den Ty.non) v_Making_put_self (.z : RIx rowMk (.own (Ty.list tyRule))) (eCons (eV (t := Ty.str) v_Making_put_name) (eCons (eV (t := (Ty.vtup Ty.str)) v_Making_put_parts) (eC (0 : Int)))) ((some (R, B, N ++ [(n, ps)]), some n, some ps, some b, ()) : Gam g_Making_put) = some (.nx (some (R ++ [(n, ps, 0)], B, N ++ [(n, ps)]), some n, some ps, some b, ())) := if_pos s1
    rw [sSeq_nx e2]
    have e3 : sFApp (ρ := den Ty.non) v_Making_put_self ((.s .z) : RIx rowMk (.own (Ty.list Ty.any))) (eV (t := Ty.any) v_Making_put_back) ((some (R ++ [(n, ps, 0)], B, N ++ [(n, ps)]), some n, some ps, some b, ()) : Gam g_Making_put) = some (.nx (some (R ++ [(n, ps, 0)], B ++ [b], N ++ [(n, ps)]), some n, some ps, some b, ())) := if_pos s2
    rw [e3]
    rfl
noncomputable def isn (p : Str) : Bool := (m_is_name p).getD false
abbrev PairR : Type := RuleT × PyData
noncomputable def keepP (left : List Str) (q : PairR) : Bool := q.1.2.1.all fun p => decide (p ∈ left) || !isn p
def namesP (ps : List PairR) : List Str := ps.map fun q => q.1.1
def ClosP (ps : List PairR) : Prop := ∀ q ∈ ps, ∀ p ∈ q.1.2.1, isn p = true → p ∈ namesP ps
def ClosC (all : List PairR) (C : PairR → Prop) : Prop := ∀ q, C q → q ∈ all ∧ ∀ p ∈ q.1.2.1, isn p = true → ∃ q', C q' ∧ q'.1.1 = p
def dumP (first : Str) : PairR := ((first, [first, first], 0), .tuple [.tuple [], .tuple []])
structure MkLay (M : MkV) : Prop where
  isn : ∀ r ∈ M.1, ∀ p ∈ r.2.1, m_is_name p = some (isn p)
  lay : ∀ b ∈ M.2.1, b.canLay0 = true
  name : ∀ r ∈ M.1, PyData.strOk r.1 = true
  part : ∀ r ∈ M.1, ∀ p ∈ r.2.1, PyData.strOk p = true
  few : ∀ r ∈ M.1, r.2.1.length ≤ 1000
structure ToldP (M : MkV) (first : Str) (T : List PairR) : Prop where
  src : (∃ pre, T = pre ∧ ∀ q ∈ pre, q ∈ M.1.zip M.2.1) ∨ ∃ rest, T = dumP first :: rest ∧ ∀ q ∈ rest, q ∈ M.1.zip M.2.1 ∧ q.1.1 ≠ first
  head : ∃ q t, T = q :: t ∧ q.1.1 = first
  clos : ClosP T
  all : ∀ C, ClosC (M.1.zip M.2.1) C → ∀ q, C q → q ∈ T
  few : T.length ≤ M.1.length + 1
theorem layAll_eq : ∀ ds : List PyData, PyData.canLayAll0 ds = ds.all PyData.canLay0
  | [] => by simp [PyData.canLayAll0]
  | d :: ds => by
    rw [PyData.canLayAll0, layAll_eq ds, List.all_cons]
abbrev PairTy : Ty := Ty.tup (Ty.cons tyRule (Ty.last Ty.any))
theorem lay_pair {q : PairR} (h1 : PyData.strOk q.1.1 = true) (h2 : ∀ p ∈ q.1.2.1, PyData.strOk p = true) (h3 : q.2.canLay0 = true) : ((emb PairTy).1 q).canLay0 = true := by
  show PyData.canLay0 (.tuple [.tuple [.str q.1.1, .tuple (q.1.2.1.map PyData.str), .int q.1.2.2], q.2]) = true
  simp only [PyData.canLay0, PyData.canLayAll0, h1, h3, Bool.and_true, Bool.true_and]
  rw [layAll_eq, List.all_eq_true]
  intro d hd
  obtain ⟨p, hp, rfl⟩ := List.mem_map.mp hd
  exact h2 p hp
theorem eqA_nil {ps : List PairR} (h : ∀ q ∈ ps, ((emb PairTy).1 q).canLay0 = true) : fEqA (Ty.list PairTy) ps [] = some (decide (ps = [])) := by
  have h1 : ((emb (Ty.list PairTy)).1 ps).canLay0 = true := by
    show PyData.canLay0 (.list (ps.map (emb PairTy).1)) = true
    rw [PyData.canLay0, layAll_eq, List.all_eq_true]
    intro d hd
    obtain ⟨q, hq, rfl⟩ := List.mem_map.mp hd
    exact h q hq
  have h2 : ((emb (Ty.list PairTy)).1 ([] : List PairR)).canLay0 = true := by
    show PyData.canLay0 (.list []) = true
    simp only [PyData.canLay0, PyData.canLayAll0]
  have h3 : ((emb (Ty.list PairTy)).1 ([] : List PairR)).depth ≤ 64 := by
    show PyData.depth (.list []) ≤ 64
    simp [PyData.depth, PyData.depthAll]
  unfold fEqA okIf
  rw [if_pos]
  · congr 1
    show PyData.eqv (.list (ps.map (emb PairTy).1)) (.list []) = _
    cases ps with
    | nil => rfl
    | cons q ps => rfl
  · unfold shp2
    rw [h1, h2, decide_eq_true (Nat.le_trans (Nat.min_le_right _ _) h3)]
    rfl
theorem Ok_eFldM {ts : List Ty} {C : Addr} {ks : List Str} {b t : Ty} {i : Mem ts (.ins C ks b)} {r : RIx b t} {Γ : Gam ts} {Q : den t → Prop} : Ok (eFld i r Γ) Q = Ok (i.get Γ) fun (d : den b) => Q (r.get d) := by
  unfold eFld
  rw [Ok_bind]
  exact Ok_cong fun d => Ok_some
theorem keepP_mem {left : List Str} {q : PairR} (h : keepP left q = true) : ∀ p ∈ q.1.2.1, isn p = true → p ∈ left := fun p hp hn => by
  have := List.all_eq_true.mp h p hp
  rw [hn, Bool.not_true, Bool.or_false] at this
  exact of_decide_eq_true this
theorem keepP_of {left : List Str} {q : PairR} (h : ∀ p ∈ q.1.2.1, isn p = true → p ∈ left) : keepP left q = true := by
  refine List.all_eq_true.mpr fun p hp => ?_
  cases e : isn p with
  | false => simp
  | true => rw [decide_eq_true (h p hp e)]; rfl
theorem filt_len {α : Type} (p : α → Bool) : ∀ l : List α, (l.filter p).length + (l.filter fun x => !p x).length = l.length
  | [] => rfl
  | x :: l => by
    have ih := filt_len p l
    cases e : p x with
    | true => rw [List.filter_cons_of_pos e, List.filter_cons_of_neg (by simp [e]), List.length_cons, List.length_cons]; omega
    | false => rw [List.filter_cons_of_neg (by simp [e]), List.filter_cons_of_pos (by simp [e]), List.length_cons, List.length_cons]; omega
theorem told_fin {Q : (List RuleT × List PyData) × MkV → Prop} (M : MkV) (first : Str) (ps : List PairR) (many : Int) (A : List PairR) (hA : A.length ≤ 100001) (hp : ps.length ≤ 100000) (hq : Q (((A ++ ps.filter fun q => !decide (q.1.1 = first)).map (·.1), (A ++ ps.filter fun q => !decide (q.1.1 = first)).map (·.2)), M)) :
    Ok (lc_Making_told_5 ((some M, some first, some ps, some many, none, none, none, none, none, some A, ()) : Gam g_Making_told)) fun b => Ok (fCatL A b) fun d => SeqQ (sRet (eCons lc_Making_told_6 lc_Making_told_7)) (fun f => EndIO v_Making_told_self none Q f) (Fl.nx (v_Making_told_pairs.set (some d) ((some M, some first, some ps, some many, none, none, none, none, none, some A, ()) : Gam g_Making_told))) := by
  have hnl : (ps.filter fun q => !decide (q.1.1 = first)).length ≤ ps.length := List.length_filter_le _ _
  rw [lc_Making_told_5_eq]
  refine Ok_eLc (xs := ps) (fun q : PairR => !decide (q.1.1 = first)) (fun q : PairR => q) (by walk_at "w") (by omega) (fun x hx => by walk_at "w"; rfl) (fun x hx _ => by walk_at "w") ?_
  rw [List.map_id']
  generalize ps.filter (fun q => !decide (q.1.1 = first)) = F at hq hnl ⊢
  have hc : fCatL A F = some (A ++ F) := okIf_true (lenOk_le2 (by omega))
  rw [hc]
  walk_at "w"
  have hl : (A ++ F).length ≤ 16000000 := by rw [List.length_append]; omega
  rw [lc_Making_told_6_eq]
  refine Ok_eLcM (xs := A ++ F) (fun q : PairR => q.1) (by walk_at "w") hl (fun x hx => by walk_at "w") ?_
  rw [lc_Making_told_7_eq]
  refine Ok_eLcM (xs := A ++ F) (fun q : PairR => q.2) (by walk_at "w") hl (fun x hx => by walk_at "w") ?_
  walk_at "w"
  exact hq
theorem told_ok {M : MkV} (h : MkOk M) (g : MkLay M) (first : Str) (hl : M.1.length < 100000) : Ok (m_Making_told (M, first)) fun x => x.2 = M ∧ ∃ T, ToldP M first T ∧ x.1 = (T.map (·.1), T.map (·.2)) := by
  obtain ⟨R, B, N⟩ := M
  have hlen : B.length = R.length := h.len
  dsimp only at hl
  have hz : (R.zip B).length = R.length := by rw [List.length_zip]; omega
  have hN : ∀ q ∈ R.zip B, ∀ p ∈ q.1.2.1, m_is_name p = some (isn p) := fun q hq => g.isn q.1 (List.of_mem_zip hq).1
  have hlay : ∀ q ∈ R.zip B, ((emb PairTy).1 q).canLay0 = true := fun q hq => lay_pair (g.name _ (List.of_mem_zip hq).1) (g.part _ (List.of_mem_zip hq).1) (g.lay _ (List.of_mem_zip hq).2)
  have hfew : ∀ q ∈ R.zip B, q.1.2.1.length ≤ 1000 := fun q hq => g.few _ (List.of_mem_zip hq).1
  rw [m_Making_told_at]
  unfold b_Making_told
  walk_at "w"
  rw [Ok_eFldM]
  walk_at "w"
  rw [Ok_eFldM]
  walk_at "w"
  have hfz : fLZip R B = some (R.zip B) := okIf_true (decide_eq_true hlen.symm)
  rw [hfz]
  walk_at "w"
  rw [lp_Making_told_1_eq]
  generalize hP : R.zip B = P0 at hz hN hlay hfz hfew ⊢
  refine Ok_sWhile (fun s : List PairR × Int => st_Making_told_1 (R, B, N) first s.1 s.2) (fun s => (∀ q ∈ s.1, q ∈ P0) ∧ s.1.length ≤ P0.length ∧ (∀ C, ClosC P0 C → ∀ q, C q → q ∈ s.1) ∧ (¬ (s.1.length : Int) < s.2 → ClosP s.1)) (fun s => if (s.1.length : Int) < s.2 then s.1.length + 1 else 0) (P0, (P0.length : Int) + 1) rfl ⟨fun q hq => hq, Nat.le_refl _, fun C hC q hq => (hC q hq).1, fun h => absurd (show (P0.length : Int) < (P0.length : Int) + 1 by omega) h⟩ fun s hI => ?_
  obtain ⟨ps, many⟩ := s
  obtain ⟨i1, i2, i3, i4⟩ := hI
  have i1 : ∀ q ∈ ps, q ∈ P0 := i1
  have i2 : ps.length ≤ P0.length := i2
  have i3 : ∀ C, ClosC P0 C → ∀ q, C q → q ∈ ps := i3
  have i4 : ¬ (ps.length : Int) < many → ClosP ps := i4
  walk_at "w"
  refine Wif_dec (fun hlt => ?_) fun hlt => ?_
  · walk_at "w"
    unfold lb_Making_told_1
    walk_at "w"
    rw [lc_Making_told_1_eq]
    refine Ok_eLcM (xs := ps) (fun q : PairR => q.1.1) (by walk_at "w") (by omega) (fun x hx => by walk_at "w") ?_
    walk_at "w"
    rw [lc_Making_told_2_eq]
    refine Ok_eLc (xs := ps) (keepP (namesP ps)) (fun q : PairR => q) (by walk_at "w") (by omega) (fun x hx => ?_) (fun x hx _ => by walk_at "w") ?_
    · walk_at "w"
      rw [lc_Making_told_3_eq]
      refine Ok_eLcM (xs := x.1.2.1) (fun p => decide (p ∈ namesP ps) || !isn p) (by walk_at "w") (by have := hfew x (i1 x hx); omega) (fun p hp => ?_) ?_
      · walk_at "w"
        rw [fInD_eq (t := .str) rfl]
        walk_at "w"
        refine Wif_dec (fun e => ?_) fun e => ?_
        · rw [decide_eq_true (show p ∈ namesP ps from e)]
          rfl
        · rw [decide_eq_false (show ¬ p ∈ namesP ps from e)]
          walk_at "w"
          rw [hN x (i1 x hx) p hp]
          walk_at "w"
      · refine ⟨_, rfl, ?_⟩
        show List.all _ id = _
        rw [List.all_map]
        rfl
    · walk_at "w"
      rw [List.map_id']
      have hsub : (ps.filter (keepP (namesP ps))).length ≤ ps.length := List.length_filter_le _ _
      refine ⟨(ps.filter (keepP (namesP ps)), (ps.length : Int)), rfl, ⟨fun q hq => i1 q (List.mem_filter.mp hq).1, by show (ps.filter (keepP (namesP ps))).length ≤ _; omega, fun C hC q hq => List.mem_filter.mpr ⟨i3 C hC q hq, keepP_of fun p hp hn => ?_⟩, fun hge => ?_⟩, ?_⟩
      · obtain ⟨q', c1, c2⟩ := (hC q hq).2 p hp hn
        exact List.mem_map.mpr ⟨q', i3 C hC q' c1, c2⟩
      · have hge : ¬ ((ps.filter (keepP (namesP ps))).length : Int) < (ps.length : Int) := hge
        have he : ps.filter (keepP (namesP ps)) = ps := List.filter_eq_self.mpr (List.length_filter_eq_length_iff.mp (by omega))
        show ClosP (ps.filter (keepP (namesP ps)))
        rw [he]
        exact fun q hq p hp hn => keepP_mem (List.filter_eq_self.mp he q hq) p hp hn
      · show (if ((ps.filter (keepP (namesP ps))).length : Int) < (ps.length : Int) then (ps.filter (keepP (namesP ps))).length + 1 else 0) < (if (ps.length : Int) < many then ps.length + 1 else 0)
        rw [if_pos hlt]
        split <;> omega
  · walk_at "w"
    have hcl := i4 hlt
    have hpl : ps.length ≤ 100000 := by omega
    rw [lc_Making_told_4_eq]
    refine Ok_eLc (xs := ps) (fun q : PairR => decide (q.1.1 = first)) (fun q : PairR => q) (by walk_at "w") (by omega) (fun x hx => by walk_at "w"; rfl) (fun x hx _ => by walk_at "w") ?_
    walk_at "w"
    rw [List.map_id']
    have hal : (ps.filter fun q => decide (q.1.1 = first)).length ≤ ps.length := List.length_filter_le _ _
    have hnl : (ps.filter fun q => !decide (q.1.1 = first)).length ≤ ps.length := List.length_filter_le _ _
    rw [eqA_nil fun q hq => hlay q (i1 q (List.mem_filter.mp hq).1)]
    walk_at "w"
    have part : ∀ q ∈ ps, q ∈ (ps.filter fun q => decide (q.1.1 = first)) ∨ q ∈ (ps.filter fun q => !decide (q.1.1 = first)) := fun q hq => by
      by_cases e : q.1.1 = first
      · exact .inl (List.mem_filter.mpr ⟨hq, decide_eq_true e⟩)
      · exact .inr (List.mem_filter.mpr ⟨hq, by simpa using e⟩)
    refine Wif_dec (fun hnil => ?_) fun hnil => ?_
    · walk_at "w"
      have hnil : (ps.filter fun q => decide (q.1.1 = first)) = [] := hnil
      have inF : ∀ q ∈ ps, q ∈ [dumP first] ++ (ps.filter fun q => !decide (q.1.1 = first)) := fun q hq => List.mem_append_right _ ((part q hq).resolve_left (by rw [hnil]; simp))
      refine told_fin (R, B, N) first ps many [dumP first] (by show 1 ≤ 100001; decide) hpl ⟨rfl, _, ⟨.inr ⟨_, rfl, fun q hq => ?_⟩, ⟨dumP first, _, rfl, rfl⟩, fun q hq p hp hn => ?_, fun C hC q hq => ?_, ?_⟩, rfl⟩
      · rw [hP]
        obtain ⟨q1, q2⟩ := List.mem_filter.mp hq
        exact ⟨i1 q q1, by simpa using q2⟩
      · rcases List.mem_cons.mp hq with hq | hq
        · subst hq
          have hp : p ∈ [first, first] := hp
          have : p = first := by simpa using hp
          subst this
          exact List.mem_cons_self
        · obtain ⟨q', c1, c2⟩ := List.mem_map.mp (hcl q (List.mem_filter.mp hq).1 p hp hn)
          exact List.mem_map.mpr ⟨q', inF q' c1, c2⟩
      · rw [hP] at hC
        exact inF q (i3 C hC q hq)
      · show (ps.filter fun q => !decide (q.1.1 = first)).length + 1 ≤ R.length + 1
        omega
    · walk_at "w"
      have inF : ∀ q ∈ ps, q ∈ (ps.filter fun q => decide (q.1.1 = first)) ++ (ps.filter fun q => !decide (q.1.1 = first)) := fun q hq => List.mem_append.mpr (part q hq)
      have outF : ∀ q ∈ (ps.filter fun q => decide (q.1.1 = first)) ++ (ps.filter fun q => !decide (q.1.1 = first)), q ∈ ps := fun q hq => (List.mem_append.mp hq).elim (fun z => (List.mem_filter.mp z).1) fun z => (List.mem_filter.mp z).1
      refine told_fin (R, B, N) first ps many (ps.filter fun q => decide (q.1.1 = first)) (by omega) hpl ⟨rfl, _, ⟨.inl ⟨_, rfl, fun q hq => ?_⟩, ?_, fun q hq p hp hn => ?_, fun C hC q hq => ?_, ?_⟩, rfl⟩
      · rw [hP]
        exact i1 q (outF q hq)
      · cases e : (ps.filter fun q => decide (q.1.1 = first)) with
        | nil => exact absurd e hnil
        | cons q t =>
          have hq : q ∈ (ps.filter fun q => decide (q.1.1 = first)) := by rw [e]; exact List.mem_cons_self
          exact ⟨q, _, rfl, of_decide_eq_true (List.mem_filter.mp hq).2⟩
      · obtain ⟨q', c1, c2⟩ := List.mem_map.mp (hcl q (outF q hq) p hp hn)
        exact List.mem_map.mpr ⟨q', inF q' c1, c2⟩
      · rw [hP] at hC
        exact inF q (i3 C hC q hq)
      · rw [List.length_append, filt_len]
        show _ ≤ R.length + 1
        omega
theorem stir_ok2 (cell k : Int) (h0 : 0 ≤ k) (h1 : k < 1000) : ∃ r, m__law_stir (cell, k) = some r ∧ 0 ≤ r ∧ r.natAbs < 2 ^ 210 := by
  have p40 : powOk 10 40 = true := by decide +kernel
  have p60 : powOk 3 60 = true := by decide +kernel
  have p61 : powOk 10 61 = true := by decide +kernel
  have e40 : (10 : Int) ^ (40 : Int).toNat = 10 ^ 40 := rfl
  have e60 : (3 : Int) ^ (60 : Int).toNat = 3 ^ 60 := rfl
  have e61 : (10 : Int) ^ (61 : Int).toNat = 10 ^ 61 := rfl
  have a1 : (cell % 10 ^ 40).natAbs < 2 ^ 140 := abs_mod (by decide) (by decide +kernel)
  have a2 : (48271 : Int).natAbs < 2 ^ 16 := by decide
  have a3 : ((3 : Int) ^ 60).natAbs < 2 ^ 96 := by decide +kernel
  have a4 : (k + 1).natAbs < 2 ^ 10 := by omega
  have a5 : (k : Int).natAbs < 2 ^ 10 := by omega
  have b1 := abs_mul a1 a2
  have b2 := abs_mul a3 a4
  have b3 := abs_mul b2 a4
  have b4 := abs_add (abs_le b1 (by decide : 140 + 16 ≤ 160)) (abs_le b3 (by decide : 96 + 10 + 10 ≤ 160))
  have b5 := abs_add b4 (abs_le a5 (by decide : 10 ≤ 161))
  have a6 : (69621 : Int).natAbs < 2 ^ 17 := by decide
  obtain ⟨n, hn⟩ : ∃ n : Int, n = cell % 10 ^ 40 * 48271 + 3 ^ 60 * (k + 1) * (k + 1) + k := ⟨_, rfl⟩
  rw [← hn] at b5
  have b6 := abs_mul b5 b5
  have b7 := abs_mul a6 b5
  have b8 := abs_add (abs_le b6 (by decide : 162 + 162 ≤ 324)) (abs_le b7 (by decide : 17 + 162 ≤ 324))
  obtain ⟨n2, hn2⟩ : ∃ n2 : Int, n2 = n * n + 69621 * n := ⟨_, rfl⟩
  rw [← hn2] at b8
  refine ⟨n2 * n2 % (10 ^ 61 + 7) / 8, ?_, ?_⟩
  · rw [m__law_stir_at]
    simp only [runG, b__law_stir, iniG, noneG, sSeq, sSet, sRet, e2, eV, eC, Mem.get, Mem.set, Option.bind_some, fMul, fDiv, fMod, fPow, okIf, p40, p60, p61, if_true, e40, e60, e61, endOf]
    rw [if_pos (by decide), Option.bind_some, if_pos (mulOk_of _ _ a1 a2 (by decide)), Option.bind_some, if_pos (mulOk_of _ _ a3 a4 (by decide)), Option.bind_some, if_pos (mulOk_of _ _ b2 a4 (by decide))]
    simp only [Option.bind_some, ← hn]
    rw [if_pos (mulOk_of _ _ b5 b5 (by decide)), Option.bind_some, if_pos (mulOk_of _ _ a6 b5 (by decide))]
    simp only [Option.bind_some, ← hn2]
    rw [if_pos (mulOk_of _ _ b8 b8 (by decide)), Option.bind_some, if_pos (by decide), Option.bind_some, if_pos (divOk_of 4 (by decide) (by decide) (by decide))]
    rfl
  · obtain ⟨z, hz⟩ : ∃ z : Int, z = n2 * n2 % (10 ^ 61 + 7) := ⟨_, rfl⟩
    have z0 : 0 ≤ z := by rw [hz]; exact Int.emod_nonneg _ (by decide)
    have z1 : z < 10 ^ 61 + 7 := by rw [hz]; exact Int.emod_lt_of_pos _ (by decide)
    rw [← hz]
    have e : (10 : Int) ^ 61 + 7 ≤ 2 ^ 210 := by decide +kernel
    refine ⟨Int.ediv_nonneg z0 (by decide), ?_⟩
    have h1 : z / 8 ≤ z := Int.ediv_le_self 8 z0
    have h0 : 0 ≤ z / 8 := Int.ediv_nonneg z0 (by decide)
    have h2 : ((z / 8).natAbs : Int) < ((2 ^ 210 : Nat) : Int) := by
      rw [Int.natAbs_of_nonneg h0, Int.natCast_pow]
      exact Int.lt_of_le_of_lt h1 (Int.lt_of_lt_of_le z1 e)
    exact Int.ofNat_lt.mp h2
theorem stir_ok (cell k : Int) (h0 : 0 ≤ k) (h1 : k < 1000) : ∃ r, m__law_stir (cell, k) = some r ∧ 0 ≤ r := by
  obtain ⟨r, e, h, _⟩ := stir_ok2 cell k h0 h1
  exact ⟨r, e, h⟩
abbrev Below : List Int → List Int → Prop := F2 fun d s => 0 ≤ d ∧ d < s
theorem drawn_loop (cell : Int) (sizes : List Int) (hs : ∀ s ∈ sizes, 0 < s ∧ s.natAbs < 2 ^ 250) (hl : sizes.length ≤ 900) (rest0 : Int) : ∃ Γ', lp__law_drawn_1 (some cell, some sizes, some [], some rest0, none, ()) = some (.nx Γ') ∧
    ∃ found rest, Γ' = (some cell, some sizes, some found, some rest, none, ()) ∧ Below found (sizes.take (rng 0 sizes.length).length) := by
  have p18 : powOk 10 18 = true := by decide +kernel
  rw [lp__law_drawn_1_eq]
  refine sFor_inv (fun pre Γ => ∃ found rest, Γ = (some cell, some sizes, some found, some rest, none, ()) ∧ Below found (sizes.take pre.length)) (xs := rng 0 sizes.length) ?_ ⟨[], rest0, rfl, by simp [Below, F2]⟩ ?_
  · walk_at "run"
    exact fRng1_of (by omega)
  · rintro p x q Γ he ⟨found, rest, rfl, hb⟩
    obtain ⟨hp, rfl⟩ := rng_split he
    have hget : atI sizes (p.length : Int) = some sizes[p.length] := atI_nat (List.getElem?_eq_getElem hp)
    have hsz := hs sizes[p.length] (List.getElem_mem hp)
    obtain ⟨st, hst, hst0⟩ := stir_ok cell p.length (by omega) (by omega)
    have htake : sizes.take (p.length + 1) = sizes.take p.length ++ [sizes[p.length]] := by
      rw [List.take_succ, List.getElem?_eq_getElem hp]
      rfl
    have hlf : found.length < sizeLine := by
      have := hb.length
      rw [List.length_take] at this
      rw [sizeLine_eq]
      omega
    have dv : divOk sizes[p.length] = true := divOk_of 250 hsz.1 hsz.2 (by decide)
    by_cases hc : cell ≥ 10 ^ 18
    · refine ⟨(some cell, some sizes, some (found ++ [rest % sizes[p.length]]), some (rest / sizes[p.length]), some (p.length : Int), ()), .inl ?_, _, _, rfl, ?_⟩
      · unfold lb__law_drawn_1
        walk_at "run"
        simp only [p18, if_true, hget, Option.bind_some, hlf, dv, hsz.1, decide_true]
        rw [if_pos (decide_eq_true (show (10 : Int) ^ Int.toNat 18 ≤ cell from hc))]
      · rw [List.length_append, List.length_singleton, htake]
        exact hb.snoc ⟨Int.emod_nonneg _ (by omega), Int.emod_lt_of_pos _ hsz.1⟩
    · refine ⟨(some cell, some sizes, some (found ++ [st % sizes[p.length]]), some rest, some (p.length : Int), ()), .inl ?_, _, _, rfl, ?_⟩
      · unfold lb__law_drawn_1
        walk_at "run"
        simp only [p18, if_true, hget, Option.bind_some, hlf, hst, hsz.1, decide_true]
        rw [if_neg (by rw [decide_eq_true_eq]; exact (fun h => hc h))]
      · rw [List.length_append, List.length_singleton, htake]
        exact hb.snoc ⟨Int.emod_nonneg _ (by omega), Int.emod_lt_of_pos _ hsz.1⟩
theorem drawn_ok (cell : Int) (sizes : List Int) (hs : ∀ s ∈ sizes, 0 < s ∧ s.natAbs < 2 ^ 250) (hl : sizes.length ≤ 900) : ∃ ds, m__law_drawn (cell, sizes) = some ds ∧ Below ds sizes := by
  have p18 : powOk 10 18 = true := by decide +kernel
  have e18 : (10 : Int) ^ (18 : Int).toNat = 10 ^ 18 := rfl
  obtain ⟨Γ', e, found, rest, rfl, hb⟩ := drawn_loop cell sizes hs hl (cell - 10 ^ 18)
  refine ⟨found, ?_, ?_⟩
  · rw [m__law_drawn_at]
    unfold b__law_drawn
    walk_at "run"
    simp only [p18, if_true, Option.bind_some, e18]
    rw [e]
    rfl
  · rw [rng_len, List.take_of_length_le (by omega)] at hb
    exact hb
theorem Below.cons {ds ss : List Int} {s : Int} (h : Below ds (s :: ss)) : ∃ d ds', ds = d :: ds' ∧ (0 ≤ d ∧ d < s) ∧ Below ds' ss := by
  cases ds with
  | nil => exact h.elim
  | cons d ds => exact ⟨d, ds, rfl, h.1, h.2⟩
theorem Below.nil {ds : List Int} (h : Below ds []) : ds = [] := by
  cases ds with
  | nil => rfl
  | cons d ds => exact h.elim
theorem Below.mem {ds ss : List Int} {b : Int} (h : Below ds ss) (hb : ∀ s ∈ ss, s ≤ b) : ∀ d ∈ ds, 0 ≤ d ∧ d < b := by
  induction ds generalizing ss with
  | nil => intro d hd; simp at hd
  | cons d ds ih =>
    cases ss with
    | nil => exact h.elim
    | cons s ss =>
      intro x hx
      rcases List.mem_cons.mp hx with rfl | hx
      · exact ⟨h.1.1, Int.lt_of_lt_of_le h.1.2 (hb s List.mem_cons_self)⟩
      · exact ih h.2 (fun y hy => hb y (List.mem_cons_of_mem _ hy)) x hx
theorem cut_mem_drop {α : Type} {xs : List α} {lo hi : Option Int} {x : α} (h : x ∈ cutD xs lo hi) : x ∈ xs.drop (HT.sIx xs.length 0 lo) := List.mem_of_mem_take h
theorem cell_at_ok (script : List Int) (k : Nat) : m__law_cell_at (script, (k : Int)) = some (script.getD k 0) := by
  rw [m__law_cell_at_at]
  unfold b__law_cell_at
  by_cases h : k < script.length
  · have h1 : ((k : Int) < (script.length : Int)) := by omega
    have h2 : atI script (k : Int) = some script[k] := atI_nat (List.getElem?_eq_getElem h)
    have h3 : script.getD k 0 = script[k] := by
      rw [List.getD_eq_getElem?_getD, List.getElem?_eq_getElem h]
      rfl
    walk_at "go"
  · have h1 : ¬ ((k : Int) < (script.length : Int)) := by omega
    have h3 : script.getD k 0 = 0 := by
      rw [List.getD_eq_getElem?_getD, List.getElem?_eq_none (by omega)]
      rfl
    walk_at "go"
def FormIn (a t : Str) : Prop := ∃ l : Str, Of a l ∧ 0 < l.length ∧ l.length ≤ 8 ∧ (t = l ∨ ∃ n : Str, t = l ++ Str.ofString "_" ++ n ∧ PyData.strOk n = true ∧ n.length ≤ 4)
def lettersOf (great : Bool) : Str := if great = true then greatS else smallS
theorem unlike_ok (number : Int) (many : Nat) (great : Bool) (h0 : 0 ≤ number) (hm : many ≤ 100) :
    ∃ found, m__law_unlike (number, (many : Int), great) = some found ∧ found.length = many ∧ ∀ t ∈ found, HeadIn (lettersOf great) t ∧ t.length ≤ 20 ∧ PyData.strOk t = true ∧ FormIn (lettersOf great) t := by
  obtain ⟨a, ha⟩ : ∃ a, a = lettersOf great := ⟨_, rfl⟩
  have al : a.length = 26 := by rw [ha]; cases great <;> first | exact small_len | exact great_len
  have ak : PyData.strOk a = true := by rw [ha]; cases great <;> first | exact small_strok | exact great_strok
  rw [← ha]
  have d26 : divOk 26 = true := by decide +kernel
  have d208 : divOk 208 = true := by decide +kernel
  have d1664 : divOk 1664 = true := by decide +kernel
  have d43264 : divOk 43264 = true := by decide +kernel
  have d129792 : divOk 129792 = true := by decide +kernel
  obtain ⟨c, hpad, hc⟩ := sign_ok al number
  obtain ⟨size, hsize⟩ : ∃ s : Int, s = 1 + number / 26 % 8 := ⟨_, rfl⟩
  have s0 : 1 ≤ size ∧ size ≤ 8 := by omega
  obtain ⟨at_, hat⟩ : ∃ s : Int, s = number / 208 % size := ⟨_, rfl⟩
  have a0 : 0 ≤ at_ := by rw [hat]; exact Int.emod_nonneg _ (by omega)
  have a1 : at_ < size := by rw [hat]; exact Int.emod_lt_of_pos _ (by omega)
  obtain ⟨first, hfirst⟩ : ∃ s : Int, s = number / 1664 % 26 := ⟨_, rfl⟩
  obtain ⟨x1, hx1, hl1, ho1⟩ := repS_ok ak hc at_.toNat (by omega)
  rw [Int.toNat_of_nonneg a0] at hx1
  obtain ⟨x2, hx2, hl2, ho2⟩ := repS_ok ak hc (size - at_ - 1).toNat (by omega)
  rw [Int.toNat_of_nonneg (by omega)] at hx2
  obtain ⟨num, hnum, hnl⟩ := strI_ok (f := number / 129792 % 10000) (by omega) (by omega)
  have hns : PyData.strOk num = true := by
    unfold fStrI okIf at hnum
    split at hnum
    · cases hnum
      exact strOk_ofString _
    · cases hnum
  have hlp : ∃ Γ', lp__law_unlike_1 (some number, some (many : Int), some great, some a, some ⟨#[c]⟩, some size, some at_, some first, some [], none, none, ()) = some (.nx Γ') ∧
      (fun (pre : List Int) (Γ : Gam g__law_unlike) => ∃ found, Γ = (some number, none, some great, some a, some ⟨#[c]⟩, some size, some at_, some first, some found, none, none, ()) ∧ found.length = pre.length ∧ ∀ t ∈ found, HeadIn a t ∧ t.length ≤ 20 ∧ PyData.strOk t = true ∧ FormIn a t) (rng 0 (many : Int)) Γ' := by
    rw [lp__law_unlike_1_eq]
    refine sFor_inv (fun (pre : List Int) (Γ : Gam g__law_unlike) => ∃ found, Γ = (some number, none, some great, some a, some ⟨#[c]⟩, some size, some at_, some first, some found, none, none, ()) ∧ found.length = pre.length ∧ ∀ t ∈ found, HeadIn a t ∧ t.length ≤ 20 ∧ PyData.strOk t = true ∧ FormIn a t) (xs := rng 0 (many : Int)) ?_ ?_ ?_
    · walk_at "run"
      exact fRng1_of (by omega)
    · exact ⟨[], rfl, rfl, fun t h => by simp at h⟩
    · rintro p x q Γ he ⟨found, rfl, hfl, hft⟩
      obtain ⟨hp, rfl⟩ := rng_split he
      obtain ⟨c2, hsign, hc2⟩ := sign_ok al (first + 3 * (p.length : Int))
      have hmul : mulOk 3 (p.length : Int) = true := mulOk_of 2 10 (by decide) (by omega) (by decide)
      have ho3 : Of a ⟨#[c2]⟩ := fun z hz => by
        rw [show (Str.mk #[c2]).cps.toList = [c2] from rfl, List.mem_singleton] at hz
        exact hz ▸ hc2
      have l1 : (Str.mk #[c2]).length = 1 := rfl
      have k1 : fCat x1 ⟨#[c2]⟩ = some (x1 ++ ⟨#[c2]⟩) := cat_len (by omega)
      have k2 : fCat (x1 ++ ⟨#[c2]⟩) x2 = some (x1 ++ ⟨#[c2]⟩ ++ x2) := cat_len (by rw [len_cat]; omega)
      obtain ⟨t, ht⟩ : ∃ t, t = x1 ++ ⟨#[c2]⟩ ++ x2 := ⟨_, rfl⟩
      have htl : t.length ≤ 8 ∧ 0 < t.length := by rw [ht, len_cat, len_cat]; omega
      have hto : Of a t := by rw [ht]; exact (ho1.cat ho3).cat ho2
      rw [← ht] at k2
      have hline : found.length < sizeLine := lt_line (by omega)
      have hplen : (p ++ [(p.length : Int)]).length = p.length + 1 := by simp
      have g1 : ∀ u ∈ found ++ [t], HeadIn a u ∧ u.length ≤ 20 ∧ PyData.strOk u = true ∧ FormIn a u := fun u hu => by
        rcases List.mem_append.mp hu with hu | hu
        · exact hft u hu
        · rw [List.mem_singleton] at hu
          rw [hu]
          exact ⟨head_of hto htl.2, by omega, hto.ok ak, t, hto, htl.2, htl.1, .inl rfl⟩
      have k3 : fCat t (Str.ofString "_") = some (t ++ Str.ofString "_") := cat_len (by
        show _ + 1 ≤ _
        omega)
      have k4 : fCat (t ++ Str.ofString "_") num = some (t ++ Str.ofString "_" ++ num) := cat_len (by
        rw [len_cat]
        show _ + 1 + _ ≤ _
        omega)
      have hget : atI (found ++ [t]) (p.length : Int) = some t := atI_nat (by rw [← hfl, List.getElem?_append_right (Nat.le_refl _)]; simp)
      have hix : ixN (found ++ [t]).length (p.length : Int) = some p.length := ixN_at (by simp [hfl])
      have hset : (found ++ [t]).set p.length (t ++ Str.ofString "_" ++ num) = found ++ [t ++ Str.ofString "_" ++ num] := by
        rw [← hfl, List.set_append_right _ _ (Nat.le_refl _)]
        simp
      have g2 : ∀ u ∈ found ++ [t ++ Str.ofString "_" ++ num], HeadIn a u ∧ u.length ≤ 20 ∧ PyData.strOk u = true ∧ FormIn a u := fun u hu => by
        rcases List.mem_append.mp hu with hu | hu
        · exact hft u hu
        · rw [List.mem_singleton] at hu
          rw [hu]
          refine ⟨((head_of hto htl.2).cat _).cat _, ?_, strOk_append (strOk_append (hto.ok ak) (by decide +kernel)) hns, t, hto, htl.2, htl.1, .inr ⟨num, rfl, hns, hnl⟩⟩
          rw [len_cat, len_cat]
          show _ + 1 + _ ≤ _
          omega
      have hpos : (0 : Int) ≤ (p.length : Int) := by omega
      have e1 : (found ++ [t]).length = (p ++ [(p.length : Int)]).length := by rw [hplen, List.length_append, hfl]; rfl
      have e2' : (found ++ [t ++ Str.ofString "_" ++ num]).length = (p ++ [(p.length : Int)]).length := by rw [hplen, List.length_append, hfl]; rfl
      clear he hft hto htl hplen ho1 ho2 ho3 hl1 hl2 l1 hc hc2 ht al ak ha hfl hp h0 hm s0 a0 a1 hsize hat hfirst hnl hns
      cases great with
      | false =>
        refine ⟨(some number, none, some false, some a, some ⟨#[c]⟩, some size, some at_, some first, some (found ++ [t]), some (p.length : Int), some ⟨#[c2]⟩, ()), .inl ?_, _, rfl, e1, g1⟩
        unfold lb__law_unlike_1
        clear e1 e2' g1 g2
        walk_at "go"
      | true =>
        by_cases b1 : number / 43264 % 3 = 1
        · by_cases b2 : Builtin.bitAnd (number / 129792 / 2 ^ (p.length : Int).toNat) 1 = 1
          · refine ⟨(some number, none, some true, some a, some ⟨#[c]⟩, some size, some at_, some first, some (found ++ [t ++ Str.ofString "_" ++ num]), some (p.length : Int), some ⟨#[c2]⟩, ()), .inl ?_, _, rfl, e2', g2⟩
            unfold lb__law_unlike_1
            clear e1 e2' g1 g2
            unfold sLput
            walk_at "go"
          · refine ⟨(some number, none, some true, some a, some ⟨#[c]⟩, some size, some at_, some first, some (found ++ [t]), some (p.length : Int), some ⟨#[c2]⟩, ()), .inl ?_, _, rfl, e1, g1⟩
            unfold lb__law_unlike_1
            clear e1 e2' g1 g2
            walk_at "go"
        · refine ⟨(some number, none, some true, some a, some ⟨#[c]⟩, some size, some at_, some first, some (found ++ [t]), some (p.length : Int), some ⟨#[c2]⟩, ()), .inl ?_, _, rfl, e1, g1⟩
          unfold lb__law_unlike_1
          clear e1 e2' g1 g2
          walk_at "go"
  obtain ⟨Γ', e, found, rfl, hfl, hft⟩ := hlp
  refine ⟨found, ?_, by rw [hfl, rng_len]; omega, hft⟩
  rw [m__law_unlike_at]
  unfold b__law_unlike
  have hs8 : (0 : Int) < size := by omega
  have up := upper_ok
  have hsz := hsize.symm
  have hat' := hat.symm
  have hfi := hfirst.symm
  clear hft hfl hx1 hx2 ho1 ho2 hnum hnl hl1 hl2 hsize hat hfirst s0 a0 a1 hc ak al hm h0
  cases great with
  | false =>
    have ha' : a = smallS := ha
    subst ha'
    clear ha up
    walk_at "go"
  | true =>
    have ha' : a = greatS := ha
    subst ha'
    clear ha
    walk_at "go"
structure RuleOk (heads words : List Str) (r : RuleT) : Prop where
  name : r.1 ∈ heads
  parts : ∀ p ∈ r.2.1, p ∈ words ∨ p ∈ heads
  few : r.2.1.length ≤ 8
  cost : 0 ≤ r.2.2
theorem rule_loop (cell most : Int) (heads words : List Str) (ds places : List Int) (d0 d1 : Int) (hn : 0 < heads.length) (hw : words.length = 3) (i0 : atI ds 0 = some d0) (i1 : atI ds 1 = some d1) (hpl : cutD ds (some 4) (some (4 + d1)) = places) (hp6 : ∀ x ∈ places, 0 ≤ x ∧ x < 6) (hpn : places.length ≤ 8) :
    ∃ parts, lp__law_rule_1 (some cell, some heads, some words, some most, some ds, some [], none, ()) = some (.nx (none, some heads, some words, none, some ds, some parts, none, ())) ∧ (∀ p ∈ parts, p ∈ words ∨ p ∈ heads) ∧ parts.length ≤ 8 := by
  have hlp : ∃ Γ', lp__law_rule_1 (some cell, some heads, some words, some most, some ds, some [], none, ()) = some (.nx Γ') ∧
      (fun (pre : List Int) (Γ : Gam g__law_rule) => ∃ parts, Γ = (none, some heads, some words, none, some ds, some parts, none, ()) ∧ (∀ p ∈ parts, p ∈ words ∨ p ∈ heads) ∧ parts.length ≤ pre.length) places Γ' := by
    rw [lp__law_rule_1_eq]
    refine sFor_inv (fun (pre : List Int) (Γ : Gam g__law_rule) => ∃ parts, Γ = (none, some heads, some words, none, some ds, some parts, none, ()) ∧ (∀ p ∈ parts, p ∈ words ∨ p ∈ heads) ∧ parts.length ≤ pre.length) (xs := places) ?_ ⟨[], rfl, fun p h => by simp at h, Nat.le_refl _⟩ ?_
    · clear hp6 hpn
      walk_at "go"
    · rintro pre x q Γ he ⟨parts, rfl, hm1, hm2⟩
      have hx := hp6 x (by rw [he]; simp)
      have hpre : pre.length ≤ 8 := by
        have := congrArg List.length he
        simp at this
        omega
      have hline : parts.length < sizeLine := lt_line (by omega)
      have grow : ∀ w, (w ∈ words ∨ w ∈ heads) → (∀ p ∈ parts ++ [w], p ∈ words ∨ p ∈ heads) ∧ (parts ++ [w]).length ≤ (pre ++ [x]).length := fun w hw => ⟨fun p hp => by
        rcases List.mem_append.mp hp with hp | hp
        · exact hm1 p hp
        · rw [List.mem_singleton] at hp
          rw [hp]
          exact hw, by simp; omega⟩
      by_cases h3 : x < 3
      · obtain ⟨w, hw1, hw2⟩ := atI_some (xs := words) (i := x) hx.1 (by omega)
        have g1 := grow w (.inl hw2)
        refine ⟨(none, some heads, some words, none, some ds, some (parts ++ [w]), some x, ()), .inl ?_, _, rfl, g1⟩
        unfold lb__law_rule_1
        clear g1 grow he hm1 hm2 hp6 hpl
        walk_at "go"
      · have hmod0 := Int.emod_nonneg (x - 3 + d0) (show (heads.length : Int) ≠ 0 by omega)
        have hmod1 := Int.emod_lt_of_pos (x - 3 + d0) (show (0 : Int) < (heads.length : Int) by omega)
        obtain ⟨w, hw1, hw2⟩ := atI_some (xs := heads) hmod0 hmod1
        have hpos : (0 : Int) < (heads.length : Int) := by omega
        have g1 := grow w (.inr hw2)
        refine ⟨(none, some heads, some words, none, some ds, some (parts ++ [w]), some x, ()), .inl ?_, _, rfl, g1⟩
        unfold lb__law_rule_1
        clear g1 grow he hm1 hm2 hp6 hpl hmod0 hmod1
        walk_at "go"
  obtain ⟨Γ', e, parts, rfl, hm1, hm2⟩ := hlp
  exact ⟨parts, e, hm1, by omega⟩
theorem sixes_ok (most : Nat) (hm : most ≤ 8) : ∃ sixes : List Int, fRepL [(6 : Int)] (most : Int) = some sixes ∧ sixes.length = most ∧ ∀ x ∈ sixes, x = 6 := by
  refine ⟨(List.replicate most [(6 : Int)]).flatten, okIf_true (decide_eq_true ⟨by omega, by omega, ?_⟩), by simp, fun x hx => ?_⟩
  · rw [sizeLine_eq]
    simp
    omega
  · rw [List.mem_flatten] at hx
    obtain ⟨l, hl, hx⟩ := hx
    rw [(List.mem_replicate.mp hl).2, List.mem_singleton] at hx
    exact hx
theorem big_pos {n : Int} {k : Nat} (h : n = 10 ^ 59) : 0 < n ∧ n.natAbs < 2 ^ 250 := by
  subst h
  exact ⟨by decide, by decide +kernel⟩
theorem rule_draw (cell : Int) (n most : Nat) (big : Int) (hbig : big = 10 ^ 59) (hn : 0 < n) (hn' : n ≤ 100) (hm : most ≤ 8) (sixes : List Int) (hsl : sixes.length = most) (hs6 : ∀ x ∈ sixes, x = 6) :
    ∃ d0 d1 d2 d3 r, m__law_drawn (cell, [(n : Int), (most : Int) + 1, 3, big] ++ sixes) = some (d0 :: d1 :: d2 :: d3 :: r) ∧ (0 ≤ d0 ∧ d0 < (n : Int)) ∧ 0 ≤ d1 ∧ (0 ≤ d2 ∧ d2 < 3) ∧ (∀ x ∈ r, 0 ≤ x ∧ x < 6) ∧ r.length = most := by
  obtain ⟨ds, hd, hb⟩ := drawn_ok cell ([(n : Int), (most : Int) + 1, 3, big] ++ sixes) (by
    intro s hs
    have sm : ∀ n : Int, 0 < n → n < 1000 → 0 < n ∧ n.natAbs < 2 ^ 250 := fun n h h' => ⟨h, Nat.lt_of_lt_of_le (show n.natAbs < 2 ^ 10 by omega) (Nat.pow_le_pow_right (by decide) (by decide))⟩
    rcases List.mem_append.mp hs with hs | hs
    · rcases List.mem_cons.mp hs with rfl | hs
      · exact sm _ (by omega) (by omega)
      · rcases List.mem_cons.mp hs with rfl | hs
        · exact sm _ (by omega) (by omega)
        · rcases List.mem_cons.mp hs with rfl | hs
          · exact sm _ (by decide) (by decide)
          · rw [List.mem_singleton] at hs
            subst hs
            exact big_pos (k := 0) hbig
    · rw [hs6 s hs]
      exact sm _ (by decide) (by decide)) (by rw [List.length_append, hsl]; show 4 + most ≤ 900; omega)
  obtain ⟨d0, r, rfl, ⟨a0, a1⟩, hb⟩ := Below.cons hb
  obtain ⟨d1, r, rfl, ⟨b0, b1⟩, hb⟩ := Below.cons hb
  obtain ⟨d2, r, rfl, ⟨c0, c1⟩, hb⟩ := Below.cons hb
  obtain ⟨d3, r, rfl, ⟨f0, f1⟩, hb⟩ := Below.cons hb
  have hb' : Below r sixes := hb
  exact ⟨d0, d1, d2, d3, r, hd, ⟨a0, a1⟩, b0, ⟨c0, c1⟩, Below.mem hb' fun s hs => by rw [hs6 s hs]; decide, by rw [F2.length hb', hsl]⟩
theorem cost_ok (d2 big : Int) (hbig : 0 < big) (c0 : 0 ≤ d2) (c1 : d2 < 3) : ∃ z, atI [(1 : Int), 10, big] d2 = some z ∧ 0 < z := by
  obtain ⟨z, hz, hzm⟩ := atI_some (xs := [(1 : Int), 10, big]) (i := d2) c0 (by simpa using c1)
  refine ⟨z, hz, ?_⟩
  simp at hzm
  rcases hzm with rfl | rfl | rfl
  · decide
  · decide
  · exact hbig
theorem rule_cost (heads words parts : List Str) (ds : List Int) (d0 d2 d3 z big : Int) (hd0 : Str) (i0 : atI ds 0 = some d0) (i2 : atI ds 2 = some d2) (i3 : atI ds 3 = some d3) (hh : atI heads d0 = some hd0) (hz : atI [(1 : Int), 10, big] d2 = some z) (hz0 : 0 < z) (hP : (e2 fPow (eC (10 : Int)) (eC (59 : Int)) : Gam g__law_rule → Option Int) = fun _ => some big) :
  (e2 fMod (e2 atI (eV (t := (Ty.list Ty.int)) (v__law_rule_drawn)) (eC (3 : Int))) (e2 atI (e1 fSmall (eSnoc (eC (1 : Int)) (eSnoc (eC (10 : Int)) (eSnoc (e2 fPow (eC (10 : Int)) (eC (59 : Int))) eNil)))) (e2 atI (eV (t := (Ty.list Ty.int)) (v__law_rule_drawn)) (eC (2 : Int))))) ((none, some heads, some words, none, some ds, some parts, none, ()) : Gam g__law_rule) = some (d3 % z) := by
  rw [hP]
  clear hP
  walk_at "go"
theorem rule_told (heads words parts : List Str) (ds : List Int) (d0 : Int) (hd0 : Str) (i0 : atI ds 0 = some d0) (hh : atI heads d0 = some hd0) (G : Gam g__law_rule → Option Int) (r : Int) (hG : G ((none, some heads, some words, none, some ds, some parts, none, ()) : Gam g__law_rule) = some r) :
  (eCons (e2 atI (eV (t := (Ty.list Ty.str)) (v__law_rule_heads)) (e2 atI (eV (t := (Ty.list Ty.int)) (v__law_rule_drawn)) (eC (0 : Int)))) (eCons (eV (t := (Ty.list Ty.str)) (v__law_rule_parts)) G)) ((none, some heads, some words, none, some ds, some parts, none, ()) : Gam g__law_rule) = some (hd0, parts, r) := by
  walk_at "go"
theorem rule_ok (cell : Int) (heads words : List Str) (most : Nat) (hn : 0 < heads.length) (hn' : heads.length ≤ 100) (hw : words.length = 3) (hm : most ≤ 8) :
    ∃ r : RuleT, m__law_rule (cell, heads, words, (most : Int)) = some r ∧ RuleOk heads words r := by
  have p59 : powOk 10 59 = true := by decide +kernel
  obtain ⟨big, hbig⟩ : ∃ b : Int, (10 : Int) ^ (59 : Int).toNat = b := ⟨_, rfl⟩
  have hb1 : big = 10 ^ 59 := hbig.symm
  have hb0 := (big_pos (k := 0) hb1).1
  obtain ⟨sixes, hrep, hsl, hs6⟩ := sixes_ok most hm
  obtain ⟨d0, d1, d2, d3, r, hd, ⟨a0, a1⟩, b0, ⟨c0, c1⟩, hr6, hrl⟩ := rule_draw cell heads.length most big hb1 hn hn' hm sixes hsl hs6
  have hcat : fCatL [(heads.length : Int), (most : Int) + 1, 3, big] sixes = some ([(heads.length : Int), (most : Int) + 1, 3, big] ++ sixes) := catL_ok (by rw [hsl]; show 4 + most ≤ _; omega)
  clear hb1
  obtain ⟨hd0, hh, hhm⟩ := atI_some a0 a1
  have i0 : atI (d0 :: d1 :: d2 :: d3 :: r) 0 = some d0 := atI_nat (j := 0) rfl
  have i1 : atI (d0 :: d1 :: d2 :: d3 :: r) 1 = some d1 := atI_nat (j := 1) rfl
  have i2 : atI (d0 :: d1 :: d2 :: d3 :: r) 2 = some d2 := atI_nat (j := 2) rfl
  have i3 : atI (d0 :: d1 :: d2 :: d3 :: r) 3 = some d3 := atI_nat (j := 3) rfl
  obtain ⟨z, hz, hz0⟩ := cost_ok d2 big hb0 c0 c1
  have hlen : (d0 :: d1 :: d2 :: d3 :: r).length = most + 4 := by simp [hrl]
  generalize hds : d0 :: d1 :: d2 :: d3 :: r = ds at hd i0 i1 i2 i3 hlen
  obtain ⟨parts, hlp, hm1, hm2⟩ := rule_loop cell most heads words ds (cutD ds (some 4) (some (4 + d1))) d0 d1 hn hw i0 i1 rfl (fun x hx => by
    have := cut_mem_drop hx
    have e4 : HT.sIx ds.length 0 (some 4) = 4 := by
      unfold HT.sIx
      simp <;> omega
    rw [e4, ← hds] at this
    exact hr6 x this) (by
    have e4 : HT.sIx ds.length 0 (some 4) = 4 := by
      unfold HT.sIx
      simp <;> omega
    have : (cutD ds (some 4) (some (4 + d1))).length ≤ (ds.drop (HT.sIx ds.length 0 (some 4))).length := List.length_take_le' _ _
    rw [e4, List.length_drop] at this
    omega)
  refine ⟨(hd0, parts, d3 % z), ?_, ⟨hhm, hm1, by show parts.length ≤ 8; omega, Int.emod_nonneg _ (by omega)⟩⟩
  rw [m__law_rule_at]
  unfold b__law_rule
  have hP : (e2 fPow (eC (10 : Int)) (eC (59 : Int)) : Gam g__law_rule → Option Int) = fun _ => some big := by
    funext Γ
    show okIf (powOk 10 59) ((10 : Int) ^ (59 : Int).toNat) = some big
    rw [p59, hbig]
    rfl
  generalize hall : [(heads.length : Int), (most : Int) + 1, 3, big] ++ sixes = all at hd hcat
  have hR := rule_told heads words parts ds d0 hd0 i0 hh _ _ (rule_cost heads words parts ds d0 d2 d3 z big hd0 i0 i2 i3 hh hz hz0 hP)
  have hA : sSet (ρ := den (Ty.tup (Ty.cons Ty.str (Ty.cons (Ty.vtup Ty.str) (Ty.last Ty.int))))) v__law_rule_drawn (e1 m__law_drawn (eCons (eV (t := Ty.int) (v__law_rule_cell)) (e2 fCatL (e1 fSmall (eSnoc (e1 fLen (eV (t := (Ty.list Ty.str)) (v__law_rule_heads))) (eSnoc (e2 fAdd (eV (t := Ty.int) (v__law_rule_most)) (eC (1 : Int))) (eSnoc (eC (3 : Int)) (eSnoc (e2 fPow (eC (10 : Int)) (eC (59 : Int))) eNil))))) (e2 fRepL (e1 fSmall (eSnoc (eC (6 : Int)) eNil)) (eV (t := Ty.int) (v__law_rule_most)))))) ((some cell, some heads, some words, some (most : Int), none, none, none, ()) : Gam g__law_rule) = some (.nx (some cell, some heads, some words, some (most : Int), some ds, none, none, ())) := by
    rw [hP]
    clear hr6 hs6 hm1 hm2 hhm hrl hall hds hlen a0 a1 b0 c0 c1 hsl hR hP p59 hbig hz hz0 hlp i0 i1 i2 i3 hh hb0 hn hn' hw hm
    walk_at "go"
  have hB : sSet (ρ := den (Ty.tup (Ty.cons Ty.str (Ty.cons (Ty.vtup Ty.str) (Ty.last Ty.int))))) v__law_rule_parts (e1 fSmall eNil) ((some cell, some heads, some words, some (most : Int), some ds, none, none, ()) : Gam g__law_rule) = some (.nx (some cell, some heads, some words, some (most : Int), some ds, some [], none, ())) := rfl
  rw [sSeq_nx hA, sSeq_nx hB, sSeq_nx hlp]
  unfold sRet
  rw [hR]
  rfl
theorem rules_ok (cells : List Int) (many most : Nat) (hc : cells.length ≤ 100) (hm0 : 0 < many) (hm1 : many ≤ 100) (hm : most ≤ 8) :
    ∃ (heads words : List Str) (rules : List RuleT), m__law_rules (cells, (many : Int), (most : Int)) = some rules ∧ heads.length = many ∧ words.length = 3 ∧ (∀ t ∈ heads, HeadIn greatS t ∧ t.length ≤ 20 ∧ PyData.strOk t = true ∧ FormIn greatS t) ∧ (∀ t ∈ words, HeadIn smallS t ∧ t.length ≤ 20 ∧ PyData.strOk t = true) ∧
      (∀ r ∈ rules, RuleOk heads words r) ∧ (∀ h ∈ heads, h ∈ rules.map (·.1)) ∧ rules.length ≤ cells.length + many := by
  have p9 : powOk 10 9 = true := by decide +kernel
  have e9 : (10 : Int) ^ (9 : Int).toNat = 10 ^ 9 := rfl
  have hcell : m__law_cell_at (cells, 0) = some (cells.getD 0 0) := cell_at_ok cells 0
  obtain ⟨ds, hd, hb⟩ := drawn_ok (cells.getD 0 0) [10 ^ 9, 10 ^ 9] (by
    intro s hs
    simp (config := {implicitDefEqProofs := false}) only [List.mem_cons, List.not_mem_nil, or_false] at hs
    rcases hs with rfl | rfl <;> exact ⟨by decide, by decide +kernel⟩) (by decide)
  obtain ⟨one, r, rfl, ⟨a0, a1⟩, hb⟩ := Below.cons hb
  obtain ⟨other, r, rfl, ⟨b0, b1⟩, hb⟩ := Below.cons hb
  obtain rfl := Below.nil hb
  obtain ⟨heads, hh, hhl, hho⟩ := unlike_ok one many true a0 hm1
  obtain ⟨words, hw, hwl, hwo⟩ : ∃ found, m__law_unlike (other, 3, false) = some found ∧ found.length = 3 ∧ ∀ t ∈ found, HeadIn smallS t ∧ t.length ≤ 20 ∧ PyData.strOk t = true := by
    obtain ⟨found, q1, q2, q3⟩ := unlike_ok other 3 false b0 (by decide)
    exact ⟨found, q1, q2, fun t ht => ⟨(q3 t ht).1, (q3 t ht).2.1, (q3 t ht).2.2.1⟩⟩
  obtain ⟨f, hf⟩ : ∃ f : Int → RuleT, ∀ c, m__law_rule (c, heads, words, (most : Int)) = some (f c) ∧ RuleOk heads words (f c) :=
    ⟨fun c => (rule_ok c heads words most (by omega) (by omega) hwl hm).choose, fun c => (rule_ok c heads words most (by omega) (by omega) hwl hm).choose_spec⟩
  have hcl := cut_len cells (some 1) none
  have hlc : lc__law_rules_1 (some cells, some (many : Int), some (most : Int), some one, some other, some heads, some words, none, none, none, none, ()) = some ((cutD cells (some 1) none).map f) := by
    rw [lc__law_rules_1_eq]
    refine eLc_of rfl (lcL_all f _ fun c _ => ?_) (lenOk_le (by rw [List.length_map]; omega))
    have := (hf c).1
    clear hf hh hw hho hwo
    walk_at "go"
  have hlp : ∃ Γ', lp__law_rules_1 (some cells, some (many : Int), some (most : Int), some one, some other, some heads, some words, some ((cutD cells (some 1) none).map f), none, none, none, ()) = some (.nx Γ') ∧
      (fun (pre : List Str) (Γ : Gam g__law_rules) => ∃ rules : List RuleT, Γ = (none, none, none, none, none, none, some words, some rules, none, none, none, ()) ∧ (∀ r ∈ rules, RuleOk heads words r) ∧ (∀ h ∈ pre, h ∈ rules.map (·.1)) ∧ rules.length ≤ cells.length + pre.length) heads Γ' := by
    rw [lp__law_rules_1_eq]
    refine sFor_inv (fun (pre : List Str) (Γ : Gam g__law_rules) => ∃ rules : List RuleT, Γ = (none, none, none, none, none, none, some words, some rules, none, none, none, ()) ∧ (∀ r ∈ rules, RuleOk heads words r) ∧ (∀ h ∈ pre, h ∈ rules.map (·.1)) ∧ rules.length ≤ cells.length + pre.length) (xs := heads) ?_ ?_ ?_
    · rfl
    · refine ⟨_, rfl, fun r hr => ?_, fun h hh => by simp at hh, by rw [List.length_map]; simp; omega⟩
      obtain ⟨c, _, rfl⟩ := List.mem_map.mp hr
      exact (hf c).2
    · rintro pre x q Γ he ⟨rules, rfl, k1, k2, k3⟩
      have hpre : pre.length ≤ 100 := by
        have := congrArg List.length he
        simp at this
        omega
      have hlc2 : lc__law_rules_2 (none, none, none, none, none, none, some words, some rules, none, some x, none, ()) = some (rules.map (·.1)) := by
        rw [lc__law_rules_2_eq]
        exact eLc_of rfl (lcL_all (·.1) rules fun c _ => rfl) (lenOk_le (by rw [List.length_map]; omega))
      have hline : rules.length < sizeLine := lt_line (by omega)
      obtain ⟨w0, hw0, hwm⟩ := atI_some (xs := words) (i := 0) (by decide) (by omega)
      have hxh : x ∈ heads := by rw [he]; simp
      by_cases hx : x ∈ rules.map (·.1)
      · refine ⟨(none, none, none, none, none, none, some words, some rules, none, some x, none, ()), .inl ?_, rules, rfl, k1, fun h hh => ?_, by simp; omega⟩
        · have hni := fNotInD_mem (t := .str) rfl hx
          unfold lb__law_rules_1
          clear k1 k2 hf he hho hwo hx hxh hwm
          walk_at "go"
        · rcases List.mem_append.mp hh with hh | hh
          · exact k2 h hh
          · rw [List.mem_singleton] at hh
            rw [hh]
            exact hx
      · refine ⟨(none, none, none, none, none, none, some words, some (rules ++ [(x, [w0], 0)]), none, some x, none, ()), .inl ?_, rules ++ [(x, [w0], 0)], rfl, fun r hr => ?_, fun h hh => ?_, by simp; omega⟩
        · have hni := fNotInD_not (t := .str) rfl hx
          unfold lb__law_rules_1
          clear k1 k2 hf he hho hwo hx hxh hwm
          walk_at "go"
        · rcases List.mem_append.mp hr with hr | hr
          · exact k1 r hr
          · rw [List.mem_singleton] at hr
            rw [hr]
            refine ⟨hxh, fun p hp => ?_, by simp, by simp⟩
            have hp : p ∈ [w0] := hp
            rw [List.mem_singleton] at hp
            rw [hp]
            exact .inl hwm
        · rw [List.map_append]
          rcases List.mem_append.mp hh with hh | hh
          · exact List.mem_append_left _ (k2 h hh)
          · rw [List.mem_singleton] at hh
            rw [hh]
            exact List.mem_append_right _ List.mem_cons_self
  obtain ⟨Γ', e, rules, rfl, k1, k2, k3⟩ := hlp
  refine ⟨heads, words, rules, ?_, hhl, hwl, hho, hwo, k1, k2, by omega⟩
  rw [m__law_rules_at]
  unfold b__law_rules
  clear k1 k2 k3 hf hho hwo
  walk_at "go"
abbrev lineS : Str := Str.ofString "_"
abbrev figS : Str := Str.ofString "0123456789"
theorem great_line {c : Nat} (h : c ∈ greatS.cps.toList) : c ≠ 95 := by
  have : ∀ c ∈ greatS.cps.toList, c ≠ 95 := by decide +kernel
  exact this c h
theorem line_tl : TL.tl lineS = [95] := by decide +kernel
theorem fig_strok : PyData.strOk figS = true := by decide +kernel
theorem line_len : lineS.length = 1 := by decide +kernel
def numT (k : Nat) : Str := Str.ofString (toString (k : Int))
theorem numT_ok {k : Nat} (h1 : k < 10000) : fStrI (k : Int) = some (numT k) ∧ (numT k).length ≤ 4 := by
  obtain ⟨t, h2, h3⟩ := strI_ok (f := (k : Int)) (by omega) (by omega)
  have h4 := h2
  unfold fStrI okIf at h2
  split at h2
  · cases h2
    exact ⟨h4, h3⟩
  · cases h2
theorem numT_inj {i j : Nat} (hi : i < 10000) (hj : j < 10000) (h : numT i = numT j) : i = j := by
  have h1 := PySem.W.KIN.num_reads (n := (i : Int)) (by omega) (by omega)
  have h2 := PySem.W.KIN.num_reads (n := (j : Int)) (by omega) (by omega)
  have h : PySem.Str.ofString (toString (i : Int)) = PySem.Str.ofString (toString (j : Int)) := h
  rw [h, h2] at h1
  have := Option.some.inj h1
  omega
theorem num_tl (n : Nat) : (numT n).cps.toList = TL.numL n := TL.tl_num n
theorem num_figs (n : Nat) : Of figS (numT n) := fun c hc => by
  rw [num_tl] at hc
  have := TL.numL_digits n c hc
  have hall : ∀ d, d < 10 → 48 + d ∈ figS.cps.toList := by decide +kernel
  have := hall (c - 48) (by omega)
  rwa [show 48 + (c - 48) = c from by omega] at this
theorem part_app {b n : Str} (ho : Of greatS b) (h8 : b.length ≤ 8) (hn : PyData.strOk n = true) (hn4 : n.length ≤ 4) : fPartition (b ++ lineS ++ n) lineS = some (b, lineS, n) := by
  have hp : Txt.partition (b ++ lineS ++ n) lineS = (b, lineS, n) := TL.partition_app line_tl fun h => great_line (ho 95 h) rfl
  unfold fPartition
  rw [hp]
  refine okIf_true ?_
  simp only [Bool.and_eq_true]
  exact ⟨by decide +kernel, decide_eq_true (by rw [sizeLine_eq, len_cat, len_cat, line_len]; omega), ho.ok great_strok, by decide +kernel, hn⟩
theorem part_form {t : Str} (h : FormIn greatS t) : ∃ l x y, fPartition t lineS = some (l, x, y) ∧ Of greatS l ∧ 0 < l.length ∧ l.length ≤ 8 := by
  obtain ⟨l, h1, h2, h3, rfl | ⟨n, rfl, h4, h5⟩⟩ := h
  · refine ⟨t, Str.empty, Str.empty, ?_, h1, h2, h3⟩
    · have hp : Txt.partition t lineS = (t, Str.empty, Str.empty) := TL.partition_none line_tl fun h => great_line (h1 95 h) rfl
      unfold fPartition
      rw [hp]
      refine okIf_true ?_
      simp only [Bool.and_eq_true]
      exact ⟨by decide +kernel, decide_eq_true (by rw [sizeLine_eq]; omega), h1.ok great_strok, by decide +kernel, by decide +kernel⟩
  · exact ⟨l, lineS, n, part_app h1 h3 h4 h5, h1, h2, h3⟩
def MadeT (t : Str) : Prop := ∃ (l : Str) (n : Nat), t = l ++ lineS ++ numT n ∧ Of greatS l ∧ 0 < l.length ∧ l.length ≤ 8 ∧ n < 10000
theorem MadeT.head {t : Str} (h : MadeT t) : HeadIn greatS t ∧ t.length ≤ 20 ∧ PyData.strOk t = true := by
  obtain ⟨l, n, rfl, h1, h2, h3, h4⟩ := h
  refine ⟨((head_of h1 h2).cat _).cat _, ?_, strOk_append (strOk_append (h1.ok great_strok) (by decide +kernel)) ((num_figs n).ok fig_strok)⟩
  have := (numT_ok h4).2
  rw [len_cat, len_cat, line_len]
  omega
theorem str_cancelL {a b c : Str} (h : a ++ b = a ++ c) : b = c := by
  have h1 := congrArg (fun x : Str => x.cps.toList) h
  simp only [cps_cat] at h1
  have h2 := List.append_cancel_left h1
  cases b
  cases c
  congr 1
  exact Array.toList_inj.mp h2
theorem made_name_ok {name : Str} {taken : List Str} (h : FormIn greatS name) (hl : taken.length ≤ 1000) : Ok (m_made_name (name, taken)) fun t => MadeT t ∧ t ∉ taken := by
  obtain ⟨l, x, y, hp, h1, h2, h3⟩ := part_form h
  have cat : ∀ n, n < 10000 → fCat l lineS = some (l ++ lineS) ∧ fCat (l ++ lineS) (numT n) = some (l ++ lineS ++ numT n) := fun n hn => by
    have := (numT_ok hn).2
    exact ⟨cat_len (by rw [line_len]; omega), cat_len (by rw [len_cat, line_len]; omega)⟩
  rw [m_made_name_at]
  unfold b_made_name
  walk_at "w"
  rw [hp]
  walk_at "w"
  rw [lp_made_name_1_eq]
  refine Ok_sWhile (fun n : Nat => st_made_name_1 taken l (n : Int)) (fun n => ∀ m, m < n → l ++ lineS ++ numT m ∈ taken) (fun n => taken.length + 1 - n) 0 rfl (fun m hm => by omega) fun n hI => ?_
  have key : ∀ n, (∀ m, m < n → l ++ lineS ++ numT m ∈ taken) → n ≤ 10000 → n ≤ taken.length := fun n hI hn => by
    have := nodup_sub (l := (List.range n).map fun m => l ++ lineS ++ numT m) (m := taken) ?_ ?_
    · rwa [List.length_map, List.length_range] at this
    · refine List.pairwise_map.mpr (List.nodup_range.imp_of_mem fun {a b} ha hb hab z => hab ?_)
      exact numT_inj (by have := List.mem_range.mp ha; omega) (by have := List.mem_range.mp hb; omega) (str_cancelL z)
    · intro t ht
      obtain ⟨m, hm, rfl⟩ := List.mem_map.mp ht
      exact hI m (List.mem_range.mp hm)
  have hn : n ≤ taken.length := by
    by_cases hb : n ≤ 10000
    · exact key n hI hb
    · have := key 10000 (fun m hm => hI m (by omega)) (Nat.le_refl _)
      omega
  have hn1 : n < 10000 := by omega
  obtain ⟨c1, c2⟩ := cat n hn1
  walk_at "w"
  rw [c1]
  walk_at "w"
  rw [(numT_ok hn1).1]
  walk_at "w"
  rw [c2]
  walk_at "w"
  rw [fInD_eq (t := .str) rfl]
  walk_at "w"
  refine Wif_dec (fun hm => ?_) fun hm => ?_
  · unfold lb_made_name_1
    walk_at "w"
    have hI' : ∀ m, m < n + 1 → l ++ lineS ++ numT m ∈ taken := fun m hm' => by
      by_cases e : m = n
      · subst e
        exact hm
      · exact hI m (by omega)
    refine ⟨n + 1, rfl, hI', ?_⟩
    show taken.length + 1 - (n + 1) < taken.length + 1 - n
    omega
  · walk_at "w"
    rw [c1]
    walk_at "w"
    rw [(numT_ok hn1).1]
    walk_at "w"
    rw [c2]
    walk_at "w"
    exact ⟨⟨l, n, rfl, h1, h2, h3, hn1⟩, hm⟩
def PartH (p : Str) : Prop := (HeadIn greatS p ∨ HeadIn smallS p) ∧ p.length ≤ 100
theorem not_great_small {p : Str} (h : HeadIn greatS p) (h' : HeadIn smallS p) : False := by
  obtain ⟨c, r, e, m⟩ := h
  obtain ⟨c', r', e', m'⟩ := h'
  rw [e] at e'
  cases e'
  exact small_not_great m' m
theorem PartH.kind {p : Str} (h : PartH p) : m_is_name p = some (isn p) ∧ (isn p = true ↔ HeadIn greatS p) := by
  obtain ⟨h | h, hl⟩ := h
  · have e := is_name_great h (by omega)
    unfold isn
    rw [e]
    exact ⟨rfl, fun _ => h, fun _ => rfl⟩
  · have e := is_name_small h (by omega)
    unfold isn
    rw [e]
    exact ⟨rfl, fun z => (by cases z), fun z => (not_great_small z h).elim⟩
structure GK (g : List RuleT) : Prop where
  ne : g ≠ []
  few : g.length ≤ 40
  name : ∀ r ∈ g, FormIn greatS r.1 ∧ HeadIn greatS r.1 ∧ r.1.length ≤ 20 ∧ PyData.strOk r.1 = true
  parts : ∀ r ∈ g, ∀ p ∈ r.2.1, PartH p ∧ PyData.strOk p = true ∧ (HeadIn greatS p → p ∈ g.map (·.1))
  short : ∀ r ∈ g, r.2.1.length ≤ 8
  cost : ∀ r ∈ g, 0 ≤ r.2.2
abbrev TreE : Type := Int × List PyData
abbrev EmpD : Type := List (Str × TreE)
abbrev TreTy : Ty := Ty.tup (Ty.cons Ty.int (Ty.last (Ty.vtup Ty.any)))
def LayE (E : EmpD) : Prop := ∀ q ∈ E, ∀ d ∈ q.2.2, d.canLay0 = true
theorem lay_tre {t : TreE} (h : ∀ d ∈ t.2, d.canLay0 = true) : ((emb TreTy).1 t).canLay0 = true := by
  show PyData.canLay0 (.tuple [.int t.1, .tuple (t.2.map fun d => d)]) = true
  simp only [PyData.canLay0, PyData.canLayAll0, Bool.and_true, Bool.true_and]
  rw [layAll_eq, List.all_eq_true]
  intro d hd
  obtain ⟨p, hp, rfl⟩ := List.mem_map.mp hd
  exact h p hp
structure EmpP (g : List RuleT) (E : EmpD) : Prop where
  nd : (E.map (·.1)).Nodup
  sub : ∀ n ∈ E.map (·.1), n ∈ g.map (·.1)
  lay : LayE E
  few : ∀ q ∈ E, q.2.2.length ≤ 8
theorem EmpP.len {g : List RuleT} {E : EmpD} (h : EmpP g E) : E.length ≤ g.length := by
  have := nodup_sub h.nd h.sub
  rwa [List.length_map, List.length_map] at this
theorem enum_at {α : Type} {g : List α} {k : Int} {r : α} (h : (k, r) ∈ enumD g) : r ∈ g ∧ ∃ i : Nat, k = (i : Int) ∧ g[i]? = some r := by
  obtain ⟨i, hi⟩ := List.mem_iff_getElem?.mp h
  have hl : i < g.length := by
    have := (List.getElem?_eq_some_iff.mp hi).1
    rwa [enum_len] at this
  have e := enum_get (xs := g) (i := i) (List.getElem?_eq_getElem hl)
  rw [hi] at e
  cases e
  exact ⟨List.getElem_mem hl, i, rfl, List.getElem?_eq_getElem hl⟩
theorem Ok_step {G ρ : Type} {F F' : G → Option (Fl G ρ)} {Γ : G} {Q : Fl G ρ → Prop} (P : G → Prop) (h : Ok (F Γ) fun f => ∃ Γ', f = .nx Γ' ∧ P Γ') (k : ∀ Γ', P Γ' → Ok (F' Γ') Q) : Ok (sSeq F F' Γ) Q := by
  rw [Ok_sSeq]
  refine h.mono fun f hf => ?_
  obtain ⟨Γ', rfl, hp⟩ := hf
  exact k Γ' hp
theorem mput_back {M : MkV} {n : Str} {ps : List Str} {b : PyData} {d : PyData} (hd : d ∈ (mput M n ps b).2.1) : d ∈ M.2.1 ∨ d = b := by
  unfold mput at hd
  split at hd
  · exact .inl hd
  · rcases List.mem_append.mp hd with hd | hd
    · exact .inl hd
    · exact .inr (List.mem_singleton.mp hd)
abbrev BackTy : Ty := Ty.tup (Ty.cons (Ty.tup (Ty.last Ty.int)) (Ty.last (Ty.vtup Ty.any)))
theorem lay_back {k : Int} {ps : List PyData} (h : ∀ d ∈ ps, d.canLay0 = true) : ((emb BackTy).1 (k, ps)).canLay0 = true := by
  show PyData.canLay0 (.tuple [.tuple [.int k], .tuple (ps.map fun d => d)]) = true
  simp only [PyData.canLay0, PyData.canLayAll0, Bool.and_true, Bool.true_and]
  rw [layAll_eq, List.all_eq_true]
  intro d hd
  obtain ⟨p, hp, rfl⟩ := List.mem_map.mp hd
  exact h p hp
structure TK (g : List RuleT) (h : Str) (R : List RuleT) : Prop where
  ne : ∃ r t, R = r :: t ∧ r.1 = h
  few : R.length ≤ 50000
  cost : ∀ r ∈ R, r.2.2 = 0
  parts : ∀ r ∈ R, ∀ p ∈ r.2.1, PartH p ∧ (HeadIn greatS p → p ∈ R.map (·.1))
  short : ∀ r ∈ R, r.2.1.length ≤ 1000
  name : ∀ r ∈ R, r.1 ∈ g.map (·.1) ∨ MadeT r.1
theorem TK.gram {g : List RuleT} {h : Str} {R : List RuleT} (t : TK g h R) : m_grammar_of R = some R := by
  refine grammar_of_ok R ?_ (by have := t.few; omega) (fun r hr => by rw [t.cost r hr]; exact Int.le_refl 0) fun r hr p hp => ?_
  · obtain ⟨r, t', e, _⟩ := t.ne
    rw [e]
    simp
  · obtain ⟨h1, h2⟩ := t.parts r hr p hp
    obtain ⟨k1, k2⟩ := h1.kind
    cases e : isn p with
    | false => exact .inl (by rw [k1, e])
    | true => exact .inr ⟨by rw [k1, e], (uniq_mem _ _).mpr (h2 (k2.mp e))⟩
theorem gk_of {heads words : List Str} {rules : List RuleT} (hho : ∀ t ∈ heads, HeadIn greatS t ∧ t.length ≤ 20 ∧ PyData.strOk t = true ∧ FormIn greatS t) (hwo : ∀ t ∈ words, HeadIn smallS t ∧ t.length ≤ 20 ∧ PyData.strOk t = true)
    (k1 : ∀ r ∈ rules, RuleOk heads words r) (k2 : ∀ h ∈ heads, h ∈ rules.map (·.1)) (hne : rules ≠ []) (hl : rules.length ≤ 40) : GK rules := by
  refine ⟨hne, hl, fun r hr => ?_, fun r hr p hp => ?_, fun r hr => (k1 r hr).few, fun r hr => (k1 r hr).cost⟩
  · obtain ⟨q1, q2, q3, q4⟩ := hho _ (k1 r hr).name
    exact ⟨q4, q1, q2, q3⟩
  · rcases (k1 r hr).parts p hp with h | h
    · obtain ⟨q1, q2, q3⟩ := hwo p h
      exact ⟨⟨.inr q1, by omega⟩, q3, fun z => (not_great_small z q1).elim⟩
    · obtain ⟨q1, q2, q3, _⟩ := hho p h
      exact ⟨⟨.inl q1, by omega⟩, q3, fun _ => k2 p h⟩
theorem GK.gram {g : List RuleT} (G : GK g) : m_grammar_of g = some g := by
  refine grammar_of_ok g G.ne (by have := G.few; omega) G.cost fun r hr p hp => ?_
  obtain ⟨h1, _, h2⟩ := G.parts r hr p hp
  obtain ⟨k1, k2⟩ := h1.kind
  cases e : isn p with
  | false => exact .inl (by rw [k1, e])
  | true => exact .inr ⟨by rw [k1, e], (uniq_mem _ _).mpr (h2 (k2.mp e))⟩
theorem cut_few {α : Type} (xs : List α) (a b : Nat) (h : a ≤ b) : (cutD xs (some (a : Int)) (some (b : Int))).length ≤ b - a := by
  unfold cutD HT.sIx
  rw [List.length_take, List.length_drop]
  simp only []
  split <;> split <;> omega
theorem empty_trees_ok {g : List RuleT} (G : GK g) : Ok (m_empty_trees g) fun E => EmpP g E := by
  have hf := G.few
  rw [m_empty_trees_at]
  unfold b_empty_trees
  walk_at "w"
  rw [lp_empty_trees_1_eq]
  refine Ok_sWhile (fun s : EmpD × Int => st_empty_trees_1 g s.1 s.2) (fun s => EmpP g s.1) (fun s => 2 * (g.length - s.1.length) + (if s.2 < (s.1.length : Int) then 1 else 0)) ([], -1) rfl ⟨by simp, by simp, (fun q hq => by cases hq), (fun q hq => by cases hq)⟩ fun s hI => ?_
  obtain ⟨E, many⟩ := s
  have hI : EmpP g E := hI
  walk_at "w"
  refine Wif_dec (fun hlt => ?_) fun hlt => ?_
  · unfold lb_empty_trees_1
    walk_at "w"
    rw [lp_empty_trees_2_eq]
    refine Ok_sFor (enumD g) (fun s : EmpD => st_empty_trees_2 g s (E.length : Int)) (fun _ s => EmpP g s ∧ E.length ≤ s.length) E ?_ rfl ⟨hI, Nat.le_refl _⟩ (fun pre x post s he hs => ?_) fun s hs => ?_
    · walk_at "w"
    · obtain ⟨k, r⟩ := x
      obtain ⟨h1, h2⟩ := hs
      have hr : r ∈ g := (enum_at (mem_split he)).1
      have hsl := h1.len
      unfold lb_empty_trees_2
      walk_at "w"
      rw [getK_look (k := .str) rfl]
      refine Wif_of (fun hnew => ?_) fun hold => ?_
      · have hnew : look s r.1 = none := by simpa using hnew
        rw [lc_empty_trees_1_eq]
        walk_at "w"
        refine Ok_eLcM (xs := r.2.1) (fun p => (look s p).isSome) (by walk_at "w") (by have := G.short r hr; omega) (fun p hp => ?_) ?_
        · walk_at "w"
          rw [getK_look (k := .str) rfl]
        · walk_at "w"
          refine Wif_of (fun hall => ?_) fun hno => ?_
          · have hall : ∀ p ∈ r.2.1, (look s p).isSome = true := fun p hp => by
              have := List.all_eq_true.mp hall _ (List.mem_map.mpr ⟨p, hp, rfl⟩)
              exact this
            walk_at "w"
            rw [lc_empty_trees_2_eq]
            refine Ok_eLcM (xs := r.2.1) (fun p => (emb TreTy).1 ((look s p).getD default)) (by walk_at "w") (by have := G.short r hr; omega) (fun p hp => ?_) ?_
            · walk_at "w"
              rw [getK_look (k := .str) rfl]
              obtain ⟨y, hy⟩ := Option.isSome_iff_exists.mp (hall p hp)
              rw [hy]
              walk_at "w"
              rfl
            · walk_at "w"
              refine ⟨lt_line (by omega), ?_⟩
              rw [fPut_ok (k := .str) rfl]
              have hk : r.1 ∉ s.map (·.1) := look_none.mp hnew
              have e : lput s r.1 ((k, r.2.1.map fun p => (emb TreTy).1 ((look s p).getD default)) : TreE) = s ++ [(r.1, (k, r.2.1.map fun p => (emb TreTy).1 ((look s p).getD default)))] := by
                unfold lput
                rw [if_neg hk]
              rw [e]
              refine ⟨_, rfl, ⟨?_, fun n hn => ?_, fun q hq d hd => ?_, fun q hq => ?_⟩, by rw [List.length_append]; omega⟩
              · rw [List.map_append]
                exact List.nodup_append.mpr ⟨h1.nd, by simp, fun a ha b hb z => hk (by rw [List.map_cons, List.map_nil, List.mem_singleton] at hb; rw [← hb, ← z]; exact ha)⟩
              · rw [List.map_append] at hn
                rcases List.mem_append.mp hn with hn | hn
                · exact h1.sub n hn
                · rw [List.map_cons, List.map_nil, List.mem_singleton] at hn
                  rw [hn]
                  exact List.mem_map.mpr ⟨r, hr, rfl⟩
              · rcases List.mem_append.mp hq with hq | hq
                · exact h1.lay q hq d hd
                · rw [List.mem_singleton] at hq
                  subst hq
                  obtain ⟨p, hp, rfl⟩ := List.mem_map.mp hd
                  obtain ⟨y, hy⟩ := Option.isSome_iff_exists.mp (hall p hp)
                  rw [hy]
                  exact lay_tre fun d hd => h1.lay _ (look_some hy) d hd
              · rcases List.mem_append.mp hq with hq | hq
                · exact h1.few q hq
                · rw [List.mem_singleton] at hq
                  subst hq
                  show (r.2.1.map _).length ≤ 8
                  rw [List.length_map]
                  exact G.short r hr
          · walk_at "w"
            exact ⟨s, rfl, h1, h2⟩
      · walk_at "w"
        exact ⟨s, rfl, h1, h2⟩
    · obtain ⟨h1, h2⟩ := hs
      have hsl := h1.len
      refine ⟨(s, (E.length : Int)), rfl, h1, ?_⟩
      show 2 * (g.length - s.length) + (if (E.length : Int) < (s.length : Int) then 1 else 0) < 2 * (g.length - E.length) + (if many < (E.length : Int) then 1 else 0)
      rw [if_pos hlt]
      split <;> omega
  · walk_at "w"
    exact hI
abbrev WayE : Type := List Str × List PyData
structure WayK (pre : List Str) (w : WayE) : Prop where
  sub : w.1.Sublist pre
  lay : ∀ d ∈ w.2, d.canLay0 = true
  len : w.2.length = pre.length
theorem WayK.l1 {pre : List Str} {w : WayE} (h : WayK pre w) : w.1.length ≤ pre.length := h.sub.length_le
theorem with_some_left_ok {g : List RuleT} {E : EmpD} (hE : EmpP g E) {parts : List Str} (hp : parts.length ≤ 8) : Ok (m_with_some_left (parts, E)) fun W => (∀ w ∈ W, WayK parts w) ∧ W.length ≤ 256 := by
  rw [m_with_some_left_at]
  unfold b_with_some_left
  walk_at "w"
  rw [lp_with_some_left_1_eq]
  refine Ok_sFor parts (fun s : List WayE => st_with_some_left_1 E s) (fun pre s => (∀ w ∈ s, WayK pre w) ∧ s.length ≤ 2 ^ pre.length) [([], [])] (by walk_at "w") rfl ⟨fun w hw => ?_, by simp⟩ (fun pre p post s he hs => ?_) fun s hs => ?_
  · rw [List.mem_singleton] at hw
    subst hw
    exact ⟨List.Sublist.refl _, (fun d hd => by cases hd), rfl⟩
  · obtain ⟨h1, h2⟩ := hs
    have hpre : pre.length < parts.length := by rw [he]; simp
    have hpow : 2 ^ pre.length ≤ 2 ^ 7 := Nat.pow_le_pow_right (by decide) (by omega)
    have hsl : s.length ≤ 128 := by omega
    unfold lb_with_some_left_1
    walk_at "w"
    rw [lp_with_some_left_2_eq]
    refine Ok_sFor s (fun m : List WayE => st_with_some_left_2 E s p m) (fun q m => (∀ w ∈ m, WayK (pre ++ [p]) w) ∧ m.length ≤ 2 * q.length) [] (by walk_at "w") rfl ⟨(fun w hw => by cases hw), by simp⟩ (fun q w post2 m he2 hm => ?_) fun m hm => ?_
    · obtain ⟨m1, m2⟩ := hm
      obtain ⟨left, pieces⟩ := w
      have hw := h1 _ (mem_split he2)
      have hq : q.length < s.length := by rw [he2]; simp
      have l1 := hw.l1
      have l2 := hw.len
      dsimp only at l1 l2
      unfold lb_with_some_left_2
      walk_at "w"
      have a1 : WayK (pre ++ [p]) (left ++ [p], pieces ++ [(emb (Ty.str.cons Ty.int.last).tup).fst (Str.ofString "at", (List.length left : Int))]) := ⟨List.Sublist.append hw.sub (List.Sublist.refl _), fun d hd => by
        rcases List.mem_append.mp hd with hd | hd
        · exact hw.lay d hd
        · rw [List.mem_singleton] at hd
          subst hd
          show PyData.canLay0 (.tuple [.str (Str.ofString "at"), .int _]) = true
          simp only [PyData.canLay0, PyData.canLayAll0, Bool.and_true]
          decide +kernel, by rw [List.length_append, List.length_append, l2]; rfl⟩
      refine ⟨lenOk_le (by omega), lenOk_le (by omega), lt_line (by omega), ?_⟩
      rw [getK_look (k := .str) rfl]
      refine Wif_of (fun hin => ?_) fun hno => ?_
      · obtain ⟨y, hy⟩ := Option.isSome_iff_exists.mp hin
        walk_at "w"
        rw [getK_look (k := .str) rfl, hy]
        walk_at "w"
        have a2 : WayK (pre ++ [p]) (left, pieces ++ [(emb (Ty.str.cons TreTy.last).tup).fst (Str.ofString "tree", y)]) := ⟨hw.sub.trans (List.sublist_append_left _ _), fun d hd => by
          rcases List.mem_append.mp hd with hd | hd
          · exact hw.lay d hd
          · rw [List.mem_singleton] at hd
            subst hd
            have hl := lay_tre (t := y) fun d hd => hE.lay _ (look_some hy) d hd
            show PyData.canLay0 (.tuple [.str (Str.ofString "tree"), (emb TreTy).1 y]) = true
            simp only [PyData.canLay0, PyData.canLayAll0, Bool.and_true, hl]
            decide +kernel, by rw [List.length_append, List.length_append, l2]; rfl⟩
        refine ⟨lenOk_le (by omega), lt_line (by rw [List.length_append, List.length_singleton]; omega), _, rfl, fun w hw' => ?_, ?_⟩
        · rcases List.mem_append.mp hw' with hw' | hw'
          · rcases List.mem_append.mp hw' with hw' | hw'
            · exact m1 w hw'
            · rw [List.mem_singleton] at hw'
              rw [hw']
              exact a1
          · rw [List.mem_singleton] at hw'
            rw [hw']
            exact a2
        · simp only [List.length_append, List.length_singleton]
          omega
      · walk_at "w"
        refine ⟨_, rfl, fun w hw' => ?_, ?_⟩
        · rcases List.mem_append.mp hw' with hw' | hw'
          · exact m1 w hw'
          · rw [List.mem_singleton] at hw'
            rw [hw']
            exact a1
        · simp only [List.length_append, List.length_singleton]
          omega
    · obtain ⟨m1, m2⟩ := hm
      walk_at "w"
      refine ⟨_, rfl, m1, ?_⟩
      rw [List.length_append, List.length_singleton, Nat.pow_succ]
      omega
  · walk_at "w"
    have : 2 ^ parts.length ≤ 2 ^ 8 := Nat.pow_le_pow_right (by decide) hp
    exact ⟨hs.1, by omega⟩
structure NE (g : List RuleT) (h : Str) (M : MkV) : Prop where
  ok : MkOk M
  lay : MkLay M
  name : ∀ r ∈ M.1, r.1 ∈ g.map (·.1) ∨ r.1 = h
  part : ∀ r ∈ M.1, ∃ r0 ∈ g, r.2.1.Sublist r0.2.1
theorem NE.nil (g : List RuleT) (h : Str) : NE g h ([], [], []) :=
  ⟨MkOk.nil, ⟨(fun r hr => by cases hr), (fun b hb => by cases hb), (fun r hr => by cases hr), (fun r hr => by cases hr), (fun r hr => by cases hr)⟩, (fun r hr => by cases hr), (fun r hr => by cases hr)⟩
theorem NE.put {g : List RuleT} (G : GK g) {h : Str} {M : MkV} (H : NE g h M) {n : Str} (hn : n ∈ g.map (·.1) ∨ n = h) (hs : PyData.strOk n = true) {r0 : RuleT} (hr : r0 ∈ g) {left : List Str} (hl : left.Sublist r0.2.1) {b : PyData} (hb : b.canLay0 = true) : NE g h (mput M n left b) := by
  have P : ∀ p ∈ left, PartH p ∧ PyData.strOk p = true := fun p hp => ⟨(G.parts r0 hr p (hl.subset hp)).1, (G.parts r0 hr p (hl.subset hp)).2.1⟩
  refine ⟨mput_ok H.ok n left b, ⟨fun r hr' p hp => ?_, fun d hd => ?_, fun r hr' => ?_, fun r hr' p hp => ?_, fun r hr' => ?_⟩, fun r hr' => ?_, fun r hr' => ?_⟩
  · rcases mput_mem hr' with hr' | rfl
    · exact H.lay.isn r hr' p hp
    · exact (P p hp).1.kind.1
  · rcases mput_back hd with hd | rfl
    · exact H.lay.lay d hd
    · exact hb
  · rcases mput_mem hr' with hr' | rfl
    · exact H.lay.name r hr'
    · exact hs
  · rcases mput_mem hr' with hr' | rfl
    · exact H.lay.part r hr' p hp
    · exact (P p hp).2
  · rcases mput_mem hr' with hr' | rfl
    · exact H.lay.few r hr'
    · have := hl.length_le
      have := G.short r0 hr
      show left.length ≤ 1000
      omega
  · rcases mput_mem hr' with hr' | rfl
    · exact H.name r hr'
    · exact hn
  · rcases mput_mem hr' with hr' | rfl
    · exact H.part r hr'
    · exact ⟨r0, hr, hl⟩
structure NoE (g : List RuleT) (h : Str) (M : MkV) : Prop where
  ne : NE g h M
  head : (∃ r t, g = r :: t ∧ h = r.1) ∨ (MadeT h ∧ h ∉ g.map (·.1))
  empt : ∀ r ∈ M.1, r.2.1 = [] → r.1 = h ∧ ∀ r0 ∈ g, h ∉ r0.2.1
  len : M.1.length ≤ 20481
theorem no_empty_ok {g : List RuleT} (G : GK g) : Ok (m_no_empty g) fun x => ∃ h M T, NoE g h M ∧ ToldP M h T ∧ x = (T.map (·.1), T.map (·.2)) := by
  have hf := G.few
  obtain ⟨r0, t0, hg⟩ : ∃ r t, g = r :: t := by
    cases g with
    | nil => exact absurd rfl G.ne
    | cons r t => exact ⟨r, t, rfl⟩
  have hr0 : r0 ∈ g := by rw [hg]; exact List.mem_cons_self
  have h0 : atI g 0 = some r0 := atI_nat (j := 0) (by rw [hg]; rfl)
  rw [m_no_empty_at]
  unfold b_no_empty
  rw [Ok_endOf]
  refine Ok_step (fun Γ => Γ = (some g, some r0.1, none, none, none, none, none, none, none, none, none, ())) ?_ fun Γ hΓ => ?_
  · walk_at "w"
    rw [h0]
    walk_at "w"
    exact ⟨_, rfl, rfl⟩
  subst hΓ
  refine Ok_step (fun Γ => ∃ E, EmpP g E ∧ Γ = (some g, some r0.1, some E, none, none, none, none, none, none, none, none, ())) ?_ fun Γ hΓ => ?_
  · walk_at "w"
    exact (empty_trees_ok G).mono fun E hE => ⟨_, rfl, E, hE, rfl⟩
  obtain ⟨E, hE, rfl⟩ := hΓ
  refine Ok_step (fun Γ => Γ = (some g, some r0.1, some E, some [r0.1], none, none, none, none, none, none, none, ())) ?_ fun Γ hΓ => ?_
  · walk_at "w"
    exact ⟨_, rfl, rfl⟩
  subst hΓ
  refine Ok_step (fun Γ => ∃ h hs, (h = r0.1 ∨ (MadeT h ∧ h ∉ g.map (·.1))) ∧ ((look E r0.1).isSome = true → ∀ r ∈ g, h ∉ r.2.1) ∧ Γ = (some g, some r0.1, some E, some (h :: hs), none, none, none, none, none, none, none, ())) ?_ fun Γ hΓ => ?_
  · walk_at "w"
    rw [getK_look (k := .str) rfl]
    refine Wif_of (fun hin => ?_) fun hno => ?_
    · walk_at "w"
      rw [lc_no_empty_1_eq]
      refine Ok_eLcM (xs := g) (fun r : RuleT => decide (r0.1 ∈ r.2.1)) (by walk_at "w") (by omega) (fun r hr => ?_) ?_
      · walk_at "w"
        rw [fInD_eq (t := .str) rfl]
        walk_at "w"
        exact decide_eq_decide.mpr Iff.rfl
      · walk_at "w"
        refine Wif_of (fun hany => ?_) fun hnone => ?_
        · walk_at "w"
          rw [names_ok g (by omega)]
          walk_at "w"
          refine (made_name_ok (G.name r0 hr0).1 (by have := uniq_len (g.map (·.1)); rw [List.length_map] at this; omega)).mono fun t ht => ?_
          walk_at "w"
          have hnt : t ∉ g.map (·.1) := fun z => ht.2 ((uniq_mem _ _).mpr z)
          exact ⟨_, rfl, t, [r0.1], .inr ⟨ht.1, hnt⟩, fun _ r hr hp => hnt ((G.parts r hr t hp).2.2 ht.1.head.1), rfl⟩
        · walk_at "w"
          exact ⟨_, rfl, r0.1, [], .inl rfl, (fun _ r hr hp => by
            have := List.any_eq_false.mp hnone _ (List.mem_map.mpr ⟨r, hr, rfl⟩)
            exact this (decide_eq_true hp)), rfl⟩
    · walk_at "w"
      exact ⟨_, rfl, r0.1, [], .inl rfl, (fun z => by rw [z] at hno; cases hno), rfl⟩
  obtain ⟨h, hs, hh, hemp, rfl⟩ := hΓ
  have hat : atI (h :: hs) 0 = some h := atI_nat (j := 0) rfl
  have hstr : PyData.strOk h = true := hh.elim (fun z => by rw [z]; exact (G.name r0 hr0).2.2.2) fun z => z.1.head.2.2
  refine Ok_step (fun Γ => Γ = (some g, some r0.1, some E, some (h :: hs), none, some (([], [], []) : MkV), none, none, none, none, none, ())) ?_ fun Γ hΓ => ?_
  · walk_at "w"
    unfold eMk
    walk_at "w"
    exact ⟨_, rfl, rfl⟩
  subst hΓ
  refine Ok_step (fun Γ => ∃ M : MkV, NE g h M ∧ (∀ r ∈ M.1, r.2.1 ≠ []) ∧ M.1.length ≤ 20480 ∧ Γ = (none, some r0.1, some E, some (h :: hs), none, some M, none, none, none, none, none, ())) ?_ fun Γ hΓ => ?_
  · rw [lp_no_empty_1_eq]
    refine Ok_sFor (enumD g) (fun M : MkV => st_no_empty_1 r0.1 E (h :: hs) M) (fun pre M => NE g h M ∧ (∀ r ∈ M.1, r.2.1 ≠ []) ∧ M.1.length ≤ 512 * pre.length) ([], [], []) (by walk_at "w") rfl ⟨NE.nil g h, fun r hr => (by cases hr), Nat.zero_le _⟩ (fun pre x post M he hM => ?_) fun M hM => ?_
    · obtain ⟨k, r⟩ := x
      obtain ⟨m1, m2, m3⟩ := hM
      have hr : r ∈ g := (enum_at (mem_split he)).1
      have hpl : pre.length < g.length := by
        have := congrArg List.length he
        rw [enum_len, List.length_append, List.length_cons] at this
        omega
      obtain ⟨W, eW, hW, lW⟩ := with_some_left_ok hE (G.short r hr)
      unfold lb_no_empty_1
      rw [lp_no_empty_2_eq]
      refine Ok_sFor W (fun M : MkV => st_no_empty_2 r0.1 E (h :: hs) r M k) (fun q M => NE g h M ∧ (∀ r ∈ M.1, r.2.1 ≠ []) ∧ M.1.length ≤ 512 * pre.length + 2 * q.length) M ?_ rfl ⟨m1, m2, by simpa using m3⟩ (fun q w post2 M2 he2 hM2 => ?_) fun M2 hM2 => ?_
      · walk_at "w"
        exact ⟨_, eW, rfl⟩
      · obtain ⟨left, pieces⟩ := w
        obtain ⟨n1, n2, n3⟩ := hM2
        have hw := hW _ (mem_split he2)
        have hq : q.length < W.length := by rw [he2]; simp
        have hb : ((emb BackTy).1 (k, pieces)).canLay0 = true := lay_back (ps := pieces) hw.lay
        have hsub : left.Sublist r.2.1 := hw.sub
        unfold lb_no_empty_2
        walk_at "w"
        by_cases hl : left = []
        · subst hl
          rw [fNeD_same (t := .vtup .str) rfl]
          walk_at "w"
          exact ⟨M2, rfl, n1, n2, by rw [List.length_append, List.length_singleton]; omega⟩
        · rw [fNeD_ne (t := .vtup .str) rfl hl]
          walk_at "w"
          have full : ∀ (M : MkV) n b, (∀ r ∈ M.1, r.2.1 ≠ []) → ∀ r ∈ (mput M n left b).1, r.2.1 ≠ [] := fun M n b z r hr => (mput_mem hr).elim (z r) fun e => by rw [e]; exact hl
          have p1 := n1.put G (n := r.1) (.inl (List.mem_map.mpr ⟨r, hr, rfl⟩)) (G.name r hr).2.2.2 hr hsub hb
          have l1 := mput_len M2 r.1 left ((emb BackTy).1 (k, pieces))
          rw [put_ok n1.ok _ _ _ (by omega)]
          walk_at "w"
          refine Wif_dec (fun hfirst => ?_) fun hfirst => ?_
          · walk_at "w"
            rw [hat]
            walk_at "w"
            have p2 := p1.put G (n := h) (.inr rfl) hstr hr hsub hb
            have l2 := mput_len (mput M2 r.1 left ((emb BackTy).1 (k, pieces))) h left ((emb BackTy).1 (k, pieces))
            rw [put_ok p1.ok _ _ _ (by omega)]
            walk_at "w"
            exact ⟨_, rfl, p2, full _ _ _ (full _ _ _ n2), by rw [List.length_append, List.length_singleton]; exact Nat.le_trans l2 (by omega)⟩
          · walk_at "w"
            exact ⟨_, rfl, p1, full _ _ _ n2, by rw [List.length_append, List.length_singleton]; exact Nat.le_trans l1 (by omega)⟩
      · refine ⟨M2, rfl, hM2.1, hM2.2.1, ?_⟩
        have := hM2.2.2
        rw [List.length_append, List.length_singleton]
        omega
    · obtain ⟨m1, m2, m3⟩ := hM
      rw [enum_len] at m3
      exact ⟨_, rfl, M, m1, m2, by omega, rfl⟩
  obtain ⟨M, m1, m2, m3, rfl⟩ := hΓ
  refine Ok_step (fun Γ => ∃ M : MkV, NoE g h M ∧ ∃ a b c d e, Γ = (none, a, b, some (h :: hs), none, some M, c, none, none, d, e, ())) ?_ fun Γ hΓ => ?_
  · walk_at "w"
    rw [getK_look (k := .str) rfl]
    have hhead : (∃ r t, g = r :: t ∧ h = r.1) ∨ (MadeT h ∧ h ∉ g.map (·.1)) := hh.elim (fun z => .inl ⟨r0, t0, hg, z⟩) .inr
    refine Wif_of (fun hin => ?_) fun hno => ?_
    · obtain ⟨⟨k, ch⟩, hy⟩ := Option.isSome_iff_exists.mp hin
      have hlay := hE.lay _ (look_some hy)
      walk_at "w"
      rw [getK_look (k := .str) rfl, hy]
      walk_at "w"
      rw [hat]
      walk_at "w"
      have hcl : ch.length ≤ 8 := hE.few _ (look_some hy)
      rw [lc_no_empty_2_eq]
      refine Ok_eLcM (xs := ch) (fun d => ((Str.ofString "tree", d) : Str × PyData)) (by walk_at "w") (by omega) (fun d hd => by walk_at "w") ?_
      walk_at "w"
      have hb : ((emb (Ty.tup (Ty.cons (Ty.tup (Ty.last Ty.int)) (Ty.last (Ty.vtup (Ty.tup (Ty.cons Ty.str (Ty.last Ty.any)))))))).1 (k, ch.map fun d => ((Str.ofString "tree", d) : Str × PyData))).canLay0 = true := by
        show PyData.canLay0 (.tuple [.tuple [.int k], .tuple ((ch.map fun d => ((Str.ofString "tree", d) : Str × PyData)).map fun q => PyData.tuple [.str q.1, q.2])]) = true
        simp only [PyData.canLay0, PyData.canLayAll0, Bool.and_true, Bool.true_and]
        rw [layAll_eq, List.all_eq_true]
        intro d hd
        obtain ⟨q, hq, rfl⟩ := List.mem_map.mp hd
        obtain ⟨d', hd', rfl⟩ := List.mem_map.mp hq
        have e1 := hlay d' hd'
        have e2 : PyData.strOk (Str.ofString "tree") = true := by decide +kernel
        simp only [PyData.canLay0, PyData.canLayAll0, Bool.and_true, e1, e2]
      have p1 := m1.put G (n := h) (.inr rfl) hstr hr0 (List.nil_sublist _) hb
      rw [put_ok m1.ok _ _ _ (by omega)]
      walk_at "w"
      refine ⟨_, rfl, _, ⟨p1, hhead, fun r hr e => ?_, ?_⟩, _, _, _, _, _, rfl⟩
      · rcases mput_mem hr with hr | rfl
        · exact absurd e (m2 r hr)
        · exact ⟨rfl, hemp hin⟩
      · exact Nat.le_trans (mput_len _ _ _ _) (by omega)
    · walk_at "w"
      exact ⟨_, rfl, M, ⟨m1, hhead, fun r hr e => absurd e (m2 r hr), by omega⟩, _, _, _, _, _, rfl⟩
  obtain ⟨M, m1, _, _, _, _, _, rfl⟩ := hΓ
  walk_at "w"
  rw [hat]
  walk_at "w"
  refine (told_ok m1.ne.ok m1.ne.lay h (by have := m1.len; omega)).mono fun x hx => ?_
  obtain ⟨rfl, T, hT, e⟩ := hx
  exact ⟨h, x.2, T, m1, hT, e⟩
theorem MkLay.nil : MkLay ([], [], []) := ⟨(fun r hr => by cases hr), (fun b hb => by cases hb), (fun r hr => by cases hr), (fun r hr => by cases hr), (fun r hr => by cases hr)⟩
theorem MkLay.put {M : MkV} (H : MkLay M) {n : Str} (hs : PyData.strOk n = true) {ps : List Str} (P : ∀ p ∈ ps, PartH p ∧ PyData.strOk p = true) (hl : ps.length ≤ 1000) {b : PyData} (hb : b.canLay0 = true) : MkLay (mput M n ps b) := by
  refine ⟨fun r hr' p hp => ?_, fun d hd => ?_, fun r hr' => ?_, fun r hr' p hp => ?_, fun r hr' => ?_⟩
  · rcases mput_mem hr' with hr' | rfl
    · exact H.isn r hr' p hp
    · exact (P p hp).1.kind.1
  · rcases mput_back hd with hd | rfl
    · exact H.lay d hd
    · exact hb
  · rcases mput_mem hr' with hr' | rfl
    · exact H.name r hr'
    · exact hs
  · rcases mput_mem hr' with hr' | rfl
    · exact H.part r hr' p hp
    · exact (P p hp).2
  · rcases mput_mem hr' with hr' | rfl
    · exact H.few r hr'
    · exact hl
theorem kept_ok {ps : List Str} (hl : ps.length ≤ 1000) : Ok (m_kept ps) fun ds => ∀ d ∈ ds, d.canLay0 = true := by
  rw [m_kept_at]
  unfold b_kept
  walk_at "w"
  rw [lc_kept_1_eq]
  refine Ok_eLcM (xs := rng 0 (ps.length : Int)) (fun k => (emb (Ty.tup (Ty.cons Ty.str (Ty.last Ty.int)))).1 (Str.ofString "at", k)) ?_ ?_ (fun x hx => by walk_at "w") ?_
  · walk_at "w"
    exact ⟨_, fRng1_of (by omega), rfl⟩
  · rw [rng_len]
    omega
  · walk_at "w"
    intro d hd
    obtain ⟨k, _, rfl⟩ := List.mem_map.mp hd
    show PyData.canLay0 (.tuple [.str (Str.ofString "at"), .int _]) = true
    simp only [PyData.canLay0, PyData.canLayAll0, Bool.and_true]
    decide +kernel
abbrev BackVT : Ty := Ty.tup (Ty.cons (Ty.vtup Ty.int) (Ty.last (Ty.vtup Ty.any)))
theorem lay_backV {ks : List Int} {ps : List PyData} (h : ∀ d ∈ ps, d.canLay0 = true) : ((emb BackVT).1 (ks, ps)).canLay0 = true := by
  show PyData.canLay0 (.tuple [.tuple (ks.map PyData.int), .tuple (ps.map fun d => d)]) = true
  simp only [PyData.canLay0, PyData.canLayAll0, Bool.and_true, Bool.true_and]
  rw [layAll_eq, layAll_eq, Bool.and_eq_true, List.all_eq_true, List.all_eq_true]
  refine ⟨fun d hd => ?_, fun d hd => ?_⟩
  · obtain ⟨p, hp, rfl⟩ := List.mem_map.mp hd
    simp [PyData.canLay0]
  · obtain ⟨p, hp, rfl⟩ := List.mem_map.mp hd
    exact h p hp
theorem cutL_tail {α : Type} (x : α) (xs : List α) : cutD (x :: xs) (some 1) none = xs := by
  unfold cutD
  have h1 : HT.sIx (x :: xs).length 0 (some 1) = 1 := by
    unfold HT.sIx
    simp
  have h2 : HT.sIx (x :: xs).length (x :: xs).length none = (x :: xs).length := by
    unfold HT.sIx
    simp
  rw [h1, h2]
  simp
structure NT (g : List RuleT) (M : MkV) : Prop where
  ok : MkOk M
  lay : MkLay M
  name : ∀ r ∈ M.1, r.1 ∈ g.map (·.1) ∨ MadeT r.1
  part : ∀ r ∈ M.1, ∀ p ∈ r.2.1, PartH p
  two : ∀ r ∈ M.1, r.2.1.length ≤ 2
  same : ∀ r ∈ M.1, r.2.1.length < 2 → ∃ r0 ∈ g, r.2.1 = r0.2.1
theorem NT.nil (g : List RuleT) : NT g ([], [], []) := ⟨MkOk.nil, MkLay.nil, (fun r hr => by cases hr), (fun r hr => by cases hr), (fun r hr => by cases hr), (fun r hr => by cases hr)⟩
theorem NT.put {g : List RuleT} {M : MkV} (H : NT g M) {n : Str} (hn : n ∈ g.map (·.1) ∨ MadeT n) (hs : PyData.strOk n = true) {ps : List Str} (P : ∀ p ∈ ps, PartH p ∧ PyData.strOk p = true) (hl : ps.length ≤ 2) (h1 : ps.length < 2 → ∃ r0 ∈ g, ps = r0.2.1) {b : PyData} (hb : b.canLay0 = true) : NT g (mput M n ps b) := by
  refine ⟨mput_ok H.ok n ps b, H.lay.put hs P (by omega) hb, fun r hr => ?_, fun r hr => ?_, fun r hr => ?_, fun r hr => ?_⟩
  · rcases mput_mem hr with hr | rfl
    · exact H.name r hr
    · exact hn
  · rcases mput_mem hr with hr | rfl
    · exact H.part r hr
    · exact fun p hp => (P p hp).1
  · rcases mput_mem hr with hr | rfl
    · exact H.two r hr
    · exact hl
  · rcases mput_mem hr with hr | rfl
    · exact H.same r hr
    · exact h1
structure TwoI (g : List RuleT) (r : RuleT) (t0 m0 : Nat) (s : List Str × MkV × Str × List Str × List Int) : Prop where
  nt : NT g s.2.1
  name : s.2.2.1 ∈ g.map (·.1) ∨ MadeT s.2.2.1
  str : PyData.strOk s.2.2.1 = true
  part : ∀ p ∈ s.2.2.2.1, PartH p ∧ PyData.strOk p = true
  same : s.2.2.2.1 = r.2.1 ∨ 2 ≤ s.2.2.2.1.length
  few : s.2.2.2.1.length ≤ 8
  tkn : s.1.length + s.2.2.2.1.length ≤ t0 + 8
  mks : s.2.1.1.length + s.2.2.2.1.length ≤ m0 + 8
theorem twos_ok {g : List RuleT} (G : GK g) {r0 : RuleT} {t0 : List RuleT} (hg : g = r0 :: t0) : Ok (m_twos g) fun x => ∃ M T, NT g M ∧ M.1.length ≤ 400 ∧ ToldP M r0.1 T ∧ x = (T.map (·.1), T.map (·.2)) := by
  have hf := G.few
  have h0 : atI g 0 = some r0 := atI_nat (j := 0) (by rw [hg]; rfl)
  rw [m_twos_at]
  unfold b_twos
  rw [Ok_endOf]
  have hul : (uniq (g.map (·.1))).length ≤ g.length := by
    have := uniq_len (g.map (·.1))
    rwa [List.length_map] at this
  refine Ok_step (fun Γ => Γ = (some g, some (uniq (g.map (·.1))), none, none, none, none, none, none, none, ())) ?_ fun Γ hΓ => ?_
  · walk_at "w"
    rw [names_ok g (by omega)]
    walk_at "w"
    exact ⟨_, rfl, rfl⟩
  subst hΓ
  refine Ok_step (fun Γ => Γ = (some g, some (uniq (g.map (·.1))), some (([], [], []) : MkV), none, none, none, none, none, none, ())) ?_ fun Γ hΓ => ?_
  · walk_at "w"
    unfold eMk
    walk_at "w"
    exact ⟨_, rfl, rfl⟩
  subst hΓ
  refine Ok_step (fun Γ => ∃ (t : List Str) (M : MkV), NT g M ∧ M.1.length ≤ 400 ∧ ∃ a b c d e f, Γ = (some g, some t, some M, a, b, c, d, e, f, ())) ?_ fun Γ hΓ => ?_
  · rw [lp_twos_1_eq]
    refine Ok_sFor (enumD g) (fun s : List Str × MkV => st_twos_1 g s.1 s.2) (fun pre s => NT g s.2 ∧ s.1.length ≤ g.length + 8 * pre.length ∧ s.2.1.length ≤ 9 * pre.length) (uniq (g.map (·.1)), [], [], []) (by walk_at "w") rfl ⟨NT.nil g, by show (uniq (g.map (·.1))).length ≤ _; omega, Nat.zero_le _⟩ (fun pre x post s he hs => ?_) fun s hs => ?_
    · obtain ⟨k, r⟩ := x
      obtain ⟨taken, M⟩ := s
      obtain ⟨m1, m2, m3⟩ := hs
      dsimp only at m1 m2 m3
      have hr : r ∈ g := (enum_at (mem_split he)).1
      have hpl : pre.length < g.length := by
        have := congrArg List.length he
        rw [enum_len, List.length_append, List.length_cons] at this
        omega
      have hsh := G.short r hr
      unfold lb_twos_1
      walk_at "w"
      rw [lp_twos_2_eq]
      refine Ok_sWhile (fun s : List Str × MkV × Str × List Str × List Int => st_twos_2 g s.1 s.2.1 r s.2.2.1 s.2.2.2.1 s.2.2.2.2) (TwoI g r (g.length + 8 * pre.length) (9 * pre.length)) (fun s => s.2.2.2.1.length) (taken, M, r.1, r.2.1, [k]) rfl ⟨m1, .inl (List.mem_map.mpr ⟨r, hr, rfl⟩), (G.name r hr).2.2.2, fun p hp => ⟨(G.parts r hr p hp).1, (G.parts r hr p hp).2.1⟩, .inl rfl, hsh, by show taken.length + r.2.1.length ≤ _; omega, by show M.1.length + r.2.1.length ≤ _; omega⟩ fun s hI => ?_
      obtain ⟨tk, M, name, parts, chain⟩ := s
      have i1 : NT g M := hI.nt
      have i2 : name ∈ g.map (·.1) ∨ MadeT name := hI.name
      have i3 : PyData.strOk name = true := hI.str
      have i4 : ∀ p ∈ parts, PartH p ∧ PyData.strOk p = true := hI.part
      have i5 : parts = r.2.1 ∨ 2 ≤ parts.length := hI.same
      have i6 : parts.length ≤ 8 := hI.few
      have i7 : tk.length + parts.length ≤ g.length + 8 * pre.length + 8 := hI.tkn
      have i8 : M.1.length + parts.length ≤ 9 * pre.length + 8 := hI.mks
      walk_at "w"
      refine Wif_dec (fun hlt => ?_) fun hlt => ?_
      · have hlt : (2 : Int) < (parts.length : Int) := hlt
        obtain ⟨p0, parts, rfl⟩ : ∃ p q, parts = p :: q := by
          cases parts with
          | nil => simp at hlt
          | cons p q => exact ⟨p, q, rfl⟩
        rw [List.length_cons] at hlt i6 i7 i8
        have hat : atI (p0 :: parts) 0 = some p0 := atI_nat (j := 0) rfl
        have hcut : (cutD (p0 :: parts) none (some 2)).length ≤ 1000 := Nat.le_trans (cut_len _ _ _) (by rw [List.length_cons]; omega)
        unfold lb_twos_2
        walk_at "w"
        refine (made_name_ok (G.name r hr).1 (by omega)).mono fun t ht => ?_
        have hh := ht.1.head
        walk_at "w"
        refine ⟨lt_line (by omega), ?_⟩
        rw [hat]
        walk_at "w"
        refine (kept_ok hcut).mono fun ds hds => ?_
        walk_at "w"
        have P2 : ∀ p ∈ [p0, t], PartH p ∧ PyData.strOk p = true := fun p hp => by
          rcases List.mem_cons.mp hp with rfl | hp
          · exact i4 _ List.mem_cons_self
          · rw [List.mem_singleton] at hp
            rw [hp]
            exact ⟨⟨.inl hh.1, by omega⟩, hh.2.2⟩
        have p1 := i1.put i2 i3 P2 (by show 2 ≤ 2; decide) (fun z => by cases z with | step z => cases z with | step z => cases z) (lay_backV (ks := chain) hds)
        have l1 := mput_len M name [p0, t] ((emb BackVT).1 (chain, ds))
        rw [put_ok i1.ok _ _ _ (by omega)]
        walk_at "w"
        rw [cutL_tail]
        refine ⟨(tk ++ [t], mput M name [p0, t] ((emb BackVT).1 (chain, ds)), t, parts, []), rfl, ⟨p1, .inr ht.1, hh.2.2, fun p hp => i4 p (List.mem_cons_of_mem _ hp), .inr (by show 2 ≤ parts.length; omega), by show parts.length ≤ 8; omega, ?_, ?_⟩, ?_⟩
        · show (tk ++ [t]).length + parts.length ≤ _
          rw [List.length_append, List.length_singleton]
          omega
        · show (mput M name [p0, t] _).1.length + parts.length ≤ _
          omega
        · show parts.length < (p0 :: parts).length
          rw [List.length_cons]
          omega
      · have hlt : ¬ (2 : Int) < (parts.length : Int) := hlt
        walk_at "w"
        refine (kept_ok (ps := parts) (by omega)).mono fun ds hds => ?_
        walk_at "w"
        have p1 := i1.put i2 i3 i4 (by omega) (fun z => ⟨r, hr, i5.resolve_right (by omega)⟩) (lay_backV (ks := chain) hds)
        have l1 := mput_len M name parts ((emb BackVT).1 (chain, ds))
        rw [put_ok i1.ok _ _ _ (by omega)]
        walk_at "w"
        refine ⟨(tk, mput M name parts ((emb BackVT).1 (chain, ds))), rfl, p1, ?_, ?_⟩
        · show tk.length ≤ _
          rw [List.length_append, List.length_singleton]
          omega
        · show (mput M name parts _).1.length ≤ _
          rw [List.length_append, List.length_singleton]
          omega
    · obtain ⟨t, M⟩ := s
      obtain ⟨m1, m2, m3⟩ := hs
      dsimp only at m1 m2 m3
      rw [enum_len] at m3
      exact ⟨_, rfl, t, M, m1, by omega, _, _, _, _, _, _, rfl⟩
  obtain ⟨t, M, m1, m2, _, _, _, _, _, _, rfl⟩ := hΓ
  walk_at "w"
  rw [h0]
  walk_at "w"
  refine (told_ok m1.ok m1.lay r0.1 (by omega)).mono fun x hx => ?_
  obtain ⟨rfl, T, hT, e⟩ := hx
  exact ⟨x.2, T, m1, m2, hT, e⟩
noncomputable def single (r : RuleT) : Bool := match r.2.1 with | [p] => isn p | _ => false
theorem single_ok {r : RuleT} (h : ∀ p ∈ r.2.1, PartH p) : m_is_single r = some (single r) := by
  suffices Ok (m_is_single r) (· = single r) from this.eq
  obtain ⟨n, ps, c⟩ := r
  dsimp only at h
  rw [m_is_single_at]
  unfold b_is_single
  walk_at "w"
  match ps, h with
  | [], h =>
    refine Wif_dec (fun z => absurd z (by show ¬ (0 : Int) = 1; decide)) fun _ => ?_
    walk_at "w"
    rfl
  | [p], h =>
    have hat : atI [p] 0 = some p := atI_nat (j := 0) rfl
    refine Wif_dec (fun _ => ?_) fun z => absurd (show (1 : Int) = 1 from rfl) z
    walk_at "w"
    rw [hat]
    walk_at "w"
    rw [(h p List.mem_cons_self).kind.1]
    walk_at "w"
    rfl
  | p :: q :: ps, h =>
    refine Wif_dec (fun z => absurd z (by show ¬ ((p :: q :: ps).length : Int) = 1; simp only [List.length_cons]; omega)) fun _ => ?_
    walk_at "w"
    rfl
inductive ChainOk (g : List RuleT) (a : Str) : List Int → Str → Prop where
  | nil : ChainOk g a [] a
  | snoc {ks : List Int} {b c : Str} {i : Nat} {r : RuleT} : ChainOk g a ks b → g[i]? = some r → r.1 = b → r.2.1 = [c] → isn c = true → ChainOk g a (ks ++ [(i : Int)]) c
theorem ChainOk.part {g : List RuleT} {a b : Str} {ks : List Int} (h : ChainOk g a ks b) : b = a ∨ ∃ r ∈ g, b ∈ r.2.1 := by
  cases h with
  | nil => exact .inl rfl
  | snoc _ h1 h2 h3 _ => exact .inr ⟨_, List.mem_of_getElem? h1, by rw [h3]; exact List.mem_cons_self⟩
abbrev ChF : Type := List (Str × List Int)
structure ChI (g : List RuleT) (a : Str) (F : ChF) : Prop where
  nd : (F.map (·.1)).Nodup
  sub : ∀ q ∈ F, q.1 = a ∨ q.1 ∈ g.map (·.1)
  ch : ∀ q ∈ F, ChainOk g a q.2 q.1
  len : ∀ q ∈ F, q.2.length < F.length
  start : a ∈ F.map (·.1)
theorem ChI.few {g : List RuleT} {a : Str} {F : ChF} (h : ChI g a F) : F.length ≤ g.length + 1 := by
  have := nodup_sub (l := F.map (·.1)) (m := a :: g.map (·.1)) h.nd fun n hn => by
    obtain ⟨q, hq, rfl⟩ := List.mem_map.mp hn
    rcases h.sub q hq with e | e
    · rw [e]
      exact List.mem_cons_self
    · exact List.mem_cons_of_mem _ e
  simpa using this
def Clo (g : List RuleT) (F : ChF) (b : Str) : Prop := ∀ r ∈ g, r.1 = b → ∀ c, r.2.1 = [c] → isn c = true → c ∈ F.map (·.1)
theorem Clo.app {g : List RuleT} {F : ChF} {b : Str} (h : Clo g F b) (G : ChF) : Clo g (F ++ G) b := fun r hr e c h1 h2 => by
  rw [List.map_append]
  exact List.mem_append_left _ (h r hr e c h1 h2)
theorem chains_from_ok {g : List RuleT} {name : Str} (hg : g.length ≤ 10000) (P : ∀ r ∈ g, ∀ p ∈ r.2.1, PartH p ∧ (HeadIn greatS p → p ∈ g.map (·.1))) : Ok (m_chains_from (g, name)) fun F => ChI g name F ∧ ∀ q ∈ F, Clo g F q.1 := by
  rw [m_chains_from_at]
  unfold b_chains_from
  walk_at "w"
  rw [lp_chains_from_1_eq]
  refine Ok_sWhile (fun s : ChF × Nat => st_chains_from_1 g s.1 (s.1.map (·.1)) (s.2 : Int)) (fun s => ChI g name s.1 ∧ s.2 ≤ s.1.length ∧ ∀ q ∈ s.1.take s.2, Clo g s.1 q.1) (fun s => g.length + 1 - s.2) ([(name, [])], 0) rfl ⟨⟨by simp, fun q hq => ?_, fun q hq => ?_, fun q hq => ?_, by simp⟩, Nat.zero_le _, fun q hq => by simp at hq⟩ fun s hI => ?_
  · rw [List.mem_singleton] at hq
    rw [hq]
    exact .inl rfl
  · rw [List.mem_singleton] at hq
    rw [hq]
    exact .nil
  · rw [List.mem_singleton] at hq
    rw [hq]
    exact Nat.one_pos
  obtain ⟨F, at_⟩ := s
  obtain ⟨h1, h2, h3⟩ := hI
  have h1 : ChI g name F := h1
  have h2 : at_ ≤ F.length := h2
  have h3 : ∀ q ∈ F.take at_, Clo g F q.1 := h3
  have hfew := h1.few
  walk_at "w"
  refine Wif_dec (fun hlt => ?_) fun hlt => ?_
  · have hlt : (at_ : Int) < (F.length : Int) := hlt
    obtain ⟨q, hq⟩ : ∃ q, F[at_]? = some q := ⟨_, List.getElem?_eq_getElem (by omega)⟩
    have hqm : q ∈ F := List.mem_of_getElem? hq
    have hq' := hq
    obtain ⟨here, chain⟩ := q
    have hat : atI F (at_ : Int) = some (here, chain) := atI_nat hq
    have hch : ChainOk g name chain here := h1.ch _ hqm
    have hcl : chain.length < F.length := h1.len _ hqm
    unfold lb_chains_from_1
    walk_at "w"
    rw [hat]
    walk_at "w"
    rw [lp_chains_from_2_eq]
    refine Ok_sFor (enumD g) (fun E : ChF => st_chains_from_2 g (F ++ E) ((F ++ E).map (·.1)) (at_ : Int) here chain) (fun pre E => ChI g name (F ++ E) ∧ ∀ x ∈ pre, x.2.1 = here → ∀ c, x.2.2.1 = [c] → isn c = true → c ∈ (F ++ E).map (·.1)) [] ?_ ?_ ?_ (fun pre x post E he hE => ?_) fun E hE => ?_
    · walk_at "w"
    · rw [List.append_nil]
      rfl
    · rw [List.append_nil]
      exact ⟨h1, fun x hx => by cases hx⟩
    · obtain ⟨k, r⟩ := x
      obtain ⟨e1, e2⟩ := hE
      obtain ⟨hr, i, rfl, hi⟩ := enum_at (mem_split he)
      have hP : ∀ p ∈ r.2.1, PartH p := fun p hp => (P r hr p hp).1
      have hsl := e1.few
      unfold lb_chains_from_2
      walk_at "w"
      have skip : (r.1 = here → ∀ c, r.2.1 = [c] → isn c = true → c ∈ (F ++ E).map (·.1)) → ∃ s' : ChF, st_chains_from_2 g (F ++ E) ((F ++ E).map (·.1)) (at_ : Int) here chain = st_chains_from_2 g (F ++ s') ((F ++ s').map (·.1)) (at_ : Int) here chain ∧ ChI g name (F ++ s') ∧ ∀ x ∈ pre ++ [((i : Int), r)], x.2.1 = here → ∀ c, x.2.2.1 = [c] → isn c = true → c ∈ (F ++ s').map (·.1) := fun z => ⟨E, rfl, e1, fun x hx => by
        rcases List.mem_append.mp hx with hx | hx
        · exact e2 x hx
        · rw [List.mem_singleton] at hx
          subst hx
          exact z⟩
      refine Wif_dec (fun hh => ?_) fun hh => ?_
      · have hh : r.1 = here := hh
        walk_at "w"
        rw [single_ok hP]
        walk_at "w"
        refine Wif_of (fun hs => ?_) fun hs => ?_
        · obtain ⟨c, hc, hn⟩ : ∃ c, r.2.1 = [c] ∧ isn c = true := by
            unfold single at hs
            split at hs
            · exact ⟨_, by assumption, hs⟩
            · cases hs
          have hat : atI r.2.1 0 = some c := atI_nat (j := 0) (by rw [hc]; rfl)
          walk_at "w"
          rw [hat]
          walk_at "w"
          by_cases hk : c ∈ (F ++ E).map (·.1)
          · rw [fNotInD_mem (t := .str) rfl hk]
            walk_at "w"
            refine skip fun _ c' h' _ => ?_
            rw [hc] at h'
            cases h'
            exact hk
          · rw [fNotInD_not (t := .str) rfl hk]
            walk_at "w"
            rw [hat]
            walk_at "w"
            refine ⟨lt_line (by rw [List.length_map]; omega), ?_⟩
            rw [hat]
            walk_at "w"
            have hpt := P r hr c (by rw [hc]; exact List.mem_cons_self)
            have hcn : c ∈ g.map (·.1) := hpt.2 (hpt.1.kind.2.mp hn)
            refine ⟨lenOk_le (by omega), lt_line (by omega), E ++ [(c, chain ++ [(i : Int)])], ?_, ?_, ?_⟩
            · show _ = st_chains_from_2 g (F ++ (E ++ [(c, chain ++ [(i : Int)])])) ((F ++ (E ++ [(c, chain ++ [(i : Int)])])).map (·.1)) (at_ : Int) here chain
              rw [← List.append_assoc, show (F ++ E ++ [(c, chain ++ [(i : Int)])]).map (·.1) = (F ++ E).map (·.1) ++ [c] from List.map_append]
            · rw [← List.append_assoc]
              refine ⟨?_, fun q hq => ?_, fun q hq => ?_, fun q hq => ?_, ?_⟩
              · rw [List.map_append]
                exact List.nodup_append.mpr ⟨e1.nd, by simp, fun a ha b hb z => hk (by
                  have hb : b ∈ [c] := hb
                  rw [List.mem_singleton] at hb
                  rw [← hb, ← z]
                  exact ha)⟩
              · rcases List.mem_append.mp hq with hq | hq
                · exact e1.sub q hq
                · rw [List.mem_singleton] at hq
                  rw [hq]
                  exact .inr hcn
              · rcases List.mem_append.mp hq with hq | hq
                · exact e1.ch q hq
                · rw [List.mem_singleton] at hq
                  rw [hq]
                  exact .snoc hch hi hh hc hn
              · rw [List.length_append, List.length_singleton]
                rcases List.mem_append.mp hq with hq | hq
                · have := e1.len q hq
                  omega
                · rw [List.mem_singleton] at hq
                  rw [hq]
                  show (chain ++ [(i : Int)]).length < _
                  rw [List.length_append, List.length_singleton, List.length_append]
                  omega
              · rw [List.map_append]
                exact List.mem_append_left _ e1.start
            · rw [← List.append_assoc]
              intro x hx hxh c' hc' hn'
              rw [List.map_append]
              rcases List.mem_append.mp hx with hx | hx
              · exact List.mem_append_left _ (e2 x hx hxh c' hc' hn')
              · rw [List.mem_singleton] at hx
                subst hx
                have hc' : r.2.1 = [c'] := hc'
                rw [hc] at hc'
                cases hc'
                exact List.mem_append_right _ List.mem_cons_self
        · walk_at "w"
          refine skip fun _ c h' hn => ?_
          unfold single at hs
          rw [h'] at hs
          have hs : isn c = false := hs
          rw [hs] at hn
          cases hn
      · walk_at "w"
        exact skip fun z => absurd z hh
    · obtain ⟨e1, e2⟩ := hE
      walk_at "w"
      refine ⟨(F ++ E, at_ + 1), rfl, ⟨e1, by show at_ + 1 ≤ (F ++ E).length; rw [List.length_append]; omega, fun q hq => ?_⟩, ?_⟩
      · have hq : q ∈ (F ++ E).take (at_ + 1) := hq
        have et : (F ++ E).take (at_ + 1) = F.take at_ ++ [(here, chain)] := by
          rw [List.take_append_of_le_length (by omega), List.take_add_one, hq']
          rfl
        rw [et] at hq
        rcases List.mem_append.mp hq with hq | hq
        · exact (h3 q hq).app E
        · rw [List.mem_singleton] at hq
          subst hq
          intro r hr e c hc hn
          obtain ⟨j, hj⟩ := List.mem_iff_getElem?.mp hr
          exact e2 (_, r) (List.mem_iff_getElem?.mpr ⟨j, enum_get hj⟩) e c hc hn
      · show g.length + 1 - (at_ + 1) < g.length + 1 - at_
        omega
  · walk_at "w"
    have hlt : ¬ (at_ : Int) < (F.length : Int) := hlt
    have e : F.take at_ = F := List.take_of_length_le (by omega)
    rw [e] at h3
    exact ⟨h1, h3⟩
structure NS (g : List RuleT) (M : MkV) : Prop where
  ok : MkOk M
  lay : MkLay M
  name : ∀ r ∈ M.1, r.1 ∈ g.map (·.1)
  src : ∀ r ∈ M.1, ∃ r0 ∈ g, r.2.1 = r0.2.1 ∧ single r0 = false ∧ (r0.1 = r.1 ∨ ∃ r' ∈ g, r0.1 ∈ r'.2.1)
theorem NS.nil (g : List RuleT) : NS g ([], [], []) := ⟨MkOk.nil, MkLay.nil, (fun r hr => by cases hr), (fun r hr => by cases hr)⟩
theorem ns_loop {g : List RuleT} (G : GK g) (hf : g.length ≤ 20) (first : Str) {Γ : Gam g_no_single} (hΓ : Γ = (some g, some first, none, none, none, none, some (([], [], []) : MkV), none, none, none, ())) :
    Ok (lp_no_single_2 Γ) fun f => ∃ M, NS g M ∧ M.1.length ≤ 8400 ∧ f = .nx (st_no_single_2 g first M) := by
  subst hΓ
  have hul : (uniq (g.map (·.1))).length ≤ g.length := by
    have := uniq_len (g.map (·.1))
    rwa [List.length_map] at this
  rw [lp_no_single_2_eq]
  refine Ok_sFor (uniq (g.map (·.1))) (fun M : MkV => st_no_single_2 g first M) (fun pre M => NS g M ∧ M.1.length ≤ 420 * pre.length) ([], [], []) ?_ rfl ⟨NS.nil g, Nat.zero_le _⟩ (fun pre name post M he hM => ?_) fun M hM => ?_
  · walk_at "w"
    rw [names_ok g (by omega)]
    walk_at "w"
  · obtain ⟨m1, m2⟩ := hM
    have hnm : name ∈ g.map (·.1) := (uniq_mem _ _).mp (mem_split he)
    have hns : PyData.strOk name = true := by
      obtain ⟨r, hr, e⟩ := List.mem_map.mp hnm
      have e : r.1 = name := e
      rw [← e]
      exact (G.name r hr).2.2.2
    have hpre : pre.length ≤ 19 := by
      have := congrArg List.length he
      rw [List.length_append, List.length_cons] at this
      omega
    obtain ⟨F, eF, hF, _⟩ := chains_from_ok (g := g) (name := name) (by omega) (fun r hr p hp => ⟨(G.parts r hr p hp).1, (G.parts r hr p hp).2.2⟩)
    have hFl := hF.few
    unfold lb_no_single_2
    rw [lp_no_single_3_eq]
    refine Ok_sFor F (fun M : MkV => st_no_single_3 g first name M) (fun p2 M => NS g M ∧ M.1.length ≤ 420 * pre.length + 20 * p2.length) M ?_ rfl ⟨m1, by simpa using m2⟩ (fun p2 q post2 M2 he2 hM2 => ?_) fun M2 hM2 => ?_
    · walk_at "w"
      exact ⟨_, eF, rfl⟩
    · obtain ⟨there, chain⟩ := q
      obtain ⟨n1, n2⟩ := hM2
      have hq := mem_split he2
      have hch : ChainOk g name chain there := hF.ch _ hq
      have hcl : chain.length < F.length := hF.len _ hq
      have hp2 : p2.length ≤ 20 := by
        have := congrArg List.length he2
        rw [List.length_append, List.length_cons] at this
        omega
      unfold lb_no_single_3
      rw [lp_no_single_4_eq]
      refine Ok_sFor (enumD g) (fun M : MkV => st_no_single_4 g first name M there chain) (fun p3 M => NS g M ∧ M.1.length ≤ 420 * pre.length + 20 * p2.length + p3.length) M2 (by walk_at "w") rfl ⟨n1, by simpa using n2⟩ (fun p3 x post3 M3 he3 hM3 => ?_) fun M3 hM3 => ?_
      · obtain ⟨k, r⟩ := x
        obtain ⟨o1, o2⟩ := hM3
        have hr : r ∈ g := (enum_at (mem_split he3)).1
        have hp3 : p3.length ≤ 19 := by
          have := congrArg List.length he3
          rw [enum_len, List.length_append, List.length_cons] at this
          omega
        have hP : ∀ p ∈ r.2.1, PartH p ∧ PyData.strOk p = true := fun p hp => ⟨(G.parts r hr p hp).1, (G.parts r hr p hp).2.1⟩
        have skip : ∃ s', st_no_single_4 g first name M3 there chain = st_no_single_4 g first name s' there chain ∧ NS g s' ∧ s'.1.length ≤ 420 * pre.length + 20 * p2.length + (p3 ++ [(k, r)]).length := ⟨M3, rfl, o1, by rw [List.length_append, List.length_singleton]; omega⟩
        unfold lb_no_single_4
        walk_at "w"
        refine Wif_dec (fun hh => ?_) fun hh => ?_
        · have hh : r.1 = there := hh
          walk_at "w"
          rw [single_ok fun p hp => (hP p hp).1]
          walk_at "w"
          cases hs : single r with
          | true =>
            walk_at "w"
            exact skip
          | false =>
            walk_at "w"
            refine ⟨lenOk_le (by omega), ?_⟩
            refine (kept_ok (ps := r.2.1) (by have := G.short r hr; omega)).mono fun ds hds => ?_
            walk_at "w"
            have l1 := mput_len M3 name r.2.1 ((emb BackVT).1 (chain ++ [k], ds))
            rw [put_ok o1.ok _ _ _ (by omega)]
            walk_at "w"
            refine ⟨mput M3 name r.2.1 ((emb BackVT).1 (chain ++ [k], ds)), rfl, ⟨mput_ok o1.ok _ _ _, o1.lay.put hns hP (by have := G.short r hr; omega) (lay_backV (ks := chain ++ [k]) hds), fun r' hr' => ?_, fun r' hr' => ?_⟩, ?_⟩
            · rcases mput_mem hr' with hr' | rfl
              · exact o1.name r' hr'
              · exact hnm
            · rcases mput_mem hr' with hr' | rfl
              · exact o1.src r' hr'
              · refine ⟨r, hr, rfl, hs, ?_⟩
                rw [hh]
                exact hch.part
            · show (mput M3 name r.2.1 _).1.length ≤ _
              rw [List.length_append, List.length_singleton]
              omega
        · walk_at "w"
          exact skip
      · refine ⟨M3, rfl, hM3.1, ?_⟩
        have := hM3.2
        rw [enum_len] at this
        rw [List.length_append, List.length_singleton]
        omega
    · refine ⟨M2, rfl, hM2.1, ?_⟩
      have := hM2.2
      rw [List.length_append, List.length_singleton]
      omega
  · exact ⟨M, hM.1, by have := hM.2; omega, rfl⟩
def DueP (g : List RuleT) (f : Str) : Prop := ∃ r ∈ g, r.2.1 = [] ∧ (r.1 ≠ f ∨ ∃ r' ∈ g, f ∈ r'.2.1)
theorem due_not {g : List RuleT} {f : Str} (h : ¬ DueP g f) : ∀ r ∈ g, r.2.1 = [] → r.1 = f ∧ ∀ r' ∈ g, f ∉ r'.2.1 := fun r hr e =>
  ⟨Classical.byContradiction fun z => h ⟨r, hr, e, .inl z⟩, fun r' hr' z => h ⟨r, hr, e, .inr ⟨r', hr', z⟩⟩⟩
abbrev ToldR : Type := Str × Option (List RuleT × List PyData)
theorem no_single_x {g : List RuleT} (G : GK g) (hf : g.length ≤ 20) {r0 : RuleT} {t0 : List RuleT} (hg : g = r0 :: t0) (emp : ¬ DueP g r0.1) : Ok (m_no_single g) fun (x : ToldR) => ∃ M T s, NS g M ∧ M.1.length ≤ 8400 ∧ ToldP M r0.1 T ∧ x = (s, some (T.map (·.1), T.map (·.2))) := by
  have emp := due_not emp
  have h0 : atI g 0 = some r0 := atI_nat (j := 0) (by rw [hg]; rfl)
  rw [m_no_single_at]
  unfold b_no_single
  rw [Ok_endOf]
  refine Ok_step (fun Γ => Γ = (some g, some r0.1, none, none, none, none, none, none, none, none, ())) ?_ fun Γ hΓ => ?_
  · walk_at "w"
    rw [h0]
    walk_at "w"
    exact ⟨_, rfl, rfl⟩
  subst hΓ
  refine Ok_step (fun Γ => Γ = (some g, some r0.1, none, none, none, none, none, none, none, none, ())) ?_ fun Γ hΓ => ?_
  · rw [lp_no_single_1_eq]
    refine Ok_sFor g (fun _ : Unit => st_no_single_1 g r0.1) (fun _ _ => True) () (by walk_at "w") rfl trivial (fun pre r post _ he _ => ?_) fun _ _ => ⟨_, rfl, rfl⟩
    have hr := mem_split he
    have hemp := emp r hr
    obtain ⟨n, ps, c⟩ := r
    dsimp only at hemp
    unfold lb_no_single_1
    walk_at "w"
    by_cases hp : ps = []
    · obtain ⟨e1, e2⟩ := hemp hp
      have e1 : n = r0.1 := e1
      subst hp
      rw [fEqD_same (t := .vtup .str) rfl]
      walk_at "w"
      refine Wif_ndec (fun z => absurd e1 z) fun _ => ?_
      walk_at "w"
      rw [lc_no_single_1_eq]
      refine Ok_eLcM (xs := g) (fun r : RuleT => decide (r0.1 ∈ r.2.1)) (by walk_at "w") (by omega) (fun x hx => ?_) ?_
      · walk_at "w"
        rw [fInD_eq (t := .str) rfl]
        walk_at "w"
        exact decide_eq_decide.mpr Iff.rfl
      · walk_at "w"
        refine Wif_of (fun hany => ?_) fun _ => ?_
        · obtain ⟨b, hb, e⟩ := List.any_eq_true.mp hany
          obtain ⟨x, hx, rfl⟩ := List.mem_map.mp hb
          exact absurd (of_decide_eq_true e) (e2 x hx)
        · walk_at "w"
          exact ⟨(), rfl, trivial⟩
    · rw [fEqD_ne (t := .vtup .str) rfl hp]
      walk_at "w"
      exact ⟨(), rfl, trivial⟩
  subst hΓ
  refine Ok_step (fun Γ => Γ = (some g, some r0.1, none, none, none, none, some (([], [], []) : MkV), none, none, none, ())) ?_ fun Γ hΓ => ?_
  · walk_at "w"
    unfold eMk
    walk_at "w"
    exact ⟨_, rfl, rfl⟩
  refine Ok_step (fun Γ => ∃ M, NS g M ∧ M.1.length ≤ 8400 ∧ Γ = st_no_single_2 g r0.1 M) ?_ fun Γ hΓ => ?_
  · refine (ns_loop G hf r0.1 hΓ).mono fun f hf => ?_
    obtain ⟨M, m1, m2, rfl⟩ := hf
    exact ⟨_, rfl, M, m1, m2, rfl⟩
  obtain ⟨M, m1, m2, rfl⟩ := hΓ
  walk_at "w"
  refine (told_ok m1.ok m1.lay r0.1 (by omega)).mono fun x hx => ?_
  obtain ⟨rfl, T, hT, e⟩ := hx
  exact ⟨x.2, T, _, m1, m2, hT, by rw [← e]⟩
theorem no_single_due {g : List RuleT} (G : GK g) {r0 : RuleT} {t0 : List RuleT} (hg : g = r0 :: t0) (due : DueP g r0.1) : Ok (m_no_single g) fun (x : ToldR) => x = (Str.ofString "NoGrammar", none) := by
  have hf := G.few
  have h0 : atI g 0 = some r0 := atI_nat (j := 0) (by rw [hg]; rfl)
  rw [m_no_single_at]
  unfold b_no_single
  rw [Ok_endOf]
  refine Ok_step (fun Γ => Γ = (some g, some r0.1, none, none, none, none, none, none, none, none, ())) ?_ fun Γ hΓ => ?_
  · walk_at "w"
    rw [h0]
    walk_at "w"
    exact ⟨_, rfl, rfl⟩
  subst hΓ
  walk_at "w"
  rw [lp_no_single_1_eq]
  refine Ok_sFor g (fun _ : Unit => st_no_single_1 g r0.1) (fun pre _ => ∀ r ∈ pre, ¬ (r.2.1 = [] ∧ (r.1 ≠ r0.1 ∨ ∃ r' ∈ g, r0.1 ∈ r'.2.1))) () (by walk_at "w") rfl (fun r hr => by cases hr) (fun pre r post _ he hI => ?_) fun _ hI => ?_
  · have hr := mem_split he
    have next : ¬ (r.2.1 = [] ∧ (r.1 ≠ r0.1 ∨ ∃ r' ∈ g, r0.1 ∈ r'.2.1)) → ∃ s' : Unit, st_no_single_1 g r0.1 = st_no_single_1 g r0.1 ∧ ∀ r1 ∈ pre ++ [r], ¬ (r1.2.1 = [] ∧ (r1.1 ≠ r0.1 ∨ ∃ r' ∈ g, r0.1 ∈ r'.2.1)) := fun z => ⟨(), rfl, fun r1 h1 => by
      rcases List.mem_append.mp h1 with h1 | h1
      · exact hI r1 h1
      · rw [List.mem_singleton] at h1
        rw [h1]
        exact z⟩
    obtain ⟨n, ps, c⟩ := r
    unfold lb_no_single_1
    walk_at "w"
    by_cases hp : ps = []
    · subst hp
      rw [fEqD_same (t := .vtup .str) rfl]
      walk_at "w"
      refine Wif_ndec (fun z => ?_) fun e1 => ?_
      · walk_at "w"
      · walk_at "w"
        rw [lc_no_single_1_eq]
        refine Ok_eLcM (xs := g) (fun r : RuleT => decide (r0.1 ∈ r.2.1)) (by walk_at "w") (by omega) (fun x hx => ?_) ?_
        · walk_at "w"
          rw [fInD_eq (t := .str) rfl]
          walk_at "w"
          exact decide_eq_decide.mpr Iff.rfl
        · walk_at "w"
          refine Wif_of (fun hany => ?_) fun hno => ?_
          · walk_at "w"
          · walk_at "w"
            refine next fun z => ?_
            rcases z.2 with z | ⟨r', hr', z⟩
            · exact z e1
            · have := List.any_eq_false.mp hno _ (List.mem_map.mpr ⟨r', hr', rfl⟩)
              exact this (decide_eq_true z)
    · rw [fEqD_ne (t := .vtup .str) rfl hp]
      walk_at "w"
      exact next fun z => hp z.1
  · obtain ⟨r, hr, h1, h2⟩ := due
    exact absurd ⟨h1, h2⟩ (hI r hr)
abbrev zoeS : Str := Str.ofString "zoe"
theorem zoe_head : HeadIn smallS zoeS := by
  refine ⟨122, [111, 101], by decide +kernel, by decide +kernel⟩
theorem zoe_part : PartH zoeS ∧ PyData.strOk zoeS = true ∧ (∀ l : List Str, HeadIn greatS zoeS → zoeS ∈ l) := ⟨⟨.inr zoe_head, by decide +kernel⟩, by decide +kernel, fun l z => (not_great_small z zoe_head).elim⟩
theorem GK.mapped {g R : List RuleT} (G : GK g) (hn : R.map (·.1) = g.map (·.1)) (hp : ∀ r ∈ R, (r.2.1 ≠ [] ∧ r.2.1.length ≤ 8 ∧ ∀ p ∈ r.2.1, PartH p ∧ PyData.strOk p = true ∧ (HeadIn greatS p → p ∈ g.map (·.1))) ∧ 0 ≤ r.2.2) : GK R := by
  have hl : R.length = g.length := by
    have := congrArg List.length hn
    rwa [List.length_map, List.length_map] at this
  refine ⟨fun z => G.ne (List.eq_nil_of_length_eq_zero (by rw [← hl, z]; rfl)), by rw [hl]; exact G.few, fun r hr => ?_, fun r hr p hpp => ?_, fun r hr => (hp r hr).1.2.1, fun r hr => (hp r hr).2⟩
  · have : r.1 ∈ g.map (·.1) := hn ▸ List.mem_map.mpr ⟨r, hr, rfl⟩
    obtain ⟨r', hr', e⟩ := List.mem_map.mp this
    have e : r'.1 = r.1 := e
    rw [← e]
    exact G.name r' hr'
  · rw [hn]
    exact (hp r hr).1.2.2 p hpp
theorem ne_nil (F : List RuleT) : ∃ b, fNeD (Ty.list (Ty.tup (Ty.cons Ty.str (Ty.cons (Ty.vtup Ty.str) (Ty.last Ty.int))))) F [] = some b ∧ (F ≠ [] → b = true) := by
  cases F with
  | nil => exact ⟨false, rfl, fun z => absurd rfl z⟩
  | cons r l => exact ⟨true, fNeD_ne (t := .list (Ty.tup (Ty.cons Ty.str (Ty.cons (Ty.vtup Ty.str) (Ty.last Ty.int))))) rfl (by simp), fun _ => rfl⟩
theorem refused0 {g : List RuleT} (G : GK g) (hf : g.length ≤ 20) {r0 : RuleT} {t0 : List RuleT} (hg : g = r0 :: t0) {b : Bool} (hb : b = true ↔ DueP g r0.1) : Ok (m__law_refused (g, 0)) (· = b) := by
  rw [m__law_refused_at]
  unfold b__law_refused
  walk_at "w"
  by_cases due : DueP g r0.1
  · have hb := hb.mpr due
    subst hb
    refine (no_single_due G hg due).mono fun x hx => ?_
    subst hx
    walk_at "w"
  · have hb : b = false := by
      cases b with
      | false => rfl
      | true => exact absurd (hb.mp rfl) due
    subst hb
    refine (no_single_x G hf hg due).mono fun x hx => ?_
    obtain ⟨M, T, s, _, _, _, rfl⟩ := hx
    walk_at "w"
theorem refused1 {g : List RuleT} (G : GK g) : Ok (m__law_refused (g, 1)) (· = false) := by
  rw [m__law_refused_at]
  unfold b__law_refused
  walk_at "w"
  refine Wif_dec (fun z => absurd z (by show ¬ (1 : Int) = 0; decide)) fun _ => ?_
  walk_at "w"
  refine (no_empty_ok G).mono fun x hx => ?_
  walk_at "w"
theorem refused2 {g : List RuleT} (G : GK g) {r0 : RuleT} {t0 : List RuleT} (hg : g = r0 :: t0) : Ok (m__law_refused (g, 2)) (· = false) := by
  rw [m__law_refused_at]
  unfold b__law_refused
  walk_at "w"
  refine Wif_dec (fun z => absurd z (by show ¬ (2 : Int) = 0; decide)) fun _ => ?_
  walk_at "w"
  refine Wif_dec (fun z => absurd z (by show ¬ (2 : Int) = 1; decide)) fun _ => ?_
  walk_at "w"
  refine (twos_ok G hg).mono fun x hx => ?_
  walk_at "w"
theorem due_ok {g : List RuleT} (hf : g.length ≤ 1000) {r0 : RuleT} {t0 : List RuleT} (hg : g = r0 :: t0) {b0 : Bool} (hb0 : b0 = true ↔ DueP g r0.1) : Ok (m__law_due g) (· = b0) := by
  have yes : DueP g r0.1 → true = b0 := fun z => (hb0.mpr z).symm
  have no : ¬ DueP g r0.1 → false = b0 := fun z => by
    cases b0 with
    | false => rfl
    | true => exact absurd (hb0.mp rfl) z
  have h0 : atI g 0 = some r0 := atI_nat (j := 0) (by rw [hg]; rfl)
  obtain ⟨F, hF⟩ : ∃ F, F = g.filter (fun r : RuleT => decide (r0.1 ∈ r.2.1)) := ⟨_, rfl⟩
  have hFm : F ≠ [] ↔ ∃ r' ∈ g, r0.1 ∈ r'.2.1 := by
    rw [hF]
    constructor
    · intro h
      obtain ⟨r, l, e⟩ := List.exists_cons_of_ne_nil h
      have : r ∈ g.filter (fun r : RuleT => decide (r0.1 ∈ r.2.1)) := by rw [e]; exact List.mem_cons_self
      obtain ⟨q1, q2⟩ := List.mem_filter.mp this
      exact ⟨r, q1, of_decide_eq_true q2⟩
    · rintro ⟨r, q1, q2⟩ z
      exact List.filter_eq_nil_iff.mp z r q1 (decide_eq_true q2)
  obtain ⟨b, e1, k1⟩ := ne_nil F
  have k2 : b = true → F ≠ [] := fun z e => by
    rw [e] at e1
    have : fNeD (Ty.list (Ty.tup (Ty.cons Ty.str (Ty.cons (Ty.vtup Ty.str) (Ty.last Ty.int))))) ([] : List RuleT) [] = some false := rfl
    rw [this] at e1
    cases e1
    cases z
  rw [m__law_due_at]
  unfold b__law_due
  walk_at "w"
  rw [h0]
  walk_at "w"
  rw [lp__law_due_1_eq]
  refine Ok_sFor g (fun _ : Unit => st__law_due_1 g r0.1) (fun pre _ => ∀ r ∈ pre, ¬ (r.2.1 = [] ∧ (r.1 ≠ r0.1 ∨ ∃ r' ∈ g, r0.1 ∈ r'.2.1))) () (by walk_at "w") rfl (fun r hr => by cases hr) (fun pre r post _ he hI => ?_) fun _ hI => ?_
  · have hr := mem_split he
    have next : ¬ (r.2.1 = [] ∧ (r.1 ≠ r0.1 ∨ ∃ r' ∈ g, r0.1 ∈ r'.2.1)) → ∃ s' : Unit, st__law_due_1 g r0.1 = st__law_due_1 g r0.1 ∧ ∀ r1 ∈ pre ++ [r], ¬ (r1.2.1 = [] ∧ (r1.1 ≠ r0.1 ∨ ∃ r' ∈ g, r0.1 ∈ r'.2.1)) := fun z => ⟨(), rfl, fun r1 h1 => by
      rcases List.mem_append.mp h1 with h1 | h1
      · exact hI r1 h1
      · rw [List.mem_singleton] at h1
        rw [h1]
        exact z⟩
    obtain ⟨n, ps, c⟩ := r
    unfold lb__law_due_1
    walk_at "w"
    rw [lc__law_due_1_eq]
    refine Ok_eLc (xs := g) (fun r : RuleT => decide (r0.1 ∈ r.2.1)) (fun r => r) (by walk_at "w") (by omega) (fun x hx => ?_) (fun x hx _ => by walk_at "w") ?_
    · walk_at "w"
      rw [fInD_eq (t := .str) rfl]
      walk_at "w"
      exact decide_eq_decide.mpr Iff.rfl
    walk_at "w"
    rw [List.map_id', ← hF]
    by_cases hp : ps = []
    · subst hp
      rw [fEqD_same (t := .vtup .str) rfl]
      walk_at "w"
      refine Wif_ndec (fun z => ?_) fun e1' => ?_
      · walk_at "w"
        exact yes ⟨_, hr, rfl, .inl z⟩
      · walk_at "w"
        rw [e1]
        walk_at "w"
        cases hb : b with
        | true =>
          walk_at "w"
          exact yes ⟨_, hr, rfl, .inr (hFm.mp (k2 hb))⟩
        | false =>
          walk_at "w"
          refine next fun z => ?_
          rcases z.2 with z | z
          · exact z e1'
          · have := k1 (hFm.mpr z)
            rw [this] at hb
            cases hb
    · rw [fEqD_ne (t := .vtup .str) rfl hp]
      walk_at "w"
      exact next fun z => hp z.1
  · walk_at "w"
    refine no ?_
    rintro ⟨r, hr, h1, h2⟩
    exact hI r hr ⟨h1, h2⟩
theorem told_ne {M : MkV} {h : Str} {T : List PairR} (t : ToldP M h T) : T.map (·.1) ≠ [] := by
  obtain ⟨q, t', e, _⟩ := t.head
  rw [e]
  simp
theorem law_true (script : List Int) (h : script.length ≤ 63) : m_law script = some true := by
  suffices Ok (m_law script) (· = true) from this.eq
  have hcell : m__law_cell_at (script, 0) = some (script.getD 0 0) := cell_at_ok script 0
  obtain ⟨ds, hd, hb⟩ := drawn_ok (script.getD 0 0) [4] (by
    intro s hs
    simp only [List.mem_cons, List.not_mem_nil, or_false] at hs
    subst hs
    exact ⟨by decide, by decide +kernel⟩) (by decide)
  obtain ⟨d0, r, rfl, ⟨a0, a1⟩, hb⟩ := Below.cons hb
  obtain rfl := Below.nil hb
  obtain ⟨many, hmany⟩ : ∃ n : Nat, (n : Int) = 1 + d0 := ⟨(1 + d0).toNat, Int.toNat_of_nonneg (by omega)⟩
  have hcl : (cutD script (some 1) (some 14)).length ≤ 13 := cut_few script 1 14 (by decide)
  obtain ⟨heads, words, rules, hr, hhl, hwl, hho, hwo, k1, k2, k3⟩ := rules_ok (cutD script (some 1) (some 14)) many 4 (by omega) (by omega) (by omega) (by decide)
  have hne : rules ≠ [] := fun e => by
    cases heads with
    | nil => simp at hhl; omega
    | cons x xs =>
      have := k2 x List.mem_cons_self
      rw [e] at this
      simp at this
  have G : GK rules := gk_of hho hwo k1 k2 hne (by omega)
  rw [hmany] at hr
  have hr : m__law_rules (cutD script (some 1) (some 14), 1 + d0, 4) = some rules := hr
  have i0 : atI [d0] 0 = some d0 := atI_nat (j := 0) rfl
  have hrl : rules.length ≤ 17 := by omega
  rw [m_law_at]
  unfold b_law
  rw [Ok_endOf]
  refine Ok_step (· = (some script, some rules, none, none, none, none, none, none, ())) ?_ fun Γ hΓ => ?_
  · walk_at "w"
    rw [hcell]
    walk_at "w"
    rw [hd]
    walk_at "w"
    rw [i0]
    walk_at "w"
    rw [hr]
    walk_at "w"
    exact ⟨_, rfl, rfl⟩
  subst hΓ
  refine Ok_step (· = (some script, some rules, some [], none, none, none, none, none, ())) ?_ fun Γ hΓ => ?_
  · walk_at "w"
    exact ⟨_, rfl, rfl⟩
  subst hΓ
  refine Ok_step (fun Γ => ∃ L, GK L ∧ L.length ≤ 17 ∧ (∀ r ∈ L, r.2.1 ≠ []) ∧ Γ = st_law_1 rules L) ?_ fun Γ hΓ => ?_
  · rw [lp_law_1_eq]
    refine Ok_sFor rules (fun R : List RuleT => st_law_1 rules R) (fun pre R => R.map (·.1) = pre.map (·.1) ∧ ∀ r ∈ R, (r.2.1 ≠ [] ∧ r.2.1.length ≤ 8 ∧ ∀ p ∈ r.2.1, PartH p ∧ PyData.strOk p = true ∧ (HeadIn greatS p → p ∈ rules.map (·.1))) ∧ 0 ≤ r.2.2) [] (by walk_at "w") rfl ⟨rfl, fun r hr => by cases hr⟩ (fun pre r post R he hR => ?_) fun R hR => ?_
    · obtain ⟨e1, e2⟩ := hR
      have hro := mem_split he
      have hRl : R.length ≤ 17 := by
        have q1 := congrArg List.length e1
        have q2 := congrArg List.length he
        rw [List.length_map, List.length_map] at q1
        rw [List.length_append, List.length_cons] at q2
        omega
      have hG := G.parts r hro
      have hG2 := G.short r hro
      have hG3 := G.cost r hro
      obtain ⟨n, ps, c⟩ := r
      dsimp only at hG hG2 hG3
      have fin : ∀ ps' : List Str, (ps' ≠ [] ∧ ps'.length ≤ 8 ∧ ∀ p ∈ ps', PartH p ∧ PyData.strOk p = true ∧ (HeadIn greatS p → p ∈ rules.map (·.1))) → (R ++ [((n, ps', c) : RuleT)]).map (·.1) = (pre ++ [((n, ps, c) : RuleT)]).map (·.1) ∧ ∀ r ∈ R ++ [((n, ps', c) : RuleT)], (r.2.1 ≠ [] ∧ r.2.1.length ≤ 8 ∧ ∀ p ∈ r.2.1, PartH p ∧ PyData.strOk p = true ∧ (HeadIn greatS p → p ∈ rules.map (·.1))) ∧ 0 ≤ r.2.2 := fun ps' h => by
        refine ⟨by rw [List.map_append, List.map_append, e1]; rfl, fun r hr => ?_⟩
        rcases List.mem_append.mp hr with hr | hr
        · exact e2 r hr
        · rw [List.mem_singleton] at hr
          rw [hr]
          exact ⟨h, hG3⟩
      unfold lb_law_1
      walk_at "w"
      by_cases hp : ps = []
      · subst hp
        rw [fEqD_same (t := .vtup .str) rfl]
        walk_at "w"
        exact ⟨lt_line (by omega), _, rfl, fin [zoeS] ⟨by simp, by show 1 ≤ 8; decide, fun p hp => by
          rw [List.mem_singleton] at hp
          rw [hp]
          exact ⟨zoe_part.1, zoe_part.2.1, zoe_part.2.2 _⟩⟩⟩
      · rw [fEqD_ne (t := .vtup .str) rfl hp]
        walk_at "w"
        exact ⟨lt_line (by omega), _, rfl, fin ps ⟨hp, hG2, hG⟩⟩
    · obtain ⟨e1, e2⟩ := hR
      have q1 := congrArg List.length e1
      rw [List.length_map, List.length_map] at q1
      exact ⟨_, rfl, R, G.mapped e1 e2, by omega, fun r hr => (e2 r hr).1.1, rfl⟩
  obtain ⟨L, GL, hL, hLn, rfl⟩ := hΓ
  have first : ∀ {g : List RuleT}, GK g → ∃ r t, g = r :: t := fun {g} G => by
    cases g with
    | nil => exact absurd rfl G.ne
    | cons r t => exact ⟨r, t, rfl⟩
  obtain ⟨l0, lt, eL⟩ := first GL
  have nodue : ¬ DueP L l0.1 := fun ⟨r, hr, z, _⟩ => hLn r hr z
  walk_at "w"
  rw [lp_law_2_eq]
  refine Ok_sFor [rules, L] (fun _ : Unit => st_law_2 L) (fun _ _ => True) () (by walk_at "w") rfl trivial (fun pre g post _ he _ => ?_) fun _ _ => ?_
  · have hg : g ∈ [rules, L] := mem_split he
    obtain ⟨Gg, hgl⟩ : GK g ∧ g.length ≤ 20 := by
      simp only [List.mem_cons, List.not_mem_nil, or_false] at hg
      rcases hg with rfl | rfl
      · exact ⟨G, by omega⟩
      · exact ⟨GL, by omega⟩
    obtain ⟨g0, gt, eg⟩ := first Gg
    unfold lb_law_2
    walk_at "w"
    rw [Gg.gram]
    walk_at "w"
    obtain ⟨b, hb⟩ : ∃ b : Bool, b = true ↔ DueP g g0.1 := by
      by_cases due : DueP g g0.1
      · exact ⟨true, fun _ => due, fun _ => rfl⟩
      · exact ⟨false, fun z => (by cases z), fun z => absurd z due⟩
    rw [(refused0 Gg hgl eg hb).eq]
    walk_at "w"
    rw [(due_ok (by omega) eg hb).eq]
    walk_at "w"
    rw [(refused1 Gg).eq]
    walk_at "w"
    rw [(refused2 Gg eg).eq]
    walk_at "w"
    rw [fNeD_same (t := .list (Ty.tup (Ty.cons Ty.str (Ty.cons (Ty.vtup Ty.str) (Ty.last Ty.int))))) rfl]
    walk_at "w"
    refine (no_empty_ok Gg).mono fun x hx => ?_
    obtain ⟨h, M, T, _, t, rfl⟩ := hx
    walk_at "w"
    rw [fEqD_ne (t := .list (Ty.tup (Ty.cons Ty.str (Ty.cons (Ty.vtup Ty.str) (Ty.last Ty.int))))) rfl (told_ne t)]
    walk_at "w"
    refine (twos_ok Gg eg).mono fun x hx => ?_
    obtain ⟨M, T, _, _, t, rfl⟩ := hx
    walk_at "w"
    rw [fEqD_ne (t := .list (Ty.tup (Ty.cons Ty.str (Ty.cons (Ty.vtup Ty.str) (Ty.last Ty.int))))) rfl (told_ne t)]
    walk_at "w"
    exact ⟨(), rfl, trivial⟩
  · walk_at "w"
    rw [GL.gram]
    walk_at "w"
    refine (no_single_x GL (by omega) eL nodue).mono fun x hx => ?_
    obtain ⟨M, T, s, _, _, t, rfl⟩ := hx
    have hp := List.length_pos_iff.mpr (told_ne t)
    generalize T.map (·.1) = R at hp
    refine ⟨_, rfl, ?_⟩
    walk_at "w"
    show decide ((0 : Int) < (R.length : Int)) = true
    exact decide_eq_true (by omega)
end Law
open PySem PySem.W PyProof.Rows
set_option maxRecDepth 100000 in
set_option maxHeartbeats 0 in
theorem PySem.Challenge.cw_readgrove_k62_refused_with_empty_rules_holds : PySem.Challenge.rw_readgrove_k62_refused_with_empty_rules.Holds := by
  w_on; o_law; k_head; (case hw => w_witness2)
  k_fill
  refine Law.walk (l := PySem.Challenge.rw_readgrove_k62_refused_with_empty_rules) Law.law_true rfl rfl (fun w h Y => PySem.W.kIn_of Y) ?F
  case F =>
    intro w mg fa h KX G hmg
    refine' Law.all_mk KX G hmg ?kC ?k_pg ?k_hd ?k_po ?k_sa ?k_mk ?k_kc ?k_n1 ?k_n2 ?k_n3 ?a0 ?l0 ?c0 ?k0 ?a1 ?l1 ?c1 ?k1 ?a2 ?l2 ?c2 ?k2 ?a3 ?l3 ?c3 ?k3 ?a4 ?l4 ?c4 ?k4 ?a5 ?l5 ?c5 ?k5 ?a6 ?l6 ?c6 ?k6 ?a7 ?l7 ?c7 ?k7 ?a8 ?l8 ?c8 ?k8 ?a9 ?i9 ?l9 ?c9 ?k9 ?a10 ?i10 ?l10 ?c10 ?k10 ?a11 ?l11 ?c11 ?k11 ?a12 ?l12 ?c12 ?k12 ?a13 ?i13 ?l13 ?c13 ?k13 ?a14 ?l14 ?c14 ?k14 ?a15 ?l15 ?c15 ?k15 ?a16 ?l16 ?c16 ?k16 ?a17 ?l17 ?c17 ?k17 ?a18 ?l18 ?c18 ?k18 ?a19 ?l19 ?c19 ?k19 ?a20 ?l20 ?c20 ?k20 ?a21 ?l21 ?c21 ?k21 ?a22 ?l22 ?c22 ?k22 ?a23 ?l23 ?c23 ?k23 ?b_ValueError ?b_all ?b_any ?b_enumerate ?b_isinstance ?b_len ?b_list ?b_range ?b_str ?b_tuple ?b_zip ?c_GREAT ?ea_Endless ?ek_Endless ?ex_Endless ?et_Endless ?eg_Endless ?eh_Endless ?es_Endless ?ed_Endless ?el_Endless ?em_Endless ?ea_GroveError ?ek_GroveError ?ex_GroveError ?et_GroveError ?eg_GroveError ?eh_GroveError ?es_GroveError ?ed_GroveError ?el_GroveError ?em_GroveError ?ea_NoGrammar ?ek_NoGrammar ?ex_NoGrammar ?et_NoGrammar ?eg_NoGrammar ?eh_NoGrammar ?es_NoGrammar ?ed_NoGrammar ?el_NoGrammar ?em_NoGrammar ?ea_NoOrder ?ek_NoOrder ?ex_NoOrder ?et_NoOrder ?eg_NoOrder ?eh_NoOrder ?es_NoOrder ?ed_NoOrder ?el_NoOrder ?em_NoOrder ?ea_NoReading ?ek_NoReading ?ex_NoReading ?et_NoReading ?eg_NoReading ?eh_NoReading ?es_NoReading ?ed_NoReading ?el_NoReading ?em_NoReading ?ea_NoText ?ek_NoText ?ex_NoText ?et_NoText ?eg_NoText ?eh_NoText ?es_NoText ?ed_NoText ?el_NoText ?em_NoText ?ea_TooMany ?ek_TooMany ?ex_TooMany ?et_TooMany ?eg_TooMany ?eh_TooMany ?es_TooMany ?ed_TooMany ?el_TooMany ?em_TooMany ?eo_spec ?eo_take ?i_NoGrammar_Endless ?q_NoGrammar_Endless ?i_NoGrammar_GroveError ?i_NoGrammar_NoGrammar ?i_NoGrammar_NoOrder ?q_NoGrammar_NoOrder ?i_NoGrammar_NoReading ?q_NoGrammar_NoReading ?i_NoGrammar_NoText ?q_NoGrammar_NoText ?i_NoGrammar_TooMany ?q_NoGrammar_TooMany ?j_NoGrammar_ValueError ?n_GroveError
    (case kC => k_is)
    (case k_pg => k_is)
    (case k_hd => k_is)
    (case k_po => k_is)
    (case k_sa => k_is)
    (case k_mk => k_is)
    (case k_kc => k_is)
    (case k_n1 => k_is)
    (case k_n2 => k_is)
    (case k_n3 => k_is)
    (case a0 => k_is)
    (case l0 => k_is)
    (case c0 => k_is)
    (case k0 => k_is)
    (case a1 => k_is)
    (case l1 => k_is)
    (case c1 => k_is)
    (case k1 => k_is)
    (case a2 => k_is)
    (case l2 => k_is)
    (case c2 => k_is)
    (case k2 => k_is)
    (case a3 => k_is)
    (case l3 => k_is)
    (case c3 => k_is)
    (case k3 => k_is)
    (case a4 => k_is)
    (case l4 => k_is)
    (case c4 => k_is)
    (case k4 => k_is)
    (case a5 => k_is)
    (case l5 => k_is)
    (case c5 => k_is)
    (case k5 => k_is)
    (case a6 => k_is)
    (case l6 => k_is)
    (case c6 => k_is)
    (case k6 => k_is)
    (case a7 => k_is)
    (case l7 => k_is)
    (case c7 => k_is)
    (case k7 => k_is)
    (case a8 => k_is)
    (case l8 => k_is)
    (case c8 => k_is)
    (case k8 => k_is)
    (case a9 => k_is)
    (case i9 => k_is)
    (case l9 => k_is)
    (case c9 => k_is)
    (case k9 => k_is)
    (case a10 => k_is)
    (case i10 => k_is)
    (case l10 => k_is)
    (case c10 => k_is)
    (case k10 => k_is)
    (case a11 => k_is)
    (case l11 => k_is)
    (case c11 => k_is)
    (case k11 => k_is)
    (case a12 => k_is)
    (case l12 => k_is)
    (case c12 => k_is)
    (case k12 => k_is)
    (case a13 => k_is)
    (case i13 => k_is)
    (case l13 => k_is)
    (case c13 => k_is)
    (case k13 => k_is)
    (case a14 => k_is)
    (case l14 => k_is)
    (case c14 => k_is)
    (case k14 => k_is)
    (case a15 => k_is)
    (case l15 => k_is)
    (case c15 => k_is)
    (case k15 => k_is)
    (case a16 => k_is)
    (case l16 => k_is)
    (case c16 => k_is)
    (case k16 => k_is)
    (case a17 => k_is)
    (case l17 => k_is)
    (case c17 => k_is)
    (case k17 => k_is)
    (case a18 => k_is)
    (case l18 => k_is)
    (case c18 => k_is)
    (case k18 => k_is)
    (case a19 => k_is)
    (case l19 => k_is)
    (case c19 => k_is)
    (case k19 => k_is)
    (case a20 => k_is)
    (case l20 => k_is)
    (case c20 => k_is)
    (case k20 => k_is)
    (case a21 => k_is)
    (case l21 => k_is)
    (case c21 => k_is)
    (case k21 => k_is)
    (case a22 => k_is)
    (case l22 => k_is)
    (case c22 => k_is)
    (case k22 => k_is)
    (case a23 => k_is)
    (case l23 => k_is)
    (case c23 => k_is)
    (case k23 => k_is)
    (case b_ValueError => k_is)
    (case b_all => k_is)
    (case b_any => k_is)
    (case b_enumerate => k_is)
    (case b_isinstance => k_is)
    (case b_len => k_is)
    (case b_list => k_is)
    (case b_range => k_is)
    (case b_str => k_is)
    (case b_tuple => k_is)
    (case b_zip => k_is)
    (case c_GREAT => k_is)
    (case ea_Endless => k_is)
    (case ek_Endless => k_is)
    (case ex_Endless => k_exc)
    (case et_Endless => k_is)
    (case eg_Endless => k_is)
    (case eh_Endless => k_is)
    (case es_Endless => k_is)
    (case ed_Endless => k_is)
    (case el_Endless => k_is)
    (case em_Endless => k_is)
    (case ea_GroveError => k_is)
    (case ek_GroveError => k_is)
    (case ex_GroveError => k_exc)
    (case et_GroveError => k_is)
    (case eg_GroveError => k_is)
    (case eh_GroveError => k_is)
    (case es_GroveError => k_is)
    (case ed_GroveError => k_is)
    (case el_GroveError => k_is)
    (case em_GroveError => k_is)
    (case ea_NoGrammar => k_is)
    (case ek_NoGrammar => k_is)
    (case ex_NoGrammar => k_exc)
    (case et_NoGrammar => k_is)
    (case eg_NoGrammar => k_is)
    (case eh_NoGrammar => k_is)
    (case es_NoGrammar => k_is)
    (case ed_NoGrammar => k_is)
    (case el_NoGrammar => k_is)
    (case em_NoGrammar => k_is)
    (case ea_NoOrder => k_is)
    (case ek_NoOrder => k_is)
    (case ex_NoOrder => k_exc)
    (case et_NoOrder => k_is)
    (case eg_NoOrder => k_is)
    (case eh_NoOrder => k_is)
    (case es_NoOrder => k_is)
    (case ed_NoOrder => k_is)
    (case el_NoOrder => k_is)
    (case em_NoOrder => k_is)
    (case ea_NoReading => k_is)
    (case ek_NoReading => k_is)
    (case ex_NoReading => k_exc)
    (case et_NoReading => k_is)
    (case eg_NoReading => k_is)
    (case eh_NoReading => k_is)
    (case es_NoReading => k_is)
    (case ed_NoReading => k_is)
    (case el_NoReading => k_is)
    (case em_NoReading => k_is)
    (case ea_NoText => k_is)
    (case ek_NoText => k_is)
    (case ex_NoText => k_exc)
    (case et_NoText => k_is)
    (case eg_NoText => k_is)
    (case eh_NoText => k_is)
    (case es_NoText => k_is)
    (case ed_NoText => k_is)
    (case el_NoText => k_is)
    (case em_NoText => k_is)
    (case ea_TooMany => k_is)
    (case ek_TooMany => k_is)
    (case ex_TooMany => k_exc)
    (case et_TooMany => k_is)
    (case eg_TooMany => k_is)
    (case eh_TooMany => k_is)
    (case es_TooMany => k_is)
    (case ed_TooMany => k_is)
    (case el_TooMany => k_is)
    (case em_TooMany => k_is)
    (case eo_spec => k_is)
    (case eo_take => k_is)
    (case i_NoGrammar_Endless => k_is)
    (case q_NoGrammar_Endless => decide)
    (case i_NoGrammar_GroveError => k_is)
    (case i_NoGrammar_NoGrammar => k_is)
    (case i_NoGrammar_NoOrder => k_is)
    (case q_NoGrammar_NoOrder => decide)
    (case i_NoGrammar_NoReading => k_is)
    (case q_NoGrammar_NoReading => decide)
    (case i_NoGrammar_NoText => k_is)
    (case q_NoGrammar_NoText => decide)
    (case i_NoGrammar_TooMany => k_is)
    (case q_NoGrammar_TooMany => decide)
    (case j_NoGrammar_ValueError => k_is)
    (case n_GroveError => k_is)
